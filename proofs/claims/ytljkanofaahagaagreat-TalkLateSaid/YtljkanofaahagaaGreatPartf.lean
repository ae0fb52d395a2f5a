/- Proved in the last of these 15 parts (this is part 6): TalkLate. Conditions: those of the given statement, and no others. -/
import Derived.Test.YtljkanofaahagaaGreatPartd
import Derived.Test.YtljkanofaahagaaGreatParte
import Derived.Test.YtljkanofaahagaaGreatProg
set_option linter.unusedVariables false
set_option linter.unusedSimpArgs false
set_option linter.unusedSectionVars false
open Option renaming bind → zC, none → zH
open Int renaming ofNat → zF, toNat → zI
open List renaming length → zG
open Go.Value renaming slice → zK
noncomputable section
open Go Go.Proofs Ev Sx
set_option maxRecDepth 100000
namespace Go.Proofs.Lx
abbrev qa_:Type:=YTT3×Int×Int×List (Int×List Int)×Int×Int×Int×Int×Int
abbrev TaA2q1:Type:=Int×Int×YTT4×List Bool
@[reducible] def qj6_:Sh:=⟨[.d aJ],[],aI,[.d (.int .u32)],[],0,[.int .u32]⟩
def qtg_:Env:=(cts [(298,(⟨qms_,q121_⟩:Ct))])
def qu7_:List (Nat×Hint):=[(7,⟨[],[3]⟩),(58,⟨[],[0,3,6,7]⟩)]
def qnt_ (b:List Int) (sum t6 t7:Int):St:=⟨[(0,dL b),(3,d2 sum),(6,dI t6),(7,dI t7)],19,[],[],0,[],0⟩
def qxj_ (sum:Int):St:=⟨[(3,d2 sum)],19,[],[],0,[],0⟩
def qbk_ (j2:Int->Option aQ) (self1:List Int->Int->Int->Int->Option aQ) (b:List Int) (sum t6 t7:Int):Option aQ :=
 if lt t7 t6=true then zC (at? b t7) fun y=>zC (q121_ (sum,y,())) fun y=>self1 b y.1 t6 (add .i64 t7 1) else j2 sum
def qo8_ (sum:Int):Option aQ :=
 some (zF (BitVec.toNat { toFin:=⟨4294967295 ^^^ BitVec.toNat { toFin:=⟨zI (sum % 4294967296),BitVec.ofInt._proof_1 (Go.IntKind.bits .u32) sum⟩ },BitVec.xor._proof_1 (BitVec.ofInt (Go.IntKind.bits .u32) (if Go.IntKind.signed .u32=true then -1 else Go.IntKind.max .u32)) (BitVec.ofInt (Go.IntKind.bits .u32) sum)⟩ } % 4294967296),())
def q16t_ (j1:List Int->Int->Int->Int->Option aQ) (b:List Int):Option aQ :=
 j1 b 4294967295 (zF (zG b)) 0
def q15u_:=qo8_
def qgc_ (b:List Int) (sum t6 t7:Int):Option aQ :=
 loopF (fun self s=>qbk_ (q15u_) (fun b sum t6 t7=>self (b,sum,t6,t7)) s.1 s.2.1 s.2.2.1 s.2.2.2) 18446744073709551616 (b,sum,t6,t7)
def qzn_ (x:As aI):Option aQ:=q16t_ qgc_ x.1
abbrev pEl:=zp qtg_ qu7_ 286 qj6_
theorem q1lx_ {J a}:pEl J 7 [] (qxj_ a)=qo8_ a:=by kernel_rfl
theorem q1k8_ {J w1 a b c d}:pEl J 58 [w1] (qnt_ a b c d)=qbk_ (C (J 7 []) qxj_) (C w1 qnt_) a b c d:=by kernel_rfl
abbrev pEk:=zj qtg_ qu7_ 286 qj6_
theorem q1jr_:C (pEk 7 []) qxj_=q15u_:=gNC (by decide) fun _=>q1lx_
theorem q1jc_:C (pEk 58 []) qnt_=qgc_:=gLC (by decide) (by kernel_rfl) (fun _=>by unfold qgc_; rfl) fun _ _=>q1k8_.trans (by rw [q1jr_] <;> kernel_rfl)
theorem q1jw_:CtOk Tryz.prog (fun _=>True) 286 ⟨qj6_,qzn_⟩:=zcc (env:=qtg_) (d:=6) (hs:=Ev.get qu7_) (q0_ q1ny_ q1_) (fun J x=>q16t_ (C (J 58 []) qnt_) x.1) (fun _ _=>by kernel_rfl) fun _=>by rw [q1jc_] <;> rfl
@[reducible] def q8g_:Sh:=⟨[.d aC],[],aK,[.d aJ],[],0,aI⟩
def qdf_:Env:=(cts [])
def qct_:List (Nat×Hint):=[(58,⟨[],[0,3,10,11]⟩)]
def qbg_ (l:List Int) (t10 t11:Int) (b:List Int):St:=⟨[(0,dW l),(3,.row 0),(10,dI t10),(11,dI t11)],36,[],[(0,.row (.int .u8) 5 b)],1,[],0⟩
@[reducible] def zF0:Type:=List Int->Int->Int->List Int->Option bW
def q7b_ (self1:zF0) (l:List Int) (t10 t11:Int) (b:List Int):Option bW :=
 if lt t11 t10=true then zC (at? l t11) fun y=>zC (at? l t11) fun y_1=>zC (at? b (mul .i64 2 t11)) fun x=>zC (at? b (mul .i64 2 t11)) fun x=>zC (at? (List.set b (zI (mul .i64 2 t11)) (cvt .u8 (Sx.shr .u16 y 8))) (add .i64 (mul .i64 2 t11) 1)) fun x=>zC (at? (List.set b (zI (mul .i64 2 t11)) (cvt .u8 (Sx.shr .u16 y 8))) (add .i64 (mul .i64 2 t11) 1)) fun x=>self1 l t10 (add .i64 t11 1) (List.set (List.set b (zI (mul .i64 2 t11)) (cvt .u8 (Sx.shr .u16 y 8))) (zI (add .i64 (mul .i64 2 t11) 1)) (cvt .u8 y_1)) else some (b,())
def qbf_ (j1:zF0) (l:List Int):Option bW :=
 need (ge (mul .i64 2 (zF (zG l))) 0) (need (Ev.capOk (mul .i64 2 (zF (zG l))) (mul .i64 2 (zF (zG l)))) (need (small (zI (mul .i64 2 (zF (zG l))))) (j1 l (zF (zG l)) 0 (List.replicate (zI (mul .i64 2 (zF (zG l)))) 0))))
def q7a_ (l:List Int) (t10 t11:Int) (b:List Int):Option bW :=
 loopF (fun self s=>q7b_ (fun l t10 t11 b=>self (l,t10,t11,b)) s.1 s.2.1 s.2.2.1 s.2.2.2) 18446744073709551616 (l,t10,t11,b)
def qh8_ (x:As aK):Option bW:=qbf_ q7a_ x.1
abbrev pFf:=zp qdf_ qct_ 287 q8g_
theorem q17w_ {J w1 a b c d}:pFf J 58 [w1] (qbg_ a b c d)=q7b_ (C w1 qbg_) a b c d:=by kernel_rfl
abbrev pFe:=zj qdf_ qct_ 287 q8g_
theorem q17p_:C (pFe 58 []) qbg_=q7a_:=gLC (by decide) (by kernel_rfl) (fun _=>by unfold q7a_; rfl) fun _ _=>q17w_.trans (by kernel_rfl)
theorem q17u_:CtOk Tryz.prog (fun _=>True) 287 ⟨q8g_,qh8_⟩:=zcc (env:=qdf_) (d:=6) (hs:=Ev.get qct_) q1_ (fun J x=>qbf_ (C (J 58 []) qbg_) x.1) (fun _ _=>by kernel_rfl) fun _=>by rw [q17p_] <;> rfl
@[reducible] def q18c_:Sh:=⟨[.d aC],[],aK,[.d (.int .u32)],[],0,[.int .u32]⟩
def qz0_ (l:List Int):Option aQ :=
 zC (qh8_ (l,())) fun y=>zC (qzn_ (y.1,())) fun y=>some (y.1,())
def qzw_ (x:As aK):Option aQ:=qz0_ x.1
theorem q1ky_:CtOk Tryz.prog (fun _=>True) 268 ⟨q18c_,qzw_⟩:=ctn (q0_ q1jw_ (q0_ q17u_ q1_)) 6 fun J x=>by kernel_rfl
@[reducible] def qar_:Sh:=⟨[.d (.sl YTT8)],[],[.sl YTT8],[.d (.int .u32)],[],0,[.int .u32]⟩
def qua_:Env:=(cts [(267,(⟨q5s_,q6l_⟩:Ct)),(268,(⟨q18c_,qzw_⟩:Ct))])
def qt3_:List (Nat×Hint):=[(7,⟨[],[3]⟩),(58,⟨[.row 3 25],[3,6,7,8]⟩)]
@[reducible] def zF1:Type:=List (Int×List Int)
def qq0_ (t6:zF1) (t7 t8:Int) (all:List Int):St:=⟨[(3,.row 0),(6,.d (.sl YTT8) t6),(7,dI t7),(8,dI t8)],19,[],[(0,.row (.int .u16) 25 all)],1,[],0⟩
def qy6_ (all:List Int):St:=⟨[(3,.row 0)],19,[],[(0,.row (.int .u16) 25 all)],1,[],0⟩
@[reducible] def zF2:Type:=List (Int×List Int)->Int->Int->List Int->Option aQ
def qbj_ (j2:List Int->Option aQ) (self1:zF2) (t6:zF1) (t7 t8:Int) (all:List Int):Option aQ :=
 if lt t8 t7=true then zC (at? t6 t8) fun y=>zC (q6l_ (y,())) fun y=>need (small (zG all + zG y.1)) (self1 t6 t7 (add .i64 t8 1) (all++y.1)) else j2 all
def qni_ (all:List Int):Option aQ :=
 zC (qzw_ (all,())) fun y=>some (y.1,())
def q16c_ (j1:zF2) (l:zF1):Option aQ :=
 j1 l (zF (zG l)) 0 []
def qyl_:=qni_
def qgv_ (t6:zF1) (t7 t8:Int) (all:List Int):Option aQ :=
 loopF (fun self s=>qbj_ (qyl_) (fun t6 t7 t8 all=>self (t6,t7,t8,all)) s.1 s.2.1 s.2.2.1 s.2.2.2) 18446744073709551616 (t6,t7,t8,all)
def qgs_ (x:As [.sl YTT8]):Option aQ:=q16c_ qgv_ x.1
abbrev pEd:=zp qua_ qt3_ 242 qar_
theorem q1hv_ {J a}:pEd J 7 [] (qy6_ a)=qni_ a:=by kernel_rfl
theorem q1kj_ {J w1 a b c d}:pEd J 58 [w1] (qq0_ a b c d)=qbj_ (C (J 7 []) qy6_) (C w1 qq0_) a b c d:=by kernel_rfl
abbrev pEc:=zj qua_ qt3_ 242 qar_
theorem q1in_:C (pEc 7 []) qy6_=qyl_:=gNC (by decide) fun _=>q1hv_
theorem q1lj_:C (pEc 58 []) qq0_=qgv_:=gLC (by decide) (by kernel_rfl) (fun _=>by unfold qgv_; rfl) fun _ _=>q1kj_.trans (by rw [q1in_] <;> kernel_rfl)
theorem q15z_:CtOk Tryz.prog (fun _=>True) 242 ⟨qar_,qgs_⟩:=zcc (env:=qua_) (d:=6) (hs:=Ev.get qt3_) (q0_ qqc_ (q0_ q1ky_ q1_)) (fun J x=>q16c_ (C (J 58 []) qq0_) x.1) (fun _ _=>by kernel_rfl) fun _=>by rw [q1lj_] <;> rfl
@[reducible] def eO:List Ty:=[.int .u16,.int .u16]
@[reducible] def q13j_:Sh:=⟨[.d (.int .u32)],[],[.int .u32],[.d (.int .u16),.d (.int .u16)],[],0,eO⟩
def qs5_ (x:Int):Option (As eO) :=
 some (cvt .u16 (Sx.shr .u32 x 16),cvt .u16 x,())
def q7p_ (x:As [.int .u32]):Option (As eO):=qs5_ x.1
theorem qr1_:CtOk Tryz.prog (fun _=>True) 269 ⟨q13j_,q7p_⟩:=ctn q1_ 6 fun J x=>by kernel_rfl
@[reducible] def cE:Ty:=.pr (.int .u16) YTT11
@[reducible] def q13p_:Sh:=⟨[.d cE],[],[.pr (.int .u16) YTT11],[.d aC],[],0,aK⟩
def qqn_ (c:Int×Int×Int×Int×Int):Option bL :=
 zC (q7p_ (c.2.2.1,())) fun y=>zC (q7p_ (c.2.2.2.2,())) fun y_1=>some ([c.1,cvt .u16 c.2.1,y.1,y.2.1,c.2.2.2.1,y_1.1,y_1.2.1,0],())
def qsh_ (x:As [.pr (.int .u16) YTT11]):Option bL:=qqn_ x.1
theorem q1c0_:CtOk Tryz.prog (fun _=>True) 243 ⟨q13p_,qsh_⟩:=ctn (q0_ qr1_ q1_) 6 fun J x=>by kernel_rfl
@[reducible] def cV:List Ty:=[.pr aD YTT2,.int .u8]
@[reducible] def qam_:Sh:=⟨[.d aY,.d (.int .u8)],[],cV,[.d bC],[],0,aX⟩
def qt6_:Env:=(cts [(242,(⟨qar_,qgs_⟩:Ct)),(243,(⟨q13p_,qsh_⟩:Ct))])
def qsv_:List (Nat×Hint):=[(7,⟨[],[4,5]⟩)]
@[reducible] def zF3:Type:=Int×Int×Int×Int×Unit×Unit
def qyq_ (t4:zF3) (c:Int×Int×Int×Int×Int):St:=⟨[(4,.pb 0 0),(5,.pb 1 0)],26,[],[(0,.box 27 [d8 t4.1,d6 t4.2.1,d6 t4.2.2.1,d6 t4.2.2.2.1,.k (zK zH 0 0),.k (zK zH 0 0)]),(1,.box 104 [d6 c.1,d8 c.2.1,d2 c.2.2.1,d6 c.2.2.2.1,d2 c.2.2.2.2])],2,[],0⟩
def qo7_ (t4:zF3) (c:Int×Int×Int×Int×Int):Option dE :=
 zC (qsh_ (c,())) fun y=>some ((23,256,8,272,y.1,[]),())
def qoo_ (j1:Int×Int×Int×Int×Unit×Unit->Int×Int×Int×Int×Int->Option dE) (t:qa_) (v:Int):Option dE :=
 if eqi v 2=true then zC (qgs_ (t.2.2.2.1,())) fun y=>j1 (0,0,0,0,(),()) (t.2.1,v,t.2.2.1,cvt .u16 (zF (zG t.2.2.2.1)),y.1) else j1 (0,0,0,0,(),()) (t.2.1,v,t.2.2.1,0,0)
def qpn_:=qo7_
def qa0_ (x:As cV):Option dE:=qoo_ qpn_ x.1 x.2.1
abbrev pFd:=zp qt6_ qsv_ 204 qam_
theorem q1ku_ {J a b}:pFd J 7 [] (qyq_ a b)=qo7_ a b:=by kernel_rfl
abbrev pFc:=zj qt6_ qsv_ 204 qam_
theorem q1iv_:C (pFc 7 []) qyq_=qpn_:=gNC (by decide) fun _=>q1ku_
theorem q173_:CtOk Tryz.prog (fun _=>True) 204 ⟨qam_,qa0_⟩:=zcc (env:=qt6_) (d:=6) (hs:=Ev.get qsv_) (q0_ q15z_ (q0_ q1c0_ q1_)) (fun J x=>qoo_ (C (J 7 []) qyq_) x.1 x.2.1) (fun _ _=>by kernel_rfl) fun _=>by rw [q1iv_] <;> rfl
@[reducible] def zF4:Type:=Int×Int×Int×Int×Bool×YTT18×Int×Int×Int
@[reducible] def q10e_:Sh:=⟨[.d aD],[],cD,[.d aD],[],0,cD⟩
def q1k1_ (p:zF4):Option (As cD) :=
 some ((p.1,p.2.1,p.2.2.1,p.2.2.2.1,false,(0,0,0,0,[],[]),p.2.2.2.2.2.2.1,0,0),())
def qcr_ (x:As cD):Option (As cD):=q1k1_ x.1
theorem qnm_:CtOk Tryz.prog (fun _=>True) 64 ⟨q10e_,qcr_⟩:=ctn q1_ 6 fun J x=>by kernel_rfl
@[reducible] def qp6_:Sh:=⟨[.d aY,.d (.int .u8)],[],cV,[.d aY],[],0,aN⟩
def q1m7_ (t:qa_) (said:Int):Option bS :=
 zC (qcr_ (t.1,())) fun y=>some ((y.1,t.2.1,t.2.2.1,t.2.2.2.1,t.2.2.2.2.1,0,t.2.2.2.2.2.2.1,t.2.2.2.2.2.2.2.1,said),())
def q2j_ (x:As cV):Option bS:=q1m7_ x.1 x.2.1
theorem q6b_:CtOk Tryz.prog (fun _=>True) 56 ⟨qp6_,q2j_⟩:=ctn (q0_ qnm_ q1_) 6 fun J x=>by kernel_rfl
@[reducible] def qq5_:Sh:=⟨[.d (.int .u16),.d (.int .u16)],[],eO,[.d (.int .u32)],[],0,[.int .u32]⟩
def qvr_ (high low:Int):Option aQ :=
 some (Sx.bor .u32 (Sx.shl .u32 (cvt .u32 high) 16) (cvt .u32 low),())
def q33_ (x:As eO):Option aQ:=qvr_ x.1 x.2.1
theorem qvg_:CtOk Tryz.prog (fun _=>True) 270 ⟨qq5_,q33_⟩:=ctn q1_ 6 fun J x=>by kernel_rfl
@[reducible] def aP:Ty:=.pr (.int .u8) YTT5
@[reducible] def aU:List Ty:=[.pr (.int .u8) YTT5]
@[reducible] def dN:List Ty:=[.pr (.int .u16) YTT21,.bool]
@[reducible] def q7u_:Sh:=⟨[.d aP],[],aU,[.d (.pr (.int .u16) YTT21),.d (.bool)],[],0,dN⟩
def qth_:Env:=(cts [(270,(⟨qq5_,q33_⟩:Ct))])
def qtq_:List (Nat×Hint):=[(6,⟨[],[1,2,13]⟩)]
@[reducible] def zF5:Type:=Int×Int×List Bool×List Int×Int×Int
@[reducible] def zF6:Type:=Int×Int×Int×Int
def qxl_ (t13:Bool) (r:zF5) (t2:zF6):St:=⟨[(1,.pb 0 0),(2,.pb 1 0),(13,dB t13)],38,[],[(0,.box 109 [d8 r.1,d8 r.2.1,.d (.sl .bool) r.2.2.1,dW r.2.2.2.1,d6 r.2.2.2.2.1,d6 r.2.2.2.2.2]),(1,.box 301 [d6 t2.1,d6 t2.2.1,d2 t2.2.2.1,d2 t2.2.2.2])],2,[],0⟩
def q16p_ (t13:Bool) (r:zF5) (t2:zF6):Option (As dN) :=
 if t13=true then some ((0,0,0,0),false,()) else zC (at? r.2.2.2.1 0) fun y=>zC (at? r.2.2.2.1 1) fun y_1=>zC (at? r.2.2.2.1 2) fun y_2=>zC (at? r.2.2.2.1 3) fun y_3=>zC (at? r.2.2.2.1 4) fun y_4=>zC (at? r.2.2.2.1 5) fun y_5=>zC (q33_ (y_2,y_3,())) fun y_6=>zC (q33_ (y_4,y_5,())) fun y_7=>some ((y,y_1,y_6.1,y_7.1),true,())
def qny_ (j1:Bool->Int×Int×List Bool×List Int×Int×Int->Int×Int×Int×Int->Option (As dN)) (r:zF5):Option (As dN) :=
 if nei r.2.1 0=true then j1 true r (0,0,0,0) else j1 (nei (zF (zG r.2.2.2.1)) 8) r (0,0,0,0)
def qyb_:=q16p_
def q6i_ (x:As aU):Option (As dN):=qny_ qyb_ x.1
abbrev pE7:=zp qth_ qtq_ 244 q7u_
theorem q1ka_ {J a b c}:pE7 J 6 [] (qxl_ a b c)=q16p_ a b c:=by kernel_rfl
abbrev pE6:=zj qth_ qtq_ 244 q7u_
theorem q1l2_:C (pE6 6 []) qxl_=qyb_:=gNC (by decide) fun _=>q1ka_
theorem qh0_:CtOk Tryz.prog (fun _=>True) 244 ⟨q7u_,q6i_⟩:=zcc (env:=qth_) (d:=6) (hs:=Ev.get qtq_) (q0_ qvg_ q1_) (fun J x=>qny_ (C (J 6 []) qxl_) x.1) (fun _ _=>by kernel_rfl) fun _=>by rw [q1l2_] <;> rfl
@[reducible] def qb6_:Sh:=⟨[.d (.pr (.int .u16) YTT21),.d aY],[],[.pr (.int .u16) YTT21,.pr aD YTT2],[.d (.bool)],[],0,[.bool]⟩
def qgj_ (s:zF6) (t:qa_):Option aF :=
 if eqi s.1 t.2.1=true then some (eqi s.2.2.1 t.2.2.1,()) else some (false,())
def q18_ (x:As [.pr (.int .u16) YTT21,.pr aD YTT2]):Option aF:=qgj_ x.1 x.2.1
theorem qa2_:CtOk Tryz.prog (fun _=>True) 245 ⟨qb6_,q18_⟩:=ctn q1_ 6 fun J x=>by kernel_rfl
@[reducible] def q1f2_:Sh:=⟨[.d aY,.d (.int .u8)],[],cV,[.d aY],[],0,aN⟩
def q1o6_ (t:qa_) (at':Int):Option bS :=
 some ((t.1,t.2.1,t.2.2.1,t.2.2.2.1,t.2.2.2.2.1,at',t.2.2.2.2.2.2),())
def q66_ (x:As cV):Option bS:=q1o6_ x.1 x.2.1
theorem qi7_:CtOk Tryz.prog (fun _=>True) 249 ⟨q1f2_,q66_⟩:=ctn q1_ 6 fun J x=>by kernel_rfl
@[reducible] def q10t_:Sh:=⟨[.d aY],[],aN,[.d aY],[],0,aN⟩
def qxb_ (t:qa_):Option bS :=
 if ge t.2.2.2.2.2.2.1 (zF (zG t.2.2.2.1))=true then zC (q66_ (t,4,())) fun y=>some (y.1,()) else zC (q66_ (t,2,())) fun y=>some (y.1,())
def qco_ (x:As aN):Option bS:=qxb_ x.1
theorem q17b_:CtOk Tryz.prog (fun _=>True) 246 ⟨q10t_,qco_⟩:=ctn (q0_ qi7_ q1_) 6 fun J x=>by kernel_rfl
@[reducible] def qpp_:Sh:=⟨[.d aY,.d (.int .u8)],[],cV,[.d aY],[],0,aN⟩
def qvh_ (t:qa_) (at':Int):Option bS :=
 if gt (add .i64 t.2.2.2.2.2.2.2.1 1) 8=true then zC (q2j_ ((t.1,t.2.1,t.2.2.1,t.2.2.2.1,t.2.2.2.2.1,t.2.2.2.2.2.1,t.2.2.2.2.2.2.1,add .i64 t.2.2.2.2.2.2.2.1 1,t.2.2.2.2.2.2.2.2),2,())) fun y=>some (y.1,()) else zC (q66_ ((t.1,t.2.1,t.2.2.1,t.2.2.2.1,t.2.2.2.2.1,t.2.2.2.2.2.1,t.2.2.2.2.2.2.1,add .i64 t.2.2.2.2.2.2.2.1 1,t.2.2.2.2.2.2.2.2),at',())) fun y=>some (y.1,())
def q4y_ (x:As cV):Option bS:=qvh_ x.1 x.2.1
theorem qvt_:CtOk Tryz.prog (fun _=>True) 247 ⟨qpp_,q4y_⟩:=ctn (q0_ q6b_ (q0_ qi7_ q1_)) 6 fun J x=>by kernel_rfl
@[reducible] def aZ:List Ty:=[.pr aD YTT2,.pr (.int .u8) YTT5]
@[reducible] def q5v_:Sh:=⟨[.d aY,.d aP],[],aZ,[.d aY],[],0,aN⟩
def qhm_:Env:=(cts [(56,(⟨qp6_,q2j_⟩:Ct)),(244,(⟨q7u_,q6i_⟩:Ct)),(245,(⟨qb6_,q18_⟩:Ct)),(246,(⟨q10t_,qco_⟩:Ct)),(247,(⟨qpp_,q4y_⟩:Ct))])
def qhb_:List (Nat×Hint):=[(115,⟨[],[2,4,5,17,33,34,35]⟩),(463,⟨[],[2,4,28]⟩)]
@[reducible] def zF7:Type:=YTT10×Int×Int×Unit×Int×Int×Int×Int×Int
def qnr_ (t17:Bool) (t:qa_) (t4:zF7) (s:zF6):St:=⟨[(2,.pb 0 0),(4,.pb 1 0),(5,.pb 2 0),(17,dB t17)],42,[],[(0,.box 33 (talkC t [])),(1,.box 33 [d8 t4.1.1,d8 t4.1.2.1,dI t4.1.2.2.1,dI t4.1.2.2.2.1,dB t4.1.2.2.2.2.1,d8 t4.1.2.2.2.2.2.1.1,d6 t4.1.2.2.2.2.2.1.2.1,d6 t4.1.2.2.2.2.2.1.2.2.1,d6 t4.1.2.2.2.2.2.1.2.2.2.1,.k (zK zH 0 0),.k (zK zH 0 0),d6 t4.1.2.2.2.2.2.2.1,dI t4.1.2.2.2.2.2.2.2.1,dI t4.1.2.2.2.2.2.2.2.2,d6 t4.2.1,d2 t4.2.2.1,.k (zK zH 0 0),d8 t4.2.2.2.2.1,d8 t4.2.2.2.2.2.1,dI t4.2.2.2.2.2.2.1,dI t4.2.2.2.2.2.2.2.1,d8 t4.2.2.2.2.2.2.2.2]),(2,.box 301 [d6 s.1,d6 s.2.1,d2 s.2.2.1,d2 s.2.2.2])],3,[],0⟩
def qon_ (t28:Bool) (t:qa_) (t4:zF7):St:=⟨[(2,.pb 0 0),(4,.pb 1 0),(28,dB t28)],42,[],[(0,.box 33 (talkC t [])),(1,.box 33 [d8 t4.1.1,d8 t4.1.2.1,dI t4.1.2.2.1,dI t4.1.2.2.2.1,dB t4.1.2.2.2.2.1,d8 t4.1.2.2.2.2.2.1.1,d6 t4.1.2.2.2.2.2.1.2.1,d6 t4.1.2.2.2.2.2.1.2.2.1,d6 t4.1.2.2.2.2.2.1.2.2.2.1,.k (zK zH 0 0),.k (zK zH 0 0),d6 t4.1.2.2.2.2.2.2.1,dI t4.1.2.2.2.2.2.2.2.1,dI t4.1.2.2.2.2.2.2.2.2,d6 t4.2.1,d2 t4.2.2.1,.k (zK zH 0 0),d8 t4.2.2.2.2.1,d8 t4.2.2.2.2.2.1,dI t4.2.2.2.2.2.2.1,dI t4.2.2.2.2.2.2.2.1,d8 t4.2.2.2.2.2.2.2.2])],2,[],0⟩
def qg3_ (j2:Bool->qa_->YTT10×Int×Int×Unit×Int×Int×Int×Int×Int->Option bS) (t17:Bool) (t:qa_) (t4:zF7) (s:zF6):Option bS :=
 if t17=true then zC (q2j_ (t,1,())) fun y=>some (y.1,()) else zC (q18_ (s,t,())) fun y=>if y.1=true then j2 (eqi s.2.1 1) t ((t4.1.1,t4.1.2.1,t4.1.2.2.1,t4.1.2.2.2.1,t4.1.2.2.2.2.1,(t4.1.2.2.2.2.2.1.1,t4.1.2.2.2.2.2.1.2.1,t4.1.2.2.2.2.2.1.2.2.1,t4.1.2.2.2.2.2.1.2.2.2.1,(),()),t4.1.2.2.2.2.2.2),t4.2) else j2 false t ((t4.1.1,t4.1.2.1,t4.1.2.2.1,t4.1.2.2.2.1,t4.1.2.2.2.2.1,(t4.1.2.2.2.2.2.1.1,t4.1.2.2.2.2.2.1.2.1,t4.1.2.2.2.2.2.1.2.2.1,t4.1.2.2.2.2.2.1.2.2.2.1,(),()),t4.1.2.2.2.2.2.2),t4.2)
def qzp_ (t28:Bool) (t:qa_) (t4:zF7):Option bS :=
 if t28=true then zC (qco_ ((t.1,t.2.1,t.2.2.1,t.2.2.2.1,t.2.2.2.2.1,t.2.2.2.2.2.1,0,t.2.2.2.2.2.2.2),())) fun y=>some (y.1,()) else zC (q4y_ (t,1,())) fun y=>some (y.1,())
def qfu_ (j1:Bool->qa_->YTT10×Int×Int×Unit×Int×Int×Int×Int×Int->Int×Int×Int×Int->Option bS) (t:qa_) (r:zF5):Option bS :=
 zC (q6i_ (r,())) fun y=>if (!y.2.1)=true then zC (q2j_ (t,2,())) fun y=>some (y.1,()) else zC (q18_ (y.1,t,())) fun y_1=>if y_1.1=true then j1 (eqi y.1.2.1 2) t ((0,0,0,0,false,(0,0,0,0,(),()),0,0,0),0,0,(),0,0,0,0,0) y.1 else j1 false t ((0,0,0,0,false,(0,0,0,0,(),()),0,0,0),0,0,(),0,0,0,0,0) y.1
def qa4_:=qzp_
def q54_:=qg3_ (qa4_)
def qcf_ (x:As aZ):Option bS:=qfu_ q54_ x.1 x.2.1
abbrev pEt:=zp qhm_ qhb_ 205 q5v_
theorem q1b1_ {J a b c}:pEt J 463 [] (qon_ a b c)=qzp_ a b c:=by kernel_rfl
theorem q1bj_ {J a b c d}:pEt J 115 [] (qnr_ a b c d)=qg3_ (C (J 463 []) qon_) a b c d:=by kernel_rfl
abbrev pEs:=zj qhm_ qhb_ 205 q5v_
theorem q1b7_:C (pEs 463 []) qon_=qa4_:=gNC (by decide) fun _=>q1b1_
theorem q1ah_:C (pEs 115 []) qnr_=q54_:=gNC (by decide) fun _=>q1bj_.trans (by rw [q1b7_] <;> kernel_rfl)
theorem q104_:CtOk Tryz.prog (fun _=>True) 205 ⟨q5v_,qcf_⟩:=zcc (env:=qhm_) (d:=6) (hs:=Ev.get qhb_) (q0_ q6b_ (q0_ qh0_ (q0_ qa2_ (q0_ q17b_ (q0_ qvt_ q1_))))) (fun J x=>qfu_ (C (J 115 []) qnr_) x.1 x.2.1) (fun _ _=>by kernel_rfl) fun _=>by rw [q1ah_] <;> rfl
@[reducible] def qqw_:Sh:=⟨[.d (.int .i64)],[],[.int .i64],[.d (.bool)],[],0,[.bool]⟩
def qq4_ (n:Int):Option aF :=
 if ge n 0=true then some (lt n 8,()) else some (false,())
def q8x_ (x:As [.int .i64]):Option aF:=qq4_ x.1
theorem qos_:CtOk Tryz.prog (fun _=>True) 283 ⟨qqw_,q8x_⟩:=ctn q1_ 6 fun J x=>by kernel_rfl
@[reducible] def cW:List Ty:=[.int .u16,.int .u32,.int .i64,.pr (.int .i64) aC]
@[reducible] def q11l_:Sh:=⟨[.d (.int .u16),.d (.int .u32),.d (.int .i64),.d YTT8],[],cW,[.d aC],[],0,aK⟩
def qnh_ (owner tx n:Int) (x:Int×List Int):Option bL :=
 zC (q7p_ (tx,())) fun y=>need (small (0 + Nat.succ (Nat.succ (Nat.succ (Nat.succ 0))))) (zC (q6l_ (x,())) fun y_1=>need (small (Nat.succ (Nat.succ (Nat.succ (Nat.succ 0))) + zG y_1.1)) (some (owner::y.1::y.2.1::cvt .u16 n::y_1.1,())))
def qgb_ (x:As cW):Option bL:=qnh_ x.1 x.2.1 x.2.2.1 x.2.2.2.1
theorem qzq_:CtOk Tryz.prog (fun _=>True) 284 ⟨q11l_,qgb_⟩:=ctn (q0_ qqc_ (q0_ qr1_ q1_)) 6 fun J x=>by kernel_rfl
@[reducible] def q13s_:Sh:=⟨[.d (.int .u16),.d (.int .u32),.d (.int .i64),.d YTT8],[],cW,[.d aC,.d (.int .i64)],[],0,bT⟩
def qrs_ (owner tx n:Int) (x:Int×List Int):Option (As bT) :=
 zC (q8x_ (n,())) fun y=>if (!y.1)=true then some ([],2,()) else zC (q5j_ (x,())) fun y=>if (!y.1)=true then some ([],20,()) else zC (qgb_ (owner,tx,n,x,())) fun y=>some (y.1,0,())
def qu4_ (x:As cW):Option (As bT):=qrs_ x.1 x.2.1 x.2.2.1 x.2.2.2.1
theorem q1c7_:CtOk Tryz.prog (fun _=>True) 271 ⟨q13s_,qu4_⟩:=ctn (q0_ qcj_ (q0_ qos_ (q0_ qzq_ q1_))) 6 fun J x=>by kernel_rfl
@[reducible] def eI:List Ty:=[.sl (.int .u16),.bool]
@[reducible] def qbo_:Sh:=⟨[.d aY],[],aN,[.d aC,.d (.bool)],[],0,eI⟩
def qnq_:Env:=(cts [(271,(⟨q13s_,qu4_⟩:Ct))])
def qn9_:List (Nat×Hint):=[(6,⟨[],[1,16]⟩)]
def qvs_ (t16:Bool) (t:qa_):St:=⟨[(1,.pb 0 0),(16,dB t16)],36,[],[(0,.box 33 (talkC t []))],1,[],0⟩
def ql8_ (t16:Bool) (t:qa_):Option (As eI) :=
 if t16=true then some ([],false,()) else zC (at? t.2.2.2.1 t.2.2.2.2.2.2.1) fun y=>zC (qu4_ (t.2.1,t.2.2.1,t.2.2.2.2.2.2.1,y,())) fun y=>some (y.1,eqi y.2.1 0,())
def qld_ (j1:Bool->qa_->Option (As eI)) (t:qa_):Option (As eI) :=
 if lt t.2.2.2.2.2.2.1 0=true then j1 true t else j1 (ge t.2.2.2.2.2.2.1 (zF (zG t.2.2.2.1))) t
def qvl_:=ql8_
def qib_ (x:As aN):Option (As eI):=qld_ qvl_ x.1
abbrev pEr:=zp qnq_ qn9_ 248 qbo_
theorem q1gs_ {J a b}:pEr J 6 [] (qvs_ a b)=ql8_ a b:=by kernel_rfl
abbrev pEq:=zj qnq_ qn9_ 248 qbo_
theorem q1g6_:C (pEq 6 []) qvs_=qvl_:=gNC (by decide) fun _=>q1gs_
theorem q13o_:CtOk Tryz.prog (fun _=>True) 248 ⟨qbo_,qib_⟩:=zcc (env:=qnq_) (d:=6) (hs:=Ev.get qn9_) (q0_ q1c7_ q1_) (fun J x=>qld_ (C (J 6 []) qvs_) x.1) (fun _ _=>by kernel_rfl) fun _=>by rw [q1g6_] <;> rfl
@[reducible] def qw5_:Sh:=⟨[.d aY],[],aN,[.d bC],[],0,aX⟩
def qrv_ (t:qa_):Option dE :=
 zC (qib_ (t,())) fun y=>if (!y.2.1)=true then some ((0,0,0,0,[],[]),()) else some ((16,288,cvt .u16 (zF (zG y.1)),0,y.1,[]),())
def qt2_ (x:As aN):Option dE:=qrv_ x.1
theorem q12x_:CtOk Tryz.prog (fun _=>True) 206 ⟨qw5_,qt2_⟩:=ctn (q0_ q13o_ q1_) 6 fun J x=>by kernel_rfl
@[reducible] def qv8_:Sh:=⟨[.d aY,.d aP],[],aZ,[.d aY],[],0,aN⟩
def qrk_ (t:qa_) (r:zF5):Option bS :=
 if nei r.2.1 0=true then zC (q2j_ (t,2,())) fun y=>some (y.1,()) else zC (q66_ (t,3,())) fun y=>some (y.1,())
def qjh_ (x:As aZ):Option bS:=qrk_ x.1 x.2.1
theorem q11o_:CtOk Tryz.prog (fun _=>True) 207 ⟨qv8_,qjh_⟩:=ctn (q0_ q6b_ (q0_ qi7_ q1_)) 6 fun J x=>by kernel_rfl
@[reducible] def q10o_:Sh:=⟨[.d aY],[],aN,[.d bC],[],0,aX⟩
def qxu_ (t:qa_):Option dE :=
 some ((3,cvt .u16 (add .i64 512 (mul .i64 32 t.2.2.2.2.2.2.1)),20,0,[],[]),())
def q105_ (x:As aN):Option dE:=qxu_ x.1
theorem q16h_:CtOk Tryz.prog (fun _=>True) 208 ⟨q10o_,q105_⟩:=ctn q1_ 6 fun J x=>by kernel_rfl
@[reducible] def dX:List Ty:=[.sl (.int .u16),.sl (.int .u16)]
@[reducible] def q1p_:Sh:=⟨[.d aC,.d aC],[],dX,[.d (.bool)],[],0,[.bool]⟩
def q6a_:Env:=(cts [])
def q68_:List (Nat×Hint):=[(58,⟨[],[0,1,12,13]⟩)]
def q5m_ (s1 s2:List Int) (t12 t13:Int):St:=⟨[(0,dW s1),(1,dW s2),(12,dI t12),(13,dI t13)],26,[],[],0,[],0⟩
def q3r_ (self1:List Int->List Int->Int->Int->Option aF) (s1 s2:List Int) (t12 t13:Int):Option aF :=
 if lt t13 t12=true then zC (at? s1 t13) fun y=>zC (at? s2 t13) fun y_1=>if nei y y_1=true then some (false,()) else self1 s1 s2 t12 (add .i64 t13 1) else some (true,())
def q5l_ (j1:List Int->List Int->Int->Int->Option aF) (s1 s2:List Int):Option aF :=
 if nei (zF (zG s1)) (zF (zG s2))=true then some (false,()) else j1 s1 s2 (zF (zG s1)) 0
def q3s_ (s1 s2:List Int) (t12 t13:Int):Option aF :=
 loopF (fun self s=>q3r_ (fun s1 s2 t12 t13=>self (s1,s2,t12,t13)) s.1 s.2.1 s.2.2.1 s.2.2.2) 18446744073709551616 (s1,s2,t12,t13)
def q11_ (x:As dX):Option aF:=q5l_ q3s_ x.1 x.2.1
abbrev pDz:=zp q6a_ q68_ 90 q1p_
theorem qze_ {J w1 a b c d}:pDz J 58 [w1] (q5m_ a b c d)=q3r_ (C w1 q5m_) a b c d:=by kernel_rfl
abbrev pDy:=zj q6a_ q68_ 90 q1p_
theorem qzh_:C (pDy 58 []) q5m_=q3s_:=gLC (by decide) (by kernel_rfl) (fun _=>by unfold q3s_; rfl) fun _ _=>qze_.trans (by kernel_rfl)
theorem q3q_:CtOk Tryz.prog (fun _=>True) 90 ⟨q1p_,q11_⟩:=zcc (env:=q6a_) (d:=6) (hs:=Ev.get q68_) q1_ (fun J x=>q5l_ (C (J 58 []) q5m_) x.1 x.2.1) (fun _ _=>by kernel_rfl) fun _=>by rw [qzh_] <;> rfl
@[reducible] def q5a_:Sh:=⟨[.d aY,.d aP],[],aZ,[.d aY],[],0,aN⟩
def qfa_:Env:=(cts [(90,(⟨q1p_,q11_⟩:Ct)),(246,(⟨q10t_,qco_⟩:Ct)),(247,(⟨qpp_,q4y_⟩:Ct)),(248,(⟨qbo_,qib_⟩:Ct))])
def qfb_:List (Nat×Hint):=[(14,⟨[],[2,4,25]⟩)]
def qmc_ (t25:Bool) (t:qa_) (t4:zF7):St:=⟨[(2,.pb 0 0),(4,.pb 1 0),(25,dB t25)],34,[],[(0,.box 33 (talkC t [])),(1,.box 33 [d8 t4.1.1,d8 t4.1.2.1,dI t4.1.2.2.1,dI t4.1.2.2.2.1,dB t4.1.2.2.2.2.1,d8 t4.1.2.2.2.2.2.1.1,d6 t4.1.2.2.2.2.2.1.2.1,d6 t4.1.2.2.2.2.2.1.2.2.1,d6 t4.1.2.2.2.2.2.1.2.2.2.1,.k (zK zH 0 0),.k (zK zH 0 0),d6 t4.1.2.2.2.2.2.2.1,dI t4.1.2.2.2.2.2.2.2.1,dI t4.1.2.2.2.2.2.2.2.2,d6 t4.2.1,d2 t4.2.2.1,.k (zK zH 0 0),d8 t4.2.2.2.2.1,d8 t4.2.2.2.2.2.1,dI t4.2.2.2.2.2.2.1,dI t4.2.2.2.2.2.2.2.1,d8 t4.2.2.2.2.2.2.2.2])],2,[],0⟩
def qyy_ (t25:Bool) (t:qa_) (t4:zF7):Option bS :=
 if t25=true then zC (q4y_ (t,2,())) fun y=>some (y.1,()) else zC (qco_ ((t.1,t.2.1,t.2.2.1,t.2.2.2.1,t.2.2.2.2.1,t.2.2.2.2.2.1,add .i64 t.2.2.2.2.2.2.1 1,t.2.2.2.2.2.2.2),())) fun y=>some (y.1,())
def qde_ (j1:Bool->qa_->YTT10×Int×Int×Unit×Int×Int×Int×Int×Int->Option bS) (t:qa_) (r:zF5):Option bS :=
 zC (qib_ (t,())) fun y=>if (!y.2.1)=true then j1 true t ((0,0,0,0,false,(0,0,0,0,(),()),0,0,0),0,0,(),0,0,0,0,0) else if nei r.2.1 0=true then j1 true t ((0,0,0,0,false,(0,0,0,0,(),()),0,0,0),0,0,(),0,0,0,0,0) else zC (q11_ (r.2.2.2.1,y.1,())) fun y=>j1 (!y.1) t ((0,0,0,0,false,(0,0,0,0,(),()),0,0,0),0,0,(),0,0,0,0,0)
def q92_:=qyy_
def q9g_ (x:As aZ):Option bS:=qde_ q92_ x.1 x.2.1
abbrev pE5:=zp qfa_ qfb_ 209 q5a_
theorem q18n_ {J a b c}:pE5 J 14 [] (qmc_ a b c)=qyy_ a b c:=by kernel_rfl
abbrev pE4:=zj qfa_ qfb_ 209 q5a_
theorem q18s_:C (pE4 14 []) qmc_=q92_:=gNC (by decide) fun _=>q18n_
theorem qz8_:CtOk Tryz.prog (fun _=>True) 209 ⟨q5a_,q9g_⟩:=zcc (env:=qfa_) (d:=6) (hs:=Ev.get qfb_) (q0_ q3q_ (q0_ q17b_ (q0_ qvt_ (q0_ q13o_ q1_)))) (fun J x=>qde_ (C (J 14 []) qmc_) x.1 x.2.1) (fun _ _=>by kernel_rfl) fun _=>by rw [q18s_] <;> rfl
@[reducible] def q53_:Sh:=⟨[.d aY,.d aP],[],aZ,[.d aY],[],0,aN⟩
def qfq_:Env:=(cts [(56,(⟨qp6_,q2j_⟩:Ct)),(244,(⟨q7u_,q6i_⟩:Ct)),(245,(⟨qb6_,q18_⟩:Ct)),(247,(⟨qpp_,q4y_⟩:Ct))])
def qg2_:List (Nat×Hint):=[(115,⟨[],[2,4,17]⟩)]
def qm6_ (t17:Bool) (t:qa_) (t4:zF7):St:=⟨[(2,.pb 0 0),(4,.pb 1 0),(17,dB t17)],30,[],[(0,.box 33 (talkC t [])),(1,.box 33 [d8 t4.1.1,d8 t4.1.2.1,dI t4.1.2.2.1,dI t4.1.2.2.2.1,dB t4.1.2.2.2.2.1,d8 t4.1.2.2.2.2.2.1.1,d6 t4.1.2.2.2.2.2.1.2.1,d6 t4.1.2.2.2.2.2.1.2.2.1,d6 t4.1.2.2.2.2.2.1.2.2.2.1,.k (zK zH 0 0),.k (zK zH 0 0),d6 t4.1.2.2.2.2.2.2.1,dI t4.1.2.2.2.2.2.2.2.1,dI t4.1.2.2.2.2.2.2.2.2,d6 t4.2.1,d2 t4.2.2.1,.k (zK zH 0 0),d8 t4.2.2.2.2.1,d8 t4.2.2.2.2.2.1,dI t4.2.2.2.2.2.2.1,dI t4.2.2.2.2.2.2.2.1,d8 t4.2.2.2.2.2.2.2.2])],2,[],0⟩
def qy1_ (t17:Bool) (t:qa_) (t4:zF7):Option bS :=
 if t17=true then zC (q2j_ (t,1,())) fun y=>some (y.1,()) else zC (q4y_ (t,4,())) fun y=>some (y.1,())
def qdj_ (j1:Bool->qa_->YTT10×Int×Int×Unit×Int×Int×Int×Int×Int->Option bS) (t:qa_) (r:zF5):Option bS :=
 zC (q6i_ (r,())) fun y=>if (!y.2.1)=true then zC (q2j_ (t,2,())) fun y=>some (y.1,()) else zC (q18_ (y.1,t,())) fun y_1=>if y_1.1=true then j1 (eqi y.1.2.1 2) t ((0,0,0,0,false,(0,0,0,0,(),()),0,0,0),0,0,(),0,0,0,0,0) else j1 false t ((0,0,0,0,false,(0,0,0,0,(),()),0,0,0),0,0,(),0,0,0,0,0)
def q4h_:=qy1_
def q9k_ (x:As aZ):Option bS:=qdj_ q4h_ x.1 x.2.1
abbrev pE3:=zp qfq_ qg2_ 211 q53_
theorem q18t_ {J a b c}:pE3 J 115 [] (qm6_ a b c)=qy1_ a b c:=by kernel_rfl
abbrev pE2:=zj qfq_ qg2_ 211 q53_
theorem q18l_:C (pE2 115 []) qm6_=q4h_:=gNC (by decide) fun _=>q18t_
theorem qyr_:CtOk Tryz.prog (fun _=>True) 211 ⟨q53_,q9k_⟩:=zcc (env:=qfq_) (d:=6) (hs:=Ev.get qg2_) (q0_ q6b_ (q0_ qh0_ (q0_ qa2_ (q0_ qvt_ q1_)))) (fun J x=>qdj_ (C (J 115 []) qm6_) x.1 x.2.1) (fun _ _=>by kernel_rfl) fun _=>by rw [q18l_] <;> rfl
@[reducible] def qlz_:Sh:=⟨[.d aY,.d aP],[],aZ,[.d aY],[],0,aN⟩
def qiv_ (t:qa_) (r:zF5):Option bS :=
 zC (q6i_ (r,())) fun y=>if (!y.2.1)=true then zC (q66_ (t,7,())) fun y=>some (y.1,()) else if ge y.1.2.2.2 t.2.2.1=true then zC (q2j_ (t,1,())) fun y=>some (y.1,()) else zC (q66_ (t,5,())) fun y=>some (y.1,())
def qck_ (x:As aZ):Option bS:=qiv_ x.1 x.2.1
theorem qwd_:CtOk Tryz.prog (fun _=>True) 213 ⟨qlz_,qck_⟩:=ctn (q0_ q6b_ (q0_ qh0_ (q0_ qi7_ q1_))) 6 fun J x=>by kernel_rfl
@[reducible] def qr6_:Sh:=⟨[.d aY,.d aP],[],aZ,[.d aY],[],0,aN⟩
def qne_ (t:qa_) (r:zF5):Option bS :=
 zC (q6i_ (r,())) fun y=>if (!y.2.1)=true then zC (q66_ (t,7,())) fun y=>some (y.1,()) else zC (q18_ (y.1,t,())) fun y=>if (!y.1)=true then zC (q2j_ (t,1,())) fun y=>some (y.1,()) else zC (q66_ (t,6,())) fun y=>some (y.1,())
def qgn_ (x:As aZ):Option bS:=qne_ x.1 x.2.1
theorem qzv_:CtOk Tryz.prog (fun _=>True) 215 ⟨qr6_,qgn_⟩:=ctn (q0_ q6b_ (q0_ qh0_ (q0_ qa2_ (q0_ qi7_ q1_)))) 6 fun J x=>by kernel_rfl
@[reducible] def q10g_:Sh:=⟨[.d aY],[],aN,[.d bC],[],0,aX⟩
def q1kd_ (v:qa_):Option dE :=
 some ((3,256,8,0,[],[]),())
def q100_ (x:As aN):Option dE:=q1kd_ x.1
theorem q15d_:CtOk Tryz.prog (fun _=>True) 216 ⟨q10g_,q100_⟩:=ctn q1_ 6 fun J x=>by kernel_rfl
@[reducible] def q78_:Sh:=⟨[.d aY,.d aP],[],aZ,[.d aY],[],0,aN⟩
def qlm_:Env:=(cts [(56,(⟨qp6_,q2j_⟩:Ct)),(244,(⟨q7u_,q6i_⟩:Ct)),(245,(⟨qb6_,q18_⟩:Ct)),(249,(⟨q1f2_,q66_⟩:Ct))])
def qk6_:List (Nat×Hint):=[(30,⟨[],[2,4,33]⟩),(116,⟨[],[2,4,22]⟩)]
def qrg_ (t22:Bool) (t:qa_) (t4:zF7):St:=⟨[(2,.pb 0 0),(4,.pb 1 0),(22,dB t22)],38,[],[(0,.box 33 (talkC t [])),(1,.box 33 [d8 t4.1.1,d8 t4.1.2.1,dI t4.1.2.2.1,dI t4.1.2.2.2.1,dB t4.1.2.2.2.2.1,d8 t4.1.2.2.2.2.2.1.1,d6 t4.1.2.2.2.2.2.1.2.1,d6 t4.1.2.2.2.2.2.1.2.2.1,d6 t4.1.2.2.2.2.2.1.2.2.2.1,.k (zK zH 0 0),.k (zK zH 0 0),d6 t4.1.2.2.2.2.2.2.1,dI t4.1.2.2.2.2.2.2.2.1,dI t4.1.2.2.2.2.2.2.2.2,d6 t4.2.1,d2 t4.2.2.1,.k (zK zH 0 0),d8 t4.2.2.2.2.1,d8 t4.2.2.2.2.2.1,dI t4.2.2.2.2.2.2.1,dI t4.2.2.2.2.2.2.2.1,d8 t4.2.2.2.2.2.2.2.2])],2,[],0⟩
def qr8_ (t33:Bool) (t:qa_) (t4:zF7):St:=⟨[(2,.pb 0 0),(4,.pb 1 0),(33,dB t33)],38,[],[(0,.box 33 (talkC t [])),(1,.box 33 [d8 t4.1.1,d8 t4.1.2.1,dI t4.1.2.2.1,dI t4.1.2.2.2.1,dB t4.1.2.2.2.2.1,d8 t4.1.2.2.2.2.2.1.1,d6 t4.1.2.2.2.2.2.1.2.1,d6 t4.1.2.2.2.2.2.1.2.2.1,d6 t4.1.2.2.2.2.2.1.2.2.2.1,.k (zK zH 0 0),.k (zK zH 0 0),d6 t4.1.2.2.2.2.2.2.1,dI t4.1.2.2.2.2.2.2.2.1,dI t4.1.2.2.2.2.2.2.2.2,d6 t4.2.1,d2 t4.2.2.1,.k (zK zH 0 0),d8 t4.2.2.2.2.1,d8 t4.2.2.2.2.2.1,dI t4.2.2.2.2.2.2.1,dI t4.2.2.2.2.2.2.2.1,d8 t4.2.2.2.2.2.2.2.2])],2,[],0⟩
def q12c_ (t22:Bool) (t:qa_) (t4:zF7):Option bS :=
 if t22=true then zC (q2j_ (t,1,())) fun y=>some (y.1,()) else zC (q66_ (t,5,())) fun y=>some (y.1,())
def q12m_ (t33:Bool) (t:qa_) (t4:zF7):Option bS :=
 if t33=true then zC (q2j_ (t,1,())) fun y=>some (y.1,()) else zC (q66_ (t,6,())) fun y=>some (y.1,())
def qid_ (j1 j2:Bool->qa_->YTT10×Int×Int×Unit×Int×Int×Int×Int×Int->Option bS) (t:qa_) (r:zF5):Option bS :=
 zC (q6i_ (r,())) fun y=>if eqi t.2.2.2.2.1 2=true then if y.2.1=true then j1 (ge y.1.2.2.2 t.2.2.1) t ((0,0,0,0,false,(0,0,0,0,(),()),0,0,0),0,0,(),0,0,0,0,0) else j1 false t ((0,0,0,0,false,(0,0,0,0,(),()),0,0,0),0,0,(),0,0,0,0,0) else if y.2.1=true then zC (q18_ (y.1,t,())) fun y=>j2 (!y.1) t ((0,0,0,0,false,(0,0,0,0,(),()),0,0,0),0,0,(),0,0,0,0,0) else j2 false t ((0,0,0,0,false,(0,0,0,0,(),()),0,0,0),0,0,(),0,0,0,0,0)
def qbw_:=q12c_
def qci_:=q12m_
def qen_ (x:As aZ):Option bS:=qid_ qbw_ qci_ x.1 x.2.1
abbrev pE1:=zp qlm_ qk6_ 217 q78_
theorem q1c5_ {J a b c}:pE1 J 116 [] (qrg_ a b c)=q12c_ a b c:=by kernel_rfl
theorem q1c8_ {J a b c}:pE1 J 30 [] (qr8_ a b c)=q12m_ a b c:=by kernel_rfl
abbrev pE0:=zj qlm_ qk6_ 217 q78_
theorem q1e7_:C (pE0 116 []) qrg_=qbw_:=gNC (by decide) fun _=>q1c5_
theorem q1cx_:C (pE0 30 []) qr8_=qci_:=gNC (by decide) fun _=>q1c8_
theorem q11n_:CtOk Tryz.prog (fun _=>True) 217 ⟨q78_,qen_⟩:=zcc (env:=qlm_) (d:=6) (hs:=Ev.get qk6_) (q0_ q6b_ (q0_ qh0_ (q0_ qa2_ (q0_ qi7_ q1_)))) (fun J x=>qid_ (C (J 116 []) qrg_) (C (J 30 []) qr8_) x.1 x.2.1) (fun _ _=>by kernel_rfl) fun _=>by rw [q1e7_,q1cx_] <;> rfl
@[reducible] def q84_:Sh:=⟨[.d aY],[],aN,[.d bC],[],0,aX⟩
def qi0_:Env:=(cts [(1000211,Ev.bxCt),(204,(⟨qam_,qa0_⟩:Ct)),(205,(⟨q5v_,qcf_⟩:Ct)),(206,(⟨qw5_,qt2_⟩:Ct)),(207,(⟨qv8_,qjh_⟩:Ct)),(208,(⟨q10o_,q105_⟩:Ct)),(209,(⟨q5a_,q9g_⟩:Ct)),(211,(⟨q53_,q9k_⟩:Ct)),(213,(⟨qlz_,qck_⟩:Ct)),(215,(⟨qr6_,qgn_⟩:Ct)),(216,(⟨q10g_,q100_⟩:Ct)),(217,(⟨q78_,qen_⟩:Ct))])
def qhd_:List (Nat×Hint):=[(14,⟨[],[1,2,3,13]⟩)]
def qoc_ (t13:Bool) (t:qa_) (t2:zF3):St:=⟨[(1,.pb 0 0),(2,.pb 1 0),(3,.pb 2 0),(13,dB t13)],22,[],[(0,.box 33 (talkC t [])),(1,.box 27 [d8 t2.1,d6 t2.2.1,d6 t2.2.2.1,d6 t2.2.2.2.1,.k (zK zH 0 0),.k (zK zH 0 0)]),(2,.box 211 [.k Go.Value.nilFunc,.k Go.Value.nilFunc,.fn (.func 203) [] [],.fn (.func 205) [] [],.fn (.func 206) [] [],.fn (.func 207) [] [],.fn (.func 208) [] [],.fn (.func 209) [] [],.fn (.func 210) [] [],.fn (.func 211) [] [],.fn (.func 212) [] [],.fn (.func 213) [] [],.fn (.func 214) [] [],.fn (.func 215) [] [],.fn (.func 216) [] [],.fn (.func 217) [] []])],3,[],0⟩
def qfe_ (t13:Bool) (t:qa_) (t2:zF3):Option dE :=
 if t13=true then some ((0,0,0,0,[],[]),()) else if eqi t.2.2.2.2.2.1 7=true then zC (q100_ (t,())) fun y=>some (y.1,()) else if eqi t.2.2.2.2.2.1 6=true then zC (qa0_ (t,4,())) fun y=>some (y.1,()) else if eqi t.2.2.2.2.2.1 5=true then zC (qa0_ (t,3,())) fun y=>some (y.1,()) else if eqi t.2.2.2.2.2.1 4=true then zC (qa0_ (t,2,())) fun y=>some (y.1,()) else if eqi t.2.2.2.2.2.1 3=true then zC (q105_ (t,())) fun y=>some (y.1,()) else if eqi t.2.2.2.2.2.1 2=true then zC (qt2_ (t,())) fun y=>some (y.1,()) else if eqi t.2.2.2.2.2.1 1=true then zC (qa0_ (t,1,())) fun y=>some (y.1,()) else if eqi t.2.2.2.2.2.1 0=true then zH else zH
def qfs_ (j1:Bool->qa_->Int×Int×Int×Int×Unit×Unit->Option dE) (t:qa_):Option dE :=
 if ge (cvt .i64 t.2.2.2.2.2.1) 8=true then j1 true t (0,0,0,0,(),()) else j1 (eqi t.2.2.2.2.2.1 0) t (0,0,0,0,(),())
def qq2_:=qfe_
def qc2_ (x:As aN):Option dE:=qfs_ qq2_ x.1
abbrev pE9:=zp qi0_ qhd_ 117 q84_
theorem q1ai_ {J a b c}:pE9 J 14 [] (qoc_ a b c)=qfe_ a b c:=by kernel_rfl
abbrev pE8:=zj qi0_ qhd_ 117 q84_
theorem q1am_:C (pE8 14 []) qoc_=qq2_:=gNC (by decide) fun _=>q1ai_
theorem q1bd_:CtOk Tryz.prog (fun _=>True) 117 ⟨q84_,qc2_⟩:=zcc (env:=qi0_) (d:=6) (hs:=Ev.get qhd_) (q0_ Ev.bx_ok (q0_ q173_ (q0_ q104_ (q0_ q12x_ (q0_ q11o_ (q0_ q16h_ (q0_ qz8_ (q0_ qyr_ (q0_ qwd_ (q0_ qzv_ (q0_ q15d_ (q0_ q11n_ q1_)))))))))))) (fun J x=>qfs_ (C (J 14 []) qoc_) x.1) (fun _ _=>by kernel_rfl) fun _=>by rw [q1am_] <;> rfl
@[reducible] def bM:List Ty:=[.pr aD YTT2,.sl (.int .u8)]
@[reducible] def q7r_:Sh:=⟨[.d aY],[],aN,[.d aY,.d aJ],[],0,bM⟩
def qsf_:Env:=(cts [(116,(⟨q18h_,qmo_⟩:Ct)),(117,(⟨q84_,qc2_⟩:Ct))])
def qu6_:List (Nat×Hint):=[(3,⟨[],[1,2,4,5,6]⟩)]
def qyk_ (frame:List Int) (err:Int) (t:qa_) (t2:zF7) (p:zF4):St:=⟨[(1,.pb 0 0),(2,.pb 1 0),(4,.pb 2 0),(5,dL frame),(6,dI err)],23,[],[(0,.box 33 (talkC t [])),(1,.box 33 [d8 t2.1.1,d8 t2.1.2.1,dI t2.1.2.2.1,dI t2.1.2.2.2.1,dB t2.1.2.2.2.2.1,d8 t2.1.2.2.2.2.2.1.1,d6 t2.1.2.2.2.2.2.1.2.1,d6 t2.1.2.2.2.2.2.1.2.2.1,d6 t2.1.2.2.2.2.2.1.2.2.2.1,.k (zK zH 0 0),.k (zK zH 0 0),d6 t2.1.2.2.2.2.2.2.1,dI t2.1.2.2.2.2.2.2.2.1,dI t2.1.2.2.2.2.2.2.2.2,d6 t2.2.1,d2 t2.2.2.1,.k (zK zH 0 0),d8 t2.2.2.2.2.1,d8 t2.2.2.2.2.2.1,dI t2.2.2.2.2.2.2.1,dI t2.2.2.2.2.2.2.2.1,d8 t2.2.2.2.2.2.2.2.2]),(2,.box 29 [d8 p.1,d8 p.2.1,dI p.2.2.1,dI p.2.2.2.1,dB p.2.2.2.2.1,d8 p.2.2.2.2.2.1.1,d6 p.2.2.2.2.2.1.2.1,d6 p.2.2.2.2.2.1.2.2.1,d6 p.2.2.2.2.2.1.2.2.2.1,dW p.2.2.2.2.2.1.2.2.2.2.1,.d (.sl .bool) p.2.2.2.2.2.1.2.2.2.2.2,d6 p.2.2.2.2.2.2.1,dI p.2.2.2.2.2.2.2.1,dI p.2.2.2.2.2.2.2.2])],3,[],0⟩
def q166_ (frame:List Int) (err:Int) (t:qa_) (t2:zF7) (p:zF4):Option (As bM) :=
 if nei err 0=true then some (t,[],()) else some ((p,t.2),frame,())
def qpv_ (j1:List Int->Int->qa_->YTT10×Int×Int×Unit×Int×Int×Int×Int×Int->Int×Int×Int×Int×Bool×YTT18×Int×Int×Int->Option (As bM)) (t:qa_):Option (As bM) :=
 amb (eqAs q7r_.rs) [zC (qc2_ (t,())) fun y=>amb (eqAs q7r_.rs) [zC (qmo_ (t.1,y.1,())) fun y=>j1 y.2.1 y.2.2.1 t ((0,0,0,0,false,(0,0,0,0,(),()),0,0,0),0,0,(),0,0,0,0,0) y.1,zC (qmo_ (t.1,y.1,())) fun y=>j1 y.2.1 y.2.2.1 t ((0,0,0,0,false,(0,0,0,0,(),()),0,0,0),0,0,(),0,0,0,0,0) y.1],zC (qc2_ (t,())) fun y=>zC (qmo_ (t.1,y.1,())) fun y=>j1 y.2.1 y.2.2.1 t ((0,0,0,0,false,(0,0,0,0,(),()),0,0,0),0,0,(),0,0,0,0,0) y.1]
def qyx_:=q166_
def q7v_ (x:As aN):Option (As bM):=qpv_ qyx_ x.1
abbrev pFb:=zp qsf_ qu6_ 57 q7r_
theorem q1l0_ {J a b c d e}:pFb J 3 [] (qyk_ a b c d e)=q166_ a b c d e:=by kernel_rfl
abbrev pFa:=zj qsf_ qu6_ 57 q7r_
theorem q1ju_:C (pFa 3 []) qyk_=qyx_:=gNC (by decide) fun _=>q1l0_
theorem qxq_:CtOk Tryz.prog (fun _=>True) 57 ⟨q7r_,q7v_⟩:=zcc (env:=qsf_) (d:=6) (hs:=Ev.get qu6_) (q0_ q1it_ (q0_ q1bd_ q1_)) (fun J x=>qpv_ (C (J 3 []) qyk_) x.1) (fun _ _=>by kernel_rfl) fun _=>by rw [q1ju_] <;> rfl
@[reducible] def q179_:Sh:=⟨[.d (.int .u8)],[],[.int .u8],[.d (.int .u8),.d (.bool)],[],0,[.int .u8,.bool]⟩
def qw1_ (goal:Int):Option (As [.int .u8,.bool]) :=
 if eqi goal 1=true then some (1,true,()) else if eqi goal 2=true then some (5,true,()) else if eqi goal 3=true then some (6,true,()) else some (0,false,())
def qwe_ (x:As [.int .u8]):Option (As [.int .u8,.bool]):=qw1_ x.1
theorem q1gr_:CtOk Tryz.prog (fun _=>True) 62 ⟨q179_,qwe_⟩:=ctn q1_ 6 fun J x=>by kernel_rfl
@[reducible] def qho_:Sh:=⟨[.d (.sl YTT8)],[],[.sl YTT8],[.d (.bool)],[],0,[.bool]⟩
def qwz_:Env:=(cts [(26,(⟨qjn_,q5j_⟩:Ct))])
def qx4_:List (Nat×Hint):=[(58,⟨[],[8,9,10]⟩)]
def qu0_ (t8:zF1) (t9 t10:Int):St:=⟨[(8,.d (.sl YTT8) t8),(9,dI t9),(10,dI t10)],18,[],[],0,[],0⟩
@[reducible] def zF8:Type:=List (Int×List Int)->Int->Int->Option aF
def qeq_ (self1:zF8) (t8:zF1) (t9 t10:Int):Option aF :=
 if lt t10 t9=true then zC (at? t8 t10) fun y=>zC (q5j_ (y,())) fun y=>if (!y.1)=true then some (false,()) else self1 t8 t9 (add .i64 t10 1) else some (true,())
def qtv_ (j1:zF8) (l:zF1):Option aF :=
 if gt (zF (zG l)) 8=true then some (false,()) else j1 l (zF (zG l)) 0
def qtn_ (t8:zF1) (t9 t10:Int):Option aF :=
 loopF (fun self s=>qeq_ (fun t8 t9 t10=>self (t8,t9,t10)) s.1 s.2.1 s.2.2) 18446744073709551616 (t8,t9,t10)
def qyw_ (x:As [.sl YTT8]):Option aF:=qtv_ qtn_ x.1
abbrev pEz:=zp qwz_ qx4_ 63 qho_
theorem q1mq_ {J w1 a b c}:pEz J 58 [w1] (qu0_ a b c)=qeq_ (C w1 qu0_) a b c:=by kernel_rfl
abbrev pEy:=zj qwz_ qx4_ 63 qho_
theorem q1mv_:C (pEy 58 []) qu0_=qtn_:=gLC (by decide) (by kernel_rfl) (fun _=>by unfold qtn_; rfl) fun _ _=>q1mq_.trans (by kernel_rfl)
theorem q1mw_:CtOk Tryz.prog (fun _=>True) 63 ⟨qho_,qyw_⟩:=zcc (env:=qwz_) (d:=6) (hs:=Ev.get qx4_) (q0_ qcj_ q1_) (fun J x=>qtv_ (C (J 58 []) qu0_) x.1) (fun _ _=>by kernel_rfl) fun _=>by rw [q1mv_] <;> rfl
@[reducible] def cG:List Ty:=[.pr aD YTT2,.sl (.int .u8),.int .i64]
@[reducible] def q88_:Sh:=⟨[.d aY,.d (.int .u8),.d (.int .u32),.d (.sl YTT8)],[],[.pr aD YTT2,.int .u8,.int .u32,.sl YTT8],[.d aY,.d aJ,.d (.int .i64)],[],0,cG⟩
def qn5_:Env:=(cts [(54,(⟨q1b4_,qma_⟩:Ct)),(57,(⟨q7r_,q7v_⟩:Ct)),(62,(⟨q179_,qwe_⟩:Ct)),(63,(⟨qho_,qyw_⟩:Ct)),(64,(⟨q10e_,qcr_⟩:Ct)),(65,(⟨q9m_,qee_⟩:Ct))])
def qo5_:List (Nat×Hint):=[(15,⟨[.agd 3 (.sl YTT8)],[1,2,3,4,8,11]⟩),(14,⟨[],[1,2,3,4,8,11,24]⟩)]
def qv5_ (goal tx:Int) (l:zF1) (at':Int) (t24:Bool) (t:qa_) (t8:zF7):St:=⟨[(1,d8 goal),(2,d2 tx),(3,.d (.sl YTT8) l),(4,.pb 0 0),(8,.pb 1 0),(11,d8 at'),(24,dB t24)],57,[],[(0,.box 33 (talkC t [])),(1,.box 33 [d8 t8.1.1,d8 t8.1.2.1,dI t8.1.2.2.1,dI t8.1.2.2.2.1,dB t8.1.2.2.2.2.1,d8 t8.1.2.2.2.2.2.1.1,d6 t8.1.2.2.2.2.2.1.2.1,d6 t8.1.2.2.2.2.2.1.2.2.1,d6 t8.1.2.2.2.2.2.1.2.2.2.1,.k (zK zH 0 0),.k (zK zH 0 0),d6 t8.1.2.2.2.2.2.2.1,dI t8.1.2.2.2.2.2.2.2.1,dI t8.1.2.2.2.2.2.2.2.2,d6 t8.2.1,d2 t8.2.2.1,.k (zK zH 0 0),d8 t8.2.2.2.2.1,d8 t8.2.2.2.2.2.1,dI t8.2.2.2.2.2.2.1,dI t8.2.2.2.2.2.2.2.1,d8 t8.2.2.2.2.2.2.2.2])],2,[],0⟩
def qvk_ (goal tx:Int) (l:zF1) (at':Int) (t:qa_) (t8:zF7):St:=⟨[(1,d8 goal),(2,d2 tx),(3,.d (.sl YTT8) l),(4,.pb 0 0),(8,.pb 1 0),(11,d8 at')],57,[],[(0,.box 33 (talkC t [])),(1,.box 33 [d8 t8.1.1,d8 t8.1.2.1,dI t8.1.2.2.1,dI t8.1.2.2.2.1,dB t8.1.2.2.2.2.1,d8 t8.1.2.2.2.2.2.1.1,d6 t8.1.2.2.2.2.2.1.2.1,d6 t8.1.2.2.2.2.2.1.2.2.1,d6 t8.1.2.2.2.2.2.1.2.2.2.1,.k (zK zH 0 0),.k (zK zH 0 0),d6 t8.1.2.2.2.2.2.2.1,dI t8.1.2.2.2.2.2.2.2.1,dI t8.1.2.2.2.2.2.2.2.2,d6 t8.2.1,d2 t8.2.2.1,.k (zK zH 0 0),d8 t8.2.2.2.2.1,d8 t8.2.2.2.2.2.1,dI t8.2.2.2.2.2.2.1,dI t8.2.2.2.2.2.2.2.1,d8 t8.2.2.2.2.2.2.2.2])],2,[],0⟩
def q9v_ (j2:Int->Int->List (Int×List Int)->Int->qa_->YTT10×Int×Int×Unit×Int×Int×Int×Int×Int->Option (As cG)) (goal tx:Int) (l:zF1) (at':Int) (t24:Bool) (t:qa_) (t8:zF7):Option (As cG) :=
 if t24=true then zC (qma_ (t,())) fun y=>some (y.1,[],2,()) else if nei goal 1=true then j2 goal tx [] at' t ((t8.1.1,t8.1.2.1,t8.1.2.2.1,t8.1.2.2.2.1,t8.1.2.2.2.2.1,(t8.1.2.2.2.2.2.1.1,t8.1.2.2.2.2.2.1.2.1,t8.1.2.2.2.2.2.1.2.2.1,t8.1.2.2.2.2.2.1.2.2.2.1,(),()),t8.1.2.2.2.2.2.2),t8.2) else j2 goal tx l at' t ((t8.1.1,t8.1.2.1,t8.1.2.2.1,t8.1.2.2.2.1,t8.1.2.2.2.2.1,(t8.1.2.2.2.2.2.1.1,t8.1.2.2.2.2.2.1.2.1,t8.1.2.2.2.2.2.1.2.2.1,t8.1.2.2.2.2.2.1.2.2.2.1,(),()),t8.1.2.2.2.2.2.2),t8.2)
def qkg_ (goal tx:Int) (l:zF1) (at':Int) (t:qa_) (t8:zF7):Option (As cG) :=
 zC (qyw_ (l,())) fun y=>if (!y.1)=true then zC (qma_ (t,())) fun y=>some (y.1,[],20,()) else zC (qcr_ (t.1,())) fun y=>zC (qee_ (l,())) fun y_1=>zC (q7v_ ((y.1,t.2.1,tx,y_1.1,goal,at',0,0,0),())) fun y=>some (y.1,y.2.1,0,())
def qju_ (j1:Int->Int->List (Int×List Int)->Int->Bool->qa_->YTT10×Int×Int×Unit×Int×Int×Int×Int×Int->Option (As cG)) (t:qa_) (goal tx:Int) (l:zF1):Option (As cG) :=
 zC (qwe_ (goal,())) fun y=>if (!y.2.1)=true then j1 goal tx l y.1 true t ((0,0,0,0,false,(0,0,0,0,(),()),0,0,0),0,0,(),0,0,0,0,0) else j1 goal tx l y.1 (eqi tx 0) t ((0,0,0,0,false,(0,0,0,0,(),()),0,0,0),0,0,(),0,0,0,0,0)
def qea_:=qkg_
def qku_:=q9v_ (qea_)
def q3o_ (x:As [.pr aD YTT2,.int .u8,.int .u32,.sl YTT8]):Option (As cG):=qju_ qku_ x.1 x.2.1 x.2.2.1 x.2.2.2.1
abbrev pEp:=zp qn5_ qo5_ 25 q88_
theorem q1fz_ {J a b c d e f}:pEp J 15 [] (qvk_ a b c d e f)=qkg_ a b c d e f:=by kernel_rfl
theorem q1h5_ {J a b c d e f g}:pEp J 14 [] (qv5_ a b c d e f g)=q9v_ (C (J 15 []) qvk_) a b c d e f g:=by kernel_rfl
abbrev pEo:=zj qn5_ qo5_ 25 q88_
theorem q1ge_:C (pEo 15 []) qvk_=qea_:=gNC (by decide) fun _=>q1fz_
theorem q1ff_:C (pEo 14 []) qv5_=qku_:=gNC (by decide) fun _=>q1h5_.trans (by rw [q1ge_] <;> kernel_rfl)
theorem q13y_:CtOk Tryz.prog (fun _=>True) 25 ⟨q88_,q3o_⟩:=zcc (env:=qn5_) (d:=6) (hs:=Ev.get qo5_) (q0_ q10w_ (q0_ qxq_ (q0_ q1gr_ (q0_ q1mw_ (q0_ qnm_ (q0_ q12p_ q1_)))))) (fun J x=>qju_ (C (J 14 []) qv5_) x.1 x.2.1 x.2.2.1 x.2.2.2.1) (fun _ _=>by kernel_rfl) fun _=>by rw [q1ff_] <;> rfl
@[reducible] def aE:List Ty:=[.bool,.pr aD YTT2,.pr (.int .u8) aA,.int .u32,.int .u32,.sl (.sl YTT8),.sl YTT14]
@[reducible] def q1o_:Sh:=⟨[.pb 0 0,.d (.bool)],[(prG 1),.que YTT14 63],aE,[.d (.bool)],[(0,(prG 2)),(2,.que YTT14 63)],1,aE⟩
def qai_:Env:=(cts [(1000048,Ev.bxCt),(9000046,Ev.bxCt),(9999999,Ev.bxCt),(20,(⟨q2v_,q2y_⟩:Ct)),(25,(⟨q88_,q3o_⟩:Ct))])
def qa6_:List (Nat×Hint):=[(7,⟨[],[0,5,6]⟩),(15,⟨[],[0,5,6]⟩),(31,⟨[],[0,6,7,8,9]⟩),(28,⟨[],[0,1,5,6,15,46,47,48,49,50,51,52,53,54,68,69,70,71,72,73]⟩),(115,⟨[],[0,5,6,38,68,69,70,71,72,73]⟩),(463,⟨[],[0,5,6,60]⟩)]
@[reducible] def zF9:Type:=List (Bool×List Int)
def qf1_ (alt:Bool) (goal tx:Int) (t15:Bool) (p:(qa_)×(TaA2q1)×Unit×Int×Int×List aH) (o:zF9):St:=⟨[(0,.pb 0 0),(1,dB alt),(5,d8 goal),(6,d2 tx),(15,dB t15)],108,[],[(0,.box 48 (talkC p.1 (slC p.2.1 [.row 1,d2 p.2.2.2.1,d2 p.2.2.2.2.1,.d bY p.2.2.2.2.2]))),(1,.que YTT14 63 o)],2,[],2⟩
def q5q_ (goal tx:Int) (p:(qa_)×(TaA2q1)×Unit×Int×Int×List aH) (o:zF9):St:=⟨[(0,.pb 0 0),(5,d8 goal),(6,d2 tx)],108,[],[(0,.box 48 (talkC p.1 (slC p.2.1 [.row 1,d2 p.2.2.2.1,d2 p.2.2.2.2.1,.d bY p.2.2.2.2.2]))),(1,.que YTT14 63 o)],2,[],2⟩
def qf4_ (goal tx:Int) (t38:Bool) (p:(qa_)×(TaA2q1)×Unit×Int×Int×List aH) (o:zF9):St:=⟨[(0,.pb 0 0),(5,d8 goal),(6,d2 tx),(38,dB t38)],108,[],[(0,.box 48 (talkC p.1 (slC p.2.1 [.row 1,d2 p.2.2.2.1,d2 p.2.2.2.2.1,.d bY p.2.2.2.2.2]))),(1,.que YTT14 63 o)],2,[],2⟩
def qez_ (goal tx:Int) (p:(qa_)×(TaA2q1)×Unit×Int×Int×List aH) (o:zF9):St:=⟨[(0,.pb 0 0),(5,d8 goal),(6,d2 tx)],108,[],[(0,.box 48 (talkC p.1 (slC p.2.1 [.row 1,d2 p.2.2.2.1,d2 p.2.2.2.2.1,.d bY p.2.2.2.2.2]))),(1,.que YTT14 63 o)],2,[],2⟩
def qey_ (goal tx:Int) (t60:Bool) (p:(qa_)×(TaA2q1)×Unit×Int×Int×List aH) (o:zF9):St:=⟨[(0,.pb 0 0),(5,d8 goal),(6,d2 tx),(60,dB t60)],108,[],[(0,.box 48 (talkC p.1 (slC p.2.1 [.row 1,d2 p.2.2.2.1,d2 p.2.2.2.2.1,.d bY p.2.2.2.2.2]))),(1,.que YTT14 63 o)],2,[],2⟩
def qf0_ (tx:Int) (b:List Int) (e:Int) (p:(qa_)×(TaA2q1)×Unit×Int×Int×List aH) (o:zF9) (t:qa_):St:=⟨[(0,.pb 0 0),(6,d2 tx),(7,.pb 2 0),(8,dL b),(9,dI e)],108,[],[(0,.box 48 (talkC p.1 (slC p.2.1 [.row 1,d2 p.2.2.2.1,d2 p.2.2.2.2.1,.d bY p.2.2.2.2.2]))),(1,.que YTT14 63 o),(2,.box 33 (talkC t []))],3,[],2⟩
@[reducible] def cO:Type:=As aE
def qqm_ (j2:Int->Int->(qa_)×(TaA2q1)×Unit×Int×Int×List aH->List (Bool×List Int)->Option cO) (j3:Int->Int->Bool->(qa_)×(TaA2q1)×Unit×Int×Int×List aH->List (Bool×List Int)->Option cO) (alt:Bool) (goal tx:Int) (t15:Bool) (p:(qa_)×(TaA2q1)×Unit×Int×Int×List aH) (o:zF9):Option cO :=
 if t15=true then j2 2 p.2.2.2.1 p o else if eqi p.1.2.2.2.2.1 1=true then if alt=true then j3 goal tx true p o else j3 goal tx (eqi p.1.2.2.2.2.2.2.2.2 2) p o else j3 goal tx false p o
def q96_ (j4:Int->Int->(qa_)×(TaA2q1)×Unit×Int×Int×List aH->List (Bool×List Int)->Option cO) (goal tx:Int) (p:(qa_)×(TaA2q1)×Unit×Int×Int×List aH) (o:zF9):Option cO :=
 if eqi goal 2=true then j4 goal tx (p.1,p.2.1,(),p.2.2.2.1,tx,p.2.2.2.2.2) o else j4 goal tx p o
def qqh_ (j2:Int->Int->(qa_)×(TaA2q1)×Unit×Int×Int×List aH->List (Bool×List Int)->Option cO) (j5:Int->Int->Bool->(qa_)×(TaA2q1)×Unit×Int×Int×List aH->List (Bool×List Int)->Option cO) (goal tx:Int) (t38:Bool) (p:(qa_)×(TaA2q1)×Unit×Int×Int×List aH) (o:zF9):Option cO :=
 if t38=true then j2 3 p.2.2.2.1 p o else if nei p.1.2.2.2.2.1 0=true then j5 goal tx (eqi p.1.2.2.2.2.2.2.2.2 0) p o else j5 goal tx false p o
def q98_ (j6:Int->List Int->Int->(qa_)×(TaA2q1)×Unit×Int×Int×List aH->List (Bool×List Int)->qa_->Option cO) (goal tx:Int) (p:(qa_)×(TaA2q1)×Unit×Int×Int×List aH) (o:zF9):Option cO :=
 amb (eqAs q1o_.rs) [if eqi (zF (zG p.2.2.2.2.2)) 0=true then amb (eqAs q1o_.rs) [zC (q3o_ (p.1,goal,tx,[],())) fun y=>j6 tx y.2.1 y.2.2.1 p o y.1,zC (q3o_ (p.1,goal,tx,[],())) fun y=>j6 tx y.2.1 y.2.2.1 p o y.1] else need (nei (zF (zG p.2.2.2.2.2)) 0) (zC (at? p.2.2.2.2.2 (rem (cvt .i64 tx) (zF (zG p.2.2.2.2.2)))) fun y=>amb (eqAs q1o_.rs) [zC (q3o_ (p.1,goal,tx,y,())) fun y=>j6 tx y.2.1 y.2.2.1 p o y.1,zC (q3o_ (p.1,goal,tx,y,())) fun y=>j6 tx y.2.1 y.2.2.1 p o y.1]),if eqi (zF (zG p.2.2.2.2.2)) 0=true then zC (q3o_ (p.1,goal,tx,[],())) fun y=>j6 tx y.2.1 y.2.2.1 p o y.1 else need (nei (zF (zG p.2.2.2.2.2)) 0) (zC (at? p.2.2.2.2.2 (rem (cvt .i64 tx) (zF (zG p.2.2.2.2.2)))) fun y=>zC (q3o_ (p.1,goal,tx,y,())) fun y=>j6 tx y.2.1 y.2.2.1 p o y.1)]
def q99_ (j2:Int->Int->(qa_)×(TaA2q1)×Unit×Int×Int×List aH->List (Bool×List Int)->Option cO) (goal tx:Int) (t60:Bool) (p:(qa_)×(TaA2q1)×Unit×Int×Int×List aH) (o:zF9):Option cO :=
 if t60=true then some (true,p.1,(mkSl p.2.1),p.2.2.2.1,p.2.2.2.2.1,p.2.2.2.2.2,o,()) else j2 goal tx p o
def q97_ (tx:Int) (b:List Int) (e:Int) (p:(qa_)×(TaA2q1)×Unit×Int×Int×List aH) (o:zF9) (t:qa_):Option cO :=
 zC (q2y_ (b,t,(mkSl p.2.1),tx,p.2.2.2.2.1,p.2.2.2.2.2,o,())) fun y=>some (eqi e 0,y.1,(mkSl y.2.1),y.2.2.1,y.2.2.2.1,y.2.2.2.2.1,y.2.2.2.2.2.1,())
def q93_ (j1:Bool->Int->Int->Bool->(qa_)×(TaA2q1)×Unit×Int×Int×List aH->List (Bool×List Int)->Option cO) (p:Bool) (alt:qa_) (p_2:TaA2q1) (alt_2 v:Int) (goal:List aH) (tx:zF9):Option cO :=
 if eqi alt.2.2.2.2.1 1=true then if eqi alt.2.2.2.2.2.2.2.2 1=true then j1 p 1 (add .u32 alt_2 1) (!p) (alt,p_2,(),alt_2,v,goal) tx else j1 p 1 (add .u32 alt_2 1) false (alt,p_2,(),alt_2,v,goal) tx else j1 p 1 (add .u32 alt_2 1) false (alt,p_2,(),alt_2,v,goal) tx
def q5n_:=q97_
def q95_:=q98_ (q5n_)
def q1t_:=q96_ (q95_)
def q5p_:=q99_ (q1t_)
def q42_:=qqh_ (q1t_) (q5p_)
def q94_:=qqm_ (q1t_) (q42_)
def q1a_ (x:As aE):Option cO:=q93_ q94_ x.1 x.2.1 x.2.2.1 x.2.2.2.1 x.2.2.2.2.1 x.2.2.2.2.2.1 x.2.2.2.2.2.2.1
abbrev pBf:=zp qai_ qa6_ 10 q1o_
theorem q14h_ {J a b c d e f}:pBf J 31 [] (qf0_ a b c d e f)=q97_ a b c d e f:=by kernel_rfl
theorem q155_ {J a b c d}:pBf J 15 [] (qez_ a b c d)=q98_ (C (J 31 []) qf0_) a b c d:=by kernel_rfl
theorem q14n_ {J a b c d}:pBf J 7 [] (q5q_ a b c d)=q96_ (C (J 15 []) qez_) a b c d:=by kernel_rfl
theorem q152_ {J a b c d e}:pBf J 463 [] (qey_ a b c d e)=q99_ (C (J 7 []) q5q_) a b c d e:=by kernel_rfl
theorem q14q_ {J a b c d e}:pBf J 115 [] (qf4_ a b c d e)=qqh_ (C (J 7 []) q5q_) (C (J 463 []) qey_) a b c d e:=by kernel_rfl
theorem q14y_ {J a b c d e f}:pBf J 28 [] (qf1_ a b c d e f)=qqm_ (C (J 7 []) q5q_) (C (J 115 []) qf4_) a b c d e f:=by kernel_rfl
abbrev pBe:=zj qai_ qa6_ 10 q1o_
theorem q14b_:C (pBe 31 []) qf0_=q5n_:=gNC (by decide) fun _=>q14h_
theorem q149_:C (pBe 15 []) qez_=q95_:=gNC (by decide) fun _=>q155_.trans (by rw [q14b_] <;> kernel_rfl)
theorem qex_:C (pBe 7 []) q5q_=q1t_:=gNC (by decide) fun _=>q14n_.trans (by rw [q149_] <;> kernel_rfl)
theorem q14g_:C (pBe 463 []) qey_=q5p_:=gNC (by decide) fun _=>q152_.trans (by rw [qex_] <;> kernel_rfl)
theorem q14x_:C (pBe 115 []) qf4_=q42_:=gNC (by decide) fun _=>q14q_.trans (by rw [qex_,q14g_] <;> kernel_rfl)
theorem q14d_:C (pBe 28 []) qf1_=q94_:=gNC (by decide) fun _=>q14y_.trans (by rw [qex_,q14x_] <;> kernel_rfl)
theorem qqk_:CtOk Tryz.prog (fun _=>True) 10 ⟨q1o_,q1a_⟩:=zcc (env:=qai_) (d:=6) (hs:=Ev.get qa6_) (q0_ Ev.bx_ok (q0_ Ev.bx_ok (q0_ Ev.bx_ok (q0_ qgk_ (q0_ q13y_ q1_))))) (fun J x=>q93_ (C (J 28 []) qf1_) x.1 x.2.1 x.2.2.1 x.2.2.2.1 x.2.2.2.2.1 x.2.2.2.2.2.1 x.2.2.2.2.2.2.1) (fun _ _=>by kernel_rfl) fun _=>by rw [q14d_] <;> rfl
end Go.Proofs.Lx
end
