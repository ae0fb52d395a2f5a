/- Proved in the last of these 20 parts (this is part 13): SlaveTells. Conditions: those of the given statement, and no others. -/
import Derived.Test.YtkcmbampiiolbaaGreatParte
import Derived.Test.YtkcmbampiiolbaaGreatPartl
import Derived.Test.YtkcmbampiiolbaaGreatProg
import Derived.Test.YtkcmbampiiolbaaGreatPartj
set_option linter.unusedVariables false
set_option linter.unusedSimpArgs false
set_option linter.unusedSectionVars false
open Option renaming bind → zC, none → zH
open Int renaming ofNat → zF, toNat → zI
open List renaming length → zG
open Go.Value renaming slice → zK
noncomputable section
open Go Go.Proofs Ev Sx
set_option maxRecDepth 100000
namespace Go.Proofs.Lx
abbrev qf_:Type:=List Int×(Int×Int)×Int×Int×Int×jT×Int
abbrev iZ:Type:=Int×Int×Int×Int×Int
abbrev lV:Type:=Int×Int×List Bool×List Int×Int×Int
@[reducible] def IW:Sh:=shD fB aK
def afA:Env:=(cts [(156,(⟨aft,afz⟩:Ct)),(157,(⟨Rh,A7⟩:Ct)),(158,(⟨Rk,x9⟩:Ct)),(159,(⟨Mi,kD⟩:Ct))])
def afB:List (Nat×Hint):=[(127,⟨[],[1,5,6]⟩),(255,⟨[],[5,6]⟩),(254,⟨[],[1,5,6,68]⟩),(122,⟨[],[1,20,21,64,65,66,67]⟩),(491,⟨[],[1,35,64,65,66,67]⟩)]
def afC(b:Int)(c:Bool)(a:lV):St:=⟨[(1,.pb 0 0),(20,d8 b),(21,dB c)],80,[],[(0,.box 46 [d8 a.1,d8 a.2.1,.d (.sl .bool) a.2.2.1,dW a.2.2.2.1,d6 a.2.2.2.2.1,d6 a.2.2.2.2.2])],1,[],0⟩
def ars(b:Bool)(a:lV):St:=⟨[(1,.pb 0 0),(35,dB b)],80,[],[(0,.box 46 [d8 a.1,d8 a.2.1,.d (.sl .bool) a.2.2.1,dW a.2.2.2.1,d6 a.2.2.2.2.1,d6 a.2.2.2.2.2])],1,[],0⟩
def afD(d:Int)(c:Bool)(a:lV)(b:List Int):St:=⟨[(1,.pb 0 0),(5,.row 1),(6,dI d),(68,dB c)],80,[],[(0,.box 46 [d8 a.1,d8 a.2.1,.d (.sl .bool) a.2.2.1,dW a.2.2.2.1,d6 a.2.2.2.2.1,d6 a.2.2.2.2.2]),(1,.row (.int .u8) 5 b)],2,[],0⟩
def afE(c:Int)(a:lV)(b:List Int):St:=⟨[(1,.pb 0 0),(5,.row 1),(6,dI c)],80,[],[(0,.box 46 [d8 a.1,d8 a.2.1,.d (.sl .bool) a.2.2.1,dW a.2.2.2.1,d6 a.2.2.2.2.1,d6 a.2.2.2.2.2]),(1,.row (.int .u8) 5 b)],2,[],0⟩
def afF(b:Int)(a:List Int):St:=⟨[(5,.row 0),(6,dI b)],80,[],[(0,.row (.int .u8) 5 a)],1,[],0⟩
def awd(b:Bool->lV->Option bW)(c:Int)(e:Bool)(a:lV):Option bW :=
 if e=true then zC (A7 (a.2.2.1,())) fun d=>need (small (Nat.succ (Nat.succ 0)+zG d.1)) (some (a.1::cvt .u8 (zF (zG d.1))::d.1,0,())) else if eqi c 3=true then b true a else if eqi c 4=true then b true a else b (eqi c 23) a
def awe(c:Int->Bool->lV->List Int->Option bW)(d:Bool)(a:lV):Option bW :=
 if d=true then zC (x9 (a.2.2.2.1,[a.1,cvt .u8 (mul .i64 2 (zF (zG a.2.2.2.1)))],())) fun b=>some (b.1,0,()) else zC (kD (cvt .i64 a.2.2.2.2.1,[a.1],())) fun b=>if eqi a.1 5=true then zC (at? a.2.2.1 0) fun e=>c (cvt .i64 a.2.2.2.2.2) e a b.1 else c (cvt .i64 a.2.2.2.2.2) false a b.1
def awf(a:Int->lV->List Int->Option bW)(e:Int)(d:Bool)(c:lV)(b:List Int):Option bW :=
 if d=true then a 65280 c b else a e c b
def awg(a:Int->List Int->Option bW)(d:Int)(c:lV)(b:List Int):Option bW :=
 if eqi c.1 6=true then zC (at? c.2.2.2.1 0) fun e=>a (cvt .i64 e) b else a d b
def afG(b:Int)(a:List Int):Option bW :=
 zC (kD (b,a,())) fun c=>some (c.1,0,())
def afH(b:Int->Bool->lV->Option bW)(a:lV):Option bW :=
 zC (afz (a,())) fun c=>if (!c.1)=true then some ([],13,()) else if nei a.2.1 0=true then some ([add .u8 a.1 128,a.2.1],0,()) else if eqi a.1 1=true then b a.1 true a else b a.1 (eqi a.1 2) a
def D7:=afG
def awh:=awg (D7)
def art:=awf (awh)
def afI:=awe (art)
def afJ:=awd (afI)
def D8(x:As fB):Option bW:=afH afJ x.1
abbrev pC1:=zp afA afB 103 IW
theorem aKc{J x out}:pC1 J 255 [] (afF x out)=afG x out:=by kernel_rfl
theorem aKd{J x r out}:pC1 J 127 [] (afE x r out)=awg (fun x out=>J 255 [] (afF x out)) x r out:=by kernel_rfl
theorem aKe{J x t68 r out}:pC1 J 254 [] (afD x t68 r out)=awf (fun x r out=>J 127 [] (afE x r out)) x t68 r out:=by kernel_rfl
theorem aKf{J t35 r}:pC1 J 491 [] (ars t35 r)=awe (fun x t68 r out=>J 254 [] (afD x t68 r out)) t35 r:=by kernel_rfl
theorem aKg{J t20 t21 r}:pC1 J 122 [] (afC t20 t21 r)=awd (fun t35 r=>J 491 [] (ars t35 r)) t20 t21 r:=by kernel_rfl
theorem aKh(J:Orc bW)(x:As fB):rfn Tryz.prog afA 6 18446744073709551616 (Ev.get afB) 103 IW J x=afH (fun t20 t21 r=>J 122 [] (afC t20 t21 r)) x.1:=by kernel_rfl
abbrev pC0:=zj afA afB 103 IW
theorem aKi(x:Int)(out:List Int):pC0 255 [] (afF x out)=D7 x out:=gN (by decide) aKc
theorem aKj  (x r out):pC0 127 [] (afE x r out)=awh x r out:=gN (by decide) (aKd.trans (by simp only[aKi];rfl))
theorem aKk  (x t68 r out):pC0 254 [] (afD x t68 r out)=art x t68 r out:=gN (by decide) (aKe.trans (by simp only[aKj];rfl))
theorem aKl  (t35 r):pC0 491 [] (ars t35 r)=afI t35 r:=gN (by decide) (aKf.trans (by simp only[aKk];rfl))
theorem aKm  (t20 t21 r):pC0 122 [] (afC t20 t21 r)=afJ t20 t21 r:=gN (by decide) (aKg.trans (by simp only[aKl];rfl))
theorem aKn(x:As fB):evT Tryz.prog afA 6 18446744073709551616 (Ev.get afB) 103 IW x=D8 x:=by rw[qb_,aKh];simp only[aKm];rfl
theorem awi:ak Tryz.prog (fun _=>True) 103 ⟨IW,D8⟩:=q7_ (aj aKb (aj av3 (aj av4 (aj ae4 bq)))) aKn
@[reducible] def awj:Sh:=shD fF aI
def afK(f x:Int):Option bO :=
 zC (D8 ((rem f 128,x,[],[],0,0),())) fun y=>some (y.1,())
def IX(x:As fF):Option bO:=afK x.1 x.2.1
theorem aKo:ak Tryz.prog (fun _=>True) 98 ⟨awj,IX⟩:=ctn (aj awi bq) 6 fun J x=>by kernel_rfl
@[reducible] def Rz:Sh:=shD [.sl iP,.int .i64] [.int .i64]
def afL:Env:=(cts [])
def afM:List (Nat×Hint):=[(26,⟨[],[0,1,5,20,21,22,23,24,25,28,29,30,31,32,33,34,35,36,37,38,39,40,41,42,43]⟩),(420,⟨[.agd 28 (.int .i64),.agd 29 (.int .u64),.agd 30 (.sl iP),.agd 31 (.int .i64),.agd 34 (.int .i64),.agd 35 (.int .u64),.agd 36 (.int .u64),.agd 37 (.sl iP),.agd 38 (.int .i64),.agd 41 (.int .i64),.agd 42 (.int .u64),.agd 43 .bool,.agd 20 (.sl iP),.agd 21 (.int .i64),.agd 24 (.int .i64),.agd 25 .bool],[0,1,5,44]⟩)]
def IY(c:List gX)(a b:Int):St:=⟨[(0,.d (.sl iP) c),(1,dI a),(5,dI b)],46,[],[],0,[],0⟩
def afN(c:List gX)(a b:Int)(d:Bool):St:=⟨[(0,.d (.sl iP) c),(1,dI a),(5,dI b),(44,dB d)],46,[],[],0,[],0⟩
@[reducible] def zM0:Type:=List gX->Int->Int->Option bI
def A9(e:List gX->Int->Int->Bool->Option bI)(g:zM0)(b:List gX)(c a:Int):Option bI :=
 if lt a (zF (zG b))=true then zC (at? b a) fun d=>if ge c d.1=true then zC (at? b a) fun d=>if gt d.2.1 0=true then zC (at? b a) fun d=>zC (at? b a) fun f=>e b c a (lt (Sx.sub .u64 (cvt .u64 c) (cvt .u64 d.1)) (cvt .u64 f.2.1)) else e b c a false else e b c a false else some (-1,())
def Mj(d:zM0)(c:List gX)(b a:Int)(e:Bool):Option bI :=
 if e=true then some (a,()) else d c b (add .i64 a 1)
def awk(b:zM0)(c:List gX)(a:Int):Option bI :=
 b c a 0
def D9(a:zM0):=Mj a
def afO(c:List gX)(a b:Int):Option bI :=
 ay (fun e d=>A9 (D9 (fun c a b=>e (c,a,b))) (fun c a b=>e (c,a,b)) d.1 d.2.1 d.2.2) 18446744073709551616 (c,a,b)
def IZ(x:As [.sl iP,.int .i64]):Option bI:=awk afO x.1 x.2.1
abbrev pDn:=zp afL afM 189 Rz
theorem aKp{J w1 a b c d}:pDn J 420 [w1] (afN a b c d)=Mj (C w1 IY) a b c d:=by kernel_rfl
theorem aKq{J w1 a b c}:pDn J 26 [w1] (IY a b c)=A9 (C (J 420 [w1]) afN) (C w1 IY) a b c:=by kernel_rfl
abbrev pDm:=zj afL afM 189 Rz
theorem aKr{w1}:C (pDm 420 [w1]) afN=D9 (C w1 IY):=gNC (by decide) fun _=>aKp
theorem aKs:C (pDm 26 []) IY=afO:=gLC (by decide) (by kernel_rfl) (fun _=>by unfold afO;rfl) fun _ _=>aKq.trans (by rw[aKr]<;>kernel_rfl)
theorem awl:ak Tryz.prog (fun _=>True) 189 ⟨Rz,IZ⟩:=zcc (env:=afL) (d:=6) (hs:=Ev.get afM) bq (fun J x=>awk (C (J 26 []) IY) x.1 x.2.1) (fun _ _=>by kernel_rfl) fun _=>by rw[aKs]<;>rfl
@[reducible] def fH:List Ty:=[.sl iP,.int .i64,.int .i64]
@[reducible] def afP:Sh:=shD fH [.bool]
def aru:Env:=(cts [(189,(⟨Rz,IZ⟩:Ct))])
def arv:List (Nat×Hint):=[(26,⟨[],[0,1,2,7,23,24,25,26,27,28]⟩),(841,⟨[.agd 23 (.sl iP),.agd 24 (.int .i64),.agd 27 .bool,.agd 28 .bool],[0,1,2,7,29]⟩)]
def I1(c:List gX)(a d b:Int):St:=⟨[(0,.d (.sl iP) c),(1,dI a),(2,dI d),(7,dI b)],30,[],[],0,[],0⟩
def arw(c:List gX)(a d b:Int)(e:Bool):St:=⟨[(0,.d (.sl iP) c),(1,dI a),(2,dI d),(7,dI b),(29,dB e)],30,[],[],0,[],0⟩
@[reducible] def zM1:Type:=List gX->Int->Int->Int->Bool->Option aD
@[reducible] def zM2:Type:=List gX->Int->Int->Int->Option aD
def RD(f:zM1)(g:zM2)(b:List gX)(d e a:Int):Option aD :=
 if lt a (add .i64 d e)=true then zC (IZ (b,a,())) fun c=>if lt c.1 0=true then f b d e a true else zC (at? b c.1) fun c=>f b d e a !c.2.2.1 else some (true,())
def afQ(e:zM2)(c:List gX)(a d b:Int)(f:Bool):Option aD :=
 if f=true then some (false,()) else e c a d (add .i64 b 1)
def awm(b:zM2)(c:List gX)(a d:Int):Option aD :=
 b c a d a
def RE(a:zM2):=afQ a
def RF(c:List gX)(a d b:Int):Option aD :=
 ay (fun f e=>RD (RE (fun c a d b=>f (c,a,d,b))) (fun c a d b=>f (c,a,d,b)) e.1 e.2.1 e.2.2.1 e.2.2.2) 18446744073709551616 (c,a,d,b)
def qz(x:As fH):Option aD:=awm RF x.1 x.2.1 x.2.2.1
abbrev pDp:=zp aru arv 150 afP
theorem aKt{J w1 a b c d e}:pDp J 841 [w1] (arw a b c d e)=afQ (C w1 I1) a b c d e:=by kernel_rfl
theorem aKu{J w1 a b c d}:pDp J 26 [w1] (I1 a b c d)=RD (C (J 841 [w1]) arw) (C w1 I1) a b c d:=by kernel_rfl
abbrev pDo:=zj aru arv 150 afP
theorem aKv{w1}:C (pDo 841 [w1]) arw=RE (C w1 I1):=gNC (by decide) fun _=>aKt
theorem aKw:C (pDo 26 []) I1=RF:=gLC (by decide) (by kernel_rfl) (fun _=>by unfold RF;rfl) fun _ _=>aKu.trans (by rw[aKv]<;>kernel_rfl)
theorem aKx:ak Tryz.prog (fun _=>True) 150 ⟨afP,qz⟩:=zcc (env:=aru) (d:=6) (hs:=Ev.get arv) (aj awl bq) (fun J x=>awm (C (J 26 []) I1) x.1 x.2.1 x.2.2.1) (fun _ _=>by kernel_rfl) fun _=>by rw[aKw]<;>rfl
@[reducible] def afR:Sh:=shD fH [.bool]
def arx:Env:=(cts [(189,(⟨Rz,IZ⟩:Ct))])
def ary:List (Nat×Hint):=[(26,⟨[],[0,1,2,7,23,24,25,26,27,28,31,32,33,34,35,36,37,38,39,40,41,42,43,44,45,46,47,48,49,50,51,52,53]⟩),(841,⟨[.agd 23 (.sl iP),.agd 24 (.int .i64),.agd 27 .bool,.agd 28 .bool,.agd 31 (.sl iP),.agd 32 (.int .i64),.agd 35 .bool,.agd 36 .bool,.agd 37 (.sl iP),.agd 38 (.int .i64),.agd 41 (.int .i64),.agd 42 (.int .i64),.agd 43 .bool,.agd 44 .bool,.agd 52 .bool,.agd 53 .bool,.agd 45 (.sl iP),.agd 46 (.int .i64),.agd 49 (.int .i64),.agd 50 (.int .i64),.agd 51 .bool],[0,1,2,7,54]⟩)]
def I4(c:List gX)(a d b:Int):St:=⟨[(0,.d (.sl iP) c),(1,dI a),(2,dI d),(7,dI b)],55,[],[],0,[],0⟩
def arz(c:List gX)(a d b:Int)(e:Bool):St:=⟨[(0,.d (.sl iP) c),(1,dI a),(2,dI d),(7,dI b),(54,dB e)],55,[],[],0,[],0⟩
def I5(f:zM1)(j:zM2)(a:List gX)(b d c:Int):Option aD :=
 if lt c (add .i64 b d)=true then zC (IZ (a,c,())) fun e=>if lt e.1 0=true then f a b d c true else zC (at? a e.1) fun g=>if (!g.2.2.2.1)=true then f a b d c true else zC (at? a e.1) fun h=>if h.2.2.2.2=true then zC (at? a e.1) fun i=>if nei i.1 b=true then f a b d c true else zC (at? a e.1) fun e=>f a b d c (nei e.2.1 d) else f a b d c false else some (true,())
def afS(e:zM2)(c:List gX)(a d b:Int)(f:Bool):Option aD :=
 if f=true then some (false,()) else e c a d (add .i64 b 1)
def awn(b:zM2)(c:List gX)(a d:Int):Option aD :=
 b c a d a
def Ea(a:zM2):=afS a
def RH(c:List gX)(a d b:Int):Option aD :=
 ay (fun f e=>I5 (Ea (fun c a d b=>f (c,a,d,b))) (fun c a d b=>f (c,a,d,b)) e.1 e.2.1 e.2.2.1 e.2.2.2) 18446744073709551616 (c,a,d,b)
def qQ(x:As fH):Option aD:=awn RH x.1 x.2.1 x.2.2.1
abbrev pDr:=zp arx ary 151 afR
theorem aKy{J w1 a b c d e}:pDr J 841 [w1] (arz a b c d e)=afS (C w1 I4) a b c d e:=by kernel_rfl
theorem aKz{J w1 a b c d}:pDr J 26 [w1] (I4 a b c d)=I5 (C (J 841 [w1]) arz) (C w1 I4) a b c d:=by kernel_rfl
abbrev pDq:=zj arx ary 151 afR
theorem aKA{w1}:C (pDq 841 [w1]) arz=Ea (C w1 I4):=gNC (by decide) fun _=>aKy
theorem aKB:C (pDq 26 []) I4=RH:=gLC (by decide) (by kernel_rfl) (fun _=>by unfold RH;rfl) fun _ _=>aKz.trans (by rw[aKA]<;>kernel_rfl)
theorem aKC:ak Tryz.prog (fun _=>True) 151 ⟨afR,qQ⟩:=zcc (env:=arx) (d:=6) (hs:=Ev.get ary) (aj awl bq) (fun J x=>awn (C (J 26 []) I4) x.1 x.2.1 x.2.2.1) (fun _ _=>by kernel_rfl) fun _=>by rw[aKB]<;>rfl
@[reducible] def cL:Ty:=.pr (.sl iP) (.sl iP)
@[reducible] def bQ:Ty:=.pr (.sl iP) cL
@[reducible] def RI:Sh:=shD [.pr (.sl iP) bQ,.pr (.int .u8) AF] [.int .u8]
def arA:Env:=(cts [(149,(⟨IB,AY⟩:Ct)),(150,(⟨afP,qz⟩:Ct)),(151,(⟨afR,qQ⟩:Ct))])
def arB:List (Nat×Hint):=[(31,⟨[],[7]⟩),(64255,⟨[],[2,3,5,6,18,25,26,27,28,29,30,31,32,33,63]⟩),(257023,⟨[],[2,3,5,6,25,26,27,28,29,30,31,32,33,73]⟩)]
def RJ(a:Bool):St:=⟨[(7,dB a)],85,[],[],0,[],0⟩
@[reducible] def zM3:Type:=List gX×List gX×List gX×List gX
@[reducible] def zM4:Type:=Int×Int×Int×Int×List Int×List Bool
def afT(c d e:Int)(f:Bool)(b:zM3)(a:zM4):St:=⟨[(2,.pb 0 0),(3,.pb 1 0),(5,dI c),(6,dI d),(18,d8 e),(63,dB f)],85,[],[(0,.box 101 [.d (.sl iP) b.1,.d (.sl iP) b.2.1,.d (.sl iP) b.2.2.1,.d (.sl iP) b.2.2.2]),(1,.box 44 [d8 a.1,d6 a.2.1,d6 a.2.2.1,d6 a.2.2.2.1,dW a.2.2.2.2.1,.d (.sl .bool) a.2.2.2.2.2])],2,[],0⟩
def arC(c d:Int)(e:Bool)(b:zM3)(a:zM4):St:=⟨[(2,.pb 0 0),(3,.pb 1 0),(5,dI c),(6,dI d),(73,dB e)],85,[],[(0,.box 101 [.d (.sl iP) b.1,.d (.sl iP) b.2.1,.d (.sl iP) b.2.2.1,.d (.sl iP) b.2.2.2]),(1,.box 44 [d8 a.1,d6 a.2.1,d6 a.2.2.1,d6 a.2.2.2.1,dW a.2.2.2.2.1,.d (.sl .bool) a.2.2.2.2.2])],2,[],0⟩
def awo(a:Bool):Option dH :=
 if (!a)=true then some (2,()) else some (0,())
@[reducible] def zM5:Type:=Bool->Option dH
def awp(g:zM5)(d:Int->Int->Bool->List gX×List gX×List gX×List gX->Int×Int×Int×Int×List Int×List Bool->Option dH)(b e f:Int)(h:Bool)(c:zM3)(a:zM4):Option dH :=
 if h=true then zC (qQ (c.1,b,zF (zG a.2.2.2.2.2),())) fun i=>g i.1 else if eqi f 6=true then d b e true c a else d b e (eqi f 16) c a
def awq(c:zM5)(e f:Int)(g:Bool)(d:zM3)(b:zM4):Option dH :=
 if g=true then zC (qQ (d.2.2.1,e,zF (zG b.2.2.2.2.1),())) fun a=>c a.1 else zC (qz (d.2.2.1,e,f,())) fun a=>if a.1=true then zC (qQ (d.2.2.1,cvt .i64 b.2.2.2.1,zF (zG b.2.2.2.2.1),())) fun a=>c a.1 else c false
def afU(d:zM5)(e:Int->Int->Int->Bool->List gX×List gX×List gX×List gX->Int×Int×Int×Int×List Int×List Bool->Option dH)(c:zM3)(a:zM4):Option dH :=
 zC (AY (a,())) fun b=>if (!b.1)=true then some (3,()) else if eqi a.1 1=true then zC (qz (c.1,cvt .i64 a.2.1,cvt .i64 a.2.2.1,())) fun b=>d b.1 else if eqi a.1 2=true then zC (qz (c.2.1,cvt .i64 a.2.1,cvt .i64 a.2.2.1,())) fun b=>d b.1 else if eqi a.1 3=true then zC (qz (c.2.2.1,cvt .i64 a.2.1,cvt .i64 a.2.2.1,())) fun b=>d b.1 else if eqi a.1 4=true then zC (qz (c.2.2.2,cvt .i64 a.2.1,cvt .i64 a.2.2.1,())) fun b=>d b.1 else if eqi a.1 5=true then e (cvt .i64 a.2.1) (cvt .i64 a.2.2.1) a.1 true c a else e (cvt .i64 a.2.1) (cvt .i64 a.2.2.1) a.1 (eqi a.1 15) c a
def nW:=awo
def awr:=awq (nW)
def afV:=awp (nW) (awr)
def I6(x:As [.pr (.sl iP) bQ,.pr (.int .u8) AF]):Option dH:=afU nW afV x.1 x.2.1
abbrev pDh:=zp arA arB 99 RI
theorem aKD{J a}:pDh J 31 [] (RJ a)=awo a:=by kernel_rfl
theorem aKE{J a b c d e}:pDh J 257023 [] (arC a b c d e)=awq (C (J 31 []) RJ) a b c d e:=by kernel_rfl
theorem aKF{J a b c d e f}:pDh J 64255 [] (afT a b c d e f)=awp (C (J 31 []) RJ) (C (J 257023 []) arC) a b c d e f:=by kernel_rfl
abbrev pDg:=zj arA arB 99 RI
theorem afW:C (pDg 31 []) RJ=nW:=gNC (by decide) fun _=>aKD
theorem aKG:C (pDg 257023 []) arC=awr:=gNC (by decide) fun _=>aKE.trans (by rw[afW]<;>kernel_rfl)
theorem aKH:C (pDg 64255 []) afT=afV:=gNC (by decide) fun _=>aKF.trans (by rw[afW,aKG]<;>kernel_rfl)
theorem aws:ak Tryz.prog (fun _=>True) 99 ⟨RI,I6⟩:=zcc (env:=arA) (d:=6) (hs:=Ev.get arB) (aj aeP (aj aKx (aj aKC bq))) (fun J x=>afU (C (J 31 []) RJ) (C (J 64255 []) afT) x.1 x.2.1) (fun _ _=>by kernel_rfl) fun _=>by rw[afW,aKH]<;>rfl
@[reducible] def eV:List Ty:=[.pr (.sl iP) bQ]
@[reducible] def afX:Sh:=shD [] eV
def arD:Env:=(cts [])
def arE:List (Nat×Hint):=[(8186,⟨[],[0,1,2]⟩)]
def afY(a:Int)(b c d e:List gX):St:=⟨[(0,.pb 0 0),(1,.pb 1 0),(2,dI a)],51,[],[(0,.box 101 [.k (zK zH 0 0),.k (zK zH 0 0),.k (zK zH 0 0),.k (zK zH 0 0)]),(1,.box 101 [.row 2,.row 3,.row 4,.row 5]),(2,.row iP 168 b),(3,.row iP 168 c),(4,.row iP 168 d),(5,.row iP 168 e)],6,[],0⟩
@[reducible] def zM6:Type:=Int->List gX->List gX->List gX->List gX->Option (As eV)
def awt(f:zM6)(a:Int)(c d b e:List gX):Option (As eV) :=
 if lt a 8=true then need (small (zG b+Nat.succ 0)) (f (add .i64 a 1) c d (b++[(add .i64 512 (mul .i64 32 a),20,true,false,false)]) e) else some ((c,d,b,e),())
def awu(a:zM6):Option (As eV) :=
 a 0 [(0,16,true,true,false)] [(0,8,true,false,false)] [(0,64,true,false,false),(256,8,true,false,false),(272,8,false,true,true),(288,20,false,true,true)] [(0,8,true,false,false)]
def arF(b:Int)(c d e f:List gX):Option (As eV) :=
 ay (fun g a=>awt (fun b c d e f=>g (b,c,d,e,f)) a.1 a.2.1 a.2.2.1 a.2.2.2.1 a.2.2.2.2) 18446744073709551616 (b,c,d,e,f)
def yc(x:As []):Option (As eV):=awu arF
abbrev pFf:=zp arD arE 100 afX
theorem aKI{J w1 a b c d e}:pFf J 8186 [w1] (afY a b c d e)=awt (C w1 afY) a b c d e:=by kernel_rfl
abbrev pFe:=zj arD arE 100 afX
theorem aKJ:C (pFe 8186 []) afY=arF:=gLC (by decide) (by kernel_rfl) (fun _=>by unfold arF;rfl) fun _ _=>aKI.trans (by kernel_rfl)
theorem aKK:ak Tryz.prog (fun _=>True) 100 ⟨afX,yc⟩:=zcc (env:=arD) (d:=6) (hs:=Ev.get arE) bq (fun J x=>awu (C (J 8186 []) afY)) (fun _ _=>by kernel_rfl) fun _=>by rw[aKJ]<;>rfl
@[reducible] def eE:List Ty:=[.pr (.int .u16) Me,.int .i64]
@[reducible] def afZ:Sh:=shD aM eE
def arG:Env:=(cts [])
def arH:List (Nat×Hint):=[(6,⟨[],[0,2,18]⟩)]
def af0(c:List Int)(b:Bool)(a:iZ):St:=⟨[(0,dW c),(2,.pb 0 0),(18,dB b)],51,[],[(0,.box 61 [d6 a.1,d8 a.2.1,d2 a.2.2.1,d6 a.2.2.2.1,d2 a.2.2.2.2])],1,[],0⟩
def af2(a:List Int)(b:Bool)(j:iZ):Option (As eE) :=
 if b=true then some ((0,0,0,0,0),2,()) else zC (at? a 0) fun c=>zC (at? a 1) fun d=>zC (at? a 2) fun e=>zC (at? a 3) fun f=>zC (at? a 4) fun g=>zC (at? a 5) fun h=>zC (at? a 6) fun i=>some ((c,cvt .u8 d,add .u32 (mul .u32 (cvt .u32 e) 65536) (cvt .u32 f),g,add .u32 (mul .u32 (cvt .u32 h) 65536) (cvt .u32 i)),0,())
def af3(b:List Int->Bool->iZ->Option (As eE))(a:List Int):Option (As eE) :=
 if nei (zF (zG a)) 8=true then b a true (0,0,0,0,0) else zC (at? a 7) fun c=>if nei c 0=true then b a true (0,0,0,0,0) else zC (at? a 1) fun c=>b a (ge c 256) (0,0,0,0,0)
def af4:=af2
def af5(x:As aM):Option (As eE):=af3 af4 x.1
abbrev pEv:=zp arG arH 152 afZ
theorem aKL{J a b c}:pEv J 6 [] (af0 a b c)=af2 a b c:=by kernel_rfl
abbrev pEu:=zj arG arH 152 afZ
theorem aKM:C (pEu 6 []) af0=af4:=gNC (by decide) fun _=>aKL
theorem aKN:ak Tryz.prog (fun _=>True) 152 ⟨afZ,af5⟩:=zcc (env:=arG) (d:=6) (hs:=Ev.get arH) bq (fun J x=>af3 (C (J 6 []) af0) x.1) (fun _ _=>by kernel_rfl) fun _=>by rw[aKM]<;>rfl
@[reducible] def awv:Sh:=shD cF cF
def aKO:Env:=(cts [(2000035,Ev.iq)])
def aKP(a:qf_):Option (As cF) :=
 some ((a.1,(0,0),0,0,a.2.2.2.2.1,zSt,a.2.2.2.2.2.2),())
def Eb(x:As cF):Option (As cF):=aKP x.1
theorem af6:ak Tryz.prog (fun _=>True) 165 ⟨awv,Eb⟩:=ctn (env:=aKO) (aj Ev.gI bq) 6 fun J x=>by kernel_rfl
@[reducible] def af7:Sh:=shD [.int .u32,.int .u8] [.int .u32]
def af8:Env:=(cts [])
def af9:List (Nat×Hint):=[(58,⟨[],[0,5]⟩),(233,⟨[],[0,5]⟩)]
def I7(b a:Int):St:=⟨[(0,d2 b),(5,dI a)],24,[],[],0,[],0⟩
def aga(b a:Int):St:=⟨[(0,d2 b),(5,dI a)],24,[],[],0,[],0⟩
@[reducible] def zM7:Type:=Int->Int->Option aY
def RL(c d:zM7)(a b:Int):Option aY :=
 if lt b 8=true then if eqi (rem a 2) 1=true then c (Sx.iA .u32 (quo .u32 a 2) 3988292384) b else c (quo .u32 a 2) b else some (a,())
def agb(b:zM7)(c a:Int):Option aY :=
 b c (add .i64 a 1)
def aww(b:zM7)(c a:Int):Option aY :=
 b (Sx.iA .u32 c (cvt .u32 a)) 0
def RN(a:zM7):=agb a
def RO(b a:Int):Option aY :=
 ay (fun d c=>RL (RN (fun b a=>d (b,a))) (fun b a=>d (b,a)) c.1 c.2) 18446744073709551616 (b,a)
def Mk(x:As [.int .u32,.int .u8]):Option aY:=aww RO x.1 x.2.1
abbrev pDt:=zp af8 af9 234 af7
theorem aKQ{J w1 a b}:pDt J 233 [w1] (aga a b)=agb (C w1 I7) a b:=by kernel_rfl
theorem aKR{J w1 a b}:pDt J 58 [w1] (I7 a b)=RL (C (J 233 [w1]) aga) (C w1 I7) a b:=by kernel_rfl
abbrev pDs:=zj af8 af9 234 af7
theorem aKS{w1}:C (pDs 233 [w1]) aga=RN (C w1 I7):=gNC (by decide) fun _=>aKQ
theorem aKT:C (pDs 58 []) I7=RO:=gLC (by decide) (by kernel_rfl) (fun _=>by unfold RO;rfl) fun _ _=>aKR.trans (by rw[aKS]<;>kernel_rfl)
theorem aKU:ak Tryz.prog (fun _=>True) 234 ⟨af7,Mk⟩:=zcc (env:=af8) (d:=6) (hs:=Ev.get af9) bq (fun J x=>aww (C (J 58 []) I7) x.1 x.2.1) (fun _ _=>by kernel_rfl) fun _=>by rw[aKT]<;>rfl
@[reducible] def arI:Sh:=shD [.int .u32,.sl (.int .u8)] [.int .u32]
def agc:Env:=(cts [(234,(⟨af7,Mk⟩:Ct))])
def age:List (Nat×Hint):=[(26,⟨[],[0,1,5]⟩)]
def agf(c:Int)(a:List Int)(b:Int):St:=⟨[(0,d2 c),(1,dL a),(5,dI b)],19,[],[],0,[],0⟩
def RP(e:Int->List Int->Int->Option aY)(d:Int)(a:List Int)(b:Int):Option aY :=
 if lt b (zF (zG a))=true then zC (at? a b) fun c=>zC (Mk (d,c,())) fun c=>e c.1 a (add .i64 b 1) else some (d,())
def awx(b:Int->List Int->Int->Option aY)(c:Int)(a:List Int):Option aY :=
 b c a 0
def RQ(d:Int)(a:List Int)(b:Int):Option aY :=
 ay (fun e c=>RP (fun d a b=>e (d,a,b)) c.1 c.2.1 c.2.2) 18446744073709551616 (d,a,b)
def agh(x:As [.int .u32,.sl (.int .u8)]):Option aY:=awx RQ x.1 x.2.1
abbrev pDv:=zp agc age 232 arI
theorem aKV{J w1 a b c}:pDv J 26 [w1] (agf a b c)=RP (C w1 agf) a b c:=by kernel_rfl
abbrev pDu:=zj agc age 232 arI
theorem aKW:C (pDu 26 []) agf=RQ:=gLC (by decide) (by kernel_rfl) (fun _=>by unfold RQ;rfl) fun _ _=>aKV.trans (by kernel_rfl)
theorem aKX:ak Tryz.prog (fun _=>True) 232 ⟨arI,agh⟩:=zcc (env:=agc) (d:=6) (hs:=Ev.get age) (aj aKU bq) (fun J x=>awx (C (J 26 []) agf) x.1 x.2.1) (fun _ _=>by kernel_rfl) fun _=>by rw[aKW]<;>rfl
@[reducible] def awy:Sh:=shD aI [.int .u32]
def agi(b:List Int):Option aY :=
 zC (agh (4294967295,b,())) fun y=>some (Sx.iA .u32 y.1 4294967295,())
def Ml(x:As aI):Option aY:=agi x.1
theorem aKY:ak Tryz.prog (fun _=>True) 228 ⟨awy,Ml⟩:=ctn (aj aKX bq) 6 fun J x=>by kernel_rfl
@[reducible] def agj:Sh:=shD aM [.int .u32]
def arJ:Env:=(cts [(228,(⟨awy,Ml⟩:Ct))])
def arK:List (Nat×Hint):=[(7,⟨[],[3]⟩),(58,⟨[.row 3 5],[0,3,4]⟩)]
def agk(l:List Int)(i:Int)(b:List Int):St:=⟨[(0,dW l),(3,.row 0),(4,dI i)],28,[],[(0,.row (.int .u8) 5 b)],1,[],0⟩
def agl(b:List Int):St:=⟨[(3,.row 0)],28,[],[(0,.row (.int .u8) 5 b)],1,[],0⟩
def I8(d:List Int->Option aY)(e:List Int->Int->List Int->Option aY)(b:List Int)(a:Int)(c:List Int):Option aY :=
 if lt a (zF (zG b))=true then zC (at? b a) fun f=>zC (at? b a) fun g=>need (small (zG c+Nat.succ (Nat.succ 0))) (e b (add .i64 a 1) (c++[cvt .u8 (quo .u16 f 256),cvt .u8 (rem g 256)])) else d c
def agm(b:List Int):Option aY :=
 zC (Ml (b,())) fun y=>some (y.1,())
def awz(a:List Int->Int->List Int->Option aY)(b:List Int):Option aY :=
 a b 0 []
def awC:=agm
def RU(c:List Int)(b:Int)(a:List Int):Option aY :=
 ay (fun e d=>I8 (awC) (fun c b a=>e (c,b,a)) d.1 d.2.1 d.2.2) 18446744073709551616 (c,b,a)
def agn(x:As aM):Option aY:=awz RU x.1
abbrev pDx:=zp arJ arK 218 agj
theorem aKZ{J a}:pDx J 7 [] (agl a)=agm a:=by kernel_rfl
theorem aK0{J w1 a b c}:pDx J 58 [w1] (agk a b c)=I8 (C (J 7 []) agl) (C w1 agk) a b c:=by kernel_rfl
abbrev pDw:=zj arJ arK 218 agj
theorem aK1:C (pDw 7 []) agl=awC:=gNC (by decide) fun _=>aKZ
theorem aK2:C (pDw 58 []) agk=RU:=gLC (by decide) (by kernel_rfl) (fun _=>by unfold RU;rfl) fun _ _=>aK0.trans (by rw[aK1]<;>kernel_rfl)
theorem aK3:ak Tryz.prog (fun _=>True) 218 ⟨agj,agn⟩:=zcc (env:=arJ) (d:=6) (hs:=Ev.get arK) (aj aKY bq) (fun J x=>awz (C (J 58 []) agk) x.1) (fun _ _=>by kernel_rfl) fun _=>by rw[aK2]<;>rfl
@[reducible] def agq:Sh:=shD [.sl gP] [.int .u32]
def agr:Env:=(cts [(170,(⟨Io,AR⟩:Ct)),(218,(⟨agj,agn⟩:Ct))])
def ags:List (Nat×Hint):=[(7,⟨[],[3]⟩),(58,⟨[.row 3 23],[0,3,4]⟩)]
@[reducible] def zM8:Type:=List (Int×List Int)
def agt(c:zM8)(b:Int)(a:List Int):St:=⟨[(0,.d (.sl gP) c),(3,.row 0),(4,dI b)],20,[],[(0,.row (.int .u16) 23 a)],1,[],0⟩
def agu(a:List Int):St:=⟨[(3,.row 0)],20,[],[(0,.row (.int .u16) 23 a)],1,[],0⟩
@[reducible] def zM9:Type:=List (Int×List Int)->Int->List Int->Option aY
def I9(e:List Int->Option aY)(f:zM9)(d:zM8)(c:Int)(b:List Int):Option aY :=
 if lt c (zF (zG d))=true then zC (at? d c) fun a=>zC (AR (a,())) fun a=>need (small (zG b+zG a.1)) (f d (add .i64 c 1) (b++a.1)) else e b
def agv(a:List Int):Option aY :=
 zC (agn (a,())) fun b=>some (b.1,())
def awD(a:zM9)(b:zM8):Option aY :=
 a b 0 []
def agw:=agv
def RV(c:zM8)(b:Int)(a:List Int):Option aY :=
 ay (fun e d=>I9 (agw) (fun c b a=>e (c,b,a)) d.1 d.2.1 d.2.2) 18446744073709551616 (c,b,a)
def Mm(x:As [.sl gP]):Option aY:=awD RV x.1
abbrev pEl:=zp agr ags 208 agq
theorem aK4{J a}:pEl J 7 [] (agu a)=agv a:=by kernel_rfl
theorem aK5{J w1 a b c}:pEl J 58 [w1] (agt a b c)=I9 (C (J 7 []) agu) (C w1 agt) a b c:=by kernel_rfl
abbrev pEk:=zj agr ags 208 agq
theorem aK6:C (pEk 7 []) agu=agw:=gNC (by decide) fun _=>aK4
theorem aK7:C (pEk 58 []) agt=RV:=gLC (by decide) (by kernel_rfl) (fun _=>by unfold RV;rfl) fun _ _=>aK5.trans (by rw[aK6]<;>kernel_rfl)
theorem aK8:ak Tryz.prog (fun _=>True) 208 ⟨agq,Mm⟩:=zcc (env:=agr) (d:=6) (hs:=Ev.get ags) (aj aec (aj aK3 bq)) (fun J x=>awD (C (J 58 []) agt) x.1) (fun _ _=>by kernel_rfl) fun _=>by rw[aK7]<;>rfl
@[reducible] def agx:Sh:=shD [.pr (.int .u32) qN,.int .i64,.int .u32] [.bool]
def arL:Env:=(cts [(2000033,Ev.iq),(144,(⟨AO,qw⟩:Ct)),(208,(⟨agq,Mm⟩:Ct))])
def arM:List (Nat×Hint):=[(7,⟨[],[2,3]⟩),(58,⟨[],[1,2,3,7]⟩),(6,⟨[],[1,2,3,13]⟩)]
@[reducible] def Ba:Type:=Int×List Bool×List (Int×List Int)
def agy(b a:Int)(c:Ba)(d:Bool):St:=⟨[(1,dI b),(2,d2 a),(3,.pe bL c),(13,dB d)],31,[],[],0,[],0⟩
def agz(b a:Int)(d:Ba)(c:Int):St:=⟨[(1,dI b),(2,d2 a),(3,.pe bL d),(7,dI c)],31,[],[],0,[],0⟩
def agA(a:Int)(b:Ba):St:=⟨[(2,d2 a),(3,.pe bL b)],31,[],[],0,[],0⟩
@[reducible] def aAO:Type:=Int->Int->Int×List Bool×List (Int×List Int)->Int->Option aD
def awE(c:aAO)(b a:Int)(d:Ba)(e:Bool):Option aD :=
 if e=true then some (false,()) else c b a d 0
def Ec(e:Int->Int×List Bool×List (Int×List Int)->Option aD)(f:aAO)(d c:Int)(b:Ba)(a:Int):Option aD :=
 if lt a 8=true then zC (at? b.2.1 a) fun g=>if Sx.neb g (lt a d)=true then some (false,()) else f d c b (add .i64 a 1) else e c b
def agB(b:Int)(c:Ba):Option aD :=
 zC (qw (c,())) fun a=>zC (Mm (a.1,())) fun a=>some (eqi a.1 b,())
def agC(c:Int->Int->Int×List Bool×List (Int×List Int)->Bool->Option aD)(d:Ba)(a b:Int):Option aD :=
 if lt a 0=true then c a b d true else c a b d (gt a 8)
def Ja:=agB
def agD(c b:Int)(a:Ba)(d:Int):Option aD :=
 ay (fun e a=>Ec (Ja) (fun c b a d=>e (c,b,a,d)) a.1 a.2.1 a.2.2.1 a.2.2.2) 18446744073709551616 (c,b,a,d)
def agE:=awE (agD)
def RX(x:As [.pr (.int .u32) qN,.int .i64,.int .u32]):Option aD:=agC agE x.1 x.2.1 x.2.2.1
abbrev pEn:=zp arL arM 190 agx
theorem aK9{J a b}:pEn J 7 [] (agA a b)=agB a b:=by kernel_rfl
theorem aLa{J w2 a b c d}:pEn J 58 [w2] (agz a b c d)=Ec (C (J 7 []) agA) (C w2 agz) a b c d:=by kernel_rfl
theorem aLb{J a b c d}:pEn J 6 [] (agy a b c d)=awE (C (J 58 []) agz) a b c d:=by kernel_rfl
abbrev pEm:=zj arL arM 190 agx
theorem aLc:C (pEm 7 []) agA=Ja:=gNC (by decide) fun _=>aK9
theorem aLd:C (pEm 58 []) agz=agD:=gLC (by decide) (by kernel_rfl) (fun _=>by unfold agD;rfl) fun _ _=>aLa.trans (by rw[aLc]<;>kernel_rfl)
theorem aLe:C (pEm 6 []) agy=agE:=gNC (by decide) fun _=>aLb.trans (by rw[aLd]<;>kernel_rfl)
theorem aLf:ak Tryz.prog (fun _=>True) 190 ⟨agx,RX⟩:=zcc (env:=arL) (d:=6) (hs:=Ev.get arM) (aj Ev.gI (aj QU (aj aK8 bq))) (fun J x=>agC (C (J 6 []) agy) x.1 x.2.1 x.2.2.1) (fun _ _=>by kernel_rfl) fun _=>by rw[aLe]<;>rfl
@[reducible] def agF:Sh:=shD [.sl gP] [.bool]
def agG:Env:=(cts [(145,(⟨vJ,qO⟩:Ct))])
def agH:List (Nat×Hint):=[(26,⟨[],[0,3]⟩)]
def agI(l:zM8)(i:Int):St:=⟨[(0,.d (.sl gP) l),(3,dI i)],16,[],[],0,[],0⟩
def Ed(d:List (Int×List Int)->Int->Option aD)(b:zM8)(a:Int):Option aD :=
 if lt a (zF (zG b))=true then zC (at? b a) fun c=>zC (qO (c,())) fun c=>if (!c.1)=true then some (false,()) else d b (add .i64 a 1) else some (true,())
def awF(a:List (Int×List Int)->Int->Option aD)(b:zM8):Option aD :=
 a b 0
def RY(b:zM8)(a:Int):Option aD :=
 ay (fun d c=>Ed (fun b a=>d (b,a)) c.1 c.2) 18446744073709551616 (b,a)
def Mq(x:As [.sl gP]):Option aD:=awF RY x.1
abbrev pD5:=zp agG agH 209 agF
theorem aLg{J w1 a b}:pD5 J 26 [w1] (agI a b)=Ed (C w1 agI) a b:=by kernel_rfl
abbrev pD4:=zj agG agH 209 agF
theorem aLh:C (pD4 26 []) agI=RY:=gLC (by decide) (by kernel_rfl) (fun _=>by unfold RY;rfl) fun _ _=>aLg.trans (by kernel_rfl)
theorem aLi:ak Tryz.prog (fun _=>True) 209 ⟨agF,Mq⟩:=zcc (env:=agG) (d:=6) (hs:=Ev.get agH) (aj QW bq) (fun J x=>awF (C (J 26 []) agI) x.1) (fun _ _=>by kernel_rfl) fun _=>by rw[aLh]<;>rfl
@[reducible] def eT:List Ty:=[.int .u16,.bool]
@[reducible] def agJ:Sh:=shD [.sl gP,.int .i64] eT
def arN:Env:=(cts [])
def arO:List (Nat×Hint):=[(26,⟨[],[0,1,6,25,26,27,28,29,30,31,32]⟩),(841,⟨[.agd 25 (.int .i64),.agd 26 (.sl gP),.agd 27 (.int .i64),.agd 30 aA,.agd 31 (.int .i64),.agd 32 .bool],[0,1,6,7,33]⟩)]
def Jb(c:zM8)(a b:Int):St:=⟨[(0,.d (.sl gP) c),(1,dI a),(6,dI b)],42,[],[],0,[],0⟩
def agK(d:zM8)(a b c:Int)(e:Bool):St:=⟨[(0,.d (.sl gP) d),(1,dI a),(6,dI b),(7,dI c),(33,dB e)],42,[],[],0,[],0⟩
@[reducible] def eI:Type:=As eT
@[reducible] def agL:Type:=List (Int×List Int)->Int->Int->Option eI
def Jc(e:List (Int×List Int)->Int->Int->Int->Bool->Option eI)(g:agL)(c:zM8)(a b:Int):Option eI :=
 if ge b 0=true then zC (at? c b) fun d=>if ge (Sx.sub .i64 a d.1) 0=true then zC (at? c b) fun f=>e c a b (Sx.sub .i64 a d.1) (lt (Sx.sub .i64 a d.1) (zF (zG f.2))) else e c a b (Sx.sub .i64 a d.1) false else some (0,false,())
def Jd(f:agL)(c:zM8)(d b e:Int)(g:Bool):Option eI :=
 if g=true then zC (at? c b) fun a=>zC (at? a.2 e) fun a=>some (a,true,()) else f c d (Sx.sub .i64 b 1)
def awG(c:agL)(a:zM8)(b:Int):Option eI :=
 c a b (Sx.sub .i64 (zF (zG a)) 1)
def Je(a:agL):=Jd a
def agM(c:zM8)(a b:Int):Option eI :=
 ay (fun e d=>Jc (Je (fun c a b=>e (c,a,b))) (fun c a b=>e (c,a,b)) d.1 d.2.1 d.2.2) 18446744073709551616 (c,a,b)
def agN(x:As [.sl gP,.int .i64]):Option eI:=awG agM x.1 x.2.1
abbrev pD7:=zp arN arO 210 agJ
theorem aLj{J w1 a b c d e}:pD7 J 841 [w1] (agK a b c d e)=Jd (C w1 Jb) a b c d e:=by kernel_rfl
theorem aLk{J w1 a b c}:pD7 J 26 [w1] (Jb a b c)=Jc (C (J 841 [w1]) agK) (C w1 Jb) a b c:=by kernel_rfl
abbrev pD6:=zj arN arO 210 agJ
theorem aLl{w1}:C (pD6 841 [w1]) agK=Je (C w1 Jb):=gNC (by decide) fun _=>aLj
theorem aLm:C (pD6 26 []) Jb=agM:=gLC (by decide) (by kernel_rfl) (fun _=>by unfold agM;rfl) fun _ _=>aLk.trans (by rw[aLl]<;>kernel_rfl)
theorem aLn:ak Tryz.prog (fun _=>True) 210 ⟨agJ,agN⟩:=zcc (env:=arN) (d:=6) (hs:=Ev.get arO) bq (fun J x=>awG (C (J 26 []) Jb) x.1 x.2.1) (fun _ _=>by kernel_rfl) fun _=>by rw[aLm]<;>rfl
@[reducible] def agO:Sh:=shD [.sl (.int .u16),.sl gP] bH
def arP:Env:=(cts [(209,(⟨agF,Mq⟩:Ct)),(210,(⟨agJ,agN⟩:Ct))])
def arQ:List (Nat×Hint):=[(31,⟨[],[6]⟩),(250,⟨[.row 6 23],[0,1,6,7]⟩),(8009,⟨[],[0,1,6,7,8]⟩)]
def Jf(b:List Int)(c:zM8)(a:Int)(d:List Int):St:=⟨[(0,dW b),(1,.d (.sl gP) c),(6,.row 0),(7,dI a)],37,[],[(0,.row (.int .u16) 23 d)],1,[],0⟩
def agP(b:List Int)(c:zM8)(a e:Int)(d:List Int):St:=⟨[(0,dW b),(1,.d (.sl gP) c),(6,.row 0),(7,dI a),(8,d6 e)],37,[],[(0,.row (.int .u16) 23 d)],1,[],0⟩
def agQ(a:List Int):St:=⟨[(6,.row 0)],37,[],[(0,.row (.int .u16) 23 a)],1,[],0⟩
@[reducible] def agR:Type:=List Int->List (Int×List Int)->Int->List Int->Option dY
def Jg(f:List Int->List (Int×List Int)->Int->Int->List Int->Option dY)(g:List Int->Option dY)(h:agR)(c:List Int)(d:zM8)(a:Int)(e:List Int):Option dY :=
 if lt a 64=true then zC (agN (d,a,())) fun b=>if (!b.2.1)=true then zC (at? c a) fun b=>f c d a b e else f c d a b.1 e else g e
def agS(e:agR)(c:List Int)(d:zM8)(b f:Int)(a:List Int):Option dY :=
 need (small (zG a+Nat.succ 0)) (e c d (add .i64 b 1) (a++[f]))
def awH(a:List Int):Option dY :=
 some (a,0,())
def agT(c:agR)(a:List Int)(b:zM8):Option dY :=
 if nei (zF (zG a)) 64=true then some ([],21,()) else zC (Mq (b,())) fun d=>if (!d.1)=true then some ([],20,()) else c a b 0 []
def RZ(a:agR):=agS a
def awI:=awH
def Jh(b:List Int)(c:zM8)(a:Int)(d:List Int):Option dY :=
 ay (fun f e=>Jg (RZ (fun b c a d=>f (b,c,a,d))) (awI) (fun b c a d=>f (b,c,a,d)) e.1 e.2.1 e.2.2.1 e.2.2.2) 18446744073709551616 (b,c,a,d)
def R3(x:As [.sl (.int .u16),.sl gP]):Option dY:=agT Jh x.1 x.2.1
abbrev pD1:=zp arP arQ 191 agO
theorem aLo{J w1 a b c d e}:pD1 J 8009 [w1] (agP a b c d e)=agS (C w1 Jf) a b c d e:=by kernel_rfl
theorem aLp{J a}:pD1 J 31 [] (agQ a)=awH a:=by kernel_rfl
theorem aLq{J w1 a b c d}:pD1 J 250 [w1] (Jf a b c d)=Jg (C (J 8009 [w1]) agP) (C (J 31 []) agQ) (C w1 Jf) a b c d:=by kernel_rfl
abbrev pD0:=zj arP arQ 191 agO
theorem aLr{w1}:C (pD0 8009 [w1]) agP=RZ (C w1 Jf):=gNC (by decide) fun _=>aLo
theorem aLs:C (pD0 31 []) agQ=awI:=gNC (by decide) fun _=>aLp
theorem aLt:C (pD0 250 []) Jf=Jh:=gLC (by decide) (by kernel_rfl) (fun _=>by unfold Jh;rfl) fun _ _=>aLq.trans (by rw[aLr,aLs]<;>kernel_rfl)
theorem aLu:ak Tryz.prog (fun _=>True) 191 ⟨agO,R3⟩:=zcc (env:=arP) (d:=6) (hs:=Ev.get arQ) (aj aLi (aj aLn bq)) (fun J x=>agT (C (J 250 []) Jf) x.1 x.2.1) (fun _ _=>by kernel_rfl) fun _=>by rw[aLt]<;>rfl
@[reducible] def agU:Sh:=shD [.pr aA nD,.pr (.int .u16) Me] aZ
def agV:Env:=(cts [(96,(⟨QZ,qx⟩:Ct)),(144,(⟨AO,qw⟩:Ct)),(165,(⟨awv,Eb⟩:Ct)),(190,(⟨agx,RX⟩:Ct)),(191,(⟨agO,R3⟩:Ct))])
def agW:List (Nat×Hint):=[(31,⟨[],[2,4]⟩),(32127,⟨[],[2,4,59]⟩),(64250,⟨[],[2,3,4,174]⟩),(16058,⟨[],[2,4,152]⟩),(8028,⟨[],[2,3,4,130,136,137,138,139,140,143,144,145,146,147,148,149,150,151]⟩),(4011,⟨[],[2,3,4]⟩),(8022,⟨[],[2,3,4,102]⟩),(4010,⟨[],[2,3,4,91,97,98,99,100,101]⟩),(2004,⟨[],[2,3,4,80,86,87,88,89,90,97,98,99,100,101]⟩),(30,⟨[],[2,3,4,40,54,55,56,57,58,70,71,72,73,74,75,76,77,78,79,86,87,88,89,90,97,98,99,100,101,125,126,127,128,129,136,137,138,139,140,143,144,145,146,147,148,149,150,151,169,170,171,172,173]⟩),(14,⟨[],[2,3,4,27,34,35,36,37,38,39,54,55,56,57,58,70,71,72,73,74,75,76,77,78,79,86,87,88,89,90,97,98,99,100,101,125,126,127,128,129,136,137,138,139,140,143,144,145,146,147,148,149,150,151,169,170,171,172,173]⟩)]
def agX(b e:Int)(d:Bool)(c:List gq)(a:iZ)(f:List gq):St:=⟨[(2,.prw 0 b 32 0),(3,.pb 1 0),(4,.prw 2 e 32 0),(27,dB d)],193,[],[(0,.row aH 35 c),(1,.box 61 [d6 a.1,d8 a.2.1,d2 a.2.2.1,d6 a.2.2.2.1,d2 a.2.2.2.2]),(2,.row aH 35 f)],3,[],0⟩
def agY(b d:Int)(e:Bool)(c:List gq)(a:iZ)(f:List gq):St:=⟨[(2,.prw 0 b 32 0),(3,.pb 1 0),(4,.prw 2 d 32 0),(40,dB e)],193,[],[(0,.row aH 35 c),(1,.box 61 [d6 a.1,d8 a.2.1,d2 a.2.2.1,d6 a.2.2.2.1,d2 a.2.2.2.2]),(2,.row aH 35 f)],3,[],0⟩
def agZ(b d:Int)(f:Bool)(c:List gq)(a:iZ)(e:List gq):St:=⟨[(2,.prw 0 b 32 0),(3,.pb 1 0),(4,.prw 2 d 32 0),(80,dB f)],193,[],[(0,.row aH 35 c),(1,.box 61 [d6 a.1,d8 a.2.1,d2 a.2.2.1,d6 a.2.2.2.1,d2 a.2.2.2.2]),(2,.row aH 35 e)],3,[],0⟩
def ag0(b e:Int)(d:Bool)(c:List gq)(a:iZ)(f:List gq):St:=⟨[(2,.prw 0 b 32 0),(3,.pb 1 0),(4,.prw 2 e 32 0),(130,dB d)],193,[],[(0,.row aH 35 c),(1,.box 61 [d6 a.1,d8 a.2.1,d2 a.2.2.1,d6 a.2.2.2.1,d2 a.2.2.2.2]),(2,.row aH 35 f)],3,[],0⟩
def ag1(b e:Int)(d:Bool)(c:List gq)(a:iZ)(f:List gq):St:=⟨[(2,.prw 0 b 32 0),(3,.pb 1 0),(4,.prw 2 e 32 0),(174,dB d)],193,[],[(0,.row aH 35 c),(1,.box 61 [d6 a.1,d8 a.2.1,d2 a.2.2.1,d6 a.2.2.2.1,d2 a.2.2.2.2]),(2,.row aH 35 f)],3,[],0⟩
def ag2(a c:Int)(e:Bool)(b d:List gq):St:=⟨[(2,.prw 0 a 32 0),(4,.prw 1 c 32 0),(59,dB e)],193,[],[(0,.row aH 35 b),(1,.row aH 35 d)],2,[],0⟩
def ag3(b d:Int)(f:Bool)(c:List gq)(a:iZ)(e:List gq):St:=⟨[(2,.prw 0 b 32 0),(3,.pb 1 0),(4,.prw 2 d 32 0),(91,dB f)],193,[],[(0,.row aH 35 c),(1,.box 61 [d6 a.1,d8 a.2.1,d2 a.2.2.1,d6 a.2.2.2.1,d2 a.2.2.2.2]),(2,.row aH 35 e)],3,[],0⟩
def ag4(a d:Int)(c:Bool)(b e:List gq):St:=⟨[(2,.prw 0 a 32 0),(4,.prw 1 d 32 0),(152,dB c)],193,[],[(0,.row aH 35 b),(1,.row aH 35 e)],2,[],0⟩
def Ji(a c:Int)(b d:List gq):St:=⟨[(2,.prw 0 a 32 0),(4,.prw 1 c 32 0)],193,[],[(0,.row aH 35 b),(1,.row aH 35 d)],2,[],0⟩
def ag5(b e:Int)(d:Bool)(c:List gq)(a:iZ)(f:List gq):St:=⟨[(2,.prw 0 b 32 0),(3,.pb 1 0),(4,.prw 2 e 32 0),(102,dB d)],193,[],[(0,.row aH 35 c),(1,.box 61 [d6 a.1,d8 a.2.1,d2 a.2.2.1,d6 a.2.2.2.1,d2 a.2.2.2.2]),(2,.row aH 35 f)],3,[],0⟩
def ag6(b d:Int)(c:List gq)(a:iZ)(e:List gq):St:=⟨[(2,.prw 0 b 32 0),(3,.pb 1 0),(4,.prw 2 d 32 0)],193,[],[(0,.row aH 35 c),(1,.box 61 [d6 a.1,d8 a.2.1,d2 a.2.2.1,d6 a.2.2.2.1,d2 a.2.2.2.2]),(2,.row aH 35 e)],3,[],0⟩
def awJ(g:Int->Int->Bool->List gq->iZ->List gq->Option aV)(c b:Int)(h:Bool)(d:List gq)(f:iZ)(e:List gq):Option aV :=
 if h=true then zC (at? d c) fun a=>zC (at? e b) fun i=>zC (at? (List.set e (zI b) a) b) fun j=>zC (at? (List.set e (zI b) a) b) fun a=>some (a,2,()) else zC (at? d c) fun a=>if nei a.2.1.1 0=true then zC (at? d c) fun a=>g c b (nei a.2.1.1 f.1) d f e else g c b false d f e
@[reducible] def aAP:Type:=Int->Int->Bool->List gq->List gq->Option aV
def awK(g h i:Int->Int->Bool->List gq->iZ->List gq->Option aV)(j:aAP)(c b:Int)(m:Bool)(d:List gq)(f:iZ)(e:List gq):Option aV :=
 if m=true then zC (at? d c) fun a=>zC (at? e b) fun k=>zC (at? (List.set e (zI b) a) b) fun l=>zC (at? (List.set e (zI b) a) b) fun a=>some (a,22,()) else if eqi f.2.1 1=true then zC (at? d c) fun a=>if le f.2.2.1 a.2.2.2.2.1=true then g c b true d f e else zC (at? d c) fun a=>if nei a.2.2.1 0=true then zC (at? d c) fun a=>g c b (lt f.2.2.1 a.2.2.2.1) d f e else g c b false d f e else if eqi f.2.1 2=true then zC (at? d c) fun a=>if eqi a.2.2.1 2=true then zC (at? d c) fun a=>h c b (eqi a.2.2.2.1 f.2.2.1) d f e else h c b false d f e else if eqi f.2.1 3=true then zC (at? d c) fun a=>if eqi a.2.2.2.2.1 f.2.2.1=true then zC (at? d c) fun a=>zC (at? e b) fun k=>zC (at? (List.set e (zI b) a) b) fun l=>zC (at? (List.set e (zI b) a) b) fun a=>some (a,0,()) else zC (at? d c) fun a=>if nei a.2.2.1 2=true then i c b true d f e else zC (at? d c) fun a=>i c b (nei a.2.2.2.1 f.2.2.1) d f e else zC (at? d c) fun a=>if le f.2.2.1 a.2.2.2.2.1=true then zC (at? d c) fun a=>zC (at? e b) fun k=>zC (at? (List.set e (zI b) a) b) fun l=>zC (at? (List.set e (zI b) a) b) fun a=>some (a,23,()) else zC (at? d c) fun a=>if nei a.2.2.1 0=true then zC (at? d c) fun a=>j c b (eqi a.2.2.2.1 f.2.2.1) d e else j c b false d e
def awL(g:Int->Int->Bool->List gq->iZ->List gq->Option aV)(c b:Int)(h:Bool)(d:List gq)(f:iZ)(e:List gq):Option aV :=
 if h=true then zC (at? d c) fun a=>zC (at? e b) fun i=>zC (at? (List.set e (zI b) a) b) fun j=>zC (at? (List.set e (zI b) a) b) fun a=>some (a,23,()) else zC (at? d c) fun a=>if eqi a.2.2.1 2=true then zC (at? d c) fun a=>g c b (eqi a.2.2.2.1 f.2.2.1) d f e else g c b false d f e
def awM(g:aAP)(c b:Int)(h:Bool)(d:List gq)(f:iZ)(e:List gq):Option aV :=
 if h=true then zC (at? d c) fun a=>zC (at? e b) fun i=>zC (at? (List.set e (zI b) a) b) fun j=>zC (at? (List.set e (zI b) a) b) fun a=>some (a,0,()) else zC (at? d c) fun a=>if nei a.2.2.1 1=true then g c b true d e else zC (at? d c) fun a=>if nei a.2.2.2.1 f.2.2.1=true then g c b true d e else zC (at? d c) fun a=>zC (RX (a.2.2.2.2.2.1,cvt .i64 f.2.2.2.1,f.2.2.2.2,())) fun a=>g c b (!a.1) d e
@[reducible] def ag7:Type:=Int->Int->List gq->List gq->Option aV
def awN(j:ag7)(a e:Int)(k:Bool)(d:List gq)(h:iZ)(g:List gq):Option aV :=
 if k=true then zC (at? d a) fun c=>zC (at? g e) fun f=>zC (at? (List.set g (zI e) c) e) fun i=>zC (at? (List.set g (zI e) c) e) fun c=>some (c,23,()) else zC (at? d a) fun c=>zC (at? d a) fun i=>zC (qw (i.2.2.2.2.2.1,())) fun l=>zC (R3 (c.1,l.1,())) fun c=>zC (at? d a) fun f=>zC (at? (List.set d (zI a) (c.1,f.2)) a) fun b=>zC (at? (List.set (List.set d (zI a) (c.1,f.2)) (zI a) (b.1,b.2.1,b.2.2.1,b.2.2.2.1,h.2.2.1,b.2.2.2.2.2)) a) fun m=>zC (Eb (m,())) fun n=>zC (at? (List.set (List.set d (zI a) (c.1,f.2)) (zI a) (b.1,b.2.1,b.2.2.1,b.2.2.2.1,h.2.2.1,b.2.2.2.2.2)) a) fun o=>j a e (List.set (List.set (List.set d (zI a) (c.1,f.2)) (zI a) (b.1,b.2.1,b.2.2.1,b.2.2.2.1,h.2.2.1,b.2.2.2.2.2)) (zI a) n.1) g
def awO(d:ag7)(a e:Int)(g:Bool)(b f:List gq):Option aV :=
 if g=true then zC (at? b a) fun c=>zC (Eb (c,())) fun c=>zC (at? b a) fun h=>d a e (List.set b (zI a) c.1) f else d a e b f
def awP(g:Int->Int->Bool->List gq->iZ->List gq->Option aV)(c b:Int)(h:Bool)(d:List gq)(f:iZ)(e:List gq):Option aV :=
 if h=true then zC (at? d c) fun a=>zC (at? e b) fun i=>zC (at? (List.set e (zI b) a) b) fun j=>zC (at? (List.set e (zI b) a) b) fun a=>some (a,0,()) else zC (at? d c) fun a=>if nei a.2.2.1 1=true then g c b true d f e else zC (at? d c) fun a=>g c b (nei a.2.2.2.1 f.2.2.1) d f e
def awQ(h:ag7)(a c:Int)(i:Bool)(d e:List gq):Option aV :=
 if i=true then zC (at? d a) fun f=>zC (at? e c) fun b=>zC (at? (List.set e (zI c) f) c) fun j=>zC (at? (List.set e (zI c) f) c) fun f=>some (f,23,()) else zC (at? d a) fun b=>zC (at? (List.set d (zI a) (b.1,b.2.1,2,b.2.2.2)) a) fun g=>h a c (List.set (List.set d (zI a) (b.1,b.2.1,2,b.2.2.2)) (zI a) (g.1,(g.2.1.1,-1),g.2.2)) e
def awR(d a:Int)(e c:List gq):Option aV :=
 zC (at? e d) fun b=>zC (at? c a) fun f=>zC (at? (List.set c (zI a) b) a) fun g=>zC (at? (List.set c (zI a) b) a) fun b=>some (b,0,())
def awS(e:Int->Int->List gq->iZ->List gq->Option aV)(a f:Int)(h:Bool)(b:List gq)(d:iZ)(g:List gq):Option aV :=
 if h=true then zC (at? b a) fun c=>zC (Eb (c,())) fun c=>zC (at? b a) fun i=>e a f (List.set b (zI a) c.1) d g else e a f b d g
def awT(h:ag7)(b i:Int)(f:List gq)(e:iZ)(j:List gq):Option aV :=
 zC (at? f b) fun d=>zC (at? (List.set f (zI b) (d.1,d.2.1,1,d.2.2.2)) b) fun c=>zC (at? (List.set (List.set f (zI b) (d.1,d.2.1,1,d.2.2.2)) (zI b) (c.1,c.2.1,c.2.2.1,e.2.2.1,c.2.2.2.2)) b) fun a=>zC (at? (List.set (List.set (List.set f (zI b) (d.1,d.2.1,1,d.2.2.2)) (zI b) (c.1,c.2.1,c.2.2.1,e.2.2.1,c.2.2.2.2)) (zI b) (a.1,a.2.1,a.2.2.1,a.2.2.2.1,a.2.2.2.2.1,(e.2.2.1,a.2.2.2.2.2.1.2),a.2.2.2.2.2.2)) b) fun k=>zC (at? (List.set (List.set (List.set f (zI b) (d.1,d.2.1,1,d.2.2.2)) (zI b) (c.1,c.2.1,c.2.2.1,e.2.2.1,c.2.2.2.2)) (zI b) (a.1,a.2.1,a.2.2.1,a.2.2.2.1,a.2.2.2.2.1,(e.2.2.1,a.2.2.2.2.2.1.2),a.2.2.2.2.2.2)) b) fun g=>h b i (List.set (List.set (List.set (List.set f (zI b) (d.1,d.2.1,1,d.2.2.2)) (zI b) (c.1,c.2.1,c.2.2.1,e.2.2.1,c.2.2.2.2)) (zI b) (a.1,a.2.1,a.2.2.1,a.2.2.2.1,a.2.2.2.2.1,(e.2.2.1,a.2.2.2.2.2.1.2),a.2.2.2.2.2.2)) (zI b) (g.1,(e.1,k.2.2.2.2.2.2),g.2.2)) j
def Mr(b:Int->Int->Bool->List gq->iZ->List gq->Option aV)(d:qf_)(a:iZ):Option aV :=
 zC (qx (d,())) fun c=>if eqi a.1 0=true then b 0 0 true [c.1] a [gF] else if eqi a.2.2.1 0=true then b 0 0 true [c.1] a [gF] else if lt a.2.1 1=true then b 0 0 true [c.1] a [gF] else b 0 0 (gt a.2.1 4) [c.1] a [gF]
def Jj:=awR
def R4:=awT (Jj)
def Bb:=awS (R4)
def Bc:=awP (Bb)
def yg:=awL (Bc)
def Jk:=awQ (Jj)
def Bd:=awM (Jk)
def R5:=awN (Jj)
def R6:=awO (Jj)
def Be:=awK (yg) (Bd) (R5) (R6)
def Ms:=awJ (Be)
def Mv(x:As [.pr aA nD,.pr (.int .u16) Me]):Option aV:=Mr Ms x.1 x.2.1
abbrev pEr:=zp agV agW 153 agU
theorem aLv{J a b c d}:pEr J 31 [] (Ji a b c d)=awR a b c d:=by kernel_rfl
theorem aLw{J a b c d e}:pEr J 4011 [] (ag6 a b c d e)=awT (C (J 31 []) Ji) a b c d e:=by kernel_rfl
theorem aLx{J a b c d e f}:pEr J 8022 [] (ag5 a b c d e f)=awS (C (J 4011 []) ag6) a b c d e f:=by kernel_rfl
theorem aLy{J a b c d e f}:pEr J 4010 [] (ag3 a b c d e f)=awP (C (J 8022 []) ag5) a b c d e f:=by kernel_rfl
theorem aLz{J a b c d e f}:pEr J 2004 [] (agZ a b c d e f)=awL (C (J 4010 []) ag3) a b c d e f:=by kernel_rfl
theorem aLA{J a b c d e}:pEr J 16058 [] (ag4 a b c d e)=awQ (C (J 31 []) Ji) a b c d e:=by kernel_rfl
theorem aLB{J a b c d e f}:pEr J 8028 [] (ag0 a b c d e f)=awM (C (J 16058 []) ag4) a b c d e f:=by kernel_rfl
theorem aLC{J a b c d e f}:pEr J 64250 [] (ag1 a b c d e f)=awN (C (J 31 []) Ji) a b c d e f:=by kernel_rfl
theorem aLD{J a b c d e}:pEr J 32127 [] (ag2 a b c d e)=awO (C (J 31 []) Ji) a b c d e:=by kernel_rfl
theorem aLE{J a b c d e f}:pEr J 30 [] (agY a b c d e f)=awK (C (J 2004 []) agZ) (C (J 8028 []) ag0) (C (J 64250 []) ag1) (C (J 32127 []) ag2) a b c d e f:=by kernel_rfl
theorem aLF{J a b c d e f}:pEr J 14 [] (agX a b c d e f)=awJ (C (J 30 []) agY) a b c d e f:=by kernel_rfl
abbrev pEq:=zj agV agW 153 agU
theorem Mw:C (pEq 31 []) Ji=Jj:=gNC (by decide) fun _=>aLv
theorem aLG:C (pEq 4011 []) ag6=R4:=gNC (by decide) fun _=>aLw.trans (by rw[Mw]<;>kernel_rfl)
theorem aLH:C (pEq 8022 []) ag5=Bb:=gNC (by decide) fun _=>aLx.trans (by rw[aLG]<;>kernel_rfl)
theorem aLI:C (pEq 4010 []) ag3=Bc:=gNC (by decide) fun _=>aLy.trans (by rw[aLH]<;>kernel_rfl)
theorem aLJ:C (pEq 2004 []) agZ=yg:=gNC (by decide) fun _=>aLz.trans (by rw[aLI]<;>kernel_rfl)
theorem aLK:C (pEq 16058 []) ag4=Jk:=gNC (by decide) fun _=>aLA.trans (by rw[Mw]<;>kernel_rfl)
theorem aLL:C (pEq 8028 []) ag0=Bd:=gNC (by decide) fun _=>aLB.trans (by rw[aLK]<;>kernel_rfl)
theorem aLM:C (pEq 64250 []) ag1=R5:=gNC (by decide) fun _=>aLC.trans (by rw[Mw]<;>kernel_rfl)
theorem aLN:C (pEq 32127 []) ag2=R6:=gNC (by decide) fun _=>aLD.trans (by rw[Mw]<;>kernel_rfl)
theorem aLO:C (pEq 30 []) agY=Be:=gNC (by decide) fun _=>aLE.trans (by rw[aLJ,aLL,aLM,aLN]<;>kernel_rfl)
theorem aLP:C (pEq 14 []) agX=Ms:=gNC (by decide) fun _=>aLF.trans (by rw[aLO]<;>kernel_rfl)
theorem aLQ:ak Tryz.prog (fun _=>True) 153 ⟨agU,Mv⟩:=zcc (env:=agV) (d:=6) (hs:=Ev.get agW) (aj Il (aj QU (aj af6 (aj aLf (aj aLu bq))))) (fun J x=>Mr (C (J 14 []) agX) x.1 x.2.1) (fun _ _=>by kernel_rfl) fun _=>by rw[aLP]<;>rfl
@[reducible] def ag8:Sh:=shD dO [.bool]
def arR:Env:=(cts [])
def arS:List (Nat×Hint):=[(58,⟨[],[0,1,5]⟩)]
def ag9(a b:List Int)(i:Int):St:=⟨[(0,dW a),(1,dW b),(5,dI i)],26,[],[],0,[],0⟩
def Ee(d:List Int->List Int->Int->Option aD)(b c:List Int)(a:Int):Option aD :=
 if lt a (zF (zG b))=true then zC (at? b a) fun e=>zC (at? c a) fun f=>if nei e f=true then some (false,()) else d b c (add .i64 a 1) else some (true,())
def aha(c:List Int->List Int->Int->Option aD)(a b:List Int):Option aD :=
 if nei (zF (zG a)) (zF (zG b))=true then some (false,()) else c a b 0
def ahb(a b:List Int)(c:Int):Option aD :=
 ay (fun e d=>Ee (fun a b c=>e (a,b,c)) d.1 d.2.1 d.2.2) 18446744073709551616 (a,b,c)
def ahc(x:As dO):Option aD:=aha ahb x.1 x.2.1
abbrev pEp:=zp arR arS 192 ag8
theorem aLR{J w1 a b c}:pEp J 58 [w1] (ag9 a b c)=Ee (C w1 ag9) a b c:=by kernel_rfl
abbrev pEo:=zj arR arS 192 ag8
theorem aLS:C (pEo 58 []) ag9=ahb:=gLC (by decide) (by kernel_rfl) (fun _=>by unfold ahb;rfl) fun _ _=>aLR.trans (by kernel_rfl)
theorem aLT:ak Tryz.prog (fun _=>True) 192 ⟨ag8,ahc⟩:=zcc (env:=arR) (d:=6) (hs:=Ev.get arS) bq (fun J x=>aha (C (J 58 []) ag9) x.1 x.2.1) (fun _ _=>by kernel_rfl) fun _=>by rw[aLS]<;>rfl
@[reducible] def ahd:Sh:=⟨[.d aA],[],aM,[.d (.int .u16),.d (.int .u32),.d (.int .i64),.d gP,.d (.int .i64)],[],0,aN⟩
def arT:Env:=(cts [(145,(⟨vJ,qO⟩:Ct)),(170,(⟨Io,AR⟩:Ct)),(192,(⟨ag8,ahc⟩:Ct))])
def arU:List (Nat×Hint):=[(31,⟨[],[0,5,7,8,53,54,55,58,59,60,61,62,63]⟩),(126,⟨[.frb 5,.frb 7,.frb 8],[0,5,7,8,64]⟩),(250,⟨[.rwb 8 1 23],[0,5,7,8,9]⟩),(1000,⟨[.agd 33 (.int .i64),.agd 34 .bool],[0,5,7,8,9,35]⟩),(14,⟨[],[0,5,7,19,33,34,53,54,55,58,59,60,61,62,63]⟩)]
def ahe(d:List Int)(b:Bool)(c a:Int):St:=⟨[(0,dW d),(5,.pb 0 0),(7,.pb 1 0),(19,dB b)],84,[],[(0,.box 30 [dI c,.k (zK zH 0 0)]),(1,.box 30 [dI a,.k (zK zH 0 0)])],2,[],0⟩
def Jl(e:List Int)(a d b f:Int)(c:List Int):St:=⟨[(0,dW e),(5,.pb 0 0),(7,.pb 1 0),(8,.pb 2 0),(9,dI a)],84,[],[(0,.box 30 [dI d,.k (zK zH 0 0)]),(1,.box 30 [dI b,.k (zK zH 0 0)]),(2,.box 30 [dI f,.row 3]),(3,.row (.int .u16) 23 c)],4,[],0⟩
def ahf(f:List Int)(a:Int)(d:Bool)(e b g:Int)(c:List Int):St:=⟨[(0,dW f),(5,.pb 0 0),(7,.pb 1 0),(8,.pb 2 0),(9,dI a),(35,dB d)],84,[],[(0,.box 30 [dI e,.k (zK zH 0 0)]),(1,.box 30 [dI b,.k (zK zH 0 0)]),(2,.box 30 [dI g,.row 3]),(3,.row (.int .u16) 23 c)],4,[],0⟩
def ahg(d:List Int)(c a e:Int)(b:List Int):St:=⟨[(0,dW d),(5,.pb 0 0),(7,.pb 1 0),(8,.pb 2 0)],84,[],[(0,.box 30 [dI c,.k (zK zH 0 0)]),(1,.box 30 [dI a,.k (zK zH 0 0)]),(2,.box 30 [dI e,.row 3]),(3,.row (.int .u16) 23 b)],4,[],0⟩
def ahh(e:List Int)(d:Bool)(b a c:Int×List Int):St:=⟨[(0,dW e),(5,.pb 0 0),(7,.pb 1 0),(8,.pb 2 0),(64,dB d)],84,[],[(0,.box 30 [dI b.1,dW b.2]),(1,.box 30 [dI a.1,dW a.2]),(2,.box 30 [dI c.1,dW c.2])],3,[],0⟩
@[reducible] def ahi:Type:=List Int->Int->Int->Int->Int->List Int->Option dU
def ahj(c:ahi)(b:List Int)(d:Bool)(e a:Int):Option dU :=
 if d=true then some (0,0,0,(a,[]),2,()) else zC (at? b 4) fun f=>c b 0 e a (cvt .i64 f) []
def Jm(c:List Int->Int->Bool->Int->Int->Int->List Int->Option dU)(i:ahi)(b:List Int)(a f d g:Int)(e:List Int):Option dU :=
 zC (at? b 5) fun h=>if lt a (cvt .i64 h)=true then c b a (lt a 14) f d g e else c b a false f d g e
def ahk(g:List Int->Int->Int->Int->List Int->Option dU)(h:ahi)(b:List Int)(c:Int)(i:Bool)(e d f:Int)(a:List Int):Option dU :=
 if i=true then zC (at? b (add .i64 6 c)) fun j=>need (small (zG a+Nat.succ 0)) (h b (add .i64 c 1) e d f (a++[j])) else g b e d f a
def ahl(e:List Int->Bool->Int×List Int->Int×List Int->Int×List Int->Option dU)(b:List Int)(g f d:Int)(c:List Int):Option dU :=
 zC (at? b 5) fun a=>if gt a 14=true then e b true (g,[]) (f,[]) (d,c) else zC (qO ((d,c),())) fun a=>if (!a.1)=true then e b true (g,[]) (f,[]) (d,c) else zC (cut b 4 (zF (zG b))) fun a=>zC (AR ((d,c),())) fun h=>zC (ahc (h.1,a,())) fun a=>e b (!a.1) (g,[]) (f,[]) (d,c)
def ahm(a:List Int)(c:Bool)(i b d:Int×List Int):Option dU :=
 if c=true then some (0,0,0,b,20,()) else zC (at? a 0) fun e=>zC (at? a 1) fun f=>zC (at? a 2) fun g=>zC (at? a 3) fun h=>some (e,add .u32 (mul .u32 (cvt .u32 f) 65536) (cvt .u32 g),cvt .i64 h,d,0,())
def ahn(b:List Int->Bool->Int->Int->Option dU)(a:List Int):Option dU :=
 if nei (zF (zG a)) 20=true then b a true 0 0 else zC (at? a 3) fun c=>b a (gt c 7) 0 0
def aho:=ahm
def R7:=ahl (aho)
def ahp(a:ahi):=ahk (R7) a
def Ef(f:List Int)(b e c g:Int)(d:List Int):Option dU :=
 ay (fun h a=>Jm (ahp (fun f b e c g d=>h (f,b,e,c,g,d))) (fun f b e c g d=>h (f,b,e,c,g,d)) a.1 a.2.1 a.2.2.1 a.2.2.2.1 a.2.2.2.2.1 a.2.2.2.2.2) 18446744073709551616 (f,b,e,c,g,d)
def ahq:=ahj (Ef)
def ahr(x:As aM):Option dU:=ahn ahq x.1
abbrev pEj:=zp arT arU 154 ahd
theorem aLU{J a b c d e}:pEj J 126 [] (ahh a b c d e)=ahm a b c d e:=by kernel_rfl
theorem aLV{J a b c d e}:pEj J 31 [] (ahg a b c d e)=ahl (C (J 126 []) ahh) a b c d e:=by kernel_rfl
theorem aLW{J w2 a b c d e f g}:pEj J 1000 [w2] (ahf a b c d e f g)=ahk (C (J 31 []) ahg) (C w2 Jl) a b c d e f g:=by kernel_rfl
theorem aLX{J w2 a b c d e f}:pEj J 250 [w2] (Jl a b c d e f)=Jm (C (J 1000 [w2]) ahf) (C w2 Jl) a b c d e f:=by kernel_rfl
theorem aLY{J a b c d}:pEj J 14 [] (ahe a b c d)=ahj (C (J 250 []) Jl) a b c d:=by kernel_rfl
abbrev pEi:=zj arT arU 154 ahd
theorem aLZ:C (pEi 126 []) ahh=aho:=gNC (by decide) fun _=>aLU
theorem aL0:C (pEi 31 []) ahg=R7:=gNC (by decide) fun _=>aLV.trans (by rw[aLZ]<;>kernel_rfl)
theorem aL1{w2}:C (pEi 1000 [w2]) ahf=ahp (C w2 Jl):=gNC (by decide) fun _=>aLW.trans (by rw[aL0]<;>kernel_rfl)
theorem aL2:C (pEi 250 []) Jl=Ef:=gLC (by decide) (by kernel_rfl) (fun _=>by unfold Ef;rfl) fun _ _=>aLX.trans (by rw[aL1]<;>kernel_rfl)
theorem aL3:C (pEi 14 []) ahe=ahq:=gNC (by decide) fun _=>aLY.trans (by rw[aL2]<;>kernel_rfl)
theorem aL4:ak Tryz.prog (fun _=>True) 154 ⟨ahd,ahr⟩:=zcc (env:=arT) (d:=6) (hs:=Ev.get arU) (aj QW (aj aec (aj aLT bq))) (fun J x=>ahn (C (J 14 []) ahe) x.1) (fun _ _=>by kernel_rfl) fun _=>by rw[aL3]<;>rfl
end Go.Proofs.Lx
end
