/- Proved in the last of these 20 parts (this is part 6): SlaveTells. Conditions: those of the given statement, and no others. -/
import Derived.Test.YtkcmbampiiolbaaGreatParte
import Derived.Test.YtkcmbampiiolbaaGreatProg
set_option linter.unusedVariables false
set_option linter.unusedSimpArgs false
set_option linter.unusedSectionVars false
open Option renaming bind → zC, none → zH
open List renaming replicate → zE, length → zG
open Int renaming ofNat → zF, toNat → zI
open Go.Value renaming slice → zK
noncomputable section
open Go Go.Proofs Ev Sx
set_option maxRecDepth 100000
namespace Go.Proofs.Lx
@[reducible] def aA:Ty:=.sl (.int .u16)
abbrev iE:Ty:=(.pr (.int .i64) aA)
@[reducible] def bP:Ty:=.ar 8 .bool
@[reducible] def cB:Ty:=.ar 8 iE
@[reducible] def aP:Ty:=.pr bP cB
@[reducible] def cR:Ty:=.pr (.int .u32) aP
abbrev qL:Ty:=(.pr (.pr (.int .u16) (.int .i64)) (.pr (.int .u8) (.pr (.int .u32) (.pr (.int .u32) (.pr cR (.int .i64))))))
abbrev Ch:Ty:=(.pr (.int .i64) (.pr .bool (.pr .bool .bool)))
@[reducible] def cO:Ty:=.pr (.int .i64) Ch
abbrev gW:Ty:=(.sl cO)
abbrev pO:Type:=(Int×List Bool×List (Int×List Int))
abbrev jS:Type:=(List Int×(Int×Int)×Int×Int×Int×pO×Int)
@[reducible] def fO:Ty:=.pr (.int .u8) (.pr (.sl .bool) (.pr aA (.pr (.int .u16) (.int .u16))))
abbrev pP:Ty:=fO
@[reducible] def fN:Ty:=.pr (.int .u16) (.pr (.int .u16) (.pr (.int .u16) (.pr aA (.sl .bool))))
abbrev mK:Ty:=fN
abbrev dw:Type:=(Int×Int×Bool×Bool×Bool)
abbrev Gm:Ty:=(.pr (.int .u8) (.pr (.int .u32) (.pr (.int .u16) (.int .u32))))
abbrev Wx:Type:=(Int×Int×Int×Int×List Int×List Bool)
abbrev ny:Type:=(Int×List Int×Wx×Int×Int×Int×Int×Int)
abbrev uN:Ty:=(.pr (.sl .bool) (.pr aA aA))
abbrev aPJ:Type:=(Int×Int×List Bool×List Int×Int×Int)
abbrev aPK:Type:=(List Bool×List Bool×List Int×List Int)
@[reducible] def bV:Ty:=.sl (.int .u8)
abbrev Wy:Ty:=(.pr (.int .u8) bV)
abbrev xH:Ty:=(.pr (.int .i64) (.pr (.int .i64) (.pr .bool .bool)))
abbrev je:Type:=Int×Int×Bool×Bool×Bool
@[reducible] def fF:List Ty:=[.int .u8,.int .u8]
@[reducible] def atI:Sh:=shD fF [.bool]
@[reducible] def aD:Type:=As [.bool]
def anm(b a:Int):Option aD :=
 if ge b 1=true then if le b 247=true then if eqi a 1=true then some (true,()) else some (eqi a 2,()) else some (false,()) else some (false,())
def OG(x:As fF):Option aD:=anm x.1 x.2.1
theorem atJ:ak Tryz.prog (fun _=>True) 91 ⟨atI,OG⟩:=ctn bq 6 fun J x=>by kernel_rfl
@[reducible] def aM:List Ty:=[.sl (.int .u16)]
@[reducible] def OH:Sh:=shD aM aM
@[reducible] def bU:Type:=As aM
def ano(s:List Int):Option bU :=
 if eqi (zF (zG s)) 0=true then amb (av OH.rs) [some ([],()),need (small (0+zG s)) (some (s,()))] else need (small (0+zG s)) (some (s,()))
def oO(x:As aM):Option bU:=ano x.1
theorem OI:ak Tryz.prog (fun _=>True) 131 ⟨OH,oO⟩:=ctn bq 6 fun J x=>by kernel_rfl
@[reducible] def Wz:Sh:=⟨[.d aA],[],aM,[.row 0],[(0,.row (.int .u16) 23)],1,aM⟩
def anp(s:List Int):Option bU :=
 if eqi (zF (zG s)) 0=true then amb (av Wz.rs) [some ([],()),need (small (0+zG s)) (some (s,()))] else need (small (0+zG s)) (some (s,()))
def Dh(x:As aM):Option bU:=anp x.1
theorem az4:ak Tryz.prog (fun _=>True) 131 ⟨Wz,Dh⟩:=ctn bq 6 fun J x=>by kernel_rfl
@[reducible] def bH:List Ty:=[.sl (.int .u16),.int .i64]
@[reducible] def cT:List Ty:=[.pr aA qL,.int .i64]
@[reducible] def aBI:Sh:=shD bH cT
def WA(a:List Int)(b:Int):Option (As cT) :=
 if nei (zF (zG a)) 64=true then some (gF,21,()) else if lt b 1=true then some (gF,2,()) else zC (oO (a,())) fun c=>some ((c.1,(0,0),0,0,0,zSt,b),0,())
def Ld(x:As bH):Option (As cT):=WA x.1 x.2.1
theorem aBJ:ak Tryz.prog (fun _=>True) 92 ⟨aBI,Ld⟩:=ctn (aj OI bq) 6 fun J x=>by kernel_rfl
@[reducible] def eD:List Ty:=[.int .u8,.int .u8,.sl (.int .u16),.int .i64]
@[reducible] def aO:Ty:=.pr aA qL
@[reducible] def aG:Ty:=.pr aO (.sl .bool)
@[reducible] def aE:Ty:=.pr (.int .u8) aG
@[reducible] def WB:Sh:=shD eD [.pr (.int .u8) aE,.int .i64]
def OJ(c b:Int)(d:List Int)(e:Int):Option (As [.pr (.int .u8) aE,.int .i64]) :=
 zC (OG (c,b,())) fun a=>if (!a.1)=true then some (zSl,2,()) else zC (Ld (d,e,())) fun a=>if nei a.2.1 0=true then some (zSl,a.2.1,()) else some ((c,b,(gV a.1),[false,false,false,false,false,false,false,false,false,false,false,false,false,false,false,false]),0,())
def z8(x:As eD):Option (As [.pr (.int .u8) aE,.int .i64]):=OJ x.1 x.2.1 x.2.2.1 x.2.2.2.1
theorem atK:ak Tryz.prog (fun _=>True) 35 ⟨WB,z8⟩:=ctn (aj atJ (aj aBJ bq)) 6 fun J x=>by kernel_rfl
def aBK(l:List Int):Option bU :=
 some (List.take 64 l++List.drop (0+zG (List.take 64 l)) (zE 64 0),())
def aBL(x:As aM):Option bU:=aBK x.1
def aBM(c:Int)(b:List Int)(d:Int):Option (As [.pr (.int .u8) aE,.bool]) :=
 zC (aBL (b,())) fun a=>zC (z8 (9,add .u8 1 (rem c 2),a.1,add .i64 1 (cvt .i64 (rem d 20)),())) fun a=>if eqi a.2.1 0=true then some (a.1,eqi (zF (zG a.1.2.2.1.1)) 64,()) else some (a.1,false,())
def aPL(x:As [.int .u8,.sl (.int .u16),.int .u8]):Option (As [.pr (.int .u8) aE,.bool]):=aBM x.1 x.2.1 x.2.2.1
@[reducible] def dO:List Ty:=[.sl (.int .u16),.sl (.int .u16)]
@[reducible] def WC:Sh:=shD dO [.bool]
def WE:Env:=(cts [])
def WG:List (Nat×Hint):=[(58,⟨[],[0,1,12,13]⟩)]
def WH(a b:List Int)(c d:Int):St:=⟨[(0,dW a),(1,dW b),(12,dI c),(13,dI d)],26,[],[],0,[],0⟩
@[reducible] def zF0:Type:=List Int->List Int->Int->Int->Option aD
def OL(e:zF0)(b c:List Int)(d a:Int):Option aD :=
 if lt a d=true then zC (at? b a) fun f=>zC (at? c a) fun g=>if nei f g=true then some (false,()) else e b c d (add .i64 a 1) else some (true,())
def WI(c:zF0)(a b:List Int):Option aD :=
 if nei (zF (zG a)) (zF (zG b))=true then some (false,()) else c a b (zF (zG a)) 0
def OM(b c:List Int)(d e:Int):Option aD :=
 ay (fun f a=>OL (fun b c d e=>f (b,c,d,e)) a.1 a.2.1 a.2.2.1 a.2.2.2) 18446744073709551616 (b,c,d,e)
def Di(x:As dO):Option aD:=WI OM x.1 x.2.1
@[reducible] def zp(e:Env)(h:List (Nat×Hint))(n:Nat)(s:Sh):=pfn Tryz.prog e 6 18446744073709551616 (Ev.get h) n s
@[reducible] def zj(e:Env)(h:List (Nat×Hint))(n:Nat)(s:Sh):=jfn Tryz.prog e 6 18446744073709551616 (Ev.get h) n s
abbrev pBr:=zp WE WG 20 WC
theorem aBN{J w1 a b c d}:pBr J 58 [w1] (WH a b c d)=OL (C w1 WH) a b c d:=by kernel_rfl
abbrev pBq:=zj WE WG 20 WC
theorem aBO:C (pBq 58 []) WH=OM:=gLC (by decide) (by kernel_rfl) (fun _=>by unfold OM;rfl) fun _ _=>aBN.trans (by kernel_rfl)
theorem atL:ak Tryz.prog (fun _=>True) 20 ⟨WC,Di⟩:=zcc (env:=WE) (d:=6) (hs:=Ev.get WG) bq (fun J x=>WI (C (J 58 []) WH) x.1 x.2.1) (fun _ _=>by kernel_rfl) fun _=>by rw[aBO]<;>rfl
@[reducible] def Le:Sh:=shD [.int .u8] [.pr (.int .i64) xH,.bool]
def aBP(f:Int):Option (As [.pr (.int .i64) xH,.bool]) :=
 some (Ev.gdV (.pr (.int .i64) xH) (if eqi 1 f=true then some (2000,0,0,false,false) else if eqi 2 f=true then some (2000,0,0,false,false) else if eqi 3 f=true then some (125,0,0,false,false) else if eqi 4 f=true then some (125,0,0,false,false) else if eqi 5 f=true then some (0,1,0,false,false) else if eqi 6 f=true then some (0,0,1,false,false) else if eqi 15 f=true then some (1968,1968,0,false,true) else if eqi 16 f=true then some (123,0,123,false,true) else if eqi 23 f=true then some (125,0,121,true,false) else zH) (0,0,0,false,false),Ev.isV (.pr (.int .i64) xH) (if eqi 1 f=true then some (2000,0,0,false,false) else if eqi 2 f=true then some (2000,0,0,false,false) else if eqi 3 f=true then some (125,0,0,false,false) else if eqi 4 f=true then some (125,0,0,false,false) else if eqi 5 f=true then some (0,1,0,false,false) else if eqi 6 f=true then some (0,0,1,false,false) else if eqi 15 f=true then some (1968,1968,0,false,true) else if eqi 16 f=true then some (123,0,123,false,true) else if eqi 23 f=true then some (125,0,121,true,false) else zH),())
def xI(x:As [.int .u8]):Option (As [.pr (.int .i64) xH,.bool]):=aBP x.1
theorem WJ:ak Tryz.prog (fun _=>True) 59 ⟨Le,xI⟩:=ctn bq 6 fun J x=>by kernel_rfl
@[reducible] def cP:List Ty:=[.int .i64,.int .i64]
@[reducible] def atM:Sh:=shD cP [.bool]
def WK(a b:Int):Option aD :=
 if eqi b 0=true then some (eqi a 0,()) else if ge a 1=true then some (le a b,()) else some (false,())
def Gn(x:As cP):Option aD:=WK x.1 x.2.1
theorem aBQ:ak Tryz.prog (fun _=>True) 127 ⟨atM,Gn⟩:=ctn bq 6 fun J x=>by kernel_rfl
@[reducible] def dZ:List Ty:=[.pr (.int .u8) mK]
@[reducible] def Gp:Sh:=shD dZ [.bool]
def WM:Env:=(cts [(59,(⟨Le,xI⟩:Ct)),(127,(⟨atM,Gn⟩:Ct))])
def WN:List (Nat×Hint):=[(30,⟨[],[1,3,47,52,53,54,55,56,57,58,59,60,61,62]⟩),(14,⟨[],[1,3,22,31,32,33,34,35,36,37,40,41,42,43,44,45,46,52,53,54,55,56,57,58,59,60,61,62]⟩)]
def WO(l:Bool)(a b c d:Int)(e:List Int)(f:List Bool)(g h i:Int)(j k:Bool):St:=⟨[(1,.pb 0 0),(3,.pb 1 0),(22,dB l)],64,[],[(0,.box 44 [d8 a,d6 b,d6 c,d6 d,dW e,.d (.sl .bool) f]),(1,.box 114 [dI g,dI h,dI i,dB j,dB k])],2,[],0⟩
def WQ(l:Bool)(a b c d:Int)(e:List Int)(f:List Bool)(g h i:Int)(j k:Bool):St:=⟨[(1,.pb 0 0),(3,.pb 1 0),(47,dB l)],64,[],[(0,.box 44 [d8 a,d6 b,d6 c,d6 d,dW e,.d (.sl .bool) f]),(1,.box 114 [dI g,dI h,dI i,dB j,dB k])],2,[],0⟩
@[reducible] def zF1:Type:=Bool->Int->Int->Int->Int->List Int->List Bool->Int->Int->Int->Bool->Bool->Option aD
def WR(k:zF1)(n:Bool)(h i b j:Int)(c:List Int)(d:List Bool)(e f g:Int)(l m:Bool):Option aD :=
 if n=true then some (false,()) else zC (Gn (cvt .i64 b,e,())) fun a=>if (!a.1)=true then k true h i b j c d e f g l m else zC (Gn (zF (zG d),f,())) fun a=>if (!a.1)=true then k true h i b j c d e f g l m else zC (Gn (zF (zG c),g,())) fun a=>k (!a.1) h i b j c d e f g l m
def WS(e:Bool)(f g a h:Int)(b:List Int)(c:List Bool)(i j k:Int)(l d:Bool):Option aD :=
 if e=true then some (false,()) else if (!d)=true then some (true,()) else some (eqi (add .i64 (zF (zG c)) (zF (zG b))) (cvt .i64 a),())
@[reducible] def zF2:Type:=Int×Int×Int×Int×List Int×List Bool
def WT(c:zF1)(a:zF2):Option aD :=
 zC (xI (a.1,())) fun b=>if (!b.2.1)=true then c true a.1 a.2.1 a.2.2.1 a.2.2.2.1 a.2.2.2.2.1 a.2.2.2.2.2 b.1.1 b.1.2.1 b.1.2.2.1 b.1.2.2.2.1 b.1.2.2.2.2 else if (!b.1.2.2.2.1)=true then c (nei a.2.2.2.1 0) a.1 a.2.1 a.2.2.1 a.2.2.2.1 a.2.2.2.2.1 a.2.2.2.2.2 b.1.1 b.1.2.1 b.1.2.2.1 b.1.2.2.2.1 b.1.2.2.2.2 else c false a.1 a.2.1 a.2.2.1 a.2.2.2.1 a.2.2.2.2.1 a.2.2.2.2.2 b.1.1 b.1.2.1 b.1.2.2.1 b.1.2.2.2.1 b.1.2.2.2.2
def WU:=WS
def OO:=WR (WU)
def xJ(x:As dZ):Option aD:=WT OO x.1
abbrev pAv:=zp WM WN 58 Gp
theorem aBR{J a b c d e f g h i j k l}:pAv J 30 [] (WQ a b c d e f g h i j k l)=WS a b c d e f g h i j k l:=by kernel_rfl
theorem aBS{J a b c d e f g h i j k l}:pAv J 14 [] (WO a b c d e f g h i j k l)=WR (C (J 30 []) WQ) a b c d e f g h i j k l:=by kernel_rfl
abbrev pAu:=zj WM WN 58 Gp
theorem aBT:C (pAu 30 []) WQ=WU:=gNC (by decide) fun _=>aBR
theorem aBU:C (pAu 14 []) WO=OO:=gNC (by decide) fun _=>aBS.trans (by rw[aBT]<;>kernel_rfl)
theorem WV:ak Tryz.prog (fun _=>True) 58 ⟨Gp,xJ⟩:=zcc (env:=WM) (d:=6) (hs:=Ev.get WN) (aj WJ (aj aBQ bq)) (fun J x=>WT (C (J 14 []) WO) x.1) (fun _ _=>by kernel_rfl) fun _=>by rw[aBU]<;>rfl
@[reducible] def dP:List Ty:=[.sl (.int .u16),.sl (.int .u8)]
@[reducible] def aI:List Ty:=[.sl (.int .u8)]
@[reducible] def WW:Sh:=⟨[.row 0,.d aA],[.row (.int .u8) 5],dP,[.row 1],[(1,.row (.int .u8) 5)],1,aI⟩
def anq:Env:=(cts [])
def anr:List (Nat×Hint):=[(26,⟨[.unl 0],[0,7,8,9]⟩)]
def WX(b:List Int)(c d:Int)(a:List Int):St:=⟨[(0,.row 1),(7,dW b),(8,dI c),(9,dI d)],23,[],[(1,.row (.int .u8) 5 a)],2,[],1⟩
@[reducible] def bO:Type:=As aI
@[reducible] def zF3:Type:=List Int->Int->Int->List Int->Option bO
def OP(f:zF3)(c:List Int)(d b:Int)(a:List Int):Option bO :=
 if lt b d=true then zC (at? c b) fun e=>need (small (zG a+Nat.succ (Nat.succ 0))) (f c d (add .i64 b 1) (a++[cvt .u8 (Sx.shr .u16 e 8),cvt .u8 e])) else some (a,())
def WZ(b:zF3)(a c:List Int):Option bO :=
 b a (zF (zG a)) 0 c
def OQ(c:List Int)(d e:Int)(b:List Int):Option bO :=
 ay (fun f a=>OP (fun c d e b=>f (c,d,e,b)) a.1 a.2.1 a.2.2.1 a.2.2.2) 18446744073709551616 (c,d,e,b)
def nA(x:As dP):Option bO:=WZ OQ x.1 x.2.1
abbrev pA1:=zp anq anr 60 WW
theorem aBV{J w1 a b c d}:pA1 J 26 [w1] (WX a b c d)=OP (C w1 WX) a b c d:=by kernel_rfl
abbrev pA0:=zj anq anr 60 WW
theorem aBW:C (pA0 26 []) WX=OQ:=gLC (by decide) (by kernel_rfl) (fun _=>by unfold OQ;rfl) fun _ _=>aBV.trans (by kernel_rfl)
theorem aBX:ak Tryz.prog (fun _=>True) 60 ⟨WW,nA⟩:=zcc (env:=anq) (d:=6) (hs:=Ev.get anr) bq (fun J x=>WZ (C (J 26 []) WX) x.1 x.2.1) (fun _ _=>by kernel_rfl) fun _=>by rw[aBW]<;>rfl
@[reducible] def W9:Sh:=shD [.sl .bool] aI
def Xa:Env:=(cts [])
def Xb:List (Nat×Hint):=[(7,⟨[],[0,3]⟩),(250,⟨[],[4,18,19,20]⟩)]
def Xc(a:List Bool)(b:Int):St:=⟨[(0,.d (.sl .bool) a),(3,dI b)],38,[],[],0,[],0⟩
def Lf(b:List Bool)(c d:Int)(a:List Int):St:=⟨[(4,.row 0),(18,.d (.sl .bool) b),(19,dI c),(20,dI d)],38,[],[(0,.row (.int .u8) 5 a)],1,[],0⟩
@[reducible] def zF4:Type:=List Bool->Int->Int->List Int->Option bO
def Xd(c:zF4)(b:List Bool)(a:Int):Option bO :=
 need (ge a 0) (need (Ev.jC a a) (need (small (zI a)) (c b (zF (zG b)) 0 (zE (zI a) 0))))
def Gq(f:zF4)(c:List Bool)(d a:Int)(b:List Int):Option bO :=
 if lt a d=true then zC (at? c a) fun e=>if e=true then zC (at? b (quo .i64 a 8)) fun g=>zC (at? b (quo .i64 a 8)) fun e=>need (ge (rem a 8) 0) (zC (at? b (quo .i64 a 8)) fun g=>zC (at? b (quo .i64 a 8)) fun g=>f c d (add .i64 a 1) (List.set b (zI (quo .i64 a 8)) (Sx.bor .u8 e (Sx.shl .u8 1 (rem a 8))))) else f c d (add .i64 a 1) b else some (b,())
def Lg(b:List Bool->Int->Option bO)(a:List Bool):Option bO :=
 if gt (rem (zF (zG a)) 8) 0=true then b a (add .i64 (quo .i64 (zF (zG a)) 8) 1) else b a (quo .i64 (zF (zG a)) 8)
def Lh(c:List Bool)(d e:Int)(b:List Int):Option bO :=
 ay (fun f a=>Gq (fun c d e b=>f (c,d,e,b)) a.1 a.2.1 a.2.2.1 a.2.2.2) 18446744073709551616 (c,d,e,b)
def OT:=Xd (Lh)
def Gr(x:As [.sl .bool]):Option bO:=Lg OT x.1
abbrev pAr:=zp Xa Xb 61 W9
theorem aBY{J w2 a b c d}:pAr J 250 [w2] (Lf a b c d)=Gq (C w2 Lf) a b c d:=by kernel_rfl
theorem aBZ{J a b}:pAr J 7 [] (Xc a b)=Xd (C (J 250 []) Lf) a b:=by kernel_rfl
abbrev pAq:=zj Xa Xb 61 W9
theorem aB0:C (pAq 250 []) Lf=Lh:=gLC (by decide) (by kernel_rfl) (fun _=>by unfold Lh;rfl) fun _ _=>aBY.trans (by kernel_rfl)
theorem aB1:C (pAq 7 []) Xc=OT:=gNC (by decide) fun _=>aBZ.trans (by rw[aB0]<;>kernel_rfl)
theorem atN:ak Tryz.prog (fun _=>True) 61 ⟨W9,Gr⟩:=zcc (env:=Xa) (d:=6) (hs:=Ev.get Xb) bq (fun J x=>Lg (C (J 7 []) Xc) x.1) (fun _ _=>by kernel_rfl) fun _=>by rw[aB1]<;>rfl
@[reducible] def aK:List Ty:=[.sl (.int .u8),.int .i64]
@[reducible] def Gs:Sh:=shD dZ aK
def Xe:Env:=(cts [(58,(⟨Gp,xJ⟩:Ct)),(59,(⟨Le,xI⟩:Ct)),(60,(⟨WW,nA⟩:Ct)),(61,(⟨W9,Gr⟩:Ct))])
def Xf:List (Nat×Hint):=[(31,⟨[],[1,4,6,48,49,50,51]⟩),(63,⟨[],[1,4,6,48,49,50,51]⟩),(127,⟨[],[6]⟩),(508,⟨[],[1,4,6,43]⟩)]
def Xg(a b c d:Int)(e:List Int)(f:List Bool)(h i j:Int)(k l:Bool)(g:List Int):St:=⟨[(1,.pb 0 0),(4,.pb 1 0),(6,.row 2)],102,[],[(0,.box 44 [d8 a,d6 b,d6 c,d6 d,dW e,.d (.sl .bool) f]),(1,.box 114 [dI h,dI i,dI j,dB k,dB l]),(2,.row (.int .u8) 5 g)],3,[],0⟩
def Xh(a b c d:Int)(e:List Int)(f:List Bool)(h i j:Int)(k l:Bool)(g:List Int):St:=⟨[(1,.pb 0 0),(4,.pb 1 0),(6,.row 2)],102,[],[(0,.box 44 [d8 a,d6 b,d6 c,d6 d,dW e,.d (.sl .bool) f]),(1,.box 114 [dI h,dI i,dI j,dB k,dB l]),(2,.row (.int .u8) 5 g)],3,[],0⟩
def Xi(m:Bool)(a b c d:Int)(e:List Int)(f:List Bool)(h i j:Int)(k l:Bool)(g:List Int):St:=⟨[(1,.pb 0 0),(4,.pb 1 0),(6,.row 2),(43,dB m)],102,[],[(0,.box 44 [d8 a,d6 b,d6 c,d6 d,dW e,.d (.sl .bool) f]),(1,.box 114 [dI h,dI i,dI j,dB k,dB l]),(2,.row (.int .u8) 5 g)],3,[],0⟩
def Xj(a:List Int):St:=⟨[(6,.row 0)],102,[],[(0,.row (.int .u8) 5 a)],1,[],0⟩
@[reducible] def bW:Type:=As aK
@[reducible] def zF5:Type:=Int->Int->Int->Int->List Int->List Bool->Int->Int->Int->Bool->Bool->List Int->Option bW
def atO(h:zF5)(d e f a:Int)(b:List Int)(g:List Bool)(j k l:Int)(c m:Bool)(i:List Int):Option bW :=
 if c=true then zC (nA ([a,cvt .u16 (zF (zG b))],i,())) fun n=>h d e f a b g j k l c m n.1 else h d e f a b g j k l c m i
def atP(g:Bool->Int->Int->Int->Int->List Int->List Bool->Int->Int->Int->Bool->Bool->List Int->Option bW)(a c d e:Int)(f:List Int)(b:List Bool)(i j k:Int)(l m:Bool)(h:List Int):Option bW :=
 if eqi a 5=true then zC (at? b 0) fun n=>g n a c d e f b i j k l m h else g false a c d e f b i j k l m h
def atQ(c:List Int->Option bW)(i:Bool)(e j k l:Int)(d:List Int)(f:List Bool)(m g h:Int)(n o:Bool)(b:List Int):Option bW :=
 if i=true then zC (nA ([65280],b,())) fun a=>c a.1 else if eqi e 5=true then zC (nA ([0],b,())) fun a=>c a.1 else if eqi e 6=true then zC (nA (d,b,())) fun a=>c a.1 else if gt g 0=true then zC (Gr (f,())) fun a=>need (small (zG b+Nat.succ 0)) (need (small (zG (b++[cvt .u8 (zF (zG a.1))])+zG a.1)) (c (b++[cvt .u8 (zF (zG a.1))]++a.1))) else if gt h 0=true then need (small (zG b+Nat.succ 0)) (zC (nA (d,b++[cvt .u8 (mul .i64 2 (zF (zG d)))],())) fun a=>c a.1) else c b
def atS(a:List Int):Option bW :=
 some (a,0,())
def Xl(c:zF5)(a:zF2):Option bW :=
 zC (xJ (a,())) fun b=>if (!b.1)=true then some ([],12,()) else zC (xI (a.1,())) fun b=>zC (nA ([a.2.1],[a.1],())) fun d=>if gt b.1.1 0=true then zC (nA ([a.2.2.1],d.1,())) fun e=>c a.1 a.2.1 a.2.2.1 a.2.2.2.1 a.2.2.2.2.1 a.2.2.2.2.2 b.1.1 b.1.2.1 b.1.2.2.1 b.1.2.2.2.1 b.1.2.2.2.2 e.1 else c a.1 a.2.1 a.2.2.1 a.2.2.2.1 a.2.2.2.2.1 a.2.2.2.2.2 b.1.1 b.1.2.1 b.1.2.2.1 b.1.2.2.2.1 b.1.2.2.2.2 d.1
def atT:=atS
def atU:=atQ (atT)
def atX:=atP (atU)
def Aa:=atO (atX)
def Ab(x:As dZ):Option bW:=Xl Aa x.1
abbrev pAp:=zp Xe Xf 13 Gs
theorem aB2{J a}:pAp J 127 [] (Xj a)=atS a:=by kernel_rfl
theorem aB3{J a b c d e f g h i j k l m}:pAp J 508 [] (Xi a b c d e f g h i j k l m)=atQ (C (J 127 []) Xj) a b c d e f g h i j k l m:=by kernel_rfl
theorem aB4{J a b c d e f g h i j k l}:pAp J 63 [] (Xh a b c d e f g h i j k l)=atP (C (J 508 []) Xi) a b c d e f g h i j k l:=by kernel_rfl
theorem aB5{J a b c d e f g h i j k l}:pAp J 31 [] (Xg a b c d e f g h i j k l)=atO (C (J 63 []) Xh) a b c d e f g h i j k l:=by kernel_rfl
abbrev pAo:=zj Xe Xf 13 Gs
theorem aB6:C (pAo 127 []) Xj=atT:=gNC (by decide) fun _=>aB2
theorem aB7:C (pAo 508 []) Xi=atU:=gNC (by decide) fun _=>aB3.trans (by rw[aB6]<;>kernel_rfl)
theorem aB8:C (pAo 63 []) Xh=atX:=gNC (by decide) fun _=>aB4.trans (by rw[aB7]<;>kernel_rfl)
theorem aB9:C (pAo 31 []) Xg=Aa:=gNC (by decide) fun _=>aB5.trans (by rw[aB8]<;>kernel_rfl)
theorem Xm:ak Tryz.prog (fun _=>True) 13 ⟨Gs,Ab⟩:=zcc (env:=Xe) (d:=6) (hs:=Ev.get Xf) (aj WV (aj WJ (aj aBX (aj atN bq)))) (fun J x=>Xl (C (J 31 []) Xg) x.1) (fun _ _=>by kernel_rfl) fun _=>by rw[aB9]<;>rfl
@[reducible] def cG:List Ty:=[.pr (.int .i64) aA]
@[reducible] def OU:Sh:=⟨[.d iE],[],cG,[.d (.bool)],[],0,[.bool]⟩
def Xn(x:Int×List Int):Option aD :=
 if le (zF (zG x.2)) 14=true then if ge x.1 0=true then if lt x.1 64=true then some (le (add .i64 x.1 (zF (zG x.2))) 64,()) else some (false,()) else some (false,()) else some (false,())
def rY(x:As cG):Option aD:=Xn x.1
theorem OV:ak Tryz.prog (fun _=>True) 76 ⟨OU,rY⟩:=ctn bq 6 fun J x=>by kernel_rfl
@[reducible] def OX:Sh:=⟨[.d iE],[],cG,[.d aA],[],0,aM⟩
def ant:Env:=(cts [(76,(⟨OU,rY⟩:Ct))])
def anu:List (Nat×Hint):=[(7,⟨[],[3]⟩),(60,⟨[],[3]⟩)]
def anv(l:List Int):St:=⟨[(3,.row 0)],28,[],[(0,.row (.int .u16) 23 l)],1,[],0⟩
def Xo(l:List Int):St:=⟨[(3,.row 0)],28,[],[(0,.row (.int .u16) 23 l)],1,[],0⟩
@[reducible] def zF6:Type:=List Int->Option bU
def atY(a:zF6)(b:List Int):Option bU :=
 a b
def Xp(b:zF6)(a:List Int):Option bU :=
 if lt (zF (zG a)) 16=true then need (small (zG a+1)) (b (a++[0])) else some (a,())
def Xq(b:zF6)(a:Int×List Int):Option bU :=
 zC (rY (a,())) fun c=>if c.1=true then need (small (0+Nat.succ (Nat.succ 0))) (need (small (Nat.succ (Nat.succ 0)+zG a.2)) (b (cvt .u16 a.1::cvt .u16 (zF (zG a.2))::a.2))) else b (zE 0 0)
def OY(a:List Int):Option bU :=
 ay (fun c b=>Xp (fun a=>c (a)) b) 18446744073709551616 (a)
def Xr:=atY (OY)
def Dj(x:As cG):Option bU:=Xq Xr x.1
abbrev pGv:=zp ant anu 73 OX
theorem aCa{J w2 a}:pGv J 60 [w2] (Xo a)=Xp (C w2 Xo) a:=by kernel_rfl
theorem aCb{J a}:pGv J 7 [] (anv a)=atY (C (J 60 []) Xo) a:=by kernel_rfl
abbrev pGu:=zj ant anu 73 OX
theorem aCc:C (pGu 60 []) Xo=OY:=gLC (by decide) (by kernel_rfl) (fun _=>by unfold OY;rfl) fun _ _=>aCa.trans (by kernel_rfl)
theorem aCd:C (pGu 7 []) anv=Xr:=gNC (by decide) fun _=>aCb.trans (by rw[aCc]<;>kernel_rfl)
theorem anw:ak Tryz.prog (fun _=>True) 73 ⟨OX,Dj⟩:=zcc (env:=ant) (d:=6) (hs:=Ev.get anu) (aj OV bq) (fun J x=>Xq (C (J 7 []) anv) x.1) (fun _ _=>by kernel_rfl) fun _=>by rw[aCd]<;>rfl
@[reducible] def Li:Sh:=⟨[.d iE],[],cG,[.d iE],[],0,cG⟩
def Xt(x:Int×List Int):Option (As cG) :=
 zC (oO (x.2,())) fun y=>some ((x.1,y.1),())
def Ac(x:As cG):Option (As cG):=Xt x.1
theorem Xu:ak Tryz.prog (fun _=>True) 79 ⟨Li,Ac⟩:=ctn (aj OI bq) 6 fun J x=>by kernel_rfl
@[reducible] def OZ:Sh:=shD dO [.bool]
def anx:Env:=(cts [])
def anz:List (Nat×Hint):=[(58,⟨[],[0,1,12,13]⟩)]
def Xv(a b:List Int)(c d:Int):St:=⟨[(0,dW a),(1,dW b),(12,dI c),(13,dI d)],26,[],[],0,[],0⟩
def O0(e:zF0)(b c:List Int)(d a:Int):Option aD :=
 if lt a d=true then zC (at? b a) fun f=>zC (at? c a) fun g=>if nei f g=true then some (false,()) else e b c d (add .i64 a 1) else some (true,())
def Xw(c:zF0)(a b:List Int):Option aD :=
 if nei (zF (zG a)) (zF (zG b))=true then some (false,()) else c a b (zF (zG a)) 0
def O1(b c:List Int)(d e:Int):Option aD :=
 ay (fun f a=>O0 (fun b c d e=>f (b,c,d,e)) a.1 a.2.1 a.2.2.1 a.2.2.2) 18446744073709551616 (b,c,d,e)
def Ad(x:As dO):Option aD:=Xw O1 x.1 x.2.1
abbrev pGd:=zp anx anz 80 OZ
theorem aCe{J w1 a b c d}:pGd J 58 [w1] (Xv a b c d)=O0 (C w1 Xv) a b c d:=by kernel_rfl
abbrev pGc:=zj anx anz 80 OZ
theorem aCf:C (pGc 58 []) Xv=O1:=gLC (by decide) (by kernel_rfl) (fun _=>by unfold O1;rfl) fun _ _=>aCe.trans (by kernel_rfl)
theorem Xx:ak Tryz.prog (fun _=>True) 80 ⟨OZ,Ad⟩:=zcc (env:=anx) (d:=6) (hs:=Ev.get anz) bq (fun J x=>Xw (C (J 58 []) Xv) x.1 x.2.1) (fun _ _=>by kernel_rfl) fun _=>by rw[aCf]<;>rfl
@[reducible] def fK:List Ty:=[.int .u16,.int .u16]
@[reducible] def Xy:Sh:=shD fK [.int .u32]
@[reducible] def aY:Type:=As [.int .u32]
def Xz(a b:Int):Option aY :=
 some (Sx.bor .u32 (Sx.shl .u32 (cvt .u32 a) 16) (cvt .u32 b),())
def Dk(x:As fK):Option aY:=Xz x.1 x.2.1
theorem atZ:ak Tryz.prog (fun _=>True) 81 ⟨Xy,Dk⟩:=ctn bq 6 fun J x=>by kernel_rfl
@[reducible] def aN:List Ty:=[.int .u16,.int .u32,.int .i64,.pr (.int .i64) aA,.int .i64]
@[reducible] def XA:Sh:=⟨[.d aA],[],aM,[.d (.int .u16),.d (.int .u32),.d (.int .i64),.d iE,.d (.int .i64)],[],0,aN⟩
def anA:Env:=(cts [(73,(⟨OX,Dj⟩:Ct)),(76,(⟨OU,rY⟩:Ct)),(79,(⟨Li,Ac⟩:Ct)),(80,(⟨OZ,Ad⟩:Ct)),(81,(⟨Xy,Dk⟩:Ct))])
def anB:List (Nat×Hint):=[(126,⟨[],[0,5,10,53]⟩),(6,⟨[],[0,5,19,47,48,49,50,51,52]⟩)]
def XB(c:List Int)(a:Bool)(b:Int):St:=⟨[(0,dW c),(5,.pb 0 0),(19,dB a)],70,[],[(0,.box 30 [dI b,.k (zK zH 0 0)])],1,[],0⟩
def XC(d:List Int)(c:Bool)(b:Int)(a:Int×List Int):St:=⟨[(0,dW d),(5,.pb 0 0),(10,.pb 1 0),(53,dB c)],70,[],[(0,.box 30 [dI b,.k (zK zH 0 0)]),(1,.box 30 [dI a.1,dW a.2])],2,[],0⟩
@[reducible] def dU:Type:=As aN
def XD(e:List Int->Bool->Int->Int×List Int->Option dU)(a:List Int)(g:Bool)(f:Int):Option dU :=
 if g=true then some (0,0,0,(0,[]),2,()) else zC (at? a 4) fun b=>zC (at? a 5) fun c=>zC (cut a 6 (zF (zG a))) fun d=>if gt (cvt .i64 c) (zF (zG d))=true then some (0,0,0,(0,[]),20,()) else zC (cut d 0 (cvt .i64 c)) fun h=>need (le (cvt .i64 c) (cvt .i64 c)) (need (le (cvt .i64 c) (zF (zG d))) (zC (Ac ((cvt .i64 b,h),())) fun b=>zC (rY (b.1,())) fun i=>if (!i.1)=true then e a true f b.1 else zC (cut a 4 (zF (zG a))) fun j=>zC (Dj (b.1,())) fun k=>zC (Ad (k.1,j,())) fun l=>e a (!l.1) f b.1))
def XE(a:List Int)(b:Bool)(i:Int)(c:Int×List Int):Option dU :=
 if b=true then some (0,0,0,(0,[]),20,()) else zC (at? a 0) fun d=>zC (at? a 1) fun e=>zC (at? a 2) fun f=>zC (at? a 3) fun g=>zC (Dk (e,f,())) fun h=>some (d,h.1,cvt .i64 g,c,0,())
def XF(b:List Int->Bool->Int->Option dU)(a:List Int):Option dU :=
 if nei (zF (zG a)) 20=true then b a true 0 else zC (at? a 3) fun c=>b a (ge c 8) 0
def XG:=XE
def XH:=XD (XG)
def Gu(x:As aM):Option dU:=XF XH x.1
abbrev pGp:=zp anA anB 24 XA
theorem aCg{J a b c d}:pGp J 126 [] (XC a b c d)=XE a b c d:=by kernel_rfl
theorem aCh{J a b c}:pGp J 6 [] (XB a b c)=XD (C (J 126 []) XC) a b c:=by kernel_rfl
abbrev pGo:=zj anA anB 24 XA
theorem aCi:C (pGo 126 []) XC=XG:=gNC (by decide) fun _=>aCg
theorem aCj:C (pGo 6 []) XB=XH:=gNC (by decide) fun _=>aCh.trans (by rw[aCi]<;>kernel_rfl)
theorem aCk:ak Tryz.prog (fun _=>True) 24 ⟨XA,Gu⟩:=zcc (env:=anA) (d:=6) (hs:=Ev.get anB) (aj anw (aj OV (aj Xu (aj Xx (aj atZ bq))))) (fun J x=>XF (C (J 6 []) XB) x.1) (fun _ _=>by kernel_rfl) fun _=>by rw[aCj]<;>rfl
@[reducible] def cY:Ty:=.pr gW gW
@[reducible] def bY:Ty:=.pr gW cY
@[reducible] def eY:List Ty:=[.pr gW bY]
@[reducible] def O3:Sh:=shD [] eY
def anC:Env:=(cts [])
def anD:List (Nat×Hint):=[(7,⟨[],[0,1]⟩),(58,⟨[],[0,1,8]⟩)]
def XI(a:Int)(b:List dw):St:=⟨[(0,.pb 0 0),(1,.row 1),(8,dI a)],27,[],[(0,.box 101 [.k (zK zH 0 0),.k (zK zH 0 0),.k (zK zH 0 0),.k (zK zH 0 0)]),(1,.row cO 168 b)],2,[],0⟩
def XJ(a:List dw):St:=⟨[(0,.pb 0 0),(1,.row 1)],27,[],[(0,.box 101 [.k (zK zH 0 0),.k (zK zH 0 0),.k (zK zH 0 0),.k (zK zH 0 0)]),(1,.row cO 168 a)],2,[],0⟩
@[reducible] def eO:Type:=As eY
@[reducible] def zF7:Type:=Int->List dw->Option eO
def at5(c:List dw->Option eO)(d:zF7)(a:Int)(b:List dw):Option eO :=
 if lt a 8=true then need (small (zG b+Nat.succ 0)) (d (add .i64 a 1) (b++[(add .i64 512 (mul .i64 a 32),20,true,false,false)])) else c b
def at6(a:List dw):Option eO :=
 some (([(0,16,true,true,false)],[(0,8,true,false,false)],a,[(0,8,true,false,false)]),())
def at7(a:zF7):Option eO :=
 a 0 [(0,64,true,false,false),(256,8,true,false,false),(272,8,false,true,true),(288,20,false,true,true)]
def aua:=at6
def XK(a:Int)(b:List dw):Option eO :=
 ay (fun d c=>at5 (aua) (fun a b=>d (a,b)) c.1 c.2) 18446744073709551616 (a,b)
def uh(x:As []):Option eO:=at7 XK
abbrev pFz:=zp anC anD 49 O3
theorem aCl{J a}:pFz J 7 [] (XJ a)=at6 a:=by kernel_rfl
theorem aCm{J w1 a b}:pFz J 58 [w1] (XI a b)=at5 (C (J 7 []) XJ) (C w1 XI) a b:=by kernel_rfl
abbrev pFy:=zj anC anD 49 O3
theorem aCn:C (pFy 7 []) XJ=aua:=gNC (by decide) fun _=>aCl
theorem aCo:C (pFy 58 []) XI=XK:=gLC (by decide) (by kernel_rfl) (fun _=>by unfold XK;rfl) fun _ _=>aCm.trans (by rw[aCn]<;>kernel_rfl)
theorem aub:ak Tryz.prog (fun _=>True) 49 ⟨O3,uh⟩:=zcc (env:=anC) (d:=6) (hs:=Ev.get anD) bq (fun J x=>at7 (C (J 58 []) XI)) (fun _ _=>by kernel_rfl) fun _=>by rw[aCo]<;>rfl
@[reducible] def fC:List Ty:=[.sl (.int .u8),.sl (.int .u8)]
@[reducible] def XL:Sh:=shD fC [.bool]
def aCp(a b:List Int):Option aD :=
 some (eqs (Sx.toS a) (Sx.toS b),())
def oQ(x:As fC):Option aD:=aCp x.1 x.2.1
theorem auc:ak Tryz.prog (fun _=>True) 66 ⟨XL,oQ⟩:=ctn bq 6 fun J x=>by kernel_rfl
@[reducible] def O4:Sh:=shD aI aM
def XM:Env:=(cts [])
def XN:List (Nat×Hint):=[(58,⟨[],[0,3,10,11]⟩)]
def Lj(a:List Int)(c d:Int)(b:List Int):St:=⟨[(0,dL a),(3,.row 0),(10,dI c),(11,dI d)],34,[],[(0,.row (.int .u16) 23 b)],1,[],0⟩
@[reducible] def zF8:Type:=List Int->Int->Int->List Int->Option bU
def O5(e:zF8)(c:List Int)(d a:Int)(b:List Int):Option bU :=
 if lt a d=true then zC (at? c (mul .i64 2 a)) fun g=>zC (at? c (add .i64 (mul .i64 2 a) 1)) fun h=>zC (at? b a) fun f=>zC (at? b a) fun f=>e c d (add .i64 a 1) (List.set b (zI a) (Sx.bor .u16 (Sx.shl .u16 (cvt .u16 g) 8) (cvt .u16 h))) else some (b,())
def Ll(b:zF8)(a:List Int):Option bU :=
 need (ge (quo .i64 (zF (zG a)) 2) 0) (need (Ev.jC (quo .i64 (zF (zG a)) 2) (quo .i64 (zF (zG a)) 2)) (need (small (zI (quo .i64 (zF (zG a)) 2))) (b a (zF (zG (zE (α:=Int) (zI (quo .i64 (zF (zG a)) 2)) 0))) 0 (zE (zI (quo .i64 (zF (zG a)) 2)) 0))))
def O6(b:List Int)(d e:Int)(c:List Int):Option bU :=
 ay (fun f a=>O5 (fun b d e c=>f (b,d,e,c)) a.1 a.2.1 a.2.2.1 a.2.2.2) 18446744073709551616 (b,d,e,c)
def vF(x:As aI):Option bU:=Ll O6 x.1
abbrev pAz:=zp XM XN 201 O4
theorem aCq{J w1 a b c d}:pAz J 58 [w1] (Lj a b c d)=O5 (C w1 Lj) a b c d:=by kernel_rfl
abbrev pAy:=zj XM XN 201 O4
theorem aCr:C (pAy 58 []) Lj=O6:=gLC (by decide) (by kernel_rfl) (fun _=>by unfold O6;rfl) fun _ _=>aCq.trans (by kernel_rfl)
theorem aud:ak Tryz.prog (fun _=>True) 201 ⟨O4,vF⟩:=zcc (env:=XM) (d:=6) (hs:=Ev.get XN) bq (fun J x=>Ll (C (J 58 []) Lj) x.1) (fun _ _=>by kernel_rfl) fun _=>by rw[aCr]<;>rfl
@[reducible] def XO:Sh:=shD aI [.sl .bool]
def anE:Env:=(cts [])
def anF:List (Nat×Hint):=[(58,⟨[],[0,3,10,11]⟩)]
def XP(a:List Int)(c d:Int)(b:List Bool):St:=⟨[(0,dL a),(3,.row 0),(10,dI c),(11,dI d)],29,[],[(0,.row .bool 4 b)],1,[],0⟩
@[reducible] def cM:Type:=As [.sl .bool]
@[reducible] def zF9:Type:=List Int->Int->Int->List Bool->Option cM
def O7(e:zF9)(c:List Int)(d a:Int)(b:List Bool):Option cM :=
 if lt a d=true then zC (at? c (quo .i64 a 8)) fun g=>need (ge (rem a 8) 0) (zC (at? b a) fun f=>zC (at? b a) fun f=>e c d (add .i64 a 1) (List.set b (zI a) (eqi (Sx.kK .u8 (Sx.shr .u8 g (rem a 8)) 1) 1))) else some (b,())
def XQ(b:zF9)(a:List Int):Option cM :=
 need (ge (mul .i64 8 (zF (zG a))) 0) (need (Ev.jC (mul .i64 8 (zF (zG a))) (mul .i64 8 (zF (zG a)))) (need (small (zI (mul .i64 8 (zF (zG a))))) (b a (zF (zG (zE (zI (mul .i64 8 (zF (zG a)))) false))) 0 (zE (zI (mul .i64 8 (zF (zG a)))) false))))
def O8(b:List Int)(d e:Int)(c:List Bool):Option cM :=
 ay (fun f a=>O7 (fun b d e c=>f (b,d,e,c)) a.1 a.2.1 a.2.2.1 a.2.2.2) 18446744073709551616 (b,d,e,c)
def Gv(x:As aI):Option cM:=XQ O8 x.1
abbrev pAx:=zp anE anF 212 XO
theorem aCs{J w1 a b c d}:pAx J 58 [w1] (XP a b c d)=O7 (C w1 XP) a b c d:=by kernel_rfl
abbrev pAw:=zj anE anF 212 XO
theorem aCt:C (pAw 58 []) XP=O8:=gLC (by decide) (by kernel_rfl) (fun _=>by unfold O8;rfl) fun _ _=>aCs.trans (by kernel_rfl)
theorem aue:ak Tryz.prog (fun _=>True) 212 ⟨XO,Gv⟩:=zcc (env:=anE) (d:=6) (hs:=Ev.get anF) bq (fun J x=>XQ (C (J 58 []) XP) x.1) (fun _ _=>by kernel_rfl) fun _=>by rw[aCt]<;>rfl
@[reducible] def cE:List Ty:=[.pr (.int .u8) mK,.bool]
@[reducible] def XR:Sh:=shD [.pr (.int .u8) mK,.pr (.int .i64) xH,.sl (.int .u8)] cE
def anG:Env:=(cts [(201,(⟨O4,vF⟩:Ct)),(212,(⟨XO,Gv⟩:Ct))])
def anH:List (Nat×Hint):=[(15,⟨[.frb 3,.frb 6],[3,6]⟩)]
def XT(a b c d:Int)(e:List Int)(f:List Bool)(g h i j:Int)(k:List Int)(l:List Bool):St:=⟨[(3,.pb 0 0),(6,.pb 1 0)],63,[],[(0,.box 44 [d8 a,d6 b,d6 c,d6 d,dW e,.d (.sl .bool) f]),(1,.box 44 [d8 g,d6 h,d6 i,d6 j,dW k,.d (.sl .bool) l])],2,[],0⟩
@[reducible] def cC:Type:=As cE
def auf(a b c d:Int)(e:List Int)(f:List Bool)(g h i j:Int)(k:List Int)(l:List Bool):Option cC :=
 some ((a,b,c,d,e,f),true,())
def XU(d:Int->Int->Int->Int->List Int->List Bool->Int->Int->Int->Int->List Int->List Bool->Option cC)(a:zF2)(e:Int×Int×Int×Bool×Bool)(c:List Int):Option cC :=
 if eqi (add .i64 e.2.1 e.2.2.1) 0=true then some (a,true,()) else if lt (zF (zG c)) 2=true then some ((0,0,0,0,[],[]),false,()) else if eqi a.1 5=true then zC (at? c 0) fun b=>d a.1 a.2.1 a.2.2.1 a.2.2.2.1 a.2.2.2.2.1 [nei b 0] 0 0 0 0 [] [] else if eqi a.1 6=true then zC (vF (c,())) fun b=>d a.1 a.2.1 a.2.2.1 a.2.2.2.1 b.1 a.2.2.2.2.2 0 0 0 0 [] [] else if gt e.2.1 0=true then zC (cut c 1 (zF (zG c))) fun b=>zC (Gv (b,())) fun b=>if lt (zF (zG b.1)) (cvt .i64 a.2.2.1)=true then some ((0,0,0,0,[],[]),false,()) else zC (cut b.1 0 a.2.2.1) fun f=>need (le a.2.2.1 a.2.2.1) (need (le a.2.2.1 (zF (zG b.1))) (d a.1 a.2.1 a.2.2.1 a.2.2.2.1 a.2.2.2.2.1 f 0 0 0 0 [] [])) else zC (cut c 1 (zF (zG c))) fun b=>zC (vF (b,())) fun b=>d a.1 a.2.1 a.2.2.1 a.2.2.2.1 b.1 a.2.2.2.2.2 0 0 0 0 [] []
def XW:=auf
def qM(x:As [.pr (.int .u8) mK,.pr (.int .i64) xH,.sl (.int .u8)]):Option cC:=XU XW x.1 x.2.1 x.2.2.1
abbrev pA5:=zp anG anH 202 XR
theorem aCu{J a b c d e f g h i j k l}:pA5 J 15 [] (XT a b c d e f g h i j k l)=auf a b c d e f g h i j k l:=by kernel_rfl
abbrev pA4:=zj anG anH 202 XR
theorem aCv:C (pA4 15 []) XT=XW:=gNC (by decide) fun _=>aCu
theorem aCw:ak Tryz.prog (fun _=>True) 202 ⟨XR,qM⟩:=zcc (env:=anG) (d:=6) (hs:=Ev.get anH) (aj aud (aj aue bq)) (fun J x=>XU (C (J 15 []) XT) x.1 x.2.1 x.2.2.1) (fun _ _=>by kernel_rfl) fun _=>by rw[aCv]<;>rfl
@[reducible] def XX:Sh:=shD aI cE
def XY:Env:=(cts [(59,(⟨Le,xI⟩:Ct)),(201,(⟨O4,vF⟩:Ct)),(202,(⟨XR,qM⟩:Ct))])
def XZ:List (Nat×Hint):=[(255,⟨[],[2,4,6,7,8]⟩),(511,⟨[],[2,4,7,8]⟩),(6,⟨[],[0,2,16]⟩)]
def X0(a:List Int)(b:Bool)(c d e f:Int):St:=⟨[(0,dL a),(2,.pb 0 0),(16,dB b)],67,[],[(0,.box 44 [d8 c,d6 d,d6 e,d6 f,.k (zK zH 0 0),.k (zK zH 0 0)])],1,[],0⟩
def X3(e f:List Int)(l m n o g h i:Int)(j k:Bool)(a b c d:Int):St:=⟨[(2,.pb 0 0),(4,.pb 1 0),(6,dW e),(7,.pb 2 0),(8,dL f)],67,[],[(0,.box 44 [d8 l,d6 m,d6 n,d6 o,.k (zK zH 0 0),.k (zK zH 0 0)]),(1,.box 114 [dI g,dI h,dI i,dB j,dB k]),(2,.box 44 [d8 a,d6 b,d6 c,d6 d,.k (zK zH 0 0),.k (zK zH 0 0)])],3,[],0⟩
def X4(e:List Int)(k l m n f g h:Int)(i j:Bool)(a b c d:Int):St:=⟨[(2,.pb 0 0),(4,.pb 1 0),(7,.pb 2 0),(8,dL e)],67,[],[(0,.box 44 [d8 k,d6 l,d6 m,d6 n,.k (zK zH 0 0),.k (zK zH 0 0)]),(1,.box 114 [dI f,dI g,dI h,dB i,dB j]),(2,.box 44 [d8 a,d6 b,d6 c,d6 d,.k (zK zH 0 0),.k (zK zH 0 0)])],3,[],0⟩
def Ae(d:List Int->List Int->Int->Int->Int->Int->Int->Int->Int->Bool->Bool->Int->Int->Int->Int->Option cC)(b:List Int)(k:Bool)(e f g h:Int):Option cC :=
 if k=true then some ((0,0,0,0,[],[]),false,()) else zC (at? b 0) fun a=>zC (xI (a,())) fun a=>if (!a.2.1)=true then some ((0,0,0,0,[],[]),false,()) else zC (cut b 1 (zF (zG b))) fun l=>zC (vF (l,())) fun c=>zC (at? b 0) fun i=>zC (at? c.1 0) fun j=>zC (cut b 3 (zF (zG b))) fun m=>if gt a.1.1 0=true then zC (at? c.1 1) fun n=>zC (cut b 5 (zF (zG b))) fun o=>d c.1 o e f g h a.1.1 a.1.2.1 a.1.2.2.1 a.1.2.2.2.1 a.1.2.2.2.2 i j n 0 else d c.1 m e f g h a.1.1 a.1.2.1 a.1.2.2.1 a.1.2.2.2.1 a.1.2.2.2.2 i j 0 0
def X5(f:List Int->Int->Int->Int->Int->Int->Int->Int->Bool->Bool->Int->Int->Int->Int->Option cC)(p a:List Int)(k l m n g h i:Int)(b j:Bool)(c d e o:Int):Option cC :=
 if b=true then if lt (zF (zG a)) 4=true then some ((0,0,0,0,[],[]),false,()) else zC (at? p 2) fun q=>zC (cut a 4 (zF (zG a))) fun r=>f r k l m n g h i b j c d e q else f a k l m n g h i b j c d e o
def aug(f:List Int)(l m n o g h i:Int)(j k:Bool)(b c d e:Int):Option cC :=
 zC (qM ((b,c,d,e,[],[]),(g,h,i,j,k),f,())) fun a=>some (a.1,a.2.1,())
def vG(b:List Int->Bool->Int->Int->Int->Int->Option cC)(a:List Int):Option cC :=
 if lt (zF (zG a)) 5=true then b a true 0 0 0 0 else b a (gt (zF (zG a)) 253) 0 0 0 0
def X6:=aug
def xK:=X5 (X6)
def Dl:=Ae (xK)
def Af(x:As aI):Option cC:=vG Dl x.1
abbrev pA3:=zp XY XZ 174 XX
theorem aCx{J a b c d e f g h i j k l m n}:pA3 J 511 [] (X4 a b c d e f g h i j k l m n)=aug a b c d e f g h i j k l m n:=by kernel_rfl
theorem aCy{J a b c d e f g h i j k l m n o}:pA3 J 255 [] (X3 a b c d e f g h i j k l m n o)=X5 (C (J 511 []) X4) a b c d e f g h i j k l m n o:=by kernel_rfl
theorem aCz{J a b c d e f}:pA3 J 6 [] (X0 a b c d e f)=Ae (C (J 255 []) X3) a b c d e f:=by kernel_rfl
abbrev pA2:=zj XY XZ 174 XX
theorem aCA:C (pA2 511 []) X4=X6:=gNC (by decide) fun _=>aCx
theorem aCB:C (pA2 255 []) X3=xK:=gNC (by decide) fun _=>aCy.trans (by rw[aCA]<;>kernel_rfl)
theorem aCC:C (pA2 6 []) X0=Dl:=gNC (by decide) fun _=>aCz.trans (by rw[aCB]<;>kernel_rfl)
theorem aCD:ak Tryz.prog (fun _=>True) 174 ⟨XX,Af⟩:=zcc (env:=XY) (d:=6) (hs:=Ev.get XZ) (aj WJ (aj aud (aj aCw bq))) (fun J x=>vG (C (J 6 []) X0) x.1) (fun _ _=>by kernel_rfl) fun _=>by rw[aCC]<;>rfl
@[reducible] def eL:List Ty:=[.pr (.int .u8) mK,.int .i64]
@[reducible] def anI:Sh:=shD aI eL
def X7:Env:=(cts [(13,(⟨Gs,Ab⟩:Ct)),(66,(⟨XL,oQ⟩:Ct)),(174,(⟨XX,Af⟩:Ct))])
def X8:List (Nat×Hint):=[(61,⟨[],[2,4,28]⟩)]
def X9(h:Bool)(g i j k a b c d:Int)(e:List Int)(f:List Bool):St:=⟨[(2,.pb 0 0),(4,.pb 1 0),(28,dB h)],31,[],[(0,.box 44 [d8 g,d6 i,d6 j,d6 k,.k (zK zH 0 0),.k (zK zH 0 0)]),(1,.box 44 [d8 a,d6 b,d6 c,d6 d,dW e,.d (.sl .bool) f])],2,[],0⟩
def auh(g:Bool)(h i j k a b c d:Int)(e:List Int)(f:List Bool):Option (As eL) :=
 if g=true then some ((0,0,0,0,[],[]),12,()) else some ((a,b,c,d,e,f),0,())
def Gw(c:Bool->Int->Int->Int->Int->Int->Int->Int->Int->List Int->List Bool->Option (As eL))(b:List Int):Option (As eL) :=
 zC (Af (b,())) fun a=>if (!a.2.1)=true then some ((0,0,0,0,[],[]),12,()) else zC (Ab (a.1,())) fun d=>if nei d.2.1 0=true then c true 0 0 0 0 a.1.1 a.1.2.1 a.1.2.2.1 a.1.2.2.2.1 a.1.2.2.2.2.1 a.1.2.2.2.2.2 else zC (oQ (d.1,b,())) fun e=>c (!e.1) 0 0 0 0 a.1.1 a.1.2.1 a.1.2.2.1 a.1.2.2.2.1 a.1.2.2.2.2.1 a.1.2.2.2.2.2
def Ya:=auh
def Gx(x:As aI):Option (As eL):=Gw Ya x.1
abbrev pAt:=zp X7 X8 123 anI
theorem aCE{J a b c d e f g h i j k}:pAt J 61 [] (X9 a b c d e f g h i j k)=auh a b c d e f g h i j k:=by kernel_rfl
abbrev pAs:=zj X7 X8 123 anI
theorem aCF:C (pAs 61 []) X9=Ya:=gNC (by decide) fun _=>aCE
theorem aCG:ak Tryz.prog (fun _=>True) 123 ⟨anI,Gx⟩:=zcc (env:=X7) (d:=6) (hs:=Ev.get X8) (aj Xm (aj auc (aj aCD bq))) (fun J x=>Gw (C (J 61 []) X9) x.1) (fun _ _=>by kernel_rfl) fun _=>by rw[aCF]<;>rfl
@[reducible] def aui:Sh:=shD aI [.pr (.int .u8) mK,.int .u8]
def O9(b:List Int):Option (As [.pr (.int .u8) mK,.int .u8]) :=
 if eqi (zF (zG b)) 0=true then some ((0,0,0,0,[],[]),1,()) else zC (Gx (b,())) fun a=>if eqi a.2.1 0=true then some (a.1,0,()) else zC (at? b 0) fun a=>zC (at? b 0) fun c=>zC (xI (c,())) fun d=>if (!d.2.1)=true then some ((a,0,0,0,[],[]),1,()) else some ((a,0,0,0,[],[]),3,())
def xL(x:As aI):Option (As [.pr (.int .u8) mK,.int .u8]):=O9 x.1
theorem aCH:ak Tryz.prog (fun _=>True) 52 ⟨aui,xL⟩:=ctn (aj WJ (aj aCG bq)) 6 fun J x=>by kernel_rfl
@[reducible] def eR:List Ty:=[.pr gW bY,.pr (.sl .bool) uN]
@[reducible] def dE:Ty:=.pr gW (.sl .bool)
@[reducible] def eK:Ty:=.pr gW aA
@[reducible] def dV:Ty:=.pr eK eK
@[reducible] def cN:Ty:=.pr dE dV
@[reducible] def auj:Sh:=shD eR [.pr dE cN]
def aCI(s:List dw×List dw×List dw×List dw)(m:List Bool×List Bool×List Int×List Int):Option (As [.pr dE cN]) :=
 some (((s.1,m.1),(s.2.1,m.2.1),(s.2.2.1,m.2.2.1),s.2.2.2,m.2.2.2),())
def Gy(x:As eR):Option (As [.pr dE cN]):=aCI x.1 x.2.1
theorem auk:ak Tryz.prog (fun _=>True) 117 ⟨auj,Gy⟩:=ctn bq 6 fun J x=>by kernel_rfl
@[reducible] def Yb:Sh:=shD [.int .u8] [.pr (.int .i64) (.int .i64)]
def Yc(f:Int):Option (As [.pr (.int .i64) (.int .i64)]) :=
 some (Ev.gdV (.pr (.int .i64) (.int .i64)) (if eqi 1 f=true then some (1,0) else if eqi 2 f=true then some (2,0) else if eqi 3 f=true then some (3,0) else if eqi 4 f=true then some (4,0) else if eqi 5 f=true then some (0,1) else if eqi 6 f=true then some (0,3) else if eqi 15 f=true then some (0,1) else if eqi 16 f=true then some (0,3) else if eqi 23 f=true then some (3,3) else zH) (0,0),())
def Gz(x:As [.int .u8]):Option (As [.pr (.int .i64) (.int .i64)]):=Yc x.1
theorem aul:ak Tryz.prog (fun _=>True) 124 ⟨Yb,Gz⟩:=ctn bq 6 fun J x=>by kernel_rfl
@[reducible] def anJ:Sh:=shD dZ cP
@[reducible] def fR:Type:=As cP
def anK(a:zF2):Option fR :=
 if eqi a.1 23=true then some (cvt .i64 a.2.2.2.1,add .i64 (zF (zG a.2.2.2.2.2)) (zF (zG a.2.2.2.2.1)),()) else some (cvt .i64 a.2.1,add .i64 (zF (zG a.2.2.2.2.2)) (zF (zG a.2.2.2.2.1)),())
def Dm(x:As dZ):Option fR:=anK x.1
theorem aum:ak Tryz.prog (fun _=>True) 126 ⟨anJ,Dm⟩:=ctn bq 6 fun J x=>by kernel_rfl
@[reducible] def Pb:Sh:=shD [.pr (.int .i64) Ch] [.bool]
def aPh(x:je):Option aD :=
 some (x.2.2.1,())
def Ag(x:As [.pr (.int .i64) Ch]):Option aD:=aPh x.1
theorem Pd:ak Tryz.prog (fun _=>True) 259 ⟨Pb,Ag⟩:=ctn bq 6 fun J x=>by kernel_rfl
@[reducible] def dA:List Ty:=[.pr (.int .i64) Ch,.int .i64,.int .i64]
@[reducible] def aU:List Ty:=[.bool,.int .i64,.int .i64]
@[reducible] def Pe:Sh:=⟨[.d cO,.pb 0 0,.pb 1 0],[.box 3 [.d (.int .i64)],.box 3 [.d (.int .i64)]],dA,[.d (.bool)],[(0,.box 3 [.d (.int .i64)]),(1,.box 3 [.d (.int .i64)])],0,aU⟩
@[reducible] def aT:Type:=As aU
def anL(c:je)(a b:Int):Option aT :=
 if c.2.2.2.1=true then if (!c.2.2.2.2)=true then some (true,a,b,()) else if eqi c.1 a=true then some (eqi c.2.1 b,a,b,()) else some (false,a,b,()) else some (false,a,b,())
def xM(x:As dA):Option aT:=anL x.1 x.2.1 x.2.2.1
theorem Pf:ak Tryz.prog (fun _=>True) 260 ⟨Pe,xM⟩:=ctn bq 6 fun J x=>by kernel_rfl
@[reducible] def Dn:Sh:=shD dA cP
def anM:Env:=(cts [])
def anN:List (Nat×Hint):=[(15,⟨[],[1,3,8]⟩),(30,⟨[],[1,2,3,8,32]⟩),(6,⟨[],[1,2,3,17,25,26,27,28,29,30,31]⟩)]
def Yd(b c:Int)(d:Bool)(a:je):St:=⟨[(1,dI b),(2,dI c),(3,.pb 0 0),(17,dB d)],45,[],[(0,.box 168 [dI a.1,dI a.2.1,dB a.2.2.1,dB a.2.2.2.1,dB a.2.2.2.2])],1,[],0⟩
def Ye(b c e:Int)(d:Bool)(a:je):St:=⟨[(1,dI b),(2,dI c),(3,.pb 0 0),(8,dI e),(32,dB d)],45,[],[(0,.box 168 [dI a.1,dI a.2.1,dB a.2.2.1,dB a.2.2.2.1,dB a.2.2.2.2])],1,[],0⟩
def Yf(b c:Int)(a:je):St:=⟨[(1,dI b),(3,.pb 0 0),(8,dI c)],45,[],[(0,.box 168 [dI a.1,dI a.2.1,dB a.2.2.1,dB a.2.2.2.1,dB a.2.2.2.2])],1,[],0⟩
def Yg(d:Int->Int->Int->Bool->je->Option fR)(c a:Int)(e:Bool)(b:je):Option fR :=
 if e=true then some (c,c,()) else if lt b.1 0=true then d c a a true b else d c a a (lt b.2.1 (Sx.sub .i64 a b.1)) b
def Yh(d:Int->Int->je->Option fR)(b c f:Int)(e:Bool)(a:je):Option fR :=
 if e=true then d b (if lt (add .i64 a.1 a.2.1) c=true then add .i64 a.1 a.2.1 else c) a else d b f a
def Yi(a c:Int)(b:je):Option fR :=
 some (if gt b.1 a=true then b.1 else a,c,())
def Yj(d:Int->Int->Bool->je->Option fR)(a:je)(c b:Int):Option fR :=
 if lt a.2.1 1=true then d c b true a else d c b (ge a.1 b) a
def Yk:=Yi
def Pg:=Yh (Yk)
def Ph:=Yg (Pg)
def vH(x:As dA):Option fR:=Yj Ph x.1 x.2.1 x.2.2.1
abbrev pCd:=zp anM anN 261 Dn
theorem aCJ{J a b c}:pCd J 15 [] (Yf a b c)=Yi a b c:=by kernel_rfl
theorem aCK{J a b c d e}:pCd J 30 [] (Ye a b c d e)=Yh (C (J 15 []) Yf) a b c d e:=by kernel_rfl
theorem aCL{J a b c d}:pCd J 6 [] (Yd a b c d)=Yg (C (J 30 []) Ye) a b c d:=by kernel_rfl
abbrev pCc:=zj anM anN 261 Dn
theorem aCM:C (pCc 15 []) Yf=Yk:=gNC (by decide) fun _=>aCJ
theorem aCN:C (pCc 30 []) Ye=Pg:=gNC (by decide) fun _=>aCK.trans (by rw[aCM]<;>kernel_rfl)
theorem aCO:C (pCc 6 []) Yd=Ph:=gNC (by decide) fun _=>aCL.trans (by rw[aCN]<;>kernel_rfl)
theorem Yl:ak Tryz.prog (fun _=>True) 261 ⟨Dn,vH⟩:=zcc (env:=anM) (d:=6) (hs:=Ev.get anN) bq (fun J x=>Yj (C (J 6 []) Yd) x.1 x.2.1 x.2.2.1) (fun _ _=>by kernel_rfl) fun _=>by rw[aCO]<;>rfl
@[reducible] def Pj:Sh:=shD [.pr (.int .i64) Ch] [.bool]
def aPi(x:je):Option aD :=
 some (x.2.2.1,())
def Ah(x:As [.pr (.int .i64) Ch]):Option aD:=aPi x.1
theorem Pk:ak Tryz.prog (fun _=>True) 264 ⟨Pj,Ah⟩:=ctn bq 6 fun J x=>by kernel_rfl
@[reducible] def Pm:Sh:=⟨[.d cO,.pb 0 0,.pb 1 0],[.box 3 [.d (.int .i64)],.box 3 [.d (.int .i64)]],dA,[.d (.bool)],[(0,.box 3 [.d (.int .i64)]),(1,.box 3 [.d (.int .i64)])],0,aU⟩
def anO(c:je)(a b:Int):Option aT :=
 if c.2.2.2.1=true then if (!c.2.2.2.2)=true then some (true,a,b,()) else if eqi c.1 a=true then some (eqi c.2.1 b,a,b,()) else some (false,a,b,()) else some (false,a,b,())
def Fa(x:As dA):Option aT:=anO x.1 x.2.1 x.2.2.1
theorem Pn:ak Tryz.prog (fun _=>True) 265 ⟨Pm,Fa⟩:=ctn bq 6 fun J x=>by kernel_rfl
@[reducible] def fD:List Ty:=[.sl cO,.int .i64,.int .i64]
@[reducible] def anP:Sh:=⟨[.d gW,.d (.int .i64),.d (.int .i64),.fn (.func 259) [] []],[],fD,[.d (.bool)],[],0,[.bool]⟩
def anQ:Env:=(cts [(259,(⟨Pb,Ag⟩:Ct)),(260,(⟨Pe,xM⟩:Ct)),(261,(⟨Dn,vH⟩:Ct)),(264,(⟨Pj,Ah⟩:Ct)),(265,(⟨Pm,Fa⟩:Ct))])
def anR:List (Nat×Hint):=[(15,⟨[],[10]⟩),(122,⟨[],[1,2,3,9,10,19,20,21]⟩),(125342,⟨[],[1,2,3,9,10,12,14,15,19,20,21]⟩),(501369,⟨[],[1,2,3,9,10,12,14,15,19,20,21]⟩)]
def Ai(a c b:Int)(e:List dw)(f g:Int)(d:List Bool):St:=⟨[(1,dI a),(2,dI c),(3,.fn (.func 259) [] []),(9,.row 0),(10,dI b),(19,.d gW e),(20,dI f),(21,dI g)],62,[],[(0,.row .bool 4 d)],1,[],0⟩
def anS(a:Int):St:=⟨[(10,dI a)],62,[],[],0,[],0⟩
def GA(b e d j c:Int)(g:List dw)(h i:Int)(f:List Bool)(a:je):St:=⟨[(1,dI b),(2,dI e),(3,.fn (.func 259) [] []),(9,.row 0),(10,dI d),(12,.pb 1 0),(14,dI j),(15,dI c),(19,.d gW g),(20,dI h),(21,dI i)],62,[],[(0,.row .bool 4 f),(1,.box 168 [dI a.1,dI a.2.1,dB a.2.2.1,dB a.2.2.2.1,dB a.2.2.2.2])],2,[],0⟩
def anT(b e d j c:Int)(g:List dw)(h i:Int)(f:List Bool)(a:je):St:=⟨[(1,dI b),(2,dI e),(3,.fn (.func 259) [] []),(9,.row 0),(10,dI d),(12,.pb 1 0),(14,dI j),(15,dI c),(19,.d gW g),(20,dI h),(21,dI i)],62,[],[(0,.row .bool 4 f),(1,.box 168 [dI a.1,dI a.2.1,dB a.2.2.1,dB a.2.2.2.1,dB a.2.2.2.2])],2,[],0⟩
@[reducible] def GB:Type:=Int->Int->Int->List dw->Int->Int->List Bool->Option aD
def Po(d:Int->Option aD)(j:Int->Int->Int->Int->Int->List dw->Int->Int->List Bool->je->Option aD)(l:GB)(b e a:Int)(f:List dw)(g c:Int)(k:List Bool):Option aD :=
 if lt c g=true then zC (at? f c) fun h=>if eqi a 0=true then d a else zC (vH (h,b,add .i64 b e,())) fun i=>j b e a i.2.1 i.1 f g c k h else d a
def aun(a:Int):Option aD :=
 some (eqi a 0,())
def Pp(l:Int->Int->Int->Int->Int->List dw->Int->Int->List Bool->je->Option aD)(m:GB)(n:Int->Int->Int->Int->Int->List dw->Int->Int->List Bool->je->Option aD)(a e d i b:Int)(f:List dw)(g h:Int)(c:List Bool)(j:je):Option aD :=
 if lt b i=true then zC (at? c (Sx.sub .i64 b a)) fun o=>zC (at? c (Sx.sub .i64 b a)) fun k=>if k=true then l a e d i b f g h c j else zC (Ag (j,())) fun k=>if (!k.1)=true then some (false,()) else zC (at? c (Sx.sub .i64 b a)) fun p=>zC (at? c (Sx.sub .i64 b a)) fun q=>l a e (Sx.sub .i64 d 1) i b f g h (List.set c (zI (Sx.sub .i64 b a)) true) j else m a e d f g (add .i64 h 1) c
def anU(l:GB)(f:Int->Int->Int->Int->Int->List dw->Int->Int->List Bool->je->Option aD)(a d c j b:Int)(g:List dw)(h i:Int)(e:List Bool)(k:je):Option aD :=
 f a d c j (add .i64 b 1) g h i e k
def Ym(d:GB)(b:List dw)(c a:Int):Option aD :=
 need (ge a 0) (need (Ev.jC a a) (need (small (zI a)) (d c a a b (zF (zG b)) 0 (zE (zI a) false))))
def Pq:=aun
def GD(a:GB)(b:Int->Int->Int->Int->Int->List dw->Int->Int->List Bool->je->Option aD):=anU a b
def Dp(m:GB)(b e d j c:Int)(g:List dw)(h i:Int)(f:List Bool)(k:je):Option aD :=
 ay (fun l a=>Pp (GD m (fun b e d j c g h i f k=>l (b,e,d,j,c,g,h,i,f,k))) m (fun b e d j c g h i f k=>l (b,e,d,j,c,g,h,i,f,k)) a.1 a.2.1 a.2.2.1 a.2.2.2.1 a.2.2.2.2.1 a.2.2.2.2.2.1 a.2.2.2.2.2.2.1 a.2.2.2.2.2.2.2.1 a.2.2.2.2.2.2.2.2.1 a.2.2.2.2.2.2.2.2.2) 18446744073709551616 (b,e,d,j,c,g,h,i,f,k)
def Pt(b d c:Int)(f:List dw)(g h:Int)(e:List Bool):Option aD :=
 ay (fun i a=>Po (Pq) (Dp (fun b d c f g h e=>i (b,d,c,f,g,h,e))) (fun b d c f g h e=>i (b,d,c,f,g,h,e)) a.1 a.2.1 a.2.2.1 a.2.2.2.1 a.2.2.2.2.1 a.2.2.2.2.2.1 a.2.2.2.2.2.2) 18446744073709551616 (b,d,c,f,g,h,e)
def Yn(x:As fD):Option aD:=Ym Pt x.1 x.2.1 x.2.2.1
abbrev pB5:=zp anQ anR 258 anP
theorem aCP{J a}:pB5 J 15 [] (anS a)=aun a:=by kernel_rfl
theorem aCQ{J w1 w3 a b c d e f g h i j}:pB5 J 501369 [w1,w3] (anT a b c d e f g h i j)=anU (C w1 Ai) (C w3 GA) a b c d e f g h i j:=by kernel_rfl
theorem aCR{J w1 w3 a b c d e f g h i j}:pB5 J 125342 [w1,w3] (GA a b c d e f g h i j)=Pp (C (J 501369 [w1,w3]) anT) (C w1 Ai) (C w3 GA) a b c d e f g h i j:=by kernel_rfl
theorem aCS{J w1 a b c d e f g}:pB5 J 122 [w1] (Ai a b c d e f g)=Po (C (J 15 []) anS) (C (J 125342 [w1]) GA) (C w1 Ai) a b c d e f g:=by kernel_rfl
abbrev pB4:=zj anQ anR 258 anP
theorem aCT:C (pB4 15 []) anS=Pq:=gNC (by decide) fun _=>aCP
theorem aCU{w1 w3}:C (pB4 501369 [w1,w3]) anT=GD (C w1 Ai) (C w3 GA):=gNC (by decide) fun _=>aCQ
theorem aCV{w1}:C (pB4 125342 [w1]) GA=Dp (C w1 Ai):=gLC (by decide) (by kernel_rfl) (fun _=>by unfold Dp;rfl) fun _ _=>aCR.trans (by rw[aCU]<;>kernel_rfl)
theorem aCW:C (pB4 122 []) Ai=Pt:=gLC (by decide) (by kernel_rfl) (fun _=>by unfold Pt;rfl) fun _ _=>aCS.trans (by rw[aCT,aCV]<;>kernel_rfl)
theorem Yo:ak Tryz.prog (fun _=>True) 258 ⟨anP,Yn⟩:=zcc (env:=anQ) (d:=6) (hs:=Ev.get anR) (aj Pd (aj Pf (aj Yl (aj Pk (aj Pn bq))))) (fun J x=>Ym (C (J 122 []) Ai) x.1 x.2.1 x.2.2.1) (fun _ _=>by kernel_rfl) fun _=>by rw[aCW]<;>rfl
end Go.Proofs.Lx
end
