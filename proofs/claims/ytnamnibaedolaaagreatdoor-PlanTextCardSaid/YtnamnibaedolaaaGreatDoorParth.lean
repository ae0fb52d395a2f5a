/- Proved in the last of these 15 parts (this is part 8): PlanText. Conditions: those of the given statement, and no others. -/
import Derived.Test.YtnamnibaedolaaaGreatDoorParte
import Derived.Test.YtnamnibaedolaaaGreatDoorProg
import Derived.Test.YtnamnibaedolaaaGreatDoorPartg
set_option linter.unusedVariables false
set_option linter.unusedSimpArgs false
set_option linter.unusedSectionVars false
open Option renaming bind → zA
open Int renaming ofNat → zD
open List renaming length → zE
noncomputable section
open Go Go.Proofs Ev Sx
set_option maxRecDepth 100000
namespace Go.Proofs.Lx
abbrev gM:Type:=(List UInt8×(Int×Int)×List UInt8×Int)
abbrev dw:Type:=(List UInt8×Int×List gM)
abbrev bu:Ty:=(.pr (.int .u8) (.pr .str (.pr aF (.int .i64))))
abbrev Pe:Ty:=(.pr .str (.pr aF (.pr .str (.int .i64))))
abbrev kK:Ty:=(.pr .str (.pr (.int .i64) (.sl Pe)))
abbrev bL:Type:=(Int×List UInt8×(Int×Int)×Int)
@[reducible] def aoN:Sh:=shD [.int .u8] [.bool]
def aoO(c:Int):Option aA :=
 if ge c 97=true then if le c 122=true then some (true,()) else if ge c 65=true then some (le c 90,()) else some (false,()) else if ge c 65=true then some (le c 90,()) else some (false,())
def ado(x:As [.int .u8]):Option aA:=aoO x.1
theorem ajh:au Tryz.prog I0 101 ⟨aoN,ado⟩:=ctn bN 6 fun J x=>by kernel_rfl
@[reducible] def adp:Sh:=shD [.int .u8] [.bool]
def aoP(c:Int):Option aA :=
 zA (ado (c,())) fun y=>if y.1=true then some (true,()) else some (eqi c 37,())
def pX(x:As [.int .u8]):Option aA:=aoP x.1
theorem aji:au Tryz.prog I0 100 ⟨adp,pX⟩:=ctn (av ajh bN) 6 fun J x=>by kernel_rfl
@[reducible] def aoQ:Sh:=shD [.int .u8] [.bool]
def aoR(c:Int):Option aA :=
 if ge c 48=true then some (le c 57,()) else some (false,())
def WA(x:As [.int .u8]):Option aA:=aoR x.1
theorem adq:au Tryz.prog I0 103 ⟨aoQ,WA⟩:=ctn bN 6 fun J x=>by kernel_rfl
@[reducible] def JE:Sh:=shD [.int .u8] [.bool]
def aoS(c:Int):Option aA :=
 zA (ado (c,())) fun y=>if y.1=true then some (true,()) else zA (WA (c,())) fun y=>if y.1=true then some (true,()) else if eqi c 95=true then some (true,()) else some (eqi c 37,())
def yu(x:As [.int .u8]):Option aA:=aoS x.1
theorem Pf:au Tryz.prog I0 102 ⟨JE,yu⟩:=ctn (av ajh (av adq bN)) 6 fun J x=>by kernel_rfl
@[reducible] def adr:Sh:=⟨[.pb 0 0],[.box 106 [.d (.int .u8),.d .str,.d (.int .i64),.d (.int .u8),.d (.int .i64)]],[.int .u8,.str,.int .i64,.int .u8,.int .i64],[.d (.int .i64)],[(0,.box 106 [.d (.int .u8),.d .str,.d (.int .i64),.d (.int .u8),.d (.int .i64)])],0,[.int .i64,.int .u8,.str,.int .i64,.int .u8,.int .i64]⟩
def ajj(b:Int)(a:List UInt8)(c d e:Int):Option (As [.int .i64,.int .u8,.str,.int .i64,.int .u8,.int .i64]) :=
 if gt (zD (zE a)) 20=true then some (133,b,a,c,d,e,()) else some (0,b,a,c,d,e,())
def Pg(x:As [.int .u8,.str,.int .i64,.int .u8,.int .i64]):Option (As [.int .i64,.int .u8,.str,.int .i64,.int .u8,.int .i64]):=ajj x.1 x.2.1 x.2.2.1 x.2.2.2.1 x.2.2.2.2.1
theorem ajk:au Tryz.prog I0 104 ⟨adr,Pg⟩:=ctn bN 6 fun J x=>by kernel_rfl
@[reducible] def ads:Sh:=shD [.int .u8] [.bool]
def aoT(c:Int):Option aA :=
 zA (WA (c,())) fun y=>if y.1=true then some (true,()) else some (eqi c 45,())
def pY(x:As [.int .u8]):Option aA:=aoT x.1
theorem ajl:au Tryz.prog I0 105 ⟨ads,pY⟩:=ctn (av adq bN) 6 fun J x=>by kernel_rfl
@[reducible] def JF:Sh:=shD [.int .u8] [.bool]
def aoU(c:Int):Option aA :=
 zA (WA (c,())) fun y=>if y.1=true then some (true,()) else if eqi c 46=true then some (true,()) else some (eqi c 45,())
def yw(x:As [.int .u8]):Option aA:=aoU x.1
theorem Ph:au Tryz.prog I0 106 ⟨JF,yw⟩:=ctn (av adq bN) 6 fun J x=>by kernel_rfl
@[reducible] def aQ:List Ty:=[.ar 256 .bool,.bool]
@[reducible] def dG:Sh:=shD [.str] aQ
def WB:Env:=(cts [])
def WC:List (Nat×Hint):=[(3,⟨[],[2]⟩),(26,⟨[],[0,2,4]⟩)]
def WE(b:List UInt8)(c:Int)(a:List Bool):St:=⟨[(0,dS b),(2,.pb 0 0),(4,dI c)],21,[],[(0,.row .bool 197 a)],1,[],0⟩
def adt(a:List Bool):St:=⟨[(2,.pb 0 0)],21,[],[(0,.row .bool 197 a)],1,[],0⟩
@[reducible] def aM:Type:=As aQ
@[reducible] def zH0:Type:=List UInt8->Int->List Bool->Option aM
def mq(e:List Bool->Option aM)(f:zH0)(c:List UInt8)(d:Int)(a:List Bool):Option aM :=
 if lt d (zD (zE c))=true then zA (at? c d) fun b=>if ge (zD (UInt8.toNat b)) 128=true then need (eqi (zD (zE a)) 256) (need (eqi (zD (zE a)) (zD (zE a))) (need (eqi 256 (zD (zE a*1))) (need (eqi (zD (zE a)) 256) (need (eqi (zD (zE a)) 256) (some (a,false,())))))) else need (lt (zD (UInt8.toNat b)) 256) (zA (at? a (zD (UInt8.toNat b))) fun g=>zA (at? a (zD (UInt8.toNat b))) fun g=>f c (add .i64 d 1) (List.set a (Int.toNat (zD (UInt8.toNat b))) true)) else e a
def mD(a:List Bool):Option aM :=
 need (eqi (zD (zE a)) 256) (need (eqi (zD (zE a)) (zD (zE a))) (need (eqi 256 (zD (zE a*1))) (need (eqi (zD (zE a)) 256) (need (eqi (zD (zE a)) 256) (some (a,true,()))))))
def mF(b:zH0)(a:List UInt8):Option aM :=
 b a 0 (List.replicate 256 false)
def mH:=mD
def adu(b:List UInt8)(c:Int)(a:List Bool):Option aM :=
 aj (fun e d=>mq (mH) (fun b c a=>e (b,c,a)) d.1 d.2.1 d.2.2) 18446744073709551616 (b,c,a)
def Fx(x:As [.str]):Option aM:=mF adu x.1
abbrev pBl:=zp WB WC 134 dG
theorem wF{J a}:pBl J 3 [] (adt a)=mD a:=by kernel_rfl
theorem wH{J w1 a b c}:pBl J 26 [w1] (WE a b c)=mq (C (J 3 []) adt) (C w1 WE) a b c:=by kernel_rfl
theorem wI(J:Orc aM)(x:As [.str]):rfn Tryz.prog WB 6 18446744073709551616 (Ev.get WC) 134 dG J x=mF (C (J 26 []) WE) x.1:=by kernel_rfl
abbrev pBk:=zj WB WC 134 dG
theorem wJ:C (pBk 3 []) adt=mH:=gNC (by decide) fun _=>wF
theorem wK:C (pBk 26 []) WE=adu:=gLC (by decide) (by kernel_rfl) (fun _=>by unfold adu;rfl) fun _ _=>wH.trans (by rw[wJ]<;>kernel_rfl)
theorem yx(x:As [.str]):evT Tryz.prog WB 6 18446744073709551616 (Ev.get WC) 134 dG x=Fx x:=by rw[Ch,wI,wK]<;>rfl
theorem mI:au Tryz.prog I0 134 ⟨dG,Fx⟩:=Cg bN yx
@[reducible] def vJ:Sh:=shD [.str,.str] [.bool]
def uy(b a:List UInt8):Option aA :=
 if ge (zD (zE b)) (zD (zE a))=true then zA (cut b 0 (zD (zE a))) fun c=>some (eqs c a,()) else some (false,())
def Pj(x:As [.str,.str]):Option aA:=uy x.1 x.2.1
theorem ajm:au Tryz.prog I0 87 ⟨vJ,Pj⟩:=ctn bN 6 fun J x=>by kernel_rfl
@[reducible] def vK:Sh:=shD [.str,.str] [.str,.bool]
def uz(a c:List UInt8):Option (As [.str,.bool]) :=
 zA (Pj (a,c,())) fun b=>if (!b.1)=true then some (a,false,()) else zA (cut a (zD (zE c)) (zD (zE a))) fun b=>some (b,true,())
def WG(x:As [.str,.str]):Option (As [.str,.bool]):=uz x.1 x.2.1
theorem uD:au Tryz.prog I0 176 ⟨vK,WG⟩:=ctn (av ajm bN) 6 fun J x=>by kernel_rfl
@[reducible] def qo:Sh:=shD [.str,.str] [.str,.bool]
def AJ(c b:List UInt8):Option (As [.str,.bool]) :=
 zA (WG (c,b,())) fun a=>some (a.1,a.2.1,())
def WH(x:As [.str,.str]):Option (As [.str,.bool]):=AJ x.1 x.2.1
theorem AL:au Tryz.prog I0 154 ⟨qo,WH⟩:=ctn (av uD bN) 6 fun J x=>by kernel_rfl
@[reducible] def WI:Sh:=shD [.str] [.bool]
def adv:Env:=(cts [])
def adw:List (Nat×Hint):=[(3,⟨[],[0]⟩),(26,⟨[],[0,5,6,14,15,16,17]⟩),(1689,⟨[.agd 14 .str,.agd 15 (.int .i64),.agd 16 (.int .u8),.agd 17 .bool],[0,5,6,18]⟩)]
def JG(a:List UInt8)(b c:Int):St:=⟨[(0,dS a),(5,dI b),(6,dI c)],22,[],[],0,[],0⟩
def adx(a:List UInt8)(c d:Int)(b:Bool):St:=⟨[(0,dS a),(5,dI c),(6,dI d),(18,dB b)],22,[],[],0,[],0⟩
def ady(s:List UInt8):St:=⟨[(0,dS s)],22,[],[],0,[],0⟩
@[reducible] def zH1:Type:=List UInt8->Int->Int->Option aA
def WJ(e:List UInt8->Int->Int->Bool->Option aA)(f:List UInt8->Option aA)(g:zH1)(a:List UInt8)(d b:Int):Option aA :=
 if lt b d=true then zA (at? a b) fun c=>if lt (zD (UInt8.toNat c)) 48=true then e a d b true else zA (at? a b) fun c=>e a d b (gt (zD (UInt8.toNat c)) 57) else f a
def WK(b:zH1)(a:List UInt8)(d e:Int)(c:Bool):Option aA :=
 if c=true then some (false,()) else b a d (add .i64 e 1)
def adz(s:List UInt8):Option aA :=
 some (nes s [],())
def ajn(b:zH1)(a:List UInt8):Option aA :=
 b a (zD (zE a)) 0
def Fy(a:zH1):=WK a
def WM:=adz
def adA(a:List UInt8)(b c:Int):Option aA :=
 aj (fun d a=>WJ (Fy (fun a b c=>d (a,b,c))) (WM) (fun a b c=>d (a,b,c)) a.1 a.2.1 a.2.2) 18446744073709551616 (a,b,c)
def vL(x:As [.str]):Option aA:=ajn adA x.1
abbrev pB5:=zp adv adw 155 WI
theorem aoV{J w1 a b c d}:pB5 J 1689 [w1] (adx a b c d)=WK (C w1 JG) a b c d:=by kernel_rfl
theorem aoW{J a}:pB5 J 3 [] (ady a)=adz a:=by kernel_rfl
theorem aoX{J w1 a b c}:pB5 J 26 [w1] (JG a b c)=WJ (C (J 1689 [w1]) adx) (C (J 3 []) ady) (C w1 JG) a b c:=by kernel_rfl
abbrev pB4:=zj adv adw 155 WI
theorem aoY{w1}:C (pB4 1689 [w1]) adx=Fy (C w1 JG):=gNC (by decide) fun _=>aoV
theorem aoZ:C (pB4 3 []) ady=WM:=gNC (by decide) fun _=>aoW
theorem ao0:C (pB4 26 []) JG=adA:=gLC (by decide) (by kernel_rfl) (fun _=>by unfold adA;rfl) fun _ _=>aoX.trans (by rw[aoY,aoZ]<;>kernel_rfl)
theorem ao1:au Tryz.prog I0 155 ⟨WI,vL⟩:=zcc (env:=adv) (d:=6) (hs:=Ev.get adw) bN (fun J x=>ajn (C (J 26 []) JG) x.1) (fun _ _=>by kernel_rfl) fun _=>by rw[ao0]<;>rfl
@[reducible] def dQ:Sh:=shD [.str,.int .u8] [.str]
def WN:Env:=(cts [])
def WO:List (Nat×Hint):=[(12,⟨[],[0,1,9,10,11,12,13,14,15]⟩),(48,⟨[.agd 9 .str,.agd 10 .str,.agd 11 (.int .i64),.agd 12 (.int .i64),.agd 13 (.int .u8),.agd 14 (.int .u8),.agd 15 .bool],[0,1,16]⟩)]
def JH(s:List UInt8)(c:Int):St:=⟨[(0,dS s),(1,d8 c)],23,[],[],0,[],0⟩
def adB(b:List UInt8)(a:Int)(c:Bool):St:=⟨[(0,dS b),(1,d8 a),(16,dB c)],23,[],[],0,[],0⟩
@[reducible] def zH2:Type:=List UInt8->Int->Option (As [.str])
def WQ(c:List UInt8->Int->Bool->Option (As [.str]))(e:zH2)(a:List UInt8)(b:Int):Option (As [.str]) :=
 if gt (zD (zE a)) 0=true then zA (at? a (Sx.sub .i64 (zD (zE a)) 1)) fun d=>c a b (eqi (zD (UInt8.toNat d)) b) else c a b false
def adC(c:zH2)(a:List UInt8)(b:Int)(d:Bool):Option (As [.str]) :=
 if d=true then zA (cut a 0 (Sx.sub .i64 (zD (zE a)) 1)) fun e=>c e b else some (a,())
def lD(b:zH2)(c:List UInt8)(a:Int):Option (As [.str]) :=
 b c a
def WR(a:zH2):=adC a
def adD(a:List UInt8)(b:Int):Option (As [.str]) :=
 aj (fun c a=>WQ (WR (fun a b=>c (a,b))) (fun a b=>c (a,b)) a.1 a.2) 18446744073709551616 (a,b)
def Pk(x:As [.str,.int .u8]):Option (As [.str]):=lD adD x.1 x.2.1
abbrev pBr:=zp WN WO 177 dQ
theorem vM{J w1 a b c}:pBr J 48 [w1] (adB a b c)=adC (C w1 JH) a b c:=by kernel_rfl
theorem vN{J w1 a b}:pBr J 12 [w1] (JH a b)=WQ (C (J 48 [w1]) adB) (C w1 JH) a b:=by kernel_rfl
theorem vO(J:Orc (As [.str]))(x:As [.str,.int .u8]):rfn Tryz.prog WN 6 18446744073709551616 (Ev.get WO) 177 dQ J x=lD (C (J 12 []) JH) x.1 x.2.1:=by kernel_rfl
abbrev pBq:=zj WN WO 177 dQ
theorem vP{w1}:C (pBq 48 [w1]) adB=WR (C w1 JH):=gNC (by decide) fun _=>vM
theorem vQ:C (pBq 12 []) JH=adD:=gLC (by decide) (by kernel_rfl) (fun _=>by unfold adD;rfl) fun _ _=>vN.trans (by rw[vP]<;>kernel_rfl)
theorem wN(x:As [.str,.int .u8]):evT Tryz.prog WN 6 18446744073709551616 (Ev.get WO) 177 dQ x=Pk x:=by rw[Ch,vO,vQ]<;>rfl
theorem vR:au Tryz.prog I0 177 ⟨dQ,Pk⟩:=Cg bN wN
@[reducible] def adE:Sh:=shD [.str] aC
def adF:Env:=(cts [(134,(⟨dG,Fx⟩:Ct)),(154,(⟨qo,WH⟩:Ct)),(155,(⟨WI,vL⟩:Ct)),(177,(⟨dQ,Pk⟩:Ct))])
def adG:List (Nat×Hint):=[(255,⟨[],[2,5,7,9]⟩),(511,⟨[],[2,7,9]⟩),(2042,⟨[],[2,5,7,9,54,55]⟩),(522854,⟨[],[2,5,7,9,11,54,55,59,60]⟩),(62,⟨[],[2,5,6,7,48]⟩),(30,⟨[],[2,5,6,7,8,36,40,41,42,43,44,45,46,47]⟩)]
def adH(a:Bool)(g c:List UInt8)(b f:Bool)(d e:Int):St:=⟨[(2,.pb 0 0),(5,dB a),(6,dS g),(7,dS c),(8,dB b),(36,dB f)],84,[],[(0,.box 45 [dI d,d8 e])],1,[],0⟩
def adI(a:Bool)(f b:List UInt8)(e:Bool)(c d:Int):St:=⟨[(2,.pb 0 0),(5,dB a),(6,dS f),(7,dS b),(48,dB e)],84,[],[(0,.box 45 [dI c,d8 d])],1,[],0⟩
def JI(b:Bool)(c:List UInt8)(a:Int)(f g:List UInt8)(h d e:Int):St:=⟨[(2,.pb 0 0),(5,dB b),(7,dS c),(9,dI a),(54,.agg [dS f,dS g]),(55,dI h)],84,[],[(0,.box 45 [dI d,d8 e])],1,[],0⟩
def WS(b:Bool)(d:List UInt8)(a:Int)(c g h:List UInt8)(i j k e f:Int):St:=⟨[(2,.pb 0 0),(5,dB b),(7,dS d),(9,dI a),(11,dS c),(54,.agg [dS g,dS h]),(55,dI i),(59,dI j),(60,dI k)],84,[],[(0,.box 45 [dI e,d8 f])],1,[],0⟩
def adJ(b:Bool)(c:List UInt8)(a d e:Int):St:=⟨[(2,.pb 0 0),(5,dB b),(7,dS c),(9,dI a)],84,[],[(0,.box 45 [dI d,d8 e])],1,[],0⟩
def adK(b:List UInt8)(a c d:Int):St:=⟨[(2,.pb 0 0),(7,dS b),(9,dI a)],84,[],[(0,.box 45 [dI c,d8 d])],1,[],0⟩
def adL(b:Bool->List UInt8->List UInt8->Bool->Int->Int->Option aB)(c:Bool)(f a:List UInt8)(g h:Bool)(d e:Int):Option aB :=
 if h=true then some ((0,0),false,()) else if g=true then zA (vL (a,())) fun i=>if (!i.1)=true then b c f a true d e else b c f a (gt (zD (zE a)) 6) d e else b c f a false d e
@[reducible] def zH3:Type:=Bool->List UInt8->Int->List UInt8->List UInt8->Int->Int->Int->Option aB
def adM(b:zH3)(c:Bool)(f a:List UInt8)(h:Bool)(d e:Int):Option aB :=
 if h=true then some ((0,0),false,()) else if eqs a []=true then b c a 0 f a 0 d e else zA (Pk (a,48,())) fun g=>b c g.1 0 f g.1 0 d e
@[reducible] def zH4:Type:=Bool->List UInt8->Int->List UInt8->List UInt8->List UInt8->Int->Int->Int->Int->Int->Option aB
def Pm(i:zH4)(j:Bool->List UInt8->Int->Int->Int->Option aB)(k:zH3)(e:Bool)(f:List UInt8)(d:Int)(b c:List UInt8)(a g h:Int):Option aB :=
 if lt a 2=true then if eqi a 1=true then i e f d c b c a (zD (zE c)) 0 g h else if eqi a 0=true then i e f d b b c a (zD (zE b)) 0 g h else Option.none else j e f d g h
def WT(m:zH3)(n:zH4)(d:Bool)(f:List UInt8)(a:Int)(e i j:List UInt8)(k l b g h:Int):Option aB :=
 if lt b l=true then zA (at? e b) fun c=>if gt (add .i64 (mul .i64 10 a) (cvt .i64 (Sx.sub .u8 (zD (UInt8.toNat c)) 48))) 1000000000000=true then some ((0,0),false,()) else n d f (add .i64 (mul .i64 10 a) (cvt .i64 (Sx.sub .u8 (zD (UInt8.toNat c)) 48))) e i j k l (add .i64 b 1) g h else m d f a i j (add .i64 k 1) g h
def adN(a:List UInt8->Int->Int->Int->Option aB)(f:Bool)(c:List UInt8)(b d e:Int):Option aB :=
 if f=true then a c (Sx.neg .i64 b) d e else a c b d e
def adO(b:List UInt8)(a c d:Int):Option aB :=
 some ((a,cvt .u8 (zD (zE b))),true,())
def WU(c:Bool->List UInt8->List UInt8->Bool->Bool->Int->Int->Option aB)(f:List UInt8):Option aB :=
 zA (WH (f,[45],())) fun a=>if eqs [46] a.1=true then zA (cut a.1 1 (zD (zE a.1))) fun b=>zA (vL ([],())) fun d=>if (!d.1)=true then c a.2.1 [] b true true 0 0 else c a.2.1 [] b true false 0 0 else if ge (Go.Lib.indexByte a.1 46) 0=true then zA (cut a.1 0 (Go.Lib.indexByte a.1 46)) fun b=>zA (cut a.1 (add .i64 (Go.Lib.indexByte a.1 46) 1) (zD (zE a.1))) fun d=>zA (vL (b,())) fun g=>if (!g.1)=true then c a.2.1 b d true true 0 0 else if gt (zD (zE b)) 1=true then zA (at? b 0) fun e=>c a.2.1 b d true (eqi (zD (UInt8.toNat e)) 48) 0 0 else c a.2.1 b d true false 0 0 else zA (vL (a.1,())) fun b=>if (!b.1)=true then c a.2.1 a.1 [] false true 0 0 else if gt (zD (zE a.1)) 1=true then zA (at? a.1 0) fun e=>c a.2.1 a.1 [] false (eqi (zD (UInt8.toNat e)) 48) 0 0 else c a.2.1 a.1 [] false false 0 0
def AO(n:zH3)(c:Bool)(e:List UInt8)(b:Int)(d h i:List UInt8)(j k l f g:Int):Option aB :=
 aj (fun m a=>WT n (fun c e b d h i j k l f g=>m (c,e,b,d,h,i,j,k,l,f,g)) a.1 a.2.1 a.2.2.1 a.2.2.2.1 a.2.2.2.2.1 a.2.2.2.2.2.1 a.2.2.2.2.2.2.1 a.2.2.2.2.2.2.2.1 a.2.2.2.2.2.2.2.2.1 a.2.2.2.2.2.2.2.2.2.1 a.2.2.2.2.2.2.2.2.2.2) 18446744073709551616 (c,e,b,d,h,i,j,k,l,f,g)
def adP:=adO
def FB:=adN (adP)
def Pn(c:Bool)(d:List UInt8)(b:Int)(g h:List UInt8)(i e f:Int):Option aB :=
 aj (fun j a=>Pm (AO (fun c d b g h i e f=>j (c,d,b,g,h,i,e,f))) (FB) (fun c d b g h i e f=>j (c,d,b,g,h,i,e,f)) a.1 a.2.1 a.2.2.1 a.2.2.2.1 a.2.2.2.2.1 a.2.2.2.2.2.1 a.2.2.2.2.2.2.1 a.2.2.2.2.2.2.2) 18446744073709551616 (c,d,b,g,h,i,e,f)
def WV:=adM (Pn)
def tq:=adL (WV)
def adR(x:As [.str]):Option aB:=WU tq x.1
abbrev pBv:=zp adF adG 132 adE
theorem ao2{J w3 w4 a b c d e f g h i j k}:pBv J 522854 [w3,w4] (WS a b c d e f g h i j k)=WT (C w3 JI) (C w4 WS) a b c d e f g h i j k:=by kernel_rfl
theorem ao3{J a b c d}:pBv J 511 [] (adK a b c d)=adO a b c d:=by kernel_rfl
theorem ao4{J a b c d e}:pBv J 255 [] (adJ a b c d e)=adN (C (J 511 []) adK) a b c d e:=by kernel_rfl
theorem ao5{J w3 a b c d e f g h}:pBv J 2042 [w3] (JI a b c d e f g h)=Pm (C (J 522854 [w3]) WS) (C (J 255 []) adJ) (C w3 JI) a b c d e f g h:=by kernel_rfl
theorem ao6{J a b c d e f}:pBv J 62 [] (adI a b c d e f)=adM (C (J 2042 []) JI) a b c d e f:=by kernel_rfl
theorem ao7{J a b c d e f g}:pBv J 30 [] (adH a b c d e f g)=adL (C (J 62 []) adI) a b c d e f g:=by kernel_rfl
abbrev pBu:=zj adF adG 132 adE
theorem ao8{w3}:C (pBu 522854 [w3]) WS=AO (C w3 JI):=gLC (by decide) (by kernel_rfl) (fun _=>by unfold AO;rfl) fun _ _=>ao2.trans (by kernel_rfl)
theorem ao9:C (pBu 511 []) adK=adP:=gNC (by decide) fun _=>ao3
theorem apa:C (pBu 255 []) adJ=FB:=gNC (by decide) fun _=>ao4.trans (by rw[ao9]<;>kernel_rfl)
theorem apb:C (pBu 2042 []) JI=Pn:=gLC (by decide) (by kernel_rfl) (fun _=>by unfold Pn;rfl) fun _ _=>ao5.trans (by rw[ao8,apa]<;>kernel_rfl)
theorem apc:C (pBu 62 []) adI=WV:=gNC (by decide) fun _=>ao6.trans (by rw[apb]<;>kernel_rfl)
theorem apd:C (pBu 30 []) adH=tq:=gNC (by decide) fun _=>ao7.trans (by rw[apc]<;>kernel_rfl)
theorem ape:au Tryz.prog I0 132 ⟨adE,adR⟩:=zcc (env:=adF) (d:=6) (hs:=Ev.get adG) (av mI (av AL (av ao1 (av vR bN)))) (fun J x=>WU (C (J 30 []) adH) x.1) (fun _ _=>by kernel_rfl) fun _=>by rw[apd]<;>rfl
@[reducible] def adS:Sh:=⟨[.pb 0 0],[.box 106 [.d (.int .u8),.d .str,.d (.int .i64),.d (.int .u8),.d (.int .i64)]],[.int .u8,.str,.int .i64,.int .u8,.int .i64],[.d (.int .i64)],[(0,.box 106 [.d (.int .u8),.d .str,.d (.int .i64),.d (.int .u8),.d (.int .i64)])],0,[.int .i64,.int .u8,.str,.int .i64,.int .u8,.int .i64]⟩
def ajo(d:Int)(a:List UInt8)(f e c:Int):Option (As [.int .i64,.int .u8,.str,.int .i64,.int .u8,.int .i64]) :=
 zA (adR (a,())) fun b=>if (!b.2.1)=true then some (132,d,a,f,e,c,()) else some (0,d,a,b.1.1,b.1.2,c,())
def Po(x:As [.int .u8,.str,.int .i64,.int .u8,.int .i64]):Option (As [.int .i64,.int .u8,.str,.int .i64,.int .u8,.int .i64]):=ajo x.1 x.2.1 x.2.2.1 x.2.2.2.1 x.2.2.2.2.1
theorem ajp:au Tryz.prog I0 107 ⟨adS,Po⟩:=ctn (av ape bN) 6 fun J x=>by kernel_rfl
@[reducible] def adT:Sh:=shD [.int .u8] [.bool]
def apf(c:Int):Option aA :=
 some (eqi c 61,())
def pZ(x:As [.int .u8]):Option aA:=apf x.1
theorem ajq:au Tryz.prog I0 108 ⟨adT,pZ⟩:=ctn bN 6 fun J x=>by kernel_rfl
@[reducible] def JJ:Sh:=shD [.int .u8] [.bool]
def apg(c:Int):Option aA :=
 some (false,())
def Cv(x:As [.int .u8]):Option aA:=apg x.1
theorem Pp:au Tryz.prog I0 109 ⟨JJ,Cv⟩:=ctn bN 6 fun J x=>by kernel_rfl
@[reducible] def adU:Sh:=⟨[.pb 0 0],[.box 106 [.d (.int .u8),.d .str,.d (.int .i64),.d (.int .u8),.d (.int .i64)]],[.int .u8,.str,.int .i64,.int .u8,.int .i64],[.d (.int .i64)],[(0,.box 106 [.d (.int .u8),.d .str,.d (.int .i64),.d (.int .u8),.d (.int .i64)])],0,[.int .i64,.int .u8,.str,.int .i64,.int .u8,.int .i64]⟩
def ajr(a:Int)(b:List UInt8)(c d e:Int):Option (As [.int .i64,.int .u8,.str,.int .i64,.int .u8,.int .i64]) :=
 some (0,a,b,c,d,e,())
def Pq(x:As [.int .u8,.str,.int .i64,.int .u8,.int .i64]):Option (As [.int .i64,.int .u8,.str,.int .i64,.int .u8,.int .i64]):=ajr x.1 x.2.1 x.2.2.1 x.2.2.2.1 x.2.2.2.2.1
theorem ajs:au Tryz.prog I0 110 ⟨adU,Pq⟩:=ctn bN 6 fun J x=>by kernel_rfl
@[reducible] def WW:Sh:=⟨[.fn (.func 102) [] [],.pb 0 0],[.box 9 [.d .str]],[.str],[.d .str],[(0,.box 9 [.d .str])],0,[.str,.str]⟩
def adV:Env:=(cts [(102,(⟨JE,yu⟩:Ct)),(106,(⟨JF,yw⟩:Ct)),(109,(⟨JJ,Cv⟩:Ct))])
def adW:List (Nat×Hint):=[(7,⟨[],[1,4]⟩),(28,⟨[],[0,1,4,11,12,13,14,15]⟩),(112,⟨[.agd 12 .str,.agd 13 (.int .i64),.agd 14 (.int .u8),.agd 15 .bool],[0,1,4,16]⟩)]
def JK(a:Int)(b:List UInt8):St:=⟨[(0,.fn (.func 102) [] []),(1,.pb 0 0),(4,dI a)],26,[],[(0,.box 9 [dS b])],1,[],1⟩
def adX(a:Int)(c:Bool)(b:List UInt8):St:=⟨[(0,.fn (.func 102) [] []),(1,.pb 0 0),(4,dI a),(16,dB c)],26,[],[(0,.box 9 [dS b])],1,[],1⟩
def adY(a:Int)(b:List UInt8):St:=⟨[(1,.pb 0 0),(4,dI a)],26,[],[(0,.box 9 [dS b])],1,[],1⟩
@[reducible] def zH5:Type:=Int->Bool->List UInt8->Option (As [.str,.str])
@[reducible] def zH6:Type:=Int->List UInt8->Option (As [.str,.str])
def WX(c:zH5)(f:zH6)(a:Int)(b:List UInt8):Option (As [.str,.str]) :=
 if lt a (zD (zE b))=true then zA (at? b a) fun d=>zA (yu (zD (UInt8.toNat d),())) fun e=>c a e.1 b else c a false b
def ajt(c d:zH6)(a:Int)(e:Bool)(b:List UInt8):Option (As [.str,.str]) :=
 if e=true then d (add .i64 a 1) b else c a b
def JL(b:Int)(a:List UInt8):Option (As [.str,.str]) :=
 zA (cut a 0 b) fun c=>zA (cut a b (zD (zE a))) fun d=>some (c,d,())
def aju(a:zH6)(b:List UInt8):Option (As [.str,.str]) :=
 a 1 b
def ajv:=JL
def WZ(a:zH6):=ajt (ajv) a
def adZ(a:Int)(b:List UInt8):Option (As [.str,.str]) :=
 aj (fun d c=>WX (WZ (fun a b=>d (a,b))) (fun a b=>d (a,b)) c.1 c.2) 18446744073709551616 (a,b)
def W9(x:As [.str]):Option (As [.str,.str]):=aju adZ x.1
abbrev pAz:=zp adV adW 112 WW
theorem aph{J a b}:pAz J 7 [] (adY a b)=JL a b:=by kernel_rfl
theorem apj{J w1 a b c}:pAz J 112 [w1] (adX a b c)=ajt (C (J 7 []) adY) (C w1 JK) a b c:=by kernel_rfl
theorem apk{J w1 a b}:pAz J 28 [w1] (JK a b)=WX (C (J 112 [w1]) adX) (C w1 JK) a b:=by kernel_rfl
abbrev pAy:=zj adV adW 112 WW
theorem apl:C (pAy 7 []) adY=ajv:=gNC (by decide) fun _=>aph
theorem apm{w1}:C (pAy 112 [w1]) adX=WZ (C w1 JK):=gNC (by decide) fun _=>apj.trans (by rw[apl]<;>kernel_rfl)
theorem apn:C (pAy 28 []) JK=adZ:=gLC (by decide) (by kernel_rfl) (fun _=>by unfold adZ;rfl) fun _ _=>apk.trans (by rw[apm]<;>kernel_rfl)
theorem apo:au Tryz.prog I0 112 ⟨WW,W9⟩:=zcc (env:=adV) (d:=6) (hs:=Ev.get adW) (av Pf (av Ph (av Pp bN))) (fun J x=>aju (C (J 28 []) JK) x.1) (fun _ _=>by kernel_rfl) fun _=>by rw[apn]<;>rfl
@[reducible] def Xa:Sh:=⟨[.fn (.func 106) [] [],.pb 0 0],[.box 9 [.d .str]],[.str],[.d .str],[(0,.box 9 [.d .str])],0,[.str,.str]⟩
def ad1:Env:=(cts [(102,(⟨JE,yu⟩:Ct)),(106,(⟨JF,yw⟩:Ct)),(109,(⟨JJ,Cv⟩:Ct))])
def ad2:List (Nat×Hint):=[(7,⟨[],[1,4]⟩),(28,⟨[],[0,1,4,11,12,13,14,15]⟩),(112,⟨[.agd 12 .str,.agd 13 (.int .i64),.agd 14 (.int .u8),.agd 15 .bool],[0,1,4,16]⟩)]
def JM(a:Int)(b:List UInt8):St:=⟨[(0,.fn (.func 106) [] []),(1,.pb 0 0),(4,dI a)],26,[],[(0,.box 9 [dS b])],1,[],1⟩
def ad3(a:Int)(c:Bool)(b:List UInt8):St:=⟨[(0,.fn (.func 106) [] []),(1,.pb 0 0),(4,dI a),(16,dB c)],26,[],[(0,.box 9 [dS b])],1,[],1⟩
def ad4(a:Int)(b:List UInt8):St:=⟨[(1,.pb 0 0),(4,dI a)],26,[],[(0,.box 9 [dS b])],1,[],1⟩
def Xb(c:zH5)(f:zH6)(a:Int)(b:List UInt8):Option (As [.str,.str]) :=
 if lt a (zD (zE b))=true then zA (at? b a) fun d=>zA (yw (zD (UInt8.toNat d),())) fun e=>c a e.1 b else c a false b
def ajw(c d:zH6)(a:Int)(e:Bool)(b:List UInt8):Option (As [.str,.str]) :=
 if e=true then d (add .i64 a 1) b else c a b
def JN(b:Int)(a:List UInt8):Option (As [.str,.str]) :=
 zA (cut a 0 b) fun c=>zA (cut a b (zD (zE a))) fun d=>some (c,d,())
def ajx(a:zH6)(b:List UInt8):Option (As [.str,.str]) :=
 a 1 b
def ajy:=JN
def Xc(a:zH6):=ajw (ajy) a
def ad5(a:Int)(b:List UInt8):Option (As [.str,.str]) :=
 aj (fun d c=>Xb (Xc (fun a b=>d (a,b))) (fun a b=>d (a,b)) c.1 c.2) 18446744073709551616 (a,b)
def Xd(x:As [.str]):Option (As [.str,.str]):=ajx ad5 x.1
abbrev pAx:=zp ad1 ad2 112 Xa
theorem apq{J a b}:pAx J 7 [] (ad4 a b)=JN a b:=by kernel_rfl
theorem apr{J w1 a b c}:pAx J 112 [w1] (ad3 a b c)=ajw (C (J 7 []) ad4) (C w1 JM) a b c:=by kernel_rfl
theorem aps{J w1 a b}:pAx J 28 [w1] (JM a b)=Xb (C (J 112 [w1]) ad3) (C w1 JM) a b:=by kernel_rfl
abbrev pAw:=zj ad1 ad2 112 Xa
theorem apt:C (pAw 7 []) ad4=ajy:=gNC (by decide) fun _=>apq
theorem apu{w1}:C (pAw 112 [w1]) ad3=Xc (C w1 JM):=gNC (by decide) fun _=>apr.trans (by rw[apt]<;>kernel_rfl)
theorem apv:C (pAw 28 []) JM=ad5:=gLC (by decide) (by kernel_rfl) (fun _=>by unfold ad5;rfl) fun _ _=>aps.trans (by rw[apu]<;>kernel_rfl)
theorem apw:au Tryz.prog I0 112 ⟨Xa,Xd⟩:=zcc (env:=ad1) (d:=6) (hs:=Ev.get ad2) (av Pf (av Ph (av Pp bN))) (fun J x=>ajx (C (J 28 []) JM) x.1) (fun _ _=>by kernel_rfl) fun _=>by rw[apv]<;>rfl
@[reducible] def Xe:Sh:=⟨[.fn (.func 109) [] [],.pb 0 0],[.box 9 [.d .str]],[.str],[.d .str],[(0,.box 9 [.d .str])],0,[.str,.str]⟩
def ad6:Env:=(cts [(102,(⟨JE,yu⟩:Ct)),(106,(⟨JF,yw⟩:Ct)),(109,(⟨JJ,Cv⟩:Ct))])
def ad7:List (Nat×Hint):=[(7,⟨[],[1,4]⟩),(28,⟨[],[0,1,4,11,12,13,14,15]⟩),(112,⟨[.agd 12 .str,.agd 13 (.int .i64),.agd 14 (.int .u8),.agd 15 .bool],[0,1,4,16]⟩)]
def JO(a:Int)(b:List UInt8):St:=⟨[(0,.fn (.func 109) [] []),(1,.pb 0 0),(4,dI a)],26,[],[(0,.box 9 [dS b])],1,[],1⟩
def ad8(a:Int)(c:Bool)(b:List UInt8):St:=⟨[(0,.fn (.func 109) [] []),(1,.pb 0 0),(4,dI a),(16,dB c)],26,[],[(0,.box 9 [dS b])],1,[],1⟩
def ad9(a:Int)(b:List UInt8):St:=⟨[(1,.pb 0 0),(4,dI a)],26,[],[(0,.box 9 [dS b])],1,[],1⟩
def Xf(c:zH5)(f:zH6)(a:Int)(b:List UInt8):Option (As [.str,.str]) :=
 if lt a (zD (zE b))=true then zA (at? b a) fun d=>zA (Cv (zD (UInt8.toNat d),())) fun e=>c a e.1 b else c a false b
def aea(c d:zH6)(a:Int)(e:Bool)(b:List UInt8):Option (As [.str,.str]) :=
 if e=true then d (add .i64 a 1) b else c a b
def Xg(b:Int)(a:List UInt8):Option (As [.str,.str]) :=
 zA (cut a 0 b) fun c=>zA (cut a b (zD (zE a))) fun d=>some (c,d,())
def ajz(a:zH6)(b:List UInt8):Option (As [.str,.str]) :=
 a 1 b
def ajA:=Xg
def Pt(a:zH6):=aea (ajA) a
def aeb(a:Int)(b:List UInt8):Option (As [.str,.str]) :=
 aj (fun d c=>Xf (Pt (fun a b=>d (a,b))) (fun a b=>d (a,b)) c.1 c.2) 18446744073709551616 (a,b)
def Xh(x:As [.str]):Option (As [.str,.str]):=ajz aeb x.1
abbrev pAv:=zp ad6 ad7 112 Xe
theorem apx{J a b}:pAv J 7 [] (ad9 a b)=Xg a b:=by kernel_rfl
theorem apy{J w1 a b c}:pAv J 112 [w1] (ad8 a b c)=aea (C (J 7 []) ad9) (C w1 JO) a b c:=by kernel_rfl
theorem apz{J w1 a b}:pAv J 28 [w1] (JO a b)=Xf (C (J 112 [w1]) ad8) (C w1 JO) a b:=by kernel_rfl
abbrev pAu:=zj ad6 ad7 112 Xe
theorem apA:C (pAu 7 []) ad9=ajA:=gNC (by decide) fun _=>apx
theorem apB{w1}:C (pAu 112 [w1]) ad8=Pt (C w1 JO):=gNC (by decide) fun _=>apy.trans (by rw[apA]<;>kernel_rfl)
theorem apC:C (pAu 28 []) JO=aeb:=gLC (by decide) (by kernel_rfl) (fun _=>by unfold aeb;rfl) fun _ _=>apz.trans (by rw[apB]<;>kernel_rfl)
theorem apD:au Tryz.prog I0 112 ⟨Xe,Xh⟩:=zcc (env:=ad6) (d:=6) (hs:=Ev.get ad7) (av Pf (av Ph (av Pp bN))) (fun J x=>ajz (C (J 28 []) JO) x.1) (fun _ _=>by kernel_rfl) fun _=>by rw[apC]<;>rfl
@[reducible] def dX:Sh:=shD [.str,.int .u8] [.str]
def Xi:Env:=(cts [])
def Xj:List (Nat×Hint):=[(12,⟨[],[0,1,9,10,11,12]⟩),(48,⟨[.agd 9 .str,.agd 10 (.int .u8),.agd 11 (.int .u8),.agd 12 .bool],[0,1,13]⟩)]
def JQ(s:List UInt8)(c:Int):St:=⟨[(0,dS s),(1,d8 c)],17,[],[],0,[],0⟩
def aec(b:List UInt8)(a:Int)(c:Bool):St:=⟨[(0,dS b),(1,d8 a),(13,dB c)],17,[],[],0,[],0⟩
def mJ(c:List UInt8->Int->Bool->Option (As [.str]))(e:zH2)(a:List UInt8)(b:Int):Option (As [.str]) :=
 if gt (zD (zE a)) 0=true then zA (at? a 0) fun d=>c a b (eqi (zD (UInt8.toNat d)) b) else c a b false
def mK(c:zH2)(a:List UInt8)(b:Int)(d:Bool):Option (As [.str]) :=
 if d=true then zA (cut a 1 (zD (zE a))) fun e=>c e b else some (a,())
def mO(b:zH2)(c:List UInt8)(a:Int):Option (As [.str]) :=
 b c a
def mQ(a:zH2):=mK a
def aed(a:List UInt8)(b:Int):Option (As [.str]) :=
 aj (fun c a=>mJ (mQ (fun a b=>c (a,b))) (fun a b=>c (a,b)) a.1 a.2) 18446744073709551616 (a,b)
def Xl(x:As [.str,.int .u8]):Option (As [.str]):=mO aed x.1 x.2.1
abbrev pBp:=zp Xi Xj 133 dX
theorem wO{J w1 a b c}:pBp J 48 [w1] (aec a b c)=mK (C w1 JQ) a b c:=by kernel_rfl
theorem wQ{J w1 a b}:pBp J 12 [w1] (JQ a b)=mJ (C (J 48 [w1]) aec) (C w1 JQ) a b:=by kernel_rfl
theorem wR(J:Orc (As [.str]))(x:As [.str,.int .u8]):rfn Tryz.prog Xi 6 18446744073709551616 (Ev.get Xj) 133 dX J x=mO (C (J 12 []) JQ) x.1 x.2.1:=by kernel_rfl
abbrev pBo:=zj Xi Xj 133 dX
theorem wT{w1}:C (pBo 48 [w1]) aec=mQ (C w1 JQ):=gNC (by decide) fun _=>wO
theorem wU:C (pBo 12 []) JQ=aed:=gLC (by decide) (by kernel_rfl) (fun _=>by unfold aed;rfl) fun _ _=>wQ.trans (by rw[wT]<;>kernel_rfl)
theorem yA(x:As [.str,.int .u8]):evT Tryz.prog Xi 6 18446744073709551616 (Ev.get Xj) 133 dX x=Xl x:=by rw[Ch,wR,wU]<;>rfl
theorem wV:au Tryz.prog I0 133 ⟨dX,Xl⟩:=Cg bN yA
@[reducible] def dR:Sh:=⟨[.d .str,.pb 0 0],[.row .bool 197],[.str,.sl .bool],[.d .str],[(0,.row .bool 197)],0,[.str,.sl .bool]⟩
def Xm:Env:=(cts [])
def Xn:List (Nat×Hint):=[(12,⟨[],[0,1]⟩)]
def Xo(b:List UInt8)(a:List Bool):St:=⟨[(0,dS b),(1,.pb 0 0)],16,[],[(0,.row .bool 197 a)],1,[],1⟩
@[reducible] def zH7:Type:=List UInt8->List Bool->Option (As [.str,.sl .bool])
def Xp(e:zH7)(a:List UInt8)(b:List Bool):Option (As [.str,.sl .bool]) :=
 if gt (zD (zE a)) 0=true then zA (at? a 0) fun c=>need (lt (zD (UInt8.toNat c)) 256) (zA (at? b (zD (UInt8.toNat c))) fun f=>zA (at? b (zD (UInt8.toNat c))) fun d=>if (!d)=true then some (a,b,()) else zA (cut a 1 (zD (zE a))) fun d=>e d b) else some (a,b,())
def lF(b:zH7)(c:List UInt8)(a:List Bool):Option (As [.str,.sl .bool]) :=
 b c a
def aee(a:List UInt8)(b:List Bool):Option (As [.str,.sl .bool]) :=
 aj (fun c a=>Xp (fun a b=>c (a,b)) a.1 a.2) 18446744073709551616 (a,b)
def JR(x:As [.str,.sl .bool]):Option (As [.str,.sl .bool]):=lF aee x.1 x.2.1
abbrev pBn:=zp Xm Xn 135 dR
theorem vS{J w1 a b}:pBn J 12 [w1] (Xo a b)=Xp (C w1 Xo) a b:=by kernel_rfl
theorem vT(J:Orc (As [.str,.sl .bool]))(x:As [.str,.sl .bool]):rfn Tryz.prog Xm 6 18446744073709551616 (Ev.get Xn) 135 dR J x=lF (C (J 12 []) Xo) x.1 x.2.1:=by kernel_rfl
abbrev pBm:=zj Xm Xn 135 dR
theorem vU:C (pBm 12 []) Xo=aee:=gLC (by decide) (by kernel_rfl) (fun _=>by unfold aee;rfl) fun _ _=>vS.trans (by kernel_rfl)
theorem wW(x:As [.str,.sl .bool]):evT Tryz.prog Xm 6 18446744073709551616 (Ev.get Xn) 135 dR x=JR x:=by rw[Ch,vT,vU]<;>rfl
theorem vV:au Tryz.prog I0 135 ⟨dR,JR⟩:=Cg bN wW
@[reducible] def fV:Sh:=shD [.str,.str] [.str]
def Xq(_:As fV.ps):Option (As fV.rs):=none
theorem sM:au Tryz.prog I0 136 ⟨fV,Xq⟩:=fun _ _ _ _ _ _ _ _ h=>by cases h
@[reducible] def fT:Sh:=shD [.str,.str] [.str]
def Xr:Env:=(cts [(133,(⟨dX,Xl⟩:Ct)),(134,(⟨dG,Fx⟩:Ct)),(135,(⟨dR,JR⟩:Ct)),(136,(⟨fV,Xq⟩:Ct))])
def Xt:List (Nat×Hint):=[(14,⟨[],[0,1,21]⟩),(6,⟨[],[0,1,12,18,19,20]⟩)]
def kL(b a:List UInt8)(c:Bool):St:=⟨[(0,dS b),(1,dS a),(12,dB c)],37,[],[],0,[],0⟩
def kM(b a:List UInt8)(c:Bool):St:=⟨[(0,dS b),(1,dS a),(21,dB c)],37,[],[],0,[],0⟩
def qp(c:List UInt8->List UInt8->Bool->Option (As [.str]))(b a:List UInt8)(e:Bool):Option (As [.str]) :=
 if e=true then some (b,()) else if eqi (zD (zE a)) 1=true then zA (at? a 0) fun d=>c b a (lt (zD (UInt8.toNat d)) 128) else c b a false
def qw(c b:List UInt8)(e:Bool):Option (As [.str]) :=
 if e=true then zA (at? b 0) fun d=>zA (Xl (c,zD (UInt8.toNat d),())) fun a=>some (a.1,()) else zA (Fx (b,())) fun a=>need (eqi 256 (zD (zE a.1))) (need (eqi 256 (zD (zE a.1*1))) (if a.2.1=true then zA (JR (c,a.1,())) fun a=>some (a.1,()) else zA (Xq (c,b,())) fun a=>some (a.1,())))
def qx(c:List UInt8->List UInt8->Bool->Option (As [.str]))(b a:List UInt8):Option (As [.str]) :=
 if eqs b []=true then c b a true else c b a (eqs a [])
def qy:=qw
def qz:=qp (qy)
def strings_TrimLeft(x:As [.str,.str]):Option (As [.str]):=qx qz x.1 x.2.1
abbrev pBj:=zp Xr Xt 113 fT
theorem Bw{J a b c}:pBj J 14 [] (kM a b c)=qw a b c:=by kernel_rfl
theorem Bz{J a b c}:pBj J 6 [] (kL a b c)=qp (C (J 14 []) kM) a b c:=by kernel_rfl
theorem BA(J:Orc (As [.str]))(x:As [.str,.str]):rfn Tryz.prog Xr 6 18446744073709551616 (Ev.get Xt) 113 fT J x=qx (C (J 6 []) kL) x.1 x.2.1:=by kernel_rfl
abbrev pBi:=zj Xr Xt 113 fT
theorem BD:C (pBi 14 []) kM=qy:=gNC (by decide) fun _=>Bw
theorem BF:C (pBi 6 []) kL=qz:=gNC (by decide) fun _=>Bz.trans (by rw[BD]<;>kernel_rfl)
theorem Cw(x:As [.str,.str]):evT Tryz.prog Xr 6 18446744073709551616 (Ev.get Xt) 113 fT x=strings_TrimLeft x:=by rw[Ch,BA,BF]<;>rfl
theorem BG:au Tryz.prog I0 113 ⟨fT,strings_TrimLeft⟩:=Cg (av wV (av mI (av vV (av sM bN)))) Cw
@[reducible] def sN:Sh:=⟨[.d .str,.d (.int .i64),.mp 0],[.sm (.int .u8) 3 [(0,(1:Int),.agg [.fn (.func 100) [] [],.fn (.func 102) [] [],.fn (.func 104) [] []]),(1,(2:Int),.agg [.fn (.func 105) [] [],.fn (.func 106) [] [],.fn (.func 107) [] []]),(2,(3:Int),.agg [.fn (.func 108) [] [],.fn (.func 109) [] [],.fn (.func 110) [] []])]],[.str,.int .i64],[.d (.sl bu),.d (.int .i64)],[(0,.sm (.int .u8) 3 [(0,(1:Int),.agg [.fn (.func 100) [] [],.fn (.func 102) [] [],.fn (.func 104) [] []]),(1,(2:Int),.agg [.fn (.func 105) [] [],.fn (.func 106) [] [],.fn (.func 107) [] []]),(2,(3:Int),.agg [.fn (.func 108) [] [],.fn (.func 109) [] [],.fn (.func 110) [] []])])],0,[.sl bu,.int .i64]⟩
def aef:Env:=(cts [(100,(⟨adp,pX⟩:Ct)),(102,(⟨JE,yu⟩:Ct)),(104,(⟨adr,Pg⟩:Ct)),(105,(⟨ads,pY⟩:Ct)),(106,(⟨JF,yw⟩:Ct)),(107,(⟨adS,Po⟩:Ct)),(108,(⟨adT,pZ⟩:Ct)),(109,(⟨JJ,Cv⟩:Ct)),(110,(⟨adU,Pq⟩:Ct)),(112,(⟨WW,W9⟩:Ct)),(112,(⟨Xa,Xd⟩:Ct)),(112,(⟨Xe,Xh⟩:Ct)),(113,(⟨fT,strings_TrimLeft⟩:Ct))])
def aeg:List (Nat×Hint):=[(31,⟨[],[1,9]⟩),(63,⟨[],[9]⟩),(124,⟨[.row 9 106],[1,2,3,8,9]⟩),(3975,⟨[],[1,2,3,8,9,10]⟩)]
def JU(a:Int)(c:List UInt8)(b:List bL):St:=⟨[(1,dI a),(2,.mp 0),(3,.pb 1 0),(8,.fn (.func 112) [] [.pb 1 0]),(9,.row 2)],76,[],[(0,.sm (.int .u8) 3 [(0,1,.agg [.fn (.func 100) [] [],.fn (.func 102) [] [],.fn (.func 104) [] []]),(1,2,.agg [.fn (.func 105) [] [],.fn (.func 106) [] [],.fn (.func 107) [] []]),(2,3,.agg [.fn (.func 108) [] [],.fn (.func 109) [] [],.fn (.func 110) [] []])]),(1,.box 9 [dS c]),(2,.row bu 106 b)],3,[],1⟩
def aeh(a:Int)(b:List bL):St:=⟨[(1,dI a),(9,.row 1)],76,[],[(0,.sm (.int .u8) 3 [(0,1,.agg [.fn (.func 100) [] [],.fn (.func 102) [] [],.fn (.func 104) [] []]),(1,2,.agg [.fn (.func 105) [] [],.fn (.func 106) [] [],.fn (.func 107) [] []]),(2,3,.agg [.fn (.func 108) [] [],.fn (.func 109) [] [],.fn (.func 110) [] []])]),(1,.row bu 106 b)],2,[],1⟩
def aei(a:Int)(h:List UInt8)(b:List bL)(c:Int)(d:List UInt8)(e f g:Int):St:=⟨[(1,dI a),(2,.mp 0),(3,.pb 1 0),(8,.fn (.func 112) [] [.pb 1 0]),(9,.row 2),(10,.pb 3 0)],76,[],[(0,.sm (.int .u8) 3 [(0,1,.agg [.fn (.func 100) [] [],.fn (.func 102) [] [],.fn (.func 104) [] []]),(1,2,.agg [.fn (.func 105) [] [],.fn (.func 106) [] [],.fn (.func 107) [] []]),(2,3,.agg [.fn (.func 108) [] [],.fn (.func 109) [] [],.fn (.func 110) [] []])]),(1,.box 9 [dS h]),(2,.row bu 106 b),(3,.box 106 [d8 c,dS d,dI e,d8 f,dI g])],4,[],1⟩
def aej(l:List bL):St:=⟨[(9,.row 1)],76,[],[(0,.sm (.int .u8) 3 [(0,1,.agg [.fn (.func 100) [] [],.fn (.func 102) [] [],.fn (.func 104) [] []]),(1,2,.agg [.fn (.func 105) [] [],.fn (.func 106) [] [],.fn (.func 107) [] []]),(2,3,.agg [.fn (.func 108) [] [],.fn (.func 109) [] [],.fn (.func 110) [] []])]),(1,.row bu 106 l)],2,[],1⟩
@[reducible] def zH8:Type:=Int->List UInt8->List bL->Option (As [.sl bu,.int .i64])
def FC(i:Int->List bL->Option (As [.sl bu,.int .i64]))(e:Int->List UInt8->List bL->Int->List UInt8->Int->Int->Int->Option (As [.sl bu,.int .i64]))(k:zH8)(a:Int)(j:List UInt8)(d:List bL):Option (As [.sl bu,.int .i64]) :=
 zA (strings_TrimLeft (j,[9,13,32],())) fun b=>if eqs b.1 []=true then i a d else amb (iw sN.rs) [zA (at? b.1 0) fun c=>zA (pX (zD (UInt8.toNat c),())) fun h=>if h.1=true then amb (iw sN.rs) [zA (at? b.1 0) fun c=>zA (pY (zD (UInt8.toNat c),())) fun g=>if g.1=true then zA (at? b.1 0) fun c=>zA (pZ (zD (UInt8.toNat c),())) fun f=>if f.1=true then e a b.1 d 3 [] 0 0 a else e a b.1 d 2 [] 0 0 a else zA (at? b.1 0) fun c=>zA (pZ (zD (UInt8.toNat c),())) fun f=>if f.1=true then e a b.1 d 3 [] 0 0 a else e a b.1 d 1 [] 0 0 a,zA (at? b.1 0) fun c=>zA (pZ (zD (UInt8.toNat c),())) fun g=>if g.1=true then zA (at? b.1 0) fun c=>zA (pY (zD (UInt8.toNat c),())) fun f=>if f.1=true then e a b.1 d 2 [] 0 0 a else e a b.1 d 3 [] 0 0 a else zA (at? b.1 0) fun c=>zA (pY (zD (UInt8.toNat c),())) fun f=>if f.1=true then e a b.1 d 2 [] 0 0 a else e a b.1 d 1 [] 0 0 a] else amb (iw sN.rs) [zA (at? b.1 0) fun c=>zA (pY (zD (UInt8.toNat c),())) fun g=>if g.1=true then zA (at? b.1 0) fun c=>zA (pZ (zD (UInt8.toNat c),())) fun f=>if f.1=true then e a b.1 d 3 [] 0 0 a else e a b.1 d 2 [] 0 0 a else zA (at? b.1 0) fun c=>zA (pZ (zD (UInt8.toNat c),())) fun f=>if f.1=true then e a b.1 d 3 [] 0 0 a else e a b.1 d 0 [] 0 0 a,zA (at? b.1 0) fun c=>zA (pZ (zD (UInt8.toNat c),())) fun g=>if g.1=true then zA (at? b.1 0) fun c=>zA (pY (zD (UInt8.toNat c),())) fun f=>if f.1=true then e a b.1 d 2 [] 0 0 a else e a b.1 d 3 [] 0 0 a else zA (at? b.1 0) fun c=>zA (pY (zD (UInt8.toNat c),())) fun f=>if f.1=true then e a b.1 d 2 [] 0 0 a else e a b.1 d 0 [] 0 0 a],zA (at? b.1 0) fun c=>zA (pY (zD (UInt8.toNat c),())) fun h=>if h.1=true then amb (iw sN.rs) [zA (at? b.1 0) fun c=>zA (pX (zD (UInt8.toNat c),())) fun g=>if g.1=true then zA (at? b.1 0) fun c=>zA (pZ (zD (UInt8.toNat c),())) fun f=>if f.1=true then e a b.1 d 3 [] 0 0 a else e a b.1 d 1 [] 0 0 a else zA (at? b.1 0) fun c=>zA (pZ (zD (UInt8.toNat c),())) fun f=>if f.1=true then e a b.1 d 3 [] 0 0 a else e a b.1 d 2 [] 0 0 a,zA (at? b.1 0) fun c=>zA (pZ (zD (UInt8.toNat c),())) fun g=>if g.1=true then zA (at? b.1 0) fun c=>zA (pX (zD (UInt8.toNat c),())) fun f=>if f.1=true then e a b.1 d 1 [] 0 0 a else e a b.1 d 3 [] 0 0 a else zA (at? b.1 0) fun c=>zA (pX (zD (UInt8.toNat c),())) fun f=>if f.1=true then e a b.1 d 1 [] 0 0 a else e a b.1 d 2 [] 0 0 a] else amb (iw sN.rs) [zA (at? b.1 0) fun c=>zA (pX (zD (UInt8.toNat c),())) fun g=>if g.1=true then zA (at? b.1 0) fun c=>zA (pZ (zD (UInt8.toNat c),())) fun f=>if f.1=true then e a b.1 d 3 [] 0 0 a else e a b.1 d 1 [] 0 0 a else zA (at? b.1 0) fun c=>zA (pZ (zD (UInt8.toNat c),())) fun f=>if f.1=true then e a b.1 d 3 [] 0 0 a else e a b.1 d 0 [] 0 0 a,zA (at? b.1 0) fun c=>zA (pZ (zD (UInt8.toNat c),())) fun g=>if g.1=true then zA (at? b.1 0) fun c=>zA (pX (zD (UInt8.toNat c),())) fun f=>if f.1=true then e a b.1 d 1 [] 0 0 a else e a b.1 d 3 [] 0 0 a else zA (at? b.1 0) fun c=>zA (pX (zD (UInt8.toNat c),())) fun f=>if f.1=true then e a b.1 d 1 [] 0 0 a else e a b.1 d 0 [] 0 0 a],zA (at? b.1 0) fun c=>zA (pZ (zD (UInt8.toNat c),())) fun h=>if h.1=true then amb (iw sN.rs) [zA (at? b.1 0) fun c=>zA (pX (zD (UInt8.toNat c),())) fun g=>if g.1=true then zA (at? b.1 0) fun c=>zA (pY (zD (UInt8.toNat c),())) fun f=>if f.1=true then e a b.1 d 2 [] 0 0 a else e a b.1 d 1 [] 0 0 a else zA (at? b.1 0) fun c=>zA (pY (zD (UInt8.toNat c),())) fun f=>if f.1=true then e a b.1 d 2 [] 0 0 a else e a b.1 d 3 [] 0 0 a,zA (at? b.1 0) fun c=>zA (pY (zD (UInt8.toNat c),())) fun g=>if g.1=true then zA (at? b.1 0) fun c=>zA (pX (zD (UInt8.toNat c),())) fun f=>if f.1=true then e a b.1 d 1 [] 0 0 a else e a b.1 d 2 [] 0 0 a else zA (at? b.1 0) fun c=>zA (pX (zD (UInt8.toNat c),())) fun f=>if f.1=true then e a b.1 d 1 [] 0 0 a else e a b.1 d 3 [] 0 0 a] else amb (iw sN.rs) [zA (at? b.1 0) fun c=>zA (pX (zD (UInt8.toNat c),())) fun g=>if g.1=true then zA (at? b.1 0) fun c=>zA (pY (zD (UInt8.toNat c),())) fun f=>if f.1=true then e a b.1 d 2 [] 0 0 a else e a b.1 d 1 [] 0 0 a else zA (at? b.1 0) fun c=>zA (pY (zD (UInt8.toNat c),())) fun f=>if f.1=true then e a b.1 d 2 [] 0 0 a else e a b.1 d 0 [] 0 0 a,zA (at? b.1 0) fun c=>zA (pY (zD (UInt8.toNat c),())) fun g=>if g.1=true then zA (at? b.1 0) fun c=>zA (pX (zD (UInt8.toNat c),())) fun f=>if f.1=true then e a b.1 d 1 [] 0 0 a else e a b.1 d 2 [] 0 0 a else zA (at? b.1 0) fun c=>zA (pX (zD (UInt8.toNat c),())) fun f=>if f.1=true then e a b.1 d 1 [] 0 0 a else e a b.1 d 0 [] 0 0 a]]
def aek(b:List bL->Option (As [.sl bu,.int .i64]))(c:Int)(a:List bL):Option (As [.sl bu,.int .i64]) :=
 if gt (zD (zE a)) 0=true then need (small (zE a+Nat.succ 0)) (b (a++[(4,[],(0,0),c)])) else b a
def ael(f:zH8)(e:Int)(j:List UInt8)(c:List bL)(d:Int)(k:List UInt8)(g h i:Int):Option (As [.sl bu,.int .i64]) :=
 if eqi 1 d=true then zA (W9 (j,())) fun b=>zA (Pg (d,b.1,g,h,i,())) fun a=>if nei a.1 0=true then some ([],a.1,()) else need (small (zE c+Nat.succ 0)) (f e b.2.1 (c++[(a.2.1,a.2.2.1,(a.2.2.2.1,a.2.2.2.2.1),a.2.2.2.2.2.1)])) else if eqi 2 d=true then zA (Xd (j,())) fun b=>zA (Po (d,b.1,g,h,i,())) fun a=>if nei a.1 0=true then some ([],a.1,()) else need (small (zE c+Nat.succ 0)) (f e b.2.1 (c++[(a.2.1,a.2.2.1,(a.2.2.2.1,a.2.2.2.2.1),a.2.2.2.2.2.1)])) else if eqi 3 d=true then zA (Xh (j,())) fun b=>zA (Pq (d,b.1,g,h,i,())) fun a=>if nei a.1 0=true then some ([],a.1,()) else need (small (zE c+Nat.succ 0)) (f e b.2.1 (c++[(a.2.1,a.2.2.1,(a.2.2.2.1,a.2.2.2.2.1),a.2.2.2.2.2.1)])) else some ([],131,())
def ajB(l:List bL):Option (As [.sl bu,.int .i64]) :=
 some (l,0,())
def Xu(c:zH8)(a:List UInt8)(b:Int):Option (As [.sl bu,.int .i64]) :=
 if eqs [35] a=true then zA (cut a 1 (zD (zE a))) fun d=>c b [] [] else if ge (Go.Lib.indexByte a 35) 0=true then zA (cut a 0 (Go.Lib.indexByte a 35)) fun d=>zA (cut a (add .i64 (Go.Lib.indexByte a 35) 1) (zD (zE a))) fun e=>c b d [] else c b a []
def ajC:=ajB
def Xv:=aek (ajC)
def Xw(a:zH8):=ael a
def Pv(a:Int)(c:List UInt8)(b:List bL):Option (As [.sl bu,.int .i64]) :=
 aj (fun e d=>FC (Xv) (Xw (fun a c b=>e (a,c,b))) (fun a c b=>e (a,c,b)) d.1 d.2.1 d.2.2) 18446744073709551616 (a,c,b)
def FD(x:As [.str,.int .i64]):Option (As [.sl bu,.int .i64]):=Xu Pv x.1 x.2.1
abbrev pAt:=zp aef aeg 72 sN
theorem apE{J a}:pAt J 63 [] (aej a)=ajB a:=by kernel_rfl
theorem apF{J a b}:pAt J 31 [] (aeh a b)=aek (C (J 63 []) aej) a b:=by kernel_rfl
theorem apG{J w1 a b c d e f g h}:pAt J 3975 [w1] (aei a b c d e f g h)=ael (C w1 JU) a b c d e f g h:=by kernel_rfl
theorem apH{J w1 a b c}:pAt J 124 [w1] (JU a b c)=FC (C (J 31 []) aeh) (C (J 3975 [w1]) aei) (C w1 JU) a b c:=by kernel_rfl
abbrev pAs:=zj aef aeg 72 sN
theorem apI:C (pAs 63 []) aej=ajC:=gNC (by decide) fun _=>apE
theorem apJ:C (pAs 31 []) aeh=Xv:=gNC (by decide) fun _=>apF.trans (by rw[apI]<;>kernel_rfl)
theorem apK{w1}:C (pAs 3975 [w1]) aei=Xw (C w1 JU):=gNC (by decide) fun _=>apG
theorem apL:C (pAs 124 []) JU=Pv:=gLC (by decide) (by kernel_rfl) (fun _=>by unfold Pv;rfl) fun _ _=>apH.trans (by rw[apJ,apK]<;>kernel_rfl)
theorem apM:au Tryz.prog I0 72 ⟨sN,FD⟩:=zcc (env:=aef) (d:=6) (hs:=Ev.get aeg) (av aji (av Pf (av ajk (av ajl (av Ph (av ajp (av ajq (av Pp (av ajs (av apo (av apw (av apD (av BG bN))))))))))))) (fun J x=>Xu (C (J 124 []) JU) x.1 x.2.1) (fun _ _=>by kernel_rfl) fun _=>by rw[apL]<;>rfl
@[reducible] def Xx:Sh:=shD [.str] [.sl bu,.pr (.int .i64) (.int .i64)]
def aem:Env:=(cts [(72,(⟨sN,FD⟩:Ct)),(100,(⟨adp,pX⟩:Ct)),(102,(⟨JE,yu⟩:Ct)),(104,(⟨adr,Pg⟩:Ct)),(105,(⟨ads,pY⟩:Ct)),(106,(⟨JF,yw⟩:Ct)),(107,(⟨adS,Po⟩:Ct)),(108,(⟨adT,pZ⟩:Ct)),(109,(⟨JJ,Cv⟩:Ct)),(110,(⟨adU,Pq⟩:Ct))])
def aen:List (Nat×Hint):=[(31,⟨[],[3,5]⟩),(250,⟨[.row 5 106],[0,3,4,5,6]⟩)]
def Xy(e:List UInt8)(b c d:Int)(a:List bL):St:=⟨[(0,dS e),(3,.pb 0 0),(4,.mp 1),(5,.row 2),(6,dI b)],45,[],[(0,.box 33 [dI c,dI d]),(1,.sm (.int .u8) 3 [(0,1,.agg [.fn (.func 100) [] [],.fn (.func 102) [] [],.fn (.func 104) [] []]),(1,2,.agg [.fn (.func 105) [] [],.fn (.func 106) [] [],.fn (.func 107) [] []]),(2,3,.agg [.fn (.func 108) [] [],.fn (.func 109) [] [],.fn (.func 110) [] []])]),(2,.row bu 106 a)],3,[],0⟩
def aeo(b c:Int)(a:List bL):St:=⟨[(3,.pb 0 0),(5,.row 1)],45,[],[(0,.box 33 [dI b,dI c]),(1,.row bu 106 a)],2,[],0⟩
@[reducible] def zH9:Type:=Int->Int->List bL->Option (As [.sl bu,.pr (.int .i64) (.int .i64)])
@[reducible] def ajD:Type:=List UInt8->Int->Int->Int->List bL->Option (As [.sl bu,.pr (.int .i64) (.int .i64)])
def Pw(i:zH9)(h:ajD)(b:List UInt8)(c f g:Int)(d:List bL):Option (As [.sl bu,.pr (.int .i64) (.int .i64)]) :=
 if nes b []=true then if eqs [10] b=true then zA (cut b 1 (zD (zE b))) fun a=>zA (FD ([],c,())) fun e=>if nei e.2.1 0=true then some ([],(e.2.1,c),()) else need (small (zE d+zE e.1)) (h a (add .i64 c 1) f g (d++e.1)) else if ge (Go.Lib.indexByte b 10) 0=true then zA (cut b 0 (Go.Lib.indexByte b 10)) fun a=>zA (cut b (add .i64 (Go.Lib.indexByte b 10) 1) (zD (zE b))) fun e=>zA (FD (a,c,())) fun a=>if nei a.2.1 0=true then some ([],(a.2.1,c),()) else need (small (zE d+zE a.1)) (h e (add .i64 c 1) f g (d++a.1)) else zA (FD (b,c,())) fun a=>if nei a.2.1 0=true then some ([],(a.2.1,c),()) else need (small (zE d+zE a.1)) (h [] (add .i64 c 1) f g (d++a.1)) else i f g d
def ajE(b c:Int)(a:List bL):Option (As [.sl bu,.pr (.int .i64) (.int .i64)]) :=
 some (a,(0,0),())
def Xz(b:ajD)(a:List UInt8):Option (As [.sl bu,.pr (.int .i64) (.int .i64)]) :=
 if gt (zD (zE a)) 8192=true then some ([],(130,0),()) else b a 1 0 0 []
def aep:=ajE
def XA(f:List UInt8)(c d e:Int)(b:List bL):Option (As [.sl bu,.pr (.int .i64) (.int .i64)]) :=
 aj (fun g a=>Pw (aep) (fun f c d e b=>g (f,c,d,e,b)) a.1 a.2.1 a.2.2.1 a.2.2.2.1 a.2.2.2.2) 18446744073709551616 (f,c,d,e,b)
def XB(x:As [.str]):Option (As [.sl bu,.pr (.int .i64) (.int .i64)]):=Xz XA x.1
abbrev pAr:=zp aem aen 39 Xx
theorem apN{J a b c}:pAr J 31 [] (aeo a b c)=ajE a b c:=by kernel_rfl
theorem apO{J w1 a b c d e}:pAr J 250 [w1] (Xy a b c d e)=Pw (C (J 31 []) aeo) (C w1 Xy) a b c d e:=by kernel_rfl
abbrev pAq:=zj aem aen 39 Xx
theorem apP:C (pAq 31 []) aeo=aep:=gNC (by decide) fun _=>apN
theorem apQ:C (pAq 250 []) Xy=XA:=gLC (by decide) (by kernel_rfl) (fun _=>by unfold XA;rfl) fun _ _=>apO.trans (by rw[apP]<;>kernel_rfl)
theorem apR:au Tryz.prog I0 39 ⟨Xx,XB⟩:=zcc (env:=aem) (d:=6) (hs:=Ev.get aen) (av apM (av aji (av Pf (av ajk (av ajl (av Ph (av ajp (av ajq (av Pp (av ajs bN)))))))))) (fun J x=>Xz (C (J 250 []) Xy) x.1) (fun _ _=>by kernel_rfl) fun _=>by rw[apQ]<;>rfl
def apS(c:Int):Option aA :=
 if ge c 97=true then if le c 122=true then some (true,()) else if ge c 65=true then if le c 90=true then some (true,()) else some (eqi c 37,()) else some (eqi c 37,()) else if ge c 65=true then if le c 90=true then some (true,()) else some (eqi c 37,()) else some (eqi c 37,())
def ajF(x:As [.int .u8]):Option aA:=apS x.1
def apT(c:Int):Option aA :=
 if ge c 48=true then some (le c 57,()) else some (false,())
def aer(x:As [.int .u8]):Option aA:=apT x.1
def apU(c a:Int):Option aA :=
 if eqi c 1=true then zA (ajF (a,())) fun b=>if b.1=true then some (true,()) else zA (aer (a,())) fun b=>if b.1=true then some (true,()) else some (eqi a 95,()) else zA (aer (a,())) fun b=>if b.1=true then some (true,()) else if eqi a 46=true then some (true,()) else some (eqi a 45,())
def apV(x:As [.int .u8,.int .u8]):Option aA:=apU x.1 x.2.1
@[reducible] def ajG:Type:=Int->Int->Bool->Int->Int->Option aB
@[reducible] def Px:Type:=Int->Int->Int->Int->Option aB
def apW(c:ajG)(f:Px)(b a d e:Int):Option aB :=
 if gt a 0=true then c b a (eqi (rem b 10) 0) d e else c b a false d e
def apX(e f:Px)(b a:Int)(g:Bool)(c d:Int):Option aB :=
 if g=true then f (quo .i64 b 10) (Sx.sub .i64 a 1) c d else e b a c d
def apY(c:ajG)(a b d e:Int):Option aB :=
 if gt b 6=true then c a b true d e else if gt a 1000000000000=true then c a b true d e else c a b (lt a (-1000000000000)) d e
def apZ(b a:Int)(c:Bool)(d e:Int):Option aB :=
 if c=true then some ((0,0),false,()) else some ((b,cvt .u8 a),true,())
def ap0(b:Px)(c a:Int):Option aB :=
 b c a 0 0
def ap1:=apZ
def ap2:=apY (ap1)
def ap3(a:Px):=apX (ap2) a
def ap4(b a c d:Int):Option aB :=
 aj (fun f e=>apW (ap3 (fun b a c d=>f (b,a,c,d))) (fun b a c d=>f (b,a,c,d)) e.1 e.2.1 e.2.2.1 e.2.2.2) 18446744073709551616 (b,a,c,d)
def ap5(x:As aZ):Option aB:=ap0 ap4 x.1 x.2.1
end Go.Proofs.Lx
end
noncomputable section
open Go Go.Proofs Ev Sx
set_option maxRecDepth 100000
namespace Go.Proofs.Lx
@[reducible] def ajH:Type:=List UInt8->Bool->Int->Int->Option aB
def ap6(c:ajH)(b:List UInt8)(a:Bool)(d e:Int):Option aB :=
 if a=true then zA (cut b 1 (zD (zE b))) fun f=>c f a d e else c b a d e
@[reducible] def AP:Type:=List UInt8->Bool->Int->Bool->Int->Int->Int->Int->Int->Option aB
def ap7(b:AP)(c:List UInt8)(a:Bool)(d e:Int):Option aB :=
 b c a 0 false 0 0 0 d e
@[reducible] def ajI:Type:=List UInt8->Bool->Int->Bool->Int->Int->Int->Bool->Int->Int->Option aB
def ap8(j:ajI)(l:Bool->Int->Bool->Int->Int->Int->Int->Option aB)(m:AP)(d:List UInt8)(f:Bool)(g:Int)(c:Bool)(e a b h i:Int):Option aB :=
 if lt b (zD (zE d))=true then zA (at? d b) fun k=>if eqi (zD (UInt8.toNat k)) 46=true then if (!c)=true then j d f g c e a b (gt a 0) h i else j d f g c e a b false h i else j d f g c e a b false h i else l f g c e a h i
def ap9(l:AP)(k:ajI)(n:AP)(a:List UInt8)(e:Bool)(f:Int)(g:Bool)(d c b:Int)(m:Bool)(h i:Int):Option aB :=
 if m=true then l a e f true d c b h i else zA (at? a b) fun j=>if lt (zD (UInt8.toNat j)) 48=true then k a e f g d c b true h i else zA (at? a b) fun j=>if gt (zD (UInt8.toNat j)) 57=true then k a e f g d c b true h i else if eqi c 1=true then zA (at? a 0) fun j=>if eqi (zD (UInt8.toNat j)) 48=true then k a e f g d c b (!g) h i else k a e f g d c b false h i else k a e f g d c b false h i
def aqa(c:Bool->Int->Int->Bool->Int->Int->Option aB)(b:Bool)(d:Int)(h:Bool)(a g e f:Int):Option aB :=
 if eqi g 0=true then c b d a true e f else if h=true then if eqi a 0=true then c b d a true e f else c b d a (gt a 6) e f else c b d a (gt a 6) e f
def aqb(h:AP)(g:List UInt8)(c:Bool)(e:Int)(f:Bool)(b a d i j:Int):Option aB :=
 h g c e f b a (add .i64 d 1) i j
def aqc(i m:AP)(d:List UInt8)(g:Bool)(b:Int)(c:Bool)(f e a:Int)(l:Bool)(j k:Int):Option aB :=
 if l=true then some ((0,0),false,()) else if gt b 100000000000000000=true then some ((0,0),false,()) else zA (at? d a) fun h=>if c=true then i d g (add .i64 (mul .i64 b 10) (cvt .i64 (Sx.sub .u8 (zD (UInt8.toNat h)) 48))) c (add .i64 f 1) e a j k else i d g (add .i64 (mul .i64 b 10) (cvt .i64 (Sx.sub .u8 (zD (UInt8.toNat h)) 48))) c f (add .i64 e 1) a j k
def aqd(b:Px)(f:Bool)(c a:Int)(g:Bool)(d e:Int):Option aB :=
 if g=true then some ((0,0),false,()) else if f=true then b (Sx.neg .i64 c) a d e else b c a d e
def aqe(c b d e:Int):Option aB :=
 zA (ap5 (c,b,())) fun a=>some (a.1,a.2.1,())
def aqf(b:ajH)(a:List UInt8):Option aB :=
 if gt (zD (zE a)) 0=true then zA (at? a 0) fun c=>b a (eqi (zD (UInt8.toNat c)) 45) 0 0 else b a false 0 0
def ajJ(a:AP):=aqb a
def aqg(a:AP):=aqc (ajJ a) a
def aqh(a:AP):=ap9 (ajJ a) (aqg a) a
def aqi:=aqe
def aqj:=aqd (aqi)
def aqk:=aqa (aqj)
def aql(a:List UInt8)(d:Bool)(f:Int)(g:Bool)(c b e h i:Int):Option aB :=
 aj (fun j a=>ap8 (aqh (fun a d f g c b e h i=>j (a,d,f,g,c,b,e,h,i))) (aqk) (fun a d f g c b e h i=>j (a,d,f,g,c,b,e,h,i)) a.1 a.2.1 a.2.2.1 a.2.2.2.1 a.2.2.2.2.1 a.2.2.2.2.2.1 a.2.2.2.2.2.2.1 a.2.2.2.2.2.2.2.1 a.2.2.2.2.2.2.2.2) 18446744073709551616 (a,d,f,g,c,b,e,h,i)
def aqm:=ap7 (aql)
def aqn:=ap6 (aqm)
def aqo(x:As [.str]):Option aB:=aqf aqn x.1
@[reducible] def ajK:Type:=List UInt8->Int->Bool->Int->Bool->Int->Int->List bL->Option (As [.sl bu,.pr (.int .i64) (.int .i64)])
@[reducible] def fD:Type:=List UInt8->Int->Bool->Int->Int->Int->List bL->Option (As [.sl bu,.pr (.int .i64) (.int .i64)])
def aqp(f:ajK)(j:zH9)(k:fD)(b:List UInt8)(g:Int)(h:Bool)(a d e:Int)(c:List bL):Option (As [.sl bu,.pr (.int .i64) (.int .i64)]) :=
 if le a (zD (zE b))=true then if eqi a (zD (zE b))=true then f b g h a true d e c else zA (at? b a) fun i=>f b g h a (eqi (zD (UInt8.toNat i)) 10) d e c else j d e c
def aqr(i:List UInt8->Int->Int->Int->Int->List bL->Option (As [.sl bu,.pr (.int .i64) (.int .i64)]))(j:fD)(k:List UInt8->Int->Bool->Int->Int->Int->Int->List bL->Option (As [.sl bu,.pr (.int .i64) (.int .i64)]))(m:fD)(d:List UInt8)(b:Int)(g:Bool)(a:Int)(l:Bool)(e f:Int)(c:List bL):Option (As [.sl bu,.pr (.int .i64) (.int .i64)]) :=
 if l=true then if g=true then need (small (zE c+Nat.succ 0)) (i d b a e f (c++[(4,[],(0,0),b)])) else i d b a e f c else zA (at? d a) fun h=>if eqi (zD (UInt8.toNat h)) 35=true then j d b g a e f c else k d b g a (zD (UInt8.toNat h)) e f c
def aqs(b c:Int)(a:List bL):Option (As [.sl bu,.pr (.int .i64) (.int .i64)]) :=
 some (a,(0,0),())
def aqt(b h:fD)(g:List UInt8)(c a e f:Int)(d:List bL):Option (As [.sl bu,.pr (.int .i64) (.int .i64)]) :=
 b g (add .i64 c 1) false a e f d
def aqu(c:ajK)(j k:fD)(b:List UInt8)(d:Int)(f:Bool)(a g h:Int)(e:List bL):Option (As [.sl bu,.pr (.int .i64) (.int .i64)]) :=
 if lt (add .i64 a 1) (zD (zE b))=true then zA (at? b (add .i64 a 1)) fun i=>c b d f a (nei (zD (UInt8.toNat i)) 10) g h e else c b d f a false g h e
def aqv(c:List UInt8->Int->Bool->Int->Int->Bool->Int->Int->List bL->Option (As [.sl bu,.pr (.int .i64) (.int .i64)]))(j:fD)(i:List UInt8)(d:Int)(f:Bool)(b a g h:Int)(e:List bL):Option (As [.sl bu,.pr (.int .i64) (.int .i64)]) :=
 if eqi a 9=true then c i d f b a true g h e else if eqi a 13=true then c i d f b a true g h e else c i d f b a (eqi a 32) g h e
def aqw(d:fD)(h:List UInt8)(b:Int)(e:Bool)(a f g:Int)(c:List bL):Option (As [.sl bu,.pr (.int .i64) (.int .i64)]) :=
 d h b e (add .i64 a 1) f g c
def aqx(h k i:fD)(g:List UInt8)(b:Int)(d:Bool)(a:Int)(j:Bool)(e f:Int)(c:List bL):Option (As [.sl bu,.pr (.int .i64) (.int .i64)]) :=
 if j=true then i g b d (add .i64 a 1) e f c else h g b d a e f c
@[reducible] def Cx:Type:=List UInt8->Int->Int->Int->Int->List bL->Int->List UInt8->Int->Int->Int->Option (As [.sl bu,.pr (.int .i64) (.int .i64)])
def aqy(k:fD)(j:Cx)(i:List UInt8->Int->Int->Int->Bool->Int->Int->List bL->Int->List UInt8->Int->Int->Int->Option (As [.sl bu,.pr (.int .i64) (.int .i64)]))(n:fD)(g:List UInt8)(a:Int)(l:Bool)(c b:Int)(m:Bool)(e f:Int)(d:List bL):Option (As [.sl bu,.pr (.int .i64) (.int .i64)]) :=
 if m=true then k g a l c e f d else zA (ajF (b,())) fun h=>if h.1=true then j g a c e f d 1 [] 0 0 a else zA (aer (b,())) fun h=>if h.1=true then i g a c b true e f d 0 [] 0 0 a else i g a c b (eqi b 45) e f d 0 [] 0 0 a
def aqz(c:Cx)(m:fD)(b:List UInt8)(d a g h:Int)(e:List bL)(f:Int)(n:List UInt8)(i j k:Int):Option (As [.sl bu,.pr (.int .i64) (.int .i64)]) :=
 zA (cut b a (add .i64 a 1)) fun l=>c b d a g h e f l i j k
def aqA(c:Cx)(n:fD)(k:List UInt8)(a b l:Int)(m:Bool)(e f:Int)(d:List bL)(o:Int)(g:List UInt8)(h i j:Int):Option (As [.sl bu,.pr (.int .i64) (.int .i64)]) :=
 if m=true then c k a b e f d 2 g h i j else if eqi l 61=true then c k a b e f d 3 g h i j else some ([],(131,a),())
@[reducible] def ajL:Type:=List UInt8->Int->Int->Bool->Int->Int->List bL->Int->List UInt8->Int->Int->Int->Option (As [.sl bu,.pr (.int .i64) (.int .i64)])
def aqB(d:ajL)(o:fD)(p:Cx)(c:List UInt8)(e a g h:Int)(f:List bL)(b:Int)(i:List UInt8)(j k l:Int):Option (As [.sl bu,.pr (.int .i64) (.int .i64)]) :=
 if nei b 3=true then if lt (add .i64 a 1) (zD (zE c))=true then zA (at? c (add .i64 a 1)) fun m=>zA (apV (b,zD (UInt8.toNat m),())) fun n=>d c e a n.1 g h f b i j k l else d c e a false g h f b i j k l else d c e a false g h f b i j k l
def aqC(m:Cx)(p:fD)(n:Cx)(c:List UInt8)(d a:Int)(o:Bool)(g h:Int)(e:List bL)(f:Int)(b:List UInt8)(i j k:Int):Option (As [.sl bu,.pr (.int .i64) (.int .i64)]) :=
 if o=true then zA (cut c (add .i64 a 1) (add .i64 (add .i64 a 1) 1)) fun l=>need (small (zE b+zE l)) (n c d (add .i64 a 1) g h e f (b++l) i j k) else m c d a g h e f b i j k
def aqD(d:ajL)(m:fD)(l:List UInt8)(e c g h:Int)(f:List bL)(a:Int)(b:List UInt8)(i j k:Int):Option (As [.sl bu,.pr (.int .i64) (.int .i64)]) :=
 if eqi a 1=true then d l e c (gt (zD (zE b)) 20) g h f a b i j k else d l e c false g h f a b i j k
def aqE(f:Cx)(o:fD)(k:List UInt8)(a e:Int)(l:Bool)(h i:Int)(g:List bL)(b:Int)(c:List UInt8)(m n j:Int):Option (As [.sl bu,.pr (.int .i64) (.int .i64)]) :=
 if l=true then some ([],(133,a),()) else if eqi b 2=true then zA (aqo (c,())) fun d=>if (!d.2.1)=true then some ([],(132,a),()) else f k a e h i g b c d.1.1 d.1.2 j else f k a e h i g b c m n j
def aqF(c m:fD)(l:List UInt8)(d b f g:Int)(a:List bL)(e:Int)(h:List UInt8)(i j k:Int):Option (As [.sl bu,.pr (.int .i64) (.int .i64)]) :=
 need (small (zE a+Nat.succ 0)) (c l d true b f g (a++[(e,h,(i,j),k)]))
def aqG(b:fD)(a:List UInt8):Option (As [.sl bu,.pr (.int .i64) (.int .i64)]) :=
 if gt (zD (zE a)) 8192=true then some ([],(130,0),()) else b a 1 false 0 0 0 []
def XC(a:fD):=aqw a
def aqH(a:fD):=aqt (XC a) a
def aqI(a b:fD):=aqx (XC a) a b
def aqJ(j:fD)(h:List UInt8)(c:Int)(e:Bool)(b f g:Int)(d:List bL):Option (As [.sl bu,.pr (.int .i64) (.int .i64)]) :=
 aj (fun i a=>aqu (aqI j (fun h c e b f g d=>i (h,c,e,b,f,g,d))) j (fun h c e b f g d=>i (h,c,e,b,f,g,d)) a.1 a.2.1 a.2.2.1 a.2.2.2.1 a.2.2.2.2.1 a.2.2.2.2.2.1 a.2.2.2.2.2.2) 18446744073709551616 (h,c,e,b,f,g,d)
def aqK(a:fD):=aqF (XC a) a
def aqL(a:fD):=aqE (aqK a) a
def aqM(a:fD):=aqD (aqL a) a
def aqN(a:fD)(b:Cx):=aqC (aqM a) a b
def aqO(n:fD)(l:List UInt8)(c b f g:Int)(d:List bL)(e:Int)(h:List UInt8)(i j k:Int):Option (As [.sl bu,.pr (.int .i64) (.int .i64)]) :=
 aj (fun m a=>aqB (aqN n (fun l c b f g d e h i j k=>m (l,c,b,f,g,d,e,h,i,j,k))) n (fun l c b f g d e h i j k=>m (l,c,b,f,g,d,e,h,i,j,k)) a.1 a.2.1 a.2.2.1 a.2.2.2.1 a.2.2.2.2.1 a.2.2.2.2.2.1 a.2.2.2.2.2.2.1 a.2.2.2.2.2.2.2.1 a.2.2.2.2.2.2.2.2.1 a.2.2.2.2.2.2.2.2.2.1 a.2.2.2.2.2.2.2.2.2.2) 18446744073709551616 (l,c,b,f,g,d,e,h,i,j,k)
def ajM(a:fD):=aqz (aqO a) a
def aqP(a:fD):=aqA (ajM a) a
def aqQ(a:fD):=aqy (XC a) (ajM a) (aqP a) a
def aqR(a:fD):=aqv (aqQ a) a
def aqS(a:fD):=aqr (aqH a) (aqJ a) (aqR a) a
def aqT:=aqs
def aqU(h:List UInt8)(c:Int)(e:Bool)(b f g:Int)(d:List bL):Option (As [.sl bu,.pr (.int .i64) (.int .i64)]) :=
 aj (fun i a=>aqp (aqS (fun h c e b f g d=>i (h,c,e,b,f,g,d))) (aqT) (fun h c e b f g d=>i (h,c,e,b,f,g,d)) a.1 a.2.1 a.2.2.1 a.2.2.2.1 a.2.2.2.2.1 a.2.2.2.2.2.1 a.2.2.2.2.2.2) 18446744073709551616 (h,c,e,b,f,g,d)
def ajN(x:As [.str]):Option (As [.sl bu,.pr (.int .i64) (.int .i64)]):=aqG aqU x.1
@[reducible] def XD:Type:=List UInt8->Int->Option aA
def aqV(a:XD)(b:List UInt8)(c:Bool):Option aA :=
 if c=true then some (false,()) else a b 0
def aqW(d:List UInt8->Int->Bool->Option aA)(e:XD)(c:List UInt8)(b:Int):Option aA :=
 if lt b (zD (zE c))=true then zA (at? c b) fun a=>if ge (zD (UInt8.toNat a)) 97=true then if (!le (zD (UInt8.toNat a)) 122)=true then if ge (zD (UInt8.toNat a)) 48=true then if (!le (zD (UInt8.toNat a)) 57)=true then d c b (nei (zD (UInt8.toNat a)) 95) else d c b false else d c b (nei (zD (UInt8.toNat a)) 95) else d c b false else if ge (zD (UInt8.toNat a)) 48=true then if (!le (zD (UInt8.toNat a)) 57)=true then d c b (nei (zD (UInt8.toNat a)) 95) else d c b false else d c b (nei (zD (UInt8.toNat a)) 95) else some (true,())
def aqX(c:XD)(b:List UInt8)(a:Int)(d:Bool):Option aA :=
 if d=true then some (false,()) else c b (add .i64 a 1)
def aqY(b:List UInt8->Bool->Option aA)(a:List UInt8):Option aA :=
 if lt (zD (zE a)) 1=true then b a true else if gt (zD (zE a)) 20=true then b a true else if eqs a [114,101,99,105,112,101]=true then b a true else if eqs a [115,108,97,118,101]=true then b a true else if eqs a [101,110,100]=true then b a true else zA (at? a 0) fun c=>if lt (zD (UInt8.toNat c)) 97=true then b a true else zA (at? a 0) fun c=>b a (gt (zD (UInt8.toNat c)) 122)
def aqZ(a:XD):=aqX a
def aq0(a:List UInt8)(b:Int):Option aA :=
 aj (fun c a=>aqW (aqZ (fun a b=>c (a,b))) (fun a b=>c (a,b)) a.1 a.2) 18446744073709551616 (a,b)
def aq1:=aqV (aq0)
def Py(x:As [.str]):Option aA:=aqY aq1 x.1
def aq2(d:Int×Int):Option aA :=
 if ge d.1 (-1000000000000)=true then if le d.1 1000000000000=true then if le d.2 6=true then if eqi d.2 0=true then some (true,()) else some (nei (rem d.1 10) 0,()) else some (false,()) else some (false,()) else some (false,())
def aq3(x:As aU):Option aA:=aq2 x.1
def aq4(b:List UInt8):Option aA :=
 zA (ajN (b,())) fun a=>if eqi a.2.1.1 0=true then if eqi (zD (zE a.1)) 2=true then zA (at? a.1 0) fun c=>if eqi c.1 1=true then zA (at? a.1 0) fun a=>some (eqs a.2.1 b,()) else some (false,()) else some (false,()) else some (false,())
def aq5(x:As [.str]):Option aA:=aq4 x.1
end Go.Proofs.Lx
end
