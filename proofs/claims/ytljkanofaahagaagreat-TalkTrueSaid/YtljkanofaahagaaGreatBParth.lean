/- Proved in the last of these 16 parts (this is part 8): TalkTrue. Conditions: those of the given statement, and no others. -/
import Derived.Test.YtljkanofaahagaaGreatBPartd
import Derived.Test.YtljkanofaahagaaGreatBPartg
import Derived.Test.YtljkanofaahagaaGreatProg
import Derived.Test.YtljkanofaahagaaGreatBParte
set_option linter.unusedVariables false
set_option linter.unusedSimpArgs false
set_option linter.unusedSectionVars false
open Option renaming bind → zC, none → zH
open List renaming replicate → zE, length → zG, getD → zJ
open Int renaming ofNat → zF, toNat → zI
open Go.Value renaming slice → zK
noncomputable section
open Go Go.Proofs Ev Sx
set_option maxRecDepth 100000
namespace Go.Proofs.Lx
abbrev iD:Type:=Int×Int×Bool×Bool×Bool
@[reducible] def aR:List Ty:=[.int .u8,.int .u8,.sl (.int .u16),.int .u16,.int .i64,.int .u8,.int .u32,.int .u32,.int .u32,.bool,.bool,.bool,.bool,.bool,.bool,.bool,.bool,.int .i64,.sl (.int .u16),.int .i64,.sl (.int .u16),.int .i64,.sl (.int .u16),.int .i64,.sl (.int .u16),.int .i64,.sl (.int .u16),.int .i64,.sl (.int .u16),.int .i64,.sl (.int .u16),.int .i64,.sl (.int .u16),.int .i64,.sl .bool]
@[reducible] def axG:Sh:=⟨[.d bB],[],cM,[.agg [.d (.int .u8),.d (.int .u8),.d aB,.d (.int .u16),.d (.int .i64),.d (.int .u8),.d (.int .u32),.d (.int .u32),.d (.int .u32),.d (.bool),.d (.bool),.d (.bool),.d (.bool),.d (.bool),.d (.bool),.d (.bool),.d (.bool),.d (.int .i64),.d aB,.d (.int .i64),.d aB,.d (.int .i64),.d aB,.d (.int .i64),.d aB,.d (.int .i64),.d aB,.d (.int .i64),.d aB,.d (.int .i64),.d aB,.d (.int .i64),.d aB,.d (.int .i64),.row 0]],[(0,.row .bool 4)],1,aR⟩
def axH:Env:=(cts [(1000045,Ev.gU),(1000226,Ev.gU),(45,(⟨GV,mZ⟩:Ct)),(113,(⟨UJ,Ec⟩:Ct))])
def aix(s:Int×Int×jN×List Bool):Option (As aR) :=
 zC (Ec (s.2.2.2,())) fun y=>zC (mZ (s.2.2.1.1,())) fun y_1=>zC (mZ ((zJ s.2.2.1.2.2.2.2.2.1.2.2 0 (0,[])).2,())) fun y_2=>zC (mZ ((zJ s.2.2.1.2.2.2.2.2.1.2.2 1 (0,[])).2,())) fun y_3=>zC (mZ ((zJ s.2.2.1.2.2.2.2.2.1.2.2 2 (0,[])).2,())) fun y_4=>zC (mZ ((zJ s.2.2.1.2.2.2.2.2.1.2.2 3 (0,[])).2,())) fun y_5=>zC (mZ ((zJ s.2.2.1.2.2.2.2.2.1.2.2 4 (0,[])).2,())) fun y_6=>zC (mZ ((zJ s.2.2.1.2.2.2.2.2.1.2.2 5 (0,[])).2,())) fun y_7=>zC (mZ ((zJ s.2.2.1.2.2.2.2.2.1.2.2 6 (0,[])).2,())) fun y_8=>zC (mZ ((zJ s.2.2.1.2.2.2.2.2.1.2.2 7 (0,[])).2,())) fun y_9=>some (s.1,s.2.1,y_1.1,s.2.2.1.2.1.1,s.2.2.1.2.1.2,s.2.2.1.2.2.1,s.2.2.1.2.2.2.1,s.2.2.1.2.2.2.2.1,s.2.2.1.2.2.2.2.2.1.1,zJ s.2.2.1.2.2.2.2.2.1.2.1 0 false,zJ s.2.2.1.2.2.2.2.2.1.2.1 1 false,zJ s.2.2.1.2.2.2.2.2.1.2.1 2 false,zJ s.2.2.1.2.2.2.2.2.1.2.1 3 false,zJ s.2.2.1.2.2.2.2.2.1.2.1 4 false,zJ s.2.2.1.2.2.2.2.2.1.2.1 5 false,zJ s.2.2.1.2.2.2.2.2.1.2.1 6 false,zJ s.2.2.1.2.2.2.2.2.1.2.1 7 false,(zJ s.2.2.1.2.2.2.2.2.1.2.2 0 (0,[])).1,y_2.1,(zJ s.2.2.1.2.2.2.2.2.1.2.2 1 (0,[])).1,y_3.1,(zJ s.2.2.1.2.2.2.2.2.1.2.2 2 (0,[])).1,y_4.1,(zJ s.2.2.1.2.2.2.2.2.1.2.2 3 (0,[])).1,y_5.1,(zJ s.2.2.1.2.2.2.2.2.1.2.2 4 (0,[])).1,y_6.1,(zJ s.2.2.1.2.2.2.2.2.1.2.2 5 (0,[])).1,y_7.1,(zJ s.2.2.1.2.2.2.2.2.1.2.2 6 (0,[])).1,y_8.1,(zJ s.2.2.1.2.2.2.2.2.1.2.2 7 (0,[])).1,y_9.1,s.2.2.1.2.2.2.2.2.2,y.1,())
def XP(x:As cM):Option (As aR):=aix x.1
theorem axI:ak Tryz.prog (fun _=>True) 99 ⟨axG,XP⟩:=ctn (env:=axH) (aj Ev.gq (aj Ev.gq (aj A7 (aj asi av)))) 6 fun J x=>by kernel_rfl
@[reducible] def OC:Sh:=⟨[.d aJ],[],aI,[.d aB],[],0,aK⟩
def aiy:Env:=(cts [])
def aiz:List (Nat×Hint):=[(58,⟨[],[0,3,10,11]⟩)]
def XQ(b:List Int)(t10 t11:Int)(l:List Int):St:=⟨[(0,dL b),(3,.row 0),(10,dI t10),(11,dI t11)],34,[],[(0,.row (.int .u16) 25 l)],1,[],0⟩
@[reducible] def zH0:Type:=List Int->Int->Int->List Int->Option bM
def OD(self1:zH0)(b:List Int)(t10 t11:Int)(l:List Int):Option bM :=
 if lt t11 t10=true then zC (at? b (mul .i64 2 t11)) fun y=>zC (at? b (add .i64 (mul .i64 2 t11) 1)) fun y_1=>zC (at? l t11) fun x=>zC (at? l t11) fun x=>self1 b t10 (add .i64 t11 1) (List.set l (zI t11) (Sx.bor .u16 (Sx.shl .u16 (cvt .u16 y) 8) (cvt .u16 y_1))) else some (l,())
def XR(j1:zH0)(b:List Int):Option bM :=
 need (ge (quo .i64 (zF (zG b)) 2) 0) (need (Ev.jC (quo .i64 (zF (zG b)) 2) (quo .i64 (zF (zG b)) 2)) (need (small (zI (quo .i64 (zF (zG b)) 2))) (j1 b (zF (zG (zE (α:=Int) (zI (quo .i64 (zF (zG b)) 2)) 0))) 0 (zE (zI (quo .i64 (zF (zG b)) 2)) 0))))
def OE(b:List Int)(t10 t11:Int)(l:List Int):Option bM :=
 cu (fun self s=>OD (fun b t10 t11 l=>self (b,t10,t11,l)) s.1 s.2.1 s.2.2.1 s.2.2.2) 18446744073709551616 (b,t10,t11,l)
def xx(x:As aI):Option bM:=XR OE x.1
abbrev pAz:=zp aiy aiz 272 OC
theorem axJ{J w1 a b c d}:pAz J 58 [w1] (XQ a b c d)=OD (C w1 XQ) a b c d:=by kernel_rfl
abbrev pAy:=zj aiy aiz 272 OC
theorem axK:C (pAy 58 []) XQ=OE:=gLC (by decide) (by kernel_rfl) (fun _=>by unfold OE;rfl) fun _ _=>axJ.trans (by kernel_rfl)
theorem aoR:ak Tryz.prog (fun _=>True) 272 ⟨OC,xx⟩:=zcc (env:=aiy) (d:=6) (hs:=Ev.get aiz) av (fun J x=>XR (C (J 58 []) XQ) x.1) (fun _ _=>by kernel_rfl) fun _=>by rw[axK]<;>rfl
@[reducible] def bP:List Ty:=[.pr (.int .u8) kF,.bool]
@[reducible] def XT:Sh:=⟨[.d bA,.d (.pr (.int .i64) tZ),.d aJ],[],[.pr (.int .u8) kF,.pr (.int .i64) tZ,.sl (.int .u8)],[.d bA,.d (.bool)],[],0,bP⟩
def aiA:Env:=(cts [(272,(⟨OC,xx⟩:Ct)),(288,(⟨WT,Ie⟩:Ct))])
def aiB:List (Nat×Hint):=[(15,⟨[.frb 3,.frb 6],[3,6]⟩)]
def aiC(a a_2 a_3 a_4:Int)(a_5:List Int)(a_6:List Bool)(t6 t6_2 t6_3 t6_4:Int)(t6_5:List Int)(t6_6:List Bool):St:=⟨[(3,.pb 0 0),(6,.pb 1 0)],63,[],[(0,.box 27 [d8 a,d6 a_2,d6 a_3,d6 a_4,dW a_5,.d (.sl .bool) a_6]),(1,.box 27 [d8 t6,d6 t6_2,d6 t6_3,d6 t6_4,dW t6_5,.d (.sl .bool) t6_6])],2,[],0⟩
@[reducible] def bO:Type:=As bP
def aoS(a a_2 a_3 a_4:Int)(a_5:List Int)(a_6:List Bool)(t6 t6_2 t6_3 t6_4:Int)(t6_5:List Int)(t6_6:List Bool):Option bO :=
 some ((a,a_2,a_3,a_4,a_5,a_6),true,())
@[reducible] def zH1:Type:=Int×Int×Int×Int×List Int×List Bool
def XU(j1:Int->Int->Int->Int->List Int->List Bool->Int->Int->Int->Int->List Int->List Bool->Option bO)(a:zH1)(s:Int×Int×Int×Bool×Bool)(rest:List Int):Option bO :=
 if eqi (add .i64 s.2.1 s.2.2.1) 0=true then some (a,true,()) else if lt (zF (zG rest)) 2=true then some ((0,0,0,0,[],[]),false,()) else if eqi a.1 5=true then zC (at? rest 0) fun y=>j1 a.1 a.2.1 a.2.2.1 a.2.2.2.1 a.2.2.2.2.1 [nei y 0] 0 0 0 0 [] [] else if eqi a.1 6=true then zC (xx (rest,())) fun y=>j1 a.1 a.2.1 a.2.2.1 a.2.2.2.1 y.1 a.2.2.2.2.2 0 0 0 0 [] [] else if gt s.2.1 0=true then zC (cut rest 1 (zF (zG rest))) fun y=>zC (Ie (y,())) fun y=>if lt (zF (zG y.1)) (cvt .i64 a.2.2.1)=true then some ((0,0,0,0,[],[]),false,()) else zC (cut y.1 0 a.2.2.1) fun y_1=>need (le a.2.2.1 a.2.2.1) (need (le a.2.2.1 (zF (zG y.1))) (j1 a.1 a.2.1 a.2.2.1 a.2.2.2.1 a.2.2.2.2.1 y_1 0 0 0 0 [] [])) else zC (cut rest 1 (zF (zG rest))) fun y=>zC (xx (y,())) fun y=>j1 a.1 a.2.1 a.2.2.1 a.2.2.2.1 y.1 a.2.2.2.2.2 0 0 0 0 [] []
def aiD:=aoS
def rH(x:As [.pr (.int .u8) kF,.pr (.int .i64) tZ,.sl (.int .u8)]):Option bO:=XU aiD x.1 x.2.1 x.2.2.1
abbrev pA5:=zp aiA aiB 273 XT
theorem axL{J a b c d e f g h i j k l}:pA5 J 15 [] (aiC a b c d e f g h i j k l)=aoS a b c d e f g h i j k l:=by kernel_rfl
abbrev pA4:=zj aiA aiB 273 XT
theorem axM:C (pA4 15 []) aiC=aiD:=gNC (by decide) fun _=>axL
theorem axN:ak Tryz.prog (fun _=>True) 273 ⟨XT,rH⟩:=zcc (env:=aiA) (d:=6) (hs:=Ev.get aiB) (aj aoR (aj aoI av)) (fun J x=>XU (C (J 15 []) aiC) x.1 x.2.1 x.2.2.1) (fun _ _=>by kernel_rfl) fun _=>by rw[axM]<;>rfl
@[reducible] def XW:Sh:=⟨[.d aJ],[],aI,[.d bA,.d (.bool)],[],0,bP⟩
def aiE:Env:=(cts [(106,(⟨UM,yX⟩:Ct)),(272,(⟨OC,xx⟩:Ct)),(273,(⟨XT,rH⟩:Ct))])
def aiF:List (Nat×Hint):=[(255,⟨[],[2,4,6,7,8]⟩),(511,⟨[],[2,4,7,8]⟩),(6,⟨[],[0,2,16]⟩)]
def XX(b:List Int)(t16:Bool)(t2 t2_2 t2_3 t2_4:Int):St:=⟨[(0,dL b),(2,.pb 0 0),(16,dB t16)],67,[],[(0,.box 27 [d8 t2,d6 t2_2,d6 t2_3,d6 t2_4,.k (zK zH 0 0),.k (zK zH 0 0)])],1,[],0⟩
def XY(l rest:List Int)(t2 t2_2 t2_3 t2_4 s s_2 s_3:Int)(s_4 s_5:Bool)(a a_2 a_3 a_4:Int):St:=⟨[(2,.pb 0 0),(4,.pb 1 0),(6,dW l),(7,.pb 2 0),(8,dL rest)],67,[],[(0,.box 27 [d8 t2,d6 t2_2,d6 t2_3,d6 t2_4,.k (zK zH 0 0),.k (zK zH 0 0)]),(1,.box 151 [dI s,dI s_2,dI s_3,dB s_4,dB s_5]),(2,.box 27 [d8 a,d6 a_2,d6 a_3,d6 a_4,.k (zK zH 0 0),.k (zK zH 0 0)])],3,[],0⟩
def XZ(rest:List Int)(t2 t2_2 t2_3 t2_4 s s_2 s_3:Int)(s_4 s_5:Bool)(a a_2 a_3 a_4:Int):St:=⟨[(2,.pb 0 0),(4,.pb 1 0),(7,.pb 2 0),(8,dL rest)],67,[],[(0,.box 27 [d8 t2,d6 t2_2,d6 t2_3,d6 t2_4,.k (zK zH 0 0),.k (zK zH 0 0)]),(1,.box 151 [dI s,dI s_2,dI s_3,dB s_4,dB s_5]),(2,.box 27 [d8 a,d6 a_2,d6 a_3,d6 a_4,.k (zK zH 0 0),.k (zK zH 0 0)])],3,[],0⟩
def Bq(j2:List Int->List Int->Int->Int->Int->Int->Int->Int->Int->Bool->Bool->Int->Int->Int->Int->Option bO)(b:List Int)(t16:Bool)(t2 t2_2 t2_3 t2_4:Int):Option bO :=
 if t16=true then some ((0,0,0,0,[],[]),false,()) else zC (at? b 0) fun y=>zC (yX (y,())) fun y=>if (!y.2.1)=true then some ((0,0,0,0,[],[]),false,()) else zC (cut b 1 (zF (zG b))) fun y_1=>zC (xx (y_1,())) fun y_2=>zC (at? b 0) fun y_3=>zC (at? y_2.1 0) fun y_4=>zC (cut b 3 (zF (zG b))) fun y_5=>if gt y.1.1 0=true then zC (at? y_2.1 1) fun y_6=>zC (cut b 5 (zF (zG b))) fun y_7=>j2 y_2.1 y_7 t2 t2_2 t2_3 t2_4 y.1.1 y.1.2.1 y.1.2.2.1 y.1.2.2.2.1 y.1.2.2.2.2 y_3 y_4 y_6 0 else j2 y_2.1 y_5 t2 t2_2 t2_3 t2_4 y.1.1 y.1.2.1 y.1.2.2.1 y.1.2.2.2.1 y.1.2.2.2.2 y_3 y_4 0 0
def X0(j3:List Int->Int->Int->Int->Int->Int->Int->Int->Bool->Bool->Int->Int->Int->Int->Option bO)(l rest:List Int)(t2 t2_2 t2_3 t2_4 s s_2 s_3:Int)(s_4 s_5:Bool)(a a_2 a_3 a_4:Int):Option bO :=
 if s_4=true then if lt (zF (zG rest)) 4=true then some ((0,0,0,0,[],[]),false,()) else zC (at? l 2) fun y=>zC (cut rest 4 (zF (zG rest))) fun y_1=>j3 y_1 t2 t2_2 t2_3 t2_4 s s_2 s_3 s_4 s_5 a a_2 a_3 y else j3 rest t2 t2_2 t2_3 t2_4 s s_2 s_3 s_4 s_5 a a_2 a_3 a_4
def aoT(rest:List Int)(t2 t2_2 t2_3 t2_4 s s_2 s_3:Int)(s_4 s_5:Bool)(a a_2 a_3 a_4:Int):Option bO :=
 zC (rH ((a,a_2,a_3,a_4,[],[]),(s,s_2,s_3,s_4,s_5),rest,())) fun y=>some (y.1,y.2.1,())
def xA(j1:List Int->Bool->Int->Int->Int->Int->Option bO)(b:List Int):Option bO :=
 if lt (zF (zG b)) 5=true then j1 b true 0 0 0 0 else j1 b (gt (zF (zG b)) 253) 0 0 0 0
def X3:=aoT
def y8:=X0 (X3)
def EA:=Bq (y8)
def Br(x:As aI):Option bO:=xA EA x.1
abbrev pA3:=zp aiE aiF 251 XW
theorem axO{J a b c d e f g h i j k l m n}:pA3 J 511 [] (XZ a b c d e f g h i j k l m n)=aoT a b c d e f g h i j k l m n:=by kernel_rfl
theorem axP{J a b c d e f g h i j k l m n o}:pA3 J 255 [] (XY a b c d e f g h i j k l m n o)=X0 (C (J 511 []) XZ) a b c d e f g h i j k l m n o:=by kernel_rfl
theorem axQ{J a b c d e f}:pA3 J 6 [] (XX a b c d e f)=Bq (C (J 255 []) XY) a b c d e f:=by kernel_rfl
abbrev pA2:=zj aiE aiF 251 XW
theorem axR:C (pA2 511 []) XZ=X3:=gNC (by decide) fun _=>axO
theorem axS:C (pA2 255 []) XY=y8:=gNC (by decide) fun _=>axP.trans (by rw[axR]<;>kernel_rfl)
theorem axT:C (pA2 6 []) XX=EA:=gNC (by decide) fun _=>axQ.trans (by rw[axS]<;>kernel_rfl)
theorem axU:ak Tryz.prog (fun _=>True) 251 ⟨XW,Br⟩:=zcc (env:=aiE) (d:=6) (hs:=Ev.get aiF) (aj UN (aj aoR (aj axN av))) (fun J x=>xA (C (J 6 []) XX) x.1) (fun _ _=>by kernel_rfl) fun _=>by rw[axT]<;>rfl
@[reducible] def dV:List Ty:=[.pr (.int .u8) kF,.int .i64]
@[reducible] def aiG:Sh:=⟨[.d aJ],[],aI,[.d bA,.d (.int .i64)],[],0,dV⟩
def aiH:Env:=(cts [(50,(⟨U4,Eg⟩:Ct)),(112,(⟨ahw,oK⟩:Ct)),(251,(⟨XW,Br⟩:Ct))])
def aiI:List (Nat×Hint):=[(61,⟨[],[2,4,28]⟩)]
def aiJ(t28:Bool)(t2 t2_2 t2_3 t2_4 a a_2 a_3 a_4:Int)(a_5:List Int)(a_6:List Bool):St:=⟨[(2,.pb 0 0),(4,.pb 1 0),(28,dB t28)],31,[],[(0,.box 27 [d8 t2,d6 t2_2,d6 t2_3,d6 t2_4,.k (zK zH 0 0),.k (zK zH 0 0)]),(1,.box 27 [d8 a,d6 a_2,d6 a_3,d6 a_4,dW a_5,.d (.sl .bool) a_6])],2,[],0⟩
def aoU(t28:Bool)(t2 t2_2 t2_3 t2_4 a a_2 a_3 a_4:Int)(a_5:List Int)(a_6:List Bool):Option (As dV) :=
 if t28=true then some ((0,0,0,0,[],[]),12,()) else some ((a,a_2,a_3,a_4,a_5,a_6),0,())
def Iw(j1:Bool->Int->Int->Int->Int->Int->Int->Int->Int->List Int->List Bool->Option (As dV))(b:List Int):Option (As dV) :=
 zC (Br (b,())) fun y=>if (!y.2.1)=true then some ((0,0,0,0,[],[]),12,()) else zC (Eg (y.1,())) fun y_1=>if nei y_1.2.1 0=true then j1 true 0 0 0 0 y.1.1 y.1.2.1 y.1.2.2.1 y.1.2.2.2.1 y.1.2.2.2.2.1 y.1.2.2.2.2.2 else zC (oK (y_1.1,b,())) fun y_2=>j1 (!y_2.1) 0 0 0 0 y.1.1 y.1.2.1 y.1.2.2.1 y.1.2.2.2.1 y.1.2.2.2.2.1 y.1.2.2.2.2.2
def X4:=aoU
def X5(x:As aI):Option (As dV):=Iw X4 x.1
abbrev pAt:=zp aiH aiI 220 aiG
theorem axV{J a b c d e f g h i j k}:pAt J 61 [] (aiJ a b c d e f g h i j k)=aoU a b c d e f g h i j k:=by kernel_rfl
abbrev pAs:=zj aiH aiI 220 aiG
theorem axW:C (pAs 61 []) aiJ=X4:=gNC (by decide) fun _=>axV
theorem axX:ak Tryz.prog (fun _=>True) 220 ⟨aiG,X5⟩:=zcc (env:=aiH) (d:=6) (hs:=Ev.get aiI) (aj ae1 (aj aoH (aj axU av))) (fun J x=>Iw (C (J 61 []) aiJ) x.1) (fun _ _=>by kernel_rfl) fun _=>by rw[axW]<;>rfl
@[reducible] def aoV:Sh:=⟨[.d aJ],[],aI,[.d bA,.d (.int .u8)],[],0,[.pr (.int .u8) kF,.int .u8]⟩
def OG(b:List Int):Option (As [.pr (.int .u8) kF,.int .u8]) :=
 if eqi (zF (zG b)) 0=true then some ((0,0,0,0,[],[]),1,()) else zC (X5 (b,())) fun y=>if eqi y.2.1 0=true then some (y.1,0,()) else zC (at? b 0) fun y=>zC (at? b 0) fun y_1=>zC (yX (y_1,())) fun y_2=>if (!y_2.2.1)=true then some ((y,0,0,0,[],[]),1,()) else some ((y,0,0,0,[],[]),3,())
def Bt(x:As aI):Option (As [.pr (.int .u8) kF,.int .u8]):=OG x.1
theorem axY:ak Tryz.prog (fun _=>True) 163 ⟨aoV,Bt⟩:=ctn (aj UN (aj axX av)) 6 fun J x=>by kernel_rfl
@[reducible] def bY:Ty:=.pr fU fU
@[reducible] def aZ:Ty:=.pr fU bY
@[reducible] def eZ:Ty:=.pr (.sl .bool) C6
@[reducible] def eH:List Ty:=[.pr fU aZ,.pr (.sl .bool) C6]
@[reducible] def bL:Ty:=.pr fU (.sl .bool)
@[reducible] def cJ:Ty:=.pr fU aB
@[reducible] def eS:Ty:=.pr cJ cJ
@[reducible] def bF:Ty:=.pr bL eS
@[reducible] def aoW:Sh:=⟨[.d (.pr fU aZ),.d eZ],[],eH,[.d (.pr bL bF)],[],0,[.pr bL bF]⟩
def axZ(s:List cr×List cr×List cr×List cr)(m:List Bool×List Bool×List Int×List Int):Option (As [.pr bL bF]) :=
 some (((s.1,m.1),(s.2.1,m.2.1),(s.2.2.1,m.2.2.1),s.2.2.2,m.2.2.2),())
def Iy(x:As eH):Option (As [.pr bL bF]):=axZ x.1 x.2.1
theorem aoX:ak Tryz.prog (fun _=>True) 221 ⟨aoW,Iy⟩:=ctn av 6 fun J x=>by kernel_rfl
@[reducible] def aiK:Sh:=⟨[.d (.int .u8)],[],[.int .u8],[.d eF],[],0,[.pr (.int .i64) (.int .i64)]⟩
def aiL(f:Int):Option (As [.pr (.int .i64) (.int .i64)]) :=
 some (Ev.gdV eF (if eqi 1 f=true then some (1,0) else if eqi 2 f=true then some (2,0) else if eqi 3 f=true then some (3,0) else if eqi 4 f=true then some (4,0) else if eqi 5 f=true then some (0,1) else if eqi 6 f=true then some (0,3) else if eqi 15 f=true then some (0,1) else if eqi 16 f=true then some (0,3) else if eqi 23 f=true then some (3,3) else zH) (0,0),())
def Iz(x:As [.int .u8]):Option (As [.pr (.int .i64) (.int .i64)]):=aiL x.1
theorem aoY:ak Tryz.prog (fun _=>True) 222 ⟨aiK,Iz⟩:=ctn av 6 fun J x=>by kernel_rfl
@[reducible] def aiM:Sh:=⟨[.d bA],[],aW,[.d (.int .i64),.d (.int .i64)],[],0,bZ⟩
@[reducible] def fF:Type:=As bZ
def aiN(a:zH1):Option fF :=
 if eqi a.1 23=true then some (cvt .i64 a.2.2.2.1,add .i64 (zF (zG a.2.2.2.2.2)) (zF (zG a.2.2.2.2.1)),()) else some (cvt .i64 a.2.1,add .i64 (zF (zG a.2.2.2.2.2)) (zF (zG a.2.2.2.2.1)),())
def EB(x:As aW):Option fF:=aiN x.1
theorem asY:ak Tryz.prog (fun _=>True) 224 ⟨aiM,EB⟩:=ctn av 6 fun J x=>by kernel_rfl
@[reducible] def OH:Sh:=⟨[.d bQ],[],[.pr (.int .i64) C4],[.d (.bool)],[],0,[.bool]⟩
def aDF(x:iD):Option aE :=
 some (x.2.2.1,())
def Bu(x:As [.pr (.int .i64) C4]):Option aE:=aDF x.1
theorem OI:ak Tryz.prog (fun _=>True) 348 ⟨OH,Bu⟩:=ctn av 6 fun J x=>by kernel_rfl
@[reducible] def cN:List Ty:=[.pr (.int .i64) C4,.int .i64,.int .i64]
@[reducible] def aO:List Ty:=[.bool,.int .i64,.int .i64]
@[reducible] def OJ:Sh:=⟨[.d bQ,.pb 0 0,.pb 1 0],[.box 3 [.d (.int .i64)],.box 3 [.d (.int .i64)]],cN,[.d (.bool)],[(0,.box 3 [.d (.int .i64)]),(1,.box 3 [.d (.int .i64)])],0,aO⟩
@[reducible] def aM:Type:=As aO
def aiO(x:iD)(v v_2:Int):Option aM :=
 if x.2.2.2.1=true then if (!x.2.2.2.2)=true then some (true,v,v_2,()) else if eqi x.1 v=true then some (eqi x.2.1 v_2,v,v_2,()) else some (false,v,v_2,()) else some (false,v,v_2,())
def FN(x:As cN):Option aM:=aiO x.1 x.2.1 x.2.2.1
theorem OL:ak Tryz.prog (fun _=>True) 349 ⟨OJ,FN⟩:=ctn av 6 fun J x=>by kernel_rfl
@[reducible] def EC:Sh:=⟨[.d bQ,.d (.int .i64),.d (.int .i64)],[],cN,[.d (.int .i64),.d (.int .i64)],[],0,bZ⟩
def aiP:Env:=(cts [])
def aiQ:List (Nat×Hint):=[(15,⟨[],[1,3,8]⟩),(30,⟨[],[1,2,3,8,32]⟩),(6,⟨[],[1,2,3,17,25,26,27,28,29,30,31]⟩)]
def aiR(at' endV:Int)(t17:Bool)(x:iD):St:=⟨[(1,dI at'),(2,dI endV),(3,.pb 0 0),(17,dB t17)],45,[],[(0,.box 250 [dI x.1,dI x.2.1,dB x.2.2.1,dB x.2.2.2.1,dB x.2.2.2.2])],1,[],0⟩
def aiS(at' endV to':Int)(t32:Bool)(x:iD):St:=⟨[(1,dI at'),(2,dI endV),(3,.pb 0 0),(8,dI to'),(32,dB t32)],45,[],[(0,.box 250 [dI x.1,dI x.2.1,dB x.2.2.1,dB x.2.2.2.1,dB x.2.2.2.2])],1,[],0⟩
def aiT(at' to':Int)(x:iD):St:=⟨[(1,dI at'),(3,.pb 0 0),(8,dI to')],45,[],[(0,.box 250 [dI x.1,dI x.2.1,dB x.2.2.1,dB x.2.2.2.1,dB x.2.2.2.2])],1,[],0⟩
def aiU(j2:Int->Int->Int->Bool->iD->Option fF)(at' endV:Int)(t17:Bool)(x:iD):Option fF :=
 if t17=true then some (at',at',()) else if lt x.1 0=true then j2 at' endV endV true x else j2 at' endV endV (lt x.2.1 (Sx.sub .i64 endV x.1)) x
def X6(j3:Int->Int->iD->Option fF)(at' endV to':Int)(t32:Bool)(x:iD):Option fF :=
 if t32=true then j3 at' (if lt (add .i64 x.1 x.2.1) endV=true then add .i64 x.1 x.2.1 else endV) x else j3 at' to' x
def aiV(at' to':Int)(x:iD):Option fF :=
 some (if gt x.1 at'=true then x.1 else at',to',())
def X7(j1:Int->Int->Bool->iD->Option fF)(x:iD)(at' endV:Int):Option fF :=
 if lt x.2.1 1=true then j1 at' endV true x else j1 at' endV (ge x.1 endV) x
def X8:=aiV
def OM:=X6 (X8)
def OO:=aiU (OM)
def xB(x:As cN):Option fF:=X7 OO x.1 x.2.1 x.2.2.1
abbrev pCl:=zp aiP aiQ 350 EC
theorem ax0{J a b c}:pCl J 15 [] (aiT a b c)=aiV a b c:=by kernel_rfl
theorem ax1{J a b c d e}:pCl J 30 [] (aiS a b c d e)=X6 (C (J 15 []) aiT) a b c d e:=by kernel_rfl
theorem ax2{J a b c d}:pCl J 6 [] (aiR a b c d)=aiU (C (J 30 []) aiS) a b c d:=by kernel_rfl
abbrev pCk:=zj aiP aiQ 350 EC
theorem ax3:C (pCk 15 []) aiT=X8:=gNC (by decide) fun _=>ax0
theorem ax4:C (pCk 30 []) aiS=OM:=gNC (by decide) fun _=>ax1.trans (by rw[ax3]<;>kernel_rfl)
theorem ax5:C (pCk 6 []) aiR=OO:=gNC (by decide) fun _=>ax2.trans (by rw[ax4]<;>kernel_rfl)
theorem X9:ak Tryz.prog (fun _=>True) 350 ⟨EC,xB⟩:=zcc (env:=aiP) (d:=6) (hs:=Ev.get aiQ) av (fun J x=>X7 (C (J 6 []) aiR) x.1 x.2.1 x.2.2.1) (fun _ _=>by kernel_rfl) fun _=>by rw[ax5]<;>rfl
@[reducible] def OP:Sh:=⟨[.d bQ],[],[.pr (.int .i64) C4],[.d (.bool)],[],0,[.bool]⟩
def aDG(x:iD):Option aE :=
 some (x.2.2.1,())
def JU(x:As [.pr (.int .i64) C4]):Option aE:=aDG x.1
theorem OQ:ak Tryz.prog (fun _=>True) 353 ⟨OP,JU⟩:=ctn av 6 fun J x=>by kernel_rfl
@[reducible] def OT:Sh:=⟨[.d bQ,.pb 0 0,.pb 1 0],[.box 3 [.d (.int .i64)],.box 3 [.d (.int .i64)]],cN,[.d (.bool)],[(0,.box 3 [.d (.int .i64)]),(1,.box 3 [.d (.int .i64)])],0,aO⟩
def aiW(x:iD)(v v_2:Int):Option aM :=
 if x.2.2.2.1=true then if (!x.2.2.2.2)=true then some (true,v,v_2,()) else if eqi x.1 v=true then some (eqi x.2.1 v_2,v,v_2,()) else some (false,v,v_2,()) else some (false,v,v_2,())
def FO(x:As cN):Option aM:=aiW x.1 x.2.1 x.2.2.1
theorem OU:ak Tryz.prog (fun _=>True) 354 ⟨OT,FO⟩:=ctn av 6 fun J x=>by kernel_rfl
@[reducible] def eX:List Ty:=[.sl bQ,.int .i64,.int .i64]
@[reducible] def aiX:Sh:=⟨[.d fU,.d (.int .i64),.d (.int .i64),.fn (.func 348) [] []],[],eX,[.d (.bool)],[],0,[.bool]⟩
def aiY:Env:=(cts [(348,(⟨OH,Bu⟩:Ct)),(349,(⟨OJ,FN⟩:Ct)),(350,(⟨EC,xB⟩:Ct)),(353,(⟨OP,JU⟩:Ct)),(354,(⟨OT,FO⟩:Ct))])
def aiZ:List (Nat×Hint):=[(15,⟨[],[10]⟩),(122,⟨[],[1,2,3,9,10,19,20,21]⟩),(125342,⟨[],[1,2,3,9,10,12,14,15,19,20,21]⟩),(501369,⟨[],[1,2,3,9,10,12,14,15,19,20,21]⟩)]
def Bv(at' many left:Int)(t19:List cr)(t20 t21:Int)(met:List Bool):St:=⟨[(1,dI at'),(2,dI many),(3,.fn (.func 348) [] []),(9,.row 0),(10,dI left),(19,.d fU t19),(20,dI t20),(21,dI t21)],62,[],[(0,.row .bool 4 met)],1,[],0⟩
def ai0(left:Int):St:=⟨[(10,dI left)],62,[],[],0,[],0⟩
def IB(at' many left to' i:Int)(t19:List cr)(t20 t21:Int)(met:List Bool)(x:iD):St:=⟨[(1,dI at'),(2,dI many),(3,.fn (.func 348) [] []),(9,.row 0),(10,dI left),(12,.pb 1 0),(14,dI to'),(15,dI i),(19,.d fU t19),(20,dI t20),(21,dI t21)],62,[],[(0,.row .bool 4 met),(1,.box 250 [dI x.1,dI x.2.1,dB x.2.2.1,dB x.2.2.2.1,dB x.2.2.2.2])],2,[],0⟩
def ai1(at' many left to' i:Int)(t19:List cr)(t20 t21:Int)(met:List Bool)(x:iD):St:=⟨[(1,dI at'),(2,dI many),(3,.fn (.func 348) [] []),(9,.row 0),(10,dI left),(12,.pb 1 0),(14,dI to'),(15,dI i),(19,.d fU t19),(20,dI t20),(21,dI t21)],62,[],[(0,.row .bool 4 met),(1,.box 250 [dI x.1,dI x.2.1,dB x.2.2.1,dB x.2.2.2.1,dB x.2.2.2.2])],2,[],0⟩
@[reducible] def zH2:Type:=Int->Int->Int->List cr->Int->Int->List Bool->Option aE
def OV(j2:Int->Option aE)(j3:Int->Int->Int->Int->Int->List cr->Int->Int->List Bool->iD->Option aE)(self1:zH2)(at' many left:Int)(t19:List cr)(t20 t21:Int)(met:List Bool):Option aE :=
 if lt t21 t20=true then zC (at? t19 t21) fun y=>if eqi left 0=true then j2 left else zC (xB (y,at',add .i64 at' many,())) fun y_1=>j3 at' many left y_1.2.1 y_1.1 t19 t20 t21 met y else j2 left
def asZ(left:Int):Option aE :=
 some (eqi left 0,())
def OX(j4:Int->Int->Int->Int->Int->List cr->Int->Int->List Bool->iD->Option aE)(self1:zH2)(self3:Int->Int->Int->Int->Int->List cr->Int->Int->List Bool->iD->Option aE)(at' many left to' i:Int)(t19:List cr)(t20 t21:Int)(met:List Bool)(x:iD):Option aE :=
 if lt i to'=true then zC (at? met (Sx.sub .i64 i at')) fun x_1=>zC (at? met (Sx.sub .i64 i at')) fun y=>if y=true then j4 at' many left to' i t19 t20 t21 met x else zC (Bu (x,())) fun y=>if (!y.1)=true then some (false,()) else zC (at? met (Sx.sub .i64 i at')) fun x_2=>zC (at? met (Sx.sub .i64 i at')) fun x_3=>j4 at' many (Sx.sub .i64 left 1) to' i t19 t20 t21 (List.set met (zI (Sx.sub .i64 i at')) true) x else self1 at' many left t19 t20 (add .i64 t21 1) met
def ai2(self1:zH2)(self3:Int->Int->Int->Int->Int->List cr->Int->Int->List Bool->iD->Option aE)(at' many left to' i:Int)(t19:List cr)(t20 t21:Int)(met:List Bool)(x:iD):Option aE :=
 self3 at' many left to' (add .i64 i 1) t19 t20 t21 met x
def Ya(j1:zH2)(areas:List cr)(at' many:Int):Option aE :=
 need (ge many 0) (need (Ev.jC many many) (need (small (zI many)) (j1 at' many many areas (zF (zG areas)) 0 (zE (zI many) false))))
def OY:=asZ
def IC(u1:zH2)(u3:Int->Int->Int->Int->Int->List cr->Int->Int->List Bool->iD->Option aE):=ai2 u1 u3
def ED(u1:zH2)(at' many left to' i:Int)(t19:List cr)(t20 t21:Int)(met:List Bool)(x:iD):Option aE :=
 cu (fun self s=>OX (IC u1 (fun at' many left to' i t19 t20 t21 met x=>self (at',many,left,to',i,t19,t20,t21,met,x))) u1 (fun at' many left to' i t19 t20 t21 met x=>self (at',many,left,to',i,t19,t20,t21,met,x)) s.1 s.2.1 s.2.2.1 s.2.2.2.1 s.2.2.2.2.1 s.2.2.2.2.2.1 s.2.2.2.2.2.2.1 s.2.2.2.2.2.2.2.1 s.2.2.2.2.2.2.2.2.1 s.2.2.2.2.2.2.2.2.2) 18446744073709551616 (at',many,left,to',i,t19,t20,t21,met,x)
def OZ(at' many left:Int)(t19:List cr)(t20 t21:Int)(met:List Bool):Option aE :=
 cu (fun self s=>OV (OY) (ED (fun at' many left t19 t20 t21 met=>self (at',many,left,t19,t20,t21,met))) (fun at' many left t19 t20 t21 met=>self (at',many,left,t19,t20,t21,met)) s.1 s.2.1 s.2.2.1 s.2.2.2.1 s.2.2.2.2.1 s.2.2.2.2.2.1 s.2.2.2.2.2.2) 18446744073709551616 (at',many,left,t19,t20,t21,met)
def Yb(x:As eX):Option aE:=Ya OZ x.1 x.2.1 x.2.2.1
abbrev pCd:=zp aiY aiZ 347 aiX
theorem ax6{J a}:pCd J 15 [] (ai0 a)=asZ a:=by kernel_rfl
theorem ax7{J w1 w3 a b c d e f g h i j}:pCd J 501369 [w1,w3] (ai1 a b c d e f g h i j)=ai2 (C w1 Bv) (C w3 IB) a b c d e f g h i j:=by kernel_rfl
theorem ax8{J w1 w3 a b c d e f g h i j}:pCd J 125342 [w1,w3] (IB a b c d e f g h i j)=OX (C (J 501369 [w1,w3]) ai1) (C w1 Bv) (C w3 IB) a b c d e f g h i j:=by kernel_rfl
theorem ax9{J w1 a b c d e f g}:pCd J 122 [w1] (Bv a b c d e f g)=OV (C (J 15 []) ai0) (C (J 125342 [w1]) IB) (C w1 Bv) a b c d e f g:=by kernel_rfl
abbrev pCc:=zj aiY aiZ 347 aiX
theorem aya:C (pCc 15 []) ai0=OY:=gNC (by decide) fun _=>ax6
theorem ayb{w1 w3}:C (pCc 501369 [w1,w3]) ai1=IC (C w1 Bv) (C w3 IB):=gNC (by decide) fun _=>ax7
theorem ayc{w1}:C (pCc 125342 [w1]) IB=ED (C w1 Bv):=gLC (by decide) (by kernel_rfl) (fun _=>by unfold ED;rfl) fun _ _=>ax8.trans (by rw[ayb]<;>kernel_rfl)
theorem ayd:C (pCc 122 []) Bv=OZ:=gLC (by decide) (by kernel_rfl) (fun _=>by unfold OZ;rfl) fun _ _=>ax9.trans (by rw[aya,ayc]<;>kernel_rfl)
theorem Yc:ak Tryz.prog (fun _=>True) 347 ⟨aiX,Yb⟩:=zcc (env:=aiY) (d:=6) (hs:=Ev.get aiZ) (aj OI (aj OL (aj X9 (aj OQ (aj OU av))))) (fun J x=>Ya (C (J 122 []) Bv) x.1 x.2.1 x.2.2.1) (fun _ _=>by kernel_rfl) fun _=>by rw[ayd]<;>rfl
@[reducible] def dJ:List Ty:=[.sl bQ,.int .i64,.int .i64,.int .i64,.int .i64]
@[reducible] def ai3:Sh:=⟨[.d fU,.d (.int .i64),.d (.int .i64),.fn (.func 349) [] [.pb 0 0,.pb 1 0]],[.box 3 [.d (.int .i64)],.box 3 [.d (.int .i64)]],dJ,[.d (.bool)],[(0,.box 3 [.d (.int .i64)]),(1,.box 3 [.d (.int .i64)])],0,aO⟩
def ai4:Env:=(cts [(348,(⟨OH,Bu⟩:Ct)),(349,(⟨OJ,FN⟩:Ct)),(350,(⟨EC,xB⟩:Ct)),(353,(⟨OP,JU⟩:Ct)),(354,(⟨OT,FO⟩:Ct))])
def ai5:List (Nat×Hint):=[(15,⟨[],[10]⟩),(122,⟨[],[1,2,3,9,10,19,20,21]⟩),(125342,⟨[],[1,2,3,9,10,12,14,15,19,20,21]⟩),(501369,⟨[],[1,2,3,9,10,12,14,15,19,20,21]⟩)]
def Bw(at' many left:Int)(t19:List cr)(t20 t21 o o_2:Int)(met:List Bool):St:=⟨[(1,dI at'),(2,dI many),(3,.fn (.func 349) [] [.pb 0 0,.pb 1 0]),(9,.row 2),(10,dI left),(19,.d fU t19),(20,dI t20),(21,dI t21)],62,[],[(0,.box 3 [dI o]),(1,.box 3 [dI o_2]),(2,.row .bool 4 met)],3,[],2⟩
def ai6(left o o_2:Int):St:=⟨[(10,dI left)],62,[],[(0,.box 3 [dI o]),(1,.box 3 [dI o_2])],2,[],2⟩
def IE(at' many left to' i:Int)(t19:List cr)(t20 t21 o o_2:Int)(met:List Bool)(x:iD):St:=⟨[(1,dI at'),(2,dI many),(3,.fn (.func 349) [] [.pb 0 0,.pb 1 0]),(9,.row 2),(10,dI left),(12,.pb 3 0),(14,dI to'),(15,dI i),(19,.d fU t19),(20,dI t20),(21,dI t21)],62,[],[(0,.box 3 [dI o]),(1,.box 3 [dI o_2]),(2,.row .bool 4 met),(3,.box 250 [dI x.1,dI x.2.1,dB x.2.2.1,dB x.2.2.2.1,dB x.2.2.2.2])],4,[],2⟩
def ai7(at' many left to' i:Int)(t19:List cr)(t20 t21 o o_2:Int)(met:List Bool)(x:iD):St:=⟨[(1,dI at'),(2,dI many),(3,.fn (.func 349) [] [.pb 0 0,.pb 1 0]),(9,.row 2),(10,dI left),(12,.pb 3 0),(14,dI to'),(15,dI i),(19,.d fU t19),(20,dI t20),(21,dI t21)],62,[],[(0,.box 3 [dI o]),(1,.box 3 [dI o_2]),(2,.row .bool 4 met),(3,.box 250 [dI x.1,dI x.2.1,dB x.2.2.1,dB x.2.2.2.1,dB x.2.2.2.2])],4,[],2⟩
@[reducible] def zH3:Type:=Int->Int->Int->Option aM
@[reducible] def zH4:Type:=Int->Int->Int->List cr->Int->Int->Int->Int->List Bool->Option aM
def O0(j2:zH3)(j3:Int->Int->Int->Int->Int->List cr->Int->Int->Int->Int->List Bool->iD->Option aM)(self1:zH4)(at' many left:Int)(t19:List cr)(t20 t21 o o_2:Int)(met:List Bool):Option aM :=
 if lt t21 t20=true then zC (at? t19 t21) fun y=>if eqi left 0=true then j2 left o o_2 else zC (xB (y,at',add .i64 at' many,())) fun y_1=>j3 at' many left y_1.2.1 y_1.1 t19 t20 t21 o o_2 met y else j2 left o o_2
def as0(left o o_2:Int):Option aM :=
 some (eqi left 0,o,o_2,())
def O1(j4:Int->Int->Int->Int->Int->List cr->Int->Int->Int->Int->List Bool->iD->Option aM)(self1:zH4)(self3:Int->Int->Int->Int->Int->List cr->Int->Int->Int->Int->List Bool->iD->Option aM)(at' many left to' i:Int)(t19:List cr)(t20 t21 o o_2:Int)(met:List Bool)(x:iD):Option aM :=
 if lt i to'=true then zC (at? met (Sx.sub .i64 i at')) fun x_1=>zC (at? met (Sx.sub .i64 i at')) fun y=>if y=true then j4 at' many left to' i t19 t20 t21 o o_2 met x else zC (FN (x,o,o_2,())) fun y=>if (!y.1)=true then some (false,y.2.1,y.2.2.1,()) else zC (at? met (Sx.sub .i64 i at')) fun x_2=>zC (at? met (Sx.sub .i64 i at')) fun x_3=>j4 at' many (Sx.sub .i64 left 1) to' i t19 t20 t21 y.2.1 y.2.2.1 (List.set met (zI (Sx.sub .i64 i at')) true) x else self1 at' many left t19 t20 (add .i64 t21 1) o o_2 met
def ai8(self1:zH4)(self3:Int->Int->Int->Int->Int->List cr->Int->Int->Int->Int->List Bool->iD->Option aM)(at' many left to' i:Int)(t19:List cr)(t20 t21 o o_2:Int)(met:List Bool)(x:iD):Option aM :=
 self3 at' many left to' (add .i64 i 1) t19 t20 t21 o o_2 met x
def Yd(j1:zH4)(areas:List cr)(at' many wanted areas_2:Int):Option aM :=
 need (ge many 0) (need (Ev.jC many many) (need (small (zI many)) (j1 at' many many areas (zF (zG areas)) 0 wanted areas_2 (zE (zI many) false))))
def O3:=as0
def IG(u1:zH4)(u3:Int->Int->Int->Int->Int->List cr->Int->Int->Int->Int->List Bool->iD->Option aM):=ai8 u1 u3
def EE(u1:zH4)(at' many left to' i:Int)(t19:List cr)(t20 t21 o o_2:Int)(met:List Bool)(x:iD):Option aM :=
 cu (fun self s=>O1 (IG u1 (fun at' many left to' i t19 t20 t21 o o_2 met x=>self (at',many,left,to',i,t19,t20,t21,o,o_2,met,x))) u1 (fun at' many left to' i t19 t20 t21 o o_2 met x=>self (at',many,left,to',i,t19,t20,t21,o,o_2,met,x)) s.1 s.2.1 s.2.2.1 s.2.2.2.1 s.2.2.2.2.1 s.2.2.2.2.2.1 s.2.2.2.2.2.2.1 s.2.2.2.2.2.2.2.1 s.2.2.2.2.2.2.2.2.1 s.2.2.2.2.2.2.2.2.2.1 s.2.2.2.2.2.2.2.2.2.2.1 s.2.2.2.2.2.2.2.2.2.2.2) 18446744073709551616 (at',many,left,to',i,t19,t20,t21,o,o_2,met,x)
def O4(at' many left:Int)(t19:List cr)(t20 t21 o o_2:Int)(met:List Bool):Option aM :=
 cu (fun self s=>O0 (O3) (EE (fun at' many left t19 t20 t21 o o_2 met=>self (at',many,left,t19,t20,t21,o,o_2,met))) (fun at' many left t19 t20 t21 o o_2 met=>self (at',many,left,t19,t20,t21,o,o_2,met)) s.1 s.2.1 s.2.2.1 s.2.2.2.1 s.2.2.2.2.1 s.2.2.2.2.2.1 s.2.2.2.2.2.2.1 s.2.2.2.2.2.2.2.1 s.2.2.2.2.2.2.2.2) 18446744073709551616 (at',many,left,t19,t20,t21,o,o_2,met)
def Ye(x:As dJ):Option aM:=Yd O4 x.1 x.2.1 x.2.2.1 x.2.2.2.1 x.2.2.2.2.1
abbrev pCf:=zp ai4 ai5 347 ai3
theorem aye{J a b c}:pCf J 15 [] (ai6 a b c)=as0 a b c:=by kernel_rfl
theorem ayf{J w1 w3 a b c d e f g h i j k l}:pCf J 501369 [w1,w3] (ai7 a b c d e f g h i j k l)=ai8 (C w1 Bw) (C w3 IE) a b c d e f g h i j k l:=by kernel_rfl
theorem ayg{J w1 w3 a b c d e f g h i j k l}:pCf J 125342 [w1,w3] (IE a b c d e f g h i j k l)=O1 (C (J 501369 [w1,w3]) ai7) (C w1 Bw) (C w3 IE) a b c d e f g h i j k l:=by kernel_rfl
theorem ayh{J w1 a b c d e f g h i}:pCf J 122 [w1] (Bw a b c d e f g h i)=O0 (C (J 15 []) ai6) (C (J 125342 [w1]) IE) (C w1 Bw) a b c d e f g h i:=by kernel_rfl
abbrev pCe:=zj ai4 ai5 347 ai3
theorem ayi:C (pCe 15 []) ai6=O3:=gNC (by decide) fun _=>aye
theorem ayj{w1 w3}:C (pCe 501369 [w1,w3]) ai7=IG (C w1 Bw) (C w3 IE):=gNC (by decide) fun _=>ayf
theorem ayk{w1}:C (pCe 125342 [w1]) IE=EE (C w1 Bw):=gLC (by decide) (by kernel_rfl) (fun _=>by unfold EE;rfl) fun _ _=>ayg.trans (by rw[ayj]<;>kernel_rfl)
theorem ayl:C (pCe 122 []) Bw=O4:=gLC (by decide) (by kernel_rfl) (fun _=>by unfold O4;rfl) fun _ _=>ayh.trans (by rw[ayi,ayk]<;>kernel_rfl)
theorem Yf:ak Tryz.prog (fun _=>True) 347 ⟨ai3,Ye⟩:=zcc (env:=ai4) (d:=6) (hs:=Ev.get ai5) (aj OI (aj OL (aj X9 (aj OQ (aj OU av))))) (fun J x=>Yd (C (J 122 []) Bw) x.1 x.2.1 x.2.2.1 x.2.2.2.1 x.2.2.2.2.1) (fun _ _=>by kernel_rfl) fun _=>by rw[ayl]<;>rfl
@[reducible] def ai9:Sh:=⟨[.d fU,.d (.int .i64),.d (.int .i64),.fn (.func 353) [] []],[],eX,[.d (.bool)],[],0,[.bool]⟩
def aja:Env:=(cts [(348,(⟨OH,Bu⟩:Ct)),(349,(⟨OJ,FN⟩:Ct)),(350,(⟨EC,xB⟩:Ct)),(353,(⟨OP,JU⟩:Ct)),(354,(⟨OT,FO⟩:Ct))])
def ajb:List (Nat×Hint):=[(15,⟨[],[10]⟩),(122,⟨[],[1,2,3,9,10,19,20,21]⟩),(125342,⟨[],[1,2,3,9,10,12,14,15,19,20,21]⟩),(501369,⟨[],[1,2,3,9,10,12,14,15,19,20,21]⟩)]
def Bz(at' many left:Int)(t19:List cr)(t20 t21:Int)(met:List Bool):St:=⟨[(1,dI at'),(2,dI many),(3,.fn (.func 353) [] []),(9,.row 0),(10,dI left),(19,.d fU t19),(20,dI t20),(21,dI t21)],62,[],[(0,.row .bool 4 met)],1,[],0⟩
def ajc(left:Int):St:=⟨[(10,dI left)],62,[],[],0,[],0⟩
def II(at' many left to' i:Int)(t19:List cr)(t20 t21:Int)(met:List Bool)(x:iD):St:=⟨[(1,dI at'),(2,dI many),(3,.fn (.func 353) [] []),(9,.row 0),(10,dI left),(12,.pb 1 0),(14,dI to'),(15,dI i),(19,.d fU t19),(20,dI t20),(21,dI t21)],62,[],[(0,.row .bool 4 met),(1,.box 250 [dI x.1,dI x.2.1,dB x.2.2.1,dB x.2.2.2.1,dB x.2.2.2.2])],2,[],0⟩
def ajd(at' many left to' i:Int)(t19:List cr)(t20 t21:Int)(met:List Bool)(x:iD):St:=⟨[(1,dI at'),(2,dI many),(3,.fn (.func 353) [] []),(9,.row 0),(10,dI left),(12,.pb 1 0),(14,dI to'),(15,dI i),(19,.d fU t19),(20,dI t20),(21,dI t21)],62,[],[(0,.row .bool 4 met),(1,.box 250 [dI x.1,dI x.2.1,dB x.2.2.1,dB x.2.2.2.1,dB x.2.2.2.2])],2,[],0⟩
def O5(j2:Int->Option aE)(j3:Int->Int->Int->Int->Int->List cr->Int->Int->List Bool->iD->Option aE)(self1:zH2)(at' many left:Int)(t19:List cr)(t20 t21:Int)(met:List Bool):Option aE :=
 if lt t21 t20=true then zC (at? t19 t21) fun y=>if eqi left 0=true then j2 left else zC (xB (y,at',add .i64 at' many,())) fun y_1=>j3 at' many left y_1.2.1 y_1.1 t19 t20 t21 met y else j2 left
def as1(left:Int):Option aE :=
 some (eqi left 0,())
def O6(j4:Int->Int->Int->Int->Int->List cr->Int->Int->List Bool->iD->Option aE)(self1:zH2)(self3:Int->Int->Int->Int->Int->List cr->Int->Int->List Bool->iD->Option aE)(at' many left to' i:Int)(t19:List cr)(t20 t21:Int)(met:List Bool)(x:iD):Option aE :=
 if lt i to'=true then zC (at? met (Sx.sub .i64 i at')) fun x_1=>zC (at? met (Sx.sub .i64 i at')) fun y=>if y=true then j4 at' many left to' i t19 t20 t21 met x else zC (JU (x,())) fun y=>if (!y.1)=true then some (false,()) else zC (at? met (Sx.sub .i64 i at')) fun x_2=>zC (at? met (Sx.sub .i64 i at')) fun x_3=>j4 at' many (Sx.sub .i64 left 1) to' i t19 t20 t21 (List.set met (zI (Sx.sub .i64 i at')) true) x else self1 at' many left t19 t20 (add .i64 t21 1) met
def aje(self1:zH2)(self3:Int->Int->Int->Int->Int->List cr->Int->Int->List Bool->iD->Option aE)(at' many left to' i:Int)(t19:List cr)(t20 t21:Int)(met:List Bool)(x:iD):Option aE :=
 self3 at' many left to' (add .i64 i 1) t19 t20 t21 met x
def Yg(j1:zH2)(areas:List cr)(at' many:Int):Option aE :=
 need (ge many 0) (need (Ev.jC many many) (need (small (zI many)) (j1 at' many many areas (zF (zG areas)) 0 (zE (zI many) false))))
def O7:=as1
def IJ(u1:zH2)(u3:Int->Int->Int->Int->Int->List cr->Int->Int->List Bool->iD->Option aE):=aje u1 u3
def EF(u1:zH2)(at' many left to' i:Int)(t19:List cr)(t20 t21:Int)(met:List Bool)(x:iD):Option aE :=
 cu (fun self s=>O6 (IJ u1 (fun at' many left to' i t19 t20 t21 met x=>self (at',many,left,to',i,t19,t20,t21,met,x))) u1 (fun at' many left to' i t19 t20 t21 met x=>self (at',many,left,to',i,t19,t20,t21,met,x)) s.1 s.2.1 s.2.2.1 s.2.2.2.1 s.2.2.2.2.1 s.2.2.2.2.2.1 s.2.2.2.2.2.2.1 s.2.2.2.2.2.2.2.1 s.2.2.2.2.2.2.2.2.1 s.2.2.2.2.2.2.2.2.2) 18446744073709551616 (at',many,left,to',i,t19,t20,t21,met,x)
def O8(at' many left:Int)(t19:List cr)(t20 t21:Int)(met:List Bool):Option aE :=
 cu (fun self s=>O5 (O7) (EF (fun at' many left t19 t20 t21 met=>self (at',many,left,t19,t20,t21,met))) (fun at' many left t19 t20 t21 met=>self (at',many,left,t19,t20,t21,met)) s.1 s.2.1 s.2.2.1 s.2.2.2.1 s.2.2.2.2.1 s.2.2.2.2.2.1 s.2.2.2.2.2.2) 18446744073709551616 (at',many,left,t19,t20,t21,met)
def Yh(x:As eX):Option aE:=Yg O8 x.1 x.2.1 x.2.2.1
abbrev pCh:=zp aja ajb 347 ai9
theorem aym{J a}:pCh J 15 [] (ajc a)=as1 a:=by kernel_rfl
theorem ayn{J w1 w3 a b c d e f g h i j}:pCh J 501369 [w1,w3] (ajd a b c d e f g h i j)=aje (C w1 Bz) (C w3 II) a b c d e f g h i j:=by kernel_rfl
theorem ayo{J w1 w3 a b c d e f g h i j}:pCh J 125342 [w1,w3] (II a b c d e f g h i j)=O6 (C (J 501369 [w1,w3]) ajd) (C w1 Bz) (C w3 II) a b c d e f g h i j:=by kernel_rfl
theorem ayp{J w1 a b c d e f g}:pCh J 122 [w1] (Bz a b c d e f g)=O5 (C (J 15 []) ajc) (C (J 125342 [w1]) II) (C w1 Bz) a b c d e f g:=by kernel_rfl
abbrev pCg:=zj aja ajb 347 ai9
theorem ayq:C (pCg 15 []) ajc=O7:=gNC (by decide) fun _=>aym
theorem ayr{w1 w3}:C (pCg 501369 [w1,w3]) ajd=IJ (C w1 Bz) (C w3 II):=gNC (by decide) fun _=>ayn
theorem ays{w1}:C (pCg 125342 [w1]) II=EF (C w1 Bz):=gLC (by decide) (by kernel_rfl) (fun _=>by unfold EF;rfl) fun _ _=>ayo.trans (by rw[ayr]<;>kernel_rfl)
theorem ayt:C (pCg 122 []) Bz=O8:=gLC (by decide) (by kernel_rfl) (fun _=>by unfold O8;rfl) fun _ _=>ayp.trans (by rw[ayq,ays]<;>kernel_rfl)
theorem Yi:ak Tryz.prog (fun _=>True) 347 ⟨ai9,Yh⟩:=zcc (env:=aja) (d:=6) (hs:=Ev.get ajb) (aj OI (aj OL (aj X9 (aj OQ (aj OU av))))) (fun J x=>Yg (C (J 122 []) Bz) x.1 x.2.1 x.2.2.1) (fun _ _=>by kernel_rfl) fun _=>by rw[ayt]<;>rfl
@[reducible] def ajf:Sh:=⟨[.d fU,.d (.int .i64),.d (.int .i64),.fn (.func 354) [] [.pb 0 0,.pb 1 0]],[.box 3 [.d (.int .i64)],.box 3 [.d (.int .i64)]],dJ,[.d (.bool)],[(0,.box 3 [.d (.int .i64)]),(1,.box 3 [.d (.int .i64)])],0,aO⟩
def ajg:Env:=(cts [(348,(⟨OH,Bu⟩:Ct)),(349,(⟨OJ,FN⟩:Ct)),(350,(⟨EC,xB⟩:Ct)),(353,(⟨OP,JU⟩:Ct)),(354,(⟨OT,FO⟩:Ct))])
def ajh:List (Nat×Hint):=[(15,⟨[],[10]⟩),(122,⟨[],[1,2,3,9,10,19,20,21]⟩),(125342,⟨[],[1,2,3,9,10,12,14,15,19,20,21]⟩),(501369,⟨[],[1,2,3,9,10,12,14,15,19,20,21]⟩)]
def BA(at' many left:Int)(t19:List cr)(t20 t21 o o_2:Int)(met:List Bool):St:=⟨[(1,dI at'),(2,dI many),(3,.fn (.func 354) [] [.pb 0 0,.pb 1 0]),(9,.row 2),(10,dI left),(19,.d fU t19),(20,dI t20),(21,dI t21)],62,[],[(0,.box 3 [dI o]),(1,.box 3 [dI o_2]),(2,.row .bool 4 met)],3,[],2⟩
def aji(left o o_2:Int):St:=⟨[(10,dI left)],62,[],[(0,.box 3 [dI o]),(1,.box 3 [dI o_2])],2,[],2⟩
def IK(at' many left to' i:Int)(t19:List cr)(t20 t21 o o_2:Int)(met:List Bool)(x:iD):St:=⟨[(1,dI at'),(2,dI many),(3,.fn (.func 354) [] [.pb 0 0,.pb 1 0]),(9,.row 2),(10,dI left),(12,.pb 3 0),(14,dI to'),(15,dI i),(19,.d fU t19),(20,dI t20),(21,dI t21)],62,[],[(0,.box 3 [dI o]),(1,.box 3 [dI o_2]),(2,.row .bool 4 met),(3,.box 250 [dI x.1,dI x.2.1,dB x.2.2.1,dB x.2.2.2.1,dB x.2.2.2.2])],4,[],2⟩
def ajj(at' many left to' i:Int)(t19:List cr)(t20 t21 o o_2:Int)(met:List Bool)(x:iD):St:=⟨[(1,dI at'),(2,dI many),(3,.fn (.func 354) [] [.pb 0 0,.pb 1 0]),(9,.row 2),(10,dI left),(12,.pb 3 0),(14,dI to'),(15,dI i),(19,.d fU t19),(20,dI t20),(21,dI t21)],62,[],[(0,.box 3 [dI o]),(1,.box 3 [dI o_2]),(2,.row .bool 4 met),(3,.box 250 [dI x.1,dI x.2.1,dB x.2.2.1,dB x.2.2.2.1,dB x.2.2.2.2])],4,[],2⟩
def O9(j2:zH3)(j3:Int->Int->Int->Int->Int->List cr->Int->Int->Int->Int->List Bool->iD->Option aM)(self1:zH4)(at' many left:Int)(t19:List cr)(t20 t21 o o_2:Int)(met:List Bool):Option aM :=
 if lt t21 t20=true then zC (at? t19 t21) fun y=>if eqi left 0=true then j2 left o o_2 else zC (xB (y,at',add .i64 at' many,())) fun y_1=>j3 at' many left y_1.2.1 y_1.1 t19 t20 t21 o o_2 met y else j2 left o o_2
def as2(left o o_2:Int):Option aM :=
 some (eqi left 0,o,o_2,())
def Pb(j4:Int->Int->Int->Int->Int->List cr->Int->Int->Int->Int->List Bool->iD->Option aM)(self1:zH4)(self3:Int->Int->Int->Int->Int->List cr->Int->Int->Int->Int->List Bool->iD->Option aM)(at' many left to' i:Int)(t19:List cr)(t20 t21 o o_2:Int)(met:List Bool)(x:iD):Option aM :=
 if lt i to'=true then zC (at? met (Sx.sub .i64 i at')) fun x_1=>zC (at? met (Sx.sub .i64 i at')) fun y=>if y=true then j4 at' many left to' i t19 t20 t21 o o_2 met x else zC (FO (x,o,o_2,())) fun y=>if (!y.1)=true then some (false,y.2.1,y.2.2.1,()) else zC (at? met (Sx.sub .i64 i at')) fun x_2=>zC (at? met (Sx.sub .i64 i at')) fun x_3=>j4 at' many (Sx.sub .i64 left 1) to' i t19 t20 t21 y.2.1 y.2.2.1 (List.set met (zI (Sx.sub .i64 i at')) true) x else self1 at' many left t19 t20 (add .i64 t21 1) o o_2 met
def ajk(self1:zH4)(self3:Int->Int->Int->Int->Int->List cr->Int->Int->Int->Int->List Bool->iD->Option aM)(at' many left to' i:Int)(t19:List cr)(t20 t21 o o_2:Int)(met:List Bool)(x:iD):Option aM :=
 self3 at' many left to' (add .i64 i 1) t19 t20 t21 o o_2 met x
def Yj(j1:zH4)(areas:List cr)(at' many wanted areas_2:Int):Option aM :=
 need (ge many 0) (need (Ev.jC many many) (need (small (zI many)) (j1 at' many many areas (zF (zG areas)) 0 wanted areas_2 (zE (zI many) false))))
def Pd:=as2
def IL(u1:zH4)(u3:Int->Int->Int->Int->Int->List cr->Int->Int->Int->Int->List Bool->iD->Option aM):=ajk u1 u3
def EG(u1:zH4)(at' many left to' i:Int)(t19:List cr)(t20 t21 o o_2:Int)(met:List Bool)(x:iD):Option aM :=
 cu (fun self s=>Pb (IL u1 (fun at' many left to' i t19 t20 t21 o o_2 met x=>self (at',many,left,to',i,t19,t20,t21,o,o_2,met,x))) u1 (fun at' many left to' i t19 t20 t21 o o_2 met x=>self (at',many,left,to',i,t19,t20,t21,o,o_2,met,x)) s.1 s.2.1 s.2.2.1 s.2.2.2.1 s.2.2.2.2.1 s.2.2.2.2.2.1 s.2.2.2.2.2.2.1 s.2.2.2.2.2.2.2.1 s.2.2.2.2.2.2.2.2.1 s.2.2.2.2.2.2.2.2.2.1 s.2.2.2.2.2.2.2.2.2.2.1 s.2.2.2.2.2.2.2.2.2.2.2) 18446744073709551616 (at',many,left,to',i,t19,t20,t21,o,o_2,met,x)
def Pe(at' many left:Int)(t19:List cr)(t20 t21 o o_2:Int)(met:List Bool):Option aM :=
 cu (fun self s=>O9 (Pd) (EG (fun at' many left t19 t20 t21 o o_2 met=>self (at',many,left,t19,t20,t21,o,o_2,met))) (fun at' many left t19 t20 t21 o o_2 met=>self (at',many,left,t19,t20,t21,o,o_2,met)) s.1 s.2.1 s.2.2.1 s.2.2.2.1 s.2.2.2.2.1 s.2.2.2.2.2.1 s.2.2.2.2.2.2.1 s.2.2.2.2.2.2.2.1 s.2.2.2.2.2.2.2.2) 18446744073709551616 (at',many,left,t19,t20,t21,o,o_2,met)
def Yk(x:As dJ):Option aM:=Yj Pe x.1 x.2.1 x.2.2.1 x.2.2.2.1 x.2.2.2.2.1
abbrev pCj:=zp ajg ajh 347 ajf
theorem ayu{J a b c}:pCj J 15 [] (aji a b c)=as2 a b c:=by kernel_rfl
theorem ayv{J w1 w3 a b c d e f g h i j k l}:pCj J 501369 [w1,w3] (ajj a b c d e f g h i j k l)=ajk (C w1 BA) (C w3 IK) a b c d e f g h i j k l:=by kernel_rfl
theorem ayw{J w1 w3 a b c d e f g h i j k l}:pCj J 125342 [w1,w3] (IK a b c d e f g h i j k l)=Pb (C (J 501369 [w1,w3]) ajj) (C w1 BA) (C w3 IK) a b c d e f g h i j k l:=by kernel_rfl
theorem ayx{J w1 a b c d e f g h i}:pCj J 122 [w1] (BA a b c d e f g h i)=O9 (C (J 15 []) aji) (C (J 125342 [w1]) IK) (C w1 BA) a b c d e f g h i:=by kernel_rfl
abbrev pCi:=zj ajg ajh 347 ajf
theorem ayy:C (pCi 15 []) aji=Pd:=gNC (by decide) fun _=>ayu
theorem ayz{w1 w3}:C (pCi 501369 [w1,w3]) ajj=IL (C w1 BA) (C w3 IK):=gNC (by decide) fun _=>ayv
theorem ayA{w1}:C (pCi 125342 [w1]) IK=EG (C w1 BA):=gLC (by decide) (by kernel_rfl) (fun _=>by unfold EG;rfl) fun _ _=>ayw.trans (by rw[ayz]<;>kernel_rfl)
theorem ayB:C (pCi 122 []) BA=Pe:=gLC (by decide) (by kernel_rfl) (fun _=>by unfold Pe;rfl) fun _ _=>ayx.trans (by rw[ayy,ayA]<;>kernel_rfl)
theorem Yl:ak Tryz.prog (fun _=>True) 347 ⟨ajf,Yk⟩:=zcc (env:=ajg) (d:=6) (hs:=Ev.get ajh) (aj OI (aj OL (aj X9 (aj OQ (aj OU av))))) (fun J x=>Yj (C (J 122 []) BA) x.1 x.2.1 x.2.2.1 x.2.2.2.1 x.2.2.2.2.1) (fun _ _=>by kernel_rfl) fun _=>by rw[ayB]<;>rfl
@[reducible] def dU:List Ty:=[.pr fU (.sl .bool),.int .i64,.int .i64]
@[reducible] def as3:Sh:=⟨[.d bL,.d (.int .i64),.d (.int .i64)],[],dU,[.d (.bool)],[],0,[.bool]⟩
def aDH(t:List cr×List Bool)(at' many:Int):Option aE :=
 zC (Yb (t.1,at',many,())) fun y=>some (y.1,())
def EH(x:As dU):Option aE:=aDH x.1 x.2.1 x.2.2.1
theorem aDI:ak Tryz.prog (fun _=>True) 345 ⟨as3,EH⟩:=ctn (aj Yc (aj Yf (aj Yi (aj Yl (aj OI av))))) 6 fun J x=>by kernel_rfl
@[reducible] def as4:Sh:=⟨[.d bL,.d (.int .i64),.d (.int .i64)],[],dU,[.d (.bool)],[],0,[.bool]⟩
def aDJ(t:List cr×List Bool)(at' many:Int):Option aE :=
 zC (Ye (t.1,at',many,at',many,())) fun y=>some (y.1,())
def EI(x:As dU):Option aE:=aDJ x.1 x.2.1 x.2.2.1
theorem aDK:ak Tryz.prog (fun _=>True) 346 ⟨as4,EI⟩:=ctn (aj Yc (aj Yf (aj Yi (aj Yl (aj OL av))))) 6 fun J x=>by kernel_rfl
@[reducible] def eJ:List Ty:=[.pr fU aB,.int .i64,.int .i64]
@[reducible] def as5:Sh:=⟨[.d cJ,.d (.int .i64),.d (.int .i64)],[],eJ,[.d (.bool)],[],0,[.bool]⟩
def aDL(t:List cr×List Int)(at' many:Int):Option aE :=
 zC (Yh (t.1,at',many,())) fun y=>some (y.1,())
def BD(x:As eJ):Option aE:=aDL x.1 x.2.1 x.2.2.1
theorem aDM:ak Tryz.prog (fun _=>True) 351 ⟨as5,BD⟩:=ctn (aj Yc (aj Yf (aj Yi (aj Yl (aj OQ av))))) 6 fun J x=>by kernel_rfl
@[reducible] def as6:Sh:=⟨[.d cJ,.d (.int .i64),.d (.int .i64)],[],eJ,[.d (.bool)],[],0,[.bool]⟩
def aDN(t:List cr×List Int)(at' many:Int):Option aE :=
 zC (Yk (t.1,at',many,at',many,())) fun y=>some (y.1,())
def FP(x:As eJ):Option aE:=aDN x.1 x.2.1 x.2.2.1
theorem aDO:ak Tryz.prog (fun _=>True) 352 ⟨as6,FP⟩:=ctn (aj Yc (aj Yf (aj Yi (aj Yl (aj OU av))))) 6 fun J x=>by kernel_rfl
@[reducible] def Pf:Sh:=⟨[.d (.pr fU aZ),.d bA],[],[.pr fU aZ,.pr (.int .u8) kF],[.d (.int .u8)],[],0,[.int .u8]⟩
def ajl:Env:=(cts [(105,(⟨Ee,vg⟩:Ct)),(221,(⟨aoW,Iy⟩:Ct)),(222,(⟨aiK,Iz⟩:Ct)),(224,(⟨aiM,EB⟩:Ct)),(345,(⟨as3,EH⟩:Ct)),(346,(⟨as4,EI⟩:Ct)),(351,(⟨as5,BD⟩:Ct)),(352,(⟨as6,FP⟩:Ct))])
def ajm:List (Nat×Hint):=[(509,⟨[],[60]⟩),(125,⟨[],[3,5,6,40,55,56,57,58,59]⟩)]
@[reducible] def eM:Type:=List cr×List Bool
@[reducible] def zH5:Type:=eM×eM×(List cr×List Int)×List cr×List Int
def ajn(t40:Bool)(a:zH1)(v:zH5)(u:Int×Int):St:=⟨[(3,.pb 0 0),(5,.pb 1 0),(6,.pb 2 0),(40,dB t40)],61,[],[(0,.box 27 [d8 a.1,d6 a.2.1,d6 a.2.2.1,d6 a.2.2.2.1,dW a.2.2.2.2.1,.d (.sl .bool) a.2.2.2.2.2]),(1,.box 275 [.d fU v.1.1,.d (.sl .bool) v.1.2,.d fU v.2.1.1,.d (.sl .bool) v.2.1.2,.d fU v.2.2.1.1,dW v.2.2.1.2,.d fU v.2.2.2.1,dW v.2.2.2.2]),(2,.box 279 [dI u.1,dI u.2])],3,[],0⟩
def ajo(t60:Bool):St:=⟨[(60,dB t60)],61,[],[],0,[],0⟩
def aoZ(j2:Bool->Option (As [.int .u8]))(t40:Bool)(a:zH1)(v:zH5)(u:Int×Int):Option (As [.int .u8]) :=
 if t40=true then some (2,()) else zC (EB (a,())) fun y=>if eqi u.2 1=true then zC (EI (v.1,y.1,y.2.1,())) fun y=>j2 !y.1 else if eqi u.2 2=true then zC (EI (v.2.1,y.1,y.2.1,())) fun y=>j2 !y.1 else if eqi u.2 3=true then zC (FP (v.2.2.1,y.1,y.2.1,())) fun y=>j2 !y.1 else if eqi u.2 4=true then zC (FP (v.2.2.2,y.1,y.2.1,())) fun y=>j2 !y.1 else j2 false
def ao0(t60:Bool):Option (As [.int .u8]) :=
 if t60=true then some (2,()) else some (0,())
def Ym(j1:Bool->Int×Int×Int×Int×List Int×List Bool->eM×eM×(List cr×List Int)×List cr×List Int->Int×Int->Option (As [.int .u8]))(s:List cr×List cr×List cr×List cr)(a:zH1):Option (As [.int .u8]) :=
 zC (vg (a,())) fun y=>if (!y.1)=true then some (3,()) else zC (Iy (s,([],[],[],[]),())) fun y=>zC (Iz (a.1,())) fun y_1=>if eqi y_1.1.1 1=true then zC (EH (y.1.1,cvt .i64 a.2.1,cvt .i64 a.2.2.1,())) fun y_2=>j1 (!y_2.1) a y.1 y_1.1 else if eqi y_1.1.1 2=true then zC (EH (y.1.2.1,cvt .i64 a.2.1,cvt .i64 a.2.2.1,())) fun y_2=>j1 (!y_2.1) a y.1 y_1.1 else if eqi y_1.1.1 3=true then zC (BD (y.1.2.2.1,cvt .i64 a.2.1,cvt .i64 a.2.2.1,())) fun y_2=>j1 (!y_2.1) a y.1 y_1.1 else if eqi y_1.1.1 4=true then zC (BD (y.1.2.2.2,cvt .i64 a.2.1,cvt .i64 a.2.2.1,())) fun y_2=>j1 (!y_2.1) a y.1 y_1.1 else j1 false a y.1 y_1.1
def BF:=ao0
def nX:=aoZ (BF)
def EJ(x:As [.pr fU aZ,.pr (.int .u8) kF]):Option (As [.int .u8]):=Ym nX x.1 x.2.1
abbrev pB9:=zp ajl ajm 164 Pf
theorem ayC{J a}:pB9 J 509 [] (ajo a)=ao0 a:=by kernel_rfl
theorem ayD{J a b c d}:pB9 J 125 [] (ajn a b c d)=aoZ (C (J 509 []) ajo) a b c d:=by kernel_rfl
abbrev pB8:=zj ajl ajm 164 Pf
theorem ayE:C (pB8 509 []) ajo=BF:=gNC (by decide) fun _=>ayC
theorem ayF:C (pB8 125 []) ajn=nX:=gNC (by decide) fun _=>ayD.trans (by rw[ayE]<;>kernel_rfl)
theorem ao1:ak Tryz.prog (fun _=>True) 164 ⟨Pf,EJ⟩:=zcc (env:=ajl) (d:=6) (hs:=Ev.get ajm) (aj Nf (aj aoX (aj aoY (aj asY (aj aDI (aj aDK (aj aDM (aj aDO av)))))))) (fun J x=>Ym (C (J 125 []) ajn) x.1 x.2.1) (fun _ _=>by kernel_rfl) fun _=>by rw[ayF]<;>rfl
@[reducible] def eL:List Ty:=[.pr fU aZ]
@[reducible] def Pg:Sh:=⟨[],[],[],[.d (.pr fU aZ)],[],0,eL⟩
def ajp:Env:=(cts [])
def ajq:List (Nat×Hint):=[(7,⟨[],[0,1]⟩),(58,⟨[],[0,1,8]⟩)]
def Yn(t8:Int)(words:List cr):St:=⟨[(0,.pb 0 0),(1,.row 1),(8,dI t8)],27,[],[(0,.box 189 [.k (zK zH 0 0),.k (zK zH 0 0),.k (zK zH 0 0),.k (zK zH 0 0)]),(1,.row bQ 250 words)],2,[],0⟩
def ajr(words:List cr):St:=⟨[(0,.pb 0 0),(1,.row 1)],27,[],[(0,.box 189 [.k (zK zH 0 0),.k (zK zH 0 0),.k (zK zH 0 0),.k (zK zH 0 0)]),(1,.row bQ 250 words)],2,[],0⟩
@[reducible] def dX:Type:=As eL
@[reducible] def zH6:Type:=Int->List cr->Option dX
def ao2(j2:List cr->Option dX)(self1:zH6)(t8:Int)(words:List cr):Option dX :=
 if lt t8 8=true then need (small (zG words+Nat.succ 0)) (self1 (add .i64 t8 1) (words++[(add .i64 512 (mul .i64 t8 32),20,true,false,false)])) else j2 words
def ao3(words:List cr):Option dX :=
 some (([(0,16,true,true,false)],[(0,8,true,false,false)],words,[(0,8,true,false,false)]),())
def ao4(j1:zH6):Option dX :=
 j1 0 [(0,64,true,false,false),(256,8,true,false,false),(272,8,false,true,true),(288,20,false,true,true)]
def ao5:=ao3
def ajs(t8:Int)(words:List cr):Option dX :=
 cu (fun self s=>ao2 (ao5) (fun t8 words=>self (t8,words)) s.1 s.2) 18446744073709551616 (t8,words)
def vB(x:As []):Option dX:=ao4 ajs
abbrev pDd:=zp ajp ajq 165 Pg
theorem ayG{J a}:pDd J 7 [] (ajr a)=ao3 a:=by kernel_rfl
theorem ayH{J w1 a b}:pDd J 58 [w1] (Yn a b)=ao2 (C (J 7 []) ajr) (C w1 Yn) a b:=by kernel_rfl
abbrev pDc:=zj ajp ajq 165 Pg
theorem ayI:C (pDc 7 []) ajr=ao5:=gNC (by decide) fun _=>ayG
theorem ayJ:C (pDc 58 []) Yn=ajs:=gLC (by decide) (by kernel_rfl) (fun _=>by unfold ajs;rfl) fun _ _=>ayH.trans (by rw[ayI]<;>kernel_rfl)
theorem ao6:ak Tryz.prog (fun _=>True) 165 ⟨Pg,vB⟩:=zcc (env:=ajp) (d:=6) (hs:=Ev.get ajq) av (fun J x=>ao4 (C (J 58 []) Yn)) (fun _ _=>by kernel_rfl) fun _=>by rw[ayJ]<;>rfl
@[reducible] def bX:List Ty:=[.pr (.sl .bool) C6]
@[reducible] def bV:Type:=As bX
def ayK(m:List Bool×List Bool×List Int×List Int):Option bV :=
 zC (A9 (m.1,())) fun y=>zC (A9 (m.2.1,())) fun y_1=>zC (mZ (m.2.2.1,())) fun y_2=>zC (mZ (m.2.2.2,())) fun y_3=>some ((y.1,y_1.1,y_2.1,y_3.1),())
def aEn(x:As bX):Option bV:=ayK x.1
end Go.Proofs.Lx
end
