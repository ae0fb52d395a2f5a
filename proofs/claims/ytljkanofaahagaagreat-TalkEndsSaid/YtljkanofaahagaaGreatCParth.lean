/- Proved in the last of these 15 parts (this is part 8): TalkEnds. Conditions: those of the given statement, and no others. -/
import Derived.Test.YtljkanofaahagaaGreatCPartd
import Derived.Test.YtljkanofaahagaaGreatCPartg
import Derived.Test.YtljkanofaahagaaGreatProg
import Derived.Test.YtljkanofaahagaaGreatCParte
set_option linter.unusedVariables false
set_option linter.unusedSimpArgs false
set_option linter.unusedSectionVars false
open Option renaming bind → zC, none → zH
open List renaming replicate → zE, length → zG, getD → zJ
open Int renaming ofNat → zF, toNat → zI
open Go.Value renaming slice → zK
noncomputable section
open Go Go.Proofs Ev Sx
set_option maxRecDepth 100000
namespace Go.Proofs.Lx
abbrev gD:Type:=Int×Int×Bool×Bool×Bool
@[reducible] def aR:List Ty:=[.int .u8,.int .u8,.sl (.int .u16),.int .u16,.int .i64,.int .u8,.int .u32,.int .u32,.int .u32,.bool,.bool,.bool,.bool,.bool,.bool,.bool,.bool,.int .i64,.sl (.int .u16),.int .i64,.sl (.int .u16),.int .i64,.sl (.int .u16),.int .i64,.sl (.int .u16),.int .i64,.sl (.int .u16),.int .i64,.sl (.int .u16),.int .i64,.sl (.int .u16),.int .i64,.sl (.int .u16),.int .i64,.sl .bool]
@[reducible] def au2:Sh:=⟨[.d bB],[],cJ,[.agg [.d (.int .u8),.d (.int .u8),.d aC,.d (.int .u16),.d (.int .i64),.d (.int .u8),.d (.int .u32),.d (.int .u32),.d (.int .u32),.d (.bool),.d (.bool),.d (.bool),.d (.bool),.d (.bool),.d (.bool),.d (.bool),.d (.bool),.d (.int .i64),.d aC,.d (.int .i64),.d aC,.d (.int .i64),.d aC,.d (.int .i64),.d aC,.d (.int .i64),.d aC,.d (.int .i64),.d aC,.d (.int .i64),.d aC,.d (.int .i64),.d aC,.d (.int .i64),.row 0]],[(0,.row .bool 4)],1,aR⟩
def au3:Env:=(cts [(1000045,Ev.gu),(1000226,Ev.gu),(45,(⟨FP,lW⟩:Ct)),(113,(⟨Td,C4⟩:Ct))])
def agW(s:Int×Int×jq×List Bool):Option (As aR) :=
 zC (C4 (s.2.2.2,())) fun y=>zC (lW (s.2.2.1.1,())) fun y_1=>zC (lW ((zJ s.2.2.1.2.2.2.2.2.1.2.2 0 (0,[])).2,())) fun y_2=>zC (lW ((zJ s.2.2.1.2.2.2.2.2.1.2.2 1 (0,[])).2,())) fun y_3=>zC (lW ((zJ s.2.2.1.2.2.2.2.2.1.2.2 2 (0,[])).2,())) fun y_4=>zC (lW ((zJ s.2.2.1.2.2.2.2.2.1.2.2 3 (0,[])).2,())) fun y_5=>zC (lW ((zJ s.2.2.1.2.2.2.2.2.1.2.2 4 (0,[])).2,())) fun y_6=>zC (lW ((zJ s.2.2.1.2.2.2.2.2.1.2.2 5 (0,[])).2,())) fun y_7=>zC (lW ((zJ s.2.2.1.2.2.2.2.2.1.2.2 6 (0,[])).2,())) fun y_8=>zC (lW ((zJ s.2.2.1.2.2.2.2.2.1.2.2 7 (0,[])).2,())) fun y_9=>some (s.1,s.2.1,y_1.1,s.2.2.1.2.1.1,s.2.2.1.2.1.2,s.2.2.1.2.2.1,s.2.2.1.2.2.2.1,s.2.2.1.2.2.2.2.1,s.2.2.1.2.2.2.2.2.1.1,zJ s.2.2.1.2.2.2.2.2.1.2.1 0 false,zJ s.2.2.1.2.2.2.2.2.1.2.1 1 false,zJ s.2.2.1.2.2.2.2.2.1.2.1 2 false,zJ s.2.2.1.2.2.2.2.2.1.2.1 3 false,zJ s.2.2.1.2.2.2.2.2.1.2.1 4 false,zJ s.2.2.1.2.2.2.2.2.1.2.1 5 false,zJ s.2.2.1.2.2.2.2.2.1.2.1 6 false,zJ s.2.2.1.2.2.2.2.2.1.2.1 7 false,(zJ s.2.2.1.2.2.2.2.2.1.2.2 0 (0,[])).1,y_2.1,(zJ s.2.2.1.2.2.2.2.2.1.2.2 1 (0,[])).1,y_3.1,(zJ s.2.2.1.2.2.2.2.2.1.2.2 2 (0,[])).1,y_4.1,(zJ s.2.2.1.2.2.2.2.2.1.2.2 3 (0,[])).1,y_5.1,(zJ s.2.2.1.2.2.2.2.2.1.2.2 4 (0,[])).1,y_6.1,(zJ s.2.2.1.2.2.2.2.2.1.2.2 5 (0,[])).1,y_7.1,(zJ s.2.2.1.2.2.2.2.2.1.2.2 6 (0,[])).1,y_8.1,(zJ s.2.2.1.2.2.2.2.2.1.2.2 7 (0,[])).1,y_9.1,s.2.2.1.2.2.2.2.2.2,y.1,())
def agX(x:As cJ):Option (As aR):=agW x.1
theorem au4:ak Tryz.prog (fun _=>True) 99 ⟨au2,agX⟩:=ctn (env:=au3) (aj Ev.fF (aj Ev.fF (aj zy (aj apo av)))) 6 fun J x=>by kernel_rfl
@[reducible] def Nf:Sh:=⟨[.d aJ],[],aI,[.d aC],[],0,aK⟩
def agY:Env:=(cts [])
def agZ:List (Nat×Hint):=[(58,⟨[],[0,3,10,11]⟩)]
def V2(b:List Int)(t10 t11:Int)(l:List Int):St:=⟨[(0,dL b),(3,.row 0),(10,dI t10),(11,dI t11)],34,[],[(0,.row (.int .u16) 25 l)],1,[],0⟩
@[reducible] def zH0:Type:=List Int->Int->Int->List Int->Option bK
def Ng(self1:zH0)(b:List Int)(t10 t11:Int)(l:List Int):Option bK :=
 if lt t11 t10=true then zC (at? b (mul .i64 2 t11)) fun y=>zC (at? b (add .i64 (mul .i64 2 t11) 1)) fun y_1=>zC (at? l t11) fun x=>zC (at? l t11) fun x=>self1 b t10 (add .i64 t11 1) (List.set l (zI t11) (Sx.bor .u16 (Sx.shl .u16 (cvt .u16 y) 8) (cvt .u16 y_1))) else some (l,())
def V3(j1:zH0)(b:List Int):Option bK :=
 need (ge (quo .i64 (zF (zG b)) 2) 0) (need (Ev.iX (quo .i64 (zF (zG b)) 2) (quo .i64 (zF (zG b)) 2)) (need (small (zI (quo .i64 (zF (zG b)) 2))) (j1 b (zF (zG (zE (α:=Int) (zI (quo .i64 (zF (zG b)) 2)) 0))) 0 (zE (zI (quo .i64 (zF (zG b)) 2)) 0))))
def Nh(b:List Int)(t10 t11:Int)(l:List Int):Option bK :=
 bu (fun self s=>Ng (fun b t10 t11 l=>self (b,t10,t11,l)) s.1 s.2.1 s.2.2.1 s.2.2.2) 18446744073709551616 (b,t10,t11,l)
def vQ(x:As aI):Option bK:=V3 Nh x.1
abbrev pAx:=zp agY agZ 272 Nf
theorem au5{J w1 a b c d}:pAx J 58 [w1] (V2 a b c d)=Ng (C w1 V2) a b c d:=by kernel_rfl
abbrev pAw:=zj agY agZ 272 Nf
theorem au6:C (pAw 58 []) V2=Nh:=gLC (by decide) (by kernel_rfl) (fun _=>by unfold Nh;rfl) fun _ _=>au5.trans (by kernel_rfl)
theorem ams:ak Tryz.prog (fun _=>True) 272 ⟨Nf,vQ⟩:=zcc (env:=agY) (d:=6) (hs:=Ev.get agZ) av (fun J x=>V3 (C (J 58 []) V2) x.1) (fun _ _=>by kernel_rfl) fun _=>by rw[au6]<;>rfl
@[reducible] def bN:List Ty:=[.pr (.int .u8) jH,.bool]
@[reducible] def V4:Sh:=⟨[.d bA,.d (.pr (.int .i64) sD),.d aJ],[],[.pr (.int .u8) jH,.pr (.int .i64) sD,.sl (.int .u8)],[.d bA,.d (.bool)],[],0,bN⟩
def ag0:Env:=(cts [(272,(⟨Nf,vQ⟩:Ct)),(288,(⟨Vf,Gs⟩:Ct))])
def ag1:List (Nat×Hint):=[(15,⟨[.frb 3,.frb 6],[3,6]⟩)]
def ag2(a a_2 a_3 a_4:Int)(a_5:List Int)(a_6:List Bool)(t6 t6_2 t6_3 t6_4:Int)(t6_5:List Int)(t6_6:List Bool):St:=⟨[(3,.pb 0 0),(6,.pb 1 0)],63,[],[(0,.box 27 [d8 a,d6 a_2,d6 a_3,d6 a_4,dW a_5,.d (.sl .bool) a_6]),(1,.box 27 [d8 t6,d6 t6_2,d6 t6_3,d6 t6_4,dW t6_5,.d (.sl .bool) t6_6])],2,[],0⟩
@[reducible] def bM:Type:=As bN
def amt(a a_2 a_3 a_4:Int)(a_5:List Int)(a_6:List Bool)(t6 t6_2 t6_3 t6_4:Int)(t6_5:List Int)(t6_6:List Bool):Option bM :=
 some ((a,a_2,a_3,a_4,a_5,a_6),true,())
@[reducible] def zH1:Type:=Int×Int×Int×Int×List Int×List Bool
def V5(j1:Int->Int->Int->Int->List Int->List Bool->Int->Int->Int->Int->List Int->List Bool->Option bM)(a:zH1)(s:Int×Int×Int×Bool×Bool)(rest:List Int):Option bM :=
 if eqi (add .i64 s.2.1 s.2.2.1) 0=true then some (a,true,()) else if lt (zF (zG rest)) 2=true then some ((0,0,0,0,[],[]),false,()) else if eqi a.1 5=true then zC (at? rest 0) fun y=>j1 a.1 a.2.1 a.2.2.1 a.2.2.2.1 a.2.2.2.2.1 [nei y 0] 0 0 0 0 [] [] else if eqi a.1 6=true then zC (vQ (rest,())) fun y=>j1 a.1 a.2.1 a.2.2.1 a.2.2.2.1 y.1 a.2.2.2.2.2 0 0 0 0 [] [] else if gt s.2.1 0=true then zC (cut rest 1 (zF (zG rest))) fun y=>zC (Gs (y,())) fun y=>if lt (zF (zG y.1)) (cvt .i64 a.2.2.1)=true then some ((0,0,0,0,[],[]),false,()) else zC (cut y.1 0 a.2.2.1) fun y_1=>need (le a.2.2.1 a.2.2.1) (need (le a.2.2.1 (zF (zG y.1))) (j1 a.1 a.2.1 a.2.2.1 a.2.2.2.1 a.2.2.2.2.1 y_1 0 0 0 0 [] [])) else zC (cut rest 1 (zF (zG rest))) fun y=>zC (vQ (y,())) fun y=>j1 a.1 a.2.1 a.2.2.1 a.2.2.2.1 y.1 a.2.2.2.2.2 0 0 0 0 [] []
def ag3:=amt
def qA(x:As [.pr (.int .u8) jH,.pr (.int .i64) sD,.sl (.int .u8)]):Option bM:=V5 ag3 x.1 x.2.1 x.2.2.1
abbrev pA3:=zp ag0 ag1 273 V4
theorem au7{J a b c d e f g h i j k l}:pA3 J 15 [] (ag2 a b c d e f g h i j k l)=amt a b c d e f g h i j k l:=by kernel_rfl
abbrev pA2:=zj ag0 ag1 273 V4
theorem au8:C (pA2 15 []) ag2=ag3:=gNC (by decide) fun _=>au7
theorem au9:ak Tryz.prog (fun _=>True) 273 ⟨V4,qA⟩:=zcc (env:=ag0) (d:=6) (hs:=Ev.get ag1) (aj ams (aj amk av)) (fun J x=>V5 (C (J 15 []) ag2) x.1 x.2.1 x.2.2.1) (fun _ _=>by kernel_rfl) fun _=>by rw[au8]<;>rfl
@[reducible] def V6:Sh:=⟨[.d aJ],[],aI,[.d bA,.d (.bool)],[],0,bN⟩
def ag4:Env:=(cts [(106,(⟨Te,xP⟩:Ct)),(272,(⟨Nf,vQ⟩:Ct)),(273,(⟨V4,qA⟩:Ct))])
def ag5:List (Nat×Hint):=[(255,⟨[],[2,4,6,7,8]⟩),(511,⟨[],[2,4,7,8]⟩),(6,⟨[],[0,2,16]⟩)]
def ag6(b:List Int)(t16:Bool)(t2 t2_2 t2_3 t2_4:Int):St:=⟨[(0,dL b),(2,.pb 0 0),(16,dB t16)],67,[],[(0,.box 27 [d8 t2,d6 t2_2,d6 t2_3,d6 t2_4,.k (zK zH 0 0),.k (zK zH 0 0)])],1,[],0⟩
def ag7(l rest:List Int)(t2 t2_2 t2_3 t2_4 s s_2 s_3:Int)(s_4 s_5:Bool)(a a_2 a_3 a_4:Int):St:=⟨[(2,.pb 0 0),(4,.pb 1 0),(6,dW l),(7,.pb 2 0),(8,dL rest)],67,[],[(0,.box 27 [d8 t2,d6 t2_2,d6 t2_3,d6 t2_4,.k (zK zH 0 0),.k (zK zH 0 0)]),(1,.box 151 [dI s,dI s_2,dI s_3,dB s_4,dB s_5]),(2,.box 27 [d8 a,d6 a_2,d6 a_3,d6 a_4,.k (zK zH 0 0),.k (zK zH 0 0)])],3,[],0⟩
def ag8(rest:List Int)(t2 t2_2 t2_3 t2_4 s s_2 s_3:Int)(s_4 s_5:Bool)(a a_2 a_3 a_4:Int):St:=⟨[(2,.pb 0 0),(4,.pb 1 0),(7,.pb 2 0),(8,dL rest)],67,[],[(0,.box 27 [d8 t2,d6 t2_2,d6 t2_3,d6 t2_4,.k (zK zH 0 0),.k (zK zH 0 0)]),(1,.box 151 [dI s,dI s_2,dI s_3,dB s_4,dB s_5]),(2,.box 27 [d8 a,d6 a_2,d6 a_3,d6 a_4,.k (zK zH 0 0),.k (zK zH 0 0)])],3,[],0⟩
def Al(j2:List Int->List Int->Int->Int->Int->Int->Int->Int->Int->Bool->Bool->Int->Int->Int->Int->Option bM)(b:List Int)(t16:Bool)(t2 t2_2 t2_3 t2_4:Int):Option bM :=
 if t16=true then some ((0,0,0,0,[],[]),false,()) else zC (at? b 0) fun y=>zC (xP (y,())) fun y=>if (!y.2.1)=true then some ((0,0,0,0,[],[]),false,()) else zC (cut b 1 (zF (zG b))) fun y_1=>zC (vQ (y_1,())) fun y_2=>zC (at? b 0) fun y_3=>zC (at? y_2.1 0) fun y_4=>zC (cut b 3 (zF (zG b))) fun y_5=>if gt y.1.1 0=true then zC (at? y_2.1 1) fun y_6=>zC (cut b 5 (zF (zG b))) fun y_7=>j2 y_2.1 y_7 t2 t2_2 t2_3 t2_4 y.1.1 y.1.2.1 y.1.2.2.1 y.1.2.2.2.1 y.1.2.2.2.2 y_3 y_4 y_6 0 else j2 y_2.1 y_5 t2 t2_2 t2_3 t2_4 y.1.1 y.1.2.1 y.1.2.2.1 y.1.2.2.2.1 y.1.2.2.2.2 y_3 y_4 0 0
def ag9(j3:List Int->Int->Int->Int->Int->Int->Int->Int->Bool->Bool->Int->Int->Int->Int->Option bM)(l rest:List Int)(t2 t2_2 t2_3 t2_4 s s_2 s_3:Int)(s_4 s_5:Bool)(a a_2 a_3 a_4:Int):Option bM :=
 if s_4=true then if lt (zF (zG rest)) 4=true then some ((0,0,0,0,[],[]),false,()) else zC (at? l 2) fun y=>zC (cut rest 4 (zF (zG rest))) fun y_1=>j3 y_1 t2 t2_2 t2_3 t2_4 s s_2 s_3 s_4 s_5 a a_2 a_3 y else j3 rest t2 t2_2 t2_3 t2_4 s s_2 s_3 s_4 s_5 a a_2 a_3 a_4
def amu(rest:List Int)(t2 t2_2 t2_3 t2_4 s s_2 s_3:Int)(s_4 s_5:Bool)(a a_2 a_3 a_4:Int):Option bM :=
 zC (qA ((a,a_2,a_3,a_4,[],[]),(s,s_2,s_3,s_4,s_5),rest,())) fun y=>some (y.1,y.2.1,())
def vR(j1:List Int->Bool->Int->Int->Int->Int->Option bM)(b:List Int):Option bM :=
 if lt (zF (zG b)) 5=true then j1 b true 0 0 0 0 else j1 b (gt (zF (zG b)) 253) 0 0 0 0
def aha:=amu
def xV:=ag9 (aha)
def Dm:=Al (xV)
def Am(x:As aI):Option bM:=vR Dm x.1
abbrev pA1:=zp ag4 ag5 251 V6
theorem ava{J a b c d e f g h i j k l m n}:pA1 J 511 [] (ag8 a b c d e f g h i j k l m n)=amu a b c d e f g h i j k l m n:=by kernel_rfl
theorem avb{J a b c d e f g h i j k l m n o}:pA1 J 255 [] (ag7 a b c d e f g h i j k l m n o)=ag9 (C (J 511 []) ag8) a b c d e f g h i j k l m n o:=by kernel_rfl
theorem avc{J a b c d e f}:pA1 J 6 [] (ag6 a b c d e f)=Al (C (J 255 []) ag7) a b c d e f:=by kernel_rfl
abbrev pA0:=zj ag4 ag5 251 V6
theorem avd:C (pA0 511 []) ag8=aha:=gNC (by decide) fun _=>ava
theorem ave:C (pA0 255 []) ag7=xV:=gNC (by decide) fun _=>avb.trans (by rw[avd]<;>kernel_rfl)
theorem avf:C (pA0 6 []) ag6=Dm:=gNC (by decide) fun _=>avc.trans (by rw[ave]<;>kernel_rfl)
theorem avg:ak Tryz.prog (fun _=>True) 251 ⟨V6,Am⟩:=zcc (env:=ag4) (d:=6) (hs:=Ev.get ag5) (aj Tf (aj ams (aj au9 av))) (fun J x=>vR (C (J 6 []) ag6) x.1) (fun _ _=>by kernel_rfl) fun _=>by rw[avf]<;>rfl
@[reducible] def dF:List Ty:=[.pr (.int .u8) jH,.int .i64]
@[reducible] def ahb:Sh:=⟨[.d aJ],[],aI,[.d bA,.d (.int .i64)],[],0,dF⟩
def ahc:Env:=(cts [(50,(⟨Tx,C8⟩:Ct)),(112,(⟨afP,nI⟩:Ct)),(251,(⟨V6,Am⟩:Ct))])
def ahd:List (Nat×Hint):=[(61,⟨[],[2,4,28]⟩)]
def ahe(t28:Bool)(t2 t2_2 t2_3 t2_4 a a_2 a_3 a_4:Int)(a_5:List Int)(a_6:List Bool):St:=⟨[(2,.pb 0 0),(4,.pb 1 0),(28,dB t28)],31,[],[(0,.box 27 [d8 t2,d6 t2_2,d6 t2_3,d6 t2_4,.k (zK zH 0 0),.k (zK zH 0 0)]),(1,.box 27 [d8 a,d6 a_2,d6 a_3,d6 a_4,dW a_5,.d (.sl .bool) a_6])],2,[],0⟩
def amv(t28:Bool)(t2 t2_2 t2_3 t2_4 a a_2 a_3 a_4:Int)(a_5:List Int)(a_6:List Bool):Option (As dF) :=
 if t28=true then some ((0,0,0,0,[],[]),12,()) else some ((a,a_2,a_3,a_4,a_5,a_6),0,())
def GK(j1:Bool->Int->Int->Int->Int->Int->Int->Int->Int->List Int->List Bool->Option (As dF))(b:List Int):Option (As dF) :=
 zC (Am (b,())) fun y=>if (!y.2.1)=true then some ((0,0,0,0,[],[]),12,()) else zC (C8 (y.1,())) fun y_1=>if nei y_1.2.1 0=true then j1 true 0 0 0 0 y.1.1 y.1.2.1 y.1.2.2.1 y.1.2.2.2.1 y.1.2.2.2.2.1 y.1.2.2.2.2.2 else zC (nI (y_1.1,b,())) fun y_2=>j1 (!y_2.1) 0 0 0 0 y.1.1 y.1.2.1 y.1.2.2.1 y.1.2.2.2.1 y.1.2.2.2.2.1 y.1.2.2.2.2.2
def V7:=amv
def V8(x:As aI):Option (As dF):=GK V7 x.1
abbrev pAr:=zp ahc ahd 220 ahb
theorem avh{J a b c d e f g h i j k}:pAr J 61 [] (ahe a b c d e f g h i j k)=amv a b c d e f g h i j k:=by kernel_rfl
abbrev pAq:=zj ahc ahd 220 ahb
theorem avi:C (pAq 61 []) ahe=V7:=gNC (by decide) fun _=>avh
theorem avj:ak Tryz.prog (fun _=>True) 220 ⟨ahb,V8⟩:=zcc (env:=ahc) (d:=6) (hs:=Ev.get ahd) (aj ac8 (aj amj (aj avg av))) (fun J x=>GK (C (J 61 []) ahe) x.1) (fun _ _=>by kernel_rfl) fun _=>by rw[avi]<;>rfl
@[reducible] def amw:Sh:=⟨[.d aJ],[],aI,[.d bA,.d (.int .u8)],[],0,[.pr (.int .u8) jH,.int .u8]⟩
def Ni(b:List Int):Option (As [.pr (.int .u8) jH,.int .u8]) :=
 if eqi (zF (zG b)) 0=true then some ((0,0,0,0,[],[]),1,()) else zC (V8 (b,())) fun y=>if eqi y.2.1 0=true then some (y.1,0,()) else zC (at? b 0) fun y=>zC (at? b 0) fun y_1=>zC (xP (y_1,())) fun y_2=>if (!y_2.2.1)=true then some ((y,0,0,0,[],[]),1,()) else some ((y,0,0,0,[],[]),3,())
def Ao(x:As aI):Option (As [.pr (.int .u8) jH,.int .u8]):=Ni x.1
theorem avk:ak Tryz.prog (fun _=>True) 163 ⟨amw,Ao⟩:=ctn (aj Tf (aj avj av)) 6 fun J x=>by kernel_rfl
@[reducible] def bZ:Ty:=.pr eX eX
@[reducible] def aZ:Ty:=.pr eX bZ
@[reducible] def eI:Ty:=.pr (.sl .bool) BS
@[reducible] def dN:List Ty:=[.pr eX aZ,.pr (.sl .bool) BS]
@[reducible] def bJ:Ty:=.pr eX (.sl .bool)
@[reducible] def cH:Ty:=.pr eX aC
@[reducible] def dZ:Ty:=.pr cH cH
@[reducible] def bF:Ty:=.pr bJ dZ
@[reducible] def amx:Sh:=⟨[.d (.pr eX aZ),.d eI],[],dN,[.d (.pr bJ bF)],[],0,[.pr bJ bF]⟩
def avl(s:List bq×List bq×List bq×List bq)(m:List Bool×List Bool×List Int×List Int):Option (As [.pr bJ bF]) :=
 some (((s.1,m.1),(s.2.1,m.2.1),(s.2.2.1,m.2.2.1),s.2.2.2,m.2.2.2),())
def GL(x:As dN):Option (As [.pr bJ bF]):=avl x.1 x.2.1
theorem amy:ak Tryz.prog (fun _=>True) 221 ⟨amx,GL⟩:=ctn av 6 fun J x=>by kernel_rfl
@[reducible] def ahf:Sh:=⟨[.d (.int .u8)],[],[.int .u8],[.d eJ],[],0,[.pr (.int .i64) (.int .i64)]⟩
def ahg(f:Int):Option (As [.pr (.int .i64) (.int .i64)]) :=
 some (Ev.gdV eJ (if eqi 1 f=true then some (1,0) else if eqi 2 f=true then some (2,0) else if eqi 3 f=true then some (3,0) else if eqi 4 f=true then some (4,0) else if eqi 5 f=true then some (0,1) else if eqi 6 f=true then some (0,3) else if eqi 15 f=true then some (0,1) else if eqi 16 f=true then some (0,3) else if eqi 23 f=true then some (3,3) else zH) (0,0),())
def GM(x:As [.int .u8]):Option (As [.pr (.int .i64) (.int .i64)]):=ahg x.1
theorem amz:ak Tryz.prog (fun _=>True) 222 ⟨ahf,GM⟩:=ctn av 6 fun J x=>by kernel_rfl
@[reducible] def ahh:Sh:=⟨[.d bA],[],aW,[.d (.int .i64),.d (.int .i64)],[],0,cA⟩
@[reducible] def eP:Type:=As cA
def ahi(a:zH1):Option eP :=
 if eqi a.1 23=true then some (cvt .i64 a.2.2.2.1,add .i64 (zF (zG a.2.2.2.2.2)) (zF (zG a.2.2.2.2.1)),()) else some (cvt .i64 a.2.1,add .i64 (zF (zG a.2.2.2.2.2)) (zF (zG a.2.2.2.2.1)),())
def Dn(x:As aW):Option eP:=ahi x.1
theorem aqc:ak Tryz.prog (fun _=>True) 224 ⟨ahh,Dn⟩:=ctn av 6 fun J x=>by kernel_rfl
@[reducible] def Nj:Sh:=⟨[.d bO],[],[.pr (.int .i64) BQ],[.d (.bool)],[],0,[.bool]⟩
def aAB(x:gD):Option aF :=
 some (x.2.2.1,())
def Ap(x:As [.pr (.int .i64) BQ]):Option aF:=aAB x.1
theorem Nk:ak Tryz.prog (fun _=>True) 348 ⟨Nj,Ap⟩:=ctn av 6 fun J x=>by kernel_rfl
@[reducible] def cK:List Ty:=[.pr (.int .i64) BQ,.int .i64,.int .i64]
@[reducible] def aO:List Ty:=[.bool,.int .i64,.int .i64]
@[reducible] def Nl:Sh:=⟨[.d bO,.pb 0 0,.pb 1 0],[.box 3 [.d (.int .i64)],.box 3 [.d (.int .i64)]],cK,[.d (.bool)],[(0,.box 3 [.d (.int .i64)]),(1,.box 3 [.d (.int .i64)])],0,aO⟩
@[reducible] def aM:Type:=As aO
def ahj(x:gD)(v v_2:Int):Option aM :=
 if x.2.2.2.1=true then if (!x.2.2.2.2)=true then some (true,v,v_2,()) else if eqi x.1 v=true then some (eqi x.2.1 v_2,v,v_2,()) else some (false,v,v_2,()) else some (false,v,v_2,())
def EE(x:As cK):Option aM:=ahj x.1 x.2.1 x.2.2.1
theorem Nn:ak Tryz.prog (fun _=>True) 349 ⟨Nl,EE⟩:=ctn av 6 fun J x=>by kernel_rfl
@[reducible] def Dp:Sh:=⟨[.d bO,.d (.int .i64),.d (.int .i64)],[],cK,[.d (.int .i64),.d (.int .i64)],[],0,cA⟩
def ahk:Env:=(cts [])
def ahl:List (Nat×Hint):=[(15,⟨[],[1,3,8]⟩),(30,⟨[],[1,2,3,8,32]⟩),(6,⟨[],[1,2,3,17,25,26,27,28,29,30,31]⟩)]
def ahm(at' endV:Int)(t17:Bool)(x:gD):St:=⟨[(1,dI at'),(2,dI endV),(3,.pb 0 0),(17,dB t17)],45,[],[(0,.box 250 [dI x.1,dI x.2.1,dB x.2.2.1,dB x.2.2.2.1,dB x.2.2.2.2])],1,[],0⟩
def ahn(at' endV to':Int)(t32:Bool)(x:gD):St:=⟨[(1,dI at'),(2,dI endV),(3,.pb 0 0),(8,dI to'),(32,dB t32)],45,[],[(0,.box 250 [dI x.1,dI x.2.1,dB x.2.2.1,dB x.2.2.2.1,dB x.2.2.2.2])],1,[],0⟩
def aho(at' to':Int)(x:gD):St:=⟨[(1,dI at'),(3,.pb 0 0),(8,dI to')],45,[],[(0,.box 250 [dI x.1,dI x.2.1,dB x.2.2.1,dB x.2.2.2.1,dB x.2.2.2.2])],1,[],0⟩
def ahp(j2:Int->Int->Int->Bool->gD->Option eP)(at' endV:Int)(t17:Bool)(x:gD):Option eP :=
 if t17=true then some (at',at',()) else if lt x.1 0=true then j2 at' endV endV true x else j2 at' endV endV (lt x.2.1 (Sx.sub .i64 endV x.1)) x
def V9(j3:Int->Int->gD->Option eP)(at' endV to':Int)(t32:Bool)(x:gD):Option eP :=
 if t32=true then j3 at' (if lt (add .i64 x.1 x.2.1) endV=true then add .i64 x.1 x.2.1 else endV) x else j3 at' to' x
def ahq(at' to':Int)(x:gD):Option eP :=
 some (if gt x.1 at'=true then x.1 else at',to',())
def Wd(j1:Int->Int->Bool->gD->Option eP)(x:gD)(at' endV:Int):Option eP :=
 if lt x.2.1 1=true then j1 at' endV true x else j1 at' endV (ge x.1 endV) x
def Wh:=ahq
def Np:=V9 (Wh)
def Nq:=ahp (Np)
def vT(x:As cK):Option eP:=Wd Nq x.1 x.2.1 x.2.2.1
abbrev pCf:=zp ahk ahl 350 Dp
theorem avm{J a b c}:pCf J 15 [] (aho a b c)=ahq a b c:=by kernel_rfl
theorem avn{J a b c d e}:pCf J 30 [] (ahn a b c d e)=V9 (C (J 15 []) aho) a b c d e:=by kernel_rfl
theorem avo{J a b c d}:pCf J 6 [] (ahm a b c d)=ahp (C (J 30 []) ahn) a b c d:=by kernel_rfl
abbrev pCe:=zj ahk ahl 350 Dp
theorem avp:C (pCe 15 []) aho=Wh:=gNC (by decide) fun _=>avm
theorem avq:C (pCe 30 []) ahn=Np:=gNC (by decide) fun _=>avn.trans (by rw[avp]<;>kernel_rfl)
theorem avr:C (pCe 6 []) ahm=Nq:=gNC (by decide) fun _=>avo.trans (by rw[avq]<;>kernel_rfl)
theorem Wi:ak Tryz.prog (fun _=>True) 350 ⟨Dp,vT⟩:=zcc (env:=ahk) (d:=6) (hs:=Ev.get ahl) av (fun J x=>Wd (C (J 6 []) ahm) x.1 x.2.1 x.2.2.1) (fun _ _=>by kernel_rfl) fun _=>by rw[avr]<;>rfl
@[reducible] def Nr:Sh:=⟨[.d bO],[],[.pr (.int .i64) BQ],[.d (.bool)],[],0,[.bool]⟩
def aAC(x:gD):Option aF :=
 some (x.2.2.1,())
def IQ(x:As [.pr (.int .i64) BQ]):Option aF:=aAC x.1
theorem Ns:ak Tryz.prog (fun _=>True) 353 ⟨Nr,IQ⟩:=ctn av 6 fun J x=>by kernel_rfl
@[reducible] def Nt:Sh:=⟨[.d bO,.pb 0 0,.pb 1 0],[.box 3 [.d (.int .i64)],.box 3 [.d (.int .i64)]],cK,[.d (.bool)],[(0,.box 3 [.d (.int .i64)]),(1,.box 3 [.d (.int .i64)])],0,aO⟩
def ahr(x:gD)(v v_2:Int):Option aM :=
 if x.2.2.2.1=true then if (!x.2.2.2.2)=true then some (true,v,v_2,()) else if eqi x.1 v=true then some (eqi x.2.1 v_2,v,v_2,()) else some (false,v,v_2,()) else some (false,v,v_2,())
def EF(x:As cK):Option aM:=ahr x.1 x.2.1 x.2.2.1
theorem Nu:ak Tryz.prog (fun _=>True) 354 ⟨Nt,EF⟩:=ctn av 6 fun J x=>by kernel_rfl
@[reducible] def eF:List Ty:=[.sl bO,.int .i64,.int .i64]
@[reducible] def ahs:Sh:=⟨[.d eX,.d (.int .i64),.d (.int .i64),.fn (.func 348) [] []],[],eF,[.d (.bool)],[],0,[.bool]⟩
def aht:Env:=(cts [(348,(⟨Nj,Ap⟩:Ct)),(349,(⟨Nl,EE⟩:Ct)),(350,(⟨Dp,vT⟩:Ct)),(353,(⟨Nr,IQ⟩:Ct)),(354,(⟨Nt,EF⟩:Ct))])
def ahu:List (Nat×Hint):=[(15,⟨[],[10]⟩),(122,⟨[],[1,2,3,9,10,19,20,21]⟩),(125342,⟨[],[1,2,3,9,10,12,14,15,19,20,21]⟩),(501369,⟨[],[1,2,3,9,10,12,14,15,19,20,21]⟩)]
def Aq(at' many left:Int)(t19:List bq)(t20 t21:Int)(met:List Bool):St:=⟨[(1,dI at'),(2,dI many),(3,.fn (.func 348) [] []),(9,.row 0),(10,dI left),(19,.d eX t19),(20,dI t20),(21,dI t21)],62,[],[(0,.row .bool 4 met)],1,[],0⟩
def ahv(left:Int):St:=⟨[(10,dI left)],62,[],[],0,[],0⟩
def GN(at' many left to' i:Int)(t19:List bq)(t20 t21:Int)(met:List Bool)(x:gD):St:=⟨[(1,dI at'),(2,dI many),(3,.fn (.func 348) [] []),(9,.row 0),(10,dI left),(12,.pb 1 0),(14,dI to'),(15,dI i),(19,.d eX t19),(20,dI t20),(21,dI t21)],62,[],[(0,.row .bool 4 met),(1,.box 250 [dI x.1,dI x.2.1,dB x.2.2.1,dB x.2.2.2.1,dB x.2.2.2.2])],2,[],0⟩
def ahw(at' many left to' i:Int)(t19:List bq)(t20 t21:Int)(met:List Bool)(x:gD):St:=⟨[(1,dI at'),(2,dI many),(3,.fn (.func 348) [] []),(9,.row 0),(10,dI left),(12,.pb 1 0),(14,dI to'),(15,dI i),(19,.d eX t19),(20,dI t20),(21,dI t21)],62,[],[(0,.row .bool 4 met),(1,.box 250 [dI x.1,dI x.2.1,dB x.2.2.1,dB x.2.2.2.1,dB x.2.2.2.2])],2,[],0⟩
@[reducible] def zH2:Type:=Int->Int->Int->List bq->Int->Int->List Bool->Option aF
def Nv(j2:Int->Option aF)(j3:Int->Int->Int->Int->Int->List bq->Int->Int->List Bool->gD->Option aF)(self1:zH2)(at' many left:Int)(t19:List bq)(t20 t21:Int)(met:List Bool):Option aF :=
 if lt t21 t20=true then zC (at? t19 t21) fun y=>if eqi left 0=true then j2 left else zC (vT (y,at',add .i64 at' many,())) fun y_1=>j3 at' many left y_1.2.1 y_1.1 t19 t20 t21 met y else j2 left
def aqd(left:Int):Option aF :=
 some (eqi left 0,())
def Nw(j4:Int->Int->Int->Int->Int->List bq->Int->Int->List Bool->gD->Option aF)(self1:zH2)(self3:Int->Int->Int->Int->Int->List bq->Int->Int->List Bool->gD->Option aF)(at' many left to' i:Int)(t19:List bq)(t20 t21:Int)(met:List Bool)(x:gD):Option aF :=
 if lt i to'=true then zC (at? met (Sx.sub .i64 i at')) fun x_1=>zC (at? met (Sx.sub .i64 i at')) fun y=>if y=true then j4 at' many left to' i t19 t20 t21 met x else zC (Ap (x,())) fun y=>if (!y.1)=true then some (false,()) else zC (at? met (Sx.sub .i64 i at')) fun x_2=>zC (at? met (Sx.sub .i64 i at')) fun x_3=>j4 at' many (Sx.sub .i64 left 1) to' i t19 t20 t21 (List.set met (zI (Sx.sub .i64 i at')) true) x else self1 at' many left t19 t20 (add .i64 t21 1) met
def ahx(self1:zH2)(self3:Int->Int->Int->Int->Int->List bq->Int->Int->List Bool->gD->Option aF)(at' many left to' i:Int)(t19:List bq)(t20 t21:Int)(met:List Bool)(x:gD):Option aF :=
 self3 at' many left to' (add .i64 i 1) t19 t20 t21 met x
def Wj(j1:zH2)(areas:List bq)(at' many:Int):Option aF :=
 need (ge many 0) (need (Ev.iX many many) (need (small (zI many)) (j1 at' many many areas (zF (zG areas)) 0 (zE (zI many) false))))
def Ny:=aqd
def GQ(u1:zH2)(u3:Int->Int->Int->Int->Int->List bq->Int->Int->List Bool->gD->Option aF):=ahx u1 u3
def Dq(u1:zH2)(at' many left to' i:Int)(t19:List bq)(t20 t21:Int)(met:List Bool)(x:gD):Option aF :=
 bu (fun self s=>Nw (GQ u1 (fun at' many left to' i t19 t20 t21 met x=>self (at',many,left,to',i,t19,t20,t21,met,x))) u1 (fun at' many left to' i t19 t20 t21 met x=>self (at',many,left,to',i,t19,t20,t21,met,x)) s.1 s.2.1 s.2.2.1 s.2.2.2.1 s.2.2.2.2.1 s.2.2.2.2.2.1 s.2.2.2.2.2.2.1 s.2.2.2.2.2.2.2.1 s.2.2.2.2.2.2.2.2.1 s.2.2.2.2.2.2.2.2.2) 18446744073709551616 (at',many,left,to',i,t19,t20,t21,met,x)
def Nz(at' many left:Int)(t19:List bq)(t20 t21:Int)(met:List Bool):Option aF :=
 bu (fun self s=>Nv (Ny) (Dq (fun at' many left t19 t20 t21 met=>self (at',many,left,t19,t20,t21,met))) (fun at' many left t19 t20 t21 met=>self (at',many,left,t19,t20,t21,met)) s.1 s.2.1 s.2.2.1 s.2.2.2.1 s.2.2.2.2.1 s.2.2.2.2.2.1 s.2.2.2.2.2.2) 18446744073709551616 (at',many,left,t19,t20,t21,met)
def Wk(x:As eF):Option aF:=Wj Nz x.1 x.2.1 x.2.2.1
abbrev pB7:=zp aht ahu 347 ahs
theorem avs{J a}:pB7 J 15 [] (ahv a)=aqd a:=by kernel_rfl
theorem avt{J w1 w3 a b c d e f g h i j}:pB7 J 501369 [w1,w3] (ahw a b c d e f g h i j)=ahx (C w1 Aq) (C w3 GN) a b c d e f g h i j:=by kernel_rfl
theorem avu{J w1 w3 a b c d e f g h i j}:pB7 J 125342 [w1,w3] (GN a b c d e f g h i j)=Nw (C (J 501369 [w1,w3]) ahw) (C w1 Aq) (C w3 GN) a b c d e f g h i j:=by kernel_rfl
theorem avv{J w1 a b c d e f g}:pB7 J 122 [w1] (Aq a b c d e f g)=Nv (C (J 15 []) ahv) (C (J 125342 [w1]) GN) (C w1 Aq) a b c d e f g:=by kernel_rfl
abbrev pB6:=zj aht ahu 347 ahs
theorem avw:C (pB6 15 []) ahv=Ny:=gNC (by decide) fun _=>avs
theorem avx{w1 w3}:C (pB6 501369 [w1,w3]) ahw=GQ (C w1 Aq) (C w3 GN):=gNC (by decide) fun _=>avt
theorem avy{w1}:C (pB6 125342 [w1]) GN=Dq (C w1 Aq):=gLC (by decide) (by kernel_rfl) (fun _=>by unfold Dq;rfl) fun _ _=>avu.trans (by rw[avx]<;>kernel_rfl)
theorem avz:C (pB6 122 []) Aq=Nz:=gLC (by decide) (by kernel_rfl) (fun _=>by unfold Nz;rfl) fun _ _=>avv.trans (by rw[avw,avy]<;>kernel_rfl)
theorem Wl:ak Tryz.prog (fun _=>True) 347 ⟨ahs,Wk⟩:=zcc (env:=aht) (d:=6) (hs:=Ev.get ahu) (aj Nk (aj Nn (aj Wi (aj Ns (aj Nu av))))) (fun J x=>Wj (C (J 122 []) Aq) x.1 x.2.1 x.2.2.1) (fun _ _=>by kernel_rfl) fun _=>by rw[avz]<;>rfl
@[reducible] def cW:List Ty:=[.sl bO,.int .i64,.int .i64,.int .i64,.int .i64]
@[reducible] def ahy:Sh:=⟨[.d eX,.d (.int .i64),.d (.int .i64),.fn (.func 349) [] [.pb 0 0,.pb 1 0]],[.box 3 [.d (.int .i64)],.box 3 [.d (.int .i64)]],cW,[.d (.bool)],[(0,.box 3 [.d (.int .i64)]),(1,.box 3 [.d (.int .i64)])],0,aO⟩
def ahz:Env:=(cts [(348,(⟨Nj,Ap⟩:Ct)),(349,(⟨Nl,EE⟩:Ct)),(350,(⟨Dp,vT⟩:Ct)),(353,(⟨Nr,IQ⟩:Ct)),(354,(⟨Nt,EF⟩:Ct))])
def ahA:List (Nat×Hint):=[(15,⟨[],[10]⟩),(122,⟨[],[1,2,3,9,10,19,20,21]⟩),(125342,⟨[],[1,2,3,9,10,12,14,15,19,20,21]⟩),(501369,⟨[],[1,2,3,9,10,12,14,15,19,20,21]⟩)]
def Ar(at' many left:Int)(t19:List bq)(t20 t21 o o_2:Int)(met:List Bool):St:=⟨[(1,dI at'),(2,dI many),(3,.fn (.func 349) [] [.pb 0 0,.pb 1 0]),(9,.row 2),(10,dI left),(19,.d eX t19),(20,dI t20),(21,dI t21)],62,[],[(0,.box 3 [dI o]),(1,.box 3 [dI o_2]),(2,.row .bool 4 met)],3,[],2⟩
def ahB(left o o_2:Int):St:=⟨[(10,dI left)],62,[],[(0,.box 3 [dI o]),(1,.box 3 [dI o_2])],2,[],2⟩
def GR(at' many left to' i:Int)(t19:List bq)(t20 t21 o o_2:Int)(met:List Bool)(x:gD):St:=⟨[(1,dI at'),(2,dI many),(3,.fn (.func 349) [] [.pb 0 0,.pb 1 0]),(9,.row 2),(10,dI left),(12,.pb 3 0),(14,dI to'),(15,dI i),(19,.d eX t19),(20,dI t20),(21,dI t21)],62,[],[(0,.box 3 [dI o]),(1,.box 3 [dI o_2]),(2,.row .bool 4 met),(3,.box 250 [dI x.1,dI x.2.1,dB x.2.2.1,dB x.2.2.2.1,dB x.2.2.2.2])],4,[],2⟩
def ahC(at' many left to' i:Int)(t19:List bq)(t20 t21 o o_2:Int)(met:List Bool)(x:gD):St:=⟨[(1,dI at'),(2,dI many),(3,.fn (.func 349) [] [.pb 0 0,.pb 1 0]),(9,.row 2),(10,dI left),(12,.pb 3 0),(14,dI to'),(15,dI i),(19,.d eX t19),(20,dI t20),(21,dI t21)],62,[],[(0,.box 3 [dI o]),(1,.box 3 [dI o_2]),(2,.row .bool 4 met),(3,.box 250 [dI x.1,dI x.2.1,dB x.2.2.1,dB x.2.2.2.1,dB x.2.2.2.2])],4,[],2⟩
@[reducible] def zH3:Type:=Int->Int->Int->Option aM
@[reducible] def zH4:Type:=Int->Int->Int->List bq->Int->Int->Int->Int->List Bool->Option aM
def NA(j2:zH3)(j3:Int->Int->Int->Int->Int->List bq->Int->Int->Int->Int->List Bool->gD->Option aM)(self1:zH4)(at' many left:Int)(t19:List bq)(t20 t21 o o_2:Int)(met:List Bool):Option aM :=
 if lt t21 t20=true then zC (at? t19 t21) fun y=>if eqi left 0=true then j2 left o o_2 else zC (vT (y,at',add .i64 at' many,())) fun y_1=>j3 at' many left y_1.2.1 y_1.1 t19 t20 t21 o o_2 met y else j2 left o o_2
def aqe(left o o_2:Int):Option aM :=
 some (eqi left 0,o,o_2,())
def NB(j4:Int->Int->Int->Int->Int->List bq->Int->Int->Int->Int->List Bool->gD->Option aM)(self1:zH4)(self3:Int->Int->Int->Int->Int->List bq->Int->Int->Int->Int->List Bool->gD->Option aM)(at' many left to' i:Int)(t19:List bq)(t20 t21 o o_2:Int)(met:List Bool)(x:gD):Option aM :=
 if lt i to'=true then zC (at? met (Sx.sub .i64 i at')) fun x_1=>zC (at? met (Sx.sub .i64 i at')) fun y=>if y=true then j4 at' many left to' i t19 t20 t21 o o_2 met x else zC (EE (x,o,o_2,())) fun y=>if (!y.1)=true then some (false,y.2.1,y.2.2.1,()) else zC (at? met (Sx.sub .i64 i at')) fun x_2=>zC (at? met (Sx.sub .i64 i at')) fun x_3=>j4 at' many (Sx.sub .i64 left 1) to' i t19 t20 t21 y.2.1 y.2.2.1 (List.set met (zI (Sx.sub .i64 i at')) true) x else self1 at' many left t19 t20 (add .i64 t21 1) o o_2 met
def ahD(self1:zH4)(self3:Int->Int->Int->Int->Int->List bq->Int->Int->Int->Int->List Bool->gD->Option aM)(at' many left to' i:Int)(t19:List bq)(t20 t21 o o_2:Int)(met:List Bool)(x:gD):Option aM :=
 self3 at' many left to' (add .i64 i 1) t19 t20 t21 o o_2 met x
def Wm(j1:zH4)(areas:List bq)(at' many wanted areas_2:Int):Option aM :=
 need (ge many 0) (need (Ev.iX many many) (need (small (zI many)) (j1 at' many many areas (zF (zG areas)) 0 wanted areas_2 (zE (zI many) false))))
def NC:=aqe
def GU(u1:zH4)(u3:Int->Int->Int->Int->Int->List bq->Int->Int->Int->Int->List Bool->gD->Option aM):=ahD u1 u3
def Dr(u1:zH4)(at' many left to' i:Int)(t19:List bq)(t20 t21 o o_2:Int)(met:List Bool)(x:gD):Option aM :=
 bu (fun self s=>NB (GU u1 (fun at' many left to' i t19 t20 t21 o o_2 met x=>self (at',many,left,to',i,t19,t20,t21,o,o_2,met,x))) u1 (fun at' many left to' i t19 t20 t21 o o_2 met x=>self (at',many,left,to',i,t19,t20,t21,o,o_2,met,x)) s.1 s.2.1 s.2.2.1 s.2.2.2.1 s.2.2.2.2.1 s.2.2.2.2.2.1 s.2.2.2.2.2.2.1 s.2.2.2.2.2.2.2.1 s.2.2.2.2.2.2.2.2.1 s.2.2.2.2.2.2.2.2.2.1 s.2.2.2.2.2.2.2.2.2.2.1 s.2.2.2.2.2.2.2.2.2.2.2) 18446744073709551616 (at',many,left,to',i,t19,t20,t21,o,o_2,met,x)
def ND(at' many left:Int)(t19:List bq)(t20 t21 o o_2:Int)(met:List Bool):Option aM :=
 bu (fun self s=>NA (NC) (Dr (fun at' many left t19 t20 t21 o o_2 met=>self (at',many,left,t19,t20,t21,o,o_2,met))) (fun at' many left t19 t20 t21 o o_2 met=>self (at',many,left,t19,t20,t21,o,o_2,met)) s.1 s.2.1 s.2.2.1 s.2.2.2.1 s.2.2.2.2.1 s.2.2.2.2.2.1 s.2.2.2.2.2.2.1 s.2.2.2.2.2.2.2.1 s.2.2.2.2.2.2.2.2) 18446744073709551616 (at',many,left,t19,t20,t21,o,o_2,met)
def Wo(x:As cW):Option aM:=Wm ND x.1 x.2.1 x.2.2.1 x.2.2.2.1 x.2.2.2.2.1
abbrev pB9:=zp ahz ahA 347 ahy
theorem avA{J a b c}:pB9 J 15 [] (ahB a b c)=aqe a b c:=by kernel_rfl
theorem avB{J w1 w3 a b c d e f g h i j k l}:pB9 J 501369 [w1,w3] (ahC a b c d e f g h i j k l)=ahD (C w1 Ar) (C w3 GR) a b c d e f g h i j k l:=by kernel_rfl
theorem avC{J w1 w3 a b c d e f g h i j k l}:pB9 J 125342 [w1,w3] (GR a b c d e f g h i j k l)=NB (C (J 501369 [w1,w3]) ahC) (C w1 Ar) (C w3 GR) a b c d e f g h i j k l:=by kernel_rfl
theorem avD{J w1 a b c d e f g h i}:pB9 J 122 [w1] (Ar a b c d e f g h i)=NA (C (J 15 []) ahB) (C (J 125342 [w1]) GR) (C w1 Ar) a b c d e f g h i:=by kernel_rfl
abbrev pB8:=zj ahz ahA 347 ahy
theorem avE:C (pB8 15 []) ahB=NC:=gNC (by decide) fun _=>avA
theorem avF{w1 w3}:C (pB8 501369 [w1,w3]) ahC=GU (C w1 Ar) (C w3 GR):=gNC (by decide) fun _=>avB
theorem avG{w1}:C (pB8 125342 [w1]) GR=Dr (C w1 Ar):=gLC (by decide) (by kernel_rfl) (fun _=>by unfold Dr;rfl) fun _ _=>avC.trans (by rw[avF]<;>kernel_rfl)
theorem avH:C (pB8 122 []) Ar=ND:=gLC (by decide) (by kernel_rfl) (fun _=>by unfold ND;rfl) fun _ _=>avD.trans (by rw[avE,avG]<;>kernel_rfl)
theorem Wp:ak Tryz.prog (fun _=>True) 347 ⟨ahy,Wo⟩:=zcc (env:=ahz) (d:=6) (hs:=Ev.get ahA) (aj Nk (aj Nn (aj Wi (aj Ns (aj Nu av))))) (fun J x=>Wm (C (J 122 []) Ar) x.1 x.2.1 x.2.2.1 x.2.2.2.1 x.2.2.2.2.1) (fun _ _=>by kernel_rfl) fun _=>by rw[avH]<;>rfl
@[reducible] def ahE:Sh:=⟨[.d eX,.d (.int .i64),.d (.int .i64),.fn (.func 353) [] []],[],eF,[.d (.bool)],[],0,[.bool]⟩
def ahF:Env:=(cts [(348,(⟨Nj,Ap⟩:Ct)),(349,(⟨Nl,EE⟩:Ct)),(350,(⟨Dp,vT⟩:Ct)),(353,(⟨Nr,IQ⟩:Ct)),(354,(⟨Nt,EF⟩:Ct))])
def ahG:List (Nat×Hint):=[(15,⟨[],[10]⟩),(122,⟨[],[1,2,3,9,10,19,20,21]⟩),(125342,⟨[],[1,2,3,9,10,12,14,15,19,20,21]⟩),(501369,⟨[],[1,2,3,9,10,12,14,15,19,20,21]⟩)]
def Au(at' many left:Int)(t19:List bq)(t20 t21:Int)(met:List Bool):St:=⟨[(1,dI at'),(2,dI many),(3,.fn (.func 353) [] []),(9,.row 0),(10,dI left),(19,.d eX t19),(20,dI t20),(21,dI t21)],62,[],[(0,.row .bool 4 met)],1,[],0⟩
def ahH(left:Int):St:=⟨[(10,dI left)],62,[],[],0,[],0⟩
def GV(at' many left to' i:Int)(t19:List bq)(t20 t21:Int)(met:List Bool)(x:gD):St:=⟨[(1,dI at'),(2,dI many),(3,.fn (.func 353) [] []),(9,.row 0),(10,dI left),(12,.pb 1 0),(14,dI to'),(15,dI i),(19,.d eX t19),(20,dI t20),(21,dI t21)],62,[],[(0,.row .bool 4 met),(1,.box 250 [dI x.1,dI x.2.1,dB x.2.2.1,dB x.2.2.2.1,dB x.2.2.2.2])],2,[],0⟩
def ahI(at' many left to' i:Int)(t19:List bq)(t20 t21:Int)(met:List Bool)(x:gD):St:=⟨[(1,dI at'),(2,dI many),(3,.fn (.func 353) [] []),(9,.row 0),(10,dI left),(12,.pb 1 0),(14,dI to'),(15,dI i),(19,.d eX t19),(20,dI t20),(21,dI t21)],62,[],[(0,.row .bool 4 met),(1,.box 250 [dI x.1,dI x.2.1,dB x.2.2.1,dB x.2.2.2.1,dB x.2.2.2.2])],2,[],0⟩
def NF(j2:Int->Option aF)(j3:Int->Int->Int->Int->Int->List bq->Int->Int->List Bool->gD->Option aF)(self1:zH2)(at' many left:Int)(t19:List bq)(t20 t21:Int)(met:List Bool):Option aF :=
 if lt t21 t20=true then zC (at? t19 t21) fun y=>if eqi left 0=true then j2 left else zC (vT (y,at',add .i64 at' many,())) fun y_1=>j3 at' many left y_1.2.1 y_1.1 t19 t20 t21 met y else j2 left
def aqf(left:Int):Option aF :=
 some (eqi left 0,())
def NG(j4:Int->Int->Int->Int->Int->List bq->Int->Int->List Bool->gD->Option aF)(self1:zH2)(self3:Int->Int->Int->Int->Int->List bq->Int->Int->List Bool->gD->Option aF)(at' many left to' i:Int)(t19:List bq)(t20 t21:Int)(met:List Bool)(x:gD):Option aF :=
 if lt i to'=true then zC (at? met (Sx.sub .i64 i at')) fun x_1=>zC (at? met (Sx.sub .i64 i at')) fun y=>if y=true then j4 at' many left to' i t19 t20 t21 met x else zC (IQ (x,())) fun y=>if (!y.1)=true then some (false,()) else zC (at? met (Sx.sub .i64 i at')) fun x_2=>zC (at? met (Sx.sub .i64 i at')) fun x_3=>j4 at' many (Sx.sub .i64 left 1) to' i t19 t20 t21 (List.set met (zI (Sx.sub .i64 i at')) true) x else self1 at' many left t19 t20 (add .i64 t21 1) met
def ahJ(self1:zH2)(self3:Int->Int->Int->Int->Int->List bq->Int->Int->List Bool->gD->Option aF)(at' many left to' i:Int)(t19:List bq)(t20 t21:Int)(met:List Bool)(x:gD):Option aF :=
 self3 at' many left to' (add .i64 i 1) t19 t20 t21 met x
def Wq(j1:zH2)(areas:List bq)(at' many:Int):Option aF :=
 need (ge many 0) (need (Ev.iX many many) (need (small (zI many)) (j1 at' many many areas (zF (zG areas)) 0 (zE (zI many) false))))
def NH:=aqf
def GX(u1:zH2)(u3:Int->Int->Int->Int->Int->List bq->Int->Int->List Bool->gD->Option aF):=ahJ u1 u3
def Dt(u1:zH2)(at' many left to' i:Int)(t19:List bq)(t20 t21:Int)(met:List Bool)(x:gD):Option aF :=
 bu (fun self s=>NG (GX u1 (fun at' many left to' i t19 t20 t21 met x=>self (at',many,left,to',i,t19,t20,t21,met,x))) u1 (fun at' many left to' i t19 t20 t21 met x=>self (at',many,left,to',i,t19,t20,t21,met,x)) s.1 s.2.1 s.2.2.1 s.2.2.2.1 s.2.2.2.2.1 s.2.2.2.2.2.1 s.2.2.2.2.2.2.1 s.2.2.2.2.2.2.2.1 s.2.2.2.2.2.2.2.2.1 s.2.2.2.2.2.2.2.2.2) 18446744073709551616 (at',many,left,to',i,t19,t20,t21,met,x)
def NI(at' many left:Int)(t19:List bq)(t20 t21:Int)(met:List Bool):Option aF :=
 bu (fun self s=>NF (NH) (Dt (fun at' many left t19 t20 t21 met=>self (at',many,left,t19,t20,t21,met))) (fun at' many left t19 t20 t21 met=>self (at',many,left,t19,t20,t21,met)) s.1 s.2.1 s.2.2.1 s.2.2.2.1 s.2.2.2.2.1 s.2.2.2.2.2.1 s.2.2.2.2.2.2) 18446744073709551616 (at',many,left,t19,t20,t21,met)
def Ws(x:As eF):Option aF:=Wq NI x.1 x.2.1 x.2.2.1
abbrev pCb:=zp ahF ahG 347 ahE
theorem avI{J a}:pCb J 15 [] (ahH a)=aqf a:=by kernel_rfl
theorem avJ{J w1 w3 a b c d e f g h i j}:pCb J 501369 [w1,w3] (ahI a b c d e f g h i j)=ahJ (C w1 Au) (C w3 GV) a b c d e f g h i j:=by kernel_rfl
theorem avK{J w1 w3 a b c d e f g h i j}:pCb J 125342 [w1,w3] (GV a b c d e f g h i j)=NG (C (J 501369 [w1,w3]) ahI) (C w1 Au) (C w3 GV) a b c d e f g h i j:=by kernel_rfl
theorem avL{J w1 a b c d e f g}:pCb J 122 [w1] (Au a b c d e f g)=NF (C (J 15 []) ahH) (C (J 125342 [w1]) GV) (C w1 Au) a b c d e f g:=by kernel_rfl
abbrev pCa:=zj ahF ahG 347 ahE
theorem avM:C (pCa 15 []) ahH=NH:=gNC (by decide) fun _=>avI
theorem avN{w1 w3}:C (pCa 501369 [w1,w3]) ahI=GX (C w1 Au) (C w3 GV):=gNC (by decide) fun _=>avJ
theorem avO{w1}:C (pCa 125342 [w1]) GV=Dt (C w1 Au):=gLC (by decide) (by kernel_rfl) (fun _=>by unfold Dt;rfl) fun _ _=>avK.trans (by rw[avN]<;>kernel_rfl)
theorem avP:C (pCa 122 []) Au=NI:=gLC (by decide) (by kernel_rfl) (fun _=>by unfold NI;rfl) fun _ _=>avL.trans (by rw[avM,avO]<;>kernel_rfl)
theorem Wt:ak Tryz.prog (fun _=>True) 347 ⟨ahE,Ws⟩:=zcc (env:=ahF) (d:=6) (hs:=Ev.get ahG) (aj Nk (aj Nn (aj Wi (aj Ns (aj Nu av))))) (fun J x=>Wq (C (J 122 []) Au) x.1 x.2.1 x.2.2.1) (fun _ _=>by kernel_rfl) fun _=>by rw[avP]<;>rfl
@[reducible] def ahK:Sh:=⟨[.d eX,.d (.int .i64),.d (.int .i64),.fn (.func 354) [] [.pb 0 0,.pb 1 0]],[.box 3 [.d (.int .i64)],.box 3 [.d (.int .i64)]],cW,[.d (.bool)],[(0,.box 3 [.d (.int .i64)]),(1,.box 3 [.d (.int .i64)])],0,aO⟩
def ahL:Env:=(cts [(348,(⟨Nj,Ap⟩:Ct)),(349,(⟨Nl,EE⟩:Ct)),(350,(⟨Dp,vT⟩:Ct)),(353,(⟨Nr,IQ⟩:Ct)),(354,(⟨Nt,EF⟩:Ct))])
def ahM:List (Nat×Hint):=[(15,⟨[],[10]⟩),(122,⟨[],[1,2,3,9,10,19,20,21]⟩),(125342,⟨[],[1,2,3,9,10,12,14,15,19,20,21]⟩),(501369,⟨[],[1,2,3,9,10,12,14,15,19,20,21]⟩)]
def Av(at' many left:Int)(t19:List bq)(t20 t21 o o_2:Int)(met:List Bool):St:=⟨[(1,dI at'),(2,dI many),(3,.fn (.func 354) [] [.pb 0 0,.pb 1 0]),(9,.row 2),(10,dI left),(19,.d eX t19),(20,dI t20),(21,dI t21)],62,[],[(0,.box 3 [dI o]),(1,.box 3 [dI o_2]),(2,.row .bool 4 met)],3,[],2⟩
def ahN(left o o_2:Int):St:=⟨[(10,dI left)],62,[],[(0,.box 3 [dI o]),(1,.box 3 [dI o_2])],2,[],2⟩
def GY(at' many left to' i:Int)(t19:List bq)(t20 t21 o o_2:Int)(met:List Bool)(x:gD):St:=⟨[(1,dI at'),(2,dI many),(3,.fn (.func 354) [] [.pb 0 0,.pb 1 0]),(9,.row 2),(10,dI left),(12,.pb 3 0),(14,dI to'),(15,dI i),(19,.d eX t19),(20,dI t20),(21,dI t21)],62,[],[(0,.box 3 [dI o]),(1,.box 3 [dI o_2]),(2,.row .bool 4 met),(3,.box 250 [dI x.1,dI x.2.1,dB x.2.2.1,dB x.2.2.2.1,dB x.2.2.2.2])],4,[],2⟩
def ahO(at' many left to' i:Int)(t19:List bq)(t20 t21 o o_2:Int)(met:List Bool)(x:gD):St:=⟨[(1,dI at'),(2,dI many),(3,.fn (.func 354) [] [.pb 0 0,.pb 1 0]),(9,.row 2),(10,dI left),(12,.pb 3 0),(14,dI to'),(15,dI i),(19,.d eX t19),(20,dI t20),(21,dI t21)],62,[],[(0,.box 3 [dI o]),(1,.box 3 [dI o_2]),(2,.row .bool 4 met),(3,.box 250 [dI x.1,dI x.2.1,dB x.2.2.1,dB x.2.2.2.1,dB x.2.2.2.2])],4,[],2⟩
def NJ(j2:zH3)(j3:Int->Int->Int->Int->Int->List bq->Int->Int->Int->Int->List Bool->gD->Option aM)(self1:zH4)(at' many left:Int)(t19:List bq)(t20 t21 o o_2:Int)(met:List Bool):Option aM :=
 if lt t21 t20=true then zC (at? t19 t21) fun y=>if eqi left 0=true then j2 left o o_2 else zC (vT (y,at',add .i64 at' many,())) fun y_1=>j3 at' many left y_1.2.1 y_1.1 t19 t20 t21 o o_2 met y else j2 left o o_2
def aqg(left o o_2:Int):Option aM :=
 some (eqi left 0,o,o_2,())
def NK(j4:Int->Int->Int->Int->Int->List bq->Int->Int->Int->Int->List Bool->gD->Option aM)(self1:zH4)(self3:Int->Int->Int->Int->Int->List bq->Int->Int->Int->Int->List Bool->gD->Option aM)(at' many left to' i:Int)(t19:List bq)(t20 t21 o o_2:Int)(met:List Bool)(x:gD):Option aM :=
 if lt i to'=true then zC (at? met (Sx.sub .i64 i at')) fun x_1=>zC (at? met (Sx.sub .i64 i at')) fun y=>if y=true then j4 at' many left to' i t19 t20 t21 o o_2 met x else zC (EF (x,o,o_2,())) fun y=>if (!y.1)=true then some (false,y.2.1,y.2.2.1,()) else zC (at? met (Sx.sub .i64 i at')) fun x_2=>zC (at? met (Sx.sub .i64 i at')) fun x_3=>j4 at' many (Sx.sub .i64 left 1) to' i t19 t20 t21 y.2.1 y.2.2.1 (List.set met (zI (Sx.sub .i64 i at')) true) x else self1 at' many left t19 t20 (add .i64 t21 1) o o_2 met
def ahP(self1:zH4)(self3:Int->Int->Int->Int->Int->List bq->Int->Int->Int->Int->List Bool->gD->Option aM)(at' many left to' i:Int)(t19:List bq)(t20 t21 o o_2:Int)(met:List Bool)(x:gD):Option aM :=
 self3 at' many left to' (add .i64 i 1) t19 t20 t21 o o_2 met x
def Wu(j1:zH4)(areas:List bq)(at' many wanted areas_2:Int):Option aM :=
 need (ge many 0) (need (Ev.iX many many) (need (small (zI many)) (j1 at' many many areas (zF (zG areas)) 0 wanted areas_2 (zE (zI many) false))))
def NL:=aqg
def GZ(u1:zH4)(u3:Int->Int->Int->Int->Int->List bq->Int->Int->Int->Int->List Bool->gD->Option aM):=ahP u1 u3
def Du(u1:zH4)(at' many left to' i:Int)(t19:List bq)(t20 t21 o o_2:Int)(met:List Bool)(x:gD):Option aM :=
 bu (fun self s=>NK (GZ u1 (fun at' many left to' i t19 t20 t21 o o_2 met x=>self (at',many,left,to',i,t19,t20,t21,o,o_2,met,x))) u1 (fun at' many left to' i t19 t20 t21 o o_2 met x=>self (at',many,left,to',i,t19,t20,t21,o,o_2,met,x)) s.1 s.2.1 s.2.2.1 s.2.2.2.1 s.2.2.2.2.1 s.2.2.2.2.2.1 s.2.2.2.2.2.2.1 s.2.2.2.2.2.2.2.1 s.2.2.2.2.2.2.2.2.1 s.2.2.2.2.2.2.2.2.2.1 s.2.2.2.2.2.2.2.2.2.2.1 s.2.2.2.2.2.2.2.2.2.2.2) 18446744073709551616 (at',many,left,to',i,t19,t20,t21,o,o_2,met,x)
def NM(at' many left:Int)(t19:List bq)(t20 t21 o o_2:Int)(met:List Bool):Option aM :=
 bu (fun self s=>NJ (NL) (Du (fun at' many left t19 t20 t21 o o_2 met=>self (at',many,left,t19,t20,t21,o,o_2,met))) (fun at' many left t19 t20 t21 o o_2 met=>self (at',many,left,t19,t20,t21,o,o_2,met)) s.1 s.2.1 s.2.2.1 s.2.2.2.1 s.2.2.2.2.1 s.2.2.2.2.2.1 s.2.2.2.2.2.2.1 s.2.2.2.2.2.2.2.1 s.2.2.2.2.2.2.2.2) 18446744073709551616 (at',many,left,t19,t20,t21,o,o_2,met)
def Wv(x:As cW):Option aM:=Wu NM x.1 x.2.1 x.2.2.1 x.2.2.2.1 x.2.2.2.2.1
abbrev pCd:=zp ahL ahM 347 ahK
theorem avQ{J a b c}:pCd J 15 [] (ahN a b c)=aqg a b c:=by kernel_rfl
theorem avR{J w1 w3 a b c d e f g h i j k l}:pCd J 501369 [w1,w3] (ahO a b c d e f g h i j k l)=ahP (C w1 Av) (C w3 GY) a b c d e f g h i j k l:=by kernel_rfl
theorem avS{J w1 w3 a b c d e f g h i j k l}:pCd J 125342 [w1,w3] (GY a b c d e f g h i j k l)=NK (C (J 501369 [w1,w3]) ahO) (C w1 Av) (C w3 GY) a b c d e f g h i j k l:=by kernel_rfl
theorem avT{J w1 a b c d e f g h i}:pCd J 122 [w1] (Av a b c d e f g h i)=NJ (C (J 15 []) ahN) (C (J 125342 [w1]) GY) (C w1 Av) a b c d e f g h i:=by kernel_rfl
abbrev pCc:=zj ahL ahM 347 ahK
theorem avU:C (pCc 15 []) ahN=NL:=gNC (by decide) fun _=>avQ
theorem avV{w1 w3}:C (pCc 501369 [w1,w3]) ahO=GZ (C w1 Av) (C w3 GY):=gNC (by decide) fun _=>avR
theorem avW{w1}:C (pCc 125342 [w1]) GY=Du (C w1 Av):=gLC (by decide) (by kernel_rfl) (fun _=>by unfold Du;rfl) fun _ _=>avS.trans (by rw[avV]<;>kernel_rfl)
theorem avX:C (pCc 122 []) Av=NM:=gLC (by decide) (by kernel_rfl) (fun _=>by unfold NM;rfl) fun _ _=>avT.trans (by rw[avU,avW]<;>kernel_rfl)
theorem Ww:ak Tryz.prog (fun _=>True) 347 ⟨ahK,Wv⟩:=zcc (env:=ahL) (d:=6) (hs:=Ev.get ahM) (aj Nk (aj Nn (aj Wi (aj Ns (aj Nu av))))) (fun J x=>Wu (C (J 122 []) Av) x.1 x.2.1 x.2.2.1 x.2.2.2.1 x.2.2.2.2.1) (fun _ _=>by kernel_rfl) fun _=>by rw[avX]<;>rfl
@[reducible] def dE:List Ty:=[.pr eX (.sl .bool),.int .i64,.int .i64]
@[reducible] def aqh:Sh:=⟨[.d bJ,.d (.int .i64),.d (.int .i64)],[],dE,[.d (.bool)],[],0,[.bool]⟩
def aAD(t:List bq×List Bool)(at' many:Int):Option aF :=
 zC (Wk (t.1,at',many,())) fun y=>some (y.1,())
def Dv(x:As dE):Option aF:=aAD x.1 x.2.1 x.2.2.1
theorem aAE:ak Tryz.prog (fun _=>True) 345 ⟨aqh,Dv⟩:=ctn (aj Wl (aj Wp (aj Wt (aj Ww (aj Nk av))))) 6 fun J x=>by kernel_rfl
@[reducible] def aqi:Sh:=⟨[.d bJ,.d (.int .i64),.d (.int .i64)],[],dE,[.d (.bool)],[],0,[.bool]⟩
def aAF(t:List bq×List Bool)(at' many:Int):Option aF :=
 zC (Wo (t.1,at',many,at',many,())) fun y=>some (y.1,())
def Dw(x:As dE):Option aF:=aAF x.1 x.2.1 x.2.2.1
theorem aAG:ak Tryz.prog (fun _=>True) 346 ⟨aqi,Dw⟩:=ctn (aj Wl (aj Wp (aj Wt (aj Ww (aj Nn av))))) 6 fun J x=>by kernel_rfl
@[reducible] def dP:List Ty:=[.pr eX aC,.int .i64,.int .i64]
@[reducible] def aqj:Sh:=⟨[.d cH,.d (.int .i64),.d (.int .i64)],[],dP,[.d (.bool)],[],0,[.bool]⟩
def aAH(t:List bq×List Int)(at' many:Int):Option aF :=
 zC (Ws (t.1,at',many,())) fun y=>some (y.1,())
def Aw(x:As dP):Option aF:=aAH x.1 x.2.1 x.2.2.1
theorem aAI:ak Tryz.prog (fun _=>True) 351 ⟨aqj,Aw⟩:=ctn (aj Wl (aj Wp (aj Wt (aj Ww (aj Ns av))))) 6 fun J x=>by kernel_rfl
@[reducible] def aqk:Sh:=⟨[.d cH,.d (.int .i64),.d (.int .i64)],[],dP,[.d (.bool)],[],0,[.bool]⟩
def aAJ(t:List bq×List Int)(at' many:Int):Option aF :=
 zC (Wv (t.1,at',many,at',many,())) fun y=>some (y.1,())
def EG(x:As dP):Option aF:=aAJ x.1 x.2.1 x.2.2.1
theorem aAK:ak Tryz.prog (fun _=>True) 352 ⟨aqk,EG⟩:=ctn (aj Wl (aj Wp (aj Wt (aj Ww (aj Nu av))))) 6 fun J x=>by kernel_rfl
@[reducible] def NN:Sh:=⟨[.d (.pr eX aZ),.d bA],[],[.pr eX aZ,.pr (.int .u8) jH],[.d (.int .u8)],[],0,[.int .u8]⟩
def ahQ:Env:=(cts [(105,(⟨C6,tX⟩:Ct)),(221,(⟨amx,GL⟩:Ct)),(222,(⟨ahf,GM⟩:Ct)),(224,(⟨ahh,Dn⟩:Ct)),(345,(⟨aqh,Dv⟩:Ct)),(346,(⟨aqi,Dw⟩:Ct)),(351,(⟨aqj,Aw⟩:Ct)),(352,(⟨aqk,EG⟩:Ct))])
def ahR:List (Nat×Hint):=[(509,⟨[],[60]⟩),(125,⟨[],[3,5,6,40,55,56,57,58,59]⟩)]
@[reducible] def dR:Type:=List bq×List Bool
@[reducible] def zH5:Type:=dR×dR×(List bq×List Int)×List bq×List Int
def ahS(t40:Bool)(a:zH1)(v:zH5)(u:Int×Int):St:=⟨[(3,.pb 0 0),(5,.pb 1 0),(6,.pb 2 0),(40,dB t40)],61,[],[(0,.box 27 [d8 a.1,d6 a.2.1,d6 a.2.2.1,d6 a.2.2.2.1,dW a.2.2.2.2.1,.d (.sl .bool) a.2.2.2.2.2]),(1,.box 275 [.d eX v.1.1,.d (.sl .bool) v.1.2,.d eX v.2.1.1,.d (.sl .bool) v.2.1.2,.d eX v.2.2.1.1,dW v.2.2.1.2,.d eX v.2.2.2.1,dW v.2.2.2.2]),(2,.box 279 [dI u.1,dI u.2])],3,[],0⟩
def ahT(t60:Bool):St:=⟨[(60,dB t60)],61,[],[],0,[],0⟩
def amA(j2:Bool->Option (As [.int .u8]))(t40:Bool)(a:zH1)(v:zH5)(u:Int×Int):Option (As [.int .u8]) :=
 if t40=true then some (2,()) else zC (Dn (a,())) fun y=>if eqi u.2 1=true then zC (Dw (v.1,y.1,y.2.1,())) fun y=>j2 !y.1 else if eqi u.2 2=true then zC (Dw (v.2.1,y.1,y.2.1,())) fun y=>j2 !y.1 else if eqi u.2 3=true then zC (EG (v.2.2.1,y.1,y.2.1,())) fun y=>j2 !y.1 else if eqi u.2 4=true then zC (EG (v.2.2.2,y.1,y.2.1,())) fun y=>j2 !y.1 else j2 false
def aql(t60:Bool):Option (As [.int .u8]) :=
 if t60=true then some (2,()) else some (0,())
def Wx(j1:Bool->Int×Int×Int×Int×List Int×List Bool->dR×dR×(List bq×List Int)×List bq×List Int->Int×Int->Option (As [.int .u8]))(s:List bq×List bq×List bq×List bq)(a:zH1):Option (As [.int .u8]) :=
 zC (tX (a,())) fun y=>if (!y.1)=true then some (3,()) else zC (GL (s,([],[],[],[]),())) fun y=>zC (GM (a.1,())) fun y_1=>if eqi y_1.1.1 1=true then zC (Dv (y.1.1,cvt .i64 a.2.1,cvt .i64 a.2.2.1,())) fun y_2=>j1 (!y_2.1) a y.1 y_1.1 else if eqi y_1.1.1 2=true then zC (Dv (y.1.2.1,cvt .i64 a.2.1,cvt .i64 a.2.2.1,())) fun y_2=>j1 (!y_2.1) a y.1 y_1.1 else if eqi y_1.1.1 3=true then zC (Aw (y.1.2.2.1,cvt .i64 a.2.1,cvt .i64 a.2.2.1,())) fun y_2=>j1 (!y_2.1) a y.1 y_1.1 else if eqi y_1.1.1 4=true then zC (Aw (y.1.2.2.2,cvt .i64 a.2.1,cvt .i64 a.2.2.1,())) fun y_2=>j1 (!y_2.1) a y.1 y_1.1 else j1 false a y.1 y_1.1
def Ay:=aql
def qd:=amA (Ay)
def Dx(x:As [.pr eX aZ,.pr (.int .u8) jH]):Option (As [.int .u8]):=Wx qd x.1 x.2.1
abbrev pB3:=zp ahQ ahR 164 NN
theorem avY{J a}:pB3 J 509 [] (ahT a)=aql a:=by kernel_rfl
theorem avZ{J a b c d}:pB3 J 125 [] (ahS a b c d)=amA (C (J 509 []) ahT) a b c d:=by kernel_rfl
abbrev pB2:=zj ahQ ahR 164 NN
theorem av0:C (pB2 509 []) ahT=Ay:=gNC (by decide) fun _=>avY
theorem av1:C (pB2 125 []) ahS=qd:=gNC (by decide) fun _=>avZ.trans (by rw[av0]<;>kernel_rfl)
theorem aqm:ak Tryz.prog (fun _=>True) 164 ⟨NN,Dx⟩:=zcc (env:=ahQ) (d:=6) (hs:=Ev.get ahR) (aj LJ (aj amy (aj amz (aj aqc (aj aAE (aj aAG (aj aAI (aj aAK av)))))))) (fun J x=>Wx (C (J 125 []) ahS) x.1 x.2.1) (fun _ _=>by kernel_rfl) fun _=>by rw[av1]<;>rfl
@[reducible] def dQ:List Ty:=[.pr eX aZ]
@[reducible] def NP:Sh:=⟨[],[],[],[.d (.pr eX aZ)],[],0,dQ⟩
def ahU:Env:=(cts [])
def ahV:List (Nat×Hint):=[(7,⟨[],[0,1]⟩),(58,⟨[],[0,1,8]⟩)]
def Wy(t8:Int)(words:List bq):St:=⟨[(0,.pb 0 0),(1,.row 1),(8,dI t8)],27,[],[(0,.box 189 [.k (zK zH 0 0),.k (zK zH 0 0),.k (zK zH 0 0),.k (zK zH 0 0)]),(1,.row bO 250 words)],2,[],0⟩
def ahW(words:List bq):St:=⟨[(0,.pb 0 0),(1,.row 1)],27,[],[(0,.box 189 [.k (zK zH 0 0),.k (zK zH 0 0),.k (zK zH 0 0),.k (zK zH 0 0)]),(1,.row bO 250 words)],2,[],0⟩
@[reducible] def dG:Type:=As dQ
@[reducible] def zH6:Type:=Int->List bq->Option dG
def aqn(j2:List bq->Option dG)(self1:zH6)(t8:Int)(words:List bq):Option dG :=
 if lt t8 8=true then need (small (zG words+Nat.succ 0)) (self1 (add .i64 t8 1) (words++[(add .i64 512 (mul .i64 t8 32),20,true,false,false)])) else j2 words
def amB(words:List bq):Option dG :=
 some (([(0,16,true,true,false)],[(0,8,true,false,false)],words,[(0,8,true,false,false)]),())
def aqo(j1:zH6):Option dG :=
 j1 0 [(0,64,true,false,false),(256,8,true,false,false),(272,8,false,true,true),(288,20,false,true,true)]
def amC:=amB
def ahX(t8:Int)(words:List bq):Option dG :=
 bu (fun self s=>aqn (amC) (fun t8 words=>self (t8,words)) s.1 s.2) 18446744073709551616 (t8,words)
def ug(x:As []):Option dG:=aqo ahX
abbrev pC7:=zp ahU ahV 165 NP
theorem av2{J a}:pC7 J 7 [] (ahW a)=amB a:=by kernel_rfl
theorem av3{J w1 a b}:pC7 J 58 [w1] (Wy a b)=aqn (C (J 7 []) ahW) (C w1 Wy) a b:=by kernel_rfl
abbrev pC6:=zj ahU ahV 165 NP
theorem av4:C (pC6 7 []) ahW=amC:=gNC (by decide) fun _=>av2
theorem av5:C (pC6 58 []) Wy=ahX:=gLC (by decide) (by kernel_rfl) (fun _=>by unfold ahX;rfl) fun _ _=>av3.trans (by rw[av4]<;>kernel_rfl)
theorem amD:ak Tryz.prog (fun _=>True) 165 ⟨NP,ug⟩:=zcc (env:=ahU) (d:=6) (hs:=Ev.get ahV) av (fun J x=>aqo (C (J 58 []) Wy)) (fun _ _=>by kernel_rfl) fun _=>by rw[av5]<;>rfl
@[reducible] def bW:List Ty:=[.pr (.sl .bool) BS]
@[reducible] def bU:Type:=As bW
def av6(m:List Bool×List Bool×List Int×List Int):Option bU :=
 zC (zU (m.1,())) fun y=>zC (zU (m.2.1,())) fun y_1=>zC (lW (m.2.2.1,())) fun y_2=>zC (lW (m.2.2.2,())) fun y_3=>some ((y.1,y_1.1,y_2.1,y_3.1),())
def aBl(x:As bW):Option bU:=av6 x.1
end Go.Proofs.Lx
end
