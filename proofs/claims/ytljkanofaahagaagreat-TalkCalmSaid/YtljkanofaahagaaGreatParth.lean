/- Proved in the last of these 16 parts (this is part 8): TalkCalm. Conditions: those of the given statement, and no others. -/
import Derived.Test.YtljkanofaahagaaGreatPartd
import Derived.Test.YtljkanofaahagaaGreatPartg
import Derived.Test.YtljkanofaahagaaGreatProg
import Derived.Test.YtljkanofaahagaaGreatParte
set_option linter.unusedVariables false
set_option linter.unusedSimpArgs false
set_option linter.unusedSectionVars false
open Option renaming bind → zC, none → zH
open List renaming replicate → zE, length → zG, getD → zJ
open Int renaming ofNat → zF, toNat → zI
open Go.Value renaming slice → zK
noncomputable section
open Go Go.Proofs Ev Sx
set_option maxRecDepth 100000
namespace Go.Proofs.Lx
abbrev iN:Type:=Int×Int×Bool×Bool×Bool
@[reducible] def aR:List Ty:=[.int .u8,.int .u8,.sl (.int .u16),.int .u16,.int .i64,.int .u8,.int .u32,.int .u32,.int .u32,.bool,.bool,.bool,.bool,.bool,.bool,.bool,.bool,.int .i64,.sl (.int .u16),.int .i64,.sl (.int .u16),.int .i64,.sl (.int .u16),.int .i64,.sl (.int .u16),.int .i64,.sl (.int .u16),.int .i64,.sl (.int .u16),.int .i64,.sl (.int .u16),.int .i64,.sl (.int .u16),.int .i64,.sl .bool]
@[reducible] def ay9:Sh:=⟨[.d bB],[],cS,[.agg [.d (.int .u8),.d (.int .u8),.d aB,.d (.int .u16),.d (.int .i64),.d (.int .u8),.d (.int .u32),.d (.int .u32),.d (.int .u32),.d (.bool),.d (.bool),.d (.bool),.d (.bool),.d (.bool),.d (.bool),.d (.bool),.d (.bool),.d (.int .i64),.d aB,.d (.int .i64),.d aB,.d (.int .i64),.d aB,.d (.int .i64),.d aB,.d (.int .i64),.d aB,.d (.int .i64),.d aB,.d (.int .i64),.d aB,.d (.int .i64),.d aB,.d (.int .i64),.row 0]],[(0,.row .bool 4)],1,aR⟩
def aza:Env:=(cts [(1000045,Ev.iw),(1000226,Ev.iw),(45,(⟨IW,nR⟩:Ct)),(113,(⟨Wo,Fe⟩:Ct))])
def aj5(s:Int×Int×kL×List Bool):Option (As aR) :=
 zC (Fe (s.2.2.2,())) fun y=>zC (nR (s.2.2.1.1,())) fun y_1=>zC (nR ((zJ s.2.2.1.2.2.2.2.2.1.2.2 0 (0,[])).2,())) fun y_2=>zC (nR ((zJ s.2.2.1.2.2.2.2.2.1.2.2 1 (0,[])).2,())) fun y_3=>zC (nR ((zJ s.2.2.1.2.2.2.2.2.1.2.2 2 (0,[])).2,())) fun y_4=>zC (nR ((zJ s.2.2.1.2.2.2.2.2.1.2.2 3 (0,[])).2,())) fun y_5=>zC (nR ((zJ s.2.2.1.2.2.2.2.2.1.2.2 4 (0,[])).2,())) fun y_6=>zC (nR ((zJ s.2.2.1.2.2.2.2.2.1.2.2 5 (0,[])).2,())) fun y_7=>zC (nR ((zJ s.2.2.1.2.2.2.2.2.1.2.2 6 (0,[])).2,())) fun y_8=>zC (nR ((zJ s.2.2.1.2.2.2.2.2.1.2.2 7 (0,[])).2,())) fun y_9=>some (s.1,s.2.1,y_1.1,s.2.2.1.2.1.1,s.2.2.1.2.1.2,s.2.2.1.2.2.1,s.2.2.1.2.2.2.1,s.2.2.1.2.2.2.2.1,s.2.2.1.2.2.2.2.2.1.1,zJ s.2.2.1.2.2.2.2.2.1.2.1 0 false,zJ s.2.2.1.2.2.2.2.2.1.2.1 1 false,zJ s.2.2.1.2.2.2.2.2.1.2.1 2 false,zJ s.2.2.1.2.2.2.2.2.1.2.1 3 false,zJ s.2.2.1.2.2.2.2.2.1.2.1 4 false,zJ s.2.2.1.2.2.2.2.2.1.2.1 5 false,zJ s.2.2.1.2.2.2.2.2.1.2.1 6 false,zJ s.2.2.1.2.2.2.2.2.1.2.1 7 false,(zJ s.2.2.1.2.2.2.2.2.1.2.2 0 (0,[])).1,y_2.1,(zJ s.2.2.1.2.2.2.2.2.1.2.2 1 (0,[])).1,y_3.1,(zJ s.2.2.1.2.2.2.2.2.1.2.2 2 (0,[])).1,y_4.1,(zJ s.2.2.1.2.2.2.2.2.1.2.2 3 (0,[])).1,y_5.1,(zJ s.2.2.1.2.2.2.2.2.1.2.2 4 (0,[])).1,y_6.1,(zJ s.2.2.1.2.2.2.2.2.1.2.2 5 (0,[])).1,y_7.1,(zJ s.2.2.1.2.2.2.2.2.1.2.2 6 (0,[])).1,y_8.1,(zJ s.2.2.1.2.2.2.2.2.1.2.2 7 (0,[])).1,y_9.1,s.2.2.1.2.2.2.2.2.2,y.1,())
def Zf(x:As cS):Option (As aR):=aj5 x.1
theorem azb:au Tryz.prog (fun _=>True) 99 ⟨ay9,Zf⟩:=ctn (env:=aza) (aj Ev.gJ (aj Ev.gJ (aj BS (aj atJ bq)))) 6 fun J x=>by kernel_rfl
@[reducible] def PZ:Sh:=⟨[.d aL],[],aI,[.d aB],[],0,aJ⟩
def aj6:Env:=(cts [])
def aj7:List (Nat×Hint):=[(58,⟨[],[0,3,10,11]⟩)]
def Zg(b:List Int)(t10 t11:Int)(l:List Int):St:=⟨[(0,dL b),(3,.row 0),(10,dI t10),(11,dI t11)],34,[],[(0,.row (.int .u16) 25 l)],1,[],0⟩
@[reducible] def zH0:Type:=List Int->Int->Int->List Int->Option bY
def P4(self1:zH0)(b:List Int)(t10 t11:Int)(l:List Int):Option bY :=
 if lt t11 t10=true then zC (at? b (mul .i64 2 t11)) fun y=>zC (at? b (add .i64 (mul .i64 2 t11) 1)) fun y_1=>zC (at? l t11) fun x=>zC (at? l t11) fun x=>self1 b t10 (add .i64 t11 1) (List.set l (zI t11) (Sx.bor .u16 (Sx.shl .u16 (cvt .u16 y) 8) (cvt .u16 y_1))) else some (l,())
def Zh(j1:zH0)(b:List Int):Option bY :=
 need (ge (quo .i64 (zF (zG b)) 2) 0) (need (Ev.jR (quo .i64 (zF (zG b)) 2) (quo .i64 (zF (zG b)) 2)) (need (small (zI (quo .i64 (zF (zG b)) 2))) (j1 b (zF (zG (zE (α:=Int) (zI (quo .i64 (zF (zG b)) 2)) 0))) 0 (zE (zI (quo .i64 (zF (zG b)) 2)) 0))))
def P5(b:List Int)(t10 t11:Int)(l:List Int):Option bY :=
 cu (fun self s=>P4 (fun b t10 t11 l=>self (b,t10,t11,l)) s.1 s.2.1 s.2.2.1 s.2.2.2) 18446744073709551616 (b,t10,t11,l)
def yC(x:As aI):Option bY:=Zh P5 x.1
abbrev pAx:=zp aj6 aj7 272 PZ
theorem azc{J w1 a b c d}:pAx J 58 [w1] (Zg a b c d)=P4 (C w1 Zg) a b c d:=by kernel_rfl
abbrev pAw:=zj aj6 aj7 272 PZ
theorem azd:C (pAw 58 []) Zg=P5:=gLC (by decide) (by kernel_rfl) (fun _=>by unfold P5;rfl) fun _ _=>azc.trans (by kernel_rfl)
theorem aqg:au Tryz.prog (fun _=>True) 272 ⟨PZ,yC⟩:=zcc (env:=aj6) (d:=6) (hs:=Ev.get aj7) bq (fun J x=>Zh (C (J 58 []) Zg) x.1) (fun _ _=>by kernel_rfl) fun _=>by rw[azd]<;>rfl
@[reducible] def bS:List Ty:=[.pr (.int .u8) lC,.bool]
@[reducible] def Zi:Sh:=⟨[.d bA,.d (.pr (.int .i64) vo),.d aL],[],[.pr (.int .u8) lC,.pr (.int .i64) vo,.sl (.int .u8)],[.d bA,.d (.bool)],[],0,bS⟩
def aj8:Env:=(cts [(272,(⟨PZ,yC⟩:Ct)),(288,(⟨Yw,Jt⟩:Ct))])
def aj9:List (Nat×Hint):=[(15,⟨[.frb 3,.frb 6],[3,6]⟩)]
def akb(a a_2 a_3 a_4:Int)(a_5:List Int)(a_6:List Bool)(t6 t6_2 t6_3 t6_4:Int)(t6_5:List Int)(t6_6:List Bool):St:=⟨[(3,.pb 0 0),(6,.pb 1 0)],63,[],[(0,.box 27 [d8 a,d6 a_2,d6 a_3,d6 a_4,dW a_5,.d (.sl .bool) a_6]),(1,.box 27 [d8 t6,d6 t6_2,d6 t6_3,d6 t6_4,dW t6_5,.d (.sl .bool) t6_6])],2,[],0⟩
@[reducible] def bR:Type:=As bS
def aqh(a a_2 a_3 a_4:Int)(a_5:List Int)(a_6:List Bool)(t6 t6_2 t6_3 t6_4:Int)(t6_5:List Int)(t6_6:List Bool):Option bR :=
 some ((a,a_2,a_3,a_4,a_5,a_6),true,())
@[reducible] def zH1:Type:=Int×Int×Int×Int×List Int×List Bool
def Zj(j1:Int->Int->Int->Int->List Int->List Bool->Int->Int->Int->Int->List Int->List Bool->Option bR)(a:zH1)(s:Int×Int×Int×Bool×Bool)(rest:List Int):Option bR :=
 if eqi (add .i64 s.2.1 s.2.2.1) 0=true then some (a,true,()) else if lt (zF (zG rest)) 2=true then some ((0,0,0,0,[],[]),false,()) else if eqi a.1 5=true then zC (at? rest 0) fun y=>j1 a.1 a.2.1 a.2.2.1 a.2.2.2.1 a.2.2.2.2.1 [nei y 0] 0 0 0 0 [] [] else if eqi a.1 6=true then zC (yC (rest,())) fun y=>j1 a.1 a.2.1 a.2.2.1 a.2.2.2.1 y.1 a.2.2.2.2.2 0 0 0 0 [] [] else if gt s.2.1 0=true then zC (cut rest 1 (zF (zG rest))) fun y=>zC (Jt (y,())) fun y=>if lt (zF (zG y.1)) (cvt .i64 a.2.2.1)=true then some ((0,0,0,0,[],[]),false,()) else zC (cut y.1 0 a.2.2.1) fun y_1=>need (le a.2.2.1 a.2.2.1) (need (le a.2.2.1 (zF (zG y.1))) (j1 a.1 a.2.1 a.2.2.1 a.2.2.2.1 a.2.2.2.2.1 y_1 0 0 0 0 [] [])) else zC (cut rest 1 (zF (zG rest))) fun y=>zC (yC (y,())) fun y=>j1 a.1 a.2.1 a.2.2.1 a.2.2.2.1 y.1 a.2.2.2.2.2 0 0 0 0 [] []
def akc:=aqh
def tq(x:As [.pr (.int .u8) lC,.pr (.int .i64) vo,.sl (.int .u8)]):Option bR:=Zj akc x.1 x.2.1 x.2.2.1
abbrev pA3:=zp aj8 aj9 273 Zi
theorem aze{J a b c d e f g h i j k l}:pA3 J 15 [] (akb a b c d e f g h i j k l)=aqh a b c d e f g h i j k l:=by kernel_rfl
abbrev pA2:=zj aj8 aj9 273 Zi
theorem azf:C (pA2 15 []) akb=akc:=gNC (by decide) fun _=>aze
theorem azg:au Tryz.prog (fun _=>True) 273 ⟨Zi,tq⟩:=zcc (env:=aj8) (d:=6) (hs:=Ev.get aj9) (aj aqg (aj ap7 bq)) (fun J x=>Zj (C (J 15 []) akb) x.1 x.2.1 x.2.2.1) (fun _ _=>by kernel_rfl) fun _=>by rw[azf]<;>rfl
@[reducible] def Zk:Sh:=⟨[.d aL],[],aI,[.d bA,.d (.bool)],[],0,bS⟩
def akd:Env:=(cts [(106,(⟨Ws,Al⟩:Ct)),(272,(⟨PZ,yC⟩:Ct)),(273,(⟨Zi,tq⟩:Ct))])
def ake:List (Nat×Hint):=[(255,⟨[],[2,4,6,7,8]⟩),(511,⟨[],[2,4,7,8]⟩),(6,⟨[],[0,2,16]⟩)]
def Zl(b:List Int)(t16:Bool)(t2 t2_2 t2_3 t2_4:Int):St:=⟨[(0,dL b),(2,.pb 0 0),(16,dB t16)],67,[],[(0,.box 27 [d8 t2,d6 t2_2,d6 t2_3,d6 t2_4,.k (zK zH 0 0),.k (zK zH 0 0)])],1,[],0⟩
def Zm(l rest:List Int)(t2 t2_2 t2_3 t2_4 s s_2 s_3:Int)(s_4 s_5:Bool)(a a_2 a_3 a_4:Int):St:=⟨[(2,.pb 0 0),(4,.pb 1 0),(6,dW l),(7,.pb 2 0),(8,dL rest)],67,[],[(0,.box 27 [d8 t2,d6 t2_2,d6 t2_3,d6 t2_4,.k (zK zH 0 0),.k (zK zH 0 0)]),(1,.box 151 [dI s,dI s_2,dI s_3,dB s_4,dB s_5]),(2,.box 27 [d8 a,d6 a_2,d6 a_3,d6 a_4,.k (zK zH 0 0),.k (zK zH 0 0)])],3,[],0⟩
def Zn(rest:List Int)(t2 t2_2 t2_3 t2_4 s s_2 s_3:Int)(s_4 s_5:Bool)(a a_2 a_3 a_4:Int):St:=⟨[(2,.pb 0 0),(4,.pb 1 0),(7,.pb 2 0),(8,dL rest)],67,[],[(0,.box 27 [d8 t2,d6 t2_2,d6 t2_3,d6 t2_4,.k (zK zH 0 0),.k (zK zH 0 0)]),(1,.box 151 [dI s,dI s_2,dI s_3,dB s_4,dB s_5]),(2,.box 27 [d8 a,d6 a_2,d6 a_3,d6 a_4,.k (zK zH 0 0),.k (zK zH 0 0)])],3,[],0⟩
def Ch(j2:List Int->List Int->Int->Int->Int->Int->Int->Int->Int->Bool->Bool->Int->Int->Int->Int->Option bR)(b:List Int)(t16:Bool)(t2 t2_2 t2_3 t2_4:Int):Option bR :=
 if t16=true then some ((0,0,0,0,[],[]),false,()) else zC (at? b 0) fun y=>zC (Al (y,())) fun y=>if (!y.2.1)=true then some ((0,0,0,0,[],[]),false,()) else zC (cut b 1 (zF (zG b))) fun y_1=>zC (yC (y_1,())) fun y_2=>zC (at? b 0) fun y_3=>zC (at? y_2.1 0) fun y_4=>zC (cut b 3 (zF (zG b))) fun y_5=>if gt y.1.1 0=true then zC (at? y_2.1 1) fun y_6=>zC (cut b 5 (zF (zG b))) fun y_7=>j2 y_2.1 y_7 t2 t2_2 t2_3 t2_4 y.1.1 y.1.2.1 y.1.2.2.1 y.1.2.2.2.1 y.1.2.2.2.2 y_3 y_4 y_6 0 else j2 y_2.1 y_5 t2 t2_2 t2_3 t2_4 y.1.1 y.1.2.1 y.1.2.2.1 y.1.2.2.2.1 y.1.2.2.2.2 y_3 y_4 0 0
def Zo(j3:List Int->Int->Int->Int->Int->Int->Int->Int->Bool->Bool->Int->Int->Int->Int->Option bR)(l rest:List Int)(t2 t2_2 t2_3 t2_4 s s_2 s_3:Int)(s_4 s_5:Bool)(a a_2 a_3 a_4:Int):Option bR :=
 if s_4=true then if lt (zF (zG rest)) 4=true then some ((0,0,0,0,[],[]),false,()) else zC (at? l 2) fun y=>zC (cut rest 4 (zF (zG rest))) fun y_1=>j3 y_1 t2 t2_2 t2_3 t2_4 s s_2 s_3 s_4 s_5 a a_2 a_3 y else j3 rest t2 t2_2 t2_3 t2_4 s s_2 s_3 s_4 s_5 a a_2 a_3 a_4
def aqi(rest:List Int)(t2 t2_2 t2_3 t2_4 s s_2 s_3:Int)(s_4 s_5:Bool)(a a_2 a_3 a_4:Int):Option bR :=
 zC (tq ((a,a_2,a_3,a_4,[],[]),(s,s_2,s_3,s_4,s_5),rest,())) fun y=>some (y.1,y.2.1,())
def yD(j1:List Int->Bool->Int->Int->Int->Int->Option bR)(b:List Int):Option bR :=
 if lt (zF (zG b)) 5=true then j1 b true 0 0 0 0 else j1 b (gt (zF (zG b)) 253) 0 0 0 0
def akf:=aqi
def Au:=Zo (akf)
def FJ:=Ch (Au)
def Ci(x:As aI):Option bR:=yD FJ x.1
abbrev pA1:=zp akd ake 251 Zk
theorem azh{J a b c d e f g h i j k l m n}:pA1 J 511 [] (Zn a b c d e f g h i j k l m n)=aqi a b c d e f g h i j k l m n:=by kernel_rfl
theorem azi{J a b c d e f g h i j k l m n o}:pA1 J 255 [] (Zm a b c d e f g h i j k l m n o)=Zo (C (J 511 []) Zn) a b c d e f g h i j k l m n o:=by kernel_rfl
theorem azj{J a b c d e f}:pA1 J 6 [] (Zl a b c d e f)=Ch (C (J 255 []) Zm) a b c d e f:=by kernel_rfl
abbrev pA0:=zj akd ake 251 Zk
theorem azk:C (pA0 511 []) Zn=akf:=gNC (by decide) fun _=>azh
theorem azl:C (pA0 255 []) Zm=Au:=gNC (by decide) fun _=>azi.trans (by rw[azk]<;>kernel_rfl)
theorem azm:C (pA0 6 []) Zl=FJ:=gNC (by decide) fun _=>azj.trans (by rw[azl]<;>kernel_rfl)
theorem azn:au Tryz.prog (fun _=>True) 251 ⟨Zk,Ci⟩:=zcc (env:=akd) (d:=6) (hs:=Ev.get ake) (aj Wt (aj aqg (aj azg bq))) (fun J x=>yD (C (J 6 []) Zl) x.1) (fun _ _=>by kernel_rfl) fun _=>by rw[azm]<;>rfl
@[reducible] def eD:List Ty:=[.pr (.int .u8) lC,.int .i64]
@[reducible] def akg:Sh:=⟨[.d aL],[],aI,[.d bA,.d (.int .i64)],[],0,eD⟩
def akh:Env:=(cts [(50,(⟨WK,Fj⟩:Ct)),(112,(⟨ai5,pU⟩:Ct)),(251,(⟨Zk,Ci⟩:Ct))])
def aki:List (Nat×Hint):=[(61,⟨[],[2,4,28]⟩)]
def akj(t28:Bool)(t2 t2_2 t2_3 t2_4 a a_2 a_3 a_4:Int)(a_5:List Int)(a_6:List Bool):St:=⟨[(2,.pb 0 0),(4,.pb 1 0),(28,dB t28)],31,[],[(0,.box 27 [d8 t2,d6 t2_2,d6 t2_3,d6 t2_4,.k (zK zH 0 0),.k (zK zH 0 0)]),(1,.box 27 [d8 a,d6 a_2,d6 a_3,d6 a_4,dW a_5,.d (.sl .bool) a_6])],2,[],0⟩
def aqj(t28:Bool)(t2 t2_2 t2_3 t2_4 a a_2 a_3 a_4:Int)(a_5:List Int)(a_6:List Bool):Option (As eD) :=
 if t28=true then some ((0,0,0,0,[],[]),12,()) else some ((a,a_2,a_3,a_4,a_5,a_6),0,())
def JI(j1:Bool->Int->Int->Int->Int->Int->Int->Int->Int->List Int->List Bool->Option (As eD))(b:List Int):Option (As eD) :=
 zC (Ci (b,())) fun y=>if (!y.2.1)=true then some ((0,0,0,0,[],[]),12,()) else zC (Fj (y.1,())) fun y_1=>if nei y_1.2.1 0=true then j1 true 0 0 0 0 y.1.1 y.1.2.1 y.1.2.2.1 y.1.2.2.2.1 y.1.2.2.2.2.1 y.1.2.2.2.2.2 else zC (pU (y_1.1,b,())) fun y_2=>j1 (!y_2.1) 0 0 0 0 y.1.1 y.1.2.1 y.1.2.2.1 y.1.2.2.2.1 y.1.2.2.2.2.1 y.1.2.2.2.2.2
def Zp:=aqj
def Zq(x:As aI):Option (As eD):=JI Zp x.1
abbrev pAr:=zp akh aki 220 akg
theorem azo{J a b c d e f g h i j k}:pAr J 61 [] (akj a b c d e f g h i j k)=aqj a b c d e f g h i j k:=by kernel_rfl
abbrev pAq:=zj akh aki 220 akg
theorem azp:C (pAq 61 []) akj=Zp:=gNC (by decide) fun _=>azo
theorem azq:au Tryz.prog (fun _=>True) 220 ⟨akg,Zq⟩:=zcc (env:=akh) (d:=6) (hs:=Ev.get aki) (aj agt (aj ap6 (aj azn bq))) (fun J x=>JI (C (J 61 []) akj) x.1) (fun _ _=>by kernel_rfl) fun _=>by rw[azp]<;>rfl
@[reducible] def aqk:Sh:=⟨[.d aL],[],aI,[.d bA,.d (.int .u8)],[],0,[.pr (.int .u8) lC,.int .u8]⟩
def P6(b:List Int):Option (As [.pr (.int .u8) lC,.int .u8]) :=
 if eqi (zF (zG b)) 0=true then some ((0,0,0,0,[],[]),1,()) else zC (Zq (b,())) fun y=>if eqi y.2.1 0=true then some (y.1,0,()) else zC (at? b 0) fun y=>zC (at? b 0) fun y_1=>zC (Al (y_1,())) fun y_2=>if (!y_2.2.1)=true then some ((y,0,0,0,[],[]),1,()) else some ((y,0,0,0,[],[]),3,())
def Cj(x:As aI):Option (As [.pr (.int .u8) lC,.int .u8]):=P6 x.1
theorem azr:au Tryz.prog (fun _=>True) 163 ⟨aqk,Cj⟩:=ctn (aj Wt (aj azq bq)) 6 fun J x=>by kernel_rfl
@[reducible] def cF:Ty:=.pr gI gI
@[reducible] def aZ:Ty:=.pr gI cF
@[reducible] def fC:Ty:=.pr (.sl .bool) D7
@[reducible] def eK:List Ty:=[.pr gI aZ,.pr (.sl .bool) D7]
@[reducible] def bP:Ty:=.pr gI (.sl .bool)
@[reducible] def cQ:Ty:=.pr gI aB
@[reducible] def eU:Ty:=.pr cQ cQ
@[reducible] def bI:Ty:=.pr bP eU
@[reducible] def aql:Sh:=⟨[.d (.pr gI aZ),.d fC],[],eK,[.d (.pr bP bI)],[],0,[.pr bP bI]⟩
def azs(s:List dz×List dz×List dz×List dz)(m:List Bool×List Bool×List Int×List Int):Option (As [.pr bP bI]) :=
 some (((s.1,m.1),(s.2.1,m.2.1),(s.2.2.1,m.2.2.1),s.2.2.2,m.2.2.2),())
def JJ(x:As eK):Option (As [.pr bP bI]):=azs x.1 x.2.1
theorem aqm:au Tryz.prog (fun _=>True) 221 ⟨aql,JJ⟩:=ctn bq 6 fun J x=>by kernel_rfl
@[reducible] def akk:Sh:=⟨[.d (.int .u8)],[],[.int .u8],[.d dP],[],0,[.pr (.int .i64) (.int .i64)]⟩
def akl(f:Int):Option (As [.pr (.int .i64) (.int .i64)]) :=
 some (Ev.gdV dP (if eqi 1 f=true then some (1,0) else if eqi 2 f=true then some (2,0) else if eqi 3 f=true then some (3,0) else if eqi 4 f=true then some (4,0) else if eqi 5 f=true then some (0,1) else if eqi 6 f=true then some (0,3) else if eqi 15 f=true then some (0,1) else if eqi 16 f=true then some (0,3) else if eqi 23 f=true then some (3,3) else zH) (0,0),())
def JK(x:As [.int .u8]):Option (As [.pr (.int .i64) (.int .i64)]):=akl x.1
theorem aqn:au Tryz.prog (fun _=>True) 222 ⟨akk,JK⟩:=ctn bq 6 fun J x=>by kernel_rfl
@[reducible] def akm:Sh:=⟨[.d bA],[],aW,[.d (.int .i64),.d (.int .i64)],[],0,cG⟩
@[reducible] def fJ:Type:=As cG
def akn(a:zH1):Option fJ :=
 if eqi a.1 23=true then some (cvt .i64 a.2.2.2.1,add .i64 (zF (zG a.2.2.2.2.2)) (zF (zG a.2.2.2.2.1)),()) else some (cvt .i64 a.2.1,add .i64 (zF (zG a.2.2.2.2.2)) (zF (zG a.2.2.2.2.1)),())
def FK(x:As aW):Option fJ:=akn x.1
theorem auz:au Tryz.prog (fun _=>True) 224 ⟨akm,FK⟩:=ctn bq 6 fun J x=>by kernel_rfl
@[reducible] def P7:Sh:=⟨[.d bT],[],[.pr (.int .i64) D5],[.d (.bool)],[],0,[.bool]⟩
def aFi(x:iN):Option aF :=
 some (x.2.2.1,())
def Ck(x:As [.pr (.int .i64) D5]):Option aF:=aFi x.1
theorem P8:au Tryz.prog (fun _=>True) 348 ⟨P7,Ck⟩:=ctn bq 6 fun J x=>by kernel_rfl
@[reducible] def cT:List Ty:=[.pr (.int .i64) D5,.int .i64,.int .i64]
@[reducible] def aO:List Ty:=[.bool,.int .i64,.int .i64]
@[reducible] def P9:Sh:=⟨[.d bT,.pb 0 0,.pb 1 0],[.box 3 [.d (.int .i64)],.box 3 [.d (.int .i64)]],cT,[.d (.bool)],[(0,.box 3 [.d (.int .i64)]),(1,.box 3 [.d (.int .i64)])],0,aO⟩
@[reducible] def aM:Type:=As aO
def ako(x:iN)(v v_2:Int):Option aM :=
 if x.2.2.2.1=true then if (!x.2.2.2.2)=true then some (true,v,v_2,()) else if eqi x.1 v=true then some (eqi x.2.1 v_2,v,v_2,()) else some (false,v,v_2,()) else some (false,v,v_2,())
def GZ(x:As cT):Option aM:=ako x.1 x.2.1 x.2.2.1
theorem Qa:au Tryz.prog (fun _=>True) 349 ⟨P9,GZ⟩:=ctn bq 6 fun J x=>by kernel_rfl
@[reducible] def FL:Sh:=⟨[.d bT,.d (.int .i64),.d (.int .i64)],[],cT,[.d (.int .i64),.d (.int .i64)],[],0,cG⟩
def akp:Env:=(cts [])
def akq:List (Nat×Hint):=[(15,⟨[],[1,3,8]⟩),(30,⟨[],[1,2,3,8,32]⟩),(6,⟨[],[1,2,3,17,25,26,27,28,29,30,31]⟩)]
def akr(at' endV:Int)(t17:Bool)(x:iN):St:=⟨[(1,dI at'),(2,dI endV),(3,.pb 0 0),(17,dB t17)],45,[],[(0,.box 250 [dI x.1,dI x.2.1,dB x.2.2.1,dB x.2.2.2.1,dB x.2.2.2.2])],1,[],0⟩
def aks(at' endV to':Int)(t32:Bool)(x:iN):St:=⟨[(1,dI at'),(2,dI endV),(3,.pb 0 0),(8,dI to'),(32,dB t32)],45,[],[(0,.box 250 [dI x.1,dI x.2.1,dB x.2.2.1,dB x.2.2.2.1,dB x.2.2.2.2])],1,[],0⟩
def akt(at' to':Int)(x:iN):St:=⟨[(1,dI at'),(3,.pb 0 0),(8,dI to')],45,[],[(0,.box 250 [dI x.1,dI x.2.1,dB x.2.2.1,dB x.2.2.2.1,dB x.2.2.2.2])],1,[],0⟩
def aku(j2:Int->Int->Int->Bool->iN->Option fJ)(at' endV:Int)(t17:Bool)(x:iN):Option fJ :=
 if t17=true then some (at',at',()) else if lt x.1 0=true then j2 at' endV endV true x else j2 at' endV endV (lt x.2.1 (Sx.sub .i64 endV x.1)) x
def Zr(j3:Int->Int->iN->Option fJ)(at' endV to':Int)(t32:Bool)(x:iN):Option fJ :=
 if t32=true then j3 at' (if lt (add .i64 x.1 x.2.1) endV=true then add .i64 x.1 x.2.1 else endV) x else j3 at' to' x
def akv(at' to':Int)(x:iN):Option fJ :=
 some (if gt x.1 at'=true then x.1 else at',to',())
def Zs(j1:Int->Int->Bool->iN->Option fJ)(x:iN)(at' endV:Int):Option fJ :=
 if lt x.2.1 1=true then j1 at' endV true x else j1 at' endV (ge x.1 endV) x
def Zt:=akv
def Qb:=Zr (Zt)
def Qc:=aku (Qb)
def yE(x:As cT):Option fJ:=Zs Qc x.1 x.2.1 x.2.2.1
abbrev pCl:=zp akp akq 350 FL
theorem azt{J a b c}:pCl J 15 [] (akt a b c)=akv a b c:=by kernel_rfl
theorem azu{J a b c d e}:pCl J 30 [] (aks a b c d e)=Zr (C (J 15 []) akt) a b c d e:=by kernel_rfl
theorem azv{J a b c d}:pCl J 6 [] (akr a b c d)=aku (C (J 30 []) aks) a b c d:=by kernel_rfl
abbrev pCk:=zj akp akq 350 FL
theorem azw:C (pCk 15 []) akt=Zt:=gNC (by decide) fun _=>azt
theorem azx:C (pCk 30 []) aks=Qb:=gNC (by decide) fun _=>azu.trans (by rw[azw]<;>kernel_rfl)
theorem azy:C (pCk 6 []) akr=Qc:=gNC (by decide) fun _=>azv.trans (by rw[azx]<;>kernel_rfl)
theorem Zu:au Tryz.prog (fun _=>True) 350 ⟨FL,yE⟩:=zcc (env:=akp) (d:=6) (hs:=Ev.get akq) bq (fun J x=>Zs (C (J 6 []) akr) x.1 x.2.1 x.2.2.1) (fun _ _=>by kernel_rfl) fun _=>by rw[azy]<;>rfl
@[reducible] def Qd:Sh:=⟨[.d bT],[],[.pr (.int .i64) D5],[.d (.bool)],[],0,[.bool]⟩
def aFj(x:iN):Option aF :=
 some (x.2.2.1,())
def K9(x:As [.pr (.int .i64) D5]):Option aF:=aFj x.1
theorem Qe:au Tryz.prog (fun _=>True) 353 ⟨Qd,K9⟩:=ctn bq 6 fun J x=>by kernel_rfl
@[reducible] def Qf:Sh:=⟨[.d bT,.pb 0 0,.pb 1 0],[.box 3 [.d (.int .i64)],.box 3 [.d (.int .i64)]],cT,[.d (.bool)],[(0,.box 3 [.d (.int .i64)]),(1,.box 3 [.d (.int .i64)])],0,aO⟩
def akw(x:iN)(v v_2:Int):Option aM :=
 if x.2.2.2.1=true then if (!x.2.2.2.2)=true then some (true,v,v_2,()) else if eqi x.1 v=true then some (eqi x.2.1 v_2,v,v_2,()) else some (false,v,v_2,()) else some (false,v,v_2,())
def G4(x:As cT):Option aM:=akw x.1 x.2.1 x.2.2.1
theorem Qg:au Tryz.prog (fun _=>True) 354 ⟨Qf,G4⟩:=ctn bq 6 fun J x=>by kernel_rfl
@[reducible] def eZ:List Ty:=[.sl bT,.int .i64,.int .i64]
@[reducible] def akx:Sh:=⟨[.d gI,.d (.int .i64),.d (.int .i64),.fn (.func 348) [] []],[],eZ,[.d (.bool)],[],0,[.bool]⟩
def aky:Env:=(cts [(348,(⟨P7,Ck⟩:Ct)),(349,(⟨P9,GZ⟩:Ct)),(350,(⟨FL,yE⟩:Ct)),(353,(⟨Qd,K9⟩:Ct)),(354,(⟨Qf,G4⟩:Ct))])
def akz:List (Nat×Hint):=[(15,⟨[],[10]⟩),(122,⟨[],[1,2,3,9,10,19,20,21]⟩),(125342,⟨[],[1,2,3,9,10,12,14,15,19,20,21]⟩),(501369,⟨[],[1,2,3,9,10,12,14,15,19,20,21]⟩)]
def Cm(at' many left:Int)(t19:List dz)(t20 t21:Int)(met:List Bool):St:=⟨[(1,dI at'),(2,dI many),(3,.fn (.func 348) [] []),(9,.row 0),(10,dI left),(19,.d gI t19),(20,dI t20),(21,dI t21)],62,[],[(0,.row .bool 4 met)],1,[],0⟩
def akA(left:Int):St:=⟨[(10,dI left)],62,[],[],0,[],0⟩
def JL(at' many left to' i:Int)(t19:List dz)(t20 t21:Int)(met:List Bool)(x:iN):St:=⟨[(1,dI at'),(2,dI many),(3,.fn (.func 348) [] []),(9,.row 0),(10,dI left),(12,.pb 1 0),(14,dI to'),(15,dI i),(19,.d gI t19),(20,dI t20),(21,dI t21)],62,[],[(0,.row .bool 4 met),(1,.box 250 [dI x.1,dI x.2.1,dB x.2.2.1,dB x.2.2.2.1,dB x.2.2.2.2])],2,[],0⟩
def akB(at' many left to' i:Int)(t19:List dz)(t20 t21:Int)(met:List Bool)(x:iN):St:=⟨[(1,dI at'),(2,dI many),(3,.fn (.func 348) [] []),(9,.row 0),(10,dI left),(12,.pb 1 0),(14,dI to'),(15,dI i),(19,.d gI t19),(20,dI t20),(21,dI t21)],62,[],[(0,.row .bool 4 met),(1,.box 250 [dI x.1,dI x.2.1,dB x.2.2.1,dB x.2.2.2.1,dB x.2.2.2.2])],2,[],0⟩
@[reducible] def zH2:Type:=Int->Int->Int->List dz->Int->Int->List Bool->Option aF
def Qh(j2:Int->Option aF)(j3:Int->Int->Int->Int->Int->List dz->Int->Int->List Bool->iN->Option aF)(self1:zH2)(at' many left:Int)(t19:List dz)(t20 t21:Int)(met:List Bool):Option aF :=
 if lt t21 t20=true then zC (at? t19 t21) fun y=>if eqi left 0=true then j2 left else zC (yE (y,at',add .i64 at' many,())) fun y_1=>j3 at' many left y_1.2.1 y_1.1 t19 t20 t21 met y else j2 left
def auA(left:Int):Option aF :=
 some (eqi left 0,())
def Qi(j4:Int->Int->Int->Int->Int->List dz->Int->Int->List Bool->iN->Option aF)(self1:zH2)(self3:Int->Int->Int->Int->Int->List dz->Int->Int->List Bool->iN->Option aF)(at' many left to' i:Int)(t19:List dz)(t20 t21:Int)(met:List Bool)(x:iN):Option aF :=
 if lt i to'=true then zC (at? met (Sx.sub .i64 i at')) fun x_1=>zC (at? met (Sx.sub .i64 i at')) fun y=>if y=true then j4 at' many left to' i t19 t20 t21 met x else zC (Ck (x,())) fun y=>if (!y.1)=true then some (false,()) else zC (at? met (Sx.sub .i64 i at')) fun x_2=>zC (at? met (Sx.sub .i64 i at')) fun x_3=>j4 at' many (Sx.sub .i64 left 1) to' i t19 t20 t21 (List.set met (zI (Sx.sub .i64 i at')) true) x else self1 at' many left t19 t20 (add .i64 t21 1) met
def akC(self1:zH2)(self3:Int->Int->Int->Int->Int->List dz->Int->Int->List Bool->iN->Option aF)(at' many left to' i:Int)(t19:List dz)(t20 t21:Int)(met:List Bool)(x:iN):Option aF :=
 self3 at' many left to' (add .i64 i 1) t19 t20 t21 met x
def Zv(j1:zH2)(areas:List dz)(at' many:Int):Option aF :=
 need (ge many 0) (need (Ev.jR many many) (need (small (zI many)) (j1 at' many many areas (zF (zG areas)) 0 (zE (zI many) false))))
def Qj:=auA
def JM(u1:zH2)(u3:Int->Int->Int->Int->Int->List dz->Int->Int->List Bool->iN->Option aF):=akC u1 u3
def FM(u1:zH2)(at' many left to' i:Int)(t19:List dz)(t20 t21:Int)(met:List Bool)(x:iN):Option aF :=
 cu (fun self s=>Qi (JM u1 (fun at' many left to' i t19 t20 t21 met x=>self (at',many,left,to',i,t19,t20,t21,met,x))) u1 (fun at' many left to' i t19 t20 t21 met x=>self (at',many,left,to',i,t19,t20,t21,met,x)) s.1 s.2.1 s.2.2.1 s.2.2.2.1 s.2.2.2.2.1 s.2.2.2.2.2.1 s.2.2.2.2.2.2.1 s.2.2.2.2.2.2.2.1 s.2.2.2.2.2.2.2.2.1 s.2.2.2.2.2.2.2.2.2) 18446744073709551616 (at',many,left,to',i,t19,t20,t21,met,x)
def Qk(at' many left:Int)(t19:List dz)(t20 t21:Int)(met:List Bool):Option aF :=
 cu (fun self s=>Qh (Qj) (FM (fun at' many left t19 t20 t21 met=>self (at',many,left,t19,t20,t21,met))) (fun at' many left t19 t20 t21 met=>self (at',many,left,t19,t20,t21,met)) s.1 s.2.1 s.2.2.1 s.2.2.2.1 s.2.2.2.2.1 s.2.2.2.2.2.1 s.2.2.2.2.2.2) 18446744073709551616 (at',many,left,t19,t20,t21,met)
def Zw(x:As eZ):Option aF:=Zv Qk x.1 x.2.1 x.2.2.1
abbrev pCd:=zp aky akz 347 akx
theorem azz{J a}:pCd J 15 [] (akA a)=auA a:=by kernel_rfl
theorem azA{J w1 w3 a b c d e f g h i j}:pCd J 501369 [w1,w3] (akB a b c d e f g h i j)=akC (C w1 Cm) (C w3 JL) a b c d e f g h i j:=by kernel_rfl
theorem azB{J w1 w3 a b c d e f g h i j}:pCd J 125342 [w1,w3] (JL a b c d e f g h i j)=Qi (C (J 501369 [w1,w3]) akB) (C w1 Cm) (C w3 JL) a b c d e f g h i j:=by kernel_rfl
theorem azC{J w1 a b c d e f g}:pCd J 122 [w1] (Cm a b c d e f g)=Qh (C (J 15 []) akA) (C (J 125342 [w1]) JL) (C w1 Cm) a b c d e f g:=by kernel_rfl
abbrev pCc:=zj aky akz 347 akx
theorem azD:C (pCc 15 []) akA=Qj:=gNC (by decide) fun _=>azz
theorem azE{w1 w3}:C (pCc 501369 [w1,w3]) akB=JM (C w1 Cm) (C w3 JL):=gNC (by decide) fun _=>azA
theorem azF{w1}:C (pCc 125342 [w1]) JL=FM (C w1 Cm):=gLC (by decide) (by kernel_rfl) (fun _=>by unfold FM;rfl) fun _ _=>azB.trans (by rw[azE]<;>kernel_rfl)
theorem azG:C (pCc 122 []) Cm=Qk:=gLC (by decide) (by kernel_rfl) (fun _=>by unfold Qk;rfl) fun _ _=>azC.trans (by rw[azD,azF]<;>kernel_rfl)
theorem Zx:au Tryz.prog (fun _=>True) 347 ⟨akx,Zw⟩:=zcc (env:=aky) (d:=6) (hs:=Ev.get akz) (aj P8 (aj Qa (aj Zu (aj Qe (aj Qg bq))))) (fun J x=>Zv (C (J 122 []) Cm) x.1 x.2.1 x.2.2.1) (fun _ _=>by kernel_rfl) fun _=>by rw[azG]<;>rfl
@[reducible] def dM:List Ty:=[.sl bT,.int .i64,.int .i64,.int .i64,.int .i64]
@[reducible] def akD:Sh:=⟨[.d gI,.d (.int .i64),.d (.int .i64),.fn (.func 349) [] [.pb 0 0,.pb 1 0]],[.box 3 [.d (.int .i64)],.box 3 [.d (.int .i64)]],dM,[.d (.bool)],[(0,.box 3 [.d (.int .i64)]),(1,.box 3 [.d (.int .i64)])],0,aO⟩
def akE:Env:=(cts [(348,(⟨P7,Ck⟩:Ct)),(349,(⟨P9,GZ⟩:Ct)),(350,(⟨FL,yE⟩:Ct)),(353,(⟨Qd,K9⟩:Ct)),(354,(⟨Qf,G4⟩:Ct))])
def akF:List (Nat×Hint):=[(15,⟨[],[10]⟩),(122,⟨[],[1,2,3,9,10,19,20,21]⟩),(125342,⟨[],[1,2,3,9,10,12,14,15,19,20,21]⟩),(501369,⟨[],[1,2,3,9,10,12,14,15,19,20,21]⟩)]
def Cn(at' many left:Int)(t19:List dz)(t20 t21 o o_2:Int)(met:List Bool):St:=⟨[(1,dI at'),(2,dI many),(3,.fn (.func 349) [] [.pb 0 0,.pb 1 0]),(9,.row 2),(10,dI left),(19,.d gI t19),(20,dI t20),(21,dI t21)],62,[],[(0,.box 3 [dI o]),(1,.box 3 [dI o_2]),(2,.row .bool 4 met)],3,[],2⟩
def akG(left o o_2:Int):St:=⟨[(10,dI left)],62,[],[(0,.box 3 [dI o]),(1,.box 3 [dI o_2])],2,[],2⟩
def JN(at' many left to' i:Int)(t19:List dz)(t20 t21 o o_2:Int)(met:List Bool)(x:iN):St:=⟨[(1,dI at'),(2,dI many),(3,.fn (.func 349) [] [.pb 0 0,.pb 1 0]),(9,.row 2),(10,dI left),(12,.pb 3 0),(14,dI to'),(15,dI i),(19,.d gI t19),(20,dI t20),(21,dI t21)],62,[],[(0,.box 3 [dI o]),(1,.box 3 [dI o_2]),(2,.row .bool 4 met),(3,.box 250 [dI x.1,dI x.2.1,dB x.2.2.1,dB x.2.2.2.1,dB x.2.2.2.2])],4,[],2⟩
def akH(at' many left to' i:Int)(t19:List dz)(t20 t21 o o_2:Int)(met:List Bool)(x:iN):St:=⟨[(1,dI at'),(2,dI many),(3,.fn (.func 349) [] [.pb 0 0,.pb 1 0]),(9,.row 2),(10,dI left),(12,.pb 3 0),(14,dI to'),(15,dI i),(19,.d gI t19),(20,dI t20),(21,dI t21)],62,[],[(0,.box 3 [dI o]),(1,.box 3 [dI o_2]),(2,.row .bool 4 met),(3,.box 250 [dI x.1,dI x.2.1,dB x.2.2.1,dB x.2.2.2.1,dB x.2.2.2.2])],4,[],2⟩
@[reducible] def zH3:Type:=Int->Int->Int->Option aM
@[reducible] def zH4:Type:=Int->Int->Int->List dz->Int->Int->Int->Int->List Bool->Option aM
def Ql(j2:zH3)(j3:Int->Int->Int->Int->Int->List dz->Int->Int->Int->Int->List Bool->iN->Option aM)(self1:zH4)(at' many left:Int)(t19:List dz)(t20 t21 o o_2:Int)(met:List Bool):Option aM :=
 if lt t21 t20=true then zC (at? t19 t21) fun y=>if eqi left 0=true then j2 left o o_2 else zC (yE (y,at',add .i64 at' many,())) fun y_1=>j3 at' many left y_1.2.1 y_1.1 t19 t20 t21 o o_2 met y else j2 left o o_2
def auB(left o o_2:Int):Option aM :=
 some (eqi left 0,o,o_2,())
def Qm(j4:Int->Int->Int->Int->Int->List dz->Int->Int->Int->Int->List Bool->iN->Option aM)(self1:zH4)(self3:Int->Int->Int->Int->Int->List dz->Int->Int->Int->Int->List Bool->iN->Option aM)(at' many left to' i:Int)(t19:List dz)(t20 t21 o o_2:Int)(met:List Bool)(x:iN):Option aM :=
 if lt i to'=true then zC (at? met (Sx.sub .i64 i at')) fun x_1=>zC (at? met (Sx.sub .i64 i at')) fun y=>if y=true then j4 at' many left to' i t19 t20 t21 o o_2 met x else zC (GZ (x,o,o_2,())) fun y=>if (!y.1)=true then some (false,y.2.1,y.2.2.1,()) else zC (at? met (Sx.sub .i64 i at')) fun x_2=>zC (at? met (Sx.sub .i64 i at')) fun x_3=>j4 at' many (Sx.sub .i64 left 1) to' i t19 t20 t21 y.2.1 y.2.2.1 (List.set met (zI (Sx.sub .i64 i at')) true) x else self1 at' many left t19 t20 (add .i64 t21 1) o o_2 met
def akI(self1:zH4)(self3:Int->Int->Int->Int->Int->List dz->Int->Int->Int->Int->List Bool->iN->Option aM)(at' many left to' i:Int)(t19:List dz)(t20 t21 o o_2:Int)(met:List Bool)(x:iN):Option aM :=
 self3 at' many left to' (add .i64 i 1) t19 t20 t21 o o_2 met x
def Zy(j1:zH4)(areas:List dz)(at' many wanted areas_2:Int):Option aM :=
 need (ge many 0) (need (Ev.jR many many) (need (small (zI many)) (j1 at' many many areas (zF (zG areas)) 0 wanted areas_2 (zE (zI many) false))))
def Qn:=auB
def JO(u1:zH4)(u3:Int->Int->Int->Int->Int->List dz->Int->Int->Int->Int->List Bool->iN->Option aM):=akI u1 u3
def FN(u1:zH4)(at' many left to' i:Int)(t19:List dz)(t20 t21 o o_2:Int)(met:List Bool)(x:iN):Option aM :=
 cu (fun self s=>Qm (JO u1 (fun at' many left to' i t19 t20 t21 o o_2 met x=>self (at',many,left,to',i,t19,t20,t21,o,o_2,met,x))) u1 (fun at' many left to' i t19 t20 t21 o o_2 met x=>self (at',many,left,to',i,t19,t20,t21,o,o_2,met,x)) s.1 s.2.1 s.2.2.1 s.2.2.2.1 s.2.2.2.2.1 s.2.2.2.2.2.1 s.2.2.2.2.2.2.1 s.2.2.2.2.2.2.2.1 s.2.2.2.2.2.2.2.2.1 s.2.2.2.2.2.2.2.2.2.1 s.2.2.2.2.2.2.2.2.2.2.1 s.2.2.2.2.2.2.2.2.2.2.2) 18446744073709551616 (at',many,left,to',i,t19,t20,t21,o,o_2,met,x)
def Qo(at' many left:Int)(t19:List dz)(t20 t21 o o_2:Int)(met:List Bool):Option aM :=
 cu (fun self s=>Ql (Qn) (FN (fun at' many left t19 t20 t21 o o_2 met=>self (at',many,left,t19,t20,t21,o,o_2,met))) (fun at' many left t19 t20 t21 o o_2 met=>self (at',many,left,t19,t20,t21,o,o_2,met)) s.1 s.2.1 s.2.2.1 s.2.2.2.1 s.2.2.2.2.1 s.2.2.2.2.2.1 s.2.2.2.2.2.2.1 s.2.2.2.2.2.2.2.1 s.2.2.2.2.2.2.2.2) 18446744073709551616 (at',many,left,t19,t20,t21,o,o_2,met)
def Zz(x:As dM):Option aM:=Zy Qo x.1 x.2.1 x.2.2.1 x.2.2.2.1 x.2.2.2.2.1
abbrev pCf:=zp akE akF 347 akD
theorem azH{J a b c}:pCf J 15 [] (akG a b c)=auB a b c:=by kernel_rfl
theorem azI{J w1 w3 a b c d e f g h i j k l}:pCf J 501369 [w1,w3] (akH a b c d e f g h i j k l)=akI (C w1 Cn) (C w3 JN) a b c d e f g h i j k l:=by kernel_rfl
theorem azJ{J w1 w3 a b c d e f g h i j k l}:pCf J 125342 [w1,w3] (JN a b c d e f g h i j k l)=Qm (C (J 501369 [w1,w3]) akH) (C w1 Cn) (C w3 JN) a b c d e f g h i j k l:=by kernel_rfl
theorem azK{J w1 a b c d e f g h i}:pCf J 122 [w1] (Cn a b c d e f g h i)=Ql (C (J 15 []) akG) (C (J 125342 [w1]) JN) (C w1 Cn) a b c d e f g h i:=by kernel_rfl
abbrev pCe:=zj akE akF 347 akD
theorem azL:C (pCe 15 []) akG=Qn:=gNC (by decide) fun _=>azH
theorem azM{w1 w3}:C (pCe 501369 [w1,w3]) akH=JO (C w1 Cn) (C w3 JN):=gNC (by decide) fun _=>azI
theorem azN{w1}:C (pCe 125342 [w1]) JN=FN (C w1 Cn):=gLC (by decide) (by kernel_rfl) (fun _=>by unfold FN;rfl) fun _ _=>azJ.trans (by rw[azM]<;>kernel_rfl)
theorem azO:C (pCe 122 []) Cn=Qo:=gLC (by decide) (by kernel_rfl) (fun _=>by unfold Qo;rfl) fun _ _=>azK.trans (by rw[azL,azN]<;>kernel_rfl)
theorem ZA:au Tryz.prog (fun _=>True) 347 ⟨akD,Zz⟩:=zcc (env:=akE) (d:=6) (hs:=Ev.get akF) (aj P8 (aj Qa (aj Zu (aj Qe (aj Qg bq))))) (fun J x=>Zy (C (J 122 []) Cn) x.1 x.2.1 x.2.2.1 x.2.2.2.1 x.2.2.2.2.1) (fun _ _=>by kernel_rfl) fun _=>by rw[azO]<;>rfl
@[reducible] def akJ:Sh:=⟨[.d gI,.d (.int .i64),.d (.int .i64),.fn (.func 353) [] []],[],eZ,[.d (.bool)],[],0,[.bool]⟩
def akK:Env:=(cts [(348,(⟨P7,Ck⟩:Ct)),(349,(⟨P9,GZ⟩:Ct)),(350,(⟨FL,yE⟩:Ct)),(353,(⟨Qd,K9⟩:Ct)),(354,(⟨Qf,G4⟩:Ct))])
def akL:List (Nat×Hint):=[(15,⟨[],[10]⟩),(122,⟨[],[1,2,3,9,10,19,20,21]⟩),(125342,⟨[],[1,2,3,9,10,12,14,15,19,20,21]⟩),(501369,⟨[],[1,2,3,9,10,12,14,15,19,20,21]⟩)]
def Cq(at' many left:Int)(t19:List dz)(t20 t21:Int)(met:List Bool):St:=⟨[(1,dI at'),(2,dI many),(3,.fn (.func 353) [] []),(9,.row 0),(10,dI left),(19,.d gI t19),(20,dI t20),(21,dI t21)],62,[],[(0,.row .bool 4 met)],1,[],0⟩
def akM(left:Int):St:=⟨[(10,dI left)],62,[],[],0,[],0⟩
def JQ(at' many left to' i:Int)(t19:List dz)(t20 t21:Int)(met:List Bool)(x:iN):St:=⟨[(1,dI at'),(2,dI many),(3,.fn (.func 353) [] []),(9,.row 0),(10,dI left),(12,.pb 1 0),(14,dI to'),(15,dI i),(19,.d gI t19),(20,dI t20),(21,dI t21)],62,[],[(0,.row .bool 4 met),(1,.box 250 [dI x.1,dI x.2.1,dB x.2.2.1,dB x.2.2.2.1,dB x.2.2.2.2])],2,[],0⟩
def akN(at' many left to' i:Int)(t19:List dz)(t20 t21:Int)(met:List Bool)(x:iN):St:=⟨[(1,dI at'),(2,dI many),(3,.fn (.func 353) [] []),(9,.row 0),(10,dI left),(12,.pb 1 0),(14,dI to'),(15,dI i),(19,.d gI t19),(20,dI t20),(21,dI t21)],62,[],[(0,.row .bool 4 met),(1,.box 250 [dI x.1,dI x.2.1,dB x.2.2.1,dB x.2.2.2.1,dB x.2.2.2.2])],2,[],0⟩
def Qp(j2:Int->Option aF)(j3:Int->Int->Int->Int->Int->List dz->Int->Int->List Bool->iN->Option aF)(self1:zH2)(at' many left:Int)(t19:List dz)(t20 t21:Int)(met:List Bool):Option aF :=
 if lt t21 t20=true then zC (at? t19 t21) fun y=>if eqi left 0=true then j2 left else zC (yE (y,at',add .i64 at' many,())) fun y_1=>j3 at' many left y_1.2.1 y_1.1 t19 t20 t21 met y else j2 left
def auC(left:Int):Option aF :=
 some (eqi left 0,())
def Qq(j4:Int->Int->Int->Int->Int->List dz->Int->Int->List Bool->iN->Option aF)(self1:zH2)(self3:Int->Int->Int->Int->Int->List dz->Int->Int->List Bool->iN->Option aF)(at' many left to' i:Int)(t19:List dz)(t20 t21:Int)(met:List Bool)(x:iN):Option aF :=
 if lt i to'=true then zC (at? met (Sx.sub .i64 i at')) fun x_1=>zC (at? met (Sx.sub .i64 i at')) fun y=>if y=true then j4 at' many left to' i t19 t20 t21 met x else zC (K9 (x,())) fun y=>if (!y.1)=true then some (false,()) else zC (at? met (Sx.sub .i64 i at')) fun x_2=>zC (at? met (Sx.sub .i64 i at')) fun x_3=>j4 at' many (Sx.sub .i64 left 1) to' i t19 t20 t21 (List.set met (zI (Sx.sub .i64 i at')) true) x else self1 at' many left t19 t20 (add .i64 t21 1) met
def akO(self1:zH2)(self3:Int->Int->Int->Int->Int->List dz->Int->Int->List Bool->iN->Option aF)(at' many left to' i:Int)(t19:List dz)(t20 t21:Int)(met:List Bool)(x:iN):Option aF :=
 self3 at' many left to' (add .i64 i 1) t19 t20 t21 met x
def ZB(j1:zH2)(areas:List dz)(at' many:Int):Option aF :=
 need (ge many 0) (need (Ev.jR many many) (need (small (zI many)) (j1 at' many many areas (zF (zG areas)) 0 (zE (zI many) false))))
def Qr:=auC
def JR(u1:zH2)(u3:Int->Int->Int->Int->Int->List dz->Int->Int->List Bool->iN->Option aF):=akO u1 u3
def FO(u1:zH2)(at' many left to' i:Int)(t19:List dz)(t20 t21:Int)(met:List Bool)(x:iN):Option aF :=
 cu (fun self s=>Qq (JR u1 (fun at' many left to' i t19 t20 t21 met x=>self (at',many,left,to',i,t19,t20,t21,met,x))) u1 (fun at' many left to' i t19 t20 t21 met x=>self (at',many,left,to',i,t19,t20,t21,met,x)) s.1 s.2.1 s.2.2.1 s.2.2.2.1 s.2.2.2.2.1 s.2.2.2.2.2.1 s.2.2.2.2.2.2.1 s.2.2.2.2.2.2.2.1 s.2.2.2.2.2.2.2.2.1 s.2.2.2.2.2.2.2.2.2) 18446744073709551616 (at',many,left,to',i,t19,t20,t21,met,x)
def Qs(at' many left:Int)(t19:List dz)(t20 t21:Int)(met:List Bool):Option aF :=
 cu (fun self s=>Qp (Qr) (FO (fun at' many left t19 t20 t21 met=>self (at',many,left,t19,t20,t21,met))) (fun at' many left t19 t20 t21 met=>self (at',many,left,t19,t20,t21,met)) s.1 s.2.1 s.2.2.1 s.2.2.2.1 s.2.2.2.2.1 s.2.2.2.2.2.1 s.2.2.2.2.2.2) 18446744073709551616 (at',many,left,t19,t20,t21,met)
def ZC(x:As eZ):Option aF:=ZB Qs x.1 x.2.1 x.2.2.1
abbrev pCh:=zp akK akL 347 akJ
theorem azP{J a}:pCh J 15 [] (akM a)=auC a:=by kernel_rfl
theorem azQ{J w1 w3 a b c d e f g h i j}:pCh J 501369 [w1,w3] (akN a b c d e f g h i j)=akO (C w1 Cq) (C w3 JQ) a b c d e f g h i j:=by kernel_rfl
theorem azR{J w1 w3 a b c d e f g h i j}:pCh J 125342 [w1,w3] (JQ a b c d e f g h i j)=Qq (C (J 501369 [w1,w3]) akN) (C w1 Cq) (C w3 JQ) a b c d e f g h i j:=by kernel_rfl
theorem azS{J w1 a b c d e f g}:pCh J 122 [w1] (Cq a b c d e f g)=Qp (C (J 15 []) akM) (C (J 125342 [w1]) JQ) (C w1 Cq) a b c d e f g:=by kernel_rfl
abbrev pCg:=zj akK akL 347 akJ
theorem azT:C (pCg 15 []) akM=Qr:=gNC (by decide) fun _=>azP
theorem azU{w1 w3}:C (pCg 501369 [w1,w3]) akN=JR (C w1 Cq) (C w3 JQ):=gNC (by decide) fun _=>azQ
theorem azV{w1}:C (pCg 125342 [w1]) JQ=FO (C w1 Cq):=gLC (by decide) (by kernel_rfl) (fun _=>by unfold FO;rfl) fun _ _=>azR.trans (by rw[azU]<;>kernel_rfl)
theorem azW:C (pCg 122 []) Cq=Qs:=gLC (by decide) (by kernel_rfl) (fun _=>by unfold Qs;rfl) fun _ _=>azS.trans (by rw[azT,azV]<;>kernel_rfl)
theorem ZD:au Tryz.prog (fun _=>True) 347 ⟨akJ,ZC⟩:=zcc (env:=akK) (d:=6) (hs:=Ev.get akL) (aj P8 (aj Qa (aj Zu (aj Qe (aj Qg bq))))) (fun J x=>ZB (C (J 122 []) Cq) x.1 x.2.1 x.2.2.1) (fun _ _=>by kernel_rfl) fun _=>by rw[azW]<;>rfl
@[reducible] def akP:Sh:=⟨[.d gI,.d (.int .i64),.d (.int .i64),.fn (.func 354) [] [.pb 0 0,.pb 1 0]],[.box 3 [.d (.int .i64)],.box 3 [.d (.int .i64)]],dM,[.d (.bool)],[(0,.box 3 [.d (.int .i64)]),(1,.box 3 [.d (.int .i64)])],0,aO⟩
def akQ:Env:=(cts [(348,(⟨P7,Ck⟩:Ct)),(349,(⟨P9,GZ⟩:Ct)),(350,(⟨FL,yE⟩:Ct)),(353,(⟨Qd,K9⟩:Ct)),(354,(⟨Qf,G4⟩:Ct))])
def akR:List (Nat×Hint):=[(15,⟨[],[10]⟩),(122,⟨[],[1,2,3,9,10,19,20,21]⟩),(125342,⟨[],[1,2,3,9,10,12,14,15,19,20,21]⟩),(501369,⟨[],[1,2,3,9,10,12,14,15,19,20,21]⟩)]
def Cr(at' many left:Int)(t19:List dz)(t20 t21 o o_2:Int)(met:List Bool):St:=⟨[(1,dI at'),(2,dI many),(3,.fn (.func 354) [] [.pb 0 0,.pb 1 0]),(9,.row 2),(10,dI left),(19,.d gI t19),(20,dI t20),(21,dI t21)],62,[],[(0,.box 3 [dI o]),(1,.box 3 [dI o_2]),(2,.row .bool 4 met)],3,[],2⟩
def akS(left o o_2:Int):St:=⟨[(10,dI left)],62,[],[(0,.box 3 [dI o]),(1,.box 3 [dI o_2])],2,[],2⟩
def JU(at' many left to' i:Int)(t19:List dz)(t20 t21 o o_2:Int)(met:List Bool)(x:iN):St:=⟨[(1,dI at'),(2,dI many),(3,.fn (.func 354) [] [.pb 0 0,.pb 1 0]),(9,.row 2),(10,dI left),(12,.pb 3 0),(14,dI to'),(15,dI i),(19,.d gI t19),(20,dI t20),(21,dI t21)],62,[],[(0,.box 3 [dI o]),(1,.box 3 [dI o_2]),(2,.row .bool 4 met),(3,.box 250 [dI x.1,dI x.2.1,dB x.2.2.1,dB x.2.2.2.1,dB x.2.2.2.2])],4,[],2⟩
def akT(at' many left to' i:Int)(t19:List dz)(t20 t21 o o_2:Int)(met:List Bool)(x:iN):St:=⟨[(1,dI at'),(2,dI many),(3,.fn (.func 354) [] [.pb 0 0,.pb 1 0]),(9,.row 2),(10,dI left),(12,.pb 3 0),(14,dI to'),(15,dI i),(19,.d gI t19),(20,dI t20),(21,dI t21)],62,[],[(0,.box 3 [dI o]),(1,.box 3 [dI o_2]),(2,.row .bool 4 met),(3,.box 250 [dI x.1,dI x.2.1,dB x.2.2.1,dB x.2.2.2.1,dB x.2.2.2.2])],4,[],2⟩
def Qt(j2:zH3)(j3:Int->Int->Int->Int->Int->List dz->Int->Int->Int->Int->List Bool->iN->Option aM)(self1:zH4)(at' many left:Int)(t19:List dz)(t20 t21 o o_2:Int)(met:List Bool):Option aM :=
 if lt t21 t20=true then zC (at? t19 t21) fun y=>if eqi left 0=true then j2 left o o_2 else zC (yE (y,at',add .i64 at' many,())) fun y_1=>j3 at' many left y_1.2.1 y_1.1 t19 t20 t21 o o_2 met y else j2 left o o_2
def auD(left o o_2:Int):Option aM :=
 some (eqi left 0,o,o_2,())
def Qu(j4:Int->Int->Int->Int->Int->List dz->Int->Int->Int->Int->List Bool->iN->Option aM)(self1:zH4)(self3:Int->Int->Int->Int->Int->List dz->Int->Int->Int->Int->List Bool->iN->Option aM)(at' many left to' i:Int)(t19:List dz)(t20 t21 o o_2:Int)(met:List Bool)(x:iN):Option aM :=
 if lt i to'=true then zC (at? met (Sx.sub .i64 i at')) fun x_1=>zC (at? met (Sx.sub .i64 i at')) fun y=>if y=true then j4 at' many left to' i t19 t20 t21 o o_2 met x else zC (G4 (x,o,o_2,())) fun y=>if (!y.1)=true then some (false,y.2.1,y.2.2.1,()) else zC (at? met (Sx.sub .i64 i at')) fun x_2=>zC (at? met (Sx.sub .i64 i at')) fun x_3=>j4 at' many (Sx.sub .i64 left 1) to' i t19 t20 t21 y.2.1 y.2.2.1 (List.set met (zI (Sx.sub .i64 i at')) true) x else self1 at' many left t19 t20 (add .i64 t21 1) o o_2 met
def akU(self1:zH4)(self3:Int->Int->Int->Int->Int->List dz->Int->Int->Int->Int->List Bool->iN->Option aM)(at' many left to' i:Int)(t19:List dz)(t20 t21 o o_2:Int)(met:List Bool)(x:iN):Option aM :=
 self3 at' many left to' (add .i64 i 1) t19 t20 t21 o o_2 met x
def ZE(j1:zH4)(areas:List dz)(at' many wanted areas_2:Int):Option aM :=
 need (ge many 0) (need (Ev.jR many many) (need (small (zI many)) (j1 at' many many areas (zF (zG areas)) 0 wanted areas_2 (zE (zI many) false))))
def Qv:=auD
def JV(u1:zH4)(u3:Int->Int->Int->Int->Int->List dz->Int->Int->Int->Int->List Bool->iN->Option aM):=akU u1 u3
def FP(u1:zH4)(at' many left to' i:Int)(t19:List dz)(t20 t21 o o_2:Int)(met:List Bool)(x:iN):Option aM :=
 cu (fun self s=>Qu (JV u1 (fun at' many left to' i t19 t20 t21 o o_2 met x=>self (at',many,left,to',i,t19,t20,t21,o,o_2,met,x))) u1 (fun at' many left to' i t19 t20 t21 o o_2 met x=>self (at',many,left,to',i,t19,t20,t21,o,o_2,met,x)) s.1 s.2.1 s.2.2.1 s.2.2.2.1 s.2.2.2.2.1 s.2.2.2.2.2.1 s.2.2.2.2.2.2.1 s.2.2.2.2.2.2.2.1 s.2.2.2.2.2.2.2.2.1 s.2.2.2.2.2.2.2.2.2.1 s.2.2.2.2.2.2.2.2.2.2.1 s.2.2.2.2.2.2.2.2.2.2.2) 18446744073709551616 (at',many,left,to',i,t19,t20,t21,o,o_2,met,x)
def Qw(at' many left:Int)(t19:List dz)(t20 t21 o o_2:Int)(met:List Bool):Option aM :=
 cu (fun self s=>Qt (Qv) (FP (fun at' many left t19 t20 t21 o o_2 met=>self (at',many,left,t19,t20,t21,o,o_2,met))) (fun at' many left t19 t20 t21 o o_2 met=>self (at',many,left,t19,t20,t21,o,o_2,met)) s.1 s.2.1 s.2.2.1 s.2.2.2.1 s.2.2.2.2.1 s.2.2.2.2.2.1 s.2.2.2.2.2.2.1 s.2.2.2.2.2.2.2.1 s.2.2.2.2.2.2.2.2) 18446744073709551616 (at',many,left,t19,t20,t21,o,o_2,met)
def ZF(x:As dM):Option aM:=ZE Qw x.1 x.2.1 x.2.2.1 x.2.2.2.1 x.2.2.2.2.1
abbrev pCj:=zp akQ akR 347 akP
theorem azX{J a b c}:pCj J 15 [] (akS a b c)=auD a b c:=by kernel_rfl
theorem azY{J w1 w3 a b c d e f g h i j k l}:pCj J 501369 [w1,w3] (akT a b c d e f g h i j k l)=akU (C w1 Cr) (C w3 JU) a b c d e f g h i j k l:=by kernel_rfl
theorem azZ{J w1 w3 a b c d e f g h i j k l}:pCj J 125342 [w1,w3] (JU a b c d e f g h i j k l)=Qu (C (J 501369 [w1,w3]) akT) (C w1 Cr) (C w3 JU) a b c d e f g h i j k l:=by kernel_rfl
theorem az0{J w1 a b c d e f g h i}:pCj J 122 [w1] (Cr a b c d e f g h i)=Qt (C (J 15 []) akS) (C (J 125342 [w1]) JU) (C w1 Cr) a b c d e f g h i:=by kernel_rfl
abbrev pCi:=zj akQ akR 347 akP
theorem az1:C (pCi 15 []) akS=Qv:=gNC (by decide) fun _=>azX
theorem az2{w1 w3}:C (pCi 501369 [w1,w3]) akT=JV (C w1 Cr) (C w3 JU):=gNC (by decide) fun _=>azY
theorem az3{w1}:C (pCi 125342 [w1]) JU=FP (C w1 Cr):=gLC (by decide) (by kernel_rfl) (fun _=>by unfold FP;rfl) fun _ _=>azZ.trans (by rw[az2]<;>kernel_rfl)
theorem az4:C (pCi 122 []) Cr=Qw:=gLC (by decide) (by kernel_rfl) (fun _=>by unfold Qw;rfl) fun _ _=>az0.trans (by rw[az1,az3]<;>kernel_rfl)
theorem ZG:au Tryz.prog (fun _=>True) 347 ⟨akP,ZF⟩:=zcc (env:=akQ) (d:=6) (hs:=Ev.get akR) (aj P8 (aj Qa (aj Zu (aj Qe (aj Qg bq))))) (fun J x=>ZE (C (J 122 []) Cr) x.1 x.2.1 x.2.2.1 x.2.2.2.1 x.2.2.2.2.1) (fun _ _=>by kernel_rfl) fun _=>by rw[az4]<;>rfl
@[reducible] def eC:List Ty:=[.pr gI (.sl .bool),.int .i64,.int .i64]
@[reducible] def auE:Sh:=⟨[.d bP,.d (.int .i64),.d (.int .i64)],[],eC,[.d (.bool)],[],0,[.bool]⟩
def aFk(t:List dz×List Bool)(at' many:Int):Option aF :=
 zC (Zw (t.1,at',many,())) fun y=>some (y.1,())
def FQ(x:As eC):Option aF:=aFk x.1 x.2.1 x.2.2.1
theorem aFl:au Tryz.prog (fun _=>True) 345 ⟨auE,FQ⟩:=ctn (aj Zx (aj ZA (aj ZD (aj ZG (aj P8 bq))))) 6 fun J x=>by kernel_rfl
@[reducible] def auF:Sh:=⟨[.d bP,.d (.int .i64),.d (.int .i64)],[],eC,[.d (.bool)],[],0,[.bool]⟩
def aFm(t:List dz×List Bool)(at' many:Int):Option aF :=
 zC (Zz (t.1,at',many,at',many,())) fun y=>some (y.1,())
def FR(x:As eC):Option aF:=aFm x.1 x.2.1 x.2.2.1
theorem aFo:au Tryz.prog (fun _=>True) 346 ⟨auF,FR⟩:=ctn (aj Zx (aj ZA (aj ZD (aj ZG (aj Qa bq))))) 6 fun J x=>by kernel_rfl
@[reducible] def eN:List Ty:=[.pr gI aB,.int .i64,.int .i64]
@[reducible] def auG:Sh:=⟨[.d cQ,.d (.int .i64),.d (.int .i64)],[],eN,[.d (.bool)],[],0,[.bool]⟩
def aFp(t:List dz×List Int)(at' many:Int):Option aF :=
 zC (ZC (t.1,at',many,())) fun y=>some (y.1,())
def Cu(x:As eN):Option aF:=aFp x.1 x.2.1 x.2.2.1
theorem aFq:au Tryz.prog (fun _=>True) 351 ⟨auG,Cu⟩:=ctn (aj Zx (aj ZA (aj ZD (aj ZG (aj Qe bq))))) 6 fun J x=>by kernel_rfl
@[reducible] def auH:Sh:=⟨[.d cQ,.d (.int .i64),.d (.int .i64)],[],eN,[.d (.bool)],[],0,[.bool]⟩
def aFr(t:List dz×List Int)(at' many:Int):Option aF :=
 zC (ZF (t.1,at',many,at',many,())) fun y=>some (y.1,())
def G5(x:As eN):Option aF:=aFr x.1 x.2.1 x.2.2.1
theorem aFs:au Tryz.prog (fun _=>True) 352 ⟨auH,G5⟩:=ctn (aj Zx (aj ZA (aj ZD (aj ZG (aj Qg bq))))) 6 fun J x=>by kernel_rfl
@[reducible] def Qx:Sh:=⟨[.d (.pr gI aZ),.d bA],[],[.pr gI aZ,.pr (.int .u8) lC],[.d (.int .u8)],[],0,[.int .u8]⟩
def akV:Env:=(cts [(105,(⟨Fh,wD⟩:Ct)),(221,(⟨aql,JJ⟩:Ct)),(222,(⟨akk,JK⟩:Ct)),(224,(⟨akm,FK⟩:Ct)),(345,(⟨auE,FQ⟩:Ct)),(346,(⟨auF,FR⟩:Ct)),(351,(⟨auG,Cu⟩:Ct)),(352,(⟨auH,G5⟩:Ct))])
def akW:List (Nat×Hint):=[(509,⟨[],[60]⟩),(125,⟨[],[3,5,6,40,55,56,57,58,59]⟩)]
@[reducible] def eP:Type:=List dz×List Bool
@[reducible] def zH5:Type:=eP×eP×(List dz×List Int)×List dz×List Int
def akX(t40:Bool)(a:zH1)(v:zH5)(u:Int×Int):St:=⟨[(3,.pb 0 0),(5,.pb 1 0),(6,.pb 2 0),(40,dB t40)],61,[],[(0,.box 27 [d8 a.1,d6 a.2.1,d6 a.2.2.1,d6 a.2.2.2.1,dW a.2.2.2.2.1,.d (.sl .bool) a.2.2.2.2.2]),(1,.box 275 [.d gI v.1.1,.d (.sl .bool) v.1.2,.d gI v.2.1.1,.d (.sl .bool) v.2.1.2,.d gI v.2.2.1.1,dW v.2.2.1.2,.d gI v.2.2.2.1,dW v.2.2.2.2]),(2,.box 279 [dI u.1,dI u.2])],3,[],0⟩
def akY(t60:Bool):St:=⟨[(60,dB t60)],61,[],[],0,[],0⟩
def aqo(j2:Bool->Option (As [.int .u8]))(t40:Bool)(a:zH1)(v:zH5)(u:Int×Int):Option (As [.int .u8]) :=
 if t40=true then some (2,()) else zC (FK (a,())) fun y=>if eqi u.2 1=true then zC (FR (v.1,y.1,y.2.1,())) fun y=>j2 !y.1 else if eqi u.2 2=true then zC (FR (v.2.1,y.1,y.2.1,())) fun y=>j2 !y.1 else if eqi u.2 3=true then zC (G5 (v.2.2.1,y.1,y.2.1,())) fun y=>j2 !y.1 else if eqi u.2 4=true then zC (G5 (v.2.2.2,y.1,y.2.1,())) fun y=>j2 !y.1 else j2 false
def aqp(t60:Bool):Option (As [.int .u8]) :=
 if t60=true then some (2,()) else some (0,())
def ZH(j1:Bool->Int×Int×Int×Int×List Int×List Bool->eP×eP×(List dz×List Int)×List dz×List Int->Int×Int->Option (As [.int .u8]))(s:List dz×List dz×List dz×List dz)(a:zH1):Option (As [.int .u8]) :=
 zC (wD (a,())) fun y=>if (!y.1)=true then some (3,()) else zC (JJ (s,([],[],[],[]),())) fun y=>zC (JK (a.1,())) fun y_1=>if eqi y_1.1.1 1=true then zC (FQ (y.1.1,cvt .i64 a.2.1,cvt .i64 a.2.2.1,())) fun y_2=>j1 (!y_2.1) a y.1 y_1.1 else if eqi y_1.1.1 2=true then zC (FQ (y.1.2.1,cvt .i64 a.2.1,cvt .i64 a.2.2.1,())) fun y_2=>j1 (!y_2.1) a y.1 y_1.1 else if eqi y_1.1.1 3=true then zC (Cu (y.1.2.2.1,cvt .i64 a.2.1,cvt .i64 a.2.2.1,())) fun y_2=>j1 (!y_2.1) a y.1 y_1.1 else if eqi y_1.1.1 4=true then zC (Cu (y.1.2.2.2,cvt .i64 a.2.1,cvt .i64 a.2.2.1,())) fun y_2=>j1 (!y_2.1) a y.1 y_1.1 else j1 false a y.1 y_1.1
def Cv:=aqp
def oW:=aqo (Cv)
def FT(x:As [.pr gI aZ,.pr (.int .u8) lC]):Option (As [.int .u8]):=ZH oW x.1 x.2.1
abbrev pB9:=zp akV akW 164 Qx
theorem az5{J a}:pB9 J 509 [] (akY a)=aqp a:=by kernel_rfl
theorem az6{J a b c d}:pB9 J 125 [] (akX a b c d)=aqo (C (J 509 []) akY) a b c d:=by kernel_rfl
abbrev pB8:=zj akV akW 164 Qx
theorem az7:C (pB8 509 []) akY=Cv:=gNC (by decide) fun _=>az5
theorem az8:C (pB8 125 []) akX=oW:=gNC (by decide) fun _=>az6.trans (by rw[az7]<;>kernel_rfl)
theorem aqr:au Tryz.prog (fun _=>True) 164 ⟨Qx,FT⟩:=zcc (env:=akV) (d:=6) (hs:=Ev.get akW) (aj Ov (aj aqm (aj aqn (aj auz (aj aFl (aj aFo (aj aFq (aj aFs bq)))))))) (fun J x=>ZH (C (J 125 []) akX) x.1 x.2.1) (fun _ _=>by kernel_rfl) fun _=>by rw[az8]<;>rfl
@[reducible] def eO:List Ty:=[.pr gI aZ]
@[reducible] def Qy:Sh:=⟨[],[],[],[.d (.pr gI aZ)],[],0,eO⟩
def akZ:Env:=(cts [])
def ak0:List (Nat×Hint):=[(7,⟨[],[0,1]⟩),(58,⟨[],[0,1,8]⟩)]
def ZI(t8:Int)(words:List dz):St:=⟨[(0,.pb 0 0),(1,.row 1),(8,dI t8)],27,[],[(0,.box 189 [.k (zK zH 0 0),.k (zK zH 0 0),.k (zK zH 0 0),.k (zK zH 0 0)]),(1,.row bT 250 words)],2,[],0⟩
def ak1(words:List dz):St:=⟨[(0,.pb 0 0),(1,.row 1)],27,[],[(0,.box 189 [.k (zK zH 0 0),.k (zK zH 0 0),.k (zK zH 0 0),.k (zK zH 0 0)]),(1,.row bT 250 words)],2,[],0⟩
@[reducible] def eF:Type:=As eO
@[reducible] def zH6:Type:=Int->List dz->Option eF
def aqs(j2:List dz->Option eF)(self1:zH6)(t8:Int)(words:List dz):Option eF :=
 if lt t8 8=true then need (small (zG words+Nat.succ 0)) (self1 (add .i64 t8 1) (words++[(add .i64 512 (mul .i64 t8 32),20,true,false,false)])) else j2 words
def aqt(words:List dz):Option eF :=
 some (([(0,16,true,true,false)],[(0,8,true,false,false)],words,[(0,8,true,false,false)]),())
def aqu(j1:zH6):Option eF :=
 j1 0 [(0,64,true,false,false),(256,8,true,false,false),(272,8,false,true,true),(288,20,false,true,true)]
def aqv:=aqt
def ak2(t8:Int)(words:List dz):Option eF :=
 cu (fun self s=>aqs (aqv) (fun t8 words=>self (t8,words)) s.1 s.2) 18446744073709551616 (t8,words)
def wJ(x:As []):Option eF:=aqu ak2
abbrev pDd:=zp akZ ak0 165 Qy
theorem az9{J a}:pDd J 7 [] (ak1 a)=aqt a:=by kernel_rfl
theorem aAa{J w1 a b}:pDd J 58 [w1] (ZI a b)=aqs (C (J 7 []) ak1) (C w1 ZI) a b:=by kernel_rfl
abbrev pDc:=zj akZ ak0 165 Qy
theorem aAb:C (pDc 7 []) ak1=aqv:=gNC (by decide) fun _=>az9
theorem aAc:C (pDc 58 []) ZI=ak2:=gLC (by decide) (by kernel_rfl) (fun _=>by unfold ak2;rfl) fun _ _=>aAa.trans (by rw[aAb]<;>kernel_rfl)
theorem aqw:au Tryz.prog (fun _=>True) 165 ⟨Qy,wJ⟩:=zcc (env:=akZ) (d:=6) (hs:=Ev.get ak0) bq (fun J x=>aqu (C (J 58 []) ZI)) (fun _ _=>by kernel_rfl) fun _=>by rw[aAc]<;>rfl
@[reducible] def cD:List Ty:=[.pr (.sl .bool) D7]
@[reducible] def cB:Type:=As cD
def aAd(m:List Bool×List Bool×List Int×List Int):Option cB :=
 zC (BU (m.1,())) fun y=>zC (BU (m.2.1,())) fun y_1=>zC (nR (m.2.2.1,())) fun y_2=>zC (nR (m.2.2.2,())) fun y_3=>some ((y.1,y_1.1,y_2.1,y_3.1),())
def aF3(x:As cD):Option cB:=aAd x.1
end Go.Proofs.Lx
end
