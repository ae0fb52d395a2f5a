/- Proved in the last of these 15 parts (this is part 10): TalkEnds. Conditions: those of the given statement, and no others. -/
import Derived.Test.YtljkanofaahagaaGreatCPartd
import Derived.Test.YtljkanofaahagaaGreatCParti
import Derived.Test.YtljkanofaahagaaGreatProg
import Derived.Test.YtljkanofaahagaaGreatCParte
set_option linter.unusedVariables false
set_option linter.unusedSimpArgs false
set_option linter.unusedSectionVars false
open Option renaming bind → zC, none → zH
open Int renaming ofNat → zF, toNat → zI
open List renaming length → zG, getD → zJ
open Go.Value renaming slice → zK
noncomputable section
open Go Go.Proofs Ev Sx
set_option maxRecDepth 100000
namespace Go.Proofs.Lx
abbrev vV:Type:=List Int×(Int×Int)×Int×Int×Int×nW×Int
abbrev nJ:Type:=Int×Int×jq×List Bool
abbrev kS:Type:=Lv×Int×Int×List (Int×List Int)×Int×Int×Int×Int×Int
@[reducible] def zJ0:Type:=Int×Int×Int×Int×Int
@[reducible] def axb:Sh:=⟨[.d aG,.d cI],[],aV,[.d aG],[],0,bE⟩
def ajf(a:vV)(c:zJ0):Option cS :=
 zC (XK (a.2.1,c.1,())) fun y=>some ((a.1,y.1,2,a.2.2.2),())
def XL(x:As aV):Option cS:=ajf x.1 x.2.1
theorem axc:ak Tryz.prog (fun _=>True) 292 ⟨axb,XL⟩:=ctn (aj axa av) 6 fun J x=>by kernel_rfl
@[reducible] def axd:Sh:=⟨[.d aG,.d cI],[],aV,[.d (.bool)],[],0,[.bool]⟩
def axe:Env:=(cts [(2000043,Ev.gu),(276,(⟨Xz,xW⟩:Ct))])
def ajg(a:vV)(c:zJ0):Option aF :=
 if nei a.2.2.2.2.1 c.2.2.1=true then zC (xW (a,2,c.2.2.1,())) fun y=>some (!y.1,()) else some (false,())
def XM(x:As aV):Option aF:=ajg x.1 x.2.1
theorem axf:ak Tryz.prog (fun _=>True) 293 ⟨axd,XM⟩:=ctn (env:=axe) (aj Ev.fF (aj ai4 av)) 6 fun J x=>by kernel_rfl
@[reducible] def amM:Sh:=⟨[.d cr],[],cC,[.d (.bool)],[],0,[.bool]⟩
def ajh(x:Int×List Int):Option aF :=
 zC (rH (x,())) fun y=>some (!y.1,())
def XN(x:As cC):Option aF:=ajh x.1
theorem aji:ak Tryz.prog (fun _=>True) 94 ⟨amM,XN⟩:=ctn (aj Ga av) 6 fun J x=>by kernel_rfl
@[reducible] def ajj:Sh:=⟨[.d (.sl cr),.fn (.func 94) [] []],[],[.sl cr],[.d (.int .i64)],[],0,[.int .i64]⟩
def ajk:Env:=(cts [(94,(⟨amM,XN⟩:Ct))])
def ajl:List (Nat×Hint):=[(26,⟨[],[0,1,7,8]⟩)]
@[reducible] def zJ1:Type:=List (Int×List Int)
def XO(s:zJ1)(t7 t8:Int):St:=⟨[(0,.d (.sl cr) s),(1,.fn (.func 94) [] []),(7,dI t7),(8,dI t8)],19,[],[],0,[],0⟩
@[reducible] def zJ2:Type:=List (Int×List Int)->Int->Int->Option cG
def N6(self1:zJ2)(s:zJ1)(t7 t8:Int):Option cG :=
 if lt t8 t7=true then zC (at? s t8) fun y=>zC (XN (y,())) fun y=>if y.1=true then some (t8,()) else self1 s t7 (add .i64 t8 1) else some (-1,())
def aqB(j1:zJ2)(s:zJ1):Option cG :=
 j1 s (zF (zG s)) 0
def N7(s:zJ1)(t7 t8:Int):Option cG :=
 bu (fun self s=>N6 (fun s t7 t8=>self (s,t7,t8)) s.1 s.2.1 s.2.2) 18446744073709551616 (s,t7,t8)
def ajm(x:As [.sl cr]):Option cG:=aqB N7 x.1
abbrev pDl:=zp ajk ajl 152 ajj
theorem aA4{J w1 a b c}:pDl J 26 [w1] (XO a b c)=N6 (C w1 XO) a b c:=by kernel_rfl
abbrev pDk:=zj ajk ajl 152 ajj
theorem aA5:C (pDk 26 []) XO=N7:=gLC (by decide) (by kernel_rfl) (fun _=>by unfold N7;rfl) fun _ _=>aA4.trans (by kernel_rfl)
theorem aA6:ak Tryz.prog (fun _=>True) 152 ⟨ajj,ajm⟩:=zcc (env:=ajk) (d:=6) (hs:=Ev.get ajl) (aj aji av) (fun J x=>aqB (C (J 26 []) XO) x.1) (fun _ _=>by kernel_rfl) fun _=>by rw[aA5]<;>rfl
@[reducible] def aA7:Sh:=⟨[.d (.sl cr),.fn (.func 94) [] []],[],[.sl cr],[.d (.bool)],[],0,[.bool]⟩
def ajn(s:zJ1):Option aF :=
 zC (ajm (s,())) fun y=>some (ge y.1 0,())
def ajo(x:As [.sl cr]):Option aF:=ajn x.1
theorem aA8:ak Tryz.prog (fun _=>True) 93 ⟨aA7,ajo⟩:=ctn (aj aji (aj aA6 av)) 6 fun J x=>by kernel_rfl
@[reducible] def amN:Sh:=⟨[.d (.sl cr)],[],[.sl cr],[.d (.bool)],[],0,[.bool]⟩
def ajp(l:zJ1):Option aF :=
 zC (ajo (l,())) fun y=>some (!y.1,())
def JF(x:As [.sl cr]):Option aF:=ajp x.1
theorem axg:ak Tryz.prog (fun _=>True) 44 ⟨amN,JF⟩:=ctn (aj aA8 (aj aji av)) 6 fun J x=>by kernel_rfl
@[reducible] def XP:Sh:=⟨[.d aC,.d (.sl cr)],[],[.sl (.int .u16),.sl cr],[.d aC,.d (.int .i64)],[],0,bQ⟩
def ajq:Env:=(cts [(44,(⟨amN,JF⟩:Ct)),(45,(⟨SF,CZ⟩:Ct))])
def ajr:List (Nat×Hint):=[(31,⟨[],[0]⟩),(250,⟨[],[0,16,17,18]⟩)]
def XQ(t16:zJ1)(t17 t18:Int)(bank:List Int):St:=⟨[(0,.row 0),(16,.d (.sl cr) t16),(17,dI t17),(18,dI t18)],31,[],[(0,.row (.int .u16) 25 bank)],1,[],0⟩
def ajs(bank:List Int):St:=⟨[(0,.row 0)],31,[],[(0,.row (.int .u16) 25 bank)],1,[],0⟩
@[reducible] def zJ3:Type:=List (Int×List Int)->Int->Int->List Int->Option (As bQ)
def Hq(j2:List Int->Option (As bQ))(self1:zJ3)(t16:zJ1)(t17 t18:Int)(bank:List Int):Option (As bQ) :=
 if lt t18 t17=true then zC (at? t16 t18) fun y=>need (ge y.1 0) (need (le y.1 (zF (zG bank))) (need (le (zF (zG bank)) (zF (zG bank))) (need (le (y.1+(zF (zG bank) - y.1)) (zF (zG bank))) (self1 t16 t17 (add .i64 t18 1) (List.take (zI y.1) bank++List.take (zI (zF (zG bank) - y.1)) y.2++List.drop (zI y.1+zG (List.take (zI (zF (zG bank) - y.1)) y.2)) bank))))) else j2 bank
def amO(bank:List Int):Option (As bQ) :=
 some (bank,0,())
def XR(j1:zJ3)(bank:List Int)(l:zJ1):Option (As bQ) :=
 if nei (zF (zG bank)) 64=true then some ([],21,()) else zC (JF (l,())) fun y=>if (!y.1)=true then some ([],20,()) else zC (CZ (bank,())) fun y=>j1 l (zF (zG l)) 0 y.1
def amP:=amO
def Hr(t16:zJ1)(t17 t18:Int)(bank:List Int):Option (As bQ) :=
 bu (fun self s=>Hq (amP) (fun t16 t17 t18 bank=>self (t16,t17,t18,bank)) s.1 s.2.1 s.2.2.1 s.2.2.2) 18446744073709551616 (t16,t17,t18,bank)
def DI(x:As [.sl (.int .u16),.sl cr]):Option (As bQ):=XR Hr x.1 x.2.1
abbrev pA5:=zp ajq ajr 12 XP
theorem axh{J a}:pA5 J 31 [] (ajs a)=amO a:=by kernel_rfl
theorem axi{J w1 a b c d}:pA5 J 250 [w1] (XQ a b c d)=Hq (C (J 31 []) ajs) (C w1 XQ) a b c d:=by kernel_rfl
abbrev pA4:=zj ajq ajr 12 XP
theorem axj:C (pA4 31 []) ajs=amP:=gNC (by decide) fun _=>axh
theorem axk:C (pA4 250 []) XQ=Hr:=gLC (by decide) (by kernel_rfl) (fun _=>by unfold Hr;rfl) fun _ _=>axi.trans (by rw[axj]<;>kernel_rfl)
theorem amQ:ak Tryz.prog (fun _=>True) 12 ⟨XP,DI⟩:=zcc (env:=ajq) (d:=6) (hs:=Ev.get ajr) (aj axg (aj apl av)) (fun J x=>XR (C (J 250 []) XQ) x.1 x.2.1) (fun _ _=>by kernel_rfl) fun _=>by rw[axk]<;>rfl
@[reducible] def axl:Sh:=⟨[.d aG,.d cI],[],aV,[.d aG],[],0,bE⟩
def ajt(a:vV)(c:zJ0):Option cS :=
 if eqi a.2.2.2.2.1 c.2.2.1=true then some (a,()) else zC (DC (a.2.2.2.2.2.1,())) fun y=>zC (DI (a.1,y.1,())) fun y=>if nei y.2.1 0=true then some (a,()) else zC (Hl ((y.1,a.2.1,a.2.2.1,a.2.2.2.1,c.2.2.1,a.2.2.2.2.2),())) fun y=>some (y.1,())
def XT(x:As aV):Option cS:=ajt x.1 x.2.1
theorem axm:ak Tryz.prog (fun _=>True) 294 ⟨axl,XT⟩:=ctn (aj amQ (aj aqz (aj aiT av))) 6 fun J x=>by kernel_rfl
@[reducible] def axn:Sh:=⟨[.d aG,.d cI],[],aV,[.d (.bool)],[],0,[.bool]⟩
def axo:Env:=(cts [(2000043,Ev.gu)])
def axp(a:vV)(c:zJ0):Option aF :=
 some (le c.2.2.1 a.2.2.2.2.1,())
def XU(x:As aV):Option aF:=axp x.1 x.2.1
theorem axq:ak Tryz.prog (fun _=>True) 295 ⟨axn,XU⟩:=ctn (env:=axo) (aj Ev.fF av) 6 fun J x=>by kernel_rfl
@[reducible] def aju:Sh:=⟨[.d aG,.d cI],[],aV,[.d aG],[],0,bE⟩
def ajv:Env:=(cts [(2000043,Ev.gu),(173,(⟨amI,Hl⟩:Ct))])
def ajw:List (Nat×Hint):=[(6,⟨[],[2,4,17]⟩)]
def ajx(a:vV)(t4:Int)(t17:Bool)(t4_2:List jq):St:=⟨[(2,.pe aG a),(4,.prw 0 t4 32 0),(17,dB t17)],21,[],[(0,.row aG 43 t4_2)],1,[],0⟩
def XW(a:vV)(t4:Int)(t17:Bool)(t4_2:List jq):Option cS :=
 if t17=true then zC (at? t4_2 t4) fun x=>zC (at? (List.set t4_2 (zI t4) a) t4) fun y=>zC (at? (List.set t4_2 (zI t4) a) t4) fun y=>some (y,()) else zC (Hl (a,())) fun y=>zC (at? t4_2 t4) fun x=>zC (at? (List.set t4_2 (zI t4) y.1) t4) fun y_1=>zC (at? (List.set t4_2 (zI t4) y.1) t4) fun y=>some (y,())
def XX(j1:vV->Int->Bool->List jq->Option cS)(a:vV)(c:zJ0):Option cS :=
 if nei a.2.1.1 c.1=true then j1 a 0 true [zx] else j1 a 0 (nei a.2.2.2.1 c.2.2.1) [zx]
def XY:=XW
def XZ(x:As aV):Option cS:=XX XY x.1 x.2.1
abbrev pAh:=zp ajv ajw 296 aju
theorem axr{J a b c d}:pAh J 6 [] (ajx a b c d)=XW a b c d:=by kernel_rfl
abbrev pAg:=zj ajv ajw 296 aju
theorem axt:C (pAg 6 []) ajx=XY:=gNC (by decide) fun _=>axr
theorem axu:ak Tryz.prog (fun _=>True) 296 ⟨aju,XZ⟩:=zcc (env:=ajv) (d:=6) (hs:=Ev.get ajw) (aj Ev.fF (aj aiT av)) (fun J x=>XX (C (J 6 []) ajx) x.1 x.2.1) (fun _ _=>by kernel_rfl) fun _=>by rw[axt]<;>rfl
@[reducible] def X0:Sh:=⟨[.d aG,.d cI],[],aV,[.d aG,.d (.int .i64)],[],0,cD⟩
def ajy(a:vV)(c:zJ0):Option (As cD) :=
 zC (NY (a,())) fun y=>amb (au X0.rs) [if eqi 1 c.2.1=true then if eqi c.1 0=true then some (y.1,2,()) else if eqi c.2.2.1 0=true then some (y.1,2,()) else zC (rM (y.1,c.1,())) fun y_1=>if y_1.1=true then some (y.1,22,()) else zC (Xt (y.1,c,())) fun y_2=>if y_2.1=true then some (y.1,23,()) else zC (Xy (y.1,c,())) fun y=>some (y.1,0,()) else if eqi 2 c.2.1=true then if eqi c.1 0=true then some (y.1,2,()) else if eqi c.2.2.1 0=true then some (y.1,2,()) else zC (rM (y.1,c.1,())) fun y_1=>if y_1.1=true then some (y.1,22,()) else zC (XJ (y.1,c,())) fun y_2=>if y_2.1=true then some (y.1,23,()) else zC (XL (y.1,c,())) fun y=>some (y.1,0,()) else if eqi 3 c.2.1=true then if eqi c.1 0=true then some (y.1,2,()) else if eqi c.2.2.1 0=true then some (y.1,2,()) else zC (rM (y.1,c.1,())) fun y_1=>if y_1.1=true then some (y.1,22,()) else zC (XM (y.1,c,())) fun y_2=>if y_2.1=true then some (y.1,23,()) else zC (XT (y.1,c,())) fun y=>some (y.1,0,()) else if eqi 4 c.2.1=true then if eqi c.1 0=true then some (y.1,2,()) else if eqi c.2.2.1 0=true then some (y.1,2,()) else zC (rM (y.1,c.1,())) fun y_1=>if y_1.1=true then some (y.1,22,()) else zC (XU (y.1,c,())) fun y_2=>if y_2.1=true then some (y.1,23,()) else zC (XZ (y.1,c,())) fun y=>some (y.1,0,()) else if eqi c.1 0=true then some (y.1,2,()) else if eqi c.2.2.1 0=true then some (y.1,2,()) else some (y.1,2,()),if eqi 1 c.2.1=true then if eqi c.1 0=true then some (y.1,2,()) else if eqi c.2.2.1 0=true then some (y.1,2,()) else zC (rM (y.1,c.1,())) fun y_1=>if y_1.1=true then some (y.1,22,()) else zC (Xt (y.1,c,())) fun y_2=>if y_2.1=true then some (y.1,23,()) else zC (Xy (y.1,c,())) fun y=>some (y.1,0,()) else if eqi 2 c.2.1=true then if eqi c.1 0=true then some (y.1,2,()) else if eqi c.2.2.1 0=true then some (y.1,2,()) else zC (rM (y.1,c.1,())) fun y_1=>if y_1.1=true then some (y.1,22,()) else zC (XJ (y.1,c,())) fun y_2=>if y_2.1=true then some (y.1,23,()) else zC (XL (y.1,c,())) fun y=>some (y.1,0,()) else if eqi 3 c.2.1=true then if eqi c.1 0=true then some (y.1,2,()) else if eqi c.2.2.1 0=true then some (y.1,2,()) else zC (rM (y.1,c.1,())) fun y_1=>if y_1.1=true then some (y.1,22,()) else zC (XM (y.1,c,())) fun y_2=>if y_2.1=true then some (y.1,23,()) else zC (XT (y.1,c,())) fun y=>some (y.1,0,()) else if eqi 4 c.2.1=true then if eqi c.1 0=true then some (y.1,2,()) else if eqi c.2.2.1 0=true then some (y.1,2,()) else zC (rM (y.1,c.1,())) fun y_1=>if y_1.1=true then some (y.1,22,()) else zC (XU (y.1,c,())) fun y_2=>if y_2.1=true then some (y.1,23,()) else zC (XZ (y.1,c,())) fun y=>some (y.1,0,()) else if eqi c.1 0=true then some (y.1,2,()) else if eqi c.2.2.1 0=true then some (y.1,2,()) else some (y.1,2,())]
def xX(x:As aV):Option (As cD):=ajy x.1 x.2.1
theorem axv:ak Tryz.prog (fun _=>True) 253 ⟨X0,xX⟩:=ctn (aj amH (aj aqv (aj awN (aj awV (aj aw8 (aj axc (aj axf (aj axm (aj axq (aj axu av)))))))))) 6 fun J x=>by kernel_rfl
@[reducible] def bH:List Ty:=[.int .u16,.int .u32,.int .i64,.pr (.int .i64) aC,.int .i64]
@[reducible] def X3:Sh:=⟨[.d aC],[],aK,[.d (.int .u16),.d (.int .u32),.d (.int .i64),.d cr,.d (.int .i64)],[],0,bH⟩
def ajz:Env:=(cts [(26,(⟨LW,rH⟩:Ct)),(90,(⟨Mm,vJ⟩:Ct)),(91,(⟨XA,AB⟩:Ct)),(267,(⟨LX,Da⟩:Ct)),(270,(⟨Un,pO⟩:Ct))])
def ajA:List (Nat×Hint):=[(126,⟨[],[0,5,10,53]⟩),(6,⟨[],[0,5,19,47,48,49,50,51,52]⟩)]
def ajB(w:List Int)(t19:Bool)(t5:Int):St:=⟨[(0,dW w),(5,.pb 0 0),(19,dB t19)],70,[],[(0,.box 38 [dI t5,.k (zK zH 0 0)])],1,[],0⟩
def ajC(w:List Int)(t53:Bool)(t5:Int)(x:Int×List Int):St:=⟨[(0,dW w),(5,.pb 0 0),(10,.pb 1 0),(53,dB t53)],70,[],[(0,.box 38 [dI t5,.k (zK zH 0 0)]),(1,.box 38 [dI x.1,dW x.2])],2,[],0⟩
def X4(j2:List Int->Bool->Int->Int×List Int->Option (As bH))(w:List Int)(t19:Bool)(t5:Int):Option (As bH) :=
 if t19=true then some (0,0,0,(0,[]),2,()) else zC (at? w 4) fun y=>zC (at? w 5) fun y_1=>zC (cut w 6 (zF (zG w))) fun y_2=>if gt (cvt .i64 y_1) (zF (zG y_2))=true then some (0,0,0,(0,[]),20,()) else zC (cut y_2 0 (cvt .i64 y_1)) fun y_3=>need (le (cvt .i64 y_1) (cvt .i64 y_1)) (need (le (cvt .i64 y_1) (zF (zG y_2))) (zC (AB ((cvt .i64 y,y_3),())) fun y=>zC (rH (y.1,())) fun y_4=>if (!y_4.1)=true then j2 w true t5 y.1 else zC (cut w 4 (zF (zG w))) fun y_5=>zC (Da (y.1,())) fun y_6=>zC (vJ (y_6.1,y_5,())) fun y_7=>j2 w (!y_7.1) t5 y.1))
def X5(w:List Int)(t53:Bool)(t5:Int)(x:Int×List Int):Option (As bH) :=
 if t53=true then some (0,0,0,(0,[]),20,()) else zC (at? w 0) fun y=>zC (at? w 1) fun y_1=>zC (at? w 2) fun y_2=>zC (at? w 3) fun y_3=>zC (pO (y_1,y_2,())) fun y_4=>some (y,y_4.1,cvt .i64 y_3,x,0,())
def X6(j1:List Int->Bool->Int->Option (As bH))(w:List Int):Option (As bH) :=
 if nei (zF (zG w)) 20=true then j1 w true 0 else zC (at? w 3) fun y=>j1 w (ge y 8) 0
def X7:=X5
def ajD:=X4 (X7)
def Ht(x:As aK):Option (As bH):=X6 ajD x.1
abbrev pDv:=zp ajz ajA 254 X3
theorem axw{J a b c d}:pDv J 126 [] (ajC a b c d)=X5 a b c d:=by kernel_rfl
theorem axx{J a b c}:pDv J 6 [] (ajB a b c)=X4 (C (J 126 []) ajC) a b c:=by kernel_rfl
abbrev pDu:=zj ajz ajA 254 X3
theorem axy:C (pDu 126 []) ajC=X7:=gNC (by decide) fun _=>axw
theorem axz:C (pDu 6 []) ajB=ajD:=gNC (by decide) fun _=>axx.trans (by rw[axy]<;>kernel_rfl)
theorem axA:ak Tryz.prog (fun _=>True) 254 ⟨X3,Ht⟩:=zcc (env:=ajz) (d:=6) (hs:=Ev.get ajA) (aj Ga (aj aeF (aj ai6 (aj adH (aj ad9 av))))) (fun J x=>X6 (C (J 6 []) ajB) x.1) (fun _ _=>by kernel_rfl) fun _=>by rw[axz]<;>rfl
@[reducible] def X8:Sh:=⟨[.d (.pr (.int .u32) (.pr (.ar 8 .bool) (.ar 8 cr))),.d (.int .i64),.d cr],[],[.pr (.int .u32) (.pr (.ar 8 .bool) (.ar 8 cr)),.int .i64,.pr (.int .i64) aC],[.d (.pr (.int .u32) (.pr (.ar 8 .bool) (.ar 8 cr))),.d (.int .i64)],[],0,[.pr (.int .u32) (.pr (.ar 8 .bool) (.ar 8 cr)),.int .i64]⟩
def ajE:Env:=(cts [(26,(⟨LW,rH⟩:Ct)),(91,(⟨XA,AB⟩:Ct)),(283,(⟨aen,Dc⟩:Ct))])
def ajF:List (Nat×Hint):=[(31,⟨[],[3,6]⟩),(250,⟨[],[3,6,26,27]⟩)]
def X9(s t6:Int)(t26:List Bool)(t27:Int)(s_2 t6_2:List nW):St:=⟨[(3,.prw 0 s 25 0),(6,.prw 1 t6 25 0),(26,.d (.ar 8 .bool) t26),(27,dI t27)],46,[],[(0,.row (.pr (.int .u32) (.pr (.ar 8 .bool) (.ar 8 cr))) 41 s_2),(1,.row (.pr (.int .u32) (.pr (.ar 8 .bool) (.ar 8 cr))) 41 t6_2)],2,[],0⟩
def ajG(s t6:Int)(s_2 t6_2:List nW):St:=⟨[(3,.prw 0 s 25 0),(6,.prw 1 t6 25 0)],46,[],[(0,.row (.pr (.int .u32) (.pr (.ar 8 .bool) (.ar 8 cr))) 41 s_2),(1,.row (.pr (.int .u32) (.pr (.ar 8 .bool) (.ar 8 cr))) 41 t6_2)],2,[],0⟩
@[reducible] def zJ4:Type:=Int->Int->List Bool->Int->List nW->List nW->Option (As [.pr (.int .u32) (.pr (.ar 8 .bool) (.ar 8 cr)),.int .i64])
def N8(j2:Int->Int->List nW->List nW->Option (As [.pr (.int .u32) (.pr (.ar 8 .bool) (.ar 8 cr)),.int .i64]))(self1:zJ4)(s t6:Int)(t26:List Bool)(t27:Int)(s_2 t6_2:List nW):Option (As [.pr (.int .u32) (.pr (.ar 8 .bool) (.ar 8 cr)),.int .i64]) :=
 if lt t27 8=true then need (lt t27 8) (zC (at? t26 t27) fun y=>if y=true then need (ge t27 0) (need (lt t27 8) (zC (at? s_2 s) fun y=>zC (at? y.2.2 t27) fun z=>zC (AB (z,())) fun y=>need (ge t27 0) (need (lt t27 8) (zC (at? s_2 s) fun x=>zC (at? x.2.2 t27) fun z=>self1 s t6 t26 (add .i64 t27 1) (List.set s_2 (zI s) (x.1,x.2.1,List.set x.2.2 (zI t27) y.1)) t6_2)))) else need (ge t27 0) (need (lt t27 8) (zC (at? s_2 s) fun x=>zC (at? x.2.2 t27) fun z=>self1 s t6 t26 (add .i64 t27 1) (List.set s_2 (zI s) (x.1,x.2.1,List.set x.2.2 (zI t27) (0,[]))) t6_2))) else j2 s t6 s_2 t6_2
def amR(s t6:Int)(s_2 t6_2:List nW):Option (As [.pr (.int .u32) (.pr (.ar 8 .bool) (.ar 8 cr)),.int .i64]) :=
 zC (at? s_2 s) fun y=>zC (at? t6_2 t6) fun x=>zC (at? (List.set t6_2 (zI t6) y) t6) fun y_1=>zC (at? (List.set t6_2 (zI t6) y) t6) fun y=>some (y,0,())
def Ya(j1:zJ4)(s:Int×List Bool×List (Int×List Int))(n:Int)(x:Int×List Int):Option (As [.pr (.int .u32) (.pr (.ar 8 .bool) (.ar 8 cr)),.int .i64]) :=
 zC (Dc (n,())) fun y=>if (!y.1)=true then some (zSt,2,()) else zC (rH (x,())) fun y=>if (!y.1)=true then some (zSt,20,()) else need (ge n 0) (need (lt n 8) (zC (at? s.2.1 n) fun z=>need (ge n 0) (need (lt n 8) (zC (at? s.2.2 n) fun z=>j1 0 0 (List.set s.2.1 (zI n) true) 0 [(s.1,List.set s.2.1 (zI n) true,List.set s.2.2 (zI n) x)] [zSt]))))
def amS:=amR
def N9(s t6:Int)(t26:List Bool)(t27:Int)(s_2 t6_2:List nW):Option (As [.pr (.int .u32) (.pr (.ar 8 .bool) (.ar 8 cr)),.int .i64]) :=
 bu (fun self s=>N8 (amS) (fun s t6 t26 t27 s_2 t6_2=>self (s,t6,t26,t27,s_2,t6_2)) s.1 s.2.1 s.2.2.1 s.2.2.2.1 s.2.2.2.2.1 s.2.2.2.2.2) 18446744073709551616 (s,t6,t26,t27,s_2,t6_2)
def Yb(x:As [.pr (.int .u32) (.pr (.ar 8 .bool) (.ar 8 cr)),.int .i64,.pr (.int .i64) aC]):Option (As [.pr (.int .u32) (.pr (.ar 8 .bool) (.ar 8 cr)),.int .i64]):=Ya N9 x.1 x.2.1 x.2.2.1
abbrev pDt:=zp ajE ajF 277 X8
theorem axB{J a b c d}:pDt J 31 [] (ajG a b c d)=amR a b c d:=by kernel_rfl
theorem axC{J w1 a b c d e f}:pDt J 250 [w1] (X9 a b c d e f)=N8 (C (J 31 []) ajG) (C w1 X9) a b c d e f:=by kernel_rfl
abbrev pDs:=zj ajE ajF 277 X8
theorem axD:C (pDs 31 []) ajG=amS:=gNC (by decide) fun _=>axB
theorem axE:C (pDs 250 []) X9=N9:=gLC (by decide) (by kernel_rfl) (fun _=>by unfold N9;rfl) fun _ _=>axC.trans (by rw[axD]<;>kernel_rfl)
theorem axF:ak Tryz.prog (fun _=>True) 277 ⟨X8,Yb⟩:=zcc (env:=ajE) (d:=6) (hs:=Ev.get ajF) (aj Ga (aj ai6 (aj aep av))) (fun J x=>Ya (C (J 250 []) X9) x.1 x.2.1 x.2.2.1) (fun _ _=>by kernel_rfl) fun _=>by rw[axE]<;>rfl
@[reducible] def Yc:Sh:=⟨[.d aG,.d (.int .u16),.d (.int .u32),.d (.int .i64),.d cr],[],[.pr aC tV,.int .u16,.int .u32,.int .i64,.pr (.int .i64) aC],[.d aG,.d (.int .i64)],[],0,cD⟩
def ajH:Env:=(cts [(171,(⟨Xp,NY⟩:Ct)),(275,(⟨aqu,rM⟩:Ct)),(276,(⟨Xz,xW⟩:Ct)),(277,(⟨X8,Yb⟩:Ct)),(278,(⟨amJ,Dz⟩:Ct))])
def ajI:List (Nat×Hint):=[(14,⟨[],[1,2,3,5,9,10,21]⟩)]
def ajJ(owner tx n a t10:Int)(t21:Bool)(a_2:List jq)(x:Int×List Int)(t10_2:List jq):St:=⟨[(1,d6 owner),(2,d2 tx),(3,dI n),(5,.prw 0 a 32 0),(9,.pb 1 0),(10,.prw 2 t10 32 0),(21,dB t21)],49,[],[(0,.row aG 43 a_2),(1,.box 38 [dI x.1,dW x.2]),(2,.row aG 43 t10_2)],3,[],0⟩
def Yd(owner tx n a t10:Int)(t21:Bool)(a_2:List jq)(x:Int×List Int)(t10_2:List jq):Option (As cD) :=
 if t21=true then zC (at? a_2 a) fun y=>zC (at? t10_2 t10) fun x=>zC (at? (List.set t10_2 (zI t10) y) t10) fun y_1=>zC (at? (List.set t10_2 (zI t10) y) t10) fun y=>some (y,2,()) else zC (at? a_2 a) fun y=>zC (rM (y,owner,())) fun y=>if y.1=true then zC (at? a_2 a) fun y=>zC (at? t10_2 t10) fun x=>zC (at? (List.set t10_2 (zI t10) y) t10) fun y_1=>zC (at? (List.set t10_2 (zI t10) y) t10) fun y=>some (y,22,()) else zC (at? a_2 a) fun y=>zC (xW (y,1,tx,())) fun y=>if (!y.1)=true then zC (at? a_2 a) fun y=>zC (at? t10_2 t10) fun x=>zC (at? (List.set t10_2 (zI t10) y) t10) fun y_1=>zC (at? (List.set t10_2 (zI t10) y) t10) fun y=>some (y,23,()) else zC (at? a_2 a) fun y=>zC (Yb (y.2.2.2.2.2.1,n,x,())) fun y=>if nei y.2.1 0=true then zC (at? a_2 a) fun y_1=>zC (at? t10_2 t10) fun x=>zC (at? (List.set t10_2 (zI t10) y_1) t10) fun y_2=>zC (at? (List.set t10_2 (zI t10) y_1) t10) fun y_3=>some (y_3,y.2.1,()) else zC (at? a_2 a) fun x=>zC (at? (List.set a_2 (zI a) (x.1,x.2.1,x.2.2.1,x.2.2.2.1,x.2.2.2.2.1,y.1,x.2.2.2.2.2.2)) a) fun y=>zC (Dz (y,owner,())) fun y=>zC (at? t10_2 t10) fun x=>zC (at? (List.set t10_2 (zI t10) y.1) t10) fun y_1=>zC (at? (List.set t10_2 (zI t10) y.1) t10) fun y=>some (y,0,())
def Ye(j1:Int->Int->Int->Int->Int->Bool->List jq->Int×List Int->List jq->Option (As cD))(a:vV)(owner tx n:Int)(x:Int×List Int):Option (As cD) :=
 zC (NY (a,())) fun y=>if eqi owner 0=true then j1 owner tx n 0 0 true [y.1] x [zx] else j1 owner tx n 0 0 (eqi tx 0) [y.1] x [zx]
def Yf:=Yd
def xY(x:As [.pr aC tV,.int .u16,.int .u32,.int .i64,.pr (.int .i64) aC]):Option (As cD):=Ye Yf x.1 x.2.1 x.2.2.1 x.2.2.2.1 x.2.2.2.2.1
abbrev pAb:=zp ajH ajI 255 Yc
theorem axG{J a b c d e f g h i}:pAb J 14 [] (ajJ a b c d e f g h i)=Yd a b c d e f g h i:=by kernel_rfl
abbrev pAa:=zj ajH ajI 255 Yc
theorem axH:C (pAa 14 []) ajJ=Yf:=gNC (by decide) fun _=>axG
theorem axI:ak Tryz.prog (fun _=>True) 255 ⟨Yc,xY⟩:=zcc (env:=ajH) (d:=6) (hs:=Ev.get ajI) (aj amH (aj aqv (aj ai4 (aj axF (aj amK av))))) (fun J x=>Ye (C (J 14 []) ajJ) x.1 x.2.1 x.2.2.1 x.2.2.2.1 x.2.2.2.2.1) (fun _ _=>by kernel_rfl) fun _=>by rw[axH]<;>rfl
@[reducible] def bG:List Ty:=[.int .u8,.int .u8,.sl (.int .u16),.int .u16,.int .i64,.int .u8,.int .u32,.int .u32,.int .u32,.bool,.bool,.bool,.bool,.bool,.bool,.bool,.bool,.int .i64,.sl (.int .u16),.int .i64,.sl (.int .u16),.int .i64,.sl (.int .u16),.int .i64,.sl (.int .u16),.int .i64,.sl (.int .u16),.int .i64,.sl (.int .u16),.int .i64,.sl (.int .u16),.int .i64,.sl (.int .u16),.int .i64,.sl (.int .u8),.sl .bool]
@[reducible] def cT:List Ty:=[.pr (.int .u8) aA,.pr (.int .u8) mg]
@[reducible] def uh:Sh:=⟨[.agg [.d (.int .u8),.d (.int .u8),.d aC,.d (.int .u16),.d (.int .i64),.d (.int .u8),.d (.int .u32),.d (.int .u32),.d (.int .u32),.d (.bool),.d (.bool),.d (.bool),.d (.bool),.d (.bool),.d (.bool),.d (.bool),.d (.bool),.d (.int .i64),.d aC,.d (.int .i64),.d aC,.d (.int .i64),.d aC,.d (.int .i64),.d aC,.d (.int .i64),.d aC,.d (.int .i64),.d aC,.d (.int .i64),.d aC,.d (.int .i64),.d aC,.d (.int .i64),.row 0],.d aJ],[.row .bool 4],bG,[.d bB,.d aP],[],0,cT⟩
def ajK:Env:=(cts [(1000045,Ev.gu),(1000226,Ev.gu),(163,(⟨amw,Ao⟩:Ct)),(164,(⟨NN,Dx⟩:Ct)),(165,(⟨NP,ug⟩:Ct)),(166,(⟨afp,jI⟩:Ct)),(168,(⟨mK,ni⟩:Ct)),(252,(⟨Xl,G9⟩:Ct)),(253,(⟨X0,xX⟩:Ct)),(254,(⟨X3,Ht⟩:Ct)),(255,(⟨Yc,xY⟩:Ct))])
def ajL:List (Nat×Hint):=[(7,⟨[],[2,4,5,6,7]⟩)]
@[reducible] def zJ5:Type:=Int×Int×Int×Int×List Int×List Bool
def ajM(except:Int)(o:List Bool)(s s_2:Int)(s_3:List Int)(s_4 s_5 s_6 s_7 s_8 s_9:Int)(s_10 s_11 s_12 s_13 s_14 s_15 s_16 s_17:Bool)(s_18:Int)(s_19:List Int)(s_20:Int)(s_21:List Int)(s_22:Int)(s_23:List Int)(s_24:Int)(s_25:List Int)(s_26:Int)(s_27:List Int)(s_28:Int)(s_29:List Int)(s_30:Int)(s_31:List Int)(s_32:Int)(s_33:List Int)(s_34 t4 t4_2 t4_3 t4_4 t4_5 t4_6 t4_7 t4_8:Int)(t4_9 t4_10 t4_11 t4_12 t4_13 t4_14 t4_15 t4_16:Bool)(t4_17 t4_18 t4_19 t4_20 t4_21 t4_22 t4_23 t4_24 t4_25 t5 t5_2 t5_3 t5_4:Int)(a:zJ5):St:=⟨[(2,.pb 1 0),(4,.pb 2 0),(5,.pb 3 0),(6,.pb 4 0),(7,d8 except)],43,[],[(0,.row .bool 4 o),(1,.box 45 [d8 s,d8 s_2,dW s_3,d6 s_4,dI s_5,d8 s_6,d2 s_7,d2 s_8,d2 s_9,dB s_10,dB s_11,dB s_12,dB s_13,dB s_14,dB s_15,dB s_16,dB s_17,dI s_18,dW s_19,dI s_20,dW s_21,dI s_22,dW s_23,dI s_24,dW s_25,dI s_26,dW s_27,dI s_28,dW s_29,dI s_30,dW s_31,dI s_32,dW s_33,dI s_34,.row 0]),(2,.box 45 [d8 t4,d8 t4_2,.k (zK zH 0 0),d6 t4_3,dI t4_4,d8 t4_5,d2 t4_6,d2 t4_7,d2 t4_8,dB t4_9,dB t4_10,dB t4_11,dB t4_12,dB t4_13,dB t4_14,dB t4_15,dB t4_16,dI t4_17,.k (zK zH 0 0),dI t4_18,.k (zK zH 0 0),dI t4_19,.k (zK zH 0 0),dI t4_20,.k (zK zH 0 0),dI t4_21,.k (zK zH 0 0),dI t4_22,.k (zK zH 0 0),dI t4_23,.k (zK zH 0 0),dI t4_24,.k (zK zH 0 0),dI t4_25,.k (zK zH 0 0)]),(3,.box 109 [d8 t5,d8 t5_2,.k (zK zH 0 0),.k (zK zH 0 0),d6 t5_3,d6 t5_4]),(4,.box 27 [d8 a.1,d6 a.2.1,d6 a.2.2.1,d6 a.2.2.2.1,dW a.2.2.2.2.1,.d (.sl .bool) a.2.2.2.2.2])],5,[],1⟩
def aqC(except:Int)(o:List Bool)(s s_2:Int)(s_3:List Int)(s_4 s_5 s_6 s_7 s_8 s_9:Int)(s_10 s_11 s_12 s_13 s_14 s_15 s_16 s_17:Bool)(s_18:Int)(s_19:List Int)(s_20:Int)(s_21:List Int)(s_22:Int)(s_23:List Int)(s_24:Int)(s_25:List Int)(s_26:Int)(s_27:List Int)(s_28:Int)(s_29:List Int)(s_30:Int)(s_31:List Int)(s_32:Int)(s_33:List Int)(s_34 t4 t4_2 t4_3 t4_4 t4_5 t4_6 t4_7 t4_8:Int)(t4_9 t4_10 t4_11 t4_12 t4_13 t4_14 t4_15 t4_16:Bool)(t4_17 t4_18 t4_19 t4_20 t4_21 t4_22 t4_23 t4_24 t4_25 t5 t5_2 t5_3 t5_4:Int)(a:zJ5):Option (As cT) :=
 (fun (gA:TAg)=>if nei except 0=true then zC (jI (a.1,except,())) fun y=>some ((s,s_2,gA,o),y.1,()) else if eqi a.1 5=true then if le (add .i64 (cvt .i64 a.2.1) (zF (zG a.2.2.2.2.2))) (zF (zG o))=true then need (ge a.2.1 0) (need (le a.2.1 (zF (zG o))) (need (le (zF (zG o)) (zF (zG o))) (need (le (a.2.1+(zF (zG o) - a.2.1)) (zF (zG o))) (zC (ni ((s,s_2,gA,List.take (zI a.2.1) o++List.take (zI (zF (zG o) - a.2.1)) a.2.2.2.2.2++List.drop (zI a.2.1+zG (List.take (zI (zF (zG o) - a.2.1)) a.2.2.2.2.2)) o),a,())) fun y=>some ((s,s_2,gA,List.take (zI a.2.1) o++List.take (zI (zF (zG o) - a.2.1)) a.2.2.2.2.2++List.drop (zI a.2.1+zG (List.take (zI (zF (zG o) - a.2.1)) a.2.2.2.2.2)) o),y.1,()))))) else zC (ni ((s,s_2,gA,o),a,())) fun y=>some ((s,s_2,gA,o),y.1,()) else if eqi a.1 15=true then if le (add .i64 (cvt .i64 a.2.1) (zF (zG a.2.2.2.2.2))) (zF (zG o))=true then need (ge a.2.1 0) (need (le a.2.1 (zF (zG o))) (need (le (zF (zG o)) (zF (zG o))) (need (le (a.2.1+(zF (zG o) - a.2.1)) (zF (zG o))) (zC (ni ((s,s_2,gA,List.take (zI a.2.1) o++List.take (zI (zF (zG o) - a.2.1)) a.2.2.2.2.2++List.drop (zI a.2.1+zG (List.take (zI (zF (zG o) - a.2.1)) a.2.2.2.2.2)) o),a,())) fun y=>some ((s,s_2,gA,List.take (zI a.2.1) o++List.take (zI (zF (zG o) - a.2.1)) a.2.2.2.2.2++List.drop (zI a.2.1+zG (List.take (zI (zF (zG o) - a.2.1)) a.2.2.2.2.2)) o),y.1,()))))) else zC (ni ((s,s_2,gA,o),a,())) fun y=>some ((s,s_2,gA,o),y.1,()) else if eqi (zF (zG a.2.2.2.2.1)) 0=true then zC (ni ((s,s_2,gA,o),a,())) fun y=>some ((s,s_2,gA,o),y.1,()) else if eqi a.1 23=true then if eqi 272 a.2.2.2.1=true then zC (G9 (a.2.2.2.2.1,())) fun y=>if nei y.2.1 0=true then zC (jI (a.1,3,())) fun y=>some ((s,s_2,gA,o),y.1,()) else amb (au uh.rs) [zC (xX (gA,y.1,())) fun y=>if nei y.2.1 0=true then zC (jI (a.1,4,())) fun y=>some ((s,s_2,gA,o),y.1,()) else zC (ni ((s,s_2,(iY y.1),o),a,())) fun y_1=>some ((s,s_2,(iY y.1),o),y_1.1,()),zC (xX (gA,y.1,())) fun y=>if nei y.2.1 0=true then zC (jI (a.1,4,())) fun y=>some ((s,s_2,gA,o),y.1,()) else zC (ni ((s,s_2,(iY y.1),o),a,())) fun y_1=>some ((s,s_2,(iY y.1),o),y_1.1,())] else if eqi 288 a.2.2.2.1=true then zC (Ht (a.2.2.2.2.1,())) fun y=>if nei y.2.2.2.2.1 0=true then zC (jI (a.1,3,())) fun y=>some ((s,s_2,gA,o),y.1,()) else amb (au uh.rs) [zC (xY (gA,y.1,y.2.1,y.2.2.1,y.2.2.2.1,())) fun y=>if nei y.2.1 0=true then zC (jI (a.1,4,())) fun y=>some ((s,s_2,gA,o),y.1,()) else zC (ni ((s,s_2,(iY y.1),o),a,())) fun y_1=>some ((s,s_2,(iY y.1),o),y_1.1,()),zC (xY (gA,y.1,y.2.1,y.2.2.1,y.2.2.2.1,())) fun y=>if nei y.2.1 0=true then zC (jI (a.1,4,())) fun y=>some ((s,s_2,gA,o),y.1,()) else zC (ni ((s,s_2,(iY y.1),o),a,())) fun y_1=>some ((s,s_2,(iY y.1),o),y_1.1,())] else zC (jI (a.1,2,())) fun y=>some ((s,s_2,gA,o),y.1,()) else if eqi 272 a.2.1=true then zC (G9 (a.2.2.2.2.1,())) fun y=>if nei y.2.1 0=true then zC (jI (a.1,3,())) fun y=>some ((s,s_2,gA,o),y.1,()) else amb (au uh.rs) [zC (xX (gA,y.1,())) fun y=>if nei y.2.1 0=true then zC (jI (a.1,4,())) fun y=>some ((s,s_2,gA,o),y.1,()) else zC (ni ((s,s_2,(iY y.1),o),a,())) fun y_1=>some ((s,s_2,(iY y.1),o),y_1.1,()),zC (xX (gA,y.1,())) fun y=>if nei y.2.1 0=true then zC (jI (a.1,4,())) fun y=>some ((s,s_2,gA,o),y.1,()) else zC (ni ((s,s_2,(iY y.1),o),a,())) fun y_1=>some ((s,s_2,(iY y.1),o),y_1.1,())] else if eqi 288 a.2.1=true then zC (Ht (a.2.2.2.2.1,())) fun y=>if nei y.2.2.2.2.1 0=true then zC (jI (a.1,3,())) fun y=>some ((s,s_2,gA,o),y.1,()) else amb (au uh.rs) [zC (xY (gA,y.1,y.2.1,y.2.2.1,y.2.2.2.1,())) fun y=>if nei y.2.1 0=true then zC (jI (a.1,4,())) fun y=>some ((s,s_2,gA,o),y.1,()) else zC (ni ((s,s_2,(iY y.1),o),a,())) fun y_1=>some ((s,s_2,(iY y.1),o),y_1.1,()),zC (xY (gA,y.1,y.2.1,y.2.2.1,y.2.2.2.1,())) fun y=>if nei y.2.1 0=true then zC (jI (a.1,4,())) fun y=>some ((s,s_2,gA,o),y.1,()) else zC (ni ((s,s_2,(iY y.1),o),a,())) fun y_1=>some ((s,s_2,(iY y.1),o),y_1.1,())] else zC (jI (a.1,2,())) fun y=>some ((s,s_2,gA,o),y.1,())) (s_3,(s_4,s_5),s_6,s_7,s_8,(s_9,[s_10,s_11,s_12,s_13,s_14,s_15,s_16,s_17],[(s_18,s_19),(s_20,s_21),(s_22,s_23),(s_24,s_25),(s_26,s_27),(s_28,s_29),(s_30,s_31),(s_32,s_33)]),s_34)
def amT(j1:Int->List Bool->Int->Int->List Int->Int->Int->Int->Int->Int->Int->Bool->Bool->Bool->Bool->Bool->Bool->Bool->Bool->Int->List Int->Int->List Int->Int->List Int->Int->List Int->Int->List Int->Int->List Int->Int->List Int->Int->List Int->Int->Int->Int->Int->Int->Int->Int->Int->Int->Bool->Bool->Bool->Bool->Bool->Bool->Bool->Bool->Int->Int->Int->Int->Int->Int->Int->Int->Int->Int->Int->Int->Int->Int×Int×Int×Int×List Int×List Bool->Option (As cT))(s pdu:Int)(s_2:List Int)(pdu_2 v v_2 a except d:Int)(v_3 v_4 v_5 v_6 v_7 v_8 v_9 v_10:Bool)(v_11:Int)(v_12:List Int)(v_13:Int)(v_14:List Int)(v_15:Int)(v_16:List Int)(v_17:Int)(v_18:List Int)(v_19:Int)(v_20:List Int)(v_21:Int)(v_22:List Int)(v_23:Int)(v_24:List Int)(v_25:Int)(v_26:List Int)(v_27:Int)(v_28:List Int)(v_29:List Bool):Option (As cT) :=
 zC (Ao (v_28,())) fun y=>if eqi y.2.1 0=true then zC (ug ()) fun y_1=>zC (Dx (y_1.1,y.1,())) fun y_2=>j1 y_2.1 v_29 s pdu s_2 pdu_2 v v_2 a except d v_3 v_4 v_5 v_6 v_7 v_8 v_9 v_10 v_11 v_12 v_13 v_14 v_15 v_16 v_17 v_18 v_19 v_20 v_21 v_22 v_23 v_24 v_25 v_26 v_27 0 0 0 0 0 0 0 0 false false false false false false false false 0 0 0 0 0 0 0 0 0 0 0 0 0 y.1 else j1 y.2.1 v_29 s pdu s_2 pdu_2 v v_2 a except d v_3 v_4 v_5 v_6 v_7 v_8 v_9 v_10 v_11 v_12 v_13 v_14 v_15 v_16 v_17 v_18 v_19 v_20 v_21 v_22 v_23 v_24 v_25 v_26 v_27 0 0 0 0 0 0 0 0 false false false false false false false false 0 0 0 0 0 0 0 0 0 0 0 0 0 y.1
def ajN:=aqC
def aqD(x:As bG):Option (As cT):=amT ajN x.1 x.2.1 x.2.2.1 x.2.2.2.1 x.2.2.2.2.1 x.2.2.2.2.2.1 x.2.2.2.2.2.2.1 x.2.2.2.2.2.2.2.1 x.2.2.2.2.2.2.2.2.1 x.2.2.2.2.2.2.2.2.2.1 x.2.2.2.2.2.2.2.2.2.2.1 x.2.2.2.2.2.2.2.2.2.2.2.1 x.2.2.2.2.2.2.2.2.2.2.2.2.1 x.2.2.2.2.2.2.2.2.2.2.2.2.2.1 x.2.2.2.2.2.2.2.2.2.2.2.2.2.2.1 x.2.2.2.2.2.2.2.2.2.2.2.2.2.2.2.1 x.2.2.2.2.2.2.2.2.2.2.2.2.2.2.2.2.1 x.2.2.2.2.2.2.2.2.2.2.2.2.2.2.2.2.2.1 x.2.2.2.2.2.2.2.2.2.2.2.2.2.2.2.2.2.2.1 x.2.2.2.2.2.2.2.2.2.2.2.2.2.2.2.2.2.2.2.1 x.2.2.2.2.2.2.2.2.2.2.2.2.2.2.2.2.2.2.2.2.1 x.2.2.2.2.2.2.2.2.2.2.2.2.2.2.2.2.2.2.2.2.2.1 x.2.2.2.2.2.2.2.2.2.2.2.2.2.2.2.2.2.2.2.2.2.2.1 x.2.2.2.2.2.2.2.2.2.2.2.2.2.2.2.2.2.2.2.2.2.2.2.1 x.2.2.2.2.2.2.2.2.2.2.2.2.2.2.2.2.2.2.2.2.2.2.2.2.1 x.2.2.2.2.2.2.2.2.2.2.2.2.2.2.2.2.2.2.2.2.2.2.2.2.2.1 x.2.2.2.2.2.2.2.2.2.2.2.2.2.2.2.2.2.2.2.2.2.2.2.2.2.2.1 x.2.2.2.2.2.2.2.2.2.2.2.2.2.2.2.2.2.2.2.2.2.2.2.2.2.2.2.1 x.2.2.2.2.2.2.2.2.2.2.2.2.2.2.2.2.2.2.2.2.2.2.2.2.2.2.2.2.1 x.2.2.2.2.2.2.2.2.2.2.2.2.2.2.2.2.2.2.2.2.2.2.2.2.2.2.2.2.2.1 x.2.2.2.2.2.2.2.2.2.2.2.2.2.2.2.2.2.2.2.2.2.2.2.2.2.2.2.2.2.2.1 x.2.2.2.2.2.2.2.2.2.2.2.2.2.2.2.2.2.2.2.2.2.2.2.2.2.2.2.2.2.2.2.1 x.2.2.2.2.2.2.2.2.2.2.2.2.2.2.2.2.2.2.2.2.2.2.2.2.2.2.2.2.2.2.2.2.1 x.2.2.2.2.2.2.2.2.2.2.2.2.2.2.2.2.2.2.2.2.2.2.2.2.2.2.2.2.2.2.2.2.2.1 x.2.2.2.2.2.2.2.2.2.2.2.2.2.2.2.2.2.2.2.2.2.2.2.2.2.2.2.2.2.2.2.2.2.2.1 x.2.2.2.2.2.2.2.2.2.2.2.2.2.2.2.2.2.2.2.2.2.2.2.2.2.2.2.2.2.2.2.2.2.2.2.1
abbrev pDf:=zp ajK ajL 109 uh
theorem axJ{J a b c d e f g h i j k l m n o p q r t u v x y z aa ab ac ad ae af ag ah ba bb bc bd be bf bg bh ca cb cc cd ce cf cg ch da db dc dd de df dg dh ea eb ec ed ee ef eg eh fa fb}:pDf J 7 [] (ajM a b c d e f g h i j k l m n o p q r t u v x y z aa ab ac ad ae af ag ah ba bb bc bd be bf bg bh ca cb cc cd ce cf cg ch da db dc dd de df dg dh ea eb ec ed ee ef eg eh fa fb)=aqC a b c d e f g h i j k l m n o p q r t u v x y z aa ab ac ad ae af ag ah ba bb bc bd be bf bg bh ca cb cc cd ce cf cg ch da db dc dd de df dg dh ea eb ec ed ee ef eg eh fa fb:=by kernel_rfl
abbrev pDe:=zj ajK ajL 109 uh
theorem axK:C (pDe 7 []) ajM=ajN:=gNC (by decide) fun _=>axJ
theorem axL:ak Tryz.prog (fun _=>True) 109 ⟨uh,aqD⟩:=zcc (env:=ajK) (d:=6) (hs:=Ev.get ajL) (aj Ev.fF (aj Ev.fF (aj avk (aj aqm (aj amD (aj U5 (aj awC (aj awF (aj axv (aj axA (aj axI av))))))))))) (fun J x=>amT (C (J 7 []) ajM) x.1 x.2.1 x.2.2.1 x.2.2.2.1 x.2.2.2.2.1 x.2.2.2.2.2.1 x.2.2.2.2.2.2.1 x.2.2.2.2.2.2.2.1 x.2.2.2.2.2.2.2.2.1 x.2.2.2.2.2.2.2.2.2.1 x.2.2.2.2.2.2.2.2.2.2.1 x.2.2.2.2.2.2.2.2.2.2.2.1 x.2.2.2.2.2.2.2.2.2.2.2.2.1 x.2.2.2.2.2.2.2.2.2.2.2.2.2.1 x.2.2.2.2.2.2.2.2.2.2.2.2.2.2.1 x.2.2.2.2.2.2.2.2.2.2.2.2.2.2.2.1 x.2.2.2.2.2.2.2.2.2.2.2.2.2.2.2.2.1 x.2.2.2.2.2.2.2.2.2.2.2.2.2.2.2.2.2.1 x.2.2.2.2.2.2.2.2.2.2.2.2.2.2.2.2.2.2.1 x.2.2.2.2.2.2.2.2.2.2.2.2.2.2.2.2.2.2.2.1 x.2.2.2.2.2.2.2.2.2.2.2.2.2.2.2.2.2.2.2.2.1 x.2.2.2.2.2.2.2.2.2.2.2.2.2.2.2.2.2.2.2.2.2.1 x.2.2.2.2.2.2.2.2.2.2.2.2.2.2.2.2.2.2.2.2.2.2.1 x.2.2.2.2.2.2.2.2.2.2.2.2.2.2.2.2.2.2.2.2.2.2.2.1 x.2.2.2.2.2.2.2.2.2.2.2.2.2.2.2.2.2.2.2.2.2.2.2.2.1 x.2.2.2.2.2.2.2.2.2.2.2.2.2.2.2.2.2.2.2.2.2.2.2.2.2.1 x.2.2.2.2.2.2.2.2.2.2.2.2.2.2.2.2.2.2.2.2.2.2.2.2.2.2.1 x.2.2.2.2.2.2.2.2.2.2.2.2.2.2.2.2.2.2.2.2.2.2.2.2.2.2.2.1 x.2.2.2.2.2.2.2.2.2.2.2.2.2.2.2.2.2.2.2.2.2.2.2.2.2.2.2.2.1 x.2.2.2.2.2.2.2.2.2.2.2.2.2.2.2.2.2.2.2.2.2.2.2.2.2.2.2.2.2.1 x.2.2.2.2.2.2.2.2.2.2.2.2.2.2.2.2.2.2.2.2.2.2.2.2.2.2.2.2.2.2.1 x.2.2.2.2.2.2.2.2.2.2.2.2.2.2.2.2.2.2.2.2.2.2.2.2.2.2.2.2.2.2.2.1 x.2.2.2.2.2.2.2.2.2.2.2.2.2.2.2.2.2.2.2.2.2.2.2.2.2.2.2.2.2.2.2.2.1 x.2.2.2.2.2.2.2.2.2.2.2.2.2.2.2.2.2.2.2.2.2.2.2.2.2.2.2.2.2.2.2.2.2.1 x.2.2.2.2.2.2.2.2.2.2.2.2.2.2.2.2.2.2.2.2.2.2.2.2.2.2.2.2.2.2.2.2.2.2.1 x.2.2.2.2.2.2.2.2.2.2.2.2.2.2.2.2.2.2.2.2.2.2.2.2.2.2.2.2.2.2.2.2.2.2.2.1) (fun _ _=>by kernel_rfl) fun _=>by rw[axK]<;>rfl
@[reducible] def axM:Sh:=⟨[.d aP],[],aS,[.d aJ,.d (.int .i64)],[],0,aU⟩
def ajO(r:Int×Int×List Bool×List Int×Int×Int):Option cO :=
 if nei r.2.1 0=true then zC (Dg ((),r,())) fun y=>if y.1=true then zC (Gr ((),r,())) fun y=>some (y.1,0,()) else some ([],13,()) else if eqi r.1 1=true then zC (vL ((),r,())) fun y=>if y.1=true then zC (Ai ((),r,())) fun y=>some (y.1,0,()) else some ([],13,()) else if eqi r.1 2=true then zC (vL ((),r,())) fun y=>if y.1=true then zC (Ai ((),r,())) fun y=>some (y.1,0,()) else some ([],13,()) else if eqi r.1 3=true then zC (wK ((),r,())) fun y=>if y.1=true then zC (vN ((),r,())) fun y=>some (y.1,0,()) else some ([],13,()) else if eqi r.1 4=true then zC (wK ((),r,())) fun y=>if y.1=true then zC (vN ((),r,())) fun y=>some (y.1,0,()) else some ([],13,()) else if eqi r.1 23=true then zC (wK ((),r,())) fun y=>if y.1=true then zC (vN ((),r,())) fun y=>some (y.1,0,()) else some ([],13,()) else if eqi r.1 5=true then zC (Dh ((),r,())) fun y=>if y.1=true then zC (Gw ((),r,())) fun y=>some (y.1,0,()) else some ([],13,()) else if eqi r.1 6=true then zC (Di ((),r,())) fun y=>if y.1=true then zC (Gx ((),r,())) fun y=>some (y.1,0,()) else some ([],13,()) else if eqi r.1 15=true then zC (vM (1968,r,())) fun y=>if y.1=true then zC (Ak (1968,r,())) fun y=>some (y.1,0,()) else some ([],13,()) else if eqi r.1 16=true then zC (vM (123,r,())) fun y=>if y.1=true then zC (Ak (123,r,())) fun y=>some (y.1,0,()) else some ([],13,()) else some ([],13,())
def Oa(x:As aS):Option cO:=ajO x.1
theorem axN:ak Tryz.prog (fun _=>True) 110 ⟨axM,Oa⟩:=ctn (aj afv (aj apV (aj afx (aj apY (aj afz (aj ap1 (aj afB (aj ap3 (aj afD (aj ap5 (aj afF (aj ap8 av)))))))))))) 6 fun J x=>by kernel_rfl
@[reducible] def bC:List Ty:=[.pr (.int .u8) aA,.sl (.int .u8)]
@[reducible] def ajP:Sh:=⟨[.d bB,.d aJ],[],bC,[.d bB,.d aJ],[],0,bC⟩
def ajQ(s:nJ)(pdu:List Int):Option (As bC) :=
 zC (agX (s,())) fun y=>zC (aqD (y.1,y.2.1,y.2.2.1,y.2.2.2.1,y.2.2.2.2.1,y.2.2.2.2.2.1,y.2.2.2.2.2.2.1,y.2.2.2.2.2.2.2.1,y.2.2.2.2.2.2.2.2.1,y.2.2.2.2.2.2.2.2.2.1,y.2.2.2.2.2.2.2.2.2.2.1,y.2.2.2.2.2.2.2.2.2.2.2.1,y.2.2.2.2.2.2.2.2.2.2.2.2.1,y.2.2.2.2.2.2.2.2.2.2.2.2.2.1,y.2.2.2.2.2.2.2.2.2.2.2.2.2.2.1,y.2.2.2.2.2.2.2.2.2.2.2.2.2.2.2.1,y.2.2.2.2.2.2.2.2.2.2.2.2.2.2.2.2.1,y.2.2.2.2.2.2.2.2.2.2.2.2.2.2.2.2.2.1,y.2.2.2.2.2.2.2.2.2.2.2.2.2.2.2.2.2.2.1,y.2.2.2.2.2.2.2.2.2.2.2.2.2.2.2.2.2.2.2.1,y.2.2.2.2.2.2.2.2.2.2.2.2.2.2.2.2.2.2.2.2.1,y.2.2.2.2.2.2.2.2.2.2.2.2.2.2.2.2.2.2.2.2.2.1,y.2.2.2.2.2.2.2.2.2.2.2.2.2.2.2.2.2.2.2.2.2.2.1,y.2.2.2.2.2.2.2.2.2.2.2.2.2.2.2.2.2.2.2.2.2.2.2.1,y.2.2.2.2.2.2.2.2.2.2.2.2.2.2.2.2.2.2.2.2.2.2.2.2.1,y.2.2.2.2.2.2.2.2.2.2.2.2.2.2.2.2.2.2.2.2.2.2.2.2.2.1,y.2.2.2.2.2.2.2.2.2.2.2.2.2.2.2.2.2.2.2.2.2.2.2.2.2.2.1,y.2.2.2.2.2.2.2.2.2.2.2.2.2.2.2.2.2.2.2.2.2.2.2.2.2.2.2.1,y.2.2.2.2.2.2.2.2.2.2.2.2.2.2.2.2.2.2.2.2.2.2.2.2.2.2.2.2.1,y.2.2.2.2.2.2.2.2.2.2.2.2.2.2.2.2.2.2.2.2.2.2.2.2.2.2.2.2.2.1,y.2.2.2.2.2.2.2.2.2.2.2.2.2.2.2.2.2.2.2.2.2.2.2.2.2.2.2.2.2.2.1,y.2.2.2.2.2.2.2.2.2.2.2.2.2.2.2.2.2.2.2.2.2.2.2.2.2.2.2.2.2.2.2.1,y.2.2.2.2.2.2.2.2.2.2.2.2.2.2.2.2.2.2.2.2.2.2.2.2.2.2.2.2.2.2.2.2.1,y.2.2.2.2.2.2.2.2.2.2.2.2.2.2.2.2.2.2.2.2.2.2.2.2.2.2.2.2.2.2.2.2.2.1,pdu,y.2.2.2.2.2.2.2.2.2.2.2.2.2.2.2.2.2.2.2.2.2.2.2.2.2.2.2.2.2.2.2.2.2.2.1,())) fun y=>zC (Oa (y.2.1,())) fun y_1=>some (y.1,y_1.1,())
def Hu(x:As bC):Option (As bC):=ajQ x.1 x.2.1
theorem axO:ak Tryz.prog (fun _=>True) 52 ⟨ajP,Hu⟩:=ctn (aj au4 (aj axL (aj axN av))) 6 fun J x=>by kernel_rfl
@[reducible] def Yg:Sh:=⟨[.d bB,.d aJ],[],bC,[.d bB,.d aJ],[],0,bC⟩
def ajR:Env:=(cts [(52,(⟨ajP,Hu⟩:Ct)),(98,(⟨Na,Dl⟩:Ct)),(99,(⟨VX,Nc⟩:Ct)),(100,(⟨TB,LP⟩:Ct)),(101,(⟨VL,GB⟩:Ct)),(102,(⟨TN,LV⟩:Ct))])
def ajS:List (Nat×Hint):=[(30,⟨[],[2,4,10,11,62]⟩),(106,⟨[],[2,4,6,31]⟩)]
def ajT(s t4:Int)(t31:Bool)(s_2 t4_2:List (nJ))(x:Int×Int×List Int):St:=⟨[(2,.prw 0 s 35 0),(4,.prw 1 t4 35 0),(6,.pb 2 0),(31,dB t31)],79,[],[(0,.row bB 45 s_2),(1,.row bB 45 t4_2),(2,.box 129 [d6 x.1,d8 x.2.1,dL x.2.2])],3,[],0⟩
def ajU(s t4 unit:Int)(pdu:List Int)(t62:Bool)(s_2 t4_2:List (nJ)):St:=⟨[(2,.prw 0 s 35 0),(4,.prw 1 t4 35 0),(10,d8 unit),(11,dL pdu),(62,dB t62)],79,[],[(0,.row bB 45 s_2),(1,.row bB 45 t4_2)],2,[],0⟩
def Hw(s t4:Int)(t31:Bool)(s_2 t4_2:List (nJ))(x:Int×Int×List Int):Option (As bC) :=
 if t31=true then zC (at? s_2 s) fun y=>zC (Nc (y,())) fun y=>zC (at? t4_2 t4) fun x=>zC (at? (List.set t4_2 (zI t4) y.1) t4) fun y_1=>zC (at? (List.set t4_2 (zI t4) y.1) t4) fun y=>some (y,[],()) else zC (at? s_2 s) fun y=>zC (Hu (y,x.2.2,())) fun y=>zC (at? s_2 s) fun x_1=>zC (LP ((x.1,x.2.1,y.2.1),())) fun y_1=>zC (at? (List.set s_2 (zI s) y.1) s) fun y=>zC (at? t4_2 t4) fun x=>zC (at? (List.set t4_2 (zI t4) y) t4) fun y_2=>zC (at? (List.set t4_2 (zI t4) y) t4) fun y=>some (y,y_1.1,())
def Hy(s t4 unit:Int)(pdu:List Int)(t62:Bool)(s_2 t4_2:List (nJ)):Option (As bC) :=
 if t62=true then zC (at? s_2 s) fun y=>zC (Nc (y,())) fun y=>zC (at? t4_2 t4) fun x=>zC (at? (List.set t4_2 (zI t4) y.1) t4) fun y_1=>zC (at? (List.set t4_2 (zI t4) y.1) t4) fun y=>some (y,[],()) else zC (at? s_2 s) fun y=>zC (Hu (y,pdu,())) fun y=>zC (at? s_2 s) fun x=>zC (LV (unit,y.2.1,())) fun y_1=>zC (at? (List.set s_2 (zI s) y.1) s) fun y=>zC (at? t4_2 t4) fun x=>zC (at? (List.set t4_2 (zI t4) y) t4) fun y_2=>zC (at? (List.set t4_2 (zI t4) y) t4) fun y=>some (y,y_1.1,())
def Yh(j1:Int->Int->Bool->List (nJ)->List (nJ)->Int×Int×List Int->Option (As bC))(j2:Int->Int->Int->List Int->Bool->List (nJ)->List (nJ)->Option (As bC))(s:nJ)(frame:List Int):Option (As bC) :=
 if eqi s.2.1 2=true then zC (Dl (frame,())) fun y=>if nei y.2.1 0=true then j1 0 0 true [s] [zSl] y.1 else j1 0 0 (nei y.1.2.1 s.1) [s] [zSl] y.1 else zC (GB (frame,())) fun y=>if nei y.2.2.1 0=true then j2 0 0 y.1 y.2.1 true [s] [zSl] else j2 0 0 y.1 y.2.1 (nei y.1 s.1) [s] [zSl]
def Hz:=Hw
def Ob:=Hy
def Oc(x:As bC):Option (As bC):=Yh Hz Ob x.1 x.2.1
abbrev pC9:=zp ajR ajS 48 Yg
theorem axP{J a b c d e f}:pC9 J 106 [] (ajT a b c d e f)=Hw a b c d e f:=by kernel_rfl
theorem axQ{J a b c d e f g}:pC9 J 30 [] (ajU a b c d e f g)=Hy a b c d e f g:=by kernel_rfl
abbrev pC8:=zj ajR ajS 48 Yg
theorem axR:C (pC8 106 []) ajT=Hz:=gNC (by decide) fun _=>axP
theorem axS:C (pC8 30 []) ajU=Ob:=gNC (by decide) fun _=>axQ
theorem axT:ak Tryz.prog (fun _=>True) 48 ⟨Yg,Oc⟩:=zcc (env:=ajR) (d:=6) (hs:=Ev.get ajS) (aj axO (aj amn (aj au1 (aj alF (aj amq (aj alP av)))))) (fun J x=>Yh (C (J 106 []) ajT) (C (J 30 []) ajU) x.1 x.2.1) (fun _ _=>by kernel_rfl) fun _=>by rw[axR,axS]<;>rfl
@[reducible] def dV:List Ty:=[.pr .bool aJ,.pr aD lK,.pr (.int .u8) aA,.int .u32,.int .u32,.sl (.sl cr),.sl fK]
@[reducible] def DJ:Sh:=⟨[.pb 0 0,.d fK],[(prG 1),.que fK 63],dV,[],[(0,(prG 2)),(2,.que fK 63)],1,aL⟩
def ajV:Env:=(cts [(1000048,Ev.gu),(9000046,Ev.gu),(9999999,Ev.gu),(20,(⟨LC,FY⟩:Ct)),(46,(⟨agS,vP⟩:Ct)),(48,(⟨Yg,Oc⟩:Ct))])
def ajW:List (Nat×Hint):=[(7,⟨[],[0,6,7,45,46,47,48,49,50]⟩),(31,⟨[],[0,7,51]⟩),(26,⟨[],[0,4,5]⟩)]
@[reducible] def zJ6:Type:=List (Bool×List Int)
def ajX(b:List Int)(p:(kS)×(nJ)×Unit×Int×Int×List aH)(o:zJ6)(t:kS):St:=⟨[(0,.pb 0 0),(4,.pb 2 0),(5,dL b)],63,[],[(0,.box 48 (eY p.1 (slC p.2.1 [.row 1,d2 p.2.2.2.1,d2 p.2.2.2.2.1,.d bY p.2.2.2.2.2]))),(1,.que fK 63 o),(2,.box 33 (eY t []))],3,[],2⟩
def ajY(s:Int)(b:List Int)(p:(kS)×(nJ)×Unit×Int×Int×List aH)(o:zJ6)(s_2:List (nJ)):St:=⟨[(0,.pb 0 0),(6,.prw 2 s 35 0),(7,dL b)],63,[],[(0,.box 48 (eY p.1 (slC p.2.1 [.row 1,d2 p.2.2.2.1,d2 p.2.2.2.2.1,.d bY p.2.2.2.2.2]))),(1,.que fK 63 o),(2,.row bB 45 s_2)],3,[],2⟩
def ajZ(b:List Int)(t51:Bool)(p:(kS)×(nJ)×Unit×Int×Int×List aH)(o:zJ6):St:=⟨[(0,.pb 0 0),(7,dL b),(51,dB t51)],63,[],[(0,.box 48 (eY p.1 (slC p.2.1 [.row 1,d2 p.2.2.2.1,d2 p.2.2.2.2.1,.d bY p.2.2.2.2.2]))),(1,.que fK 63 o)],2,[],2⟩
def Yi(b:List Int)(p:(kS)×(nJ)×Unit×Int×Int×List aH)(o:zJ6)(t:kS):Option eA :=
 zC (FY (b,t,(iZ p.2.1),p.2.2.2.1,p.2.2.2.2.1,p.2.2.2.2.2,o,())) fun y=>some (y.1,(iZ y.2.1),y.2.2.1,y.2.2.2.1,y.2.2.2.2.1,y.2.2.2.2.2.1,())
def Yj(j3:List Int->Bool->(kS)×(nJ)×Unit×Int×Int×List aH->List (Bool×List Int)->Option eA)(s:Int)(b:List Int)(p:(kS)×(nJ)×Unit×Int×Int×List aH)(o:zJ6)(s_2:List (nJ)):Option eA :=
 zC (at? s_2 s) fun y=>if gt (zF (zG b)) 0=true then j3 b (lt (zF (zG o)) 12) (p.1,y,p.2.2) o else j3 b false (p.1,y,p.2.2) o
def HV(b:List Int)(t51:Bool)(p:(kS)×(nJ)×Unit×Int×Int×List aH)(o:zJ6):Option eA :=
 if t51=true then need (small (zG o+Nat.succ 0)) (some (p.1,(iZ p.2.1),p.2.2.2.1,p.2.2.2.2.1,p.2.2.2.2.2,o++[(true,b)],())) else some (p.1,(iZ p.2.1),p.2.2.2.1,p.2.2.2.2.1,p.2.2.2.2.2,o,())
def Yk(j1:List Int->(kS)×(nJ)×Unit×Int×Int×List aH->List (Bool×List Int)->kS->Option eA)(j2:Int->List Int->(kS)×(nJ)×Unit×Int×Int×List aH->List (Bool×List Int)->List (nJ)->Option eA)(p:Bool×List Int)(m:kS)(p_2:nJ)(m_2 t:Int)(b:List aH)(s:zJ6):Option eA :=
 if p.1=true then amb (au DJ.rs) [zC (vP (m,p.2,())) fun y=>j1 y.2.1 (m,p_2,(),m_2,t,b) s y.1,zC (vP (m,p.2,())) fun y=>j1 y.2.1 (m,p_2,(),m_2,t,b) s y.1] else amb (au DJ.rs) [zC (Oc ((iZ p_2),p.2,())) fun y=>j2 0 y.2.1 (m,p_2,(),m_2,t,b) s [y.1],zC (Oc ((iZ p_2),p.2,())) fun y=>j2 0 y.2.1 (m,p_2,(),m_2,t,b) s [y.1]]
def Yl:=Yi
def AJ:=HV
def Ym:=Yj (AJ)
def DK(x:As dV):Option eA:=Yk Yl Ym x.1 x.2.1 x.2.2.1 x.2.2.2.1 x.2.2.2.2.1 x.2.2.2.2.2.1 x.2.2.2.2.2.2.1
abbrev pBh:=zp ajV ajW 16 DJ
theorem axU{J a b c d}:pBh J 26 [] (ajX a b c d)=Yi a b c d:=by kernel_rfl
theorem axV{J a b c d}:pBh J 31 [] (ajZ a b c d)=HV a b c d:=by kernel_rfl
theorem axW{J a b c d e}:pBh J 7 [] (ajY a b c d e)=Yj (C (J 31 []) ajZ) a b c d e:=by kernel_rfl
abbrev pBg:=zj ajV ajW 16 DJ
theorem axX:C (pBg 26 []) ajX=Yl:=gNC (by decide) fun _=>axU
theorem axY:C (pBg 31 []) ajZ=AJ:=gNC (by decide) fun _=>axV
theorem axZ:C (pBg 7 []) ajY=Ym:=gNC (by decide) fun _=>axW.trans (by rw[axY]<;>kernel_rfl)
theorem aqE:ak Tryz.prog (fun _=>True) 16 ⟨DJ,DK⟩:=zcc (env:=ajV) (d:=6) (hs:=Ev.get ajW) (aj Ev.fF (aj Ev.fF (aj Ev.fF (aj apm (aj amr (aj axT av)))))) (fun J x=>Yk (C (J 26 []) ajX) (C (J 7 []) ajY) x.1 x.2.1 x.2.2.1 x.2.2.2.1 x.2.2.2.2.1 x.2.2.2.2.2.1 x.2.2.2.2.2.2.1) (fun _ _=>by kernel_rfl) fun _=>by rw[axX,axZ]<;>rfl
@[reducible] def eK:List Ty:=[.pr (.int .u8) qz,.sl (.int .u8),.bool]
@[reducible] def ax0:Sh:=⟨[.d aD],[],cB,[.d aD,.d aJ,.d (.bool)],[],0,eK⟩
def ax1(p:Int×Int×Int×Int×Bool×uS×Int×Int×Int):Option (As eK) :=
 zC (xQ (p,())) fun y=>if (!y.1.2.2.2.2.1)=true then some (y.1,[],false,()) else if nei (Sx.sub .i64 y.1.2.2.2.2.2.2.2.1 1) 0=true then some ((y.1.1,y.1.2.1,y.1.2.2.1,y.1.2.2.2.1,y.1.2.2.2.2.1,y.1.2.2.2.2.2.1,y.1.2.2.2.2.2.2.1,Sx.sub .i64 y.1.2.2.2.2.2.2.2.1 1,y.1.2.2.2.2.2.2.2.2),[],false,()) else if gt y.1.2.2.2.2.2.2.2.2 0=true then zC (TW ((y.1.1,y.1.2.1,y.1.2.2.1,y.1.2.2.2.1,y.1.2.2.2.2.1,y.1.2.2.2.2.2.1,y.1.2.2.2.2.2.2.1,Sx.sub .i64 y.1.2.2.2.2.2.2.2.1 1,Sx.sub .i64 y.1.2.2.2.2.2.2.2.2 1),())) fun y=>some (y.1,y.2.1,false,()) else zC (Ae ((y.1.1,y.1.2.1,y.1.2.2.1,y.1.2.2.2.1,y.1.2.2.2.2.1,y.1.2.2.2.2.2.1,y.1.2.2.2.2.2.2.1,Sx.sub .i64 y.1.2.2.2.2.2.2.2.1 1,y.1.2.2.2.2.2.2.2.2),())) fun y=>some (y.1,[],true,())
def amU(x:As cB):Option (As eK):=ax1 x.1
theorem ax2:ak Tryz.prog (fun _=>True) 55 ⟨ax0,amU⟩:=ctn (aj Um (aj acV (aj alQ av))) 6 fun J x=>by kernel_rfl
@[reducible] def amV:Sh:=⟨[.d aX],[],aN,[.d aX,.d aJ],[],0,bL⟩
def ax3(t:kS):Option (As bL) :=
 zC (C5 (t,())) fun y=>zC (amU (y.1.1,())) fun y_1=>if (!y_1.2.2.1)=true then some ((y_1.1,y.1.2),y_1.2.1,()) else if eqi y.1.2.2.2.2.1 1=true then zC (lM ((y_1.1,y.1.2),2,())) fun y=>some (y.1,[],()) else zC (xS ((y_1.1,y.1.2),())) fun y=>some (y.1,y.2.1,())
def Yn(x:As aN):Option (As bL):=ax3 x.1
theorem ax4:ak Tryz.prog (fun _=>True) 19 ⟨amV,Yn⟩:=ctn (aj acL (aj ax2 (aj xR (aj ae3 av)))) 6 fun J x=>by kernel_rfl
end Go.Proofs.Lx
end
noncomputable section
open Go Go.Proofs Ev Sx
set_option maxRecDepth 100000
namespace Go.Proofs.Lx
abbrev eU:Type:=Lv×Int×Int×List (Int×List Int)×Int×Int×Int×Int×Int
abbrev gJ:Type:=Int×Int×jq×List Bool
@[reducible] def DL:Sh:=⟨[],[],[],[.d (.bool)],[],0,[.bool]⟩
def aj0:Env:=(cts [(1000048,Ev.gu),(9000046,Ev.gu),(9999999,Ev.gu),(9,(⟨LB,FW⟩:Ct)),(10,(⟨Ag,vK⟩:Ct)),(16,(⟨DJ,DK⟩:Ct)),(19,(⟨amV,Yn⟩:Ct)),(25,(⟨MJ,rJ⟩:Ct)),(46,(⟨agS,vP⟩:Ct)),(47,(⟨TL,Ab⟩:Ct))])
def aj1:List (Nat×Hint):=[(31,⟨[],[1,3,51,52,53,54,57,58,59,60,61,81,82,94,95,96,99,100,101,104,105,106,109,110]⟩),(255,⟨[],[5,6,7,8,81,82,94,95,96,99,100,101,104,105,106,109,110]⟩),(1023,⟨[],[5,6,7,8,10,94,95,96,99,100,101,104,105,106,109,110]⟩),(4092,⟨[],[5,6,7,8,10,81,82,94,95,96,99,100,101,104,105,106,109,110]⟩),(16368,⟨[.agd 81 (.int .i64),.agd 82 .bool],[5,6,7,8,10,83]⟩),(126,⟨[],[1,62,81,82,94,95,96,99,100,101,104,105,106,109,110]⟩),(124,⟨[],[1,3,30,31,51,52,53,54,57,58,59,60,61,81,82,94,95,96,99,100,101,104,105,106,109,110]⟩),(496,⟨[.agd 30 (.int .i64),.agd 31 .bool],[1,3,32]⟩),(14,⟨[],[1,24,30,31,51,52,53,54,57,58,59,60,61,81,82,94,95,96,99,100,101,104,105,106,109,110]⟩)]
def aj2(t24:Bool)(p:(eU)×(gJ)×Unit×Int×Int×List aH)(o:zJ6):St:=⟨[(1,.pb 0 0),(24,dB t24)],112,[],[(0,.box 48 (eY p.1 (slC p.2.1 [.row 1,d2 p.2.2.2.1,d2 p.2.2.2.2.1,.d bY p.2.2.2.2.2]))),(1,.que fK 63 o)],2,[],0⟩
def HY(frames:Int)(p:(eU)×(gJ)×Unit×Int×Int×List aH)(o:zJ6):St:=⟨[(1,.pb 0 0),(3,dI frames)],112,[],[(0,.box 48 (eY p.1 (slC p.2.1 [.row 1,d2 p.2.2.2.1,d2 p.2.2.2.2.1,.d bY p.2.2.2.2.2]))),(1,.que fK 63 o)],2,[],0⟩
def aj3(frames:Int)(t32:Bool)(p:(eU)×(gJ)×Unit×Int×Int×List aH)(o:zJ6):St:=⟨[(1,.pb 0 0),(3,dI frames),(32,dB t32)],112,[],[(0,.box 48 (eY p.1 (slC p.2.1 [.row 1,d2 p.2.2.2.1,d2 p.2.2.2.2.1,.d bY p.2.2.2.2.2]))),(1,.que fK 63 o)],2,[],0⟩
def aj4(frames:Int)(p:(eU)×(gJ)×Unit×Int×Int×List aH)(o:zJ6):St:=⟨[(1,.pb 0 0),(3,dI frames)],112,[],[(0,.box 48 (eY p.1 (slC p.2.1 [.row 1,d2 p.2.2.2.1,d2 p.2.2.2.2.1,.d bY p.2.2.2.2.2]))),(1,.que fK 63 o)],2,[],0⟩
def aj5(t62:Bool)(p:(eU)×(gJ)×Unit×Int×Int×List aH)(o:zJ6):St:=⟨[(1,.pb 0 0),(62,dB t62)],112,[],[(0,.box 48 (eY p.1 (slC p.2.1 [.row 1,d2 p.2.2.2.1,d2 p.2.2.2.2.1,.d bY p.2.2.2.2.2]))),(1,.que fK 63 o)],2,[],0⟩
def aj6(b:List Int)(e:Int)(t u:eU):St:=⟨[(5,.pb 0 0),(6,dL b),(7,dI e),(8,.pb 1 0)],112,[],[(0,.box 33 (eY t [])),(1,.box 33 (eY u []))],2,[],0⟩
def HZ(b:List Int)(e ticks:Int)(t u:eU):St:=⟨[(5,.pb 0 0),(6,dL b),(7,dI e),(8,.pb 1 0),(10,dI ticks)],112,[],[(0,.box 33 (eY t [])),(1,.box 33 (eY u []))],2,[],0⟩
def aj7(b:List Int)(e ticks:Int)(t83:Bool)(t u:eU):St:=⟨[(5,.pb 0 0),(6,dL b),(7,dI e),(8,.pb 1 0),(10,dI ticks),(83,dB t83)],112,[],[(0,.box 33 (eY t [])),(1,.box 33 (eY u []))],2,[],0⟩
def aj8(b:List Int)(e ticks:Int)(t u:eU):St:=⟨[(5,.pb 0 0),(6,dL b),(7,dI e),(8,.pb 1 0),(10,dI ticks)],112,[],[(0,.box 33 (eY t [])),(1,.box 33 (eY u []))],2,[],0⟩
def amW(j2:Int->(eU)×(gJ)×Unit×Int×Int×List aH->List (Bool×List Int)->Option aF)(t24:Bool)(p:(eU)×(gJ)×Unit×Int×Int×List aH)(o:zJ6):Option aF :=
 if t24=true then some (false,()) else j2 0 p o
def amX(j3:Int->Bool->(eU)×(gJ)×Unit×Int×Int×List aH->List (Bool×List Int)->Option aF)(self2:Int->(eU)×(gJ)×Unit×Int×Int×List aH->List (Bool×List Int)->Option aF)(frames:Int)(p:(eU)×(gJ)×Unit×Int×Int×List aH)(o:zJ6):Option aF :=
 if gt (zF (zG o)) 0=true then j3 frames (lt frames 50) p o else j3 frames false p o
def amY(j4 self2:Int->(eU)×(gJ)×Unit×Int×Int×List aH->List (Bool×List Int)->Option aF)(frames:Int)(t32:Bool)(p:(eU)×(gJ)×Unit×Int×Int×List aH)(o:zJ6):Option aF :=
 if t32=true then zC (at? o 0) fun x=>zC (at? o 0) fun y=>need (le 1 (zF (zG o))) (need (le (zF (zG o)) (zF (zG o))) (need (lt 0 (zF (zG o))) (if (!y.1)=true then zC (DK (y,p.1,(iZ p.2.1),p.2.2.2.1,p.2.2.2.2.1,p.2.2.2.2.2,List.take (zI (zF (zG o) - 1)) (List.drop 1 o),())) fun y=>self2 (add .i64 frames 1) (y.1,y.2.1,(),y.2.2.1,y.2.2.2.1,y.2.2.2.2.1) y.2.2.2.2.2.1 else zC (DK (y,p.1,(iZ p.2.1),p.2.2.2.1,p.2.2.2.2.1,p.2.2.2.2.2,List.take (zI (zF (zG o) - 1)) (List.drop 1 o),())) fun y=>self2 frames (y.1,y.2.1,(),y.2.2.1,y.2.2.2.1,y.2.2.2.2.1) y.2.2.2.2.2.1))) else j4 frames p o
def aqF(j5:Bool->(eU)×(gJ)×Unit×Int×Int×List aH->List (Bool×List Int)->Option aF)(frames:Int)(p:(eU)×(gJ)×Unit×Int×Int×List aH)(o:zJ6):Option aF :=
 if nei frames 4=true then j5 true p o else if nei p.1.2.2.2.2.2.2.2.2 1=true then j5 true p o else j5 (nei p.2.1.2.2.1.2.2.1 2) p o
def aqG(j6:List Int->Int->eU->eU->Option aF)(t62:Bool)(p:(eU)×(gJ)×Unit×Int×Int×List aH)(o:zJ6):Option aF :=
 if t62=true then some (false,()) else zC (rJ (p.1,1,9,[],())) fun y=>amb (au DL.rs) [amb (au DL.rs) [zC (Ab ([9,151,4],())) fun y_1=>amb (au DL.rs) [zC (vP (y.1,y_1.1,())) fun y_2=>j6 y.2.1 y.2.2.1 y.1 y_2.1,zC (vP (y.1,y_1.1,())) fun y_2=>j6 y.2.1 y.2.2.1 y.1 y_2.1],zC (Ab ([9,151,4],())) fun y_1=>zC (vP (y.1,y_1.1,())) fun y_2=>j6 y.2.1 y.2.2.1 y.1 y_2.1],zC (Ab ([9,151,4],())) fun y_1=>zC (vP (y.1,y_1.1,())) fun y_2=>j6 y.2.1 y.2.2.1 y.1 y_2.1]
def amZ(j7:List Int->Int->Int->eU->eU->Option aF)(b:List Int)(e:Int)(t u:eU):Option aF :=
 j7 b e 0 t u
def aqH(j8:List Int->Int->Int->Bool->eU->eU->Option aF)(self7:List Int->Int->Int->eU->eU->Option aF)(b:List Int)(e ticks:Int)(t u:eU):Option aF :=
 if eqi t.2.2.2.2.2.2.2.2 0=true then j8 b e ticks (lt ticks 50) t u else j8 b e ticks false t u
def aqI(j9 self7:List Int->Int->Int->eU->eU->Option aF)(b:List Int)(e ticks:Int)(t83:Bool)(t u:eU):Option aF :=
 if t83=true then zC (Yn (t,())) fun y=>self7 b e (add .i64 ticks 1) y.1 u else j9 b e ticks t u
def aqJ(b:List Int)(e ticks:Int)(t u:eU):Option aF :=
 if eqi e 0=true then if gt (zF (zG b)) 0=true then if eqi u.2.2.2.2.2.2.2.2 2=true then if eqi t.2.2.2.2.2.2.2.2 2=true then some (eqi ticks 4,()) else some (false,()) else some (false,()) else some (false,()) else some (false,())
def aqK(j1:Bool->(eU)×(gJ)×Unit×Int×Int×List aH->List (Bool×List Int)->Option aF):Option aF :=
 zC (FW (0,1,1,[],[[(5,[9])]],())) fun y=>if (!y.2.2.2.2.2.1)=true then j1 true (y.1,y.2.1,(),y.2.2.1,y.2.2.2.1,y.2.2.2.2.1) y.2.2.2.2.2.2.1 else zC (vK (false,y.1,(iZ y.2.1),y.2.2.1,y.2.2.2.1,y.2.2.2.2.1,y.2.2.2.2.2.2.1,())) fun y=>j1 (!y.1) (y.2.1,y.2.2.1,(),y.2.2.2.1,y.2.2.2.2.1,y.2.2.2.2.2.1) y.2.2.2.2.2.2.1
def am0:=aqJ
def aqL(u7:List Int->Int->Int->eU->eU->Option aF):=aqI (am0) u7
def aj9(b:List Int)(e ticks:Int)(t u:eU):Option aF :=
 bu (fun self s=>aqH (aqL (fun b e ticks t u=>self (b,e,ticks,t,u))) (fun b e ticks t u=>self (b,e,ticks,t,u)) s.1 s.2.1 s.2.2.1 s.2.2.2.1 s.2.2.2.2) 18446744073709551616 (b,e,ticks,t,u)
def am1:=amZ (aj9)
def am2:=aqG (am1)
def aqM:=aqF (am2)
def am3(u2:Int->(eU)×(gJ)×Unit×Int×Int×List aH->List (Bool×List Int)->Option aF):=amY (aqM) u2
def akb(frames:Int)(p:(eU)×(gJ)×Unit×Int×Int×List aH)(o:zJ6):Option aF :=
 bu (fun self s=>amX (am3 (fun frames p o=>self (frames,p,o))) (fun frames p o=>self (frames,p,o)) s.1 s.2.1 s.2.2) 18446744073709551616 (frames,p,o)
def aqN:=amW (akb)
def Yo(x:As []):Option aF:=aqK aqN
abbrev pBn:=zp aj0 aj1 15 DL
theorem ax5{J a b c d e}:pBn J 1023 [] (aj8 a b c d e)=aqJ a b c d e:=by kernel_rfl
theorem ax6{J w7 a b c d e f}:pBn J 16368 [w7] (aj7 a b c d e f)=aqI (C (J 1023 []) aj8) (C w7 HZ) a b c d e f:=by kernel_rfl
theorem ax7{J w7 a b c d e}:pBn J 4092 [w7] (HZ a b c d e)=aqH (C (J 16368 [w7]) aj7) (C w7 HZ) a b c d e:=by kernel_rfl
theorem ax8{J a b c d}:pBn J 255 [] (aj6 a b c d)=amZ (C (J 4092 []) HZ) a b c d:=by kernel_rfl
theorem ax9{J a b c}:pBn J 126 [] (aj5 a b c)=aqG (C (J 255 []) aj6) a b c:=by kernel_rfl
theorem aya{J a b c}:pBn J 31 [] (aj4 a b c)=aqF (C (J 126 []) aj5) a b c:=by kernel_rfl
theorem ayb{J w2 a b c d}:pBn J 496 [w2] (aj3 a b c d)=amY (C (J 31 []) aj4) (C w2 HY) a b c d:=by kernel_rfl
theorem ayc{J w2 a b c}:pBn J 124 [w2] (HY a b c)=amX (C (J 496 [w2]) aj3) (C w2 HY) a b c:=by kernel_rfl
theorem ayd{J a b c}:pBn J 14 [] (aj2 a b c)=amW (C (J 124 []) HY) a b c:=by kernel_rfl
abbrev pBm:=zj aj0 aj1 15 DL
theorem aye:C (pBm 1023 []) aj8=am0:=gNC (by decide) fun _=>ax5
theorem ayf{w7}:C (pBm 16368 [w7]) aj7=aqL (C w7 HZ):=gNC (by decide) fun _=>ax6.trans (by rw[aye]<;>kernel_rfl)
theorem ayg:C (pBm 4092 []) HZ=aj9:=gLC (by decide) (by kernel_rfl) (fun _=>by unfold aj9;rfl) fun _ _=>ax7.trans (by rw[ayf]<;>kernel_rfl)
theorem ayh:C (pBm 255 []) aj6=am1:=gNC (by decide) fun _=>ax8.trans (by rw[ayg]<;>kernel_rfl)
theorem ayi:C (pBm 126 []) aj5=am2:=gNC (by decide) fun _=>ax9.trans (by rw[ayh]<;>kernel_rfl)
theorem ayj:C (pBm 31 []) aj4=aqM:=gNC (by decide) fun _=>aya.trans (by rw[ayi]<;>kernel_rfl)
theorem ayk{w2}:C (pBm 496 [w2]) aj3=am3 (C w2 HY):=gNC (by decide) fun _=>ayb.trans (by rw[ayj]<;>kernel_rfl)
theorem ayl:C (pBm 124 []) HY=akb:=gLC (by decide) (by kernel_rfl) (fun _=>by unfold akb;rfl) fun _ _=>ayc.trans (by rw[ayk]<;>kernel_rfl)
theorem aym:C (pBm 14 []) aj2=aqN:=gNC (by decide) fun _=>ayd.trans (by rw[ayl]<;>kernel_rfl)
theorem ayn:ak Tryz.prog (fun _=>True) 15 ⟨DL,Yo⟩:=zcc (env:=aj0) (d:=6) (hs:=Ev.get aj1) (aj Ev.fF (aj Ev.fF (aj Ev.fF (aj alq (aj apL (aj aqE (aj ax4 (aj amd (aj amr (aj alN av)))))))))) (fun J x=>aqK (C (J 14 []) aj2)) (fun _ _=>by kernel_rfl) fun _=>by rw[aym]<;>rfl
@[reducible] def eE:List Ty:=[.int .i64,.pr aD lK,.pr (.int .u8) aA,.int .u32,.int .u32,.sl (.sl cr),.sl fK]
@[reducible] def Yp:Sh:=⟨[.pb 0 0,.d (.int .i64)],[(prG 1),.que fK 63],eE,[.d (.bool)],[(0,(prG 2)),(2,.que fK 63)],1,aE⟩
def akc:Env:=(cts [(1000048,Ev.gu),(9000046,Ev.gu),(9999999,Ev.gu),(16,(⟨DJ,DK⟩:Ct))])
def akd:List (Nat×Hint):=[(3,⟨[],[0]⟩),(26,⟨[.quw 0 57 63],[0,6,7]⟩)]
def Yq(t6 t7:Int)(p:(eU)×(gJ)×Unit×Int×Int×List aH)(o:zJ6):St:=⟨[(0,.pb 0 0),(6,dI t6),(7,dI t7)],39,[],[(0,.box 48 (eY p.1 (slC p.2.1 [.row 2,d2 p.2.2.2.1,d2 p.2.2.2.2.1,.d bY p.2.2.2.2.2]))),(2,.que fK 63 o)],3,[],2⟩
def ake(p:(eU)×(gJ)×Unit×Int×Int×List aH)(o:zJ6):St:=⟨[(0,.pb 0 0)],39,[],[(0,.box 48 (eY p.1 (slC p.2.1 [.row 2,d2 p.2.2.2.1,d2 p.2.2.2.2.1,.d bY p.2.2.2.2.2]))),(2,.que fK 63 o)],3,[],2⟩
def xZ(j2:(eU)×(gJ)×Unit×Int×Int×List aH->List (Bool×List Int)->Option cN)(self1:Int->Int->(eU)×(gJ)×Unit×Int×Int×List aH->List (Bool×List Int)->Option cN)(t6 t7:Int)(p:(eU)×(gJ)×Unit×Int×Int×List aH)(o:zJ6):Option cN :=
 if lt t7 t6=true then if eqi (zF (zG o)) 0=true then some (true,p.1,(iZ p.2.1),p.2.2.2.1,p.2.2.2.2.1,p.2.2.2.2.2,o,()) else zC (at? o 0) fun x=>zC (at? o 0) fun y=>need (le 1 (zF (zG o))) (need (le (zF (zG o)) (zF (zG o))) (need (lt 0 (zF (zG o))) (zC (DK (y,p.1,(iZ p.2.1),p.2.2.2.1,p.2.2.2.2.1,p.2.2.2.2.2,List.take (zI (zF (zG o) - 1)) (List.drop 1 o),())) fun y=>self1 t6 (add .i64 t7 1) (y.1,y.2.1,(),y.2.2.1,y.2.2.2.1,y.2.2.2.2.1) y.2.2.2.2.2.1))) else j2 p o
def Yr(p:(eU)×(gJ)×Unit×Int×Int×List aH)(o:zJ6):Option cN :=
 some (eqi (zF (zG o)) 0,p.1,(iZ p.2.1),p.2.2.2.1,p.2.2.2.2.1,p.2.2.2.2.2,o,())
def aqO(j1:Int->Int->(eU)×(gJ)×Unit×Int×Int×List aH->List (Bool×List Int)->Option cN)(p:Int)(most:eU)(p_2:gJ)(most_2 v:Int)(m:List aH)(v_2:zJ6):Option cN :=
 j1 p 0 (most,p_2,(),most_2,v,m) v_2
def H6:=Yr
def akf(t6 t7:Int)(p:(eU)×(gJ)×Unit×Int×Int×List aH)(o:zJ6):Option cN :=
 bu (fun self s=>xZ (H6) (fun t6 t7 p o=>self (t6,t7,p,o)) s.1 s.2.1 s.2.2.1 s.2.2.2) 18446744073709551616 (t6,t7,p,o)
def AL(x:As eE):Option cN:=aqO akf x.1 x.2.1 x.2.2.1 x.2.2.2.1 x.2.2.2.2.1 x.2.2.2.2.2.1 x.2.2.2.2.2.2.1
abbrev pBf:=zp akc akd 11 Yp
theorem ayo{J a b}:pBf J 3 [] (ake a b)=Yr a b:=by kernel_rfl
theorem ayp{J w1 a b c d}:pBf J 26 [w1] (Yq a b c d)=xZ (C (J 3 []) ake) (C w1 Yq) a b c d:=by kernel_rfl
abbrev pBe:=zj akc akd 11 Yp
theorem ayq:C (pBe 3 []) ake=H6:=gNC (by decide) fun _=>ayo
theorem ayr:C (pBe 26 []) Yq=akf:=gLC (by decide) (by kernel_rfl) (fun _=>by unfold akf;rfl) fun _ _=>ayp.trans (by rw[ayq]<;>kernel_rfl)
theorem ays:ak Tryz.prog (fun _=>True) 11 ⟨Yp,AL⟩:=zcc (env:=akc) (d:=6) (hs:=Ev.get akd) (aj Ev.fF (aj Ev.fF (aj Ev.fF (aj aqE av)))) (fun J x=>aqO (C (J 26 []) Yq) x.1 x.2.1 x.2.2.1 x.2.2.2.1 x.2.2.2.2.1 x.2.2.2.2.2.1 x.2.2.2.2.2.2.1) (fun _ _=>by kernel_rfl) fun _=>by rw[ayr]<;>rfl
def ayt(j2:Int->Int×List Int->Option aF)(t17:Bool)(x:Int×List Int):Option aF :=
 if t17=true then some (false,()) else j2 0 x
def ayu(self2:Int->Int×List Int->Option aF)(i:Int)(x:Int×List Int):Option aF :=
 if lt i (zF (zG x.2))=true then if gt (add .i64 x.1 i) 63=true then some (false,()) else self2 (add .i64 i 1) x else some (true,())
def ayv(j1:Bool->Int×List Int->Option aF)(x:Int×List Int):Option aF :=
 if gt (zF (zG x.2)) 14=true then j1 true x else if lt x.1 0=true then j1 true x else j1 (gt x.1 63) x
def ayw(i:Int)(x:Int×List Int):Option aF :=
 bu (fun self s=>ayu (fun i x=>self (i,x)) s.1 s.2) 18446744073709551616 (i,x)
def ayx:=ayt (ayw)
def ayy(x:As cC):Option aF:=ayv ayx x.1
@[reducible] def zJ7:Type:=Int->Int×List Int->List Int->Option bK
def ayz(self1:zJ7)(i:Int)(x:Int×List Int)(out:List Int):Option bK :=
 if lt i (zF (zG x.2))=true then zC (at? x.2 i) fun y=>zC (at? out (add .i64 2 i)) fun x_1=>zC (at? out (add .i64 2 i)) fun x_2=>self1 (add .i64 i 1) x (List.set out (zI (add .i64 2 i)) y) else some (out,())
def ayA(j1:zJ7)(x:Int×List Int):Option bK :=
 zC (ayy (x,())) fun y=>if (!y.1)=true then some ([0,0,0,0,0,0,0,0,0,0,0,0,0,0,0,0],()) else j1 0 x [cvt .u16 x.1,cvt .u16 (zF (zG x.2)),0,0,0,0,0,0,0,0,0,0,0,0,0,0]
def ayB(i:Int)(x:Int×List Int)(out:List Int):Option bK :=
 bu (fun self s=>ayz (fun i x out=>self (i,x,out)) s.1 s.2.1 s.2.2) 18446744073709551616 (i,x,out)
def ayC(x:As cC):Option bK:=ayA ayB x.1
@[reducible] def zJ8:Type:=Int->Int->Option aQ
def ayD(j2 self1:zJ8)(sum i:Int):Option aQ :=
 if lt i 8=true then if eqi (rem sum 2) 1=true then j2 (Sx.iE .u32 (quo .u32 sum 2) 3988292384) i else j2 (quo .u32 sum 2) i else some (sum,())
def ayE(self1:zJ8)(sum i:Int):Option aQ :=
 self1 sum (add .i64 i 1)
def ayF(j1:zJ8)(sum b:Int):Option aQ :=
 j1 (Sx.iE .u32 sum (cvt .u32 b)) 0
def ayG(u1:zJ8):=ayE u1
def ayH(sum i:Int):Option aQ :=
 bu (fun self s=>ayD (ayG (fun sum i=>self (sum,i))) (fun sum i=>self (sum,i)) s.1 s.2) 18446744073709551616 (sum,i)
def ayI(x:As [.int .u32,.int .u8]):Option aQ:=ayF ayH x.1 x.2.1
def ayJ(self1:Int->List Int->Int->Option aQ)(sum:Int)(b:List Int)(i:Int):Option aQ :=
 if lt i (zF (zG b))=true then zC (at? b i) fun y=>zC (ayI (sum,y,())) fun y=>self1 y.1 b (add .i64 i 1) else some (sum,())
def ayK(j1:Int->List Int->Int->Option aQ)(sum:Int)(b:List Int):Option aQ :=
 j1 sum b 0
def ayL(sum:Int)(b:List Int)(i:Int):Option aQ :=
 bu (fun self s=>ayJ (fun sum b i=>self (sum,b,i)) s.1 s.2.1 s.2.2) 18446744073709551616 (sum,b,i)
def ayM(x:As [.int .u32,.sl (.int .u8)]):Option aQ:=ayK ayL x.1 x.2.1
def ayN(b:List Int):Option aQ :=
 zC (ayM (4294967295,b,())) fun y=>some (Sx.iE .u32 y.1 4294967295,())
def ayO(x:As aI):Option aQ:=ayN x.1
def ayP(j2:List Int->Option aQ)(self1:List Int->Int->List Int->Option aQ)(l:List Int)(i:Int)(b:List Int):Option aQ :=
 if lt i (zF (zG l))=true then zC (at? l i) fun y=>zC (at? l i) fun y_1=>need (small (zG b+Nat.succ (Nat.succ 0))) (self1 l (add .i64 i 1) (b++[cvt .u8 (quo .u16 y 256),cvt .u8 (rem y_1 256)])) else j2 b
def ayQ(b:List Int):Option aQ :=
 zC (ayO (b,())) fun y=>some (y.1,())
def ayR(j1:List Int->Int->List Int->Option aQ)(l:List Int):Option aQ :=
 j1 l 0 []
def ayS:=ayQ
def ayT(l:List Int)(i:Int)(b:List Int):Option aQ :=
 bu (fun self s=>ayP (ayS) (fun l i b=>self (l,i,b)) s.1 s.2.1 s.2.2) 18446744073709551616 (l,i,b)
def ayU(x:As aK):Option aQ:=ayR ayT x.1
@[reducible] def zJ9:Type:=List (Int×List Int)->Int->List Int->Option aQ
def ayV(j2:List Int->Option aQ)(self1:zJ9)(l:zJ1)(i:Int)(all:List Int):Option aQ :=
 if lt i (zF (zG l))=true then zC (at? l i) fun y=>zC (ayC (y,())) fun y=>need (small (zG all+zG y.1)) (self1 l (add .i64 i 1) (all++y.1)) else j2 all
def ayW(all:List Int):Option aQ :=
 zC (ayU (all,())) fun y=>some (y.1,())
def ayX(j1:zJ9)(l:zJ1):Option aQ :=
 j1 l 0 []
def ayY:=ayW
def ayZ(l:zJ1)(i:Int)(all:List Int):Option aQ :=
 bu (fun self s=>ayV (ayY) (fun l i all=>self (l,i,all)) s.1 s.2.1 s.2.2) 18446744073709551616 (l,i,all)
def am4(x:As [.sl cr]):Option aQ:=ayX ayZ x.1
def ay0(c:zJ0):Option bK :=
 some ([c.1,cvt .u16 c.2.1,cvt .u16 (quo .u32 c.2.2.1 65536),cvt .u16 (rem c.2.2.1 65536),c.2.2.2.1,cvt .u16 (quo .u32 c.2.2.2.2 65536),cvt .u16 (rem c.2.2.2.2 65536),0],())
def ay1(x:As [.pr (.int .u16) BR]):Option bK:=ay0 x.1
@[reducible] def dO:List Ty:=[.pr (.int .u16) (.int .u8),.pr aD lK,.pr (.int .u8) aA,.int .u32,.int .u32,.sl (.sl cr),.sl fK]
@[reducible] def ay2:Sh:=⟨[.d (.pr (.int .u16) (.int .u8)),.pb 0 0],[(prG 1),.que fK 63],dO,[.d (.bool)],[(0,(prG 2)),(2,.que fK 63)],1,aE⟩
def ay3(p:(eU)×(gJ)×Unit×Int×Int×List aH)(o:zJ6)(c:zJ0):Option cN :=
 zC (ay1 (c,())) fun y=>zC (C8 ((16,272,8,0,y.1,[]),())) fun y=>zC (Hu ((iZ p.2.1),y.1,())) fun y=>zC (Gy (y.2.1,())) fun y_1=>if eqi y_1.2.1 0=true then some (eqi y_1.1.2.1 0,p.1,(iZ y.1),p.2.2.2.1,p.2.2.2.2.1,p.2.2.2.2.2,o,()) else some (false,p.1,(iZ y.1),p.2.2.2.1,p.2.2.2.2.1,p.2.2.2.2.2,o,())
def ay4(j1:(eU)×(gJ)×Unit×Int×Int×List aH->List (Bool×List Int)->Int×Int×Int×Int×Int->Option cN)(o:Int×Int)(p:eU)(o_2:gJ)(p_2 v:Int)(c:List aH)(b:zJ6):Option cN :=
 amb (au ay2.rs) [zC (am4 ([],())) fun y=>j1 (p,o_2,(),p_2,v,c) b (o.1,o.2,5,0,y.1),zC (am4 ([],())) fun y=>j1 (p,o_2,(),p_2,v,c) b (o.1,o.2,5,0,y.1)]
def ay5:=ay3
def aBm(x:As dO):Option cN:=ay4 ay5 x.1 x.2.1 x.2.2.1 x.2.2.2.1 x.2.2.2.2.1 x.2.2.2.2.2.1 x.2.2.2.2.2.2.1
def ay6(x y:Int×List Int):Option aF :=
 if eqi x.1 y.1=true then zC (vJ (x.2,y.2,())) fun y=>some (y.1,()) else some (false,())
def ay7(x:As [.pr (.int .i64) aC,.pr (.int .i64) aC]):Option aF:=ay6 x.1 x.2.1
@[reducible] def Yt:Type:=List (Int×List Int)->List (Int×List Int)->Int->Int->Option aF
def aA9(self1:Yt)(s2 t15:zJ1)(t16 t17:Int):Option aF :=
 if lt t17 t16=true then zC (at? t15 t17) fun y=>zC (at? s2 t17) fun y_1=>zC (ay7 (y,y_1,())) fun y=>if (!y.1)=true then some (false,()) else self1 s2 t15 t16 (add .i64 t17 1) else some (true,())
def aBa(j1:Yt)(s1 s2:zJ1):Option aF :=
 if nei (zF (zG s1)) (zF (zG s2))=true then some (false,()) else j1 s2 s1 (zF (zG s1)) 0
def aBb(s2 t15:zJ1)(t16 t17:Int):Option aF :=
 bu (fun self s=>aA9 (fun s2 t15 t16 t17=>self (s2,t15,t16,t17)) s.1 s.2.1 s.2.2.1 s.2.2.2) 18446744073709551616 (s2,t15,t16,t17)
def aBc(x:As [.sl cr,.sl cr]):Option aF:=aBa aBb x.1 x.2.1
def ay8(a b:zJ1):Option aF :=
 zC (aBc (a,b,())) fun y=>some (y.1,())
def am5(x:As [.sl cr,.sl cr]):Option aF:=ay8 x.1 x.2.1
def ay9(a b:Int×List Bool×List (Int×List Int)):Option aF :=
 if eqi a.1 b.1=true then if (Sx.eqb (zJ a.2.1 0 false) (zJ b.2.1 0 false) && (Sx.eqb (zJ a.2.1 1 false) (zJ b.2.1 1 false) && (Sx.eqb (zJ a.2.1 2 false) (zJ b.2.1 2 false) && (Sx.eqb (zJ a.2.1 3 false) (zJ b.2.1 3 false) && (Sx.eqb (zJ a.2.1 4 false) (zJ b.2.1 4 false) && (Sx.eqb (zJ a.2.1 5 false) (zJ b.2.1 5 false) && (Sx.eqb (zJ a.2.1 6 false) (zJ b.2.1 6 false) && (Sx.eqb (zJ a.2.1 7 false) (zJ b.2.1 7 false) && true))))))))=true then zC (DC (a,())) fun y=>zC (DC (b,())) fun y_1=>zC (am5 (y.1,y_1.1,())) fun y=>some (y.1,()) else some (false,()) else some (false,())
def aza(x:As [.pr (.int .u32) (.pr (.ar 8 .bool) (.ar 8 cr)),.pr (.int .u32) (.pr (.ar 8 .bool) (.ar 8 cr))]):Option aF:=ay9 x.1 x.2.1
def azb(a b:List Int×(Int×Int)×Int×Int×Int×nW×Int):Option aF :=
 zC (vJ (a.1,b.1,())) fun y=>if y.1=true then if (eqi a.2.1.1 b.2.1.1 && (eqi a.2.1.2 b.2.1.2 && true))=true then if eqi a.2.2.1 b.2.2.1=true then if eqi a.2.2.2.1 b.2.2.2.1=true then if eqi a.2.2.2.2.1 b.2.2.2.2.1=true then zC (aza (a.2.2.2.2.2.1,b.2.2.2.2.2.1,())) fun y=>if y.1=true then some (eqi a.2.2.2.2.2.2 b.2.2.2.2.2.2,()) else some (false,()) else some (false,()) else some (false,()) else some (false,()) else some (false,()) else some (false,())
def azc(x:As [.pr aC tV,.pr aC tV]):Option aF:=azb x.1 x.2.1
def azd(a b:gJ):Option aF :=
 if eqi a.1 b.1=true then if eqi a.2.1 b.2.1=true then zC (azc (a.2.2.1,b.2.2.1,())) fun y=>if y.1=true then zC (MS (a.2.2.2,b.2.2.2,())) fun y=>some (y.1,()) else some (false,()) else some (false,()) else some (false,())
def aBn(x:As [.pr (.int .u8) aA,.pr (.int .u8) aA]):Option aF:=azd x.1 x.2.1
def aze(a b:zJ5):Option aF :=
 if eqi a.1 b.1=true then if eqi a.2.1 b.2.1=true then if eqi a.2.2.1 b.2.2.1=true then if eqi a.2.2.2.1 b.2.2.2.1=true then zC (vJ (a.2.2.2.2.1,b.2.2.2.2.1,())) fun y=>if y.1=true then zC (MS (a.2.2.2.2.2,b.2.2.2.2.2,())) fun y=>some (y.1,()) else some (false,()) else some (false,()) else some (false,()) else some (false,()) else some (false,())
def azf(x:As [.pr (.int .u8) jH,.pr (.int .u8) jH]):Option aF:=aze x.1 x.2.1
def azg(a b:Int×Int×Int×Int×Bool×uS×Int×Int×Int):Option aF :=
 if eqi a.1 b.1=true then if eqi a.2.1 b.2.1=true then if eqi a.2.2.1 b.2.2.1=true then if eqi a.2.2.2.1 b.2.2.2.1=true then if Sx.eqb a.2.2.2.2.1 b.2.2.2.2.1=true then if eqi a.2.2.2.2.2.2.1 b.2.2.2.2.2.2.1=true then if eqi a.2.2.2.2.2.2.2.1 b.2.2.2.2.2.2.2.1=true then if eqi a.2.2.2.2.2.2.2.2 b.2.2.2.2.2.2.2.2=true then zC (azf (a.2.2.2.2.2.1,b.2.2.2.2.2.1,())) fun y=>some (y.1,()) else some (false,()) else some (false,()) else some (false,()) else some (false,()) else some (false,()) else some (false,()) else some (false,()) else some (false,())
def azh(x:As [.pr (.int .u8) qz,.pr (.int .u8) qz]):Option aF:=azg x.1 x.2.1
def azi(a b:eU):Option aF :=
 zC (azh (a.1,b.1,())) fun y=>if y.1=true then zC (am5 (a.2.2.2.1,b.2.2.2.1,())) fun y=>if y.1=true then if eqi a.2.1 b.2.1=true then if eqi a.2.2.1 b.2.2.1=true then if eqi a.2.2.2.2.1 b.2.2.2.2.1=true then if eqi a.2.2.2.2.2.1 b.2.2.2.2.2.1=true then if eqi a.2.2.2.2.2.2.1 b.2.2.2.2.2.2.1=true then if eqi a.2.2.2.2.2.2.2.1 b.2.2.2.2.2.2.2.1=true then some (eqi a.2.2.2.2.2.2.2.2 b.2.2.2.2.2.2.2.2,()) else some (false,()) else some (false,()) else some (false,()) else some (false,()) else some (false,()) else some (false,()) else some (false,()) else some (false,())
def aBo(x:As [.pr aD lK,.pr aD lK]):Option aF:=azi x.1 x.2.1
@[reducible] def Yu:Sh:=⟨[.d aC,.d aC],[],dU,[.d (.bool)],[],0,[.bool]⟩
def akg:Env:=(cts [])
def akh:List (Nat×Hint):=[(58,⟨[],[0,1,12,13]⟩)]
def Yw(a b:List Int)(t12 t13:Int):St:=⟨[(0,dW a),(1,dW b),(12,dI t12),(13,dI t13)],26,[],[],0,[],0⟩
def Od(self1:List Int->List Int->Int->Int->Option aF)(a b:List Int)(t12 t13:Int):Option aF :=
 if lt t13 t12=true then zC (at? a t13) fun y=>zC (at? b t13) fun y_1=>if nei y y_1=true then some (false,()) else self1 a b t12 (add .i64 t13 1) else some (true,())
def Yx(j1:List Int->List Int->Int->Int->Option aF)(a b:List Int):Option aF :=
 if nei (zF (zG a)) (zF (zG b))=true then some (false,()) else j1 a b (zF (zG a)) 0
def Oe(a b:List Int)(t12 t13:Int):Option aF :=
 bu (fun self s=>Od (fun a b t12 t13=>self (a,b,t12,t13)) s.1 s.2.1 s.2.2.1 s.2.2.2) 18446744073709551616 (a,b,t12,t13)
def Yy(x:As dU):Option aF:=Yx Oe x.1 x.2.1
abbrev pBt:=zp akg akh 14 Yu
theorem azj{J w1 a b c d}:pBt J 58 [w1] (Yw a b c d)=Od (C w1 Yw) a b c d:=by kernel_rfl
abbrev pBs:=zj akg akh 14 Yu
theorem azk:C (pBs 58 []) Yw=Oe:=gLC (by decide) (by kernel_rfl) (fun _=>by unfold Oe;rfl) fun _ _=>azj.trans (by kernel_rfl)
theorem azl:ak Tryz.prog (fun _=>True) 14 ⟨Yu,Yy⟩:=zcc (env:=akg) (d:=6) (hs:=Ev.get akh) av (fun J x=>Yx (C (J 58 []) Yw) x.1 x.2.1) (fun _ _=>by kernel_rfl) fun _=>by rw[azk]<;>rfl
def azm(j2:List (Int×List Int)->Option aF)(self1:Yt)(l t5:zJ1)(t6 t7:Int):Option aF :=
 if lt t7 t6=true then zC (at? t5 t7) fun y=>if gt (zF (zG y.2)) 100=true then some (false,()) else self1 l t5 t6 (add .i64 t7 1) else j2 l
def azn(l:zJ1):Option aF :=
 some (le (zF (zG l)) 40,())
def azo(j1:Yt)(l:zJ1):Option aF :=
 j1 l l (zF (zG l)) 0
def azp:=azn
def azq(l t5:zJ1)(t6 t7:Int):Option aF :=
 bu (fun self s=>azm (azp) (fun l t5 t6 t7=>self (l,t5,t6,t7)) s.1 s.2.1 s.2.2.1 s.2.2.2) 18446744073709551616 (l,t5,t6,t7)
def aBp(x:As [.sl cr]):Option aF:=azo azq x.1
end Go.Proofs.Lx
end
