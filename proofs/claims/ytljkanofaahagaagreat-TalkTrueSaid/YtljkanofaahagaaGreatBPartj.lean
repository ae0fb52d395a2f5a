/- Proved in the last of these 16 parts (this is part 10): TalkTrue. Conditions: those of the given statement, and no others. -/
import Derived.Test.YtljkanofaahagaaGreatBPartd
import Derived.Test.YtljkanofaahagaaGreatBParti
import Derived.Test.YtljkanofaahagaaGreatProg
import Derived.Test.YtljkanofaahagaaGreatBParte
set_option linter.unusedVariables false
set_option linter.unusedSimpArgs false
set_option linter.unusedSectionVars false
open Option renaming bind → zC, none → zH
open Int renaming ofNat → zF, toNat → zI
open List renaming length → zG, getD → zJ
open Go.Value renaming slice → zK
noncomputable section
open Go Go.Proofs Ev Sx
set_option maxRecDepth 100000
namespace Go.Proofs.Lx
abbrev xD:Type:=List Int×(Int×Int)×Int×Int×Int×pq×Int
abbrev oL:Type:=Int×Int×jN×List Bool
abbrev lW:Type:=M5×Int×Int×List (Int×List Int)×Int×Int×Int×Int×Int
@[reducible] def zJ0:Type:=Int×Int×Int×Int×Int
@[reducible] def azL:Sh:=⟨[.d aH,.d cL],[],aV,[.d aH],[],0,bE⟩
def akG(a:xD)(c:zJ0):Option cZ :=
 zC (Zo (a.2.1,c.1,())) fun y=>some ((a.1,y.1,2,a.2.2.2),())
def Zp(x:As aV):Option cZ:=akG x.1 x.2.1
theorem azM:ak Tryz.prog (fun _=>True) 292 ⟨azL,Zp⟩:=ctn (aj azK av) 6 fun J x=>by kernel_rfl
@[reducible] def azN:Sh:=⟨[.d aH,.d cL],[],aV,[.d (.bool)],[],0,[.bool]⟩
def azO:Env:=(cts [(2000043,Ev.gU),(276,(⟨Zc,za⟩:Ct))])
def akH(a:xD)(c:zJ0):Option aE :=
 if nei a.2.2.2.2.1 c.2.2.1=true then zC (za (a,2,c.2.2.1,())) fun y=>some (!y.1,()) else some (false,())
def Zq(x:As aV):Option aE:=akH x.1 x.2.1
theorem azP:ak Tryz.prog (fun _=>True) 293 ⟨azN,Zq⟩:=ctn (env:=azO) (aj Ev.gq (aj Ze av)) 6 fun J x=>by kernel_rfl
@[reducible] def aph:Sh:=⟨[.d bq],[],cB,[.d (.bool)],[],0,[.bool]⟩
def akI(x:Int×List Int):Option aE :=
 zC (qK (x,())) fun y=>some (!y.1,())
def Zr(x:As cB):Option aE:=akI x.1
theorem akJ:ak Tryz.prog (fun _=>True) 94 ⟨aph,Zr⟩:=ctn (aj Ei av) 6 fun J x=>by kernel_rfl
@[reducible] def akK:Sh:=⟨[.d (.sl bq),.fn (.func 94) [] []],[],[.sl bq],[.d (.int .i64)],[],0,[.int .i64]⟩
def akL:Env:=(cts [(94,(⟨aph,Zr⟩:Ct))])
def akM:List (Nat×Hint):=[(26,⟨[],[0,1,7,8]⟩)]
@[reducible] def zJ1:Type:=List (Int×List Int)
def Zs(s:zJ1)(t7 t8:Int):St:=⟨[(0,.d (.sl bq) s),(1,.fn (.func 94) [] []),(7,dI t7),(8,dI t8)],19,[],[],0,[],0⟩
@[reducible] def zJ2:Type:=List (Int×List Int)->Int->Int->Option cI
def Pw(self1:zJ2)(s:zJ1)(t7 t8:Int):Option cI :=
 if lt t8 t7=true then zC (at? s t8) fun y=>zC (Zr (y,())) fun y=>if y.1=true then some (t8,()) else self1 s t7 (add .i64 t8 1) else some (-1,())
def atc(j1:zJ2)(s:zJ1):Option cI :=
 j1 s (zF (zG s)) 0
def Px(s:zJ1)(t7 t8:Int):Option cI :=
 cu (fun self s=>Pw (fun s t7 t8=>self (s,t7,t8)) s.1 s.2.1 s.2.2) 18446744073709551616 (s,t7,t8)
def akN(x:As [.sl bq]):Option cI:=atc Px x.1
abbrev pDt:=zp akL akM 152 akK
theorem aD7{J w1 a b c}:pDt J 26 [w1] (Zs a b c)=Pw (C w1 Zs) a b c:=by kernel_rfl
abbrev pDs:=zj akL akM 152 akK
theorem aD8:C (pDs 26 []) Zs=Px:=gLC (by decide) (by kernel_rfl) (fun _=>by unfold Px;rfl) fun _ _=>aD7.trans (by kernel_rfl)
theorem aD9:ak Tryz.prog (fun _=>True) 152 ⟨akK,akN⟩:=zcc (env:=akL) (d:=6) (hs:=Ev.get akM) (aj akJ av) (fun J x=>atc (C (J 26 []) Zs) x.1) (fun _ _=>by kernel_rfl) fun _=>by rw[aD8]<;>rfl
@[reducible] def aEa:Sh:=⟨[.d (.sl bq),.fn (.func 94) [] []],[],[.sl bq],[.d (.bool)],[],0,[.bool]⟩
def akO(s:zJ1):Option aE :=
 zC (akN (s,())) fun y=>some (ge y.1 0,())
def akP(x:As [.sl bq]):Option aE:=akO x.1
theorem aEb:ak Tryz.prog (fun _=>True) 93 ⟨aEa,akP⟩:=ctn (aj akJ (aj aD9 av)) 6 fun J x=>by kernel_rfl
@[reducible] def apj:Sh:=⟨[.d (.sl bq)],[],[.sl bq],[.d (.bool)],[],0,[.bool]⟩
def Zt(l:zJ1):Option aE :=
 zC (akP (l,())) fun y=>some (!y.1,())
def KW(x:As [.sl bq]):Option aE:=Zt x.1
theorem azQ:ak Tryz.prog (fun _=>True) 44 ⟨apj,KW⟩:=ctn (aj aEb (aj akJ av)) 6 fun J x=>by kernel_rfl
@[reducible] def Zu:Sh:=⟨[.d aB,.d (.sl bq)],[],[.sl (.int .u16),.sl bq],[.d aB,.d (.int .i64)],[],0,bS⟩
def akQ:Env:=(cts [(44,(⟨apj,KW⟩:Ct)),(45,(⟨Uu,Eb⟩:Ct))])
def akR:List (Nat×Hint):=[(31,⟨[],[0]⟩),(250,⟨[],[0,16,17,18]⟩)]
def Zv(t16:zJ1)(t17 t18:Int)(bank:List Int):St:=⟨[(0,.row 0),(16,.d (.sl bq) t16),(17,dI t17),(18,dI t18)],31,[],[(0,.row (.int .u16) 25 bank)],1,[],0⟩
def akS(bank:List Int):St:=⟨[(0,.row 0)],31,[],[(0,.row (.int .u16) 25 bank)],1,[],0⟩
@[reducible] def zJ3:Type:=List (Int×List Int)->Int->Int->List Int->Option (As bS)
def I6(j2:List Int->Option (As bS))(self1:zJ3)(t16:zJ1)(t17 t18:Int)(bank:List Int):Option (As bS) :=
 if lt t18 t17=true then zC (at? t16 t18) fun y=>need (ge y.1 0) (need (le y.1 (zF (zG bank))) (need (le (zF (zG bank)) (zF (zG bank))) (need (le (y.1+(zF (zG bank) - y.1)) (zF (zG bank))) (self1 t16 t17 (add .i64 t18 1) (List.take (zI y.1) bank++List.take (zI (zF (zG bank) - y.1)) y.2++List.drop (zI y.1+zG (List.take (zI (zF (zG bank) - y.1)) y.2)) bank))))) else j2 bank
def apk(bank:List Int):Option (As bS) :=
 some (bank,0,())
def Zw(j1:zJ3)(bank:List Int)(l:zJ1):Option (As bS) :=
 if nei (zF (zG bank)) 64=true then some ([],21,()) else zC (KW (l,())) fun y=>if (!y.1)=true then some ([],20,()) else zC (Eb (bank,())) fun y=>j1 l (zF (zG l)) 0 y.1
def apl:=apk
def I7(t16:zJ1)(t17 t18:Int)(bank:List Int):Option (As bS) :=
 cu (fun self s=>I6 (apl) (fun t16 t17 t18 bank=>self (t16,t17,t18,bank)) s.1 s.2.1 s.2.2.1 s.2.2.2) 18446744073709551616 (t16,t17,t18,bank)
def BM(x:As [.sl (.int .u16),.sl bq]):Option (As bS):=Zw I7 x.1 x.2.1
abbrev pA7:=zp akQ akR 12 Zu
theorem azR{J a}:pA7 J 31 [] (akS a)=apk a:=by kernel_rfl
theorem azS{J w1 a b c d}:pA7 J 250 [w1] (Zv a b c d)=I6 (C (J 31 []) akS) (C w1 Zv) a b c d:=by kernel_rfl
abbrev pA6:=zj akQ akR 12 Zu
theorem azT:C (pA6 31 []) akS=apl:=gNC (by decide) fun _=>azR
theorem azU:C (pA6 250 []) Zv=I7:=gLC (by decide) (by kernel_rfl) (fun _=>by unfold I7;rfl) fun _ _=>azS.trans (by rw[azT]<;>kernel_rfl)
theorem apm:ak Tryz.prog (fun _=>True) 12 ⟨Zu,BM⟩:=zcc (env:=akQ) (d:=6) (hs:=Ev.get akR) (aj azQ (aj ash av)) (fun J x=>Zw (C (J 250 []) Zv) x.1 x.2.1) (fun _ _=>by kernel_rfl) fun _=>by rw[azU]<;>rfl
@[reducible] def azV:Sh:=⟨[.d aH,.d cL],[],aV,[.d aH],[],0,bE⟩
def akT(a:xD)(c:zJ0):Option cZ :=
 if eqi a.2.2.2.2.1 c.2.2.1=true then some (a,()) else zC (ze (a.2.2.2.2.2.1,())) fun y=>zC (BM (a.1,y.1,())) fun y=>if nei y.2.1 0=true then some (a,()) else zC (BJ ((y.1,a.2.1,a.2.2.1,a.2.2.2.1,c.2.2.1,a.2.2.2.2.2),())) fun y=>some (y.1,())
def Zx(x:As aV):Option cZ:=akT x.1 x.2.1
theorem azW:ak Tryz.prog (fun _=>True) 294 ⟨azV,Zx⟩:=ctn (aj apm (aj akz (aj Pp av))) 6 fun J x=>by kernel_rfl
@[reducible] def azX:Sh:=⟨[.d aH,.d cL],[],aV,[.d (.bool)],[],0,[.bool]⟩
def azY:Env:=(cts [(2000043,Ev.gU)])
def azZ(a:xD)(c:zJ0):Option aE :=
 some (le c.2.2.1 a.2.2.2.2.1,())
def Zy(x:As aV):Option aE:=azZ x.1 x.2.1
theorem az0:ak Tryz.prog (fun _=>True) 295 ⟨azX,Zy⟩:=ctn (env:=azY) (aj Ev.gq av) 6 fun J x=>by kernel_rfl
@[reducible] def akU:Sh:=⟨[.d aH,.d cL],[],aV,[.d aH],[],0,bE⟩
def akV:Env:=(cts [(2000043,Ev.gU),(173,(⟨apc,BJ⟩:Ct))])
def akW:List (Nat×Hint):=[(6,⟨[],[2,4,17]⟩)]
def akX(a:xD)(t4:Int)(t17:Bool)(t4_2:List jN):St:=⟨[(2,.pe aH a),(4,.prw 0 t4 32 0),(17,dB t17)],21,[],[(0,.row aH 43 t4_2)],1,[],0⟩
def Zz(a:xD)(t4:Int)(t17:Bool)(t4_2:List jN):Option cZ :=
 if t17=true then zC (at? t4_2 t4) fun x=>zC (at? (List.set t4_2 (zI t4) a) t4) fun y=>zC (at? (List.set t4_2 (zI t4) a) t4) fun y=>some (y,()) else zC (BJ (a,())) fun y=>zC (at? t4_2 t4) fun x=>zC (at? (List.set t4_2 (zI t4) y.1) t4) fun y_1=>zC (at? (List.set t4_2 (zI t4) y.1) t4) fun y=>some (y,())
def ZA(j1:xD->Int->Bool->List jN->Option cZ)(a:xD)(c:zJ0):Option cZ :=
 if nei a.2.1.1 c.1=true then j1 a 0 true [AZ] else j1 a 0 (nei a.2.2.2.1 c.2.2.1) [AZ]
def ZB:=Zz
def ZC(x:As aV):Option cZ:=ZA ZB x.1 x.2.1
abbrev pAj:=zp akV akW 296 akU
theorem az1{J a b c d}:pAj J 6 [] (akX a b c d)=Zz a b c d:=by kernel_rfl
abbrev pAi:=zj akV akW 296 akU
theorem az2:C (pAi 6 []) akX=ZB:=gNC (by decide) fun _=>az1
theorem az3:ak Tryz.prog (fun _=>True) 296 ⟨akU,ZC⟩:=zcc (env:=akV) (d:=6) (hs:=Ev.get akW) (aj Ev.gq (aj Pp av)) (fun J x=>ZA (C (J 6 []) akX) x.1 x.2.1) (fun _ _=>by kernel_rfl) fun _=>by rw[az2]<;>rfl
@[reducible] def ZD:Sh:=⟨[.d aH,.d cL],[],aV,[.d aH,.d (.int .i64)],[],0,cD⟩
def ZE(a:xD)(c:zJ0):Option (As cD) :=
 zC (EL (a,())) fun y=>amb (au ZD.rs) [if eqi 1 c.2.1=true then if eqi c.1 0=true then some (y.1,2,()) else if eqi c.2.2.1 0=true then some (y.1,2,()) else zC (sW (y.1,c.1,())) fun y_1=>if y_1.1=true then some (y.1,22,()) else zC (Y6 (y.1,c,())) fun y_2=>if y_2.1=true then some (y.1,23,()) else zC (Zb (y.1,c,())) fun y=>some (y.1,0,()) else if eqi 2 c.2.1=true then if eqi c.1 0=true then some (y.1,2,()) else if eqi c.2.2.1 0=true then some (y.1,2,()) else zC (sW (y.1,c.1,())) fun y_1=>if y_1.1=true then some (y.1,22,()) else zC (Zn (y.1,c,())) fun y_2=>if y_2.1=true then some (y.1,23,()) else zC (Zp (y.1,c,())) fun y=>some (y.1,0,()) else if eqi 3 c.2.1=true then if eqi c.1 0=true then some (y.1,2,()) else if eqi c.2.2.1 0=true then some (y.1,2,()) else zC (sW (y.1,c.1,())) fun y_1=>if y_1.1=true then some (y.1,22,()) else zC (Zq (y.1,c,())) fun y_2=>if y_2.1=true then some (y.1,23,()) else zC (Zx (y.1,c,())) fun y=>some (y.1,0,()) else if eqi 4 c.2.1=true then if eqi c.1 0=true then some (y.1,2,()) else if eqi c.2.2.1 0=true then some (y.1,2,()) else zC (sW (y.1,c.1,())) fun y_1=>if y_1.1=true then some (y.1,22,()) else zC (Zy (y.1,c,())) fun y_2=>if y_2.1=true then some (y.1,23,()) else zC (ZC (y.1,c,())) fun y=>some (y.1,0,()) else if eqi c.1 0=true then some (y.1,2,()) else if eqi c.2.2.1 0=true then some (y.1,2,()) else some (y.1,2,()),if eqi 1 c.2.1=true then if eqi c.1 0=true then some (y.1,2,()) else if eqi c.2.2.1 0=true then some (y.1,2,()) else zC (sW (y.1,c.1,())) fun y_1=>if y_1.1=true then some (y.1,22,()) else zC (Y6 (y.1,c,())) fun y_2=>if y_2.1=true then some (y.1,23,()) else zC (Zb (y.1,c,())) fun y=>some (y.1,0,()) else if eqi 2 c.2.1=true then if eqi c.1 0=true then some (y.1,2,()) else if eqi c.2.2.1 0=true then some (y.1,2,()) else zC (sW (y.1,c.1,())) fun y_1=>if y_1.1=true then some (y.1,22,()) else zC (Zn (y.1,c,())) fun y_2=>if y_2.1=true then some (y.1,23,()) else zC (Zp (y.1,c,())) fun y=>some (y.1,0,()) else if eqi 3 c.2.1=true then if eqi c.1 0=true then some (y.1,2,()) else if eqi c.2.2.1 0=true then some (y.1,2,()) else zC (sW (y.1,c.1,())) fun y_1=>if y_1.1=true then some (y.1,22,()) else zC (Zq (y.1,c,())) fun y_2=>if y_2.1=true then some (y.1,23,()) else zC (Zx (y.1,c,())) fun y=>some (y.1,0,()) else if eqi 4 c.2.1=true then if eqi c.1 0=true then some (y.1,2,()) else if eqi c.2.2.1 0=true then some (y.1,2,()) else zC (sW (y.1,c.1,())) fun y_1=>if y_1.1=true then some (y.1,22,()) else zC (Zy (y.1,c,())) fun y_2=>if y_2.1=true then some (y.1,23,()) else zC (ZC (y.1,c,())) fun y=>some (y.1,0,()) else if eqi c.1 0=true then some (y.1,2,()) else if eqi c.2.2.1 0=true then some (y.1,2,()) else some (y.1,2,())]
def zf(x:As aV):Option (As cD):=ZE x.1 x.2.1
theorem az4:ak Tryz.prog (fun _=>True) 253 ⟨ZD,zf⟩:=ctn (aj Y5 (aj as8 (aj azn (aj azv (aj azI (aj azM (aj azP (aj azW (aj az0 (aj az3 av)))))))))) 6 fun J x=>by kernel_rfl
@[reducible] def bI:List Ty:=[.int .u16,.int .u32,.int .i64,.pr (.int .i64) aB,.int .i64]
@[reducible] def ZF:Sh:=⟨[.d aB],[],aK,[.d (.int .u16),.d (.int .u32),.d (.int .i64),.d bq,.d (.int .i64)],[],0,bI⟩
def akY:Env:=(cts [(26,(⟨Ht,qK⟩:Ct)),(90,(⟨NJ,wZ⟩:Ct)),(91,(⟨Zf,BK⟩:Ct)),(267,(⟨Nn,Ej⟩:Ct)),(270,(⟨VL,qL⟩:Ct))])
def akZ:List (Nat×Hint):=[(126,⟨[],[0,5,10,53]⟩),(6,⟨[],[0,5,19,47,48,49,50,51,52]⟩)]
def ak0(w:List Int)(t19:Bool)(t5:Int):St:=⟨[(0,dW w),(5,.pb 0 0),(19,dB t19)],70,[],[(0,.box 38 [dI t5,.k (zK zH 0 0)])],1,[],0⟩
def ak1(w:List Int)(t53:Bool)(t5:Int)(x:Int×List Int):St:=⟨[(0,dW w),(5,.pb 0 0),(10,.pb 1 0),(53,dB t53)],70,[],[(0,.box 38 [dI t5,.k (zK zH 0 0)]),(1,.box 38 [dI x.1,dW x.2])],2,[],0⟩
def ZG(j2:List Int->Bool->Int->Int×List Int->Option (As bI))(w:List Int)(t19:Bool)(t5:Int):Option (As bI) :=
 if t19=true then some (0,0,0,(0,[]),2,()) else zC (at? w 4) fun y=>zC (at? w 5) fun y_1=>zC (cut w 6 (zF (zG w))) fun y_2=>if gt (cvt .i64 y_1) (zF (zG y_2))=true then some (0,0,0,(0,[]),20,()) else zC (cut y_2 0 (cvt .i64 y_1)) fun y_3=>need (le (cvt .i64 y_1) (cvt .i64 y_1)) (need (le (cvt .i64 y_1) (zF (zG y_2))) (zC (BK ((cvt .i64 y,y_3),())) fun y=>zC (qK (y.1,())) fun y_4=>if (!y_4.1)=true then j2 w true t5 y.1 else zC (cut w 4 (zF (zG w))) fun y_5=>zC (Ej (y.1,())) fun y_6=>zC (wZ (y_6.1,y_5,())) fun y_7=>j2 w (!y_7.1) t5 y.1))
def ZH(w:List Int)(t53:Bool)(t5:Int)(x:Int×List Int):Option (As bI) :=
 if t53=true then some (0,0,0,(0,[]),20,()) else zC (at? w 0) fun y=>zC (at? w 1) fun y_1=>zC (at? w 2) fun y_2=>zC (at? w 3) fun y_3=>zC (qL (y_1,y_2,())) fun y_4=>some (y,y_4.1,cvt .i64 y_3,x,0,())
def ZI(j1:List Int->Bool->Int->Option (As bI))(w:List Int):Option (As bI) :=
 if nei (zF (zG w)) 20=true then j1 w true 0 else zC (at? w 3) fun y=>j1 w (ge y 8) 0
def ZJ:=ZH
def ak2:=ZG (ZJ)
def I8(x:As aK):Option (As bI):=ZI ak2 x.1
abbrev pD3:=zp akY akZ 254 ZF
theorem az5{J a b c d}:pD3 J 126 [] (ak1 a b c d)=ZH a b c d:=by kernel_rfl
theorem az6{J a b c}:pD3 J 6 [] (ak0 a b c)=ZG (C (J 126 []) ak1) a b c:=by kernel_rfl
abbrev pD2:=zj akY akZ 254 ZF
theorem az7:C (pD2 126 []) ak1=ZJ:=gNC (by decide) fun _=>az5
theorem az8:C (pD2 6 []) ak0=ak2:=gNC (by decide) fun _=>az6.trans (by rw[az7]<;>kernel_rfl)
theorem az9:ak Tryz.prog (fun _=>True) 254 ⟨ZF,I8⟩:=zcc (env:=akY) (d:=6) (hs:=Ev.get akZ) (aj Ei (aj V5 (aj akw (aj afu (aj afQ av))))) (fun J x=>ZI (C (J 6 []) ak0) x.1) (fun _ _=>by kernel_rfl) fun _=>by rw[az8]<;>rfl
@[reducible] def ZK:Sh:=⟨[.d (.pr (.int .u32) (.pr (.ar 8 .bool) (.ar 8 bq))),.d (.int .i64),.d bq],[],[.pr (.int .u32) (.pr (.ar 8 .bool) (.ar 8 bq)),.int .i64,.pr (.int .i64) aB],[.d (.pr (.int .u32) (.pr (.ar 8 .bool) (.ar 8 bq))),.d (.int .i64)],[],0,[.pr (.int .u32) (.pr (.ar 8 .bool) (.ar 8 bq)),.int .i64]⟩
def ak3:Env:=(cts [(26,(⟨Ht,qK⟩:Ct)),(91,(⟨Zf,BK⟩:Ct)),(283,(⟨af4,En⟩:Ct))])
def ak4:List (Nat×Hint):=[(31,⟨[],[3,6]⟩),(250,⟨[],[3,6,26,27]⟩)]
def ZL(s t6:Int)(t26:List Bool)(t27:Int)(s_2 t6_2:List pq):St:=⟨[(3,.prw 0 s 25 0),(6,.prw 1 t6 25 0),(26,.d (.ar 8 .bool) t26),(27,dI t27)],46,[],[(0,.row (.pr (.int .u32) (.pr (.ar 8 .bool) (.ar 8 bq))) 41 s_2),(1,.row (.pr (.int .u32) (.pr (.ar 8 .bool) (.ar 8 bq))) 41 t6_2)],2,[],0⟩
def ak5(s t6:Int)(s_2 t6_2:List pq):St:=⟨[(3,.prw 0 s 25 0),(6,.prw 1 t6 25 0)],46,[],[(0,.row (.pr (.int .u32) (.pr (.ar 8 .bool) (.ar 8 bq))) 41 s_2),(1,.row (.pr (.int .u32) (.pr (.ar 8 .bool) (.ar 8 bq))) 41 t6_2)],2,[],0⟩
@[reducible] def zJ4:Type:=Int->Int->List Bool->Int->List pq->List pq->Option (As [.pr (.int .u32) (.pr (.ar 8 .bool) (.ar 8 bq)),.int .i64])
def Py(j2:Int->Int->List pq->List pq->Option (As [.pr (.int .u32) (.pr (.ar 8 .bool) (.ar 8 bq)),.int .i64]))(self1:zJ4)(s t6:Int)(t26:List Bool)(t27:Int)(s_2 t6_2:List pq):Option (As [.pr (.int .u32) (.pr (.ar 8 .bool) (.ar 8 bq)),.int .i64]) :=
 if lt t27 8=true then need (lt t27 8) (zC (at? t26 t27) fun y=>if y=true then need (ge t27 0) (need (lt t27 8) (zC (at? s_2 s) fun y=>zC (at? y.2.2 t27) fun z=>zC (BK (z,())) fun y=>need (ge t27 0) (need (lt t27 8) (zC (at? s_2 s) fun x=>zC (at? x.2.2 t27) fun z=>self1 s t6 t26 (add .i64 t27 1) (List.set s_2 (zI s) (x.1,x.2.1,List.set x.2.2 (zI t27) y.1)) t6_2)))) else need (ge t27 0) (need (lt t27 8) (zC (at? s_2 s) fun x=>zC (at? x.2.2 t27) fun z=>self1 s t6 t26 (add .i64 t27 1) (List.set s_2 (zI s) (x.1,x.2.1,List.set x.2.2 (zI t27) (0,[]))) t6_2))) else j2 s t6 s_2 t6_2
def apn(s t6:Int)(s_2 t6_2:List pq):Option (As [.pr (.int .u32) (.pr (.ar 8 .bool) (.ar 8 bq)),.int .i64]) :=
 zC (at? s_2 s) fun y=>zC (at? t6_2 t6) fun x=>zC (at? (List.set t6_2 (zI t6) y) t6) fun y_1=>zC (at? (List.set t6_2 (zI t6) y) t6) fun y=>some (y,0,())
def ZM(j1:zJ4)(s:Int×List Bool×List (Int×List Int))(n:Int)(x:Int×List Int):Option (As [.pr (.int .u32) (.pr (.ar 8 .bool) (.ar 8 bq)),.int .i64]) :=
 zC (En (n,())) fun y=>if (!y.1)=true then some (zSt,2,()) else zC (qK (x,())) fun y=>if (!y.1)=true then some (zSt,20,()) else need (ge n 0) (need (lt n 8) (zC (at? s.2.1 n) fun z=>need (ge n 0) (need (lt n 8) (zC (at? s.2.2 n) fun z=>j1 0 0 (List.set s.2.1 (zI n) true) 0 [(s.1,List.set s.2.1 (zI n) true,List.set s.2.2 (zI n) x)] [zSt]))))
def apo:=apn
def Pz(s t6:Int)(t26:List Bool)(t27:Int)(s_2 t6_2:List pq):Option (As [.pr (.int .u32) (.pr (.ar 8 .bool) (.ar 8 bq)),.int .i64]) :=
 cu (fun self s=>Py (apo) (fun s t6 t26 t27 s_2 t6_2=>self (s,t6,t26,t27,s_2,t6_2)) s.1 s.2.1 s.2.2.1 s.2.2.2.1 s.2.2.2.2.1 s.2.2.2.2.2) 18446744073709551616 (s,t6,t26,t27,s_2,t6_2)
def ZN(x:As [.pr (.int .u32) (.pr (.ar 8 .bool) (.ar 8 bq)),.int .i64,.pr (.int .i64) aB]):Option (As [.pr (.int .u32) (.pr (.ar 8 .bool) (.ar 8 bq)),.int .i64]):=ZM Pz x.1 x.2.1 x.2.2.1
abbrev pD1:=zp ak3 ak4 277 ZK
theorem aAa{J a b c d}:pD1 J 31 [] (ak5 a b c d)=apn a b c d:=by kernel_rfl
theorem aAb{J w1 a b c d e f}:pD1 J 250 [w1] (ZL a b c d e f)=Py (C (J 31 []) ak5) (C w1 ZL) a b c d e f:=by kernel_rfl
abbrev pD0:=zj ak3 ak4 277 ZK
theorem aAc:C (pD0 31 []) ak5=apo:=gNC (by decide) fun _=>aAa
theorem aAd:C (pD0 250 []) ZL=Pz:=gLC (by decide) (by kernel_rfl) (fun _=>by unfold Pz;rfl) fun _ _=>aAb.trans (by rw[aAc]<;>kernel_rfl)
theorem aAe:ak Tryz.prog (fun _=>True) 277 ⟨ZK,ZN⟩:=zcc (env:=ak3) (d:=6) (hs:=Ev.get ak4) (aj Ei (aj akw (aj af6 av))) (fun J x=>ZM (C (J 250 []) ZL) x.1 x.2.1 x.2.2.1) (fun _ _=>by kernel_rfl) fun _=>by rw[aAd]<;>rfl
@[reducible] def ZO:Sh:=⟨[.d aH,.d (.int .u16),.d (.int .u32),.d (.int .i64),.d bq],[],[.pr aB u6,.int .u16,.int .u32,.int .i64,.pr (.int .i64) aB],[.d aH,.d (.int .i64)],[],0,cD⟩
def ak6:Env:=(cts [(171,(⟨Y2,EL⟩:Ct)),(275,(⟨apb,sW⟩:Ct)),(276,(⟨Zc,za⟩:Ct)),(277,(⟨ZK,ZN⟩:Ct)),(278,(⟨apd,EM⟩:Ct))])
def ak7:List (Nat×Hint):=[(14,⟨[],[1,2,3,5,9,10,21]⟩)]
def ak8(owner tx n a t10:Int)(t21:Bool)(a_2:List jN)(x:Int×List Int)(t10_2:List jN):St:=⟨[(1,d6 owner),(2,d2 tx),(3,dI n),(5,.prw 0 a 32 0),(9,.pb 1 0),(10,.prw 2 t10 32 0),(21,dB t21)],49,[],[(0,.row aH 43 a_2),(1,.box 38 [dI x.1,dW x.2]),(2,.row aH 43 t10_2)],3,[],0⟩
def ZP(owner tx n a t10:Int)(t21:Bool)(a_2:List jN)(x:Int×List Int)(t10_2:List jN):Option (As cD) :=
 if t21=true then zC (at? a_2 a) fun y=>zC (at? t10_2 t10) fun x=>zC (at? (List.set t10_2 (zI t10) y) t10) fun y_1=>zC (at? (List.set t10_2 (zI t10) y) t10) fun y=>some (y,2,()) else zC (at? a_2 a) fun y=>zC (sW (y,owner,())) fun y=>if y.1=true then zC (at? a_2 a) fun y=>zC (at? t10_2 t10) fun x=>zC (at? (List.set t10_2 (zI t10) y) t10) fun y_1=>zC (at? (List.set t10_2 (zI t10) y) t10) fun y=>some (y,22,()) else zC (at? a_2 a) fun y=>zC (za (y,1,tx,())) fun y=>if (!y.1)=true then zC (at? a_2 a) fun y=>zC (at? t10_2 t10) fun x=>zC (at? (List.set t10_2 (zI t10) y) t10) fun y_1=>zC (at? (List.set t10_2 (zI t10) y) t10) fun y=>some (y,23,()) else zC (at? a_2 a) fun y=>zC (ZN (y.2.2.2.2.2.1,n,x,())) fun y=>if nei y.2.1 0=true then zC (at? a_2 a) fun y_1=>zC (at? t10_2 t10) fun x=>zC (at? (List.set t10_2 (zI t10) y_1) t10) fun y_2=>zC (at? (List.set t10_2 (zI t10) y_1) t10) fun y_3=>some (y_3,y.2.1,()) else zC (at? a_2 a) fun x=>zC (at? (List.set a_2 (zI a) (x.1,x.2.1,x.2.2.1,x.2.2.2.1,x.2.2.2.2.1,y.1,x.2.2.2.2.2.2)) a) fun y=>zC (EM (y,owner,())) fun y=>zC (at? t10_2 t10) fun x=>zC (at? (List.set t10_2 (zI t10) y.1) t10) fun y_1=>zC (at? (List.set t10_2 (zI t10) y.1) t10) fun y=>some (y,0,())
def ZQ(j1:Int->Int->Int->Int->Int->Bool->List jN->Int×List Int->List jN->Option (As cD))(a:xD)(owner tx n:Int)(x:Int×List Int):Option (As cD) :=
 zC (EL (a,())) fun y=>if eqi owner 0=true then j1 owner tx n 0 0 true [y.1] x [AZ] else j1 owner tx n 0 0 (eqi tx 0) [y.1] x [AZ]
def ZR:=ZP
def zh(x:As [.pr aB u6,.int .u16,.int .u32,.int .i64,.pr (.int .i64) aB]):Option (As cD):=ZQ ZR x.1 x.2.1 x.2.2.1 x.2.2.2.1 x.2.2.2.2.1
abbrev pAb:=zp ak6 ak7 255 ZO
theorem aAf{J a b c d e f g h i}:pAb J 14 [] (ak8 a b c d e f g h i)=ZP a b c d e f g h i:=by kernel_rfl
abbrev pAa:=zj ak6 ak7 255 ZO
theorem aAg:C (pAa 14 []) ak8=ZR:=gNC (by decide) fun _=>aAf
theorem aAh:ak Tryz.prog (fun _=>True) 255 ⟨ZO,zh⟩:=zcc (env:=ak6) (d:=6) (hs:=Ev.get ak7) (aj Y5 (aj as8 (aj Ze (aj aAe (aj ape av))))) (fun J x=>ZQ (C (J 14 []) ak8) x.1 x.2.1 x.2.2.1 x.2.2.2.1 x.2.2.2.2.1) (fun _ _=>by kernel_rfl) fun _=>by rw[aAg]<;>rfl
@[reducible] def bG:List Ty:=[.int .u8,.int .u8,.sl (.int .u16),.int .u16,.int .i64,.int .u8,.int .u32,.int .u32,.int .u32,.bool,.bool,.bool,.bool,.bool,.bool,.bool,.bool,.int .i64,.sl (.int .u16),.int .i64,.sl (.int .u16),.int .i64,.sl (.int .u16),.int .i64,.sl (.int .u16),.int .i64,.sl (.int .u16),.int .i64,.sl (.int .u16),.int .i64,.sl (.int .u16),.int .i64,.sl (.int .u16),.int .i64,.sl (.int .u8),.sl .bool]
@[reducible] def dD:List Ty:=[.pr (.int .u8) aA,.pr (.int .u8) nC]
@[reducible] def vC:Sh:=⟨[.agg [.d (.int .u8),.d (.int .u8),.d aB,.d (.int .u16),.d (.int .i64),.d (.int .u8),.d (.int .u32),.d (.int .u32),.d (.int .u32),.d (.bool),.d (.bool),.d (.bool),.d (.bool),.d (.bool),.d (.bool),.d (.bool),.d (.bool),.d (.int .i64),.d aB,.d (.int .i64),.d aB,.d (.int .i64),.d aB,.d (.int .i64),.d aB,.d (.int .i64),.d aB,.d (.int .i64),.d aB,.d (.int .i64),.d aB,.d (.int .i64),.d aB,.d (.int .i64),.row 0],.d aJ],[.row .bool 4],bG,[.d bB,.d aP],[],0,dD⟩
def ak9:Env:=(cts [(1000045,Ev.gU),(1000226,Ev.gU),(163,(⟨aoV,Bt⟩:Ct)),(164,(⟨Pf,EJ⟩:Ct)),(165,(⟨Pg,vB⟩:Ct)),(166,(⟨ag6,kI⟩:Ct)),(168,(⟨nQ,oq⟩:Ct)),(252,(⟨YY,IY⟩:Ct)),(253,(⟨ZD,zf⟩:Ct)),(254,(⟨ZF,I8⟩:Ct)),(255,(⟨ZO,zh⟩:Ct))])
def ala:List (Nat×Hint):=[(7,⟨[],[2,4,5,6,7]⟩)]
@[reducible] def zJ5:Type:=Int×Int×Int×Int×List Int×List Bool
def alb(except:Int)(o:List Bool)(s s_2:Int)(s_3:List Int)(s_4 s_5 s_6 s_7 s_8 s_9:Int)(s_10 s_11 s_12 s_13 s_14 s_15 s_16 s_17:Bool)(s_18:Int)(s_19:List Int)(s_20:Int)(s_21:List Int)(s_22:Int)(s_23:List Int)(s_24:Int)(s_25:List Int)(s_26:Int)(s_27:List Int)(s_28:Int)(s_29:List Int)(s_30:Int)(s_31:List Int)(s_32:Int)(s_33:List Int)(s_34 t4 t4_2 t4_3 t4_4 t4_5 t4_6 t4_7 t4_8:Int)(t4_9 t4_10 t4_11 t4_12 t4_13 t4_14 t4_15 t4_16:Bool)(t4_17 t4_18 t4_19 t4_20 t4_21 t4_22 t4_23 t4_24 t4_25 t5 t5_2 t5_3 t5_4:Int)(a:zJ5):St:=⟨[(2,.pb 1 0),(4,.pb 2 0),(5,.pb 3 0),(6,.pb 4 0),(7,d8 except)],43,[],[(0,.row .bool 4 o),(1,.box 45 [d8 s,d8 s_2,dW s_3,d6 s_4,dI s_5,d8 s_6,d2 s_7,d2 s_8,d2 s_9,dB s_10,dB s_11,dB s_12,dB s_13,dB s_14,dB s_15,dB s_16,dB s_17,dI s_18,dW s_19,dI s_20,dW s_21,dI s_22,dW s_23,dI s_24,dW s_25,dI s_26,dW s_27,dI s_28,dW s_29,dI s_30,dW s_31,dI s_32,dW s_33,dI s_34,.row 0]),(2,.box 45 [d8 t4,d8 t4_2,.k (zK zH 0 0),d6 t4_3,dI t4_4,d8 t4_5,d2 t4_6,d2 t4_7,d2 t4_8,dB t4_9,dB t4_10,dB t4_11,dB t4_12,dB t4_13,dB t4_14,dB t4_15,dB t4_16,dI t4_17,.k (zK zH 0 0),dI t4_18,.k (zK zH 0 0),dI t4_19,.k (zK zH 0 0),dI t4_20,.k (zK zH 0 0),dI t4_21,.k (zK zH 0 0),dI t4_22,.k (zK zH 0 0),dI t4_23,.k (zK zH 0 0),dI t4_24,.k (zK zH 0 0),dI t4_25,.k (zK zH 0 0)]),(3,.box 109 [d8 t5,d8 t5_2,.k (zK zH 0 0),.k (zK zH 0 0),d6 t5_3,d6 t5_4]),(4,.box 27 [d8 a.1,d6 a.2.1,d6 a.2.2.1,d6 a.2.2.2.1,dW a.2.2.2.2.1,.d (.sl .bool) a.2.2.2.2.2])],5,[],1⟩
def apq(except:Int)(o:List Bool)(s s_2:Int)(s_3:List Int)(s_4 s_5 s_6 s_7 s_8 s_9:Int)(s_10 s_11 s_12 s_13 s_14 s_15 s_16 s_17:Bool)(s_18:Int)(s_19:List Int)(s_20:Int)(s_21:List Int)(s_22:Int)(s_23:List Int)(s_24:Int)(s_25:List Int)(s_26:Int)(s_27:List Int)(s_28:Int)(s_29:List Int)(s_30:Int)(s_31:List Int)(s_32:Int)(s_33:List Int)(s_34 t4 t4_2 t4_3 t4_4 t4_5 t4_6 t4_7 t4_8:Int)(t4_9 t4_10 t4_11 t4_12 t4_13 t4_14 t4_15 t4_16:Bool)(t4_17 t4_18 t4_19 t4_20 t4_21 t4_22 t4_23 t4_24 t4_25 t5 t5_2 t5_3 t5_4:Int)(a:zJ5):Option (As dD) :=
 (fun (gA:TAg)=>if nei except 0=true then zC (kI (a.1,except,())) fun y=>some ((s,s_2,gA,o),y.1,()) else if eqi a.1 5=true then if le (add .i64 (cvt .i64 a.2.1) (zF (zG a.2.2.2.2.2))) (zF (zG o))=true then need (ge a.2.1 0) (need (le a.2.1 (zF (zG o))) (need (le (zF (zG o)) (zF (zG o))) (need (le (a.2.1+(zF (zG o) - a.2.1)) (zF (zG o))) (zC (oq ((s,s_2,gA,List.take (zI a.2.1) o++List.take (zI (zF (zG o) - a.2.1)) a.2.2.2.2.2++List.drop (zI a.2.1+zG (List.take (zI (zF (zG o) - a.2.1)) a.2.2.2.2.2)) o),a,())) fun y=>some ((s,s_2,gA,List.take (zI a.2.1) o++List.take (zI (zF (zG o) - a.2.1)) a.2.2.2.2.2++List.drop (zI a.2.1+zG (List.take (zI (zF (zG o) - a.2.1)) a.2.2.2.2.2)) o),y.1,()))))) else zC (oq ((s,s_2,gA,o),a,())) fun y=>some ((s,s_2,gA,o),y.1,()) else if eqi a.1 15=true then if le (add .i64 (cvt .i64 a.2.1) (zF (zG a.2.2.2.2.2))) (zF (zG o))=true then need (ge a.2.1 0) (need (le a.2.1 (zF (zG o))) (need (le (zF (zG o)) (zF (zG o))) (need (le (a.2.1+(zF (zG o) - a.2.1)) (zF (zG o))) (zC (oq ((s,s_2,gA,List.take (zI a.2.1) o++List.take (zI (zF (zG o) - a.2.1)) a.2.2.2.2.2++List.drop (zI a.2.1+zG (List.take (zI (zF (zG o) - a.2.1)) a.2.2.2.2.2)) o),a,())) fun y=>some ((s,s_2,gA,List.take (zI a.2.1) o++List.take (zI (zF (zG o) - a.2.1)) a.2.2.2.2.2++List.drop (zI a.2.1+zG (List.take (zI (zF (zG o) - a.2.1)) a.2.2.2.2.2)) o),y.1,()))))) else zC (oq ((s,s_2,gA,o),a,())) fun y=>some ((s,s_2,gA,o),y.1,()) else if eqi (zF (zG a.2.2.2.2.1)) 0=true then zC (oq ((s,s_2,gA,o),a,())) fun y=>some ((s,s_2,gA,o),y.1,()) else if eqi a.1 23=true then if eqi 272 a.2.2.2.1=true then zC (IY (a.2.2.2.2.1,())) fun y=>if nei y.2.1 0=true then zC (kI (a.1,3,())) fun y=>some ((s,s_2,gA,o),y.1,()) else amb (au vC.rs) [zC (zf (gA,y.1,())) fun y=>if nei y.2.1 0=true then zC (kI (a.1,4,())) fun y=>some ((s,s_2,gA,o),y.1,()) else zC (oq ((s,s_2,(gH y.1),o),a,())) fun y_1=>some ((s,s_2,(gH y.1),o),y_1.1,()),zC (zf (gA,y.1,())) fun y=>if nei y.2.1 0=true then zC (kI (a.1,4,())) fun y=>some ((s,s_2,gA,o),y.1,()) else zC (oq ((s,s_2,(gH y.1),o),a,())) fun y_1=>some ((s,s_2,(gH y.1),o),y_1.1,())] else if eqi 288 a.2.2.2.1=true then zC (I8 (a.2.2.2.2.1,())) fun y=>if nei y.2.2.2.2.1 0=true then zC (kI (a.1,3,())) fun y=>some ((s,s_2,gA,o),y.1,()) else amb (au vC.rs) [zC (zh (gA,y.1,y.2.1,y.2.2.1,y.2.2.2.1,())) fun y=>if nei y.2.1 0=true then zC (kI (a.1,4,())) fun y=>some ((s,s_2,gA,o),y.1,()) else zC (oq ((s,s_2,(gH y.1),o),a,())) fun y_1=>some ((s,s_2,(gH y.1),o),y_1.1,()),zC (zh (gA,y.1,y.2.1,y.2.2.1,y.2.2.2.1,())) fun y=>if nei y.2.1 0=true then zC (kI (a.1,4,())) fun y=>some ((s,s_2,gA,o),y.1,()) else zC (oq ((s,s_2,(gH y.1),o),a,())) fun y_1=>some ((s,s_2,(gH y.1),o),y_1.1,())] else zC (kI (a.1,2,())) fun y=>some ((s,s_2,gA,o),y.1,()) else if eqi 272 a.2.1=true then zC (IY (a.2.2.2.2.1,())) fun y=>if nei y.2.1 0=true then zC (kI (a.1,3,())) fun y=>some ((s,s_2,gA,o),y.1,()) else amb (au vC.rs) [zC (zf (gA,y.1,())) fun y=>if nei y.2.1 0=true then zC (kI (a.1,4,())) fun y=>some ((s,s_2,gA,o),y.1,()) else zC (oq ((s,s_2,(gH y.1),o),a,())) fun y_1=>some ((s,s_2,(gH y.1),o),y_1.1,()),zC (zf (gA,y.1,())) fun y=>if nei y.2.1 0=true then zC (kI (a.1,4,())) fun y=>some ((s,s_2,gA,o),y.1,()) else zC (oq ((s,s_2,(gH y.1),o),a,())) fun y_1=>some ((s,s_2,(gH y.1),o),y_1.1,())] else if eqi 288 a.2.1=true then zC (I8 (a.2.2.2.2.1,())) fun y=>if nei y.2.2.2.2.1 0=true then zC (kI (a.1,3,())) fun y=>some ((s,s_2,gA,o),y.1,()) else amb (au vC.rs) [zC (zh (gA,y.1,y.2.1,y.2.2.1,y.2.2.2.1,())) fun y=>if nei y.2.1 0=true then zC (kI (a.1,4,())) fun y=>some ((s,s_2,gA,o),y.1,()) else zC (oq ((s,s_2,(gH y.1),o),a,())) fun y_1=>some ((s,s_2,(gH y.1),o),y_1.1,()),zC (zh (gA,y.1,y.2.1,y.2.2.1,y.2.2.2.1,())) fun y=>if nei y.2.1 0=true then zC (kI (a.1,4,())) fun y=>some ((s,s_2,gA,o),y.1,()) else zC (oq ((s,s_2,(gH y.1),o),a,())) fun y_1=>some ((s,s_2,(gH y.1),o),y_1.1,())] else zC (kI (a.1,2,())) fun y=>some ((s,s_2,gA,o),y.1,())) (s_3,(s_4,s_5),s_6,s_7,s_8,(s_9,[s_10,s_11,s_12,s_13,s_14,s_15,s_16,s_17],[(s_18,s_19),(s_20,s_21),(s_22,s_23),(s_24,s_25),(s_26,s_27),(s_28,s_29),(s_30,s_31),(s_32,s_33)]),s_34)
def apr(j1:Int->List Bool->Int->Int->List Int->Int->Int->Int->Int->Int->Int->Bool->Bool->Bool->Bool->Bool->Bool->Bool->Bool->Int->List Int->Int->List Int->Int->List Int->Int->List Int->Int->List Int->Int->List Int->Int->List Int->Int->List Int->Int->Int->Int->Int->Int->Int->Int->Int->Int->Bool->Bool->Bool->Bool->Bool->Bool->Bool->Bool->Int->Int->Int->Int->Int->Int->Int->Int->Int->Int->Int->Int->Int->Int×Int×Int×Int×List Int×List Bool->Option (As dD))(s pdu:Int)(s_2:List Int)(pdu_2 v v_2 a except d:Int)(v_3 v_4 v_5 v_6 v_7 v_8 v_9 v_10:Bool)(v_11:Int)(v_12:List Int)(v_13:Int)(v_14:List Int)(v_15:Int)(v_16:List Int)(v_17:Int)(v_18:List Int)(v_19:Int)(v_20:List Int)(v_21:Int)(v_22:List Int)(v_23:Int)(v_24:List Int)(v_25:Int)(v_26:List Int)(v_27:Int)(v_28:List Int)(v_29:List Bool):Option (As dD) :=
 zC (Bt (v_28,())) fun y=>if eqi y.2.1 0=true then zC (vB ()) fun y_1=>zC (EJ (y_1.1,y.1,())) fun y_2=>j1 y_2.1 v_29 s pdu s_2 pdu_2 v v_2 a except d v_3 v_4 v_5 v_6 v_7 v_8 v_9 v_10 v_11 v_12 v_13 v_14 v_15 v_16 v_17 v_18 v_19 v_20 v_21 v_22 v_23 v_24 v_25 v_26 v_27 0 0 0 0 0 0 0 0 false false false false false false false false 0 0 0 0 0 0 0 0 0 0 0 0 0 y.1 else j1 y.2.1 v_29 s pdu s_2 pdu_2 v v_2 a except d v_3 v_4 v_5 v_6 v_7 v_8 v_9 v_10 v_11 v_12 v_13 v_14 v_15 v_16 v_17 v_18 v_19 v_20 v_21 v_22 v_23 v_24 v_25 v_26 v_27 0 0 0 0 0 0 0 0 false false false false false false false false 0 0 0 0 0 0 0 0 0 0 0 0 0 y.1
def alc:=apq
def aps(x:As bG):Option (As dD):=apr alc x.1 x.2.1 x.2.2.1 x.2.2.2.1 x.2.2.2.2.1 x.2.2.2.2.2.1 x.2.2.2.2.2.2.1 x.2.2.2.2.2.2.2.1 x.2.2.2.2.2.2.2.2.1 x.2.2.2.2.2.2.2.2.2.1 x.2.2.2.2.2.2.2.2.2.2.1 x.2.2.2.2.2.2.2.2.2.2.2.1 x.2.2.2.2.2.2.2.2.2.2.2.2.1 x.2.2.2.2.2.2.2.2.2.2.2.2.2.1 x.2.2.2.2.2.2.2.2.2.2.2.2.2.2.1 x.2.2.2.2.2.2.2.2.2.2.2.2.2.2.2.1 x.2.2.2.2.2.2.2.2.2.2.2.2.2.2.2.2.1 x.2.2.2.2.2.2.2.2.2.2.2.2.2.2.2.2.2.1 x.2.2.2.2.2.2.2.2.2.2.2.2.2.2.2.2.2.2.1 x.2.2.2.2.2.2.2.2.2.2.2.2.2.2.2.2.2.2.2.1 x.2.2.2.2.2.2.2.2.2.2.2.2.2.2.2.2.2.2.2.2.1 x.2.2.2.2.2.2.2.2.2.2.2.2.2.2.2.2.2.2.2.2.2.1 x.2.2.2.2.2.2.2.2.2.2.2.2.2.2.2.2.2.2.2.2.2.2.1 x.2.2.2.2.2.2.2.2.2.2.2.2.2.2.2.2.2.2.2.2.2.2.2.1 x.2.2.2.2.2.2.2.2.2.2.2.2.2.2.2.2.2.2.2.2.2.2.2.2.1 x.2.2.2.2.2.2.2.2.2.2.2.2.2.2.2.2.2.2.2.2.2.2.2.2.2.1 x.2.2.2.2.2.2.2.2.2.2.2.2.2.2.2.2.2.2.2.2.2.2.2.2.2.2.1 x.2.2.2.2.2.2.2.2.2.2.2.2.2.2.2.2.2.2.2.2.2.2.2.2.2.2.2.1 x.2.2.2.2.2.2.2.2.2.2.2.2.2.2.2.2.2.2.2.2.2.2.2.2.2.2.2.2.1 x.2.2.2.2.2.2.2.2.2.2.2.2.2.2.2.2.2.2.2.2.2.2.2.2.2.2.2.2.2.1 x.2.2.2.2.2.2.2.2.2.2.2.2.2.2.2.2.2.2.2.2.2.2.2.2.2.2.2.2.2.2.1 x.2.2.2.2.2.2.2.2.2.2.2.2.2.2.2.2.2.2.2.2.2.2.2.2.2.2.2.2.2.2.2.1 x.2.2.2.2.2.2.2.2.2.2.2.2.2.2.2.2.2.2.2.2.2.2.2.2.2.2.2.2.2.2.2.2.1 x.2.2.2.2.2.2.2.2.2.2.2.2.2.2.2.2.2.2.2.2.2.2.2.2.2.2.2.2.2.2.2.2.2.1 x.2.2.2.2.2.2.2.2.2.2.2.2.2.2.2.2.2.2.2.2.2.2.2.2.2.2.2.2.2.2.2.2.2.2.1 x.2.2.2.2.2.2.2.2.2.2.2.2.2.2.2.2.2.2.2.2.2.2.2.2.2.2.2.2.2.2.2.2.2.2.2.1
abbrev pDl:=zp ak9 ala 109 vC
theorem aAi{J a b c d e f g h i j k l m n o p q r t u v x y z aa ab ac ad ae af ag ah ba bb bc bd be bf bg bh ca cb cc cd ce cf cg ch da db dc dd de df dg dh ea eb ec ed ee ef eg eh fa fb}:pDl J 7 [] (alb a b c d e f g h i j k l m n o p q r t u v x y z aa ab ac ad ae af ag ah ba bb bc bd be bf bg bh ca cb cc cd ce cf cg ch da db dc dd de df dg dh ea eb ec ed ee ef eg eh fa fb)=apq a b c d e f g h i j k l m n o p q r t u v x y z aa ab ac ad ae af ag ah ba bb bc bd be bf bg bh ca cb cc cd ce cf cg ch da db dc dd de df dg dh ea eb ec ed ee ef eg eh fa fb:=by kernel_rfl
abbrev pDk:=zj ak9 ala 109 vC
theorem aAj:C (pDk 7 []) alb=alc:=gNC (by decide) fun _=>aAi
theorem aAk:ak Tryz.prog (fun _=>True) 109 ⟨vC,aps⟩:=zcc (env:=ak9) (d:=6) (hs:=Ev.get ala) (aj Ev.gq (aj Ev.gq (aj axY (aj ao1 (aj ao6 (aj WI (aj azc (aj azf (aj az4 (aj az9 (aj aAh av))))))))))) (fun J x=>apr (C (J 7 []) alb) x.1 x.2.1 x.2.2.1 x.2.2.2.1 x.2.2.2.2.1 x.2.2.2.2.2.1 x.2.2.2.2.2.2.1 x.2.2.2.2.2.2.2.1 x.2.2.2.2.2.2.2.2.1 x.2.2.2.2.2.2.2.2.2.1 x.2.2.2.2.2.2.2.2.2.2.1 x.2.2.2.2.2.2.2.2.2.2.2.1 x.2.2.2.2.2.2.2.2.2.2.2.2.1 x.2.2.2.2.2.2.2.2.2.2.2.2.2.1 x.2.2.2.2.2.2.2.2.2.2.2.2.2.2.1 x.2.2.2.2.2.2.2.2.2.2.2.2.2.2.2.1 x.2.2.2.2.2.2.2.2.2.2.2.2.2.2.2.2.1 x.2.2.2.2.2.2.2.2.2.2.2.2.2.2.2.2.2.1 x.2.2.2.2.2.2.2.2.2.2.2.2.2.2.2.2.2.2.1 x.2.2.2.2.2.2.2.2.2.2.2.2.2.2.2.2.2.2.2.1 x.2.2.2.2.2.2.2.2.2.2.2.2.2.2.2.2.2.2.2.2.1 x.2.2.2.2.2.2.2.2.2.2.2.2.2.2.2.2.2.2.2.2.2.1 x.2.2.2.2.2.2.2.2.2.2.2.2.2.2.2.2.2.2.2.2.2.2.1 x.2.2.2.2.2.2.2.2.2.2.2.2.2.2.2.2.2.2.2.2.2.2.2.1 x.2.2.2.2.2.2.2.2.2.2.2.2.2.2.2.2.2.2.2.2.2.2.2.2.1 x.2.2.2.2.2.2.2.2.2.2.2.2.2.2.2.2.2.2.2.2.2.2.2.2.2.1 x.2.2.2.2.2.2.2.2.2.2.2.2.2.2.2.2.2.2.2.2.2.2.2.2.2.2.1 x.2.2.2.2.2.2.2.2.2.2.2.2.2.2.2.2.2.2.2.2.2.2.2.2.2.2.2.1 x.2.2.2.2.2.2.2.2.2.2.2.2.2.2.2.2.2.2.2.2.2.2.2.2.2.2.2.2.1 x.2.2.2.2.2.2.2.2.2.2.2.2.2.2.2.2.2.2.2.2.2.2.2.2.2.2.2.2.2.1 x.2.2.2.2.2.2.2.2.2.2.2.2.2.2.2.2.2.2.2.2.2.2.2.2.2.2.2.2.2.2.1 x.2.2.2.2.2.2.2.2.2.2.2.2.2.2.2.2.2.2.2.2.2.2.2.2.2.2.2.2.2.2.2.1 x.2.2.2.2.2.2.2.2.2.2.2.2.2.2.2.2.2.2.2.2.2.2.2.2.2.2.2.2.2.2.2.2.1 x.2.2.2.2.2.2.2.2.2.2.2.2.2.2.2.2.2.2.2.2.2.2.2.2.2.2.2.2.2.2.2.2.2.1 x.2.2.2.2.2.2.2.2.2.2.2.2.2.2.2.2.2.2.2.2.2.2.2.2.2.2.2.2.2.2.2.2.2.2.1 x.2.2.2.2.2.2.2.2.2.2.2.2.2.2.2.2.2.2.2.2.2.2.2.2.2.2.2.2.2.2.2.2.2.2.2.1) (fun _ _=>by kernel_rfl) fun _=>by rw[aAj]<;>rfl
@[reducible] def aAl:Sh:=⟨[.d aP],[],aS,[.d aJ,.d (.int .i64)],[],0,aU⟩
def ald(r:Int×Int×List Bool×List Int×Int×Int):Option cU :=
 if nei r.2.1 0=true then zC (Er ((),r,())) fun y=>if y.1=true then zC (Ic ((),r,())) fun y=>some (y.1,0,()) else some ([],13,()) else if eqi r.1 1=true then zC (w9 ((),r,())) fun y=>if y.1=true then zC (Bl ((),r,())) fun y=>some (y.1,0,()) else some ([],13,()) else if eqi r.1 2=true then zC (w9 ((),r,())) fun y=>if y.1=true then zC (Bl ((),r,())) fun y=>some (y.1,0,()) else some ([],13,()) else if eqi r.1 3=true then zC (xV ((),r,())) fun y=>if y.1=true then zC (xq ((),r,())) fun y=>some (y.1,0,()) else some ([],13,()) else if eqi r.1 4=true then zC (xV ((),r,())) fun y=>if y.1=true then zC (xq ((),r,())) fun y=>some (y.1,0,()) else some ([],13,()) else if eqi r.1 23=true then zC (xV ((),r,())) fun y=>if y.1=true then zC (xq ((),r,())) fun y=>some (y.1,0,()) else some ([],13,()) else if eqi r.1 5=true then zC (Es ((),r,())) fun y=>if y.1=true then zC (Ii ((),r,())) fun y=>some (y.1,0,()) else some ([],13,()) else if eqi r.1 6=true then zC (Et ((),r,())) fun y=>if y.1=true then zC (Ij ((),r,())) fun y=>some (y.1,0,()) else some ([],13,()) else if eqi r.1 15=true then zC (xg (1968,r,())) fun y=>if y.1=true then zC (Bp (1968,r,())) fun y=>some (y.1,0,()) else some ([],13,()) else if eqi r.1 16=true then zC (xg (123,r,())) fun y=>if y.1=true then zC (Bp (123,r,())) fun y=>some (y.1,0,()) else some ([],13,()) else some ([],13,())
def PD(x:As aS):Option cU:=ald x.1
theorem aAm:ak Tryz.prog (fun _=>True) 110 ⟨aAl,PD⟩:=ctn (aj ahc (aj asJ (aj ahe (aj asM (aj ahg (aj asP (aj ahi (aj asR (aj ahk (aj asT (aj ahm (aj asW av)))))))))))) 6 fun J x=>by kernel_rfl
@[reducible] def bC:List Ty:=[.pr (.int .u8) aA,.sl (.int .u8)]
@[reducible] def ale:Sh:=⟨[.d bB,.d aJ],[],bC,[.d bB,.d aJ],[],0,bC⟩
def alf(s:oL)(pdu:List Int):Option (As bC) :=
 zC (XP (s,())) fun y=>zC (aps (y.1,y.2.1,y.2.2.1,y.2.2.2.1,y.2.2.2.2.1,y.2.2.2.2.2.1,y.2.2.2.2.2.2.1,y.2.2.2.2.2.2.2.1,y.2.2.2.2.2.2.2.2.1,y.2.2.2.2.2.2.2.2.2.1,y.2.2.2.2.2.2.2.2.2.2.1,y.2.2.2.2.2.2.2.2.2.2.2.1,y.2.2.2.2.2.2.2.2.2.2.2.2.1,y.2.2.2.2.2.2.2.2.2.2.2.2.2.1,y.2.2.2.2.2.2.2.2.2.2.2.2.2.2.1,y.2.2.2.2.2.2.2.2.2.2.2.2.2.2.2.1,y.2.2.2.2.2.2.2.2.2.2.2.2.2.2.2.2.1,y.2.2.2.2.2.2.2.2.2.2.2.2.2.2.2.2.2.1,y.2.2.2.2.2.2.2.2.2.2.2.2.2.2.2.2.2.2.1,y.2.2.2.2.2.2.2.2.2.2.2.2.2.2.2.2.2.2.2.1,y.2.2.2.2.2.2.2.2.2.2.2.2.2.2.2.2.2.2.2.2.1,y.2.2.2.2.2.2.2.2.2.2.2.2.2.2.2.2.2.2.2.2.2.1,y.2.2.2.2.2.2.2.2.2.2.2.2.2.2.2.2.2.2.2.2.2.2.1,y.2.2.2.2.2.2.2.2.2.2.2.2.2.2.2.2.2.2.2.2.2.2.2.1,y.2.2.2.2.2.2.2.2.2.2.2.2.2.2.2.2.2.2.2.2.2.2.2.2.1,y.2.2.2.2.2.2.2.2.2.2.2.2.2.2.2.2.2.2.2.2.2.2.2.2.2.1,y.2.2.2.2.2.2.2.2.2.2.2.2.2.2.2.2.2.2.2.2.2.2.2.2.2.2.1,y.2.2.2.2.2.2.2.2.2.2.2.2.2.2.2.2.2.2.2.2.2.2.2.2.2.2.2.1,y.2.2.2.2.2.2.2.2.2.2.2.2.2.2.2.2.2.2.2.2.2.2.2.2.2.2.2.2.1,y.2.2.2.2.2.2.2.2.2.2.2.2.2.2.2.2.2.2.2.2.2.2.2.2.2.2.2.2.2.1,y.2.2.2.2.2.2.2.2.2.2.2.2.2.2.2.2.2.2.2.2.2.2.2.2.2.2.2.2.2.2.1,y.2.2.2.2.2.2.2.2.2.2.2.2.2.2.2.2.2.2.2.2.2.2.2.2.2.2.2.2.2.2.2.1,y.2.2.2.2.2.2.2.2.2.2.2.2.2.2.2.2.2.2.2.2.2.2.2.2.2.2.2.2.2.2.2.2.1,y.2.2.2.2.2.2.2.2.2.2.2.2.2.2.2.2.2.2.2.2.2.2.2.2.2.2.2.2.2.2.2.2.2.1,pdu,y.2.2.2.2.2.2.2.2.2.2.2.2.2.2.2.2.2.2.2.2.2.2.2.2.2.2.2.2.2.2.2.2.2.2.1,())) fun y=>zC (PD (y.2.1,())) fun y_1=>some (y.1,y_1.1,())
def I9(x:As bC):Option (As bC):=alf x.1 x.2.1
theorem aAn:ak Tryz.prog (fun _=>True) 52 ⟨ale,I9⟩:=ctn (aj axI (aj aAk (aj aAm av))) 6 fun J x=>by kernel_rfl
@[reducible] def ZS:Sh:=⟨[.d bB,.d aJ],[],bC,[.d bB,.d aJ],[],0,bC⟩
def alg:Env:=(cts [(52,(⟨ale,I9⟩:Ct)),(98,(⟨OA,Ey⟩:Ct)),(99,(⟨XM,Ez⟩:Ct)),(100,(⟨U6,Ni⟩:Ct)),(101,(⟨XA,Io⟩:Ct)),(102,(⟨Vk,Nl⟩:Ct))])
def alh:List (Nat×Hint):=[(30,⟨[],[2,4,10,11,62]⟩),(106,⟨[],[2,4,6,31]⟩)]
def ali(s t4:Int)(t31:Bool)(s_2 t4_2:List (oL))(x:Int×Int×List Int):St:=⟨[(2,.prw 0 s 35 0),(4,.prw 1 t4 35 0),(6,.pb 2 0),(31,dB t31)],79,[],[(0,.row bB 45 s_2),(1,.row bB 45 t4_2),(2,.box 129 [d6 x.1,d8 x.2.1,dL x.2.2])],3,[],0⟩
def alj(s t4 unit:Int)(pdu:List Int)(t62:Bool)(s_2 t4_2:List (oL)):St:=⟨[(2,.prw 0 s 35 0),(4,.prw 1 t4 35 0),(10,d8 unit),(11,dL pdu),(62,dB t62)],79,[],[(0,.row bB 45 s_2),(1,.row bB 45 t4_2)],2,[],0⟩
def Ja(s t4:Int)(t31:Bool)(s_2 t4_2:List (oL))(x:Int×Int×List Int):Option (As bC) :=
 if t31=true then zC (at? s_2 s) fun y=>zC (Ez (y,())) fun y=>zC (at? t4_2 t4) fun x=>zC (at? (List.set t4_2 (zI t4) y.1) t4) fun y_1=>zC (at? (List.set t4_2 (zI t4) y.1) t4) fun y=>some (y,[],()) else zC (at? s_2 s) fun y=>zC (I9 (y,x.2.2,())) fun y=>zC (at? s_2 s) fun x_1=>zC (Ni ((x.1,x.2.1,y.2.1),())) fun y_1=>zC (at? (List.set s_2 (zI s) y.1) s) fun y=>zC (at? t4_2 t4) fun x=>zC (at? (List.set t4_2 (zI t4) y) t4) fun y_2=>zC (at? (List.set t4_2 (zI t4) y) t4) fun y=>some (y,y_1.1,())
def Jb(s t4 unit:Int)(pdu:List Int)(t62:Bool)(s_2 t4_2:List (oL)):Option (As bC) :=
 if t62=true then zC (at? s_2 s) fun y=>zC (Ez (y,())) fun y=>zC (at? t4_2 t4) fun x=>zC (at? (List.set t4_2 (zI t4) y.1) t4) fun y_1=>zC (at? (List.set t4_2 (zI t4) y.1) t4) fun y=>some (y,[],()) else zC (at? s_2 s) fun y=>zC (I9 (y,pdu,())) fun y=>zC (at? s_2 s) fun x=>zC (Nl (unit,y.2.1,())) fun y_1=>zC (at? (List.set s_2 (zI s) y.1) s) fun y=>zC (at? t4_2 t4) fun x=>zC (at? (List.set t4_2 (zI t4) y) t4) fun y_2=>zC (at? (List.set t4_2 (zI t4) y) t4) fun y=>some (y,y_1.1,())
def ZT(j1:Int->Int->Bool->List (oL)->List (oL)->Int×Int×List Int->Option (As bC))(j2:Int->Int->Int->List Int->Bool->List (oL)->List (oL)->Option (As bC))(s:oL)(frame:List Int):Option (As bC) :=
 if eqi s.2.1 2=true then zC (Ey (frame,())) fun y=>if nei y.2.1 0=true then j1 0 0 true [s] [zSl] y.1 else j1 0 0 (nei y.1.2.1 s.1) [s] [zSl] y.1 else zC (Io (frame,())) fun y=>if nei y.2.2.1 0=true then j2 0 0 y.1 y.2.1 true [s] [zSl] else j2 0 0 y.1 y.2.1 (nei y.1 s.1) [s] [zSl]
def Jc:=Ja
def PE:=Jb
def PG(x:As bC):Option (As bC):=ZT Jc PE x.1 x.2.1
abbrev pDf:=zp alg alh 48 ZS
theorem aAo{J a b c d e f}:pDf J 106 [] (ali a b c d e f)=Ja a b c d e f:=by kernel_rfl
theorem aAp{J a b c d e f g}:pDf J 30 [] (alj a b c d e f g)=Jb a b c d e f g:=by kernel_rfl
abbrev pDe:=zj alg alh 48 ZS
theorem aAq:C (pDe 106 []) ali=Jc:=gNC (by decide) fun _=>aAo
theorem aAr:C (pDe 30 []) alj=PE:=gNC (by decide) fun _=>aAp
theorem aAs:ak Tryz.prog (fun _=>True) 48 ⟨ZS,PG⟩:=zcc (env:=alg) (d:=6) (hs:=Ev.get alh) (aj aAn (aj aoN (aj aiw (aj anX (aj aoP (aj an7 av)))))) (fun J x=>ZT (C (J 106 []) ali) (C (J 30 []) alj) x.1 x.2.1) (fun _ _=>by kernel_rfl) fun _=>by rw[aAq,aAr]<;>rfl
@[reducible] def eP:List Ty:=[.pr .bool aJ,.pr aC mR,.pr (.int .u8) aA,.int .u32,.int .u32,.sl (.sl bq),.sl gX]
@[reducible] def EO:Sh:=⟨[.pb 0 0,.d gX],[(prG 1),.que gX 63],eP,[],[(0,(prG 2)),(2,.que gX 63)],1,aL⟩
def alk:Env:=(cts [(1000048,Ev.gU),(9000046,Ev.gU),(9999999,Ev.gU),(20,(⟨G7,A8⟩:Ct)),(46,(⟨XL,xw⟩:Ct)),(48,(⟨ZS,PG⟩:Ct))])
def alm:List (Nat×Hint):=[(7,⟨[],[0,6,7,45,46,47,48,49,50]⟩),(31,⟨[],[0,7,51]⟩),(26,⟨[],[0,4,5]⟩)]
@[reducible] def zJ6:Type:=List (Bool×List Int)
def aln(b:List Int)(p:(lW)×(oL)×Unit×Int×Int×List aG)(o:zJ6)(t:lW):St:=⟨[(0,.pb 0 0),(4,.pb 2 0),(5,dL b)],63,[],[(0,.box 48 (fJ p.1 (slC p.2.1 [.row 1,d2 p.2.2.2.1,d2 p.2.2.2.2.1,.d cC p.2.2.2.2.2]))),(1,.que gX 63 o),(2,.box 33 (fJ t []))],3,[],2⟩
def alo(s:Int)(b:List Int)(p:(lW)×(oL)×Unit×Int×Int×List aG)(o:zJ6)(s_2:List (oL)):St:=⟨[(0,.pb 0 0),(6,.prw 2 s 35 0),(7,dL b)],63,[],[(0,.box 48 (fJ p.1 (slC p.2.1 [.row 1,d2 p.2.2.2.1,d2 p.2.2.2.2.1,.d cC p.2.2.2.2.2]))),(1,.que gX 63 o),(2,.row bB 45 s_2)],3,[],2⟩
def alp(b:List Int)(t51:Bool)(p:(lW)×(oL)×Unit×Int×Int×List aG)(o:zJ6):St:=⟨[(0,.pb 0 0),(7,dL b),(51,dB t51)],63,[],[(0,.box 48 (fJ p.1 (slC p.2.1 [.row 1,d2 p.2.2.2.1,d2 p.2.2.2.2.1,.d cC p.2.2.2.2.2]))),(1,.que gX 63 o)],2,[],2⟩
def ZU(b:List Int)(p:(lW)×(oL)×Unit×Int×Int×List aG)(o:zJ6)(t:lW):Option eU :=
 zC (A8 (b,t,(iE p.2.1),p.2.2.2.1,p.2.2.2.2.1,p.2.2.2.2.2,o,())) fun y=>some (y.1,(iE y.2.1),y.2.2.1,y.2.2.2.1,y.2.2.2.2.1,y.2.2.2.2.2.1,())
def ZV(j3:List Int->Bool->(lW)×(oL)×Unit×Int×Int×List aG->List (Bool×List Int)->Option eU)(s:Int)(b:List Int)(p:(lW)×(oL)×Unit×Int×Int×List aG)(o:zJ6)(s_2:List (oL)):Option eU :=
 zC (at? s_2 s) fun y=>if gt (zF (zG b)) 0=true then j3 b (lt (zF (zG o)) 12) (p.1,y,p.2.2) o else j3 b false (p.1,y,p.2.2) o
def Jd(b:List Int)(t51:Bool)(p:(lW)×(oL)×Unit×Int×Int×List aG)(o:zJ6):Option eU :=
 if t51=true then need (small (zG o+Nat.succ 0)) (some (p.1,(iE p.2.1),p.2.2.2.1,p.2.2.2.2.1,p.2.2.2.2.2,o++[(true,b)],())) else some (p.1,(iE p.2.1),p.2.2.2.1,p.2.2.2.2.1,p.2.2.2.2.2,o,())
def ZW(j1:List Int->(lW)×(oL)×Unit×Int×Int×List aG->List (Bool×List Int)->lW->Option eU)(j2:Int->List Int->(lW)×(oL)×Unit×Int×Int×List aG->List (Bool×List Int)->List (oL)->Option eU)(p:Bool×List Int)(m:lW)(p_2:oL)(m_2 t:Int)(b:List aG)(s:zJ6):Option eU :=
 if p.1=true then amb (au EO.rs) [zC (xw (m,p.2,())) fun y=>j1 y.2.1 (m,p_2,(),m_2,t,b) s y.1,zC (xw (m,p.2,())) fun y=>j1 y.2.1 (m,p_2,(),m_2,t,b) s y.1] else amb (au EO.rs) [zC (PG ((iE p_2),p.2,())) fun y=>j2 0 y.2.1 (m,p_2,(),m_2,t,b) s [y.1],zC (PG ((iE p_2),p.2,())) fun y=>j2 0 y.2.1 (m,p_2,(),m_2,t,b) s [y.1]]
def ZX:=ZU
def BN:=Jd
def ZY:=ZV (BN)
def BP(x:As eP):Option eU:=ZW ZX ZY x.1 x.2.1 x.2.2.1 x.2.2.2.1 x.2.2.2.2.1 x.2.2.2.2.2.1 x.2.2.2.2.2.2.1
abbrev pBj:=zp alk alm 16 EO
theorem aAt{J a b c d}:pBj J 26 [] (aln a b c d)=ZU a b c d:=by kernel_rfl
theorem aAu{J a b c d}:pBj J 31 [] (alp a b c d)=Jd a b c d:=by kernel_rfl
theorem aAv{J a b c d e}:pBj J 7 [] (alo a b c d e)=ZV (C (J 31 []) alp) a b c d e:=by kernel_rfl
abbrev pBi:=zj alk alm 16 EO
theorem aAw:C (pBi 26 []) aln=ZX:=gNC (by decide) fun _=>aAt
theorem aAx:C (pBi 31 []) alp=BN:=gNC (by decide) fun _=>aAu
theorem aAy:C (pBi 7 []) alo=ZY:=gNC (by decide) fun _=>aAv.trans (by rw[aAx]<;>kernel_rfl)
theorem atd:ak Tryz.prog (fun _=>True) 16 ⟨EO,BP⟩:=zcc (env:=alk) (d:=6) (hs:=Ev.get alm) (aj Ev.gq (aj Ev.gq (aj Ev.gq (aj aeC (aj aoQ (aj aAs av)))))) (fun J x=>ZW (C (J 26 []) aln) (C (J 7 []) alo) x.1 x.2.1 x.2.2.1 x.2.2.2.1 x.2.2.2.2.1 x.2.2.2.2.2.1 x.2.2.2.2.2.2.1) (fun _ _=>by kernel_rfl) fun _=>by rw[aAw,aAy]<;>rfl
@[reducible] def fB:List Ty:=[.pr (.int .u8) rG,.sl (.int .u8),.bool]
@[reducible] def aAz:Sh:=⟨[.d aC],[],cA,[.d aC,.d aJ,.d (.bool)],[],0,fB⟩
def alq(p:Int×Int×Int×Int×Bool×vY×Int×Int×Int):Option (As fB) :=
 zC (yY (p,())) fun y=>if (!y.1.2.2.2.2.1)=true then some (y.1,[],false,()) else if nei (Sx.sub .i64 y.1.2.2.2.2.2.2.2.1 1) 0=true then some ((y.1.1,y.1.2.1,y.1.2.2.1,y.1.2.2.2.1,y.1.2.2.2.2.1,y.1.2.2.2.2.2.1,y.1.2.2.2.2.2.2.1,Sx.sub .i64 y.1.2.2.2.2.2.2.2.1 1,y.1.2.2.2.2.2.2.2.2),[],false,()) else if gt y.1.2.2.2.2.2.2.2.2 0=true then zC (KQ ((y.1.1,y.1.2.1,y.1.2.2.1,y.1.2.2.2.1,y.1.2.2.2.2.1,y.1.2.2.2.2.2.1,y.1.2.2.2.2.2.2.1,Sx.sub .i64 y.1.2.2.2.2.2.2.2.1 1,Sx.sub .i64 y.1.2.2.2.2.2.2.2.2 1),())) fun y=>some (y.1,y.2.1,false,()) else zC (Bf ((y.1.1,y.1.2.1,y.1.2.2.1,y.1.2.2.2.1,y.1.2.2.2.2.1,y.1.2.2.2.2.2.1,y.1.2.2.2.2.2.2.1,Sx.sub .i64 y.1.2.2.2.2.2.2.2.1 1,y.1.2.2.2.2.2.2.2.2),())) fun y=>some (y.1,[],true,())
def ZZ(x:As cA):Option (As fB):=alq x.1
theorem aAA:ak Tryz.prog (fun _=>True) 55 ⟨aAz,ZZ⟩:=ctn (aj VK (aj UT (aj an8 av))) 6 fun J x=>by kernel_rfl
@[reducible] def Z0:Sh:=⟨[.d aX],[],aN,[.d aX,.d aJ],[],0,bN⟩
def alr(t:lW):Option (As bN) :=
 zC (Ed (t,())) fun y=>zC (ZZ (y.1.1,())) fun y_1=>if (!y_1.2.2.1)=true then some ((y_1.1,y.1.2),y_1.2.1,()) else if eqi y.1.2.2.2.2.1 1=true then zC (mU ((y_1.1,y.1.2),2,())) fun y=>some (y.1,[],()) else zC (y5 ((y_1.1,y.1.2),())) fun y=>some (y.1,y.2.1,())
def Je(x:As aN):Option (As bN):=alr x.1
theorem apt:ak Tryz.prog (fun _=>True) 19 ⟨Z0,Je⟩:=ctn (aj UL (aj aAA (aj yZ (aj agK av)))) 6 fun J x=>by kernel_rfl
end Go.Proofs.Lx
end
noncomputable section
open Go Go.Proofs Ev Sx
set_option maxRecDepth 100000
namespace Go.Proofs.Lx
abbrev fT:Type:=M5×Int×Int×List (Int×List Int)×Int×Int×Int×Int×Int
abbrev iO:Type:=Int×Int×jN×List Bool
@[reducible] def EP:Sh:=⟨[],[],[],[.d (.bool)],[],0,[.bool]⟩
def als:Env:=(cts [(1000048,Ev.gU),(9000046,Ev.gU),(9999999,Ev.gU),(9,(⟨M8,G6⟩:Ct)),(10,(⟨Bh,H8⟩:Ct)),(16,(⟨EO,BP⟩:Ct)),(19,(⟨Z0,Je⟩:Ct)),(25,(⟨N5,sV⟩:Ct)),(46,(⟨XL,xw⟩:Ct)),(47,(⟨Vi,Bc⟩:Ct))])
def alu:List (Nat×Hint):=[(31,⟨[],[1,3,51,52,53,54,57,58,59,60,61,81,82,94,95,96,99,100,101,104,105,106,109,110]⟩),(255,⟨[],[5,6,7,8,81,82,94,95,96,99,100,101,104,105,106,109,110]⟩),(1023,⟨[],[5,6,7,8,10,94,95,96,99,100,101,104,105,106,109,110]⟩),(4092,⟨[],[5,6,7,8,10,81,82,94,95,96,99,100,101,104,105,106,109,110]⟩),(16368,⟨[.agd 81 (.int .i64),.agd 82 .bool],[5,6,7,8,10,83]⟩),(126,⟨[],[1,62,81,82,94,95,96,99,100,101,104,105,106,109,110]⟩),(124,⟨[],[1,3,30,31,51,52,53,54,57,58,59,60,61,81,82,94,95,96,99,100,101,104,105,106,109,110]⟩),(496,⟨[.agd 30 (.int .i64),.agd 31 .bool],[1,3,32]⟩),(14,⟨[],[1,24,30,31,51,52,53,54,57,58,59,60,61,81,82,94,95,96,99,100,101,104,105,106,109,110]⟩)]
def alv(t24:Bool)(p:(fT)×(iO)×Unit×Int×Int×List aG)(o:zJ6):St:=⟨[(1,.pb 0 0),(24,dB t24)],112,[],[(0,.box 48 (fJ p.1 (slC p.2.1 [.row 1,d2 p.2.2.2.1,d2 p.2.2.2.2.1,.d cC p.2.2.2.2.2]))),(1,.que gX 63 o)],2,[],0⟩
def Jf(frames:Int)(p:(fT)×(iO)×Unit×Int×Int×List aG)(o:zJ6):St:=⟨[(1,.pb 0 0),(3,dI frames)],112,[],[(0,.box 48 (fJ p.1 (slC p.2.1 [.row 1,d2 p.2.2.2.1,d2 p.2.2.2.2.1,.d cC p.2.2.2.2.2]))),(1,.que gX 63 o)],2,[],0⟩
def alx(frames:Int)(t32:Bool)(p:(fT)×(iO)×Unit×Int×Int×List aG)(o:zJ6):St:=⟨[(1,.pb 0 0),(3,dI frames),(32,dB t32)],112,[],[(0,.box 48 (fJ p.1 (slC p.2.1 [.row 1,d2 p.2.2.2.1,d2 p.2.2.2.2.1,.d cC p.2.2.2.2.2]))),(1,.que gX 63 o)],2,[],0⟩
def aly(frames:Int)(p:(fT)×(iO)×Unit×Int×Int×List aG)(o:zJ6):St:=⟨[(1,.pb 0 0),(3,dI frames)],112,[],[(0,.box 48 (fJ p.1 (slC p.2.1 [.row 1,d2 p.2.2.2.1,d2 p.2.2.2.2.1,.d cC p.2.2.2.2.2]))),(1,.que gX 63 o)],2,[],0⟩
def alz(t62:Bool)(p:(fT)×(iO)×Unit×Int×Int×List aG)(o:zJ6):St:=⟨[(1,.pb 0 0),(62,dB t62)],112,[],[(0,.box 48 (fJ p.1 (slC p.2.1 [.row 1,d2 p.2.2.2.1,d2 p.2.2.2.2.1,.d cC p.2.2.2.2.2]))),(1,.que gX 63 o)],2,[],0⟩
def alA(b:List Int)(e:Int)(t u:fT):St:=⟨[(5,.pb 0 0),(6,dL b),(7,dI e),(8,.pb 1 0)],112,[],[(0,.box 33 (fJ t [])),(1,.box 33 (fJ u []))],2,[],0⟩
def Jg(b:List Int)(e ticks:Int)(t u:fT):St:=⟨[(5,.pb 0 0),(6,dL b),(7,dI e),(8,.pb 1 0),(10,dI ticks)],112,[],[(0,.box 33 (fJ t [])),(1,.box 33 (fJ u []))],2,[],0⟩
def alB(b:List Int)(e ticks:Int)(t83:Bool)(t u:fT):St:=⟨[(5,.pb 0 0),(6,dL b),(7,dI e),(8,.pb 1 0),(10,dI ticks),(83,dB t83)],112,[],[(0,.box 33 (fJ t [])),(1,.box 33 (fJ u []))],2,[],0⟩
def alC(b:List Int)(e ticks:Int)(t u:fT):St:=⟨[(5,.pb 0 0),(6,dL b),(7,dI e),(8,.pb 1 0),(10,dI ticks)],112,[],[(0,.box 33 (fJ t [])),(1,.box 33 (fJ u []))],2,[],0⟩
def apu(j2:Int->(fT)×(iO)×Unit×Int×Int×List aG->List (Bool×List Int)->Option aE)(t24:Bool)(p:(fT)×(iO)×Unit×Int×Int×List aG)(o:zJ6):Option aE :=
 if t24=true then some (false,()) else j2 0 p o
def apv(j3:Int->Bool->(fT)×(iO)×Unit×Int×Int×List aG->List (Bool×List Int)->Option aE)(self2:Int->(fT)×(iO)×Unit×Int×Int×List aG->List (Bool×List Int)->Option aE)(frames:Int)(p:(fT)×(iO)×Unit×Int×Int×List aG)(o:zJ6):Option aE :=
 if gt (zF (zG o)) 0=true then j3 frames (lt frames 50) p o else j3 frames false p o
def apw(j4 self2:Int->(fT)×(iO)×Unit×Int×Int×List aG->List (Bool×List Int)->Option aE)(frames:Int)(t32:Bool)(p:(fT)×(iO)×Unit×Int×Int×List aG)(o:zJ6):Option aE :=
 if t32=true then zC (at? o 0) fun x=>zC (at? o 0) fun y=>need (le 1 (zF (zG o))) (need (le (zF (zG o)) (zF (zG o))) (need (lt 0 (zF (zG o))) (if (!y.1)=true then zC (BP (y,p.1,(iE p.2.1),p.2.2.2.1,p.2.2.2.2.1,p.2.2.2.2.2,List.take (zI (zF (zG o) - 1)) (List.drop 1 o),())) fun y=>self2 (add .i64 frames 1) (y.1,y.2.1,(),y.2.2.1,y.2.2.2.1,y.2.2.2.2.1) y.2.2.2.2.2.1 else zC (BP (y,p.1,(iE p.2.1),p.2.2.2.1,p.2.2.2.2.1,p.2.2.2.2.2,List.take (zI (zF (zG o) - 1)) (List.drop 1 o),())) fun y=>self2 frames (y.1,y.2.1,(),y.2.2.1,y.2.2.2.1,y.2.2.2.2.1) y.2.2.2.2.2.1))) else j4 frames p o
def apx(j5:Bool->(fT)×(iO)×Unit×Int×Int×List aG->List (Bool×List Int)->Option aE)(frames:Int)(p:(fT)×(iO)×Unit×Int×Int×List aG)(o:zJ6):Option aE :=
 if nei frames 4=true then j5 true p o else if nei p.1.2.2.2.2.2.2.2.2 1=true then j5 true p o else j5 (nei p.2.1.2.2.1.2.2.1 2) p o
def apy(j6:List Int->Int->fT->fT->Option aE)(t62:Bool)(p:(fT)×(iO)×Unit×Int×Int×List aG)(o:zJ6):Option aE :=
 if t62=true then some (false,()) else zC (sV (p.1,1,9,[],())) fun y=>amb (au EP.rs) [amb (au EP.rs) [zC (Bc ([9,151,4],())) fun y_1=>amb (au EP.rs) [zC (xw (y.1,y_1.1,())) fun y_2=>j6 y.2.1 y.2.2.1 y.1 y_2.1,zC (xw (y.1,y_1.1,())) fun y_2=>j6 y.2.1 y.2.2.1 y.1 y_2.1],zC (Bc ([9,151,4],())) fun y_1=>zC (xw (y.1,y_1.1,())) fun y_2=>j6 y.2.1 y.2.2.1 y.1 y_2.1],zC (Bc ([9,151,4],())) fun y_1=>zC (xw (y.1,y_1.1,())) fun y_2=>j6 y.2.1 y.2.2.1 y.1 y_2.1]
def apz(j7:List Int->Int->Int->fT->fT->Option aE)(b:List Int)(e:Int)(t u:fT):Option aE :=
 j7 b e 0 t u
def apA(j8:List Int->Int->Int->Bool->fT->fT->Option aE)(self7:List Int->Int->Int->fT->fT->Option aE)(b:List Int)(e ticks:Int)(t u:fT):Option aE :=
 if eqi t.2.2.2.2.2.2.2.2 0=true then j8 b e ticks (lt ticks 50) t u else j8 b e ticks false t u
def apB(j9 self7:List Int->Int->Int->fT->fT->Option aE)(b:List Int)(e ticks:Int)(t83:Bool)(t u:fT):Option aE :=
 if t83=true then zC (Je (t,())) fun y=>self7 b e (add .i64 ticks 1) y.1 u else j9 b e ticks t u
def apC(b:List Int)(e ticks:Int)(t u:fT):Option aE :=
 if eqi e 0=true then if gt (zF (zG b)) 0=true then if eqi u.2.2.2.2.2.2.2.2 2=true then if eqi t.2.2.2.2.2.2.2.2 2=true then some (eqi ticks 4,()) else some (false,()) else some (false,()) else some (false,()) else some (false,())
def apD(j1:Bool->(fT)×(iO)×Unit×Int×Int×List aG->List (Bool×List Int)->Option aE):Option aE :=
 zC (G6 (0,1,1,[],[[(5,[9])]],())) fun y=>if (!y.2.2.2.2.2.1)=true then j1 true (y.1,y.2.1,(),y.2.2.1,y.2.2.2.1,y.2.2.2.2.1) y.2.2.2.2.2.2.1 else zC (H8 (false,y.1,(iE y.2.1),y.2.2.1,y.2.2.2.1,y.2.2.2.2.1,y.2.2.2.2.2.2.1,())) fun y=>j1 (!y.1) (y.2.1,y.2.2.1,(),y.2.2.2.1,y.2.2.2.2.1,y.2.2.2.2.2.1) y.2.2.2.2.2.2.1
def apE:=apC
def apF(u7:List Int->Int->Int->fT->fT->Option aE):=apB (apE) u7
def alD(b:List Int)(e ticks:Int)(t u:fT):Option aE :=
 cu (fun self s=>apA (apF (fun b e ticks t u=>self (b,e,ticks,t,u))) (fun b e ticks t u=>self (b,e,ticks,t,u)) s.1 s.2.1 s.2.2.1 s.2.2.2.1 s.2.2.2.2) 18446744073709551616 (b,e,ticks,t,u)
def apG:=apz (alD)
def apH:=apy (apG)
def apI:=apx (apH)
def apJ(u2:Int->(fT)×(iO)×Unit×Int×Int×List aG->List (Bool×List Int)->Option aE):=apw (apI) u2
def alE(frames:Int)(p:(fT)×(iO)×Unit×Int×Int×List aG)(o:zJ6):Option aE :=
 cu (fun self s=>apv (apJ (fun frames p o=>self (frames,p,o))) (fun frames p o=>self (frames,p,o)) s.1 s.2.1 s.2.2) 18446744073709551616 (frames,p,o)
def apK:=apu (alE)
def Z4(x:As []):Option aE:=apD apK
abbrev pBp:=zp als alu 15 EP
theorem aAB{J a b c d e}:pBp J 1023 [] (alC a b c d e)=apC a b c d e:=by kernel_rfl
theorem aAC{J w7 a b c d e f}:pBp J 16368 [w7] (alB a b c d e f)=apB (C (J 1023 []) alC) (C w7 Jg) a b c d e f:=by kernel_rfl
theorem aAD{J w7 a b c d e}:pBp J 4092 [w7] (Jg a b c d e)=apA (C (J 16368 [w7]) alB) (C w7 Jg) a b c d e:=by kernel_rfl
theorem aAE{J a b c d}:pBp J 255 [] (alA a b c d)=apz (C (J 4092 []) Jg) a b c d:=by kernel_rfl
theorem aAF{J a b c}:pBp J 126 [] (alz a b c)=apy (C (J 255 []) alA) a b c:=by kernel_rfl
theorem aAG{J a b c}:pBp J 31 [] (aly a b c)=apx (C (J 126 []) alz) a b c:=by kernel_rfl
theorem aAH{J w2 a b c d}:pBp J 496 [w2] (alx a b c d)=apw (C (J 31 []) aly) (C w2 Jf) a b c d:=by kernel_rfl
theorem aAI{J w2 a b c}:pBp J 124 [w2] (Jf a b c)=apv (C (J 496 [w2]) alx) (C w2 Jf) a b c:=by kernel_rfl
theorem aAJ{J a b c}:pBp J 14 [] (alv a b c)=apu (C (J 124 []) Jf) a b c:=by kernel_rfl
abbrev pBo:=zj als alu 15 EP
theorem aAK:C (pBo 1023 []) alC=apE:=gNC (by decide) fun _=>aAB
theorem aAL{w7}:C (pBo 16368 [w7]) alB=apF (C w7 Jg):=gNC (by decide) fun _=>aAC.trans (by rw[aAK]<;>kernel_rfl)
theorem aAM:C (pBo 4092 []) Jg=alD:=gLC (by decide) (by kernel_rfl) (fun _=>by unfold alD;rfl) fun _ _=>aAD.trans (by rw[aAL]<;>kernel_rfl)
theorem aAN:C (pBo 255 []) alA=apG:=gNC (by decide) fun _=>aAE.trans (by rw[aAM]<;>kernel_rfl)
theorem aAO:C (pBo 126 []) alz=apH:=gNC (by decide) fun _=>aAF.trans (by rw[aAN]<;>kernel_rfl)
theorem aAP:C (pBo 31 []) aly=apI:=gNC (by decide) fun _=>aAG.trans (by rw[aAO]<;>kernel_rfl)
theorem aAQ{w2}:C (pBo 496 [w2]) alx=apJ (C w2 Jf):=gNC (by decide) fun _=>aAH.trans (by rw[aAP]<;>kernel_rfl)
theorem aAR:C (pBo 124 []) Jf=alE:=gLC (by decide) (by kernel_rfl) (fun _=>by unfold alE;rfl) fun _ _=>aAI.trans (by rw[aAQ]<;>kernel_rfl)
theorem aAS:C (pBo 14 []) alv=apK:=gNC (by decide) fun _=>aAJ.trans (by rw[aAR]<;>kernel_rfl)
theorem aAT:ak Tryz.prog (fun _=>True) 15 ⟨EP,Z4⟩:=zcc (env:=als) (d:=6) (hs:=Ev.get alu) (aj Ev.gq (aj Ev.gq (aj Ev.gq (aj anI (aj asA (aj atd (aj apt (aj aoB (aj aoQ (aj an5 av)))))))))) (fun J x=>apD (C (J 14 []) alv)) (fun _ _=>by kernel_rfl) fun _=>by rw[aAS]<;>rfl
def aAU(j2:(fT)×(iO)×Unit×Int×Int×List aG->List (Bool×List Int)->Option cT)(self1:Int->Int->(fT)×(iO)×Unit×Int×Int×List aG->List (Bool×List Int)->Option cT)(t6 t7:Int)(p:(fT)×(iO)×Unit×Int×Int×List aG)(o:zJ6):Option cT :=
 if lt t7 t6=true then if eqi (zF (zG o)) 0=true then some (true,p.1,(iE p.2.1),p.2.2.2.1,p.2.2.2.2.1,p.2.2.2.2.2,o,()) else zC (at? o 0) fun x=>zC (at? o 0) fun y=>need (le 1 (zF (zG o))) (need (le (zF (zG o)) (zF (zG o))) (need (lt 0 (zF (zG o))) (zC (BP (y,p.1,(iE p.2.1),p.2.2.2.1,p.2.2.2.2.1,p.2.2.2.2.2,List.take (zI (zF (zG o) - 1)) (List.drop 1 o),())) fun y=>self1 t6 (add .i64 t7 1) (y.1,y.2.1,(),y.2.2.1,y.2.2.2.1,y.2.2.2.2.1) y.2.2.2.2.2.1))) else j2 p o
def aAV(p:(fT)×(iO)×Unit×Int×Int×List aG)(o:zJ6):Option cT :=
 some (eqi (zF (zG o)) 0,p.1,(iE p.2.1),p.2.2.2.1,p.2.2.2.2.1,p.2.2.2.2.2,o,())
def aAW(j1:Int->Int->(fT)×(iO)×Unit×Int×Int×List aG->List (Bool×List Int)->Option cT)(p:Int)(most:fT)(p_2:iO)(most_2 v:Int)(m:List aG)(v_2:zJ6):Option cT :=
 j1 p 0 (most,p_2,(),most_2,v,m) v_2
def aAX:=aAV
def aAY(t6 t7:Int)(p:(fT)×(iO)×Unit×Int×Int×List aG)(o:zJ6):Option cT :=
 cu (fun self s=>aAU (aAX) (fun t6 t7 p o=>self (t6,t7,p,o)) s.1 s.2.1 s.2.2.1 s.2.2.2) 18446744073709551616 (t6,t7,p,o)
def aEo(x:As [.int .i64,.pr aC mR,.pr (.int .u8) aA,.int .u32,.int .u32,.sl (.sl bq),.sl gX]):Option cT:=aAW aAY x.1 x.2.1 x.2.2.1 x.2.2.2.1 x.2.2.2.2.1 x.2.2.2.2.2.1 x.2.2.2.2.2.2.1
def aAZ(j2:Int->Int×List Int->Option aE)(t17:Bool)(x:Int×List Int):Option aE :=
 if t17=true then some (false,()) else j2 0 x
def aA0(self2:Int->Int×List Int->Option aE)(i:Int)(x:Int×List Int):Option aE :=
 if lt i (zF (zG x.2))=true then if gt (add .i64 x.1 i) 63=true then some (false,()) else self2 (add .i64 i 1) x else some (true,())
def aA1(j1:Bool->Int×List Int->Option aE)(x:Int×List Int):Option aE :=
 if gt (zF (zG x.2)) 14=true then j1 true x else if lt x.1 0=true then j1 true x else j1 (gt x.1 63) x
def aA2(i:Int)(x:Int×List Int):Option aE :=
 cu (fun self s=>aA0 (fun i x=>self (i,x)) s.1 s.2) 18446744073709551616 (i,x)
def aA3:=aAZ (aA2)
def aA4(x:As cB):Option aE:=aA1 aA3 x.1
@[reducible] def zJ7:Type:=Int->Int×List Int->List Int->Option bM
def aA5(self1:zJ7)(i:Int)(x:Int×List Int)(out:List Int):Option bM :=
 if lt i (zF (zG x.2))=true then zC (at? x.2 i) fun y=>zC (at? out (add .i64 2 i)) fun x_1=>zC (at? out (add .i64 2 i)) fun x_2=>self1 (add .i64 i 1) x (List.set out (zI (add .i64 2 i)) y) else some (out,())
def aA6(j1:zJ7)(x:Int×List Int):Option bM :=
 zC (aA4 (x,())) fun y=>if (!y.1)=true then some ([0,0,0,0,0,0,0,0,0,0,0,0,0,0,0,0],()) else j1 0 x [cvt .u16 x.1,cvt .u16 (zF (zG x.2)),0,0,0,0,0,0,0,0,0,0,0,0,0,0]
def aA7(i:Int)(x:Int×List Int)(out:List Int):Option bM :=
 cu (fun self s=>aA5 (fun i x out=>self (i,x,out)) s.1 s.2.1 s.2.2) 18446744073709551616 (i,x,out)
def aA8(x:As cB):Option bM:=aA6 aA7 x.1
@[reducible] def zJ8:Type:=Int->Int->Option aQ
def aA9(j2 self1:zJ8)(sum i:Int):Option aQ :=
 if lt i 8=true then if eqi (rem sum 2) 1=true then j2 (Sx.iI .u32 (quo .u32 sum 2) 3988292384) i else j2 (quo .u32 sum 2) i else some (sum,())
def aBa(self1:zJ8)(sum i:Int):Option aQ :=
 self1 sum (add .i64 i 1)
def aBb(j1:zJ8)(sum b:Int):Option aQ :=
 j1 (Sx.iI .u32 sum (cvt .u32 b)) 0
def aBc(u1:zJ8):=aBa u1
def aBd(sum i:Int):Option aQ :=
 cu (fun self s=>aA9 (aBc (fun sum i=>self (sum,i))) (fun sum i=>self (sum,i)) s.1 s.2) 18446744073709551616 (sum,i)
def aBe(x:As [.int .u32,.int .u8]):Option aQ:=aBb aBd x.1 x.2.1
def aBf(self1:Int->List Int->Int->Option aQ)(sum:Int)(b:List Int)(i:Int):Option aQ :=
 if lt i (zF (zG b))=true then zC (at? b i) fun y=>zC (aBe (sum,y,())) fun y=>self1 y.1 b (add .i64 i 1) else some (sum,())
def aBg(j1:Int->List Int->Int->Option aQ)(sum:Int)(b:List Int):Option aQ :=
 j1 sum b 0
def aBh(sum:Int)(b:List Int)(i:Int):Option aQ :=
 cu (fun self s=>aBf (fun sum b i=>self (sum,b,i)) s.1 s.2.1 s.2.2) 18446744073709551616 (sum,b,i)
def aBi(x:As [.int .u32,.sl (.int .u8)]):Option aQ:=aBg aBh x.1 x.2.1
def aBj(b:List Int):Option aQ :=
 zC (aBi (4294967295,b,())) fun y=>some (Sx.iI .u32 y.1 4294967295,())
def aBk(x:As aI):Option aQ:=aBj x.1
def aBl(j2:List Int->Option aQ)(self1:List Int->Int->List Int->Option aQ)(l:List Int)(i:Int)(b:List Int):Option aQ :=
 if lt i (zF (zG l))=true then zC (at? l i) fun y=>zC (at? l i) fun y_1=>need (small (zG b+Nat.succ (Nat.succ 0))) (self1 l (add .i64 i 1) (b++[cvt .u8 (quo .u16 y 256),cvt .u8 (rem y_1 256)])) else j2 b
def aBm(b:List Int):Option aQ :=
 zC (aBk (b,())) fun y=>some (y.1,())
def aBn(j1:List Int->Int->List Int->Option aQ)(l:List Int):Option aQ :=
 j1 l 0 []
def aBo:=aBm
def aBp(l:List Int)(i:Int)(b:List Int):Option aQ :=
 cu (fun self s=>aBl (aBo) (fun l i b=>self (l,i,b)) s.1 s.2.1 s.2.2) 18446744073709551616 (l,i,b)
def aBq(x:As aK):Option aQ:=aBn aBp x.1
@[reducible] def zJ9:Type:=List (Int×List Int)->Int->List Int->Option aQ
def aBr(j2:List Int->Option aQ)(self1:zJ9)(l:zJ1)(i:Int)(all:List Int):Option aQ :=
 if lt i (zF (zG l))=true then zC (at? l i) fun y=>zC (aA8 (y,())) fun y=>need (small (zG all+zG y.1)) (self1 l (add .i64 i 1) (all++y.1)) else j2 all
def aBs(all:List Int):Option aQ :=
 zC (aBq (all,())) fun y=>some (y.1,())
def aBt(j1:zJ9)(l:zJ1):Option aQ :=
 j1 l 0 []
def aBu:=aBs
def aBv(l:zJ1)(i:Int)(all:List Int):Option aQ :=
 cu (fun self s=>aBr (aBu) (fun l i all=>self (l,i,all)) s.1 s.2.1 s.2.2) 18446744073709551616 (l,i,all)
def apL(x:As [.sl bq]):Option aQ:=aBt aBv x.1
def aBw(c:zJ0):Option bM :=
 some ([c.1,cvt .u16 c.2.1,cvt .u16 (quo .u32 c.2.2.1 65536),cvt .u16 (rem c.2.2.1 65536),c.2.2.2.1,cvt .u16 (quo .u32 c.2.2.2.2 65536),cvt .u16 (rem c.2.2.2.2 65536),0],())
def aBx(x:As [.pr (.int .u16) C5]):Option bM:=aBw x.1
@[reducible] def eI:List Ty:=[.pr (.int .u16) (.int .u8),.pr aC mR,.pr (.int .u8) aA,.int .u32,.int .u32,.sl (.sl bq),.sl gX]
@[reducible] def aBy:Sh:=⟨[.d (.pr (.int .u16) (.int .u8)),.pb 0 0],[(prG 1),.que gX 63],eI,[.d (.bool)],[(0,(prG 2)),(2,.que gX 63)],1,aF⟩
def aBz(p:(fT)×(iO)×Unit×Int×Int×List aG)(o:zJ6)(c:zJ0):Option cT :=
 zC (aBx (c,())) fun y=>zC (Eg ((16,272,8,0,y.1,[]),())) fun y=>zC (I9 ((iE p.2.1),y.1,())) fun y=>zC (Ik (y.2.1,())) fun y_1=>if eqi y_1.2.1 0=true then some (eqi y_1.1.2.1 0,p.1,(iE y.1),p.2.2.2.1,p.2.2.2.2.1,p.2.2.2.2.2,o,()) else some (false,p.1,(iE y.1),p.2.2.2.1,p.2.2.2.2.1,p.2.2.2.2.2,o,())
def aBA(j1:(fT)×(iO)×Unit×Int×Int×List aG->List (Bool×List Int)->Int×Int×Int×Int×Int->Option cT)(o:Int×Int)(p:fT)(o_2:iO)(p_2 v:Int)(c:List aG)(b:zJ6):Option cT :=
 amb (au aBy.rs) [zC (apL ([],())) fun y=>j1 (p,o_2,(),p_2,v,c) b (o.1,o.2,5,0,y.1),zC (apL ([],())) fun y=>j1 (p,o_2,(),p_2,v,c) b (o.1,o.2,5,0,y.1)]
def aBB:=aBz
def aEp(x:As eI):Option cT:=aBA aBB x.1 x.2.1 x.2.2.1 x.2.2.2.1 x.2.2.2.2.1 x.2.2.2.2.2.1 x.2.2.2.2.2.2.1
@[reducible] def apM:Sh:=⟨[.d bq,.d bq],[],[.pr (.int .i64) aB,.pr (.int .i64) aB],[.d (.bool)],[],0,[.bool]⟩
def alF(x y:Int×List Int):Option aE :=
 if eqi x.1 y.1=true then zC (wZ (x.2,y.2,())) fun y=>some (y.1,()) else some (false,())
def Z5(x:As [.pr (.int .i64) aB,.pr (.int .i64) aB]):Option aE:=alF x.1 x.2.1
theorem apN:ak Tryz.prog (fun _=>True) 89 ⟨apM,Z5⟩:=ctn (aj V5 av) 6 fun J x=>by kernel_rfl
@[reducible] def alG:Sh:=⟨[.d (.sl bq),.d (.sl bq),.fn (.func 89) [] []],[],[.sl bq,.sl bq],[.d (.bool)],[],0,[.bool]⟩
def alH:Env:=(cts [(89,(⟨apM,Z5⟩:Ct))])
def alI:List (Nat×Hint):=[(58,⟨[],[1,2,15,16,17]⟩)]
def Z6(s2 t15:zJ1)(t16 t17:Int):St:=⟨[(1,.d (.sl bq) s2),(2,.fn (.func 89) [] []),(15,.d (.sl bq) t15),(16,dI t16),(17,dI t17)],32,[],[],0,[],0⟩
@[reducible] def Z7:Type:=List (Int×List Int)->List (Int×List Int)->Int->Int->Option aE
def PK(self1:Z7)(s2 t15:zJ1)(t16 t17:Int):Option aE :=
 if lt t17 t16=true then zC (at? t15 t17) fun y=>zC (at? s2 t17) fun y_1=>zC (Z5 (y,y_1,())) fun y=>if (!y.1)=true then some (false,()) else self1 s2 t15 t16 (add .i64 t17 1) else some (true,())
def Z8(j1:Z7)(s1 s2:zJ1):Option aE :=
 if nei (zF (zG s1)) (zF (zG s2))=true then some (false,()) else j1 s2 s1 (zF (zG s1)) 0
def PL(s2 t15:zJ1)(t16 t17:Int):Option aE :=
 cu (fun self s=>PK (fun s2 t15 t16 t17=>self (s2,t15,t16,t17)) s.1 s.2.1 s.2.2.1 s.2.2.2) 18446744073709551616 (s2,t15,t16,t17)
def alJ(x:As [.sl bq,.sl bq]):Option aE:=Z8 PL x.1 x.2.1
abbrev pDn:=zp alH alI 88 alG
theorem aEc{J w1 a b c d}:pDn J 58 [w1] (Z6 a b c d)=PK (C w1 Z6) a b c d:=by kernel_rfl
abbrev pDm:=zj alH alI 88 alG
theorem aEd:C (pDm 58 []) Z6=PL:=gLC (by decide) (by kernel_rfl) (fun _=>by unfold PL;rfl) fun _ _=>aEc.trans (by kernel_rfl)
theorem aEe:ak Tryz.prog (fun _=>True) 88 ⟨alG,alJ⟩:=zcc (env:=alH) (d:=6) (hs:=Ev.get alI) (aj apN av) (fun J x=>Z8 (C (J 58 []) Z6) x.1 x.2.1) (fun _ _=>by kernel_rfl) fun _=>by rw[aEd]<;>rfl
@[reducible] def apO:Sh:=⟨[.d (.sl bq),.d (.sl bq)],[],[.sl bq,.sl bq],[.d (.bool)],[],0,[.bool]⟩
def alK(a b:zJ1):Option aE :=
 zC (alJ (a,b,())) fun y=>some (y.1,())
def zi(x:As [.sl bq,.sl bq]):Option aE:=alK x.1 x.2.1
theorem aBC:ak Tryz.prog (fun _=>True) 40 ⟨apO,zi⟩:=ctn (aj aEe (aj apN av)) 6 fun J x=>by kernel_rfl
def aBD(a b:Int×List Bool×List (Int×List Int)):Option aE :=
 if eqi a.1 b.1=true then if (Sx.eqb (zJ a.2.1 0 false) (zJ b.2.1 0 false) && (Sx.eqb (zJ a.2.1 1 false) (zJ b.2.1 1 false) && (Sx.eqb (zJ a.2.1 2 false) (zJ b.2.1 2 false) && (Sx.eqb (zJ a.2.1 3 false) (zJ b.2.1 3 false) && (Sx.eqb (zJ a.2.1 4 false) (zJ b.2.1 4 false) && (Sx.eqb (zJ a.2.1 5 false) (zJ b.2.1 5 false) && (Sx.eqb (zJ a.2.1 6 false) (zJ b.2.1 6 false) && (Sx.eqb (zJ a.2.1 7 false) (zJ b.2.1 7 false) && true))))))))=true then zC (ze (a,())) fun y=>zC (ze (b,())) fun y_1=>zC (zi (y.1,y_1.1,())) fun y=>some (y.1,()) else some (false,()) else some (false,())
def aBE(x:As [.pr (.int .u32) (.pr (.ar 8 .bool) (.ar 8 bq)),.pr (.int .u32) (.pr (.ar 8 .bool) (.ar 8 bq))]):Option aE:=aBD x.1 x.2.1
def aBF(a b:List Int×(Int×Int)×Int×Int×Int×pq×Int):Option aE :=
 zC (wZ (a.1,b.1,())) fun y=>if y.1=true then if (eqi a.2.1.1 b.2.1.1 && (eqi a.2.1.2 b.2.1.2 && true))=true then if eqi a.2.2.1 b.2.2.1=true then if eqi a.2.2.2.1 b.2.2.2.1=true then if eqi a.2.2.2.2.1 b.2.2.2.2.1=true then zC (aBE (a.2.2.2.2.2.1,b.2.2.2.2.2.1,())) fun y=>if y.1=true then some (eqi a.2.2.2.2.2.2 b.2.2.2.2.2.2,()) else some (false,()) else some (false,()) else some (false,()) else some (false,()) else some (false,()) else some (false,())
def aBG(x:As [.pr aB u6,.pr aB u6]):Option aE:=aBF x.1 x.2.1
def aBH(a b:iO):Option aE :=
 if eqi a.1 b.1=true then if eqi a.2.1 b.2.1=true then zC (aBG (a.2.2.1,b.2.2.1,())) fun y=>if y.1=true then zC (Od (a.2.2.2,b.2.2.2,())) fun y=>some (y.1,()) else some (false,()) else some (false,()) else some (false,())
def aEq(x:As [.pr (.int .u8) aA,.pr (.int .u8) aA]):Option aE:=aBH x.1 x.2.1
def aBI(a b:zJ5):Option aE :=
 if eqi a.1 b.1=true then if eqi a.2.1 b.2.1=true then if eqi a.2.2.1 b.2.2.1=true then if eqi a.2.2.2.1 b.2.2.2.1=true then zC (wZ (a.2.2.2.2.1,b.2.2.2.2.1,())) fun y=>if y.1=true then zC (Od (a.2.2.2.2.2,b.2.2.2.2.2,())) fun y=>some (y.1,()) else some (false,()) else some (false,()) else some (false,()) else some (false,()) else some (false,())
def aBJ(x:As [.pr (.int .u8) kF,.pr (.int .u8) kF]):Option aE:=aBI x.1 x.2.1
def aBK(a b:Int×Int×Int×Int×Bool×vY×Int×Int×Int):Option aE :=
 if eqi a.1 b.1=true then if eqi a.2.1 b.2.1=true then if eqi a.2.2.1 b.2.2.1=true then if eqi a.2.2.2.1 b.2.2.2.1=true then if Sx.eqb a.2.2.2.2.1 b.2.2.2.2.1=true then if eqi a.2.2.2.2.2.2.1 b.2.2.2.2.2.2.1=true then if eqi a.2.2.2.2.2.2.2.1 b.2.2.2.2.2.2.2.1=true then if eqi a.2.2.2.2.2.2.2.2 b.2.2.2.2.2.2.2.2=true then zC (aBJ (a.2.2.2.2.2.1,b.2.2.2.2.2.1,())) fun y=>some (y.1,()) else some (false,()) else some (false,()) else some (false,()) else some (false,()) else some (false,()) else some (false,()) else some (false,()) else some (false,())
def aBL(x:As [.pr (.int .u8) rG,.pr (.int .u8) rG]):Option aE:=aBK x.1 x.2.1
def aBM(a b:fT):Option aE :=
 zC (aBL (a.1,b.1,())) fun y=>if y.1=true then zC (zi (a.2.2.2.1,b.2.2.2.1,())) fun y=>if y.1=true then if eqi a.2.1 b.2.1=true then if eqi a.2.2.1 b.2.2.1=true then if eqi a.2.2.2.2.1 b.2.2.2.2.1=true then if eqi a.2.2.2.2.2.1 b.2.2.2.2.2.1=true then if eqi a.2.2.2.2.2.2.1 b.2.2.2.2.2.2.1=true then if eqi a.2.2.2.2.2.2.2.1 b.2.2.2.2.2.2.2.1=true then some (eqi a.2.2.2.2.2.2.2.2 b.2.2.2.2.2.2.2.2,()) else some (false,()) else some (false,()) else some (false,()) else some (false,()) else some (false,()) else some (false,()) else some (false,()) else some (false,())
def aEr(x:As [.pr aC mR,.pr aC mR]):Option aE:=aBM x.1 x.2.1
@[reducible] def Z9:Sh:=⟨[.d aB,.d aB],[],eO,[.d (.bool)],[],0,[.bool]⟩
def alL:Env:=(cts [])
def alM:List (Nat×Hint):=[(58,⟨[],[0,1,12,13]⟩)]
def aaa(a b:List Int)(t12 t13:Int):St:=⟨[(0,dW a),(1,dW b),(12,dI t12),(13,dI t13)],26,[],[],0,[],0⟩
def PN(self1:List Int->List Int->Int->Int->Option aE)(a b:List Int)(t12 t13:Int):Option aE :=
 if lt t13 t12=true then zC (at? a t13) fun y=>zC (at? b t13) fun y_1=>if nei y y_1=true then some (false,()) else self1 a b t12 (add .i64 t13 1) else some (true,())
def aab(j1:List Int->List Int->Int->Int->Option aE)(a b:List Int):Option aE :=
 if nei (zF (zG a)) (zF (zG b))=true then some (false,()) else j1 a b (zF (zG a)) 0
def PO(a b:List Int)(t12 t13:Int):Option aE :=
 cu (fun self s=>PN (fun a b t12 t13=>self (a,b,t12,t13)) s.1 s.2.1 s.2.2.1 s.2.2.2) 18446744073709551616 (a,b,t12,t13)
def BQ(x:As eO):Option aE:=aab PO x.1 x.2.1
abbrev pBz:=zp alL alM 14 Z9
theorem aBN{J w1 a b c d}:pBz J 58 [w1] (aaa a b c d)=PN (C w1 aaa) a b c d:=by kernel_rfl
abbrev pBy:=zj alL alM 14 Z9
theorem aBO:C (pBy 58 []) aaa=PO:=gLC (by decide) (by kernel_rfl) (fun _=>by unfold PO;rfl) fun _ _=>aBN.trans (by kernel_rfl)
theorem aBP:ak Tryz.prog (fun _=>True) 14 ⟨Z9,BQ⟩:=zcc (env:=alL) (d:=6) (hs:=Ev.get alM) av (fun J x=>aab (C (J 58 []) aaa) x.1 x.2.1) (fun _ _=>by kernel_rfl) fun _=>by rw[aBO]<;>rfl
def aBQ(j2:List (Int×List Int)->Option aE)(self1:Z7)(l t5:zJ1)(t6 t7:Int):Option aE :=
 if lt t7 t6=true then zC (at? t5 t7) fun y=>if gt (zF (zG y.2)) 100=true then some (false,()) else self1 l t5 t6 (add .i64 t7 1) else j2 l
def aBR(l:zJ1):Option aE :=
 some (le (zF (zG l)) 40,())
def aBS(j1:Z7)(l:zJ1):Option aE :=
 j1 l l (zF (zG l)) 0
def aBT:=aBR
def aBU(l t5:zJ1)(t6 t7:Int):Option aE :=
 cu (fun self s=>aBQ (aBT) (fun l t5 t6 t7=>self (l,t5,t6,t7)) s.1 s.2.1 s.2.2.1 s.2.2.2) 18446744073709551616 (l,t5,t6,t7)
def aEs(x:As [.sl bq]):Option aE:=aBS aBU x.1
end Go.Proofs.Lx
end
noncomputable section
namespace Pl
open Go Ev Sx
set_option maxRecDepth 10000
theorem lN{σ R:Type}(F:(σ->Option R)->σ->Option R)(n:Nat)(s:σ):cu F (n+1) s=F (cu F n) s:=rfl
theorem nD{σ R:Type}{F:(σ->Option R)->σ->Option R}{Inv:σ->Prop}{μ:σ->Nat}{G:σ->Option R}
  (step:∀self s,Inv s->(∀s',Inv s'->μ s'<μ s->self s'=G s')->F self s=G s):∀(n:Nat) (s:σ),Inv s->μ s<n->cu F n s=G s
 | 0,s,_,h=>by omega
 | n+1,s,hs,h=>by rw[lN];exact step _ s hs fun s' hs' hlt=>nD step n s' hs' (by omega)
theorem w64{x:Int}(h1:-9223372036854775808≤x)(h2:x≤9223372036854775807):IntKind.i64.wrap x=x:=by simp only[IntKind.wrap,IntKind.signed,IntKind.bits];simp;omega
theorem wu8{x:Int}(h1:0≤x)(h2:x≤255):IntKind.u8.wrap x=x:=by simp only[IntKind.wrap,IntKind.signed,IntKind.bits];simp;omega
theorem aac{x:Int}(h1:0≤x)(h2:x≤65535):IntKind.u16.wrap x=x:=by simp only[IntKind.wrap,IntKind.signed,IntKind.bits];simp;omega
theorem ate{x:Int}(h1:0≤x)(h2:x≤4294967295):IntKind.u32.wrap x=x:=by simp only[IntKind.wrap,IntKind.signed,IntKind.bits];simp;omega
theorem jO{a b:Int}(h1:-9223372036854775808≤a+b)(h2:a+b≤9223372036854775807):add .i64 a b=a+b:=w64 h1 h2
theorem kV{a b:Int}(h1:-9223372036854775808≤a - b)(h2:a - b≤9223372036854775807):sub .i64 a b=a - b:=w64 h1 h2
theorem nE{a b:Int}(h1:-9223372036854775808≤a*b)(h2:a*b≤9223372036854775807):mul .i64 a b=a*b:=w64 h1 h2
theorem iU{a:Int}(h1:-9223372036854775808≤a)(h2:a≤9223372036854775807):cvt .i64 a=a:=w64 h1 h2
theorem iT{n:Nat}(h:n<4611686018427387904):add .i64 (n:Int) 1=((n+1:Nat):Int):=by rw[jO (by omega) (by omega)];rfl
theorem qP{n m:Nat}(h:n+m<4611686018427387904):add .i64 (n:Int) (m:Int)=((n+m:Nat):Int):=by rw[jO (by omega) (by omega)];rfl
theorem bn(n:Nat):zF n=(n:Int):=rfl
theorem dw{a b:Int}:lt a b=true↔a<b:=by simp[lt]
theorem iw{a b:Int}:le a b=true↔a≤b:=by simp[le]
theorem jD{a b:Int}:gt a b=true↔b<a:=by simp[gt]
theorem gZ{a b:Int}:ge a b=true↔b≤a:=by simp[ge]
theorem bu{a b:Int}:eqi a b=true↔a=b:=by simp[eqi]
theorem fQ{a b:Int}:nei a b=true↔a≠b:=by simp[nei]
theorem Jh{a b:List UInt8}:eqs a b=true↔a=b:=by simp[eqs]
theorem BR{n:Nat}:small n=true↔n≤1073741824:=by simp[small]
theorem qQ(a b:Int):lt a b=decide (a<b):=rfl
theorem le_dec(a b:Int):le a b=decide (a≤b):=rfl
theorem BS(a b:Int):gt a b=decide (b<a):=rfl
theorem atf(a b:Int):ge a b=decide (b≤a):=rfl
theorem eu{b:Bool}{β:Type}{k:Option β}(h:b=true):need b k=k:=by unfold need;rw[if_pos h]
theorem jw{n:Nat}{β:Type}{k:Option β}(h:n≤1073741824):need (small n) k=k:=eu (BR.2 h)
theorem gu{α:Type}{s:List α}{i:Nat}{c:α}(h:s[i]? = some c):at? s (i:Int)=some c:=by unfold at?;simp[h]
theorem iX{α:Type}(c:α)(q:List α):at? (c::q) 0=some c:=rfl
theorem drop_nil{α:Type}{s:List α}{i:Nat}(h:s.drop i=[]):s.length≤i:=by have:=congrArg zG h;simp at this;omega
theorem xW{α:Type}{xs:List α}{i j:Nat}(h1:i≤j)(h2:j≤xs.length):cut xs (i:Int) (j:Int)=some ((xs.take j).drop i):=by unfold cut;rw[if_pos ⟨by omega,by omega,by omega⟩];simp
theorem lF{α:Type}{xs:List α}{i:Nat}(h:i≤xs.length):cut xs (i:Int) (zF xs.length)=some (xs.drop i):=by rw[bn,xW h (Nat.le_refl _)];simp
theorem oM{α:Type}{xs:List α}{j:Nat}(h:j≤xs.length):cut xs 0 (j:Int)=some (xs.take j):=by have:=xW (xs:=xs) (Nat.zero_le j) h;simpa using this
theorem RP{α:Type}(c:α)(q:List α):cut (c::q) 1 (zF (c::q).length)=some q:=by have:=lF (xs:=c::q) (i:=1) (by simp);simpa using this
theorem PR:∀(t:Ty) (x:Vl t),eqV t x x=true:=by
 have hl:∀{α:Type} {f:α->α->Bool},(∀a,f a a=true)->∀x:List α,eqL f x x=true:=fun h x=>by
  induction x with
  | nil=>rfl
  | cons a q ih=>simp[eqL,h,ih]
 intro t
 induction t with
 | int k=>intro x;simp[eqV,eqi]
 | bool=>intro x;simp[eqV,eqb]
 | str=>intro x;simp[eqV,eqs]
 | sl t ih=>intro x;exact hl ih x
 | pr a b iha ihb=>intro x;simp[eqV,iha,ihb]
 | wr a ih=>intro x;exact ih x
 | un=>intro x;rfl
 | ar n t ih=>intro x;exact hl ih x
 | mp k v ihk ihv=>intro x;exact hl (fun a=>by rw[ihk,ihv];rfl) x
theorem eqAs_refl:∀(rs:List Ty) (x:As rs),au rs x x=true
 | [],_=>rfl
 | t::r,x=>by simp[au,PR,eqAs_refl r]
theorem qR{R:Type}{eq:R->R->Bool}(h:∀x,eq x x=true)(a:Option R):amb eq [a,a]=a:=by cases a<;>simp[amb,D7,h]
theorem atg{R:Type}{eq:R->R->Bool}(h:∀x,eq x x=true)(a:Option R):amb eq [a,a,a]=a:=by cases a<;>simp[amb,D7,h]
end Pl
end
