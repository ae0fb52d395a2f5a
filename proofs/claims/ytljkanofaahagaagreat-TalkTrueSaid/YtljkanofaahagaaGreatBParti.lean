/- Proved in the last of these 16 parts (this is part 9): TalkTrue. Conditions: those of the given statement, and no others. -/
import Derived.Test.YtljkanofaahagaaGreatBPartd
import Derived.Test.YtljkanofaahagaaGreatBParth
import Derived.Test.YtljkanofaahagaaGreatProg
import Derived.Test.YtljkanofaahagaaGreatBParte
set_option linter.unusedVariables false
set_option linter.unusedSimpArgs false
set_option linter.unusedSectionVars false
open Option renaming bind → zC, none → zH
open List renaming replicate → zE, length → zG
open Int renaming ofNat → zF, toNat → zI
open Go.Value renaming slice → zK
noncomputable section
open Go Go.Proofs Ev Sx
set_option maxRecDepth 100000
namespace Go.Proofs.Lx
abbrev nO:Type:=List Int×(Int×Int)×Int×Int×Int×pq×Int
abbrev nP:Type:=Int×Int×Int×Int×List Int×List Bool
abbrev kR:Type:=Int×Int×jN×List Bool
@[reducible] def ajt:Sh:=⟨[.d bL,.d (.bool)],[],[.pr fU (.sl .bool),.bool],[.d (.bool)],[],0,[.bool]⟩
def aju:Env:=(cts [])
def ajv:List (Nat×Hint):=[(122,⟨[],[1,2,5,13,14,15,24,25,26,27,28,29,32,33,34,37,38,39,40,41,42,43,44,45,49,50]⟩),(31334,⟨[.agd 50 .bool],[1,2,7,13,14,15,51]⟩),(15666,⟨[.agd 25 (.int .i64),.agd 27 (.sl .bool),.agd 28 (.int .i64),.agd 29 .bool,.agd 33 (.int .i64),.agd 34 .bool,.agd 38 (.int .i64),.agd 40 (.sl .bool),.agd 41 (.int .i64),.agd 43 (.int .i64),.agd 44 (.int .i64),.agd 45 .bool],[1,2,7,13,14,15,46]⟩)]
@[reducible] def zI0:Type:=List cr×List Bool
def BG(fixed:Bool)(endV:Int)(t13:List cr)(t14 t15:Int)(t:zI0):St:=⟨[(1,dB fixed),(2,.pb 0 0),(5,dI endV),(13,.d fU t13),(14,dI t14),(15,dI t15)],58,[],[(0,.box 271 [.d fU t.1,.d (.sl .bool) t.2])],1,[],0⟩
@[reducible] def zI1:Type:=Int×Int×Bool×Bool×Bool
def ajw(fixed:Bool)(t13:List cr)(t14 t15:Int)(t46:Bool)(t:zI0)(x:zI1):St:=⟨[(1,dB fixed),(2,.pb 0 0),(7,.pb 1 0),(13,.d fU t13),(14,dI t14),(15,dI t15),(46,dB t46)],58,[],[(0,.box 271 [.d fU t.1,.d (.sl .bool) t.2]),(1,.box 250 [dI x.1,dI x.2.1,dB x.2.2.1,dB x.2.2.2.1,dB x.2.2.2.2])],2,[],0⟩
def ajx(fixed:Bool)(t13:List cr)(t14 t15:Int)(t51:Bool)(t:zI0)(x:zI1):St:=⟨[(1,dB fixed),(2,.pb 0 0),(7,.pb 1 0),(13,.d fU t13),(14,dI t14),(15,dI t15),(51,dB t51)],58,[],[(0,.box 271 [.d fU t.1,.d (.sl .bool) t.2]),(1,.box 250 [dI x.1,dI x.2.1,dB x.2.2.1,dB x.2.2.2.1,dB x.2.2.2.2])],2,[],0⟩
@[reducible] def zI2:Type:=Bool->List cr->Int->Int->Bool->List cr×List Bool->Int×Int×Bool×Bool×Bool->Option aE
@[reducible] def zI3:Type:=Bool->Int->List cr->Int->Int->List cr×List Bool->Option aE
def Ph(j2:zI2)(self1:zI3)(fixed:Bool)(endV:Int)(t13:List cr)(t14 t15:Int)(t:zI0):Option aE :=
 if lt t15 t14=true then zC (at? t13 t15) fun y=>if lt y.1 endV=true then j2 fixed t13 t14 t15 true t y else if gt y.1 (zF (zG t.2))=true then j2 fixed t13 t14 t15 true t y else if lt y.2.1 1=true then j2 fixed t13 t14 t15 true t y else j2 fixed t13 t14 t15 (gt y.2.1 (Sx.sub .i64 (zF (zG t.2)) y.1)) t y else some (true,())
def ajy(j3:zI2)(self1:zI3)(fixed:Bool)(t13:List cr)(t14 t15:Int)(t46:Bool)(t:zI0)(x:zI1):Option aE :=
 if t46=true then some (false,()) else if fixed=true then j3 fixed t13 t14 t15 x.2.2.2.1 t x else j3 fixed t13 t14 t15 false t x
def ajz(self1:zI3)(fixed:Bool)(t13:List cr)(t14 t15:Int)(t51:Bool)(t:zI0)(x:zI1):Option aE :=
 if t51=true then some (false,()) else self1 fixed (add .i64 x.1 x.2.1) t13 t14 (add .i64 t15 1) t
def Yo(j1:zI3)(t:zI0)(fixed:Bool):Option aE :=
 if gt (zF (zG t.2)) 65536=true then some (false,()) else j1 fixed 0 t.1 (zF (zG t.1)) 0 t
def Yp(u1:zI3):=ajz u1
def Yq(u1:zI3):=ajy (Yp u1) u1
def IP(fixed:Bool)(endV:Int)(t13:List cr)(t14 t15:Int)(t:zI0):Option aE :=
 cu (fun self s=>Ph (Yq (fun fixed endV t13 t14 t15 t=>self (fixed,endV,t13,t14,t15,t))) (fun fixed endV t13 t14 t15 t=>self (fixed,endV,t13,t14,t15,t)) s.1 s.2.1 s.2.2.1 s.2.2.2.1 s.2.2.2.2.1 s.2.2.2.2.2) 18446744073709551616 (fixed,endV,t13,t14,t15,t)
def Yr(x:As [.pr fU (.sl .bool),.bool]):Option aE:=Yo IP x.1 x.2.1
abbrev pCn:=zp aju ajv 279 ajt
theorem aDP{J w1 a b c d e f g}:pCn J 31334 [w1] (ajx a b c d e f g)=ajz (C w1 BG) a b c d e f g:=by kernel_rfl
theorem aDQ{J w1 a b c d e f g}:pCn J 15666 [w1] (ajw a b c d e f g)=ajy (C (J 31334 [w1]) ajx) (C w1 BG) a b c d e f g:=by kernel_rfl
theorem aDR{J w1 a b c d e f}:pCn J 122 [w1] (BG a b c d e f)=Ph (C (J 15666 [w1]) ajw) (C w1 BG) a b c d e f:=by kernel_rfl
abbrev pCm:=zj aju ajv 279 ajt
theorem aDS{w1}:C (pCm 31334 [w1]) ajx=Yp (C w1 BG):=gNC (by decide) fun _=>aDP
theorem aDT{w1}:C (pCm 15666 [w1]) ajw=Yq (C w1 BG):=gNC (by decide) fun _=>aDQ.trans (by rw[aDS]<;>kernel_rfl)
theorem aDU:C (pCm 122 []) BG=IP:=gLC (by decide) (by kernel_rfl) (fun _=>by unfold IP;rfl) fun _ _=>aDR.trans (by rw[aDT]<;>kernel_rfl)
theorem aDV:ak Tryz.prog (fun _=>True) 279 ⟨ajt,Yr⟩:=zcc (env:=aju) (d:=6) (hs:=Ev.get ajv) av (fun J x=>Yo (C (J 122 []) BG) x.1 x.2.1) (fun _ _=>by kernel_rfl) fun _=>by rw[aDU]<;>rfl
@[reducible] def ajA:Sh:=⟨[.d cJ,.d (.bool)],[],[.pr fU aB,.bool],[.d (.bool)],[],0,[.bool]⟩
def ajB:Env:=(cts [])
def ajC:List (Nat×Hint):=[(122,⟨[],[1,2,5,13,14,15,24,25,26,27,28,29,32,33,34,37,38,39,40,41,42,43,44,45,49,50]⟩),(31334,⟨[.agd 50 .bool],[1,2,7,13,14,15,51]⟩),(15666,⟨[.agd 25 (.int .i64),.agd 27 aB,.agd 28 (.int .i64),.agd 29 .bool,.agd 33 (.int .i64),.agd 34 .bool,.agd 38 (.int .i64),.agd 40 aB,.agd 41 (.int .i64),.agd 43 (.int .i64),.agd 44 (.int .i64),.agd 45 .bool],[1,2,7,13,14,15,46]⟩)]
@[reducible] def zI4:Type:=List cr×List Int
def BH(fixed:Bool)(endV:Int)(t13:List cr)(t14 t15:Int)(t:zI4):St:=⟨[(1,dB fixed),(2,.pb 0 0),(5,dI endV),(13,.d fU t13),(14,dI t14),(15,dI t15)],58,[],[(0,.box 273 [.d fU t.1,dW t.2])],1,[],0⟩
def ajD(fixed:Bool)(t13:List cr)(t14 t15:Int)(t46:Bool)(t:zI4)(x:zI1):St:=⟨[(1,dB fixed),(2,.pb 0 0),(7,.pb 1 0),(13,.d fU t13),(14,dI t14),(15,dI t15),(46,dB t46)],58,[],[(0,.box 273 [.d fU t.1,dW t.2]),(1,.box 250 [dI x.1,dI x.2.1,dB x.2.2.1,dB x.2.2.2.1,dB x.2.2.2.2])],2,[],0⟩
def ajE(fixed:Bool)(t13:List cr)(t14 t15:Int)(t51:Bool)(t:zI4)(x:zI1):St:=⟨[(1,dB fixed),(2,.pb 0 0),(7,.pb 1 0),(13,.d fU t13),(14,dI t14),(15,dI t15),(51,dB t51)],58,[],[(0,.box 273 [.d fU t.1,dW t.2]),(1,.box 250 [dI x.1,dI x.2.1,dB x.2.2.1,dB x.2.2.2.1,dB x.2.2.2.2])],2,[],0⟩
@[reducible] def zI5:Type:=Bool->List cr->Int->Int->Bool->List cr×List Int->Int×Int×Bool×Bool×Bool->Option aE
@[reducible] def zI6:Type:=Bool->Int->List cr->Int->Int->List cr×List Int->Option aE
def Pj(j2:zI5)(self1:zI6)(fixed:Bool)(endV:Int)(t13:List cr)(t14 t15:Int)(t:zI4):Option aE :=
 if lt t15 t14=true then zC (at? t13 t15) fun y=>if lt y.1 endV=true then j2 fixed t13 t14 t15 true t y else if gt y.1 (zF (zG t.2))=true then j2 fixed t13 t14 t15 true t y else if lt y.2.1 1=true then j2 fixed t13 t14 t15 true t y else j2 fixed t13 t14 t15 (gt y.2.1 (Sx.sub .i64 (zF (zG t.2)) y.1)) t y else some (true,())
def ajF(j3:zI5)(self1:zI6)(fixed:Bool)(t13:List cr)(t14 t15:Int)(t46:Bool)(t:zI4)(x:zI1):Option aE :=
 if t46=true then some (false,()) else if fixed=true then j3 fixed t13 t14 t15 x.2.2.2.1 t x else j3 fixed t13 t14 t15 false t x
def ajG(self1:zI6)(fixed:Bool)(t13:List cr)(t14 t15:Int)(t51:Bool)(t:zI4)(x:zI1):Option aE :=
 if t51=true then some (false,()) else self1 fixed (add .i64 x.1 x.2.1) t13 t14 (add .i64 t15 1) t
def Yt(j1:zI6)(t:zI4)(fixed:Bool):Option aE :=
 if gt (zF (zG t.2)) 65536=true then some (false,()) else j1 fixed 0 t.1 (zF (zG t.1)) 0 t
def Yu(u1:zI6):=ajG u1
def Yw(u1:zI6):=ajF (Yu u1) u1
def IQ(fixed:Bool)(endV:Int)(t13:List cr)(t14 t15:Int)(t:zI4):Option aE :=
 cu (fun self s=>Pj (Yw (fun fixed endV t13 t14 t15 t=>self (fixed,endV,t13,t14,t15,t))) (fun fixed endV t13 t14 t15 t=>self (fixed,endV,t13,t14,t15,t)) s.1 s.2.1 s.2.2.1 s.2.2.2.1 s.2.2.2.2.1 s.2.2.2.2.2) 18446744073709551616 (fixed,endV,t13,t14,t15,t)
def Yx(x:As [.pr fU aB,.bool]):Option aE:=Yt IQ x.1 x.2.1
abbrev pCp:=zp ajB ajC 280 ajA
theorem aDW{J w1 a b c d e f g}:pCp J 31334 [w1] (ajE a b c d e f g)=ajG (C w1 BH) a b c d e f g:=by kernel_rfl
theorem aDX{J w1 a b c d e f g}:pCp J 15666 [w1] (ajD a b c d e f g)=ajF (C (J 31334 [w1]) ajE) (C w1 BH) a b c d e f g:=by kernel_rfl
theorem aDY{J w1 a b c d e f}:pCp J 122 [w1] (BH a b c d e f)=Pj (C (J 15666 [w1]) ajD) (C w1 BH) a b c d e f:=by kernel_rfl
abbrev pCo:=zj ajB ajC 280 ajA
theorem aDZ{w1}:C (pCo 31334 [w1]) ajE=Yu (C w1 BH):=gNC (by decide) fun _=>aDW
theorem aD0{w1}:C (pCo 15666 [w1]) ajD=Yw (C w1 BH):=gNC (by decide) fun _=>aDX.trans (by rw[aDZ]<;>kernel_rfl)
theorem aD1:C (pCo 122 []) BH=IQ:=gLC (by decide) (by kernel_rfl) (fun _=>by unfold IQ;rfl) fun _ _=>aDY.trans (by rw[aD0]<;>kernel_rfl)
theorem aD2:ak Tryz.prog (fun _=>True) 280 ⟨ajA,Yx⟩:=zcc (env:=ajB) (d:=6) (hs:=Ev.get ajC) av (fun J x=>Yt (C (J 122 []) BH) x.1 x.2.1) (fun _ _=>by kernel_rfl) fun _=>by rw[aD1]<;>rfl
@[reducible] def ao7:Sh:=⟨[.d (.pr fU aZ),.d eZ],[],eH,[.d (.bool)],[],0,[.bool]⟩
def ajH(s:List cr×List cr×List cr×List cr)(m:List Bool×List Bool×List Int×List Int):Option aE :=
 zC (Iy (s,m,())) fun y=>zC (Yr (y.1.1,false,())) fun y_1=>if y_1.1=true then zC (Yr (y.1.2.1,true,())) fun y_2=>if y_2.1=true then zC (Yx (y.1.2.2.1,false,())) fun y_3=>if y_3.1=true then zC (Yx (y.1.2.2.2,true,())) fun y=>some (y.1,()) else some (false,()) else some (false,()) else some (false,())
def Yy(x:As eH):Option aE:=ajH x.1 x.2.1
theorem ayL:ak Tryz.prog (fun _=>True) 257 ⟨ao7,Yy⟩:=ctn (aj aoX (aj aDV (aj aD2 av))) 6 fun J x=>by kernel_rfl
@[reducible] def aD3:Sh:=⟨[.d bL,.d (.int .i64),.d (.int .i64),.d (.int .i64)],[],[.pr fU (.sl .bool),.int .i64,.int .i64,.int .i64],[.d (.sl .bool)],[],0,[.sl .bool]⟩
def ajI(t:zI0)(at' many step:Int):Option dK :=
 need (nei step 0) (need (ge (mul .i64 (quo .i64 (Sx.sub .i64 (add .i64 many step) 1) step) step) 0) (need (Ev.jC (mul .i64 (quo .i64 (Sx.sub .i64 (add .i64 many step) 1) step) step) (mul .i64 (quo .i64 (Sx.sub .i64 (add .i64 many step) 1) step) step)) (need (small (zI (mul .i64 (quo .i64 (Sx.sub .i64 (add .i64 many step) 1) step) step))) (zC (cut t.2 at' (add .i64 at' many)) fun y=>need (le (zF (0+zG (zE (zI (mul .i64 (quo .i64 (Sx.sub .i64 (add .i64 many step) 1) step) step)) false))) (zF (zG (zE (zI (mul .i64 (quo .i64 (Sx.sub .i64 (add .i64 many step) 1) step) step)) false)))) (some (List.take (zI (zF (zG (zE (zI (mul .i64 (quo .i64 (Sx.sub .i64 (add .i64 many step) 1) step) step)) false)))) y++List.drop (0+zG (List.take (zI (zF (zG (zE (zI (mul .i64 (quo .i64 (Sx.sub .i64 (add .i64 many step) 1) step) step)) false)))) y)) (zE (zI (mul .i64 (quo .i64 (Sx.sub .i64 (add .i64 many step) 1) step) step)) false),()))))))
def Yz(x:As [.pr fU (.sl .bool),.int .i64,.int .i64,.int .i64]):Option dK:=ajI x.1 x.2.1 x.2.2.1 x.2.2.2.1
theorem aD4:ak Tryz.prog (fun _=>True) 281 ⟨aD3,Yz⟩:=ctn av 6 fun J x=>by kernel_rfl
@[reducible] def aD5:Sh:=⟨[.d cJ,.d (.int .i64),.d (.int .i64),.d (.int .i64)],[],[.pr fU aB,.int .i64,.int .i64,.int .i64],[.d aB],[],0,aK⟩
def ajJ(t:zI4)(at' many step:Int):Option bM :=
 need (nei step 0) (need (ge (mul .i64 (quo .i64 (Sx.sub .i64 (add .i64 many step) 1) step) step) 0) (need (Ev.jC (mul .i64 (quo .i64 (Sx.sub .i64 (add .i64 many step) 1) step) step) (mul .i64 (quo .i64 (Sx.sub .i64 (add .i64 many step) 1) step) step)) (need (small (zI (mul .i64 (quo .i64 (Sx.sub .i64 (add .i64 many step) 1) step) step))) (zC (cut t.2 at' (add .i64 at' many)) fun y=>need (le (zF (0+zG (zE (α:=Int) (zI (mul .i64 (quo .i64 (Sx.sub .i64 (add .i64 many step) 1) step) step)) 0))) (zF (zG (zE (α:=Int) (zI (mul .i64 (quo .i64 (Sx.sub .i64 (add .i64 many step) 1) step) step)) 0)))) (some (List.take (zI (zF (zG (zE (α:=Int) (zI (mul .i64 (quo .i64 (Sx.sub .i64 (add .i64 many step) 1) step) step)) 0)))) y++List.drop (0+zG (List.take (zI (zF (zG (zE (α:=Int) (zI (mul .i64 (quo .i64 (Sx.sub .i64 (add .i64 many step) 1) step) step)) 0)))) y)) (zE (zI (mul .i64 (quo .i64 (Sx.sub .i64 (add .i64 many step) 1) step) step)) 0),()))))))
def YA(x:As [.pr fU aB,.int .i64,.int .i64,.int .i64]):Option bM:=ajJ x.1 x.2.1 x.2.2.1 x.2.2.2.1
theorem aD6:ak Tryz.prog (fun _=>True) 282 ⟨aD5,YA⟩:=ctn av 6 fun J x=>by kernel_rfl
@[reducible] def as7:Sh:=⟨[.d (.pr bL bF),.d (.int .i64),.d bA],[],[.pr bL bF,.int .i64,.pr (.int .u8) kF],[.d aP],[],0,aS⟩
def ajK(v:eM×eM×(List cr×List Int)×List cr×List Int)(p:Int)(a:nP):Option cW :=
 if eqi p 1=true then zC (Yz (v.1,cvt .i64 a.2.1,cvt .i64 a.2.2.1,8,())) fun y=>some ((a.1,0,y.1,[],0,0),()) else if eqi p 2=true then zC (Yz (v.2.1,cvt .i64 a.2.1,cvt .i64 a.2.2.1,8,())) fun y=>some ((a.1,0,y.1,[],0,0),()) else if eqi p 3=true then zC (YA (v.2.2.1,cvt .i64 a.2.1,cvt .i64 a.2.2.1,1,())) fun y=>some ((a.1,0,[],y.1,0,0),()) else if eqi p 4=true then zC (YA (v.2.2.2,cvt .i64 a.2.1,cvt .i64 a.2.2.1,1,())) fun y=>some ((a.1,0,[],y.1,0,0),()) else some ((a.1,0,[],[],0,0),())
def Pk(x:As [.pr bL bF,.int .i64,.pr (.int .u8) kF]):Option cW:=ajK x.1 x.2.1 x.2.2.1
theorem ayM:ak Tryz.prog (fun _=>True) 260 ⟨as7,Pk⟩:=ctn (aj aD4 (aj aD6 av)) 6 fun J x=>by kernel_rfl
@[reducible] def cX:List Ty:=[.pr (.sl .bool) C6,.pr (.int .u8) nC]
@[reducible] def YB:Sh:=⟨[.d (.pr fU aZ),.d eZ,.d bA],[],[.pr fU aZ,.pr (.sl .bool) C6,.pr (.int .u8) kF],[.d eZ,.d aP],[],0,cX⟩
def ajL:Env:=(cts [(45,(⟨Uu,Eb⟩:Ct)),(113,(⟨UJ,Ec⟩:Ct)),(164,(⟨Pf,EJ⟩:Ct)),(166,(⟨ag6,kI⟩:Ct)),(201,(⟨Ia,vw⟩:Ct)),(222,(⟨aiK,Iz⟩:Ct)),(224,(⟨aiM,EB⟩:Ct)),(257,(⟨ao7,Yy⟩:Ct)),(260,(⟨as7,Pk⟩:Ct))])
def ajM:List (Nat×Hint):=[(255,⟨[],[5,6,7,8,10,11]⟩)]
def YC(a:nP)(t7 t7_2 t7_3 t7_4:Int)(o o_2:List Bool)(o_3 o_4:List Int)(v v_2 v_3 v_4:List cr)(u:Int×Int):St:=⟨[(5,.pb 0 0),(6,.pb 1 0),(7,.pb 2 0),(8,.pb 3 0),(10,.pb 8 0),(11,.pb 9 0)],79,[],[(0,.box 27 [d8 a.1,d6 a.2.1,d6 a.2.2.1,d6 a.2.2.2.1,dW a.2.2.2.2.1,.d (.sl .bool) a.2.2.2.2.2]),(1,.box 196 [.k (zK zH 0 0),.k (zK zH 0 0),.k (zK zH 0 0),.k (zK zH 0 0)]),(2,.box 109 [d8 t7,d8 t7_2,.k (zK zH 0 0),.k (zK zH 0 0),d6 t7_3,d6 t7_4]),(3,.box 196 [.row 4,.row 5,.row 6,.row 7]),(4,.row .bool 4 o),(5,.row .bool 4 o_2),(6,.row (.int .u16) 25 o_3),(7,.row (.int .u16) 25 o_4),(8,.box 275 [.d fU v,.row 4,.d fU v_2,.row 5,.d fU v_3,.row 6,.d fU v_4,.row 7]),(9,.box 279 [dI u.1,dI u.2])],10,[],0⟩
def ao8(a:nP)(t7 t7_2 t7_3 t7_4:Int)(o o_2:List Bool)(o_3 o_4:List Int)(v v_2 v_3 v_4:List cr)(u:Int×Int):Option (As cX) :=
 zC (vw (a,())) fun y=>if y.2.1=true then some ((o,o_2,o_3,o_4),y.1,()) else zC (Pk (((v,o),(v_2,o_2),(v_3,o_3),v_4,o_4),u.1,a,())) fun y=>some ((o,o_2,o_3,o_4),y.1,())
def YD(j1:nP->Int->Int->Int->Int->List Bool->List Bool->List Int->List Int->List cr->List cr->List cr->List cr->Int×Int->Option (As cX))(s:List cr×List cr×List cr×List cr)(m:List Bool×List Bool×List Int×List Int)(a:nP):Option (As cX) :=
 zC (Ec (m.1,())) fun y=>zC (Ec (m.2.1,())) fun y_1=>zC (Eb (m.2.2.1,())) fun y_2=>zC (Eb (m.2.2.2,())) fun y_3=>zC (EJ (s,a,())) fun y_4=>if nei y_4.1 0=true then zC (kI (a.1,y_4.1,())) fun y_5=>some ((y.1,y_1.1,y_2.1,y_3.1),y_5.1,()) else zC (Yy (s,m,())) fun y_5=>if (!y_5.1)=true then zC (kI (a.1,4,())) fun y_6=>some ((y.1,y_1.1,y_2.1,y_3.1),y_6.1,()) else zC (Iz (a.1,())) fun y_6=>zC (EB (a,())) fun y_7=>if eqi y_6.1.2 1=true then need (ge y_7.1 0) (need (le y_7.1 (zF (zG y.1))) (need (le (zF (zG y.1)) (zF (zG y.1))) (need (le (y_7.1+(zF (zG y.1) - y_7.1)) (zF (zG y.1))) (j1 a 0 0 0 0 (List.take (zI y_7.1) y.1++List.take (zI (zF (zG y.1) - y_7.1)) a.2.2.2.2.2++List.drop (zI y_7.1+zG (List.take (zI (zF (zG y.1) - y_7.1)) a.2.2.2.2.2)) y.1) y_1.1 y_2.1 y_3.1 s.1 s.2.1 s.2.2.1 s.2.2.2 y_6.1)))) else if eqi y_6.1.2 3=true then need (ge y_7.1 0) (need (le y_7.1 (zF (zG y_2.1))) (need (le (zF (zG y_2.1)) (zF (zG y_2.1))) (need (le (y_7.1+(zF (zG y_2.1) - y_7.1)) (zF (zG y_2.1))) (j1 a 0 0 0 0 y.1 y_1.1 (List.take (zI y_7.1) y_2.1++List.take (zI (zF (zG y_2.1) - y_7.1)) a.2.2.2.2.1++List.drop (zI y_7.1+zG (List.take (zI (zF (zG y_2.1) - y_7.1)) a.2.2.2.2.1)) y_2.1) y_3.1 s.1 s.2.1 s.2.2.1 s.2.2.2 y_6.1)))) else j1 a 0 0 0 0 y.1 y_1.1 y_2.1 y_3.1 s.1 s.2.1 s.2.2.1 s.2.2.2 y_6.1
def Pm:=ao8
def lD(x:As [.pr fU aZ,.pr (.sl .bool) C6,.pr (.int .u8) kF]):Option (As cX):=YD Pm x.1 x.2.1 x.2.2.1
abbrev pCb:=zp ajL ajM 227 YB
theorem ayN{J a b c d e f g h i j k l m n}:pCb J 255 [] (YC a b c d e f g h i j k l m n)=ao8 a b c d e f g h i j k l m n:=by kernel_rfl
abbrev pCa:=zj ajL ajM 227 YB
theorem ayO:C (pCa 255 []) YC=Pm:=gNC (by decide) fun _=>ayN
theorem ayP:ak Tryz.prog (fun _=>True) 227 ⟨YB,lD⟩:=zcc (env:=ajL) (d:=6) (hs:=Ev.get ajM) (aj ash (aj asi (aj ao1 (aj WI (aj ahr (aj aoY (aj asY (aj ayL (aj ayM av))))))))) (fun J x=>YD (C (J 255 []) YC) x.1 x.2.1 x.2.2.1) (fun _ _=>by kernel_rfl) fun _=>by rw[ayO]<;>rfl
@[reducible] def bJ:List Ty:=[.pr (.int .u16) (.int .i64)]
@[reducible] def ajN:Sh:=⟨[.d (.int .u16)],[],[.int .u16],[.d bH],[],0,bJ⟩
def ayQ(owner:Int):Option (As bJ) :=
 some ((owner,-1),())
def y9(x:As [.int .u16]):Option (As bJ):=ayQ x.1
theorem YE:ak Tryz.prog (fun _=>True) 229 ⟨ajN,y9⟩:=ctn av 6 fun J x=>by kernel_rfl
@[reducible] def ayR:Sh:=⟨[.d bH],[],bJ,[.d (.bool)],[],0,[.bool]⟩
def ajO(l:Int×Int):Option aE :=
 if eqi l.1 0=true then some (eqi l.1 0 && (eqi l.2 0 && true),()) else if ge l.2 1=true then some (true,()) else zC (y9 (l.1,())) fun y=>some (eqi l.1 y.1.1 && (eqi l.2 y.1.2 && true),())
def YF(x:As bJ):Option aE:=ajO x.1
theorem ayS:ak Tryz.prog (fun _=>True) 240 ⟨ayR,YF⟩:=ctn (aj YE av) 6 fun J x=>by kernel_rfl
@[reducible] def ajP:Sh:=⟨[.d bH],[],bJ,[.d bH],[],0,bJ⟩
def ajQ(l:Int×Int):Option (As bJ) :=
 zC (YF (l,())) fun y=>if (!y.1)=true then some ((0,0),()) else some (l,())
def BI(x:As bJ):Option (As bJ):=ajQ x.1
theorem YG:ak Tryz.prog (fun _=>True) 198 ⟨ajP,BI⟩:=ctn (aj ayS av) 6 fun J x=>by kernel_rfl
@[reducible] def EK:Sh:=⟨[.d bH],[],bJ,[.d (.bool)],[],0,[.bool]⟩
def ajR(l:Int×Int):Option aE :=
 zC (BI (l,())) fun y=>some (eqi y.1.1 0 && (eqi y.1.2 0 && true),())
def qN(x:As bJ):Option aE:=ajR x.1
theorem IU:ak Tryz.prog (fun _=>True) 150 ⟨EK,qN⟩:=ctn (aj YG av) 6 fun J x=>by kernel_rfl
@[reducible] def IV:Sh:=⟨[.d (.pr (.int .u32) (.pr (.ar 8 .bool) (.ar 8 bq)))],[],[.pr (.int .u32) (.pr (.ar 8 .bool) (.ar 8 bq))],[.d (.int .i64)],[],0,[.int .i64]⟩
def ajS:Env:=(cts [(2000041,Ev.gU)])
def ajT:List (Nat×Hint):=[(58,⟨[],[3,7,8]⟩)]
def YH(n:Int)(t7:List Bool)(t8:Int):St:=⟨[(3,dI n),(7,.d (.ar 8 .bool) t7),(8,dI t8)],16,[],[],0,[],0⟩
def IW(self1:Int->List Bool->Int->Option cI)(n:Int)(t7:List Bool)(t8:Int):Option cI :=
 if lt t8 8=true then need (lt t8 8) (zC (at? t7 t8) fun y=>if y=true then self1 (add .i64 n 1) t7 (add .i64 t8 1) else self1 n t7 (add .i64 t8 1)) else some (n,())
@[reducible] def zI7:Type:=Int×List Bool×List (Int×List Int)
def ao9(j1:Int->List Bool->Int->Option cI)(s:zI7):Option cI :=
 j1 0 s.2.1 0
def Pn(n:Int)(t7:List Bool)(t8:Int):Option cI :=
 cu (fun self s=>IW (fun n t7 t8=>self (n,t7,t8)) s.1 s.2.1 s.2.2) 18446744073709551616 (n,t7,t8)
def xC(x:As [.pr (.int .u32) (.pr (.ar 8 .bool) (.ar 8 bq))]):Option cI:=ao9 Pn x.1
abbrev pAn:=zp ajS ajT 149 IV
theorem ayT{J w1 a b c}:pAn J 58 [w1] (YH a b c)=IW (C w1 YH) a b c:=by kernel_rfl
abbrev pAm:=zj ajS ajT 149 IV
theorem ayU:C (pAm 58 []) YH=Pn:=gLC (by decide) (by kernel_rfl) (fun _=>by unfold Pn;rfl) fun _ _=>ayT.trans (by kernel_rfl)
theorem ajU:ak Tryz.prog (fun _=>True) 149 ⟨IV,xC⟩:=zcc (env:=ajS) (d:=6) (hs:=Ev.get ajT) (aj Ev.gq av) (fun J x=>ao9 (C (J 58 []) YH) x.1) (fun _ _=>by kernel_rfl) fun _=>by rw[ayU]<;>rfl
@[reducible] def bE:List Ty:=[.pr aB u6]
@[reducible] def YI:Sh:=⟨[.d aH],[],bE,[.d aB],[],0,aK⟩
def ajV:Env:=(cts [(2000043,Ev.gU),(149,(⟨IV,xC⟩:Ct)),(150,(⟨EK,qN⟩:Ct)),(269,(⟨aoh,Bd⟩:Ct))])
def ajW:List (Nat×Hint):=[(7,⟨[],[1,3]⟩)]
def ajX(a:nO)(owner:Int):St:=⟨[(1,.pe aH a),(3,d6 owner)],39,[],[],0,[],0⟩
def YJ(a:nO)(owner:Int):Option bM :=
 zC (Bd (a.2.2.2.1,())) fun y=>zC (Bd (a.2.2.2.2.1,())) fun y_1=>zC (xC (a.2.2.2.2.2.1,())) fun y_2=>some ([owner,cvt .u16 a.2.2.1,y.1,y.2.1,y_1.1,y_1.2.1,cvt .u16 y_2.1,0],())
def YK(j1:nO->Int->Option bM)(a:nO):Option bM :=
 zC (qN (a.2.1,())) fun y=>if y.1=true then j1 a 0 else j1 a a.2.1.1
def YL:=YJ
def gG(x:As bE):Option bM:=YK YL x.1
abbrev pAh:=zp ajV ajW 261 YI
theorem ayV{J a b}:pAh J 7 [] (ajX a b)=YJ a b:=by kernel_rfl
abbrev pAg:=zj ajV ajW 261 YI
theorem ayW:C (pAg 7 []) ajX=YL:=gNC (by decide) fun _=>ayV
theorem ayX:ak Tryz.prog (fun _=>True) 261 ⟨YI,gG⟩:=zcc (env:=ajV) (d:=6) (hs:=Ev.get ajW) (aj Ev.gq (aj ajU (aj IU (aj afK av)))) (fun J x=>YK (C (J 7 []) ajX) x.1) (fun _ _=>by kernel_rfl) fun _=>by rw[ayW]<;>rfl
@[reducible] def YM:Sh:=⟨[.d (.pr (.int .u32) (.pr (.ar 8 .bool) (.ar 8 bq))),.d (.int .u16),.d (.int .i64)],[],[.pr (.int .u32) (.pr (.ar 8 .bool) (.ar 8 bq)),.int .u16,.int .i64],[.d aB],[],0,aK⟩
def ajY:Env:=(cts [(2000041,Ev.gU),(283,(⟨af4,En⟩:Ct)),(284,(⟨aoo,NG⟩:Ct))])
def ajZ:List (Nat×Hint):=[(6,⟨[],[1,2,3,16]⟩)]
def aj0(owner n:Int)(s:zI7)(t16:Bool):St:=⟨[(1,d6 owner),(2,dI n),(3,.pe (.pr (.int .u32) (.pr (.ar 8 .bool) (.ar 8 bq))) s),(16,dB t16)],27,[],[],0,[],0⟩
def YN(owner n:Int)(s:zI7)(t16:Bool):Option bM :=
 if t16=true then some ([0,0,0,0,0,0,0,0,0,0,0,0,0,0,0,0,0,0,0,0],()) else zC (at? s.2.2 n) fun y=>zC (NG (owner,s.1,n,y,())) fun y=>some (y.1,())
def YO(j1:Int->Int->Int×List Bool×List (Int×List Int)->Bool->Option bM)(s:zI7)(owner n:Int):Option bM :=
 zC (En (n,())) fun y=>if (!y.1)=true then j1 owner n s true else zC (at? s.2.1 n) fun y=>j1 owner n s !y
def aj1:=YN
def YP(x:As [.pr (.int .u32) (.pr (.ar 8 .bool) (.ar 8 bq)),.int .u16,.int .i64]):Option bM:=YO aj1 x.1 x.2.1 x.2.2.1
abbrev pDx:=zp ajY ajZ 262 YM
theorem ayY{J a b c d}:pDx J 6 [] (aj0 a b c d)=YN a b c d:=by kernel_rfl
abbrev pDw:=zj ajY ajZ 262 YM
theorem ayZ:C (pDw 6 []) aj0=aj1:=gNC (by decide) fun _=>ayY
theorem ay0:ak Tryz.prog (fun _=>True) 262 ⟨YM,YP⟩:=zcc (env:=ajY) (d:=6) (hs:=Ev.get ajZ) (aj Ev.gq (aj af6 (aj aop av))) (fun J x=>YO (C (J 6 []) aj0) x.1 x.2.1 x.2.2.1) (fun _ _=>by kernel_rfl) fun _=>by rw[ayZ]<;>rfl
@[reducible] def d9:Sh:=⟨[.d bB],[],cM,[.d eZ],[],0,bX⟩
def aj2:Env:=(cts [(2000045,Ev.gU),(150,(⟨EK,qN⟩:Ct)),(199,(⟨WH,Bj⟩:Ct)),(261,(⟨YI,gG⟩:Ct)),(262,(⟨YM,YP⟩:Ct))])
def aj3:List (Nat×Hint):=[(3,⟨[],[1,2,3]⟩),(15,⟨[],[1,2,3]⟩),(4090,⟨[],[1,2,3,57]⟩)]
def aj4(s:kR)(m:List Int)(o o_2:List Bool)(o_3:List Int):St:=⟨[(1,.pe bB s),(2,.pb 0 0),(3,.pb 1 0)],78,[],[(0,.box 196 [.k (zK zH 0 0),.k (zK zH 0 0),.k (zK zH 0 0),.k (zK zH 0 0)]),(1,.box 196 [.row 2,.row 3,.row 4,dW m]),(2,.row .bool 4 o),(3,.row .bool 4 o_2),(4,.row (.int .u16) 25 o_3)],5,[],0⟩
def aj5(s:kR)(m:List Int)(o o_2:List Bool)(o_3:List Int):St:=⟨[(1,.pe bB s),(2,.pb 0 0),(3,.pb 1 0)],78,[],[(0,.box 196 [.k (zK zH 0 0),.k (zK zH 0 0),.k (zK zH 0 0),.k (zK zH 0 0)]),(1,.box 196 [.row 2,.row 3,.row 4,dW m]),(2,.row .bool 4 o),(3,.row .bool 4 o_2),(4,.row (.int .u16) 25 o_3)],5,[],0⟩
def YQ(s:kR)(t57:Int)(m:List Int)(o o_2:List Bool)(o_3:List Int):St:=⟨[(1,.pe bB s),(2,.pb 0 0),(3,.pb 1 0),(57,dI t57)],78,[],[(0,.box 196 [.k (zK zH 0 0),.k (zK zH 0 0),.k (zK zH 0 0),.k (zK zH 0 0)]),(1,.box 196 [.row 2,.row 3,.row 4,dW m]),(2,.row .bool 4 o),(3,.row .bool 4 o_2),(4,.row (.int .u16) 25 o_3)],5,[],0⟩
def YR(j2:kR->List Int->List Bool->List Bool->List Int->Option bV)(s:kR)(m:List Int)(o o_2:List Bool)(o_3:List Int):Option bV :=
 need (le (zF (0+zG o)) (zF (zG o))) (if le s.2.2.1.2.2.1 2=true then zC (at? o_2 s.2.2.1.2.2.1) fun x=>zC (at? o_2 s.2.2.1.2.2.1) fun x=>j2 s m (List.take (zI (zF (zG o))) s.2.2.2++List.drop (0+zG (List.take (zI (zF (zG o))) s.2.2.2)) o) (List.set o_2 (zI s.2.2.1.2.2.1) true) o_3 else j2 s m (List.take (zI (zF (zG o))) s.2.2.2++List.drop (0+zG (List.take (zI (zF (zG o))) s.2.2.2)) o) o_2 o_3)
def YS(j3:kR->Int->List Int->List Bool->List Bool->List Int->Option bV)(s:kR)(m:List Int)(o o_2:List Bool)(o_3:List Int):Option bV :=
 zC (qN (s.2.2.1.2.1,())) fun y=>zC (at? o_2 4) fun x=>zC (at? o_2 4) fun x=>zC (Bj (List.take 8 (List.drop 0 s.2.2.1.2.2.2.2.2.1.2.1),true,())) fun y_1=>zC (at? (List.set o_2 4 !y.1) 5) fun x=>zC (at? (List.set o_2 4 !y.1) 5) fun x=>need (le (zF (zG o_3)) (zF (zG o_3))) (need (le 64 (zF (zG o_3+0))) (need (le 64 (zF (zG o_3))) (need (le 256 (zF (zG (List.take 64 s.2.2.1.1++List.drop (0+zG (List.take 64 s.2.2.1.1)) o_3)))) (need (le (zF (zG (List.take 64 s.2.2.1.1++List.drop (0+zG (List.take 64 s.2.2.1.1)) o_3))) (zF (zG (List.take 64 s.2.2.1.1++List.drop (0+zG (List.take 64 s.2.2.1.1)) o_3)))) (need (le (256+(zF (zG (List.take 64 s.2.2.1.1++List.drop (0+zG (List.take 64 s.2.2.1.1)) o_3)) - 256)) (zF (zG (List.take 64 s.2.2.1.1++List.drop (0+zG (List.take 64 s.2.2.1.1)) o_3)))) (j3 s 0 m o (List.set (List.set o_2 4 !y.1) 5 y_1.1) (List.take 256 (List.take 64 s.2.2.1.1++List.drop (0+zG (List.take 64 s.2.2.1.1)) o_3)++List.take (zI (zF (zG (List.take 64 s.2.2.1.1++List.drop (0+zG (List.take 64 s.2.2.1.1)) o_3)) - 256)) m++List.drop (256+zG (List.take (zI (zF (zG (List.take 64 s.2.2.1.1++List.drop (0+zG (List.take 64 s.2.2.1.1)) o_3)) - 256)) m)) (List.take 64 s.2.2.1.1++List.drop (0+zG (List.take 64 s.2.2.1.1)) o_3))))))))
def YT(self3:kR->Int->List Int->List Bool->List Bool->List Int->Option bV)(s:kR)(t57:Int)(m:List Int)(o o_2:List Bool)(o_3:List Int):Option bV :=
 if lt t57 8=true then need (ge (add .i64 512 (mul .i64 t57 32)) 0) (need (le (add .i64 512 (mul .i64 t57 32)) (zF (zG o_3))) (need (le (zF (zG o_3)) (zF (zG o_3))) (zC (at? m 0) fun y=>zC (YP (s.2.2.1.2.2.2.2.2.1,y,t57,())) fun y=>need (le (add .i64 512 (mul .i64 t57 32)+(zF (zG o_3) - add .i64 512 (mul .i64 t57 32))) (zF (zG o_3))) (self3 s (add .i64 t57 1) m o o_2 (List.take (zI (add .i64 512 (mul .i64 t57 32))) o_3++List.take (zI (zF (zG o_3) - add .i64 512 (mul .i64 t57 32))) y.1++List.drop (zI (add .i64 512 (mul .i64 t57 32))+zG (List.take (zI (zF (zG o_3) - add .i64 512 (mul .i64 t57 32))) y.1)) o_3))))) else some ((o,o_2,o_3,m),())
def YU(j1:kR->List Int->List Bool->List Bool->List Int->Option bV)(s:kR):Option bV :=
 amb (au d9.rs) [amb (au d9.rs) [amb (au d9.rs) [amb (au d9.rs) [zC (gG (s.2.2.1,())) fun y=>j1 s y.1 (zE 16 false) (zE 8 false) (zE 756 0),zC (gG (s.2.2.1,())) fun y=>j1 s y.1 (zE 16 false) (zE 8 false) (zE 756 0)],amb (au d9.rs) [zC (gG (s.2.2.1,())) fun y=>amb (au d9.rs) [j1 s y.1 (zE 16 false) (zE 8 false) (zE 756 0),j1 s y.1 (zE 16 false) (zE 8 false) (zE 756 0)],amb (au d9.rs) [zC (gG (s.2.2.1,())) fun y=>j1 s y.1 (zE 16 false) (zE 8 false) (zE 756 0),zC (gG (s.2.2.1,())) fun y=>j1 s y.1 (zE 16 false) (zE 8 false) (zE 756 0)]]],amb (au d9.rs) [amb (au d9.rs) [amb (au d9.rs) [zC (gG (s.2.2.1,())) fun y=>j1 s y.1 (zE 16 false) (zE 8 false) (zE 756 0),zC (gG (s.2.2.1,())) fun y=>j1 s y.1 (zE 16 false) (zE 8 false) (zE 756 0)],amb (au d9.rs) [zC (gG (s.2.2.1,())) fun y=>amb (au d9.rs) [j1 s y.1 (zE 16 false) (zE 8 false) (zE 756 0),j1 s y.1 (zE 16 false) (zE 8 false) (zE 756 0)],amb (au d9.rs) [zC (gG (s.2.2.1,())) fun y=>j1 s y.1 (zE 16 false) (zE 8 false) (zE 756 0),zC (gG (s.2.2.1,())) fun y=>j1 s y.1 (zE 16 false) (zE 8 false) (zE 756 0)]]],amb (au d9.rs) [zC (gG (s.2.2.1,())) fun y=>amb (au d9.rs) [amb (au d9.rs) [j1 s y.1 (zE 16 false) (zE 8 false) (zE 756 0),j1 s y.1 (zE 16 false) (zE 8 false) (zE 756 0)],amb (au d9.rs) [amb (au d9.rs) [j1 s y.1 (zE 16 false) (zE 8 false) (zE 756 0),j1 s y.1 (zE 16 false) (zE 8 false) (zE 756 0)],amb (au d9.rs) [j1 s y.1 (zE 16 false) (zE 8 false) (zE 756 0),j1 s y.1 (zE 16 false) (zE 8 false) (zE 756 0)]]],amb (au d9.rs) [amb (au d9.rs) [zC (gG (s.2.2.1,())) fun y=>j1 s y.1 (zE 16 false) (zE 8 false) (zE 756 0),zC (gG (s.2.2.1,())) fun y=>j1 s y.1 (zE 16 false) (zE 8 false) (zE 756 0)],amb (au d9.rs) [amb (au d9.rs) [zC (gG (s.2.2.1,())) fun y=>j1 s y.1 (zE 16 false) (zE 8 false) (zE 756 0),zC (gG (s.2.2.1,())) fun y=>j1 s y.1 (zE 16 false) (zE 8 false) (zE 756 0)],zC (gG (s.2.2.1,())) fun y=>amb (au d9.rs) [j1 s y.1 (zE 16 false) (zE 8 false) (zE 756 0),j1 s y.1 (zE 16 false) (zE 8 false) (zE 756 0)]]]]]],amb (au d9.rs) [amb (au d9.rs) [amb (au d9.rs) [amb (au d9.rs) [zC (gG (s.2.2.1,())) fun y=>j1 s y.1 (zE 16 false) (zE 8 false) (zE 756 0),zC (gG (s.2.2.1,())) fun y=>j1 s y.1 (zE 16 false) (zE 8 false) (zE 756 0)],amb (au d9.rs) [zC (gG (s.2.2.1,())) fun y=>amb (au d9.rs) [j1 s y.1 (zE 16 false) (zE 8 false) (zE 756 0),j1 s y.1 (zE 16 false) (zE 8 false) (zE 756 0)],amb (au d9.rs) [zC (gG (s.2.2.1,())) fun y=>j1 s y.1 (zE 16 false) (zE 8 false) (zE 756 0),zC (gG (s.2.2.1,())) fun y=>j1 s y.1 (zE 16 false) (zE 8 false) (zE 756 0)]]],amb (au d9.rs) [amb (au d9.rs) [amb (au d9.rs) [zC (gG (s.2.2.1,())) fun y=>j1 s y.1 (zE 16 false) (zE 8 false) (zE 756 0),zC (gG (s.2.2.1,())) fun y=>j1 s y.1 (zE 16 false) (zE 8 false) (zE 756 0)],amb (au d9.rs) [zC (gG (s.2.2.1,())) fun y=>amb (au d9.rs) [j1 s y.1 (zE 16 false) (zE 8 false) (zE 756 0),j1 s y.1 (zE 16 false) (zE 8 false) (zE 756 0)],amb (au d9.rs) [zC (gG (s.2.2.1,())) fun y=>j1 s y.1 (zE 16 false) (zE 8 false) (zE 756 0),zC (gG (s.2.2.1,())) fun y=>j1 s y.1 (zE 16 false) (zE 8 false) (zE 756 0)]]],amb (au d9.rs) [zC (gG (s.2.2.1,())) fun y=>amb (au d9.rs) [amb (au d9.rs) [j1 s y.1 (zE 16 false) (zE 8 false) (zE 756 0),j1 s y.1 (zE 16 false) (zE 8 false) (zE 756 0)],amb (au d9.rs) [amb (au d9.rs) [j1 s y.1 (zE 16 false) (zE 8 false) (zE 756 0),j1 s y.1 (zE 16 false) (zE 8 false) (zE 756 0)],amb (au d9.rs) [j1 s y.1 (zE 16 false) (zE 8 false) (zE 756 0),j1 s y.1 (zE 16 false) (zE 8 false) (zE 756 0)]]],amb (au d9.rs) [amb (au d9.rs) [zC (gG (s.2.2.1,())) fun y=>j1 s y.1 (zE 16 false) (zE 8 false) (zE 756 0),zC (gG (s.2.2.1,())) fun y=>j1 s y.1 (zE 16 false) (zE 8 false) (zE 756 0)],amb (au d9.rs) [amb (au d9.rs) [zC (gG (s.2.2.1,())) fun y=>j1 s y.1 (zE 16 false) (zE 8 false) (zE 756 0),zC (gG (s.2.2.1,())) fun y=>j1 s y.1 (zE 16 false) (zE 8 false) (zE 756 0)],zC (gG (s.2.2.1,())) fun y=>amb (au d9.rs) [j1 s y.1 (zE 16 false) (zE 8 false) (zE 756 0),j1 s y.1 (zE 16 false) (zE 8 false) (zE 756 0)]]]]]],amb (au d9.rs) [amb (au d9.rs) [amb (au d9.rs) [amb (au d9.rs) [zC (gG (s.2.2.1,())) fun y=>j1 s y.1 (zE 16 false) (zE 8 false) (zE 756 0),zC (gG (s.2.2.1,())) fun y=>j1 s y.1 (zE 16 false) (zE 8 false) (zE 756 0)],amb (au d9.rs) [zC (gG (s.2.2.1,())) fun y=>amb (au d9.rs) [j1 s y.1 (zE 16 false) (zE 8 false) (zE 756 0),j1 s y.1 (zE 16 false) (zE 8 false) (zE 756 0)],amb (au d9.rs) [zC (gG (s.2.2.1,())) fun y=>j1 s y.1 (zE 16 false) (zE 8 false) (zE 756 0),zC (gG (s.2.2.1,())) fun y=>j1 s y.1 (zE 16 false) (zE 8 false) (zE 756 0)]]],amb (au d9.rs) [amb (au d9.rs) [amb (au d9.rs) [zC (gG (s.2.2.1,())) fun y=>j1 s y.1 (zE 16 false) (zE 8 false) (zE 756 0),zC (gG (s.2.2.1,())) fun y=>j1 s y.1 (zE 16 false) (zE 8 false) (zE 756 0)],amb (au d9.rs) [zC (gG (s.2.2.1,())) fun y=>amb (au d9.rs) [j1 s y.1 (zE 16 false) (zE 8 false) (zE 756 0),j1 s y.1 (zE 16 false) (zE 8 false) (zE 756 0)],amb (au d9.rs) [zC (gG (s.2.2.1,())) fun y=>j1 s y.1 (zE 16 false) (zE 8 false) (zE 756 0),zC (gG (s.2.2.1,())) fun y=>j1 s y.1 (zE 16 false) (zE 8 false) (zE 756 0)]]],amb (au d9.rs) [zC (gG (s.2.2.1,())) fun y=>amb (au d9.rs) [amb (au d9.rs) [j1 s y.1 (zE 16 false) (zE 8 false) (zE 756 0),j1 s y.1 (zE 16 false) (zE 8 false) (zE 756 0)],amb (au d9.rs) [amb (au d9.rs) [j1 s y.1 (zE 16 false) (zE 8 false) (zE 756 0),j1 s y.1 (zE 16 false) (zE 8 false) (zE 756 0)],amb (au d9.rs) [j1 s y.1 (zE 16 false) (zE 8 false) (zE 756 0),j1 s y.1 (zE 16 false) (zE 8 false) (zE 756 0)]]],amb (au d9.rs) [amb (au d9.rs) [zC (gG (s.2.2.1,())) fun y=>j1 s y.1 (zE 16 false) (zE 8 false) (zE 756 0),zC (gG (s.2.2.1,())) fun y=>j1 s y.1 (zE 16 false) (zE 8 false) (zE 756 0)],amb (au d9.rs) [amb (au d9.rs) [zC (gG (s.2.2.1,())) fun y=>j1 s y.1 (zE 16 false) (zE 8 false) (zE 756 0),zC (gG (s.2.2.1,())) fun y=>j1 s y.1 (zE 16 false) (zE 8 false) (zE 756 0)],zC (gG (s.2.2.1,())) fun y=>amb (au d9.rs) [j1 s y.1 (zE 16 false) (zE 8 false) (zE 756 0),j1 s y.1 (zE 16 false) (zE 8 false) (zE 756 0)]]]]]],amb (au d9.rs) [zC (gG (s.2.2.1,())) fun y=>amb (au d9.rs) [amb (au d9.rs) [amb (au d9.rs) [j1 s y.1 (zE 16 false) (zE 8 false) (zE 756 0),j1 s y.1 (zE 16 false) (zE 8 false) (zE 756 0)],amb (au d9.rs) [amb (au d9.rs) [j1 s y.1 (zE 16 false) (zE 8 false) (zE 756 0),j1 s y.1 (zE 16 false) (zE 8 false) (zE 756 0)],amb (au d9.rs) [j1 s y.1 (zE 16 false) (zE 8 false) (zE 756 0),j1 s y.1 (zE 16 false) (zE 8 false) (zE 756 0)]]],amb (au d9.rs) [amb (au d9.rs) [amb (au d9.rs) [j1 s y.1 (zE 16 false) (zE 8 false) (zE 756 0),j1 s y.1 (zE 16 false) (zE 8 false) (zE 756 0)],amb (au d9.rs) [amb (au d9.rs) [j1 s y.1 (zE 16 false) (zE 8 false) (zE 756 0),j1 s y.1 (zE 16 false) (zE 8 false) (zE 756 0)],amb (au d9.rs) [j1 s y.1 (zE 16 false) (zE 8 false) (zE 756 0),j1 s y.1 (zE 16 false) (zE 8 false) (zE 756 0)]]],amb (au d9.rs) [amb (au d9.rs) [amb (au d9.rs) [j1 s y.1 (zE 16 false) (zE 8 false) (zE 756 0),j1 s y.1 (zE 16 false) (zE 8 false) (zE 756 0)],amb (au d9.rs) [amb (au d9.rs) [j1 s y.1 (zE 16 false) (zE 8 false) (zE 756 0),j1 s y.1 (zE 16 false) (zE 8 false) (zE 756 0)],amb (au d9.rs) [j1 s y.1 (zE 16 false) (zE 8 false) (zE 756 0),j1 s y.1 (zE 16 false) (zE 8 false) (zE 756 0)]]],amb (au d9.rs) [amb (au d9.rs) [j1 s y.1 (zE 16 false) (zE 8 false) (zE 756 0),j1 s y.1 (zE 16 false) (zE 8 false) (zE 756 0)],amb (au d9.rs) [amb (au d9.rs) [j1 s y.1 (zE 16 false) (zE 8 false) (zE 756 0),j1 s y.1 (zE 16 false) (zE 8 false) (zE 756 0)],amb (au d9.rs) [j1 s y.1 (zE 16 false) (zE 8 false) (zE 756 0),j1 s y.1 (zE 16 false) (zE 8 false) (zE 756 0)]]]]]],amb (au d9.rs) [amb (au d9.rs) [amb (au d9.rs) [zC (gG (s.2.2.1,())) fun y=>j1 s y.1 (zE 16 false) (zE 8 false) (zE 756 0),zC (gG (s.2.2.1,())) fun y=>j1 s y.1 (zE 16 false) (zE 8 false) (zE 756 0)],amb (au d9.rs) [amb (au d9.rs) [zC (gG (s.2.2.1,())) fun y=>j1 s y.1 (zE 16 false) (zE 8 false) (zE 756 0),zC (gG (s.2.2.1,())) fun y=>j1 s y.1 (zE 16 false) (zE 8 false) (zE 756 0)],zC (gG (s.2.2.1,())) fun y=>amb (au d9.rs) [j1 s y.1 (zE 16 false) (zE 8 false) (zE 756 0),j1 s y.1 (zE 16 false) (zE 8 false) (zE 756 0)]]],amb (au d9.rs) [amb (au d9.rs) [amb (au d9.rs) [zC (gG (s.2.2.1,())) fun y=>j1 s y.1 (zE 16 false) (zE 8 false) (zE 756 0),zC (gG (s.2.2.1,())) fun y=>j1 s y.1 (zE 16 false) (zE 8 false) (zE 756 0)],amb (au d9.rs) [amb (au d9.rs) [zC (gG (s.2.2.1,())) fun y=>j1 s y.1 (zE 16 false) (zE 8 false) (zE 756 0),zC (gG (s.2.2.1,())) fun y=>j1 s y.1 (zE 16 false) (zE 8 false) (zE 756 0)],zC (gG (s.2.2.1,())) fun y=>amb (au d9.rs) [j1 s y.1 (zE 16 false) (zE 8 false) (zE 756 0),j1 s y.1 (zE 16 false) (zE 8 false) (zE 756 0)]]],amb (au d9.rs) [amb (au d9.rs) [amb (au d9.rs) [zC (gG (s.2.2.1,())) fun y=>j1 s y.1 (zE 16 false) (zE 8 false) (zE 756 0),zC (gG (s.2.2.1,())) fun y=>j1 s y.1 (zE 16 false) (zE 8 false) (zE 756 0)],amb (au d9.rs) [amb (au d9.rs) [zC (gG (s.2.2.1,())) fun y=>j1 s y.1 (zE 16 false) (zE 8 false) (zE 756 0),zC (gG (s.2.2.1,())) fun y=>j1 s y.1 (zE 16 false) (zE 8 false) (zE 756 0)],zC (gG (s.2.2.1,())) fun y=>amb (au d9.rs) [j1 s y.1 (zE 16 false) (zE 8 false) (zE 756 0),j1 s y.1 (zE 16 false) (zE 8 false) (zE 756 0)]]],zC (gG (s.2.2.1,())) fun y=>amb (au d9.rs) [amb (au d9.rs) [j1 s y.1 (zE 16 false) (zE 8 false) (zE 756 0),j1 s y.1 (zE 16 false) (zE 8 false) (zE 756 0)],amb (au d9.rs) [amb (au d9.rs) [j1 s y.1 (zE 16 false) (zE 8 false) (zE 756 0),j1 s y.1 (zE 16 false) (zE 8 false) (zE 756 0)],amb (au d9.rs) [j1 s y.1 (zE 16 false) (zE 8 false) (zE 756 0),j1 s y.1 (zE 16 false) (zE 8 false) (zE 756 0)]]]]]]]]]]
def IX(s:kR)(t57:Int)(m:List Int)(o o_2:List Bool)(o_3:List Int):Option bV :=
 cu (fun self s=>YT (fun s t57 m o o_2 o_3=>self (s,t57,m,o,o_2,o_3)) s.1 s.2.1 s.2.2.1 s.2.2.2.1 s.2.2.2.2.1 s.2.2.2.2.2) 18446744073709551616 (s,t57,m,o,o_2,o_3)
def aj6:=YS (IX)
def aj7:=YR (aj6)
def qO(x:As cM):Option bV:=YU aj7 x.1
abbrev pDb:=zp aj2 aj3 228 d9
theorem ay1{J w3 a b c d e f}:pDb J 4090 [w3] (YQ a b c d e f)=YT (C w3 YQ) a b c d e f:=by kernel_rfl
theorem ay2{J a b c d e}:pDb J 15 [] (aj5 a b c d e)=YS (C (J 4090 []) YQ) a b c d e:=by kernel_rfl
theorem ay3{J a b c d e}:pDb J 3 [] (aj4 a b c d e)=YR (C (J 15 []) aj5) a b c d e:=by kernel_rfl
abbrev pDa:=zj aj2 aj3 228 d9
theorem ay4:C (pDa 4090 []) YQ=IX:=gLC (by decide) (by kernel_rfl) (fun _=>by unfold IX;rfl) fun _ _=>ay1.trans (by kernel_rfl)
theorem ay5:C (pDa 15 []) aj5=aj6:=gNC (by decide) fun _=>ay2.trans (by rw[ay4]<;>kernel_rfl)
theorem ay6:C (pDa 3 []) aj4=aj7:=gNC (by decide) fun _=>ay3.trans (by rw[ay5]<;>kernel_rfl)
theorem ay7:ak Tryz.prog (fun _=>True) 228 ⟨d9,qO⟩:=zcc (env:=aj2) (d:=6) (hs:=Ev.get aj3) (aj Ev.gq (aj IU (aj ag5 (aj ayX (aj ay0 av))))) (fun J x=>YU (C (J 3 []) aj4) x.1) (fun _ _=>by kernel_rfl) fun _=>by rw[ay6]<;>rfl
@[reducible] def nQ:Sh:=⟨[.d bB,.d bA],[],[.pr (.int .u8) aA,.pr (.int .u8) kF],[.d aP],[],0,aS⟩
def aj8:Env:=(cts [(2000045,Ev.gU),(165,(⟨Pg,vB⟩:Ct)),(201,(⟨Ia,vw⟩:Ct)),(227,(⟨YB,lD⟩:Ct)),(228,(⟨d9,qO⟩:Ct))])
def aj9:List (Nat×Hint):=[(15,⟨[],[2,3,4,7]⟩),(31,⟨[],[3,4,9]⟩)]
def akb(s:kR)(a:nP)(t4 t4_2 t4_3 t4_4 read read_2 read_3 read_4:Int):St:=⟨[(2,.pe bB s),(3,.pb 0 0),(4,.pb 1 0),(7,.pb 2 0)],40,[],[(0,.box 27 [d8 a.1,d6 a.2.1,d6 a.2.2.1,d6 a.2.2.2.1,dW a.2.2.2.2.1,.d (.sl .bool) a.2.2.2.2.2]),(1,.box 109 [d8 t4,d8 t4_2,.k (zK zH 0 0),.k (zK zH 0 0),d6 t4_3,d6 t4_4]),(2,.box 27 [d8 read,d6 read_2,d6 read_3,d6 read_4,.k (zK zH 0 0),.k (zK zH 0 0)])],3,[],0⟩
def akc(a:nP)(t4 t4_2 t4_3 t4_4:Int)(r:Int×Int×List Bool×List Int×Int×Int):St:=⟨[(3,.pb 0 0),(4,.pb 1 0),(9,.pb 2 0)],40,[],[(0,.box 27 [d8 a.1,d6 a.2.1,d6 a.2.2.1,d6 a.2.2.2.1,dW a.2.2.2.2.1,.d (.sl .bool) a.2.2.2.2.2]),(1,.box 109 [d8 t4,d8 t4_2,.k (zK zH 0 0),.k (zK zH 0 0),d6 t4_3,d6 t4_4]),(2,.box 109 [d8 r.1,d8 r.2.1,.d (.sl .bool) r.2.2.1,dW r.2.2.2.1,d6 r.2.2.2.2.1,d6 r.2.2.2.2.2])],3,[],0⟩
def YV(j2:nP->Int->Int->Int->Int->Int×Int×List Bool×List Int×Int×Int->Option cW)(s:kR)(a:nP)(t4 t4_2 t4_3 t4_4 read read_2 read_3 read_4:Int):Option cW :=
 amb (au nQ.rs) [zC (vB ()) fun y=>amb (au nQ.rs) [zC (qO (s,())) fun y_1=>amb (au nQ.rs) [zC (lD (y.1,y_1.1,(read,read_2,read_3,read_4,[],[]),())) fun y=>amb (au nQ.rs) [j2 a t4 t4_2 t4_3 t4_4 y.2.1,j2 a t4 t4_2 t4_3 t4_4 y.2.1],amb (au nQ.rs) [amb (au nQ.rs) [zC (lD (y.1,y_1.1,(read,read_2,read_3,read_4,[],[]),())) fun y=>j2 a t4 t4_2 t4_3 t4_4 y.2.1,zC (lD (y.1,y_1.1,(read,read_2,read_3,read_4,[],[]),())) fun y=>j2 a t4 t4_2 t4_3 t4_4 y.2.1],amb (au nQ.rs) [zC (lD (y.1,y_1.1,(read,read_2,read_3,read_4,[],[]),())) fun y=>j2 a t4 t4_2 t4_3 t4_4 y.2.1,zC (lD (y.1,y_1.1,(read,read_2,read_3,read_4,[],[]),())) fun y=>j2 a t4 t4_2 t4_3 t4_4 y.2.1]]],amb (au nQ.rs) [amb (au nQ.rs) [zC (qO (s,())) fun y_1=>amb (au nQ.rs) [zC (lD (y.1,y_1.1,(read,read_2,read_3,read_4,[],[]),())) fun y=>j2 a t4 t4_2 t4_3 t4_4 y.2.1,zC (lD (y.1,y_1.1,(read,read_2,read_3,read_4,[],[]),())) fun y=>j2 a t4 t4_2 t4_3 t4_4 y.2.1],zC (qO (s,())) fun y_1=>zC (lD (y.1,y_1.1,(read,read_2,read_3,read_4,[],[]),())) fun y=>j2 a t4 t4_2 t4_3 t4_4 y.2.1],amb (au nQ.rs) [zC (qO (s,())) fun y_1=>amb (au nQ.rs) [zC (lD (y.1,y_1.1,(read,read_2,read_3,read_4,[],[]),())) fun y=>j2 a t4 t4_2 t4_3 t4_4 y.2.1,zC (lD (y.1,y_1.1,(read,read_2,read_3,read_4,[],[]),())) fun y=>j2 a t4 t4_2 t4_3 t4_4 y.2.1],zC (qO (s,())) fun y_1=>zC (lD (y.1,y_1.1,(read,read_2,read_3,read_4,[],[]),())) fun y=>j2 a t4 t4_2 t4_3 t4_4 y.2.1]]],amb (au nQ.rs) [amb (au nQ.rs) [zC (vB ()) fun y=>amb (au nQ.rs) [zC (qO (s,())) fun y_1=>amb (au nQ.rs) [zC (lD (y.1,y_1.1,(read,read_2,read_3,read_4,[],[]),())) fun y=>j2 a t4 t4_2 t4_3 t4_4 y.2.1,zC (lD (y.1,y_1.1,(read,read_2,read_3,read_4,[],[]),())) fun y=>j2 a t4 t4_2 t4_3 t4_4 y.2.1],zC (qO (s,())) fun y_1=>zC (lD (y.1,y_1.1,(read,read_2,read_3,read_4,[],[]),())) fun y=>j2 a t4 t4_2 t4_3 t4_4 y.2.1],zC (vB ()) fun y=>zC (qO (s,())) fun y_1=>zC (lD (y.1,y_1.1,(read,read_2,read_3,read_4,[],[]),())) fun y=>j2 a t4 t4_2 t4_3 t4_4 y.2.1],amb (au nQ.rs) [zC (vB ()) fun y=>amb (au nQ.rs) [zC (qO (s,())) fun y_1=>amb (au nQ.rs) [zC (lD (y.1,y_1.1,(read,read_2,read_3,read_4,[],[]),())) fun y=>j2 a t4 t4_2 t4_3 t4_4 y.2.1,zC (lD (y.1,y_1.1,(read,read_2,read_3,read_4,[],[]),())) fun y=>j2 a t4 t4_2 t4_3 t4_4 y.2.1],zC (qO (s,())) fun y_1=>zC (lD (y.1,y_1.1,(read,read_2,read_3,read_4,[],[]),())) fun y=>j2 a t4 t4_2 t4_3 t4_4 y.2.1],zC (vB ()) fun y=>zC (qO (s,())) fun y_1=>zC (lD (y.1,y_1.1,(read,read_2,read_3,read_4,[],[]),())) fun y=>j2 a t4 t4_2 t4_3 t4_4 y.2.1]]]
def apa(a:nP)(t4 t4_2 t4_3 t4_4:Int)(r:Int×Int×List Bool×List Int×Int×Int):Option cW :=
 some ((a.1,r.2),())
def YW(j1:kR->nP->Int->Int->Int->Int->Int->Int->Int->Int->Option cW)(s:kR)(a:nP):Option cW :=
 zC (vw (a,())) fun y=>if y.2.1=true then some (y.1,()) else if eqi a.1 23=true then j1 s a 0 0 0 0 3 a.2.1 a.2.2.1 0 else j1 s a 0 0 0 0 a.1 a.2.1 a.2.2.1 0
def akd:=apa
def YX:=YV (akd)
def oq(x:As [.pr (.int .u8) aA,.pr (.int .u8) kF]):Option cW:=YW YX x.1 x.2.1
abbrev pDh:=zp aj8 aj9 168 nQ
theorem ay8{J a b c d e f}:pDh J 31 [] (akc a b c d e f)=apa a b c d e f:=by kernel_rfl
theorem ay9{J a b c d e f g h i j}:pDh J 15 [] (akb a b c d e f g h i j)=YV (C (J 31 []) akc) a b c d e f g h i j:=by kernel_rfl
abbrev pDg:=zj aj8 aj9 168 nQ
theorem aza:C (pDg 31 []) akc=akd:=gNC (by decide) fun _=>ay8
theorem azb:C (pDg 15 []) akb=YX:=gNC (by decide) fun _=>ay9.trans (by rw[aza]<;>kernel_rfl)
theorem azc:ak Tryz.prog (fun _=>True) 168 ⟨nQ,oq⟩:=zcc (env:=aj8) (d:=6) (hs:=Ev.get aj9) (aj Ev.gq (aj ao6 (aj ahr (aj ayP (aj ay7 av))))) (fun J x=>YW (C (J 15 []) akb) x.1 x.2.1) (fun _ _=>by kernel_rfl) fun _=>by rw[azb]<;>rfl
@[reducible] def dQ:List Ty:=[.pr (.int .u16) C5,.int .i64]
@[reducible] def YY:Sh:=⟨[.d aB],[],aK,[.d cL,.d (.int .i64)],[],0,dQ⟩
def ake:Env:=(cts [(270,(⟨VL,qL⟩:Ct))])
def akf:List (Nat×Hint):=[(6,⟨[],[0,2,18]⟩)]
@[reducible] def zI8:Type:=Int×Int×Int×Int×Int
def akg(w:List Int)(t18:Bool)(t2:zI8):St:=⟨[(0,dW w),(2,.pb 0 0),(18,dB t18)],45,[],[(0,.box 104 [d6 t2.1,d8 t2.2.1,d2 t2.2.2.1,d6 t2.2.2.2.1,d2 t2.2.2.2.2])],1,[],0⟩
def YZ(w:List Int)(t18:Bool)(t2:zI8):Option (As dQ) :=
 if t18=true then some ((0,0,0,0,0),2,()) else zC (at? w 0) fun y=>zC (at? w 1) fun y_1=>zC (at? w 2) fun y_2=>zC (at? w 3) fun y_3=>zC (at? w 4) fun y_4=>zC (at? w 5) fun y_5=>zC (at? w 6) fun y_6=>zC (qL (y_2,y_3,())) fun y_7=>zC (qL (y_5,y_6,())) fun y_8=>some ((y,cvt .u8 y_1,y_7.1,y_4,y_8.1),0,())
def Y0(j1:List Int->Bool->Int×Int×Int×Int×Int->Option (As dQ))(w:List Int):Option (As dQ) :=
 if nei (zF (zG w)) 8=true then j1 w true (0,0,0,0,0) else zC (at? w 7) fun y=>if nei y 0=true then j1 w true (0,0,0,0,0) else zC (at? w 1) fun y=>j1 w (ge y 256) (0,0,0,0,0)
def Y1:=YZ
def IY(x:As aK):Option (As dQ):=Y0 Y1 x.1
abbrev pAd:=zp ake akf 252 YY
theorem azd{J a b c}:pAd J 6 [] (akg a b c)=YZ a b c:=by kernel_rfl
abbrev pAc:=zj ake akf 252 YY
theorem aze:C (pAc 6 []) akg=Y1:=gNC (by decide) fun _=>azd
theorem azf:ak Tryz.prog (fun _=>True) 252 ⟨YY,IY⟩:=zcc (env:=ake) (d:=6) (hs:=Ev.get akf) (aj afQ av) (fun J x=>Y0 (C (J 6 []) akg) x.1) (fun _ _=>by kernel_rfl) fun _=>by rw[aze]<;>rfl
@[reducible] def Y2:Sh:=⟨[.d aH],[],bE,[.d aH],[],0,bE⟩
def akh:Env:=(cts [(45,(⟨GV,mZ⟩:Ct))])
def aki:List (Nat×Hint):=[(58,⟨[],[1,2,12,13]⟩),(7475,⟨[.frb 5],[1,2,3,5,12,13]⟩)]
def IZ(a t2:Int)(t12:List Bool)(t13:Int)(a_2 t2_2:List jN):St:=⟨[(1,.prw 0 a 32 0),(2,.prw 1 t2 32 0),(12,.d (.ar 8 .bool) t12),(13,dI t13)],41,[],[(0,.row aH 43 a_2),(1,.row aH 43 t2_2)],2,[],0⟩
def akj(a t2 i:Int)(t12:List Bool)(t13:Int)(a_2 t2_2:List jN)(x:Int×List Int):St:=⟨[(1,.prw 0 a 32 0),(2,.prw 1 t2 32 0),(3,dI i),(5,.pb 2 0),(12,.d (.ar 8 .bool) t12),(13,dI t13)],41,[],[(0,.row aH 43 a_2),(1,.row aH 43 t2_2),(2,.box 38 [dI x.1,dW x.2])],3,[],0⟩
@[reducible] def cZ:Type:=As bE
@[reducible] def zI9:Type:=Int->Int->List Bool->Int->List jN->List jN->Option cZ
def I1(j2:Int->Int->Int->List Bool->Int->List jN->List jN->Int×List Int->Option cZ)(self1:zI9)(a t2:Int)(t12:List Bool)(t13:Int)(a_2 t2_2:List jN):Option cZ :=
 if lt t13 8=true then need (lt t13 8) (zC (at? t12 t13) fun y=>if y=true then need (ge t13 0) (need (lt t13 8) (zC (at? a_2 a) fun y=>zC (at? y.2.2.2.2.2.1.2.2 t13) fun z=>need (ge t13 0) (need (lt t13 8) (zC (at? a_2 a) fun y=>zC (at? y.2.2.2.2.2.1.2.2 t13) fun z_1=>zC (mZ (z_1.2,())) fun y=>j2 a t2 t13 t12 t13 a_2 t2_2 (z.1,y.1))))) else j2 a t2 t13 t12 t13 a_2 t2_2 (0,[])) else zC (at? a_2 a) fun y=>zC (at? t2_2 t2) fun x=>zC (at? (List.set t2_2 (zI t2) y) t2) fun y_1=>zC (at? (List.set t2_2 (zI t2) y) t2) fun y=>some (y,())
def Y3(self1:zI9)(a t2 i:Int)(t12:List Bool)(t13:Int)(a_2 t2_2:List jN)(x:Int×List Int):Option cZ :=
 need (ge i 0) (need (lt i 8) (zC (at? a_2 a) fun x_1=>zC (at? x_1.2.2.2.2.2.1.2.2 i) fun z=>self1 a t2 t12 (add .i64 t13 1) (List.set a_2 (zI a) (x_1.1,x_1.2.1,x_1.2.2.1,x_1.2.2.2.1,x_1.2.2.2.2.1,(x_1.2.2.2.2.2.1.1,x_1.2.2.2.2.2.1.2.1,List.set x_1.2.2.2.2.2.1.2.2 (zI i) x),x_1.2.2.2.2.2.2)) t2_2))
def Y4(j1:zI9)(a:nO):Option cZ :=
 zC (mZ (a.1,())) fun y=>j1 0 0 a.2.2.2.2.2.1.2.1 0 [(y.1,a.2)] [AZ]
def Po(u1:zI9):=Y3 u1
def I4(a t2:Int)(t12:List Bool)(t13:Int)(a_2 t2_2:List jN):Option cZ :=
 cu (fun self s=>I1 (Po (fun a t2 t12 t13 a_2 t2_2=>self (a,t2,t12,t13,a_2,t2_2))) (fun a t2 t12 t13 a_2 t2_2=>self (a,t2,t12,t13,a_2,t2_2)) s.1 s.2.1 s.2.2.1 s.2.2.2.1 s.2.2.2.2.1 s.2.2.2.2.2) 18446744073709551616 (a,t2,t12,t13,a_2,t2_2)
def EL(x:As bE):Option cZ:=Y4 I4 x.1
abbrev pAl:=zp akh aki 171 Y2
theorem azg{J w1 a b c d e f g h}:pAl J 7475 [w1] (akj a b c d e f g h)=Y3 (C w1 IZ) a b c d e f g h:=by kernel_rfl
theorem azh{J w1 a b c d e f}:pAl J 58 [w1] (IZ a b c d e f)=I1 (C (J 7475 [w1]) akj) (C w1 IZ) a b c d e f:=by kernel_rfl
abbrev pAk:=zj akh aki 171 Y2
theorem azi{w1}:C (pAk 7475 [w1]) akj=Po (C w1 IZ):=gNC (by decide) fun _=>azg
theorem azj:C (pAk 58 []) IZ=I4:=gLC (by decide) (by kernel_rfl) (fun _=>by unfold I4;rfl) fun _ _=>azh.trans (by rw[azi]<;>kernel_rfl)
theorem Y5:ak Tryz.prog (fun _=>True) 171 ⟨Y2,EL⟩:=zcc (env:=akh) (d:=6) (hs:=Ev.get aki) (aj A7 av) (fun J x=>Y4 (C (J 58 []) IZ) x.1) (fun _ _=>by kernel_rfl) fun _=>by rw[azj]<;>rfl
@[reducible] def fI:List Ty:=[.pr aB u6,.int .u16]
@[reducible] def apb:Sh:=⟨[.d aH,.d (.int .u16)],[],fI,[.d (.bool)],[],0,[.bool]⟩
def azk:Env:=(cts [(2000043,Ev.gU),(150,(⟨EK,qN⟩:Ct))])
def akk(a:nO)(owner:Int):Option aE :=
 zC (qN (a.2.1,())) fun y=>if (!y.1)=true then some (nei a.2.1.1 owner,()) else some (false,())
def sW(x:As fI):Option aE:=akk x.1 x.2.1
theorem as8:ak Tryz.prog (fun _=>True) 275 ⟨apb,sW⟩:=ctn (env:=azk) (aj Ev.gq (aj IU av)) 6 fun J x=>by kernel_rfl
@[reducible] def aV:List Ty:=[.pr aB u6,.pr (.int .u16) C5]
@[reducible] def azl:Sh:=⟨[.d aH,.d cL],[],aV,[.d (.bool)],[],0,[.bool]⟩
def azm:Env:=(cts [(2000043,Ev.gU)])
def akl(a:nO)(c:zI8):Option aE :=
 if le c.2.2.1 a.2.2.2.2.1=true then some (true,()) else if nei a.2.2.1 0=true then some (lt c.2.2.1 a.2.2.2.1,()) else some (false,())
def Y6(x:As aV):Option aE:=akl x.1 x.2.1
theorem azn:ak Tryz.prog (fun _=>True) 289 ⟨azl,Y6⟩:=ctn (env:=azm) (aj Ev.gq av) 6 fun J x=>by kernel_rfl
@[reducible] def apc:Sh:=⟨[.d aH],[],bE,[.d aH],[],0,bE⟩
def azo(a:nO):Option cZ :=
 some ((a.1,(0,0),0,0,a.2.2.2.2.1,zSt,a.2.2.2.2.2.2),())
def BJ(x:As bE):Option cZ:=azo x.1
theorem Pp:ak Tryz.prog (fun _=>True) 173 ⟨apc,BJ⟩:=ctn av 6 fun J x=>by kernel_rfl
@[reducible] def bT:List Ty:=[.pr (.int .u16) (.int .i64),.int .i64]
@[reducible] def akm:Sh:=⟨[.d bH,.d (.int .u16),.d (.int .i64)],[],[.pr (.int .u16) (.int .i64),.int .u16,.int .i64],[.d bH,.d (.int .i64)],[],0,bT⟩
def akn:Env:=(cts [(150,(⟨EK,qN⟩:Ct)),(198,(⟨ajP,BI⟩:Ct)),(229,(⟨ajN,y9⟩:Ct))])
def ako:List (Nat×Hint):=[(30,⟨[],[1,2,3,6,25]⟩),(14,⟨[],[1,2,3,6,15,21,22,23,24]⟩)]
def akp(owner ticks:Int)(t15:Bool)(l t6:Int×Int):St:=⟨[(1,d6 owner),(2,dI ticks),(3,.pb 0 0),(6,.pb 1 0),(15,dB t15)],35,[],[(0,.box 35 [d6 l.1,dI l.2]),(1,.box 35 [d6 t6.1,dI t6.2])],2,[],0⟩
def akq(owner ticks:Int)(t25:Bool)(l t6:Int×Int):St:=⟨[(1,d6 owner),(2,dI ticks),(3,.pb 0 0),(6,.pb 1 0),(25,dB t25)],35,[],[(0,.box 35 [d6 l.1,dI l.2]),(1,.box 35 [d6 t6.1,dI t6.2])],2,[],0⟩
@[reducible] def as9:Type:=Int->Int->Bool->Int×Int->Int×Int->Option (As bT)
def Y7(j2:as9)(owner ticks:Int)(t15:Bool)(l t6:Int×Int):Option (As bT) :=
 if t15=true then some (l,2,()) else zC (qN (l,())) fun y=>if (!y.1)=true then j2 owner ticks (nei l.1 owner) l t6 else j2 owner ticks false l t6
def Y8(owner ticks:Int)(t25:Bool)(l t6:Int×Int):Option (As bT) :=
 if t25=true then some (l,22,()) else zC (y9 (owner,())) fun y=>if (eqi l.1 y.1.1 && (eqi l.2 y.1.2 && true))=true then some (l,0,()) else some ((owner,ticks),0,())
def Y9(j1:as9)(l:Int×Int)(owner ticks:Int):Option (As bT) :=
 zC (BI (l,())) fun y=>if eqi owner 0=true then j1 owner ticks true y.1 (0,0) else j1 owner ticks (lt ticks 1) y.1 (0,0)
def Za:=Y8
def akr:=Y7 (Za)
def aks(x:As [.pr (.int .u16) (.int .i64),.int .u16,.int .i64]):Option (As bT):=Y9 akr x.1 x.2.1 x.2.2.1
abbrev pBr:=zp akn ako 297 akm
theorem azp{J a b c d e}:pBr J 30 [] (akq a b c d e)=Y8 a b c d e:=by kernel_rfl
theorem azq{J a b c d e}:pBr J 14 [] (akp a b c d e)=Y7 (C (J 30 []) akq) a b c d e:=by kernel_rfl
abbrev pBq:=zj akn ako 297 akm
theorem azr:C (pBq 30 []) akq=Za:=gNC (by decide) fun _=>azp
theorem azs:C (pBq 14 []) akp=akr:=gNC (by decide) fun _=>azq.trans (by rw[azr]<;>kernel_rfl)
theorem azt:ak Tryz.prog (fun _=>True) 297 ⟨akm,aks⟩:=zcc (env:=akn) (d:=6) (hs:=Ev.get ako) (aj IU (aj YG (aj YE av))) (fun J x=>Y9 (C (J 14 []) akp) x.1 x.2.1 x.2.2.1) (fun _ _=>by kernel_rfl) fun _=>by rw[azs]<;>rfl
@[reducible] def apd:Sh:=⟨[.d aH,.d (.int .u16)],[],fI,[.d aH],[],0,bE⟩
def akt(a:nO)(owner:Int):Option cZ :=
 zC (aks (a.2.1,owner,a.2.2.2.2.2.2,())) fun y=>some ((a.1,y.1,a.2.2),())
def EM(x:As fI):Option cZ:=akt x.1 x.2.1
theorem ape:ak Tryz.prog (fun _=>True) 278 ⟨apd,EM⟩:=ctn (aj azt av) 6 fun J x=>by kernel_rfl
@[reducible] def azu:Sh:=⟨[.d aH,.d cL],[],aV,[.d aH],[],0,bE⟩
def aku(a:nO)(c:zI8):Option cZ :=
 if eqi c.2.2.1 a.2.2.2.1=true then zC (EM (a,c.1,())) fun y=>some (y.1,()) else zC (BJ (a,())) fun y=>zC (EM (y.1,c.1,())) fun y=>some ((y.1.1,y.1.2.1,1,c.2.2.1,y.1.2.2.2.2.1,(c.2.2.1,y.1.2.2.2.2.2.1.2),y.1.2.2.2.2.2.2),())
def Zb(x:As aV):Option cZ:=aku x.1 x.2.1
theorem azv:ak Tryz.prog (fun _=>True) 290 ⟨azu,Zb⟩:=ctn (aj Pp (aj ape av)) 6 fun J x=>by kernel_rfl
@[reducible] def Zc:Sh:=⟨[.d aH,.d (.int .u8),.d (.int .u32)],[],[.pr aB u6,.int .u8,.int .u32],[.d (.bool)],[],0,[.bool]⟩
def azw:Env:=(cts [(2000043,Ev.gU)])
def Zd(a:nO)(phase tx:Int):Option aE :=
 if eqi a.2.2.1 phase=true then some (eqi a.2.2.2.1 tx,()) else some (false,())
def za(x:As [.pr aB u6,.int .u8,.int .u32]):Option aE:=Zd x.1 x.2.1 x.2.2.1
theorem Ze:ak Tryz.prog (fun _=>True) 276 ⟨Zc,za⟩:=ctn (env:=azw) (aj Ev.gq av) 6 fun J x=>by kernel_rfl
@[reducible] def Zf:Sh:=⟨[.d bq],[],cB,[.d bq],[],0,cB⟩
def akv(x:Int×List Int):Option (As cB) :=
 zC (mZ (x.2,())) fun y=>some ((x.1,y.1),())
def BK(x:As cB):Option (As cB):=akv x.1
theorem akw:ak Tryz.prog (fun _=>True) 91 ⟨Zf,BK⟩:=ctn (aj A7 av) 6 fun J x=>by kernel_rfl
@[reducible] def Pq:Sh:=⟨[.d (.pr (.int .u32) (.pr (.ar 8 .bool) (.ar 8 bq)))],[],[.pr (.int .u32) (.pr (.ar 8 .bool) (.ar 8 bq))],[.d (.sl bq)],[],0,[.sl bq]⟩
def akx:Env:=(cts [(2000041,Ev.gU),(91,(⟨Zf,BK⟩:Ct))])
def aky:List (Nat×Hint):=[(58,⟨[.row 3 38],[1,3,7,8]⟩)]
def Zg(s:zI7)(t7:List Bool)(t8:Int)(l:List (Int×List Int)):St:=⟨[(1,.pe (.pr (.int .u32) (.pr (.ar 8 .bool) (.ar 8 bq))) s),(3,.row 0),(7,.d (.ar 8 .bool) t7),(8,dI t8)],23,[],[(0,.row bq 38 l)],1,[],0⟩
@[reducible] def ata:Type:=Int×List Bool×List (Int×List Int)->List Bool->Int->List (Int×List Int)->Option cR
def I5(self1:ata)(s:zI7)(t7:List Bool)(t8:Int)(l:List (Int×List Int)):Option cR :=
 if lt t8 8=true then need (lt t8 8) (zC (at? t7 t8) fun y=>if y=true then zC (at? s.2.2 t8) fun y=>zC (BK (y,())) fun y=>need (small (zG l+Nat.succ 0)) (self1 s t7 (add .i64 t8 1) (l++[y.1])) else self1 s t7 (add .i64 t8 1) l) else some (l,())
def apf(j1:ata)(s:zI7):Option cR :=
 j1 s s.2.1 0 []
def Pt(s:zI7)(t7:List Bool)(t8:Int)(l:List (Int×List Int)):Option cR :=
 cu (fun self s=>I5 (fun s t7 t8 l=>self (s,t7,t8,l)) s.1 s.2.1 s.2.2.1 s.2.2.2) 18446744073709551616 (s,t7,t8,l)
def ze(x:As [.pr (.int .u32) (.pr (.ar 8 .bool) (.ar 8 bq))]):Option cR:=apf Pt x.1
abbrev pDz:=zp akx aky 41 Pq
theorem azx{J w1 a b c d}:pDz J 58 [w1] (Zg a b c d)=I5 (C w1 Zg) a b c d:=by kernel_rfl
abbrev pDy:=zj akx aky 41 Pq
theorem azy:C (pDy 58 []) Zg=Pt:=gLC (by decide) (by kernel_rfl) (fun _=>by unfold Pt;rfl) fun _ _=>azx.trans (by kernel_rfl)
theorem akz:ak Tryz.prog (fun _=>True) 41 ⟨Pq,ze⟩:=zcc (env:=akx) (d:=6) (hs:=Ev.get aky) (aj Ev.gq (aj akw av)) (fun J x=>apf (C (J 58 []) Zg) x.1) (fun _ _=>by kernel_rfl) fun _=>by rw[azy]<;>rfl
@[reducible] def Zh:Sh:=⟨[.d (.pr (.int .u32) (.pr (.ar 8 .bool) (.ar 8 bq))),.d (.int .i64),.d (.int .u32)],[],[.pr (.int .u32) (.pr (.ar 8 .bool) (.ar 8 bq)),.int .i64,.int .u32],[.d (.bool)],[],0,[.bool]⟩
def akA:Env:=(cts [(2000041,Ev.gU),(41,(⟨Pq,ze⟩:Ct)),(242,(⟨Nw,Hy⟩:Ct))])
def akB:List (Nat×Hint):=[(7,⟨[],[2,3]⟩),(58,⟨[],[1,2,3,16,17]⟩),(6,⟨[],[1,2,3,14]⟩)]
def akC(count check:Int)(s:zI7)(t14:Bool):St:=⟨[(1,dI count),(2,d2 check),(3,.pe (.pr (.int .u32) (.pr (.ar 8 .bool) (.ar 8 bq))) s),(14,dB t14)],32,[],[],0,[],0⟩
def Zi(count check:Int)(s:zI7)(t16:List Bool)(t17:Int):St:=⟨[(1,dI count),(2,d2 check),(3,.pe (.pr (.int .u32) (.pr (.ar 8 .bool) (.ar 8 bq))) s),(16,.d (.ar 8 .bool) t16),(17,dI t17)],32,[],[],0,[],0⟩
def akD(check:Int)(s:zI7):St:=⟨[(2,d2 check),(3,.pe (.pr (.int .u32) (.pr (.ar 8 .bool) (.ar 8 bq))) s)],32,[],[],0,[],0⟩
@[reducible] def atb:Type:=Int->Int->Int×List Bool×List (Int×List Int)->List Bool->Int->Option aE
def apg(j2:atb)(count check:Int)(s:zI7)(t14:Bool):Option aE :=
 if t14=true then some (false,()) else j2 count check s s.2.1 0
def EN(j3:Int->Int×List Bool×List (Int×List Int)->Option aE)(self2:atb)(count check:Int)(s:zI7)(t16:List Bool)(t17:Int):Option aE :=
 if lt t17 8=true then need (lt t17 8) (zC (at? t16 t17) fun y=>if Sx.neb y (lt t17 count)=true then some (false,()) else self2 count check s t16 (add .i64 t17 1)) else j3 check s
def Zj(check:Int)(s:zI7):Option aE :=
 zC (ze (s,())) fun y=>zC (Hy (y.1,())) fun y=>some (eqi y.1 check,())
def Zk(j1:Int->Int->Int×List Bool×List (Int×List Int)->Bool->Option aE)(s:zI7)(count check:Int):Option aE :=
 if lt count 0=true then j1 count check s true else j1 count check s (gt count 8)
def BL:=Zj
def Pv(count check:Int)(s:zI7)(t16:List Bool)(t17:Int):Option aE :=
 cu (fun self s=>EN (BL) (fun count check s t16 t17=>self (count,check,s,t16,t17)) s.1 s.2.1 s.2.2.1 s.2.2.2.1 s.2.2.2.2) 18446744073709551616 (count,check,s,t16,t17)
def Zl:=apg (Pv)
def Zm(x:As [.pr (.int .u32) (.pr (.ar 8 .bool) (.ar 8 bq)),.int .i64,.int .u32]):Option aE:=Zk Zl x.1 x.2.1 x.2.2.1
abbrev pD7:=zp akA akB 299 Zh
theorem azz{J a b}:pD7 J 7 [] (akD a b)=Zj a b:=by kernel_rfl
theorem azA{J w2 a b c d e}:pD7 J 58 [w2] (Zi a b c d e)=EN (C (J 7 []) akD) (C w2 Zi) a b c d e:=by kernel_rfl
theorem azB{J a b c d}:pD7 J 6 [] (akC a b c d)=apg (C (J 58 []) Zi) a b c d:=by kernel_rfl
abbrev pD6:=zj akA akB 299 Zh
theorem azC:C (pD6 7 []) akD=BL:=gNC (by decide) fun _=>azz
theorem azD:C (pD6 58 []) Zi=Pv:=gLC (by decide) (by kernel_rfl) (fun _=>by unfold Pv;rfl) fun _ _=>azA.trans (by rw[azC]<;>kernel_rfl)
theorem azE:C (pD6 6 []) akC=Zl:=gNC (by decide) fun _=>azB.trans (by rw[azD]<;>kernel_rfl)
theorem azF:ak Tryz.prog (fun _=>True) 299 ⟨Zh,Zm⟩:=zcc (env:=akA) (d:=6) (hs:=Ev.get akB) (aj Ev.gq (aj akz (aj aog av))) (fun J x=>Zk (C (J 6 []) akC) x.1 x.2.1 x.2.2.1) (fun _ _=>by kernel_rfl) fun _=>by rw[azE]<;>rfl
@[reducible] def azG:Sh:=⟨[.d aH,.d cL],[],aV,[.d (.bool)],[],0,[.bool]⟩
def azH:Env:=(cts [(2000043,Ev.gU),(276,(⟨Zc,za⟩:Ct)),(299,(⟨Zh,Zm⟩:Ct))])
def akE(a:nO)(c:zI8):Option aE :=
 zC (za (a,2,c.2.2.1,())) fun y=>if y.1=true then some (false,()) else zC (za (a,1,c.2.2.1,())) fun y=>if (!y.1)=true then some (true,()) else zC (Zm (a.2.2.2.2.2.1,cvt .i64 c.2.2.2.1,c.2.2.2.2,())) fun y=>some (!y.1,())
def Zn(x:As aV):Option aE:=akE x.1 x.2.1
theorem azI:ak Tryz.prog (fun _=>True) 291 ⟨azG,Zn⟩:=ctn (env:=azH) (aj Ev.gq (aj Ze (aj azF av))) 6 fun J x=>by kernel_rfl
@[reducible] def azJ:Sh:=⟨[.d bH,.d (.int .u16)],[],[.pr (.int .u16) (.int .i64),.int .u16],[.d bH,.d (.int .i64)],[],0,bT⟩
def akF(l:Int×Int)(owner:Int):Option (As bT) :=
 zC (BI (l,())) fun y=>if eqi owner 0=true then some (y.1,2,()) else if nei y.1.1 owner=true then some (y.1,22,()) else zC (y9 (owner,())) fun y=>some (y.1,0,())
def Zo(x:As [.pr (.int .u16) (.int .i64),.int .u16]):Option (As bT):=akF x.1 x.2.1
theorem azK:ak Tryz.prog (fun _=>True) 300 ⟨azJ,Zo⟩:=ctn (aj YG (aj YE av)) 6 fun J x=>by kernel_rfl
end Go.Proofs.Lx
end
