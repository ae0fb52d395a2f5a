/- Proved in the last of these 16 parts (this is part 9): TalkCalm. Conditions: those of the given statement, and no others. -/
import Derived.Test.YtljkanofaahagaaGreatPartd
import Derived.Test.YtljkanofaahagaaGreatParth
import Derived.Test.YtljkanofaahagaaGreatProg
import Derived.Test.YtljkanofaahagaaGreatParte
set_option linter.unusedVariables false
set_option linter.unusedSimpArgs false
set_option linter.unusedSectionVars false
open Option renaming bind → zC, none → zH
open List renaming replicate → zE, length → zG
open Int renaming ofNat → zF, toNat → zI
open Go.Value renaming slice → zK
noncomputable section
open Go Go.Proofs Ev Sx
set_option maxRecDepth 100000
namespace Go.Proofs.Lx
abbrev oI:Type:=List Int×(Int×Int)×Int×Int×Int×qp×Int
abbrev oJ:Type:=Int×Int×Int×Int×List Int×List Bool
abbrev lK:Type:=Int×Int×kL×List Bool
@[reducible] def ak3:Sh:=⟨[.d bP,.d (.bool)],[],[.pr gI (.sl .bool),.bool],[.d (.bool)],[],0,[.bool]⟩
def ak4:Env:=(cts [])
def ak5:List (Nat×Hint):=[(122,⟨[],[1,2,5,13,14,15,24,25,26,27,28,29,32,33,34,37,38,39,40,41,42,43,44,45,49,50]⟩),(31334,⟨[.agd 50 .bool],[1,2,7,13,14,15,51]⟩),(15666,⟨[.agd 25 (.int .i64),.agd 27 (.sl .bool),.agd 28 (.int .i64),.agd 29 .bool,.agd 33 (.int .i64),.agd 34 .bool,.agd 38 (.int .i64),.agd 40 (.sl .bool),.agd 41 (.int .i64),.agd 43 (.int .i64),.agd 44 (.int .i64),.agd 45 .bool],[1,2,7,13,14,15,46]⟩)]
@[reducible] def zI0:Type:=List dz×List Bool
def Cw(fixed:Bool)(endV:Int)(t13:List dz)(t14 t15:Int)(t:zI0):St:=⟨[(1,dB fixed),(2,.pb 0 0),(5,dI endV),(13,.d gI t13),(14,dI t14),(15,dI t15)],58,[],[(0,.box 271 [.d gI t.1,.d (.sl .bool) t.2])],1,[],0⟩
@[reducible] def zI1:Type:=Int×Int×Bool×Bool×Bool
def ak6(fixed:Bool)(t13:List dz)(t14 t15:Int)(t46:Bool)(t:zI0)(x:zI1):St:=⟨[(1,dB fixed),(2,.pb 0 0),(7,.pb 1 0),(13,.d gI t13),(14,dI t14),(15,dI t15),(46,dB t46)],58,[],[(0,.box 271 [.d gI t.1,.d (.sl .bool) t.2]),(1,.box 250 [dI x.1,dI x.2.1,dB x.2.2.1,dB x.2.2.2.1,dB x.2.2.2.2])],2,[],0⟩
def ak7(fixed:Bool)(t13:List dz)(t14 t15:Int)(t51:Bool)(t:zI0)(x:zI1):St:=⟨[(1,dB fixed),(2,.pb 0 0),(7,.pb 1 0),(13,.d gI t13),(14,dI t14),(15,dI t15),(51,dB t51)],58,[],[(0,.box 271 [.d gI t.1,.d (.sl .bool) t.2]),(1,.box 250 [dI x.1,dI x.2.1,dB x.2.2.1,dB x.2.2.2.1,dB x.2.2.2.2])],2,[],0⟩
@[reducible] def zI2:Type:=Bool->List dz->Int->Int->Bool->List dz×List Bool->Int×Int×Bool×Bool×Bool->Option aF
@[reducible] def zI3:Type:=Bool->Int->List dz->Int->Int->List dz×List Bool->Option aF
def Qz(j2:zI2)(self1:zI3)(fixed:Bool)(endV:Int)(t13:List dz)(t14 t15:Int)(t:zI0):Option aF :=
 if lt t15 t14=true then zC (at? t13 t15) fun y=>if lt y.1 endV=true then j2 fixed t13 t14 t15 true t y else if gt y.1 (zF (zG t.2))=true then j2 fixed t13 t14 t15 true t y else if lt y.2.1 1=true then j2 fixed t13 t14 t15 true t y else j2 fixed t13 t14 t15 (gt y.2.1 (Sx.sub .i64 (zF (zG t.2)) y.1)) t y else some (true,())
def ak8(j3:zI2)(self1:zI3)(fixed:Bool)(t13:List dz)(t14 t15:Int)(t46:Bool)(t:zI0)(x:zI1):Option aF :=
 if t46=true then some (false,()) else if fixed=true then j3 fixed t13 t14 t15 x.2.2.2.1 t x else j3 fixed t13 t14 t15 false t x
def ak9(self1:zI3)(fixed:Bool)(t13:List dz)(t14 t15:Int)(t51:Bool)(t:zI0)(x:zI1):Option aF :=
 if t51=true then some (false,()) else self1 fixed (add .i64 x.1 x.2.1) t13 t14 (add .i64 t15 1) t
def ZJ(j1:zI3)(t:zI0)(fixed:Bool):Option aF :=
 if gt (zF (zG t.2)) 65536=true then some (false,()) else j1 fixed 0 t.1 (zF (zG t.1)) 0 t
def ZK(u1:zI3):=ak9 u1
def ZL(u1:zI3):=ak8 (ZK u1) u1
def JW(fixed:Bool)(endV:Int)(t13:List dz)(t14 t15:Int)(t:zI0):Option aF :=
 cu (fun self s=>Qz (ZL (fun fixed endV t13 t14 t15 t=>self (fixed,endV,t13,t14,t15,t))) (fun fixed endV t13 t14 t15 t=>self (fixed,endV,t13,t14,t15,t)) s.1 s.2.1 s.2.2.1 s.2.2.2.1 s.2.2.2.2.1 s.2.2.2.2.2) 18446744073709551616 (fixed,endV,t13,t14,t15,t)
def ZM(x:As [.pr gI (.sl .bool),.bool]):Option aF:=ZJ JW x.1 x.2.1
abbrev pCn:=zp ak4 ak5 279 ak3
theorem aFt{J w1 a b c d e f g}:pCn J 31334 [w1] (ak7 a b c d e f g)=ak9 (C w1 Cw) a b c d e f g:=by kernel_rfl
theorem aFu{J w1 a b c d e f g}:pCn J 15666 [w1] (ak6 a b c d e f g)=ak8 (C (J 31334 [w1]) ak7) (C w1 Cw) a b c d e f g:=by kernel_rfl
theorem aFv{J w1 a b c d e f}:pCn J 122 [w1] (Cw a b c d e f)=Qz (C (J 15666 [w1]) ak6) (C w1 Cw) a b c d e f:=by kernel_rfl
abbrev pCm:=zj ak4 ak5 279 ak3
theorem aFw{w1}:C (pCm 31334 [w1]) ak7=ZK (C w1 Cw):=gNC (by decide) fun _=>aFt
theorem aFx{w1}:C (pCm 15666 [w1]) ak6=ZL (C w1 Cw):=gNC (by decide) fun _=>aFu.trans (by rw[aFw]<;>kernel_rfl)
theorem aFy:C (pCm 122 []) Cw=JW:=gLC (by decide) (by kernel_rfl) (fun _=>by unfold JW;rfl) fun _ _=>aFv.trans (by rw[aFx]<;>kernel_rfl)
theorem aFz:au Tryz.prog (fun _=>True) 279 ⟨ak3,ZM⟩:=zcc (env:=ak4) (d:=6) (hs:=Ev.get ak5) bq (fun J x=>ZJ (C (J 122 []) Cw) x.1 x.2.1) (fun _ _=>by kernel_rfl) fun _=>by rw[aFy]<;>rfl
@[reducible] def ala:Sh:=⟨[.d cQ,.d (.bool)],[],[.pr gI aB,.bool],[.d (.bool)],[],0,[.bool]⟩
def alb:Env:=(cts [])
def alc:List (Nat×Hint):=[(122,⟨[],[1,2,5,13,14,15,24,25,26,27,28,29,32,33,34,37,38,39,40,41,42,43,44,45,49,50]⟩),(31334,⟨[.agd 50 .bool],[1,2,7,13,14,15,51]⟩),(15666,⟨[.agd 25 (.int .i64),.agd 27 aB,.agd 28 (.int .i64),.agd 29 .bool,.agd 33 (.int .i64),.agd 34 .bool,.agd 38 (.int .i64),.agd 40 aB,.agd 41 (.int .i64),.agd 43 (.int .i64),.agd 44 (.int .i64),.agd 45 .bool],[1,2,7,13,14,15,46]⟩)]
@[reducible] def zI4:Type:=List dz×List Int
def Cx(fixed:Bool)(endV:Int)(t13:List dz)(t14 t15:Int)(t:zI4):St:=⟨[(1,dB fixed),(2,.pb 0 0),(5,dI endV),(13,.d gI t13),(14,dI t14),(15,dI t15)],58,[],[(0,.box 273 [.d gI t.1,dW t.2])],1,[],0⟩
def ald(fixed:Bool)(t13:List dz)(t14 t15:Int)(t46:Bool)(t:zI4)(x:zI1):St:=⟨[(1,dB fixed),(2,.pb 0 0),(7,.pb 1 0),(13,.d gI t13),(14,dI t14),(15,dI t15),(46,dB t46)],58,[],[(0,.box 273 [.d gI t.1,dW t.2]),(1,.box 250 [dI x.1,dI x.2.1,dB x.2.2.1,dB x.2.2.2.1,dB x.2.2.2.2])],2,[],0⟩
def ale(fixed:Bool)(t13:List dz)(t14 t15:Int)(t51:Bool)(t:zI4)(x:zI1):St:=⟨[(1,dB fixed),(2,.pb 0 0),(7,.pb 1 0),(13,.d gI t13),(14,dI t14),(15,dI t15),(51,dB t51)],58,[],[(0,.box 273 [.d gI t.1,dW t.2]),(1,.box 250 [dI x.1,dI x.2.1,dB x.2.2.1,dB x.2.2.2.1,dB x.2.2.2.2])],2,[],0⟩
@[reducible] def zI5:Type:=Bool->List dz->Int->Int->Bool->List dz×List Int->Int×Int×Bool×Bool×Bool->Option aF
@[reducible] def zI6:Type:=Bool->Int->List dz->Int->Int->List dz×List Int->Option aF
def QA(j2:zI5)(self1:zI6)(fixed:Bool)(endV:Int)(t13:List dz)(t14 t15:Int)(t:zI4):Option aF :=
 if lt t15 t14=true then zC (at? t13 t15) fun y=>if lt y.1 endV=true then j2 fixed t13 t14 t15 true t y else if gt y.1 (zF (zG t.2))=true then j2 fixed t13 t14 t15 true t y else if lt y.2.1 1=true then j2 fixed t13 t14 t15 true t y else j2 fixed t13 t14 t15 (gt y.2.1 (Sx.sub .i64 (zF (zG t.2)) y.1)) t y else some (true,())
def alf(j3:zI5)(self1:zI6)(fixed:Bool)(t13:List dz)(t14 t15:Int)(t46:Bool)(t:zI4)(x:zI1):Option aF :=
 if t46=true then some (false,()) else if fixed=true then j3 fixed t13 t14 t15 x.2.2.2.1 t x else j3 fixed t13 t14 t15 false t x
def alg(self1:zI6)(fixed:Bool)(t13:List dz)(t14 t15:Int)(t51:Bool)(t:zI4)(x:zI1):Option aF :=
 if t51=true then some (false,()) else self1 fixed (add .i64 x.1 x.2.1) t13 t14 (add .i64 t15 1) t
def ZN(j1:zI6)(t:zI4)(fixed:Bool):Option aF :=
 if gt (zF (zG t.2)) 65536=true then some (false,()) else j1 fixed 0 t.1 (zF (zG t.1)) 0 t
def ZO(u1:zI6):=alg u1
def ZP(u1:zI6):=alf (ZO u1) u1
def JX(fixed:Bool)(endV:Int)(t13:List dz)(t14 t15:Int)(t:zI4):Option aF :=
 cu (fun self s=>QA (ZP (fun fixed endV t13 t14 t15 t=>self (fixed,endV,t13,t14,t15,t))) (fun fixed endV t13 t14 t15 t=>self (fixed,endV,t13,t14,t15,t)) s.1 s.2.1 s.2.2.1 s.2.2.2.1 s.2.2.2.2.1 s.2.2.2.2.2) 18446744073709551616 (fixed,endV,t13,t14,t15,t)
def ZQ(x:As [.pr gI aB,.bool]):Option aF:=ZN JX x.1 x.2.1
abbrev pCp:=zp alb alc 280 ala
theorem aFA{J w1 a b c d e f g}:pCp J 31334 [w1] (ale a b c d e f g)=alg (C w1 Cx) a b c d e f g:=by kernel_rfl
theorem aFB{J w1 a b c d e f g}:pCp J 15666 [w1] (ald a b c d e f g)=alf (C (J 31334 [w1]) ale) (C w1 Cx) a b c d e f g:=by kernel_rfl
theorem aFC{J w1 a b c d e f}:pCp J 122 [w1] (Cx a b c d e f)=QA (C (J 15666 [w1]) ald) (C w1 Cx) a b c d e f:=by kernel_rfl
abbrev pCo:=zj alb alc 280 ala
theorem aFD{w1}:C (pCo 31334 [w1]) ale=ZO (C w1 Cx):=gNC (by decide) fun _=>aFA
theorem aFE{w1}:C (pCo 15666 [w1]) ald=ZP (C w1 Cx):=gNC (by decide) fun _=>aFB.trans (by rw[aFD]<;>kernel_rfl)
theorem aFF:C (pCo 122 []) Cx=JX:=gLC (by decide) (by kernel_rfl) (fun _=>by unfold JX;rfl) fun _ _=>aFC.trans (by rw[aFE]<;>kernel_rfl)
theorem aFG:au Tryz.prog (fun _=>True) 280 ⟨ala,ZQ⟩:=zcc (env:=alb) (d:=6) (hs:=Ev.get alc) bq (fun J x=>ZN (C (J 122 []) Cx) x.1 x.2.1) (fun _ _=>by kernel_rfl) fun _=>by rw[aFF]<;>rfl
@[reducible] def aqx:Sh:=⟨[.d (.pr gI aZ),.d fC],[],eK,[.d (.bool)],[],0,[.bool]⟩
def alh(s:List dz×List dz×List dz×List dz)(m:List Bool×List Bool×List Int×List Int):Option aF :=
 zC (JJ (s,m,())) fun y=>zC (ZM (y.1.1,false,())) fun y_1=>if y_1.1=true then zC (ZM (y.1.2.1,true,())) fun y_2=>if y_2.1=true then zC (ZQ (y.1.2.2.1,false,())) fun y_3=>if y_3.1=true then zC (ZQ (y.1.2.2.2,true,())) fun y=>some (y.1,()) else some (false,()) else some (false,()) else some (false,())
def ZR(x:As eK):Option aF:=alh x.1 x.2.1
theorem aAe:au Tryz.prog (fun _=>True) 257 ⟨aqx,ZR⟩:=ctn (aj aqm (aj aFz (aj aFG bq))) 6 fun J x=>by kernel_rfl
@[reducible] def aFH:Sh:=⟨[.d bP,.d (.int .i64),.d (.int .i64),.d (.int .i64)],[],[.pr gI (.sl .bool),.int .i64,.int .i64,.int .i64],[.d (.sl .bool)],[],0,[.sl .bool]⟩
def ali(t:zI0)(at' many step:Int):Option dN :=
 need (nei step 0) (need (ge (mul .i64 (quo .i64 (Sx.sub .i64 (add .i64 many step) 1) step) step) 0) (need (Ev.jR (mul .i64 (quo .i64 (Sx.sub .i64 (add .i64 many step) 1) step) step) (mul .i64 (quo .i64 (Sx.sub .i64 (add .i64 many step) 1) step) step)) (need (small (zI (mul .i64 (quo .i64 (Sx.sub .i64 (add .i64 many step) 1) step) step))) (zC (cut t.2 at' (add .i64 at' many)) fun y=>need (le (zF (0+zG (zE (zI (mul .i64 (quo .i64 (Sx.sub .i64 (add .i64 many step) 1) step) step)) false))) (zF (zG (zE (zI (mul .i64 (quo .i64 (Sx.sub .i64 (add .i64 many step) 1) step) step)) false)))) (some (List.take (zI (zF (zG (zE (zI (mul .i64 (quo .i64 (Sx.sub .i64 (add .i64 many step) 1) step) step)) false)))) y++List.drop (0+zG (List.take (zI (zF (zG (zE (zI (mul .i64 (quo .i64 (Sx.sub .i64 (add .i64 many step) 1) step) step)) false)))) y)) (zE (zI (mul .i64 (quo .i64 (Sx.sub .i64 (add .i64 many step) 1) step) step)) false),()))))))
def ZS(x:As [.pr gI (.sl .bool),.int .i64,.int .i64,.int .i64]):Option dN:=ali x.1 x.2.1 x.2.2.1 x.2.2.2.1
theorem aFI:au Tryz.prog (fun _=>True) 281 ⟨aFH,ZS⟩:=ctn bq 6 fun J x=>by kernel_rfl
@[reducible] def aFJ:Sh:=⟨[.d cQ,.d (.int .i64),.d (.int .i64),.d (.int .i64)],[],[.pr gI aB,.int .i64,.int .i64,.int .i64],[.d aB],[],0,aJ⟩
def alj(t:zI4)(at' many step:Int):Option bY :=
 need (nei step 0) (need (ge (mul .i64 (quo .i64 (Sx.sub .i64 (add .i64 many step) 1) step) step) 0) (need (Ev.jR (mul .i64 (quo .i64 (Sx.sub .i64 (add .i64 many step) 1) step) step) (mul .i64 (quo .i64 (Sx.sub .i64 (add .i64 many step) 1) step) step)) (need (small (zI (mul .i64 (quo .i64 (Sx.sub .i64 (add .i64 many step) 1) step) step))) (zC (cut t.2 at' (add .i64 at' many)) fun y=>need (le (zF (0+zG (zE (α:=Int) (zI (mul .i64 (quo .i64 (Sx.sub .i64 (add .i64 many step) 1) step) step)) 0))) (zF (zG (zE (α:=Int) (zI (mul .i64 (quo .i64 (Sx.sub .i64 (add .i64 many step) 1) step) step)) 0)))) (some (List.take (zI (zF (zG (zE (α:=Int) (zI (mul .i64 (quo .i64 (Sx.sub .i64 (add .i64 many step) 1) step) step)) 0)))) y++List.drop (0+zG (List.take (zI (zF (zG (zE (α:=Int) (zI (mul .i64 (quo .i64 (Sx.sub .i64 (add .i64 many step) 1) step) step)) 0)))) y)) (zE (zI (mul .i64 (quo .i64 (Sx.sub .i64 (add .i64 many step) 1) step) step)) 0),()))))))
def ZT(x:As [.pr gI aB,.int .i64,.int .i64,.int .i64]):Option bY:=alj x.1 x.2.1 x.2.2.1 x.2.2.2.1
theorem aFK:au Tryz.prog (fun _=>True) 282 ⟨aFJ,ZT⟩:=ctn bq 6 fun J x=>by kernel_rfl
@[reducible] def auI:Sh:=⟨[.d (.pr bP bI),.d (.int .i64),.d bA],[],[.pr bP bI,.int .i64,.pr (.int .u8) lC],[.d aP],[],0,aS⟩
def alk(v:eP×eP×(List dz×List Int)×List dz×List Int)(p:Int)(a:oJ):Option dD :=
 if eqi p 1=true then zC (ZS (v.1,cvt .i64 a.2.1,cvt .i64 a.2.2.1,8,())) fun y=>some ((a.1,0,y.1,[],0,0),()) else if eqi p 2=true then zC (ZS (v.2.1,cvt .i64 a.2.1,cvt .i64 a.2.2.1,8,())) fun y=>some ((a.1,0,y.1,[],0,0),()) else if eqi p 3=true then zC (ZT (v.2.2.1,cvt .i64 a.2.1,cvt .i64 a.2.2.1,1,())) fun y=>some ((a.1,0,[],y.1,0,0),()) else if eqi p 4=true then zC (ZT (v.2.2.2,cvt .i64 a.2.1,cvt .i64 a.2.2.1,1,())) fun y=>some ((a.1,0,[],y.1,0,0),()) else some ((a.1,0,[],[],0,0),())
def QB(x:As [.pr bP bI,.int .i64,.pr (.int .u8) lC]):Option dD:=alk x.1 x.2.1 x.2.2.1
theorem aFL:au Tryz.prog (fun _=>True) 260 ⟨auI,QB⟩:=ctn (aj aFI (aj aFK bq)) 6 fun J x=>by kernel_rfl
@[reducible] def dE:List Ty:=[.pr (.sl .bool) D7,.pr (.int .u8) og]
@[reducible] def ZU:Sh:=⟨[.d (.pr gI aZ),.d fC,.d bA],[],[.pr gI aZ,.pr (.sl .bool) D7,.pr (.int .u8) lC],[.d fC,.d aP],[],0,dE⟩
def alm:Env:=(cts [(45,(⟨V2,Fa⟩:Ct)),(113,(⟨Wo,Fe⟩:Ct)),(164,(⟨Qx,FT⟩:Ct)),(166,(⟨aiF,lF⟩:Ct)),(201,(⟨Jq,wI⟩:Ct)),(222,(⟨akk,JK⟩:Ct)),(224,(⟨akm,FK⟩:Ct)),(257,(⟨aqx,ZR⟩:Ct)),(260,(⟨auI,QB⟩:Ct))])
def aln:List (Nat×Hint):=[(255,⟨[],[5,6,7,8,10,11]⟩)]
def ZV(a:oJ)(t7 t7_2 t7_3 t7_4:Int)(o o_2:List Bool)(o_3 o_4:List Int)(v v_2 v_3 v_4:List dz)(u:Int×Int):St:=⟨[(5,.pb 0 0),(6,.pb 1 0),(7,.pb 2 0),(8,.pb 3 0),(10,.pb 8 0),(11,.pb 9 0)],79,[],[(0,.box 27 [d8 a.1,d6 a.2.1,d6 a.2.2.1,d6 a.2.2.2.1,dW a.2.2.2.2.1,.d (.sl .bool) a.2.2.2.2.2]),(1,.box 196 [.k (zK zH 0 0),.k (zK zH 0 0),.k (zK zH 0 0),.k (zK zH 0 0)]),(2,.box 109 [d8 t7,d8 t7_2,.k (zK zH 0 0),.k (zK zH 0 0),d6 t7_3,d6 t7_4]),(3,.box 196 [.row 4,.row 5,.row 6,.row 7]),(4,.row .bool 4 o),(5,.row .bool 4 o_2),(6,.row (.int .u16) 25 o_3),(7,.row (.int .u16) 25 o_4),(8,.box 275 [.d gI v,.row 4,.d gI v_2,.row 5,.d gI v_3,.row 6,.d gI v_4,.row 7]),(9,.box 279 [dI u.1,dI u.2])],10,[],0⟩
def aqy(a:oJ)(t7 t7_2 t7_3 t7_4:Int)(o o_2:List Bool)(o_3 o_4:List Int)(v v_2 v_3 v_4:List dz)(u:Int×Int):Option (As dE) :=
 zC (wI (a,())) fun y=>if y.2.1=true then some ((o,o_2,o_3,o_4),y.1,()) else zC (QB (((v,o),(v_2,o_2),(v_3,o_3),v_4,o_4),u.1,a,())) fun y=>some ((o,o_2,o_3,o_4),y.1,())
def ZW(j1:oJ->Int->Int->Int->Int->List Bool->List Bool->List Int->List Int->List dz->List dz->List dz->List dz->Int×Int->Option (As dE))(s:List dz×List dz×List dz×List dz)(m:List Bool×List Bool×List Int×List Int)(a:oJ):Option (As dE) :=
 zC (Fe (m.1,())) fun y=>zC (Fe (m.2.1,())) fun y_1=>zC (Fa (m.2.2.1,())) fun y_2=>zC (Fa (m.2.2.2,())) fun y_3=>zC (FT (s,a,())) fun y_4=>if nei y_4.1 0=true then zC (lF (a.1,y_4.1,())) fun y_5=>some ((y.1,y_1.1,y_2.1,y_3.1),y_5.1,()) else zC (ZR (s,m,())) fun y_5=>if (!y_5.1)=true then zC (lF (a.1,4,())) fun y_6=>some ((y.1,y_1.1,y_2.1,y_3.1),y_6.1,()) else zC (JK (a.1,())) fun y_6=>zC (FK (a,())) fun y_7=>if eqi y_6.1.2 1=true then need (ge y_7.1 0) (need (le y_7.1 (zF (zG y.1))) (need (le (zF (zG y.1)) (zF (zG y.1))) (need (le (y_7.1+(zF (zG y.1) - y_7.1)) (zF (zG y.1))) (j1 a 0 0 0 0 (List.take (zI y_7.1) y.1++List.take (zI (zF (zG y.1) - y_7.1)) a.2.2.2.2.2++List.drop (zI y_7.1+zG (List.take (zI (zF (zG y.1) - y_7.1)) a.2.2.2.2.2)) y.1) y_1.1 y_2.1 y_3.1 s.1 s.2.1 s.2.2.1 s.2.2.2 y_6.1)))) else if eqi y_6.1.2 3=true then need (ge y_7.1 0) (need (le y_7.1 (zF (zG y_2.1))) (need (le (zF (zG y_2.1)) (zF (zG y_2.1))) (need (le (y_7.1+(zF (zG y_2.1) - y_7.1)) (zF (zG y_2.1))) (j1 a 0 0 0 0 y.1 y_1.1 (List.take (zI y_7.1) y_2.1++List.take (zI (zF (zG y_2.1) - y_7.1)) a.2.2.2.2.1++List.drop (zI y_7.1+zG (List.take (zI (zF (zG y_2.1) - y_7.1)) a.2.2.2.2.1)) y_2.1) y_3.1 s.1 s.2.1 s.2.2.1 s.2.2.2 y_6.1)))) else j1 a 0 0 0 0 y.1 y_1.1 y_2.1 y_3.1 s.1 s.2.1 s.2.2.1 s.2.2.2 y_6.1
def QC:=aqy
def l5(x:As [.pr gI aZ,.pr (.sl .bool) D7,.pr (.int .u8) lC]):Option (As dE):=ZW QC x.1 x.2.1 x.2.2.1
abbrev pCb:=zp alm aln 227 ZU
theorem aAf{J a b c d e f g h i j k l m n}:pCb J 255 [] (ZV a b c d e f g h i j k l m n)=aqy a b c d e f g h i j k l m n:=by kernel_rfl
abbrev pCa:=zj alm aln 227 ZU
theorem aAg:C (pCa 255 []) ZV=QC:=gNC (by decide) fun _=>aAf
theorem aAh:au Tryz.prog (fun _=>True) 227 ⟨ZU,l5⟩:=zcc (env:=alm) (d:=6) (hs:=Ev.get aln) (aj atI (aj atJ (aj aqr (aj Yl (aj ai0 (aj aqn (aj auz (aj aAe (aj aFL bq))))))))) (fun J x=>ZW (C (J 255 []) ZV) x.1 x.2.1 x.2.2.1) (fun _ _=>by kernel_rfl) fun _=>by rw[aAg]<;>rfl
@[reducible] def bM:List Ty:=[.pr (.int .u16) (.int .i64)]
@[reducible] def alo:Sh:=⟨[.d (.int .u16)],[],[.int .u16],[.d bK],[],0,bM⟩
def aAi(owner:Int):Option (As bM) :=
 some ((owner,-1),())
def Av(x:As [.int .u16]):Option (As bM):=aAi x.1
theorem ZX:au Tryz.prog (fun _=>True) 229 ⟨alo,Av⟩:=ctn bq 6 fun J x=>by kernel_rfl
@[reducible] def aAj:Sh:=⟨[.d bK],[],bM,[.d (.bool)],[],0,[.bool]⟩
def alp(l:Int×Int):Option aF :=
 if eqi l.1 0=true then some (eqi l.1 0 && (eqi l.2 0 && true),()) else if ge l.2 1=true then some (true,()) else zC (Av (l.1,())) fun y=>some (eqi l.1 y.1.1 && (eqi l.2 y.1.2 && true),())
def ZY(x:As bM):Option aF:=alp x.1
theorem aAk:au Tryz.prog (fun _=>True) 240 ⟨aAj,ZY⟩:=ctn (aj ZX bq) 6 fun J x=>by kernel_rfl
@[reducible] def alq:Sh:=⟨[.d bK],[],bM,[.d bK],[],0,bM⟩
def alr(l:Int×Int):Option (As bM) :=
 zC (ZY (l,())) fun y=>if (!y.1)=true then some ((0,0),()) else some (l,())
def Cy(x:As bM):Option (As bM):=alr x.1
theorem ZZ:au Tryz.prog (fun _=>True) 198 ⟨alq,Cy⟩:=ctn (aj aAk bq) 6 fun J x=>by kernel_rfl
@[reducible] def JY:Sh:=⟨[.d bK],[],bM,[.d (.bool)],[],0,[.bool]⟩
def als(l:Int×Int):Option aF :=
 zC (Cy (l,())) fun y=>some (eqi y.1.1 0 && (eqi y.1.2 0 && true),())
def tC(x:As bM):Option aF:=als x.1
theorem QD:au Tryz.prog (fun _=>True) 150 ⟨JY,tC⟩:=ctn (aj ZZ bq) 6 fun J x=>by kernel_rfl
@[reducible] def Z0:Sh:=⟨[.d (.pr (.int .u32) (.pr (.ar 8 .bool) (.ar 8 d9)))],[],[.pr (.int .u32) (.pr (.ar 8 .bool) (.ar 8 d9))],[.d (.int .i64)],[],0,[.int .i64]⟩
def alu:Env:=(cts [(2000041,Ev.iw)])
def alv:List (Nat×Hint):=[(58,⟨[],[3,7,8]⟩)]
def Z4(n:Int)(t7:List Bool)(t8:Int):St:=⟨[(3,dI n),(7,.d (.ar 8 .bool) t7),(8,dI t8)],16,[],[],0,[],0⟩
def JZ(self1:Int->List Bool->Int->Option cO)(n:Int)(t7:List Bool)(t8:Int):Option cO :=
 if lt t8 8=true then need (lt t8 8) (zC (at? t7 t8) fun y=>if y=true then self1 (add .i64 n 1) t7 (add .i64 t8 1) else self1 n t7 (add .i64 t8 1)) else some (n,())
@[reducible] def zI7:Type:=Int×List Bool×List (Int×List Int)
def aqz(j1:Int->List Bool->Int->Option cO)(s:zI7):Option cO :=
 j1 0 s.2.1 0
def QE(n:Int)(t7:List Bool)(t8:Int):Option cO :=
 cu (fun self s=>JZ (fun n t7 t8=>self (n,t7,t8)) s.1 s.2.1 s.2.2) 18446744073709551616 (n,t7,t8)
def J2(x:As [.pr (.int .u32) (.pr (.ar 8 .bool) (.ar 8 d9))]):Option cO:=aqz QE x.1
abbrev pAl:=zp alu alv 149 Z0
theorem aAl{J w1 a b c}:pAl J 58 [w1] (Z4 a b c)=JZ (C w1 Z4) a b c:=by kernel_rfl
abbrev pAk:=zj alu alv 149 Z0
theorem aAm:C (pAk 58 []) Z4=QE:=gLC (by decide) (by kernel_rfl) (fun _=>by unfold QE;rfl) fun _ _=>aAl.trans (by kernel_rfl)
theorem aAn:au Tryz.prog (fun _=>True) 149 ⟨Z0,J2⟩:=zcc (env:=alu) (d:=6) (hs:=Ev.get alv) (aj Ev.gJ bq) (fun J x=>aqz (C (J 58 []) Z4) x.1) (fun _ _=>by kernel_rfl) fun _=>by rw[aAm]<;>rfl
@[reducible] def bF:List Ty:=[.pr aB wC]
@[reducible] def Z5:Sh:=⟨[.d aH],[],bF,[.d aB],[],0,aJ⟩
def alx:Env:=(cts [(2000043,Ev.iw),(149,(⟨Z0,J2⟩:Ct)),(150,(⟨JY,tC⟩:Ct)),(269,(⟨apI,B5⟩:Ct))])
def aly:List (Nat×Hint):=[(7,⟨[],[1,3]⟩)]
def alz(a:oI)(owner:Int):St:=⟨[(1,.pe aH a),(3,d6 owner)],39,[],[],0,[],0⟩
def Z6(a:oI)(owner:Int):Option bY :=
 zC (B5 (a.2.2.2.1,())) fun y=>zC (B5 (a.2.2.2.2.1,())) fun y_1=>zC (J2 (a.2.2.2.2.2.1,())) fun y_2=>some ([owner,cvt .u16 a.2.2.1,y.1,y.2.1,y_1.1,y_1.2.1,cvt .u16 y_2.1,0],())
def Z7(j1:oI->Int->Option bY)(a:oI):Option bY :=
 zC (tC (a.2.1,())) fun y=>if y.1=true then j1 a 0 else j1 a a.2.1.1
def Z8:=Z6
def gX(x:As bF):Option bY:=Z7 Z8 x.1
abbrev pAf:=zp alx aly 261 Z5
theorem aAo{J a b}:pAf J 7 [] (alz a b)=Z6 a b:=by kernel_rfl
abbrev pAe:=zj alx aly 261 Z5
theorem aAp:C (pAe 7 []) alz=Z8:=gNC (by decide) fun _=>aAo
theorem aAq:au Tryz.prog (fun _=>True) 261 ⟨Z5,gX⟩:=zcc (env:=alx) (d:=6) (hs:=Ev.get aly) (aj Ev.gJ (aj aAn (aj QD (aj ahj bq)))) (fun J x=>Z7 (C (J 7 []) alz) x.1) (fun _ _=>by kernel_rfl) fun _=>by rw[aAp]<;>rfl
@[reducible] def Z9:Sh:=⟨[.d (.pr (.int .u32) (.pr (.ar 8 .bool) (.ar 8 d9))),.d (.int .u16),.d (.int .i64)],[],[.pr (.int .u32) (.pr (.ar 8 .bool) (.ar 8 d9)),.int .u16,.int .i64],[.d aB],[],0,aJ⟩
def alA:Env:=(cts [(2000041,Ev.iw),(283,(⟨ahD,Fv⟩:Ct)),(284,(⟨apO,O0⟩:Ct))])
def alB:List (Nat×Hint):=[(6,⟨[],[1,2,3,16]⟩)]
def alC(owner n:Int)(s:zI7)(t16:Bool):St:=⟨[(1,d6 owner),(2,dI n),(3,.pe (.pr (.int .u32) (.pr (.ar 8 .bool) (.ar 8 d9))) s),(16,dB t16)],27,[],[],0,[],0⟩
def aaa(owner n:Int)(s:zI7)(t16:Bool):Option bY :=
 if t16=true then some ([0,0,0,0,0,0,0,0,0,0,0,0,0,0,0,0,0,0,0,0],()) else zC (at? s.2.2 n) fun y=>zC (O0 (owner,s.1,n,y,())) fun y=>some (y.1,())
def aab(j1:Int->Int->Int×List Bool×List (Int×List Int)->Bool->Option bY)(s:zI7)(owner n:Int):Option bY :=
 zC (Fv (n,())) fun y=>if (!y.1)=true then j1 owner n s true else zC (at? s.2.1 n) fun y=>j1 owner n s !y
def alD:=aaa
def aac(x:As [.pr (.int .u32) (.pr (.ar 8 .bool) (.ar 8 d9)),.int .u16,.int .i64]):Option bY:=aab alD x.1 x.2.1 x.2.2.1
abbrev pDv:=zp alA alB 262 Z9
theorem aAr{J a b c d}:pDv J 6 [] (alC a b c d)=aaa a b c d:=by kernel_rfl
abbrev pDu:=zj alA alB 262 Z9
theorem aAs:C (pDu 6 []) alC=alD:=gNC (by decide) fun _=>aAr
theorem aAt:au Tryz.prog (fun _=>True) 262 ⟨Z9,aac⟩:=zcc (env:=alA) (d:=6) (hs:=Ev.get alB) (aj Ev.gJ (aj ahF (aj atS bq))) (fun J x=>aab (C (J 6 []) alC) x.1 x.2.1 x.2.2.1) (fun _ _=>by kernel_rfl) fun _=>by rw[aAs]<;>rfl
@[reducible] def fu:Sh:=⟨[.d bB],[],cS,[.d fC],[],0,cD⟩
def alE:Env:=(cts [(2000045,Ev.iw),(150,(⟨JY,tC⟩:Ct)),(199,(⟨aiD,Fx⟩:Ct)),(261,(⟨Z5,gX⟩:Ct)),(262,(⟨Z9,aac⟩:Ct))])
def alF:List (Nat×Hint):=[(3,⟨[],[1,2,3]⟩),(15,⟨[],[1,2,3]⟩),(4090,⟨[],[1,2,3,57]⟩)]
def alG(s:lK)(m:List Int)(o o_2:List Bool)(o_3:List Int):St:=⟨[(1,.pe bB s),(2,.pb 0 0),(3,.pb 1 0)],78,[],[(0,.box 196 [.k (zK zH 0 0),.k (zK zH 0 0),.k (zK zH 0 0),.k (zK zH 0 0)]),(1,.box 196 [.row 2,.row 3,.row 4,dW m]),(2,.row .bool 4 o),(3,.row .bool 4 o_2),(4,.row (.int .u16) 25 o_3)],5,[],0⟩
def alH(s:lK)(m:List Int)(o o_2:List Bool)(o_3:List Int):St:=⟨[(1,.pe bB s),(2,.pb 0 0),(3,.pb 1 0)],78,[],[(0,.box 196 [.k (zK zH 0 0),.k (zK zH 0 0),.k (zK zH 0 0),.k (zK zH 0 0)]),(1,.box 196 [.row 2,.row 3,.row 4,dW m]),(2,.row .bool 4 o),(3,.row .bool 4 o_2),(4,.row (.int .u16) 25 o_3)],5,[],0⟩
def aad(s:lK)(t57:Int)(m:List Int)(o o_2:List Bool)(o_3:List Int):St:=⟨[(1,.pe bB s),(2,.pb 0 0),(3,.pb 1 0),(57,dI t57)],78,[],[(0,.box 196 [.k (zK zH 0 0),.k (zK zH 0 0),.k (zK zH 0 0),.k (zK zH 0 0)]),(1,.box 196 [.row 2,.row 3,.row 4,dW m]),(2,.row .bool 4 o),(3,.row .bool 4 o_2),(4,.row (.int .u16) 25 o_3)],5,[],0⟩
def aae(j2:lK->List Int->List Bool->List Bool->List Int->Option cB)(s:lK)(m:List Int)(o o_2:List Bool)(o_3:List Int):Option cB :=
 need (le (zF (0+zG o)) (zF (zG o))) (if le s.2.2.1.2.2.1 2=true then zC (at? o_2 s.2.2.1.2.2.1) fun x=>zC (at? o_2 s.2.2.1.2.2.1) fun x=>j2 s m (List.take (zI (zF (zG o))) s.2.2.2++List.drop (0+zG (List.take (zI (zF (zG o))) s.2.2.2)) o) (List.set o_2 (zI s.2.2.1.2.2.1) true) o_3 else j2 s m (List.take (zI (zF (zG o))) s.2.2.2++List.drop (0+zG (List.take (zI (zF (zG o))) s.2.2.2)) o) o_2 o_3)
def aaf(j3:lK->Int->List Int->List Bool->List Bool->List Int->Option cB)(s:lK)(m:List Int)(o o_2:List Bool)(o_3:List Int):Option cB :=
 zC (tC (s.2.2.1.2.1,())) fun y=>zC (at? o_2 4) fun x=>zC (at? o_2 4) fun x=>zC (Fx (List.take 8 (List.drop 0 s.2.2.1.2.2.2.2.2.1.2.1),true,())) fun y_1=>zC (at? (List.set o_2 4 !y.1) 5) fun x=>zC (at? (List.set o_2 4 !y.1) 5) fun x=>need (le (zF (zG o_3)) (zF (zG o_3))) (need (le 64 (zF (zG o_3+0))) (need (le 64 (zF (zG o_3))) (need (le 256 (zF (zG (List.take 64 s.2.2.1.1++List.drop (0+zG (List.take 64 s.2.2.1.1)) o_3)))) (need (le (zF (zG (List.take 64 s.2.2.1.1++List.drop (0+zG (List.take 64 s.2.2.1.1)) o_3))) (zF (zG (List.take 64 s.2.2.1.1++List.drop (0+zG (List.take 64 s.2.2.1.1)) o_3)))) (need (le (256+(zF (zG (List.take 64 s.2.2.1.1++List.drop (0+zG (List.take 64 s.2.2.1.1)) o_3)) - 256)) (zF (zG (List.take 64 s.2.2.1.1++List.drop (0+zG (List.take 64 s.2.2.1.1)) o_3)))) (j3 s 0 m o (List.set (List.set o_2 4 !y.1) 5 y_1.1) (List.take 256 (List.take 64 s.2.2.1.1++List.drop (0+zG (List.take 64 s.2.2.1.1)) o_3)++List.take (zI (zF (zG (List.take 64 s.2.2.1.1++List.drop (0+zG (List.take 64 s.2.2.1.1)) o_3)) - 256)) m++List.drop (256+zG (List.take (zI (zF (zG (List.take 64 s.2.2.1.1++List.drop (0+zG (List.take 64 s.2.2.1.1)) o_3)) - 256)) m)) (List.take 64 s.2.2.1.1++List.drop (0+zG (List.take 64 s.2.2.1.1)) o_3))))))))
def aag(self3:lK->Int->List Int->List Bool->List Bool->List Int->Option cB)(s:lK)(t57:Int)(m:List Int)(o o_2:List Bool)(o_3:List Int):Option cB :=
 if lt t57 8=true then need (ge (add .i64 512 (mul .i64 t57 32)) 0) (need (le (add .i64 512 (mul .i64 t57 32)) (zF (zG o_3))) (need (le (zF (zG o_3)) (zF (zG o_3))) (zC (at? m 0) fun y=>zC (aac (s.2.2.1.2.2.2.2.2.1,y,t57,())) fun y=>need (le (add .i64 512 (mul .i64 t57 32)+(zF (zG o_3) - add .i64 512 (mul .i64 t57 32))) (zF (zG o_3))) (self3 s (add .i64 t57 1) m o o_2 (List.take (zI (add .i64 512 (mul .i64 t57 32))) o_3++List.take (zI (zF (zG o_3) - add .i64 512 (mul .i64 t57 32))) y.1++List.drop (zI (add .i64 512 (mul .i64 t57 32))+zG (List.take (zI (zF (zG o_3) - add .i64 512 (mul .i64 t57 32))) y.1)) o_3))))) else some ((o,o_2,o_3,m),())
def aah(j1:lK->List Int->List Bool->List Bool->List Int->Option cB)(s:lK):Option cB :=
 amb (ay fu.rs) [amb (ay fu.rs) [amb (ay fu.rs) [amb (ay fu.rs) [zC (gX (s.2.2.1,())) fun y=>j1 s y.1 (zE 16 false) (zE 8 false) (zE 756 0),zC (gX (s.2.2.1,())) fun y=>j1 s y.1 (zE 16 false) (zE 8 false) (zE 756 0)],amb (ay fu.rs) [zC (gX (s.2.2.1,())) fun y=>amb (ay fu.rs) [j1 s y.1 (zE 16 false) (zE 8 false) (zE 756 0),j1 s y.1 (zE 16 false) (zE 8 false) (zE 756 0)],amb (ay fu.rs) [zC (gX (s.2.2.1,())) fun y=>j1 s y.1 (zE 16 false) (zE 8 false) (zE 756 0),zC (gX (s.2.2.1,())) fun y=>j1 s y.1 (zE 16 false) (zE 8 false) (zE 756 0)]]],amb (ay fu.rs) [amb (ay fu.rs) [amb (ay fu.rs) [zC (gX (s.2.2.1,())) fun y=>j1 s y.1 (zE 16 false) (zE 8 false) (zE 756 0),zC (gX (s.2.2.1,())) fun y=>j1 s y.1 (zE 16 false) (zE 8 false) (zE 756 0)],amb (ay fu.rs) [zC (gX (s.2.2.1,())) fun y=>amb (ay fu.rs) [j1 s y.1 (zE 16 false) (zE 8 false) (zE 756 0),j1 s y.1 (zE 16 false) (zE 8 false) (zE 756 0)],amb (ay fu.rs) [zC (gX (s.2.2.1,())) fun y=>j1 s y.1 (zE 16 false) (zE 8 false) (zE 756 0),zC (gX (s.2.2.1,())) fun y=>j1 s y.1 (zE 16 false) (zE 8 false) (zE 756 0)]]],amb (ay fu.rs) [zC (gX (s.2.2.1,())) fun y=>amb (ay fu.rs) [amb (ay fu.rs) [j1 s y.1 (zE 16 false) (zE 8 false) (zE 756 0),j1 s y.1 (zE 16 false) (zE 8 false) (zE 756 0)],amb (ay fu.rs) [amb (ay fu.rs) [j1 s y.1 (zE 16 false) (zE 8 false) (zE 756 0),j1 s y.1 (zE 16 false) (zE 8 false) (zE 756 0)],amb (ay fu.rs) [j1 s y.1 (zE 16 false) (zE 8 false) (zE 756 0),j1 s y.1 (zE 16 false) (zE 8 false) (zE 756 0)]]],amb (ay fu.rs) [amb (ay fu.rs) [zC (gX (s.2.2.1,())) fun y=>j1 s y.1 (zE 16 false) (zE 8 false) (zE 756 0),zC (gX (s.2.2.1,())) fun y=>j1 s y.1 (zE 16 false) (zE 8 false) (zE 756 0)],amb (ay fu.rs) [amb (ay fu.rs) [zC (gX (s.2.2.1,())) fun y=>j1 s y.1 (zE 16 false) (zE 8 false) (zE 756 0),zC (gX (s.2.2.1,())) fun y=>j1 s y.1 (zE 16 false) (zE 8 false) (zE 756 0)],zC (gX (s.2.2.1,())) fun y=>amb (ay fu.rs) [j1 s y.1 (zE 16 false) (zE 8 false) (zE 756 0),j1 s y.1 (zE 16 false) (zE 8 false) (zE 756 0)]]]]]],amb (ay fu.rs) [amb (ay fu.rs) [amb (ay fu.rs) [amb (ay fu.rs) [zC (gX (s.2.2.1,())) fun y=>j1 s y.1 (zE 16 false) (zE 8 false) (zE 756 0),zC (gX (s.2.2.1,())) fun y=>j1 s y.1 (zE 16 false) (zE 8 false) (zE 756 0)],amb (ay fu.rs) [zC (gX (s.2.2.1,())) fun y=>amb (ay fu.rs) [j1 s y.1 (zE 16 false) (zE 8 false) (zE 756 0),j1 s y.1 (zE 16 false) (zE 8 false) (zE 756 0)],amb (ay fu.rs) [zC (gX (s.2.2.1,())) fun y=>j1 s y.1 (zE 16 false) (zE 8 false) (zE 756 0),zC (gX (s.2.2.1,())) fun y=>j1 s y.1 (zE 16 false) (zE 8 false) (zE 756 0)]]],amb (ay fu.rs) [amb (ay fu.rs) [amb (ay fu.rs) [zC (gX (s.2.2.1,())) fun y=>j1 s y.1 (zE 16 false) (zE 8 false) (zE 756 0),zC (gX (s.2.2.1,())) fun y=>j1 s y.1 (zE 16 false) (zE 8 false) (zE 756 0)],amb (ay fu.rs) [zC (gX (s.2.2.1,())) fun y=>amb (ay fu.rs) [j1 s y.1 (zE 16 false) (zE 8 false) (zE 756 0),j1 s y.1 (zE 16 false) (zE 8 false) (zE 756 0)],amb (ay fu.rs) [zC (gX (s.2.2.1,())) fun y=>j1 s y.1 (zE 16 false) (zE 8 false) (zE 756 0),zC (gX (s.2.2.1,())) fun y=>j1 s y.1 (zE 16 false) (zE 8 false) (zE 756 0)]]],amb (ay fu.rs) [zC (gX (s.2.2.1,())) fun y=>amb (ay fu.rs) [amb (ay fu.rs) [j1 s y.1 (zE 16 false) (zE 8 false) (zE 756 0),j1 s y.1 (zE 16 false) (zE 8 false) (zE 756 0)],amb (ay fu.rs) [amb (ay fu.rs) [j1 s y.1 (zE 16 false) (zE 8 false) (zE 756 0),j1 s y.1 (zE 16 false) (zE 8 false) (zE 756 0)],amb (ay fu.rs) [j1 s y.1 (zE 16 false) (zE 8 false) (zE 756 0),j1 s y.1 (zE 16 false) (zE 8 false) (zE 756 0)]]],amb (ay fu.rs) [amb (ay fu.rs) [zC (gX (s.2.2.1,())) fun y=>j1 s y.1 (zE 16 false) (zE 8 false) (zE 756 0),zC (gX (s.2.2.1,())) fun y=>j1 s y.1 (zE 16 false) (zE 8 false) (zE 756 0)],amb (ay fu.rs) [amb (ay fu.rs) [zC (gX (s.2.2.1,())) fun y=>j1 s y.1 (zE 16 false) (zE 8 false) (zE 756 0),zC (gX (s.2.2.1,())) fun y=>j1 s y.1 (zE 16 false) (zE 8 false) (zE 756 0)],zC (gX (s.2.2.1,())) fun y=>amb (ay fu.rs) [j1 s y.1 (zE 16 false) (zE 8 false) (zE 756 0),j1 s y.1 (zE 16 false) (zE 8 false) (zE 756 0)]]]]]],amb (ay fu.rs) [amb (ay fu.rs) [amb (ay fu.rs) [amb (ay fu.rs) [zC (gX (s.2.2.1,())) fun y=>j1 s y.1 (zE 16 false) (zE 8 false) (zE 756 0),zC (gX (s.2.2.1,())) fun y=>j1 s y.1 (zE 16 false) (zE 8 false) (zE 756 0)],amb (ay fu.rs) [zC (gX (s.2.2.1,())) fun y=>amb (ay fu.rs) [j1 s y.1 (zE 16 false) (zE 8 false) (zE 756 0),j1 s y.1 (zE 16 false) (zE 8 false) (zE 756 0)],amb (ay fu.rs) [zC (gX (s.2.2.1,())) fun y=>j1 s y.1 (zE 16 false) (zE 8 false) (zE 756 0),zC (gX (s.2.2.1,())) fun y=>j1 s y.1 (zE 16 false) (zE 8 false) (zE 756 0)]]],amb (ay fu.rs) [amb (ay fu.rs) [amb (ay fu.rs) [zC (gX (s.2.2.1,())) fun y=>j1 s y.1 (zE 16 false) (zE 8 false) (zE 756 0),zC (gX (s.2.2.1,())) fun y=>j1 s y.1 (zE 16 false) (zE 8 false) (zE 756 0)],amb (ay fu.rs) [zC (gX (s.2.2.1,())) fun y=>amb (ay fu.rs) [j1 s y.1 (zE 16 false) (zE 8 false) (zE 756 0),j1 s y.1 (zE 16 false) (zE 8 false) (zE 756 0)],amb (ay fu.rs) [zC (gX (s.2.2.1,())) fun y=>j1 s y.1 (zE 16 false) (zE 8 false) (zE 756 0),zC (gX (s.2.2.1,())) fun y=>j1 s y.1 (zE 16 false) (zE 8 false) (zE 756 0)]]],amb (ay fu.rs) [zC (gX (s.2.2.1,())) fun y=>amb (ay fu.rs) [amb (ay fu.rs) [j1 s y.1 (zE 16 false) (zE 8 false) (zE 756 0),j1 s y.1 (zE 16 false) (zE 8 false) (zE 756 0)],amb (ay fu.rs) [amb (ay fu.rs) [j1 s y.1 (zE 16 false) (zE 8 false) (zE 756 0),j1 s y.1 (zE 16 false) (zE 8 false) (zE 756 0)],amb (ay fu.rs) [j1 s y.1 (zE 16 false) (zE 8 false) (zE 756 0),j1 s y.1 (zE 16 false) (zE 8 false) (zE 756 0)]]],amb (ay fu.rs) [amb (ay fu.rs) [zC (gX (s.2.2.1,())) fun y=>j1 s y.1 (zE 16 false) (zE 8 false) (zE 756 0),zC (gX (s.2.2.1,())) fun y=>j1 s y.1 (zE 16 false) (zE 8 false) (zE 756 0)],amb (ay fu.rs) [amb (ay fu.rs) [zC (gX (s.2.2.1,())) fun y=>j1 s y.1 (zE 16 false) (zE 8 false) (zE 756 0),zC (gX (s.2.2.1,())) fun y=>j1 s y.1 (zE 16 false) (zE 8 false) (zE 756 0)],zC (gX (s.2.2.1,())) fun y=>amb (ay fu.rs) [j1 s y.1 (zE 16 false) (zE 8 false) (zE 756 0),j1 s y.1 (zE 16 false) (zE 8 false) (zE 756 0)]]]]]],amb (ay fu.rs) [zC (gX (s.2.2.1,())) fun y=>amb (ay fu.rs) [amb (ay fu.rs) [amb (ay fu.rs) [j1 s y.1 (zE 16 false) (zE 8 false) (zE 756 0),j1 s y.1 (zE 16 false) (zE 8 false) (zE 756 0)],amb (ay fu.rs) [amb (ay fu.rs) [j1 s y.1 (zE 16 false) (zE 8 false) (zE 756 0),j1 s y.1 (zE 16 false) (zE 8 false) (zE 756 0)],amb (ay fu.rs) [j1 s y.1 (zE 16 false) (zE 8 false) (zE 756 0),j1 s y.1 (zE 16 false) (zE 8 false) (zE 756 0)]]],amb (ay fu.rs) [amb (ay fu.rs) [amb (ay fu.rs) [j1 s y.1 (zE 16 false) (zE 8 false) (zE 756 0),j1 s y.1 (zE 16 false) (zE 8 false) (zE 756 0)],amb (ay fu.rs) [amb (ay fu.rs) [j1 s y.1 (zE 16 false) (zE 8 false) (zE 756 0),j1 s y.1 (zE 16 false) (zE 8 false) (zE 756 0)],amb (ay fu.rs) [j1 s y.1 (zE 16 false) (zE 8 false) (zE 756 0),j1 s y.1 (zE 16 false) (zE 8 false) (zE 756 0)]]],amb (ay fu.rs) [amb (ay fu.rs) [amb (ay fu.rs) [j1 s y.1 (zE 16 false) (zE 8 false) (zE 756 0),j1 s y.1 (zE 16 false) (zE 8 false) (zE 756 0)],amb (ay fu.rs) [amb (ay fu.rs) [j1 s y.1 (zE 16 false) (zE 8 false) (zE 756 0),j1 s y.1 (zE 16 false) (zE 8 false) (zE 756 0)],amb (ay fu.rs) [j1 s y.1 (zE 16 false) (zE 8 false) (zE 756 0),j1 s y.1 (zE 16 false) (zE 8 false) (zE 756 0)]]],amb (ay fu.rs) [amb (ay fu.rs) [j1 s y.1 (zE 16 false) (zE 8 false) (zE 756 0),j1 s y.1 (zE 16 false) (zE 8 false) (zE 756 0)],amb (ay fu.rs) [amb (ay fu.rs) [j1 s y.1 (zE 16 false) (zE 8 false) (zE 756 0),j1 s y.1 (zE 16 false) (zE 8 false) (zE 756 0)],amb (ay fu.rs) [j1 s y.1 (zE 16 false) (zE 8 false) (zE 756 0),j1 s y.1 (zE 16 false) (zE 8 false) (zE 756 0)]]]]]],amb (ay fu.rs) [amb (ay fu.rs) [amb (ay fu.rs) [zC (gX (s.2.2.1,())) fun y=>j1 s y.1 (zE 16 false) (zE 8 false) (zE 756 0),zC (gX (s.2.2.1,())) fun y=>j1 s y.1 (zE 16 false) (zE 8 false) (zE 756 0)],amb (ay fu.rs) [amb (ay fu.rs) [zC (gX (s.2.2.1,())) fun y=>j1 s y.1 (zE 16 false) (zE 8 false) (zE 756 0),zC (gX (s.2.2.1,())) fun y=>j1 s y.1 (zE 16 false) (zE 8 false) (zE 756 0)],zC (gX (s.2.2.1,())) fun y=>amb (ay fu.rs) [j1 s y.1 (zE 16 false) (zE 8 false) (zE 756 0),j1 s y.1 (zE 16 false) (zE 8 false) (zE 756 0)]]],amb (ay fu.rs) [amb (ay fu.rs) [amb (ay fu.rs) [zC (gX (s.2.2.1,())) fun y=>j1 s y.1 (zE 16 false) (zE 8 false) (zE 756 0),zC (gX (s.2.2.1,())) fun y=>j1 s y.1 (zE 16 false) (zE 8 false) (zE 756 0)],amb (ay fu.rs) [amb (ay fu.rs) [zC (gX (s.2.2.1,())) fun y=>j1 s y.1 (zE 16 false) (zE 8 false) (zE 756 0),zC (gX (s.2.2.1,())) fun y=>j1 s y.1 (zE 16 false) (zE 8 false) (zE 756 0)],zC (gX (s.2.2.1,())) fun y=>amb (ay fu.rs) [j1 s y.1 (zE 16 false) (zE 8 false) (zE 756 0),j1 s y.1 (zE 16 false) (zE 8 false) (zE 756 0)]]],amb (ay fu.rs) [amb (ay fu.rs) [amb (ay fu.rs) [zC (gX (s.2.2.1,())) fun y=>j1 s y.1 (zE 16 false) (zE 8 false) (zE 756 0),zC (gX (s.2.2.1,())) fun y=>j1 s y.1 (zE 16 false) (zE 8 false) (zE 756 0)],amb (ay fu.rs) [amb (ay fu.rs) [zC (gX (s.2.2.1,())) fun y=>j1 s y.1 (zE 16 false) (zE 8 false) (zE 756 0),zC (gX (s.2.2.1,())) fun y=>j1 s y.1 (zE 16 false) (zE 8 false) (zE 756 0)],zC (gX (s.2.2.1,())) fun y=>amb (ay fu.rs) [j1 s y.1 (zE 16 false) (zE 8 false) (zE 756 0),j1 s y.1 (zE 16 false) (zE 8 false) (zE 756 0)]]],zC (gX (s.2.2.1,())) fun y=>amb (ay fu.rs) [amb (ay fu.rs) [j1 s y.1 (zE 16 false) (zE 8 false) (zE 756 0),j1 s y.1 (zE 16 false) (zE 8 false) (zE 756 0)],amb (ay fu.rs) [amb (ay fu.rs) [j1 s y.1 (zE 16 false) (zE 8 false) (zE 756 0),j1 s y.1 (zE 16 false) (zE 8 false) (zE 756 0)],amb (ay fu.rs) [j1 s y.1 (zE 16 false) (zE 8 false) (zE 756 0),j1 s y.1 (zE 16 false) (zE 8 false) (zE 756 0)]]]]]]]]]]
def J3(s:lK)(t57:Int)(m:List Int)(o o_2:List Bool)(o_3:List Int):Option cB :=
 cu (fun self s=>aag (fun s t57 m o o_2 o_3=>self (s,t57,m,o,o_2,o_3)) s.1 s.2.1 s.2.2.1 s.2.2.2.1 s.2.2.2.2.1 s.2.2.2.2.2) 18446744073709551616 (s,t57,m,o,o_2,o_3)
def alI:=aaf (J3)
def alJ:=aae (alI)
def rV(x:As cS):Option cB:=aah alJ x.1
abbrev pDb:=zp alE alF 228 fu
theorem aAu{J w3 a b c d e f}:pDb J 4090 [w3] (aad a b c d e f)=aag (C w3 aad) a b c d e f:=by kernel_rfl
theorem aAv{J a b c d e}:pDb J 15 [] (alH a b c d e)=aaf (C (J 4090 []) aad) a b c d e:=by kernel_rfl
theorem aAw{J a b c d e}:pDb J 3 [] (alG a b c d e)=aae (C (J 15 []) alH) a b c d e:=by kernel_rfl
abbrev pDa:=zj alE alF 228 fu
theorem aAx:C (pDa 4090 []) aad=J3:=gLC (by decide) (by kernel_rfl) (fun _=>by unfold J3;rfl) fun _ _=>aAu.trans (by kernel_rfl)
theorem aAy:C (pDa 15 []) alH=alI:=gNC (by decide) fun _=>aAv.trans (by rw[aAx]<;>kernel_rfl)
theorem aAz:C (pDa 3 []) alG=alJ:=gNC (by decide) fun _=>aAw.trans (by rw[aAy]<;>kernel_rfl)
theorem aAA:au Tryz.prog (fun _=>True) 228 ⟨fu,rV⟩:=zcc (env:=alE) (d:=6) (hs:=Ev.get alF) (aj Ev.gJ (aj QD (aj aua (aj aAq (aj aAt bq))))) (fun J x=>aah (C (J 3 []) alG) x.1) (fun _ _=>by kernel_rfl) fun _=>by rw[aAz]<;>rfl
@[reducible] def oK:Sh:=⟨[.d bB,.d bA],[],[.pr (.int .u8) aA,.pr (.int .u8) lC],[.d aP],[],0,aS⟩
def alK:Env:=(cts [(2000045,Ev.iw),(165,(⟨Qy,wJ⟩:Ct)),(201,(⟨Jq,wI⟩:Ct)),(227,(⟨ZU,l5⟩:Ct)),(228,(⟨fu,rV⟩:Ct))])
def alL:List (Nat×Hint):=[(15,⟨[],[2,3,4,7]⟩),(31,⟨[],[3,4,9]⟩)]
def alM(s:lK)(a:oJ)(t4 t4_2 t4_3 t4_4 read read_2 read_3 read_4:Int):St:=⟨[(2,.pe bB s),(3,.pb 0 0),(4,.pb 1 0),(7,.pb 2 0)],40,[],[(0,.box 27 [d8 a.1,d6 a.2.1,d6 a.2.2.1,d6 a.2.2.2.1,dW a.2.2.2.2.1,.d (.sl .bool) a.2.2.2.2.2]),(1,.box 109 [d8 t4,d8 t4_2,.k (zK zH 0 0),.k (zK zH 0 0),d6 t4_3,d6 t4_4]),(2,.box 27 [d8 read,d6 read_2,d6 read_3,d6 read_4,.k (zK zH 0 0),.k (zK zH 0 0)])],3,[],0⟩
def alN(a:oJ)(t4 t4_2 t4_3 t4_4:Int)(r:Int×Int×List Bool×List Int×Int×Int):St:=⟨[(3,.pb 0 0),(4,.pb 1 0),(9,.pb 2 0)],40,[],[(0,.box 27 [d8 a.1,d6 a.2.1,d6 a.2.2.1,d6 a.2.2.2.1,dW a.2.2.2.2.1,.d (.sl .bool) a.2.2.2.2.2]),(1,.box 109 [d8 t4,d8 t4_2,.k (zK zH 0 0),.k (zK zH 0 0),d6 t4_3,d6 t4_4]),(2,.box 109 [d8 r.1,d8 r.2.1,.d (.sl .bool) r.2.2.1,dW r.2.2.2.1,d6 r.2.2.2.2.1,d6 r.2.2.2.2.2])],3,[],0⟩
def aai(j2:oJ->Int->Int->Int->Int->Int×Int×List Bool×List Int×Int×Int->Option dD)(s:lK)(a:oJ)(t4 t4_2 t4_3 t4_4 read read_2 read_3 read_4:Int):Option dD :=
 amb (ay oK.rs) [zC (wJ ()) fun y=>amb (ay oK.rs) [zC (rV (s,())) fun y_1=>amb (ay oK.rs) [zC (l5 (y.1,y_1.1,(read,read_2,read_3,read_4,[],[]),())) fun y=>amb (ay oK.rs) [j2 a t4 t4_2 t4_3 t4_4 y.2.1,j2 a t4 t4_2 t4_3 t4_4 y.2.1],amb (ay oK.rs) [amb (ay oK.rs) [zC (l5 (y.1,y_1.1,(read,read_2,read_3,read_4,[],[]),())) fun y=>j2 a t4 t4_2 t4_3 t4_4 y.2.1,zC (l5 (y.1,y_1.1,(read,read_2,read_3,read_4,[],[]),())) fun y=>j2 a t4 t4_2 t4_3 t4_4 y.2.1],amb (ay oK.rs) [zC (l5 (y.1,y_1.1,(read,read_2,read_3,read_4,[],[]),())) fun y=>j2 a t4 t4_2 t4_3 t4_4 y.2.1,zC (l5 (y.1,y_1.1,(read,read_2,read_3,read_4,[],[]),())) fun y=>j2 a t4 t4_2 t4_3 t4_4 y.2.1]]],amb (ay oK.rs) [amb (ay oK.rs) [zC (rV (s,())) fun y_1=>amb (ay oK.rs) [zC (l5 (y.1,y_1.1,(read,read_2,read_3,read_4,[],[]),())) fun y=>j2 a t4 t4_2 t4_3 t4_4 y.2.1,zC (l5 (y.1,y_1.1,(read,read_2,read_3,read_4,[],[]),())) fun y=>j2 a t4 t4_2 t4_3 t4_4 y.2.1],zC (rV (s,())) fun y_1=>zC (l5 (y.1,y_1.1,(read,read_2,read_3,read_4,[],[]),())) fun y=>j2 a t4 t4_2 t4_3 t4_4 y.2.1],amb (ay oK.rs) [zC (rV (s,())) fun y_1=>amb (ay oK.rs) [zC (l5 (y.1,y_1.1,(read,read_2,read_3,read_4,[],[]),())) fun y=>j2 a t4 t4_2 t4_3 t4_4 y.2.1,zC (l5 (y.1,y_1.1,(read,read_2,read_3,read_4,[],[]),())) fun y=>j2 a t4 t4_2 t4_3 t4_4 y.2.1],zC (rV (s,())) fun y_1=>zC (l5 (y.1,y_1.1,(read,read_2,read_3,read_4,[],[]),())) fun y=>j2 a t4 t4_2 t4_3 t4_4 y.2.1]]],amb (ay oK.rs) [amb (ay oK.rs) [zC (wJ ()) fun y=>amb (ay oK.rs) [zC (rV (s,())) fun y_1=>amb (ay oK.rs) [zC (l5 (y.1,y_1.1,(read,read_2,read_3,read_4,[],[]),())) fun y=>j2 a t4 t4_2 t4_3 t4_4 y.2.1,zC (l5 (y.1,y_1.1,(read,read_2,read_3,read_4,[],[]),())) fun y=>j2 a t4 t4_2 t4_3 t4_4 y.2.1],zC (rV (s,())) fun y_1=>zC (l5 (y.1,y_1.1,(read,read_2,read_3,read_4,[],[]),())) fun y=>j2 a t4 t4_2 t4_3 t4_4 y.2.1],zC (wJ ()) fun y=>zC (rV (s,())) fun y_1=>zC (l5 (y.1,y_1.1,(read,read_2,read_3,read_4,[],[]),())) fun y=>j2 a t4 t4_2 t4_3 t4_4 y.2.1],amb (ay oK.rs) [zC (wJ ()) fun y=>amb (ay oK.rs) [zC (rV (s,())) fun y_1=>amb (ay oK.rs) [zC (l5 (y.1,y_1.1,(read,read_2,read_3,read_4,[],[]),())) fun y=>j2 a t4 t4_2 t4_3 t4_4 y.2.1,zC (l5 (y.1,y_1.1,(read,read_2,read_3,read_4,[],[]),())) fun y=>j2 a t4 t4_2 t4_3 t4_4 y.2.1],zC (rV (s,())) fun y_1=>zC (l5 (y.1,y_1.1,(read,read_2,read_3,read_4,[],[]),())) fun y=>j2 a t4 t4_2 t4_3 t4_4 y.2.1],zC (wJ ()) fun y=>zC (rV (s,())) fun y_1=>zC (l5 (y.1,y_1.1,(read,read_2,read_3,read_4,[],[]),())) fun y=>j2 a t4 t4_2 t4_3 t4_4 y.2.1]]]
def auJ(a:oJ)(t4 t4_2 t4_3 t4_4:Int)(r:Int×Int×List Bool×List Int×Int×Int):Option dD :=
 some ((a.1,r.2),())
def aaj(j1:lK->oJ->Int->Int->Int->Int->Int->Int->Int->Int->Option dD)(s:lK)(a:oJ):Option dD :=
 zC (wI (a,())) fun y=>if y.2.1=true then some (y.1,()) else if eqi a.1 23=true then j1 s a 0 0 0 0 3 a.2.1 a.2.2.1 0 else j1 s a 0 0 0 0 a.1 a.2.1 a.2.2.1 0
def alO:=auJ
def aak:=aai (alO)
def pq(x:As [.pr (.int .u8) aA,.pr (.int .u8) lC]):Option dD:=aaj aak x.1 x.2.1
abbrev pDh:=zp alK alL 168 oK
theorem aAB{J a b c d e f}:pDh J 31 [] (alN a b c d e f)=auJ a b c d e f:=by kernel_rfl
theorem aAC{J a b c d e f g h i j}:pDh J 15 [] (alM a b c d e f g h i j)=aai (C (J 31 []) alN) a b c d e f g h i j:=by kernel_rfl
abbrev pDg:=zj alK alL 168 oK
theorem aAD:C (pDg 31 []) alN=alO:=gNC (by decide) fun _=>aAB
theorem aAE:C (pDg 15 []) alM=aak:=gNC (by decide) fun _=>aAC.trans (by rw[aAD]<;>kernel_rfl)
theorem aAF:au Tryz.prog (fun _=>True) 168 ⟨oK,pq⟩:=zcc (env:=alK) (d:=6) (hs:=Ev.get alL) (aj Ev.gJ (aj aqw (aj ai0 (aj aAh (aj aAA bq))))) (fun J x=>aaj (C (J 15 []) alM) x.1 x.2.1) (fun _ _=>by kernel_rfl) fun _=>by rw[aAE]<;>rfl
@[reducible] def dX:List Ty:=[.pr (.int .u16) D6,.int .i64]
@[reducible] def aal:Sh:=⟨[.d aB],[],aJ,[.d cR,.d (.int .i64)],[],0,dX⟩
def alP:Env:=(cts [(270,(⟨XA,rT⟩:Ct))])
def alQ:List (Nat×Hint):=[(6,⟨[],[0,2,18]⟩)]
@[reducible] def zI8:Type:=Int×Int×Int×Int×Int
def alR(w:List Int)(t18:Bool)(t2:zI8):St:=⟨[(0,dW w),(2,.pb 0 0),(18,dB t18)],45,[],[(0,.box 104 [d6 t2.1,d8 t2.2.1,d2 t2.2.2.1,d6 t2.2.2.2.1,d2 t2.2.2.2.2])],1,[],0⟩
def aam(w:List Int)(t18:Bool)(t2:zI8):Option (As dX) :=
 if t18=true then some ((0,0,0,0,0),2,()) else zC (at? w 0) fun y=>zC (at? w 1) fun y_1=>zC (at? w 2) fun y_2=>zC (at? w 3) fun y_3=>zC (at? w 4) fun y_4=>zC (at? w 5) fun y_5=>zC (at? w 6) fun y_6=>zC (rT (y_2,y_3,())) fun y_7=>zC (rT (y_5,y_6,())) fun y_8=>some ((y,cvt .u8 y_1,y_7.1,y_4,y_8.1),0,())
def aan(j1:List Int->Bool->Int×Int×Int×Int×Int->Option (As dX))(w:List Int):Option (As dX) :=
 if nei (zF (zG w)) 8=true then j1 w true (0,0,0,0,0) else zC (at? w 7) fun y=>if nei y 0=true then j1 w true (0,0,0,0,0) else zC (at? w 1) fun y=>j1 w (ge y 256) (0,0,0,0,0)
def aao:=aam
def J4(x:As aJ):Option (As dX):=aan aao x.1
abbrev pAd:=zp alP alQ 252 aal
theorem aAG{J a b c}:pAd J 6 [] (alR a b c)=aam a b c:=by kernel_rfl
abbrev pAc:=zj alP alQ 252 aal
theorem aAH:C (pAc 6 []) alR=aao:=gNC (by decide) fun _=>aAG
theorem aAI:au Tryz.prog (fun _=>True) 252 ⟨aal,J4⟩:=zcc (env:=alP) (d:=6) (hs:=Ev.get alQ) (aj ahp bq) (fun J x=>aan (C (J 6 []) alR) x.1) (fun _ _=>by kernel_rfl) fun _=>by rw[aAH]<;>rfl
@[reducible] def aap:Sh:=⟨[.d aH],[],bF,[.d aH],[],0,bF⟩
def alS:Env:=(cts [(45,(⟨IW,nR⟩:Ct))])
def alT:List (Nat×Hint):=[(58,⟨[],[1,2,12,13]⟩),(7475,⟨[.frb 5],[1,2,3,5,12,13]⟩)]
def J5(a t2:Int)(t12:List Bool)(t13:Int)(a_2 t2_2:List kL):St:=⟨[(1,.prw 0 a 32 0),(2,.prw 1 t2 32 0),(12,.d (.ar 8 .bool) t12),(13,dI t13)],41,[],[(0,.row aH 43 a_2),(1,.row aH 43 t2_2)],2,[],0⟩
def alU(a t2 i:Int)(t12:List Bool)(t13:Int)(a_2 t2_2:List kL)(x:Int×List Int):St:=⟨[(1,.prw 0 a 32 0),(2,.prw 1 t2 32 0),(3,dI i),(5,.pb 2 0),(12,.d (.ar 8 .bool) t12),(13,dI t13)],41,[],[(0,.row aH 43 a_2),(1,.row aH 43 t2_2),(2,.box 38 [dI x.1,dW x.2])],3,[],0⟩
@[reducible] def dG:Type:=As bF
@[reducible] def zI9:Type:=Int->Int->List Bool->Int->List kL->List kL->Option dG
def J6(j2:Int->Int->Int->List Bool->Int->List kL->List kL->Int×List Int->Option dG)(self1:zI9)(a t2:Int)(t12:List Bool)(t13:Int)(a_2 t2_2:List kL):Option dG :=
 if lt t13 8=true then need (lt t13 8) (zC (at? t12 t13) fun y=>if y=true then need (ge t13 0) (need (lt t13 8) (zC (at? a_2 a) fun y=>zC (at? y.2.2.2.2.2.1.2.2 t13) fun z=>need (ge t13 0) (need (lt t13 8) (zC (at? a_2 a) fun y=>zC (at? y.2.2.2.2.2.1.2.2 t13) fun z_1=>zC (nR (z_1.2,())) fun y=>j2 a t2 t13 t12 t13 a_2 t2_2 (z.1,y.1))))) else j2 a t2 t13 t12 t13 a_2 t2_2 (0,[])) else zC (at? a_2 a) fun y=>zC (at? t2_2 t2) fun x=>zC (at? (List.set t2_2 (zI t2) y) t2) fun y_1=>zC (at? (List.set t2_2 (zI t2) y) t2) fun y=>some (y,())
def aaq(self1:zI9)(a t2 i:Int)(t12:List Bool)(t13:Int)(a_2 t2_2:List kL)(x:Int×List Int):Option dG :=
 need (ge i 0) (need (lt i 8) (zC (at? a_2 a) fun x_1=>zC (at? x_1.2.2.2.2.2.1.2.2 i) fun z=>self1 a t2 t12 (add .i64 t13 1) (List.set a_2 (zI a) (x_1.1,x_1.2.1,x_1.2.2.1,x_1.2.2.2.1,x_1.2.2.2.2.1,(x_1.2.2.2.2.2.1.1,x_1.2.2.2.2.2.1.2.1,List.set x_1.2.2.2.2.2.1.2.2 (zI i) x),x_1.2.2.2.2.2.2)) t2_2))
def aar(j1:zI9)(a:oI):Option dG :=
 zC (nR (a.1,())) fun y=>j1 0 0 a.2.2.2.2.2.1.2.1 0 [(y.1,a.2)] [BR]
def QF(u1:zI9):=aaq u1
def J7(a t2:Int)(t12:List Bool)(t13:Int)(a_2 t2_2:List kL):Option dG :=
 cu (fun self s=>J6 (QF (fun a t2 t12 t13 a_2 t2_2=>self (a,t2,t12,t13,a_2,t2_2))) (fun a t2 t12 t13 a_2 t2_2=>self (a,t2,t12,t13,a_2,t2_2)) s.1 s.2.1 s.2.2.1 s.2.2.2.1 s.2.2.2.2.1 s.2.2.2.2.2) 18446744073709551616 (a,t2,t12,t13,a_2,t2_2)
def FU(x:As bF):Option dG:=aar J7 x.1
abbrev pAj:=zp alS alT 171 aap
theorem aAJ{J w1 a b c d e f g h}:pAj J 7475 [w1] (alU a b c d e f g h)=aaq (C w1 J5) a b c d e f g h:=by kernel_rfl
theorem aAK{J w1 a b c d e f}:pAj J 58 [w1] (J5 a b c d e f)=J6 (C (J 7475 [w1]) alU) (C w1 J5) a b c d e f:=by kernel_rfl
abbrev pAi:=zj alS alT 171 aap
theorem aAL{w1}:C (pAi 7475 [w1]) alU=QF (C w1 J5):=gNC (by decide) fun _=>aAJ
theorem aAM:C (pAi 58 []) J5=J7:=gLC (by decide) (by kernel_rfl) (fun _=>by unfold J7;rfl) fun _ _=>aAK.trans (by rw[aAL]<;>kernel_rfl)
theorem aas:au Tryz.prog (fun _=>True) 171 ⟨aap,FU⟩:=zcc (env:=alS) (d:=6) (hs:=Ev.get alT) (aj BS bq) (fun J x=>aar (C (J 58 []) J5) x.1) (fun _ _=>by kernel_rfl) fun _=>by rw[aAM]<;>rfl
@[reducible] def fO:List Ty:=[.pr aB wC,.int .u16]
@[reducible] def aqA:Sh:=⟨[.d aH,.d (.int .u16)],[],fO,[.d (.bool)],[],0,[.bool]⟩
def aAN:Env:=(cts [(2000043,Ev.iw),(150,(⟨JY,tC⟩:Ct))])
def alV(a:oI)(owner:Int):Option aF :=
 zC (tC (a.2.1,())) fun y=>if (!y.1)=true then some (nei a.2.1.1 owner,()) else some (false,())
def uR(x:As fO):Option aF:=alV x.1 x.2.1
theorem auK:au Tryz.prog (fun _=>True) 275 ⟨aqA,uR⟩:=ctn (env:=aAN) (aj Ev.gJ (aj QD bq)) 6 fun J x=>by kernel_rfl
@[reducible] def aV:List Ty:=[.pr aB wC,.pr (.int .u16) D6]
@[reducible] def aAO:Sh:=⟨[.d aH,.d cR],[],aV,[.d (.bool)],[],0,[.bool]⟩
def aAP:Env:=(cts [(2000043,Ev.iw)])
def alW(a:oI)(c:zI8):Option aF :=
 if le c.2.2.1 a.2.2.2.2.1=true then some (true,()) else if nei a.2.2.1 0=true then some (lt c.2.2.1 a.2.2.2.1,()) else some (false,())
def aat(x:As aV):Option aF:=alW x.1 x.2.1
theorem aAQ:au Tryz.prog (fun _=>True) 289 ⟨aAO,aat⟩:=ctn (env:=aAP) (aj Ev.gJ bq) 6 fun J x=>by kernel_rfl
@[reducible] def aqB:Sh:=⟨[.d aH],[],bF,[.d aH],[],0,bF⟩
def aAR(a:oI):Option dG :=
 some ((a.1,(0,0),0,0,a.2.2.2.2.1,zSt,a.2.2.2.2.2.2),())
def Cz(x:As bF):Option dG:=aAR x.1
theorem QG:au Tryz.prog (fun _=>True) 173 ⟨aqB,Cz⟩:=ctn bq 6 fun J x=>by kernel_rfl
@[reducible] def bX:List Ty:=[.pr (.int .u16) (.int .i64),.int .i64]
@[reducible] def alX:Sh:=⟨[.d bK,.d (.int .u16),.d (.int .i64)],[],[.pr (.int .u16) (.int .i64),.int .u16,.int .i64],[.d bK,.d (.int .i64)],[],0,bX⟩
def alY:Env:=(cts [(150,(⟨JY,tC⟩:Ct)),(198,(⟨alq,Cy⟩:Ct)),(229,(⟨alo,Av⟩:Ct))])
def alZ:List (Nat×Hint):=[(30,⟨[],[1,2,3,6,25]⟩),(14,⟨[],[1,2,3,6,15,21,22,23,24]⟩)]
def al0(owner ticks:Int)(t15:Bool)(l t6:Int×Int):St:=⟨[(1,d6 owner),(2,dI ticks),(3,.pb 0 0),(6,.pb 1 0),(15,dB t15)],35,[],[(0,.box 35 [d6 l.1,dI l.2]),(1,.box 35 [d6 t6.1,dI t6.2])],2,[],0⟩
def al1(owner ticks:Int)(t25:Bool)(l t6:Int×Int):St:=⟨[(1,d6 owner),(2,dI ticks),(3,.pb 0 0),(6,.pb 1 0),(25,dB t25)],35,[],[(0,.box 35 [d6 l.1,dI l.2]),(1,.box 35 [d6 t6.1,dI t6.2])],2,[],0⟩
@[reducible] def auL:Type:=Int->Int->Bool->Int×Int->Int×Int->Option (As bX)
def aau(j2:auL)(owner ticks:Int)(t15:Bool)(l t6:Int×Int):Option (As bX) :=
 if t15=true then some (l,2,()) else zC (tC (l,())) fun y=>if (!y.1)=true then j2 owner ticks (nei l.1 owner) l t6 else j2 owner ticks false l t6
def aav(owner ticks:Int)(t25:Bool)(l t6:Int×Int):Option (As bX) :=
 if t25=true then some (l,22,()) else zC (Av (owner,())) fun y=>if (eqi l.1 y.1.1 && (eqi l.2 y.1.2 && true))=true then some (l,0,()) else some ((owner,ticks),0,())
def aaw(j1:auL)(l:Int×Int)(owner ticks:Int):Option (As bX) :=
 zC (Cy (l,())) fun y=>if eqi owner 0=true then j1 owner ticks true y.1 (0,0) else j1 owner ticks (lt ticks 1) y.1 (0,0)
def aax:=aav
def al2:=aau (aax)
def al3(x:As [.pr (.int .u16) (.int .i64),.int .u16,.int .i64]):Option (As bX):=aaw al2 x.1 x.2.1 x.2.2.1
abbrev pBt:=zp alY alZ 297 alX
theorem aAS{J a b c d e}:pBt J 30 [] (al1 a b c d e)=aav a b c d e:=by kernel_rfl
theorem aAT{J a b c d e}:pBt J 14 [] (al0 a b c d e)=aau (C (J 30 []) al1) a b c d e:=by kernel_rfl
abbrev pBs:=zj alY alZ 297 alX
theorem aAU:C (pBs 30 []) al1=aax:=gNC (by decide) fun _=>aAS
theorem aAV:C (pBs 14 []) al0=al2:=gNC (by decide) fun _=>aAT.trans (by rw[aAU]<;>kernel_rfl)
theorem aAW:au Tryz.prog (fun _=>True) 297 ⟨alX,al3⟩:=zcc (env:=alY) (d:=6) (hs:=Ev.get alZ) (aj QD (aj ZZ (aj ZX bq))) (fun J x=>aaw (C (J 14 []) al0) x.1 x.2.1 x.2.2.1) (fun _ _=>by kernel_rfl) fun _=>by rw[aAV]<;>rfl
@[reducible] def aqC:Sh:=⟨[.d aH,.d (.int .u16)],[],fO,[.d aH],[],0,bF⟩
def al4(a:oI)(owner:Int):Option dG :=
 zC (al3 (a.2.1,owner,a.2.2.2.2.2.2,())) fun y=>some ((a.1,y.1,a.2.2),())
def FV(x:As fO):Option dG:=al4 x.1 x.2.1
theorem aqD:au Tryz.prog (fun _=>True) 278 ⟨aqC,FV⟩:=ctn (aj aAW bq) 6 fun J x=>by kernel_rfl
@[reducible] def aAX:Sh:=⟨[.d aH,.d cR],[],aV,[.d aH],[],0,bF⟩
def al5(a:oI)(c:zI8):Option dG :=
 if eqi c.2.2.1 a.2.2.2.1=true then zC (FV (a,c.1,())) fun y=>some (y.1,()) else zC (Cz (a,())) fun y=>zC (FV (y.1,c.1,())) fun y=>some ((y.1.1,y.1.2.1,1,c.2.2.1,y.1.2.2.2.2.1,(c.2.2.1,y.1.2.2.2.2.2.1.2),y.1.2.2.2.2.2.2),())
def aay(x:As aV):Option dG:=al5 x.1 x.2.1
theorem aAY:au Tryz.prog (fun _=>True) 290 ⟨aAX,aay⟩:=ctn (aj QG (aj aqD bq)) 6 fun J x=>by kernel_rfl
@[reducible] def aaz:Sh:=⟨[.d aH,.d (.int .u8),.d (.int .u32)],[],[.pr aB wC,.int .u8,.int .u32],[.d (.bool)],[],0,[.bool]⟩
def aAZ:Env:=(cts [(2000043,Ev.iw)])
def aaA(a:oI)(phase tx:Int):Option aF :=
 if eqi a.2.2.1 phase=true then some (eqi a.2.2.2.1 tx,()) else some (false,())
def Aw(x:As [.pr aB wC,.int .u8,.int .u32]):Option aF:=aaA x.1 x.2.1 x.2.2.1
theorem aaB:au Tryz.prog (fun _=>True) 276 ⟨aaz,Aw⟩:=ctn (env:=aAZ) (aj Ev.gJ bq) 6 fun J x=>by kernel_rfl
@[reducible] def aaC:Sh:=⟨[.d d9],[],cI,[.d d9],[],0,cI⟩
def al6(x:Int×List Int):Option (As cI) :=
 zC (nR (x.2,())) fun y=>some ((x.1,y.1),())
def CB(x:As cI):Option (As cI):=al6 x.1
theorem al7:au Tryz.prog (fun _=>True) 91 ⟨aaC,CB⟩:=ctn (aj BS bq) 6 fun J x=>by kernel_rfl
@[reducible] def aaD:Sh:=⟨[.d (.pr (.int .u32) (.pr (.ar 8 .bool) (.ar 8 d9)))],[],[.pr (.int .u32) (.pr (.ar 8 .bool) (.ar 8 d9))],[.d (.sl d9)],[],0,[.sl d9]⟩
def al8:Env:=(cts [(2000041,Ev.iw),(91,(⟨aaC,CB⟩:Ct))])
def al9:List (Nat×Hint):=[(58,⟨[.row 3 38],[1,3,7,8]⟩)]
def aaE(s:zI7)(t7:List Bool)(t8:Int)(l:List (Int×List Int)):St:=⟨[(1,.pe (.pr (.int .u32) (.pr (.ar 8 .bool) (.ar 8 d9))) s),(3,.row 0),(7,.d (.ar 8 .bool) t7),(8,dI t8)],23,[],[(0,.row d9 38 l)],1,[],0⟩
@[reducible] def auM:Type:=Int×List Bool×List (Int×List Int)->List Bool->Int->List (Int×List Int)->Option cX
def J8(self1:auM)(s:zI7)(t7:List Bool)(t8:Int)(l:List (Int×List Int)):Option cX :=
 if lt t8 8=true then need (lt t8 8) (zC (at? t7 t8) fun y=>if y=true then zC (at? s.2.2 t8) fun y=>zC (CB (y,())) fun y=>need (small (zG l+Nat.succ 0)) (self1 s t7 (add .i64 t8 1) (l++[y.1])) else self1 s t7 (add .i64 t8 1) l) else some (l,())
def auN(j1:auM)(s:zI7):Option cX :=
 j1 s s.2.1 0 []
def QI(s:zI7)(t7:List Bool)(t8:Int)(l:List (Int×List Int)):Option cX :=
 cu (fun self s=>J8 (fun s t7 t8 l=>self (s,t7,t8,l)) s.1 s.2.1 s.2.2.1 s.2.2.2) 18446744073709551616 (s,t7,t8,l)
def FW(x:As [.pr (.int .u32) (.pr (.ar 8 .bool) (.ar 8 d9))]):Option cX:=auN QI x.1
abbrev pDx:=zp al8 al9 41 aaD
theorem aA0{J w1 a b c d}:pDx J 58 [w1] (aaE a b c d)=J8 (C w1 aaE) a b c d:=by kernel_rfl
abbrev pDw:=zj al8 al9 41 aaD
theorem aA1:C (pDw 58 []) aaE=QI:=gLC (by decide) (by kernel_rfl) (fun _=>by unfold QI;rfl) fun _ _=>aA0.trans (by kernel_rfl)
theorem auO:au Tryz.prog (fun _=>True) 41 ⟨aaD,FW⟩:=zcc (env:=al8) (d:=6) (hs:=Ev.get al9) (aj Ev.gJ (aj al7 bq)) (fun J x=>auN (C (J 58 []) aaE) x.1) (fun _ _=>by kernel_rfl) fun _=>by rw[aA1]<;>rfl
@[reducible] def aaF:Sh:=⟨[.d (.pr (.int .u32) (.pr (.ar 8 .bool) (.ar 8 d9))),.d (.int .i64),.d (.int .u32)],[],[.pr (.int .u32) (.pr (.ar 8 .bool) (.ar 8 d9)),.int .i64,.int .u32],[.d (.bool)],[],0,[.bool]⟩
def ama:Env:=(cts [(2000041,Ev.iw),(41,(⟨aaD,FW⟩:Ct)),(242,(⟨OP,Ji⟩:Ct))])
def amc:List (Nat×Hint):=[(7,⟨[],[2,3]⟩),(58,⟨[],[1,2,3,16,17]⟩),(6,⟨[],[1,2,3,14]⟩)]
def amd(count check:Int)(s:zI7)(t14:Bool):St:=⟨[(1,dI count),(2,d2 check),(3,.pe (.pr (.int .u32) (.pr (.ar 8 .bool) (.ar 8 d9))) s),(14,dB t14)],32,[],[],0,[],0⟩
def aaG(count check:Int)(s:zI7)(t16:List Bool)(t17:Int):St:=⟨[(1,dI count),(2,d2 check),(3,.pe (.pr (.int .u32) (.pr (.ar 8 .bool) (.ar 8 d9))) s),(16,.d (.ar 8 .bool) t16),(17,dI t17)],32,[],[],0,[],0⟩
def ame(check:Int)(s:zI7):St:=⟨[(2,d2 check),(3,.pe (.pr (.int .u32) (.pr (.ar 8 .bool) (.ar 8 d9))) s)],32,[],[],0,[],0⟩
@[reducible] def auP:Type:=Int->Int->Int×List Bool×List (Int×List Int)->List Bool->Int->Option aF
def aqE(j2:auP)(count check:Int)(s:zI7)(t14:Bool):Option aF :=
 if t14=true then some (false,()) else j2 count check s s.2.1 0
def FX(j3:Int->Int×List Bool×List (Int×List Int)->Option aF)(self2:auP)(count check:Int)(s:zI7)(t16:List Bool)(t17:Int):Option aF :=
 if lt t17 8=true then need (lt t17 8) (zC (at? t16 t17) fun y=>if Sx.neb y (lt t17 count)=true then some (false,()) else self2 count check s t16 (add .i64 t17 1)) else j3 check s
def aaH(check:Int)(s:zI7):Option aF :=
 zC (FW (s,())) fun y=>zC (Ji (y.1,())) fun y=>some (eqi y.1 check,())
def aaI(j1:Int->Int->Int×List Bool×List (Int×List Int)->Bool->Option aF)(s:zI7)(count check:Int):Option aF :=
 if lt count 0=true then j1 count check s true else j1 count check s (gt count 8)
def CF:=aaH
def QJ(count check:Int)(s:zI7)(t16:List Bool)(t17:Int):Option aF :=
 cu (fun self s=>FX (CF) (fun count check s t16 t17=>self (count,check,s,t16,t17)) s.1 s.2.1 s.2.2.1 s.2.2.2.1 s.2.2.2.2) 18446744073709551616 (count,check,s,t16,t17)
def aaJ:=aqE (QJ)
def aaK(x:As [.pr (.int .u32) (.pr (.ar 8 .bool) (.ar 8 d9)),.int .i64,.int .u32]):Option aF:=aaI aaJ x.1 x.2.1 x.2.2.1
abbrev pD5:=zp ama amc 299 aaF
theorem aA2{J a b}:pD5 J 7 [] (ame a b)=aaH a b:=by kernel_rfl
theorem aA3{J w2 a b c d e}:pD5 J 58 [w2] (aaG a b c d e)=FX (C (J 7 []) ame) (C w2 aaG) a b c d e:=by kernel_rfl
theorem aA4{J a b c d}:pD5 J 6 [] (amd a b c d)=aqE (C (J 58 []) aaG) a b c d:=by kernel_rfl
abbrev pD4:=zj ama amc 299 aaF
theorem aA5:C (pD4 7 []) ame=CF:=gNC (by decide) fun _=>aA2
theorem aA6:C (pD4 58 []) aaG=QJ:=gLC (by decide) (by kernel_rfl) (fun _=>by unfold QJ;rfl) fun _ _=>aA3.trans (by rw[aA5]<;>kernel_rfl)
theorem aA7:C (pD4 6 []) amd=aaJ:=gNC (by decide) fun _=>aA4.trans (by rw[aA6]<;>kernel_rfl)
theorem aA8:au Tryz.prog (fun _=>True) 299 ⟨aaF,aaK⟩:=zcc (env:=ama) (d:=6) (hs:=Ev.get amc) (aj Ev.gJ (aj auO (aj apH bq))) (fun J x=>aaI (C (J 6 []) amd) x.1 x.2.1 x.2.2.1) (fun _ _=>by kernel_rfl) fun _=>by rw[aA7]<;>rfl
@[reducible] def aA9:Sh:=⟨[.d aH,.d cR],[],aV,[.d (.bool)],[],0,[.bool]⟩
def aBa:Env:=(cts [(2000043,Ev.iw),(276,(⟨aaz,Aw⟩:Ct)),(299,(⟨aaF,aaK⟩:Ct))])
def amf(a:oI)(c:zI8):Option aF :=
 zC (Aw (a,2,c.2.2.1,())) fun y=>if y.1=true then some (false,()) else zC (Aw (a,1,c.2.2.1,())) fun y=>if (!y.1)=true then some (true,()) else zC (aaK (a.2.2.2.2.2.1,cvt .i64 c.2.2.2.1,c.2.2.2.2,())) fun y=>some (!y.1,())
def aaL(x:As aV):Option aF:=amf x.1 x.2.1
theorem aBb:au Tryz.prog (fun _=>True) 291 ⟨aA9,aaL⟩:=ctn (env:=aBa) (aj Ev.gJ (aj aaB (aj aA8 bq))) 6 fun J x=>by kernel_rfl
@[reducible] def aBc:Sh:=⟨[.d bK,.d (.int .u16)],[],[.pr (.int .u16) (.int .i64),.int .u16],[.d bK,.d (.int .i64)],[],0,bX⟩
def amg(l:Int×Int)(owner:Int):Option (As bX) :=
 zC (Cy (l,())) fun y=>if eqi owner 0=true then some (y.1,2,()) else if nei y.1.1 owner=true then some (y.1,22,()) else zC (Av (owner,())) fun y=>some (y.1,0,())
def aaM(x:As [.pr (.int .u16) (.int .i64),.int .u16]):Option (As bX):=amg x.1 x.2.1
theorem aBd:au Tryz.prog (fun _=>True) 300 ⟨aBc,aaM⟩:=ctn (aj ZZ (aj ZX bq)) 6 fun J x=>by kernel_rfl
end Go.Proofs.Lx
end
