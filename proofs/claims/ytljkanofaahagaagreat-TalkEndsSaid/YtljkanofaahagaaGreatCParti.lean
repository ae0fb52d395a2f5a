/- Proved in the last of these 15 parts (this is part 9): TalkEnds. Conditions: those of the given statement, and no others. -/
import Derived.Test.YtljkanofaahagaaGreatCPartd
import Derived.Test.YtljkanofaahagaaGreatCParth
import Derived.Test.YtljkanofaahagaaGreatProg
import Derived.Test.YtljkanofaahagaaGreatCParte
set_option linter.unusedVariables false
set_option linter.unusedSimpArgs false
set_option linter.unusedSectionVars false
open Option renaming bind → zC, none → zH
open List renaming replicate → zE, length → zG
open Int renaming ofNat → zF, toNat → zI
open Go.Value renaming slice → zK
noncomputable section
open Go Go.Proofs Ev Sx
set_option maxRecDepth 100000
namespace Go.Proofs.Lx
abbrev mI:Type:=List Int×(Int×Int)×Int×Int×Int×nW×Int
abbrev mJ:Type:=Int×Int×Int×Int×List Int×List Bool
abbrev jQ:Type:=Int×Int×jq×List Bool
@[reducible] def ahY:Sh:=⟨[.d bJ,.d (.bool)],[],[.pr eX (.sl .bool),.bool],[.d (.bool)],[],0,[.bool]⟩
def ahZ:Env:=(cts [])
def ah0:List (Nat×Hint):=[(122,⟨[],[1,2,5,13,14,15,24,25,26,27,28,29,32,33,34,37,38,39,40,41,42,43,44,45,49,50]⟩),(31334,⟨[.agd 50 .bool],[1,2,7,13,14,15,51]⟩),(15666,⟨[.agd 25 (.int .i64),.agd 27 (.sl .bool),.agd 28 (.int .i64),.agd 29 .bool,.agd 33 (.int .i64),.agd 34 .bool,.agd 38 (.int .i64),.agd 40 (.sl .bool),.agd 41 (.int .i64),.agd 43 (.int .i64),.agd 44 (.int .i64),.agd 45 .bool],[1,2,7,13,14,15,46]⟩)]
@[reducible] def zI0:Type:=List bq×List Bool
def Az(fixed:Bool)(endV:Int)(t13:List bq)(t14 t15:Int)(t:zI0):St:=⟨[(1,dB fixed),(2,.pb 0 0),(5,dI endV),(13,.d eX t13),(14,dI t14),(15,dI t15)],58,[],[(0,.box 271 [.d eX t.1,.d (.sl .bool) t.2])],1,[],0⟩
@[reducible] def zI1:Type:=Int×Int×Bool×Bool×Bool
def ah1(fixed:Bool)(t13:List bq)(t14 t15:Int)(t46:Bool)(t:zI0)(x:zI1):St:=⟨[(1,dB fixed),(2,.pb 0 0),(7,.pb 1 0),(13,.d eX t13),(14,dI t14),(15,dI t15),(46,dB t46)],58,[],[(0,.box 271 [.d eX t.1,.d (.sl .bool) t.2]),(1,.box 250 [dI x.1,dI x.2.1,dB x.2.2.1,dB x.2.2.2.1,dB x.2.2.2.2])],2,[],0⟩
def ah2(fixed:Bool)(t13:List bq)(t14 t15:Int)(t51:Bool)(t:zI0)(x:zI1):St:=⟨[(1,dB fixed),(2,.pb 0 0),(7,.pb 1 0),(13,.d eX t13),(14,dI t14),(15,dI t15),(51,dB t51)],58,[],[(0,.box 271 [.d eX t.1,.d (.sl .bool) t.2]),(1,.box 250 [dI x.1,dI x.2.1,dB x.2.2.1,dB x.2.2.2.1,dB x.2.2.2.2])],2,[],0⟩
@[reducible] def zI2:Type:=Bool->List bq->Int->Int->Bool->List bq×List Bool->Int×Int×Bool×Bool×Bool->Option aF
@[reducible] def zI3:Type:=Bool->Int->List bq->Int->Int->List bq×List Bool->Option aF
def NQ(j2:zI2)(self1:zI3)(fixed:Bool)(endV:Int)(t13:List bq)(t14 t15:Int)(t:zI0):Option aF :=
 if lt t15 t14=true then zC (at? t13 t15) fun y=>if lt y.1 endV=true then j2 fixed t13 t14 t15 true t y else if gt y.1 (zF (zG t.2))=true then j2 fixed t13 t14 t15 true t y else if lt y.2.1 1=true then j2 fixed t13 t14 t15 true t y else j2 fixed t13 t14 t15 (gt y.2.1 (Sx.sub .i64 (zF (zG t.2)) y.1)) t y else some (true,())
def ah3(j3:zI2)(self1:zI3)(fixed:Bool)(t13:List bq)(t14 t15:Int)(t46:Bool)(t:zI0)(x:zI1):Option aF :=
 if t46=true then some (false,()) else if fixed=true then j3 fixed t13 t14 t15 x.2.2.2.1 t x else j3 fixed t13 t14 t15 false t x
def ah4(self1:zI3)(fixed:Bool)(t13:List bq)(t14 t15:Int)(t51:Bool)(t:zI0)(x:zI1):Option aF :=
 if t51=true then some (false,()) else self1 fixed (add .i64 x.1 x.2.1) t13 t14 (add .i64 t15 1) t
def Wz(j1:zI3)(t:zI0)(fixed:Bool):Option aF :=
 if gt (zF (zG t.2)) 65536=true then some (false,()) else j1 fixed 0 t.1 (zF (zG t.1)) 0 t
def WA(u1:zI3):=ah4 u1
def WB(u1:zI3):=ah3 (WA u1) u1
def G4(fixed:Bool)(endV:Int)(t13:List bq)(t14 t15:Int)(t:zI0):Option aF :=
 bu (fun self s=>NQ (WB (fun fixed endV t13 t14 t15 t=>self (fixed,endV,t13,t14,t15,t))) (fun fixed endV t13 t14 t15 t=>self (fixed,endV,t13,t14,t15,t)) s.1 s.2.1 s.2.2.1 s.2.2.2.1 s.2.2.2.2.1 s.2.2.2.2.2) 18446744073709551616 (fixed,endV,t13,t14,t15,t)
def WC(x:As [.pr eX (.sl .bool),.bool]):Option aF:=Wz G4 x.1 x.2.1
abbrev pCh:=zp ahZ ah0 279 ahY
theorem aAL{J w1 a b c d e f g}:pCh J 31334 [w1] (ah2 a b c d e f g)=ah4 (C w1 Az) a b c d e f g:=by kernel_rfl
theorem aAM{J w1 a b c d e f g}:pCh J 15666 [w1] (ah1 a b c d e f g)=ah3 (C (J 31334 [w1]) ah2) (C w1 Az) a b c d e f g:=by kernel_rfl
theorem aAN{J w1 a b c d e f}:pCh J 122 [w1] (Az a b c d e f)=NQ (C (J 15666 [w1]) ah1) (C w1 Az) a b c d e f:=by kernel_rfl
abbrev pCg:=zj ahZ ah0 279 ahY
theorem aAO{w1}:C (pCg 31334 [w1]) ah2=WA (C w1 Az):=gNC (by decide) fun _=>aAL
theorem aAP{w1}:C (pCg 15666 [w1]) ah1=WB (C w1 Az):=gNC (by decide) fun _=>aAM.trans (by rw[aAO]<;>kernel_rfl)
theorem aAQ:C (pCg 122 []) Az=G4:=gLC (by decide) (by kernel_rfl) (fun _=>by unfold G4;rfl) fun _ _=>aAN.trans (by rw[aAP]<;>kernel_rfl)
theorem aAR:ak Tryz.prog (fun _=>True) 279 ⟨ahY,WC⟩:=zcc (env:=ahZ) (d:=6) (hs:=Ev.get ah0) av (fun J x=>Wz (C (J 122 []) Az) x.1 x.2.1) (fun _ _=>by kernel_rfl) fun _=>by rw[aAQ]<;>rfl
@[reducible] def ah5:Sh:=⟨[.d cH,.d (.bool)],[],[.pr eX aC,.bool],[.d (.bool)],[],0,[.bool]⟩
def ah6:Env:=(cts [])
def ah7:List (Nat×Hint):=[(122,⟨[],[1,2,5,13,14,15,24,25,26,27,28,29,32,33,34,37,38,39,40,41,42,43,44,45,49,50]⟩),(31334,⟨[.agd 50 .bool],[1,2,7,13,14,15,51]⟩),(15666,⟨[.agd 25 (.int .i64),.agd 27 aC,.agd 28 (.int .i64),.agd 29 .bool,.agd 33 (.int .i64),.agd 34 .bool,.agd 38 (.int .i64),.agd 40 aC,.agd 41 (.int .i64),.agd 43 (.int .i64),.agd 44 (.int .i64),.agd 45 .bool],[1,2,7,13,14,15,46]⟩)]
@[reducible] def zI4:Type:=List bq×List Int
def AA(fixed:Bool)(endV:Int)(t13:List bq)(t14 t15:Int)(t:zI4):St:=⟨[(1,dB fixed),(2,.pb 0 0),(5,dI endV),(13,.d eX t13),(14,dI t14),(15,dI t15)],58,[],[(0,.box 273 [.d eX t.1,dW t.2])],1,[],0⟩
def ah8(fixed:Bool)(t13:List bq)(t14 t15:Int)(t46:Bool)(t:zI4)(x:zI1):St:=⟨[(1,dB fixed),(2,.pb 0 0),(7,.pb 1 0),(13,.d eX t13),(14,dI t14),(15,dI t15),(46,dB t46)],58,[],[(0,.box 273 [.d eX t.1,dW t.2]),(1,.box 250 [dI x.1,dI x.2.1,dB x.2.2.1,dB x.2.2.2.1,dB x.2.2.2.2])],2,[],0⟩
def ah9(fixed:Bool)(t13:List bq)(t14 t15:Int)(t51:Bool)(t:zI4)(x:zI1):St:=⟨[(1,dB fixed),(2,.pb 0 0),(7,.pb 1 0),(13,.d eX t13),(14,dI t14),(15,dI t15),(51,dB t51)],58,[],[(0,.box 273 [.d eX t.1,dW t.2]),(1,.box 250 [dI x.1,dI x.2.1,dB x.2.2.1,dB x.2.2.2.1,dB x.2.2.2.2])],2,[],0⟩
@[reducible] def zI5:Type:=Bool->List bq->Int->Int->Bool->List bq×List Int->Int×Int×Bool×Bool×Bool->Option aF
@[reducible] def zI6:Type:=Bool->Int->List bq->Int->Int->List bq×List Int->Option aF
def NR(j2:zI5)(self1:zI6)(fixed:Bool)(endV:Int)(t13:List bq)(t14 t15:Int)(t:zI4):Option aF :=
 if lt t15 t14=true then zC (at? t13 t15) fun y=>if lt y.1 endV=true then j2 fixed t13 t14 t15 true t y else if gt y.1 (zF (zG t.2))=true then j2 fixed t13 t14 t15 true t y else if lt y.2.1 1=true then j2 fixed t13 t14 t15 true t y else j2 fixed t13 t14 t15 (gt y.2.1 (Sx.sub .i64 (zF (zG t.2)) y.1)) t y else some (true,())
def aia(j3:zI5)(self1:zI6)(fixed:Bool)(t13:List bq)(t14 t15:Int)(t46:Bool)(t:zI4)(x:zI1):Option aF :=
 if t46=true then some (false,()) else if fixed=true then j3 fixed t13 t14 t15 x.2.2.2.1 t x else j3 fixed t13 t14 t15 false t x
def aib(self1:zI6)(fixed:Bool)(t13:List bq)(t14 t15:Int)(t51:Bool)(t:zI4)(x:zI1):Option aF :=
 if t51=true then some (false,()) else self1 fixed (add .i64 x.1 x.2.1) t13 t14 (add .i64 t15 1) t
def WE(j1:zI6)(t:zI4)(fixed:Bool):Option aF :=
 if gt (zF (zG t.2)) 65536=true then some (false,()) else j1 fixed 0 t.1 (zF (zG t.1)) 0 t
def WG(u1:zI6):=aib u1
def WH(u1:zI6):=aia (WG u1) u1
def G5(fixed:Bool)(endV:Int)(t13:List bq)(t14 t15:Int)(t:zI4):Option aF :=
 bu (fun self s=>NR (WH (fun fixed endV t13 t14 t15 t=>self (fixed,endV,t13,t14,t15,t))) (fun fixed endV t13 t14 t15 t=>self (fixed,endV,t13,t14,t15,t)) s.1 s.2.1 s.2.2.1 s.2.2.2.1 s.2.2.2.2.1 s.2.2.2.2.2) 18446744073709551616 (fixed,endV,t13,t14,t15,t)
def WI(x:As [.pr eX aC,.bool]):Option aF:=WE G5 x.1 x.2.1
abbrev pCj:=zp ah6 ah7 280 ah5
theorem aAS{J w1 a b c d e f g}:pCj J 31334 [w1] (ah9 a b c d e f g)=aib (C w1 AA) a b c d e f g:=by kernel_rfl
theorem aAT{J w1 a b c d e f g}:pCj J 15666 [w1] (ah8 a b c d e f g)=aia (C (J 31334 [w1]) ah9) (C w1 AA) a b c d e f g:=by kernel_rfl
theorem aAU{J w1 a b c d e f}:pCj J 122 [w1] (AA a b c d e f)=NR (C (J 15666 [w1]) ah8) (C w1 AA) a b c d e f:=by kernel_rfl
abbrev pCi:=zj ah6 ah7 280 ah5
theorem aAV{w1}:C (pCi 31334 [w1]) ah9=WG (C w1 AA):=gNC (by decide) fun _=>aAS
theorem aAW{w1}:C (pCi 15666 [w1]) ah8=WH (C w1 AA):=gNC (by decide) fun _=>aAT.trans (by rw[aAV]<;>kernel_rfl)
theorem aAX:C (pCi 122 []) AA=G5:=gLC (by decide) (by kernel_rfl) (fun _=>by unfold G5;rfl) fun _ _=>aAU.trans (by rw[aAW]<;>kernel_rfl)
theorem aAY:ak Tryz.prog (fun _=>True) 280 ⟨ah5,WI⟩:=zcc (env:=ah6) (d:=6) (hs:=Ev.get ah7) av (fun J x=>WE (C (J 122 []) AA) x.1 x.2.1) (fun _ _=>by kernel_rfl) fun _=>by rw[aAX]<;>rfl
@[reducible] def amE:Sh:=⟨[.d (.pr eX aZ),.d eI],[],dN,[.d (.bool)],[],0,[.bool]⟩
def aic(s:List bq×List bq×List bq×List bq)(m:List Bool×List Bool×List Int×List Int):Option aF :=
 zC (GL (s,m,())) fun y=>zC (WC (y.1.1,false,())) fun y_1=>if y_1.1=true then zC (WC (y.1.2.1,true,())) fun y_2=>if y_2.1=true then zC (WI (y.1.2.2.1,false,())) fun y_3=>if y_3.1=true then zC (WI (y.1.2.2.2,true,())) fun y=>some (y.1,()) else some (false,()) else some (false,()) else some (false,())
def WJ(x:As dN):Option aF:=aic x.1 x.2.1
theorem av7:ak Tryz.prog (fun _=>True) 257 ⟨amE,WJ⟩:=ctn (aj amy (aj aAR (aj aAY av))) 6 fun J x=>by kernel_rfl
@[reducible] def aAZ:Sh:=⟨[.d bJ,.d (.int .i64),.d (.int .i64),.d (.int .i64)],[],[.pr eX (.sl .bool),.int .i64,.int .i64,.int .i64],[.d (.sl .bool)],[],0,[.sl .bool]⟩
def aid(t:zI0)(at' many step:Int):Option cX :=
 need (nei step 0) (need (ge (mul .i64 (quo .i64 (Sx.sub .i64 (add .i64 many step) 1) step) step) 0) (need (Ev.iX (mul .i64 (quo .i64 (Sx.sub .i64 (add .i64 many step) 1) step) step) (mul .i64 (quo .i64 (Sx.sub .i64 (add .i64 many step) 1) step) step)) (need (small (zI (mul .i64 (quo .i64 (Sx.sub .i64 (add .i64 many step) 1) step) step))) (zC (cut t.2 at' (add .i64 at' many)) fun y=>need (le (zF (0+zG (zE (zI (mul .i64 (quo .i64 (Sx.sub .i64 (add .i64 many step) 1) step) step)) false))) (zF (zG (zE (zI (mul .i64 (quo .i64 (Sx.sub .i64 (add .i64 many step) 1) step) step)) false)))) (some (List.take (zI (zF (zG (zE (zI (mul .i64 (quo .i64 (Sx.sub .i64 (add .i64 many step) 1) step) step)) false)))) y++List.drop (0+zG (List.take (zI (zF (zG (zE (zI (mul .i64 (quo .i64 (Sx.sub .i64 (add .i64 many step) 1) step) step)) false)))) y)) (zE (zI (mul .i64 (quo .i64 (Sx.sub .i64 (add .i64 many step) 1) step) step)) false),()))))))
def WK(x:As [.pr eX (.sl .bool),.int .i64,.int .i64,.int .i64]):Option cX:=aid x.1 x.2.1 x.2.2.1 x.2.2.2.1
theorem aA0:ak Tryz.prog (fun _=>True) 281 ⟨aAZ,WK⟩:=ctn av 6 fun J x=>by kernel_rfl
@[reducible] def aA1:Sh:=⟨[.d cH,.d (.int .i64),.d (.int .i64),.d (.int .i64)],[],[.pr eX aC,.int .i64,.int .i64,.int .i64],[.d aC],[],0,aK⟩
def aie(t:zI4)(at' many step:Int):Option bK :=
 need (nei step 0) (need (ge (mul .i64 (quo .i64 (Sx.sub .i64 (add .i64 many step) 1) step) step) 0) (need (Ev.iX (mul .i64 (quo .i64 (Sx.sub .i64 (add .i64 many step) 1) step) step) (mul .i64 (quo .i64 (Sx.sub .i64 (add .i64 many step) 1) step) step)) (need (small (zI (mul .i64 (quo .i64 (Sx.sub .i64 (add .i64 many step) 1) step) step))) (zC (cut t.2 at' (add .i64 at' many)) fun y=>need (le (zF (0+zG (zE (α:=Int) (zI (mul .i64 (quo .i64 (Sx.sub .i64 (add .i64 many step) 1) step) step)) 0))) (zF (zG (zE (α:=Int) (zI (mul .i64 (quo .i64 (Sx.sub .i64 (add .i64 many step) 1) step) step)) 0)))) (some (List.take (zI (zF (zG (zE (α:=Int) (zI (mul .i64 (quo .i64 (Sx.sub .i64 (add .i64 many step) 1) step) step)) 0)))) y++List.drop (0+zG (List.take (zI (zF (zG (zE (α:=Int) (zI (mul .i64 (quo .i64 (Sx.sub .i64 (add .i64 many step) 1) step) step)) 0)))) y)) (zE (zI (mul .i64 (quo .i64 (Sx.sub .i64 (add .i64 many step) 1) step) step)) 0),()))))))
def WM(x:As [.pr eX aC,.int .i64,.int .i64,.int .i64]):Option bK:=aie x.1 x.2.1 x.2.2.1 x.2.2.2.1
theorem aA2:ak Tryz.prog (fun _=>True) 282 ⟨aA1,WM⟩:=ctn av 6 fun J x=>by kernel_rfl
@[reducible] def aqp:Sh:=⟨[.d (.pr bJ bF),.d (.int .i64),.d bA],[],[.pr bJ bF,.int .i64,.pr (.int .u8) jH],[.d aP],[],0,aS⟩
def aif(v:dR×dR×(List bq×List Int)×List bq×List Int)(p:Int)(a:mJ):Option cP :=
 if eqi p 1=true then zC (WK (v.1,cvt .i64 a.2.1,cvt .i64 a.2.2.1,8,())) fun y=>some ((a.1,0,y.1,[],0,0),()) else if eqi p 2=true then zC (WK (v.2.1,cvt .i64 a.2.1,cvt .i64 a.2.2.1,8,())) fun y=>some ((a.1,0,y.1,[],0,0),()) else if eqi p 3=true then zC (WM (v.2.2.1,cvt .i64 a.2.1,cvt .i64 a.2.2.1,1,())) fun y=>some ((a.1,0,[],y.1,0,0),()) else if eqi p 4=true then zC (WM (v.2.2.2,cvt .i64 a.2.1,cvt .i64 a.2.2.1,1,())) fun y=>some ((a.1,0,[],y.1,0,0),()) else some ((a.1,0,[],[],0,0),())
def NS(x:As [.pr bJ bF,.int .i64,.pr (.int .u8) jH]):Option cP:=aif x.1 x.2.1 x.2.2.1
theorem aA3:ak Tryz.prog (fun _=>True) 260 ⟨aqp,NS⟩:=ctn (aj aA0 (aj aA2 av)) 6 fun J x=>by kernel_rfl
@[reducible] def cQ:List Ty:=[.pr (.sl .bool) BS,.pr (.int .u8) mg]
@[reducible] def WN:Sh:=⟨[.d (.pr eX aZ),.d eI,.d bA],[],[.pr eX aZ,.pr (.sl .bool) BS,.pr (.int .u8) jH],[.d eI,.d aP],[],0,cQ⟩
def aii:Env:=(cts [(45,(⟨SF,CZ⟩:Ct)),(113,(⟨Td,C4⟩:Ct)),(164,(⟨NN,Dx⟩:Ct)),(166,(⟨afp,jI⟩:Ct)),(201,(⟨Gp,uf⟩:Ct)),(222,(⟨ahf,GM⟩:Ct)),(224,(⟨ahh,Dn⟩:Ct)),(257,(⟨amE,WJ⟩:Ct)),(260,(⟨aqp,NS⟩:Ct))])
def aij:List (Nat×Hint):=[(255,⟨[],[5,6,7,8,10,11]⟩)]
def aik(a:mJ)(t7 t7_2 t7_3 t7_4:Int)(o o_2:List Bool)(o_3 o_4:List Int)(v v_2 v_3 v_4:List bq)(u:Int×Int):St:=⟨[(5,.pb 0 0),(6,.pb 1 0),(7,.pb 2 0),(8,.pb 3 0),(10,.pb 8 0),(11,.pb 9 0)],79,[],[(0,.box 27 [d8 a.1,d6 a.2.1,d6 a.2.2.1,d6 a.2.2.2.1,dW a.2.2.2.2.1,.d (.sl .bool) a.2.2.2.2.2]),(1,.box 196 [.k (zK zH 0 0),.k (zK zH 0 0),.k (zK zH 0 0),.k (zK zH 0 0)]),(2,.box 109 [d8 t7,d8 t7_2,.k (zK zH 0 0),.k (zK zH 0 0),d6 t7_3,d6 t7_4]),(3,.box 196 [.row 4,.row 5,.row 6,.row 7]),(4,.row .bool 4 o),(5,.row .bool 4 o_2),(6,.row (.int .u16) 25 o_3),(7,.row (.int .u16) 25 o_4),(8,.box 275 [.d eX v,.row 4,.d eX v_2,.row 5,.d eX v_3,.row 6,.d eX v_4,.row 7]),(9,.box 279 [dI u.1,dI u.2])],10,[],0⟩
def amF(a:mJ)(t7 t7_2 t7_3 t7_4:Int)(o o_2:List Bool)(o_3 o_4:List Int)(v v_2 v_3 v_4:List bq)(u:Int×Int):Option (As cQ) :=
 zC (uf (a,())) fun y=>if y.2.1=true then some ((o,o_2,o_3,o_4),y.1,()) else zC (NS (((v,o),(v_2,o_2),(v_3,o_3),v_4,o_4),u.1,a,())) fun y=>some ((o,o_2,o_3,o_4),y.1,())
def WO(j1:mJ->Int->Int->Int->Int->List Bool->List Bool->List Int->List Int->List bq->List bq->List bq->List bq->Int×Int->Option (As cQ))(s:List bq×List bq×List bq×List bq)(m:List Bool×List Bool×List Int×List Int)(a:mJ):Option (As cQ) :=
 zC (C4 (m.1,())) fun y=>zC (C4 (m.2.1,())) fun y_1=>zC (CZ (m.2.2.1,())) fun y_2=>zC (CZ (m.2.2.2,())) fun y_3=>zC (Dx (s,a,())) fun y_4=>if nei y_4.1 0=true then zC (jI (a.1,y_4.1,())) fun y_5=>some ((y.1,y_1.1,y_2.1,y_3.1),y_5.1,()) else zC (WJ (s,m,())) fun y_5=>if (!y_5.1)=true then zC (jI (a.1,4,())) fun y_6=>some ((y.1,y_1.1,y_2.1,y_3.1),y_6.1,()) else zC (GM (a.1,())) fun y_6=>zC (Dn (a,())) fun y_7=>if eqi y_6.1.2 1=true then need (ge y_7.1 0) (need (le y_7.1 (zF (zG y.1))) (need (le (zF (zG y.1)) (zF (zG y.1))) (need (le (y_7.1+(zF (zG y.1) - y_7.1)) (zF (zG y.1))) (j1 a 0 0 0 0 (List.take (zI y_7.1) y.1++List.take (zI (zF (zG y.1) - y_7.1)) a.2.2.2.2.2++List.drop (zI y_7.1+zG (List.take (zI (zF (zG y.1) - y_7.1)) a.2.2.2.2.2)) y.1) y_1.1 y_2.1 y_3.1 s.1 s.2.1 s.2.2.1 s.2.2.2 y_6.1)))) else if eqi y_6.1.2 3=true then need (ge y_7.1 0) (need (le y_7.1 (zF (zG y_2.1))) (need (le (zF (zG y_2.1)) (zF (zG y_2.1))) (need (le (y_7.1+(zF (zG y_2.1) - y_7.1)) (zF (zG y_2.1))) (j1 a 0 0 0 0 y.1 y_1.1 (List.take (zI y_7.1) y_2.1++List.take (zI (zF (zG y_2.1) - y_7.1)) a.2.2.2.2.1++List.drop (zI y_7.1+zG (List.take (zI (zF (zG y_2.1) - y_7.1)) a.2.2.2.2.1)) y_2.1) y_3.1 s.1 s.2.1 s.2.2.1 s.2.2.2 y_6.1)))) else j1 a 0 0 0 0 y.1 y_1.1 y_2.1 y_3.1 s.1 s.2.1 s.2.2.1 s.2.2.2 y_6.1
def NT:=amF
def kF(x:As [.pr eX aZ,.pr (.sl .bool) BS,.pr (.int .u8) jH]):Option (As cQ):=WO NT x.1 x.2.1 x.2.2.1
abbrev pB5:=zp aii aij 227 WN
theorem av8{J a b c d e f g h i j k l m n}:pB5 J 255 [] (aik a b c d e f g h i j k l m n)=amF a b c d e f g h i j k l m n:=by kernel_rfl
abbrev pB4:=zj aii aij 227 WN
theorem av9:C (pB4 255 []) aik=NT:=gNC (by decide) fun _=>av8
theorem awc:ak Tryz.prog (fun _=>True) 227 ⟨WN,kF⟩:=zcc (env:=aii) (d:=6) (hs:=Ev.get aij) (aj apl (aj apo (aj aqm (aj U5 (aj afK (aj amz (aj aqc (aj av7 (aj aA3 av))))))))) (fun J x=>WO (C (J 255 []) aik) x.1 x.2.1 x.2.2.1) (fun _ _=>by kernel_rfl) fun _=>by rw[av9]<;>rfl
@[reducible] def bR:List Ty:=[.pr (.int .u16) (.int .i64)]
@[reducible] def amG:Sh:=⟨[.d (.int .u16)],[],[.int .u16],[.d bX],[],0,bR⟩
def awd(owner:Int):Option (As bR) :=
 some ((owner,-1),())
def Dy(x:As [.int .u16]):Option (As bR):=awd x.1
theorem ail:ak Tryz.prog (fun _=>True) 229 ⟨amG,Dy⟩:=ctn av 6 fun J x=>by kernel_rfl
@[reducible] def awe:Sh:=⟨[.d bX],[],bR,[.d (.bool)],[],0,[.bool]⟩
def aim(l:Int×Int):Option aF :=
 if eqi l.1 0=true then some (eqi l.1 0 && (eqi l.2 0 && true),()) else if ge l.2 1=true then some (true,()) else zC (Dy (l.1,())) fun y=>some (eqi l.1 y.1.1 && (eqi l.2 y.1.2 && true),())
def ain(x:As bR):Option aF:=aim x.1
theorem awf:ak Tryz.prog (fun _=>True) 240 ⟨awe,ain⟩:=ctn (aj ail av) 6 fun J x=>by kernel_rfl
@[reducible] def aqr:Sh:=⟨[.d bX],[],bR,[.d bX],[],0,bR⟩
def aio(l:Int×Int):Option (As bR) :=
 zC (ain (l,())) fun y=>if (!y.1)=true then some ((0,0),()) else some (l,())
def G6(x:As bR):Option (As bR):=aio x.1
theorem aip:ak Tryz.prog (fun _=>True) 198 ⟨aqr,G6⟩:=ctn (aj awf av) 6 fun J x=>by kernel_rfl
@[reducible] def NU:Sh:=⟨[.d bX],[],bR,[.d (.bool)],[],0,[.bool]⟩
def aiq(l:Int×Int):Option aF :=
 zC (G6 (l,())) fun y=>some (eqi y.1.1 0 && (eqi y.1.2 0 && true),())
def vU(x:As bR):Option aF:=aiq x.1
theorem WQ:ak Tryz.prog (fun _=>True) 150 ⟨NU,vU⟩:=ctn (aj aip av) 6 fun J x=>by kernel_rfl
@[reducible] def WR:Sh:=⟨[.d (.pr (.int .u32) (.pr (.ar 8 .bool) (.ar 8 cr)))],[],[.pr (.int .u32) (.pr (.ar 8 .bool) (.ar 8 cr))],[.d (.int .i64)],[],0,[.int .i64]⟩
def air:Env:=(cts [(2000041,Ev.gu)])
def ais:List (Nat×Hint):=[(58,⟨[],[3,7,8]⟩)]
def WS(n:Int)(t7:List Bool)(t8:Int):St:=⟨[(3,dI n),(7,.d (.ar 8 .bool) t7),(8,dI t8)],16,[],[],0,[],0⟩
def G7(self1:Int->List Bool->Int->Option cG)(n:Int)(t7:List Bool)(t8:Int):Option cG :=
 if lt t8 8=true then need (lt t8 8) (zC (at? t7 t8) fun y=>if y=true then self1 (add .i64 n 1) t7 (add .i64 t8 1) else self1 n t7 (add .i64 t8 1)) else some (n,())
@[reducible] def zI7:Type:=Int×List Bool×List (Int×List Int)
def aqs(j1:Int->List Bool->Int->Option cG)(s:zI7):Option cG :=
 j1 0 s.2.1 0
def NV(n:Int)(t7:List Bool)(t8:Int):Option cG :=
 bu (fun self s=>G7 (fun n t7 t8=>self (n,t7,t8)) s.1 s.2.1 s.2.2) 18446744073709551616 (n,t7,t8)
def WT(x:As [.pr (.int .u32) (.pr (.ar 8 .bool) (.ar 8 cr))]):Option cG:=aqs NV x.1
abbrev pAl:=zp air ais 149 WR
theorem awg{J w1 a b c}:pAl J 58 [w1] (WS a b c)=G7 (C w1 WS) a b c:=by kernel_rfl
abbrev pAk:=zj air ais 149 WR
theorem awh:C (pAk 58 []) WS=NV:=gLC (by decide) (by kernel_rfl) (fun _=>by unfold NV;rfl) fun _ _=>awg.trans (by kernel_rfl)
theorem awi:ak Tryz.prog (fun _=>True) 149 ⟨WR,WT⟩:=zcc (env:=air) (d:=6) (hs:=Ev.get ais) (aj Ev.fF av) (fun J x=>aqs (C (J 58 []) WS) x.1) (fun _ _=>by kernel_rfl) fun _=>by rw[awh]<;>rfl
@[reducible] def bE:List Ty:=[.pr aC tV]
@[reducible] def WU:Sh:=⟨[.d aG],[],bE,[.d aC],[],0,aK⟩
def ait:Env:=(cts [(2000043,Ev.gu),(149,(⟨WR,WT⟩:Ct)),(150,(⟨NU,vU⟩:Ct)),(269,(⟨alZ,Ac⟩:Ct))])
def aiu:List (Nat×Hint):=[(7,⟨[],[1,3]⟩)]
def aiv(a:mI)(owner:Int):St:=⟨[(1,.pe aG a),(3,d6 owner)],39,[],[],0,[],0⟩
def WV(a:mI)(owner:Int):Option bK :=
 zC (Ac (a.2.2.2.1,())) fun y=>zC (Ac (a.2.2.2.2.1,())) fun y_1=>zC (WT (a.2.2.2.2.2.1,())) fun y_2=>some ([owner,cvt .u16 a.2.2.1,y.1,y.2.1,y_1.1,y_1.2.1,cvt .u16 y_2.1,0],())
def WW(j1:mI->Int->Option bK)(a:mI):Option bK :=
 zC (vU (a.2.1,())) fun y=>if y.1=true then j1 a 0 else j1 a a.2.1.1
def WX:=WV
def fH(x:As bE):Option bK:=WW WX x.1
abbrev pAf:=zp ait aiu 261 WU
theorem awj{J a b}:pAf J 7 [] (aiv a b)=WV a b:=by kernel_rfl
abbrev pAe:=zj ait aiu 261 WU
theorem awk:C (pAe 7 []) aiv=WX:=gNC (by decide) fun _=>awj
theorem awl:ak Tryz.prog (fun _=>True) 261 ⟨WU,fH⟩:=zcc (env:=ait) (d:=6) (hs:=Ev.get aiu) (aj Ev.fF (aj awi (aj WQ (aj ad2 av)))) (fun J x=>WW (C (J 7 []) aiv) x.1) (fun _ _=>by kernel_rfl) fun _=>by rw[awk]<;>rfl
@[reducible] def WZ:Sh:=⟨[.d (.pr (.int .u32) (.pr (.ar 8 .bool) (.ar 8 cr))),.d (.int .u16),.d (.int .i64)],[],[.pr (.int .u32) (.pr (.ar 8 .bool) (.ar 8 cr)),.int .u16,.int .i64],[.d aC],[],0,aK⟩
def aiw:Env:=(cts [(2000041,Ev.gu),(283,(⟨aen,Dc⟩:Ct)),(284,(⟨apx,Mj⟩:Ct))])
def aix:List (Nat×Hint):=[(6,⟨[],[1,2,3,16]⟩)]
def aiy(owner n:Int)(s:zI7)(t16:Bool):St:=⟨[(1,d6 owner),(2,dI n),(3,.pe (.pr (.int .u32) (.pr (.ar 8 .bool) (.ar 8 cr))) s),(16,dB t16)],27,[],[],0,[],0⟩
def W9(owner n:Int)(s:zI7)(t16:Bool):Option bK :=
 if t16=true then some ([0,0,0,0,0,0,0,0,0,0,0,0,0,0,0,0,0,0,0,0],()) else zC (at? s.2.2 n) fun y=>zC (Mj (owner,s.1,n,y,())) fun y=>some (y.1,())
def Xa(j1:Int->Int->Int×List Bool×List (Int×List Int)->Bool->Option bK)(s:zI7)(owner n:Int):Option bK :=
 zC (Dc (n,())) fun y=>if (!y.1)=true then j1 owner n s true else zC (at? s.2.1 n) fun y=>j1 owner n s !y
def aiz:=W9
def Xb(x:As [.pr (.int .u32) (.pr (.ar 8 .bool) (.ar 8 cr)),.int .u16,.int .i64]):Option bK:=Xa aiz x.1 x.2.1 x.2.2.1
abbrev pDp:=zp aiw aix 262 WZ
theorem awm{J a b c d}:pDp J 6 [] (aiy a b c d)=W9 a b c d:=by kernel_rfl
abbrev pDo:=zj aiw aix 262 WZ
theorem awn:C (pDo 6 []) aiy=aiz:=gNC (by decide) fun _=>awm
theorem awo:ak Tryz.prog (fun _=>True) 262 ⟨WZ,Xb⟩:=zcc (env:=aiw) (d:=6) (hs:=Ev.get aix) (aj Ev.fF (aj aep (aj apy av))) (fun J x=>Xa (C (J 6 []) aiy) x.1 x.2.1 x.2.2.1) (fun _ _=>by kernel_rfl) fun _=>by rw[awn]<;>rfl
@[reducible] def dz:Sh:=⟨[.d bB],[],cJ,[.d eI],[],0,bW⟩
def aiA:Env:=(cts [(2000045,Ev.gu),(150,(⟨NU,vU⟩:Ct)),(199,(⟨afn,Gn⟩:Ct)),(261,(⟨WU,fH⟩:Ct)),(262,(⟨WZ,Xb⟩:Ct))])
def aiB:List (Nat×Hint):=[(3,⟨[],[1,2,3]⟩),(15,⟨[],[1,2,3]⟩),(4090,⟨[],[1,2,3,57]⟩)]
def aiC(s:jQ)(m:List Int)(o o_2:List Bool)(o_3:List Int):St:=⟨[(1,.pe bB s),(2,.pb 0 0),(3,.pb 1 0)],78,[],[(0,.box 196 [.k (zK zH 0 0),.k (zK zH 0 0),.k (zK zH 0 0),.k (zK zH 0 0)]),(1,.box 196 [.row 2,.row 3,.row 4,dW m]),(2,.row .bool 4 o),(3,.row .bool 4 o_2),(4,.row (.int .u16) 25 o_3)],5,[],0⟩
def aiD(s:jQ)(m:List Int)(o o_2:List Bool)(o_3:List Int):St:=⟨[(1,.pe bB s),(2,.pb 0 0),(3,.pb 1 0)],78,[],[(0,.box 196 [.k (zK zH 0 0),.k (zK zH 0 0),.k (zK zH 0 0),.k (zK zH 0 0)]),(1,.box 196 [.row 2,.row 3,.row 4,dW m]),(2,.row .bool 4 o),(3,.row .bool 4 o_2),(4,.row (.int .u16) 25 o_3)],5,[],0⟩
def Xc(s:jQ)(t57:Int)(m:List Int)(o o_2:List Bool)(o_3:List Int):St:=⟨[(1,.pe bB s),(2,.pb 0 0),(3,.pb 1 0),(57,dI t57)],78,[],[(0,.box 196 [.k (zK zH 0 0),.k (zK zH 0 0),.k (zK zH 0 0),.k (zK zH 0 0)]),(1,.box 196 [.row 2,.row 3,.row 4,dW m]),(2,.row .bool 4 o),(3,.row .bool 4 o_2),(4,.row (.int .u16) 25 o_3)],5,[],0⟩
def Xd(j2:jQ->List Int->List Bool->List Bool->List Int->Option bU)(s:jQ)(m:List Int)(o o_2:List Bool)(o_3:List Int):Option bU :=
 need (le (zF (0+zG o)) (zF (zG o))) (if le s.2.2.1.2.2.1 2=true then zC (at? o_2 s.2.2.1.2.2.1) fun x=>zC (at? o_2 s.2.2.1.2.2.1) fun x=>j2 s m (List.take (zI (zF (zG o))) s.2.2.2++List.drop (0+zG (List.take (zI (zF (zG o))) s.2.2.2)) o) (List.set o_2 (zI s.2.2.1.2.2.1) true) o_3 else j2 s m (List.take (zI (zF (zG o))) s.2.2.2++List.drop (0+zG (List.take (zI (zF (zG o))) s.2.2.2)) o) o_2 o_3)
def Xe(j3:jQ->Int->List Int->List Bool->List Bool->List Int->Option bU)(s:jQ)(m:List Int)(o o_2:List Bool)(o_3:List Int):Option bU :=
 zC (vU (s.2.2.1.2.1,())) fun y=>zC (at? o_2 4) fun x=>zC (at? o_2 4) fun x=>zC (Gn (List.take 8 (List.drop 0 s.2.2.1.2.2.2.2.2.1.2.1),true,())) fun y_1=>zC (at? (List.set o_2 4 !y.1) 5) fun x=>zC (at? (List.set o_2 4 !y.1) 5) fun x=>need (le (zF (zG o_3)) (zF (zG o_3))) (need (le 64 (zF (zG o_3+0))) (need (le 64 (zF (zG o_3))) (need (le 256 (zF (zG (List.take 64 s.2.2.1.1++List.drop (0+zG (List.take 64 s.2.2.1.1)) o_3)))) (need (le (zF (zG (List.take 64 s.2.2.1.1++List.drop (0+zG (List.take 64 s.2.2.1.1)) o_3))) (zF (zG (List.take 64 s.2.2.1.1++List.drop (0+zG (List.take 64 s.2.2.1.1)) o_3)))) (need (le (256+(zF (zG (List.take 64 s.2.2.1.1++List.drop (0+zG (List.take 64 s.2.2.1.1)) o_3)) - 256)) (zF (zG (List.take 64 s.2.2.1.1++List.drop (0+zG (List.take 64 s.2.2.1.1)) o_3)))) (j3 s 0 m o (List.set (List.set o_2 4 !y.1) 5 y_1.1) (List.take 256 (List.take 64 s.2.2.1.1++List.drop (0+zG (List.take 64 s.2.2.1.1)) o_3)++List.take (zI (zF (zG (List.take 64 s.2.2.1.1++List.drop (0+zG (List.take 64 s.2.2.1.1)) o_3)) - 256)) m++List.drop (256+zG (List.take (zI (zF (zG (List.take 64 s.2.2.1.1++List.drop (0+zG (List.take 64 s.2.2.1.1)) o_3)) - 256)) m)) (List.take 64 s.2.2.1.1++List.drop (0+zG (List.take 64 s.2.2.1.1)) o_3))))))))
def Xf(self3:jQ->Int->List Int->List Bool->List Bool->List Int->Option bU)(s:jQ)(t57:Int)(m:List Int)(o o_2:List Bool)(o_3:List Int):Option bU :=
 if lt t57 8=true then need (ge (add .i64 512 (mul .i64 t57 32)) 0) (need (le (add .i64 512 (mul .i64 t57 32)) (zF (zG o_3))) (need (le (zF (zG o_3)) (zF (zG o_3))) (zC (at? m 0) fun y=>zC (Xb (s.2.2.1.2.2.2.2.2.1,y,t57,())) fun y=>need (le (add .i64 512 (mul .i64 t57 32)+(zF (zG o_3) - add .i64 512 (mul .i64 t57 32))) (zF (zG o_3))) (self3 s (add .i64 t57 1) m o o_2 (List.take (zI (add .i64 512 (mul .i64 t57 32))) o_3++List.take (zI (zF (zG o_3) - add .i64 512 (mul .i64 t57 32))) y.1++List.drop (zI (add .i64 512 (mul .i64 t57 32))+zG (List.take (zI (zF (zG o_3) - add .i64 512 (mul .i64 t57 32))) y.1)) o_3))))) else some ((o,o_2,o_3,m),())
def Xg(j1:jQ->List Int->List Bool->List Bool->List Int->Option bU)(s:jQ):Option bU :=
 amb (au dz.rs) [amb (au dz.rs) [amb (au dz.rs) [amb (au dz.rs) [zC (fH (s.2.2.1,())) fun y=>j1 s y.1 (zE 16 false) (zE 8 false) (zE 756 0),zC (fH (s.2.2.1,())) fun y=>j1 s y.1 (zE 16 false) (zE 8 false) (zE 756 0)],amb (au dz.rs) [zC (fH (s.2.2.1,())) fun y=>amb (au dz.rs) [j1 s y.1 (zE 16 false) (zE 8 false) (zE 756 0),j1 s y.1 (zE 16 false) (zE 8 false) (zE 756 0)],amb (au dz.rs) [zC (fH (s.2.2.1,())) fun y=>j1 s y.1 (zE 16 false) (zE 8 false) (zE 756 0),zC (fH (s.2.2.1,())) fun y=>j1 s y.1 (zE 16 false) (zE 8 false) (zE 756 0)]]],amb (au dz.rs) [amb (au dz.rs) [amb (au dz.rs) [zC (fH (s.2.2.1,())) fun y=>j1 s y.1 (zE 16 false) (zE 8 false) (zE 756 0),zC (fH (s.2.2.1,())) fun y=>j1 s y.1 (zE 16 false) (zE 8 false) (zE 756 0)],amb (au dz.rs) [zC (fH (s.2.2.1,())) fun y=>amb (au dz.rs) [j1 s y.1 (zE 16 false) (zE 8 false) (zE 756 0),j1 s y.1 (zE 16 false) (zE 8 false) (zE 756 0)],amb (au dz.rs) [zC (fH (s.2.2.1,())) fun y=>j1 s y.1 (zE 16 false) (zE 8 false) (zE 756 0),zC (fH (s.2.2.1,())) fun y=>j1 s y.1 (zE 16 false) (zE 8 false) (zE 756 0)]]],amb (au dz.rs) [zC (fH (s.2.2.1,())) fun y=>amb (au dz.rs) [amb (au dz.rs) [j1 s y.1 (zE 16 false) (zE 8 false) (zE 756 0),j1 s y.1 (zE 16 false) (zE 8 false) (zE 756 0)],amb (au dz.rs) [amb (au dz.rs) [j1 s y.1 (zE 16 false) (zE 8 false) (zE 756 0),j1 s y.1 (zE 16 false) (zE 8 false) (zE 756 0)],amb (au dz.rs) [j1 s y.1 (zE 16 false) (zE 8 false) (zE 756 0),j1 s y.1 (zE 16 false) (zE 8 false) (zE 756 0)]]],amb (au dz.rs) [amb (au dz.rs) [zC (fH (s.2.2.1,())) fun y=>j1 s y.1 (zE 16 false) (zE 8 false) (zE 756 0),zC (fH (s.2.2.1,())) fun y=>j1 s y.1 (zE 16 false) (zE 8 false) (zE 756 0)],amb (au dz.rs) [amb (au dz.rs) [zC (fH (s.2.2.1,())) fun y=>j1 s y.1 (zE 16 false) (zE 8 false) (zE 756 0),zC (fH (s.2.2.1,())) fun y=>j1 s y.1 (zE 16 false) (zE 8 false) (zE 756 0)],zC (fH (s.2.2.1,())) fun y=>amb (au dz.rs) [j1 s y.1 (zE 16 false) (zE 8 false) (zE 756 0),j1 s y.1 (zE 16 false) (zE 8 false) (zE 756 0)]]]]]],amb (au dz.rs) [amb (au dz.rs) [amb (au dz.rs) [amb (au dz.rs) [zC (fH (s.2.2.1,())) fun y=>j1 s y.1 (zE 16 false) (zE 8 false) (zE 756 0),zC (fH (s.2.2.1,())) fun y=>j1 s y.1 (zE 16 false) (zE 8 false) (zE 756 0)],amb (au dz.rs) [zC (fH (s.2.2.1,())) fun y=>amb (au dz.rs) [j1 s y.1 (zE 16 false) (zE 8 false) (zE 756 0),j1 s y.1 (zE 16 false) (zE 8 false) (zE 756 0)],amb (au dz.rs) [zC (fH (s.2.2.1,())) fun y=>j1 s y.1 (zE 16 false) (zE 8 false) (zE 756 0),zC (fH (s.2.2.1,())) fun y=>j1 s y.1 (zE 16 false) (zE 8 false) (zE 756 0)]]],amb (au dz.rs) [amb (au dz.rs) [amb (au dz.rs) [zC (fH (s.2.2.1,())) fun y=>j1 s y.1 (zE 16 false) (zE 8 false) (zE 756 0),zC (fH (s.2.2.1,())) fun y=>j1 s y.1 (zE 16 false) (zE 8 false) (zE 756 0)],amb (au dz.rs) [zC (fH (s.2.2.1,())) fun y=>amb (au dz.rs) [j1 s y.1 (zE 16 false) (zE 8 false) (zE 756 0),j1 s y.1 (zE 16 false) (zE 8 false) (zE 756 0)],amb (au dz.rs) [zC (fH (s.2.2.1,())) fun y=>j1 s y.1 (zE 16 false) (zE 8 false) (zE 756 0),zC (fH (s.2.2.1,())) fun y=>j1 s y.1 (zE 16 false) (zE 8 false) (zE 756 0)]]],amb (au dz.rs) [zC (fH (s.2.2.1,())) fun y=>amb (au dz.rs) [amb (au dz.rs) [j1 s y.1 (zE 16 false) (zE 8 false) (zE 756 0),j1 s y.1 (zE 16 false) (zE 8 false) (zE 756 0)],amb (au dz.rs) [amb (au dz.rs) [j1 s y.1 (zE 16 false) (zE 8 false) (zE 756 0),j1 s y.1 (zE 16 false) (zE 8 false) (zE 756 0)],amb (au dz.rs) [j1 s y.1 (zE 16 false) (zE 8 false) (zE 756 0),j1 s y.1 (zE 16 false) (zE 8 false) (zE 756 0)]]],amb (au dz.rs) [amb (au dz.rs) [zC (fH (s.2.2.1,())) fun y=>j1 s y.1 (zE 16 false) (zE 8 false) (zE 756 0),zC (fH (s.2.2.1,())) fun y=>j1 s y.1 (zE 16 false) (zE 8 false) (zE 756 0)],amb (au dz.rs) [amb (au dz.rs) [zC (fH (s.2.2.1,())) fun y=>j1 s y.1 (zE 16 false) (zE 8 false) (zE 756 0),zC (fH (s.2.2.1,())) fun y=>j1 s y.1 (zE 16 false) (zE 8 false) (zE 756 0)],zC (fH (s.2.2.1,())) fun y=>amb (au dz.rs) [j1 s y.1 (zE 16 false) (zE 8 false) (zE 756 0),j1 s y.1 (zE 16 false) (zE 8 false) (zE 756 0)]]]]]],amb (au dz.rs) [amb (au dz.rs) [amb (au dz.rs) [amb (au dz.rs) [zC (fH (s.2.2.1,())) fun y=>j1 s y.1 (zE 16 false) (zE 8 false) (zE 756 0),zC (fH (s.2.2.1,())) fun y=>j1 s y.1 (zE 16 false) (zE 8 false) (zE 756 0)],amb (au dz.rs) [zC (fH (s.2.2.1,())) fun y=>amb (au dz.rs) [j1 s y.1 (zE 16 false) (zE 8 false) (zE 756 0),j1 s y.1 (zE 16 false) (zE 8 false) (zE 756 0)],amb (au dz.rs) [zC (fH (s.2.2.1,())) fun y=>j1 s y.1 (zE 16 false) (zE 8 false) (zE 756 0),zC (fH (s.2.2.1,())) fun y=>j1 s y.1 (zE 16 false) (zE 8 false) (zE 756 0)]]],amb (au dz.rs) [amb (au dz.rs) [amb (au dz.rs) [zC (fH (s.2.2.1,())) fun y=>j1 s y.1 (zE 16 false) (zE 8 false) (zE 756 0),zC (fH (s.2.2.1,())) fun y=>j1 s y.1 (zE 16 false) (zE 8 false) (zE 756 0)],amb (au dz.rs) [zC (fH (s.2.2.1,())) fun y=>amb (au dz.rs) [j1 s y.1 (zE 16 false) (zE 8 false) (zE 756 0),j1 s y.1 (zE 16 false) (zE 8 false) (zE 756 0)],amb (au dz.rs) [zC (fH (s.2.2.1,())) fun y=>j1 s y.1 (zE 16 false) (zE 8 false) (zE 756 0),zC (fH (s.2.2.1,())) fun y=>j1 s y.1 (zE 16 false) (zE 8 false) (zE 756 0)]]],amb (au dz.rs) [zC (fH (s.2.2.1,())) fun y=>amb (au dz.rs) [amb (au dz.rs) [j1 s y.1 (zE 16 false) (zE 8 false) (zE 756 0),j1 s y.1 (zE 16 false) (zE 8 false) (zE 756 0)],amb (au dz.rs) [amb (au dz.rs) [j1 s y.1 (zE 16 false) (zE 8 false) (zE 756 0),j1 s y.1 (zE 16 false) (zE 8 false) (zE 756 0)],amb (au dz.rs) [j1 s y.1 (zE 16 false) (zE 8 false) (zE 756 0),j1 s y.1 (zE 16 false) (zE 8 false) (zE 756 0)]]],amb (au dz.rs) [amb (au dz.rs) [zC (fH (s.2.2.1,())) fun y=>j1 s y.1 (zE 16 false) (zE 8 false) (zE 756 0),zC (fH (s.2.2.1,())) fun y=>j1 s y.1 (zE 16 false) (zE 8 false) (zE 756 0)],amb (au dz.rs) [amb (au dz.rs) [zC (fH (s.2.2.1,())) fun y=>j1 s y.1 (zE 16 false) (zE 8 false) (zE 756 0),zC (fH (s.2.2.1,())) fun y=>j1 s y.1 (zE 16 false) (zE 8 false) (zE 756 0)],zC (fH (s.2.2.1,())) fun y=>amb (au dz.rs) [j1 s y.1 (zE 16 false) (zE 8 false) (zE 756 0),j1 s y.1 (zE 16 false) (zE 8 false) (zE 756 0)]]]]]],amb (au dz.rs) [zC (fH (s.2.2.1,())) fun y=>amb (au dz.rs) [amb (au dz.rs) [amb (au dz.rs) [j1 s y.1 (zE 16 false) (zE 8 false) (zE 756 0),j1 s y.1 (zE 16 false) (zE 8 false) (zE 756 0)],amb (au dz.rs) [amb (au dz.rs) [j1 s y.1 (zE 16 false) (zE 8 false) (zE 756 0),j1 s y.1 (zE 16 false) (zE 8 false) (zE 756 0)],amb (au dz.rs) [j1 s y.1 (zE 16 false) (zE 8 false) (zE 756 0),j1 s y.1 (zE 16 false) (zE 8 false) (zE 756 0)]]],amb (au dz.rs) [amb (au dz.rs) [amb (au dz.rs) [j1 s y.1 (zE 16 false) (zE 8 false) (zE 756 0),j1 s y.1 (zE 16 false) (zE 8 false) (zE 756 0)],amb (au dz.rs) [amb (au dz.rs) [j1 s y.1 (zE 16 false) (zE 8 false) (zE 756 0),j1 s y.1 (zE 16 false) (zE 8 false) (zE 756 0)],amb (au dz.rs) [j1 s y.1 (zE 16 false) (zE 8 false) (zE 756 0),j1 s y.1 (zE 16 false) (zE 8 false) (zE 756 0)]]],amb (au dz.rs) [amb (au dz.rs) [amb (au dz.rs) [j1 s y.1 (zE 16 false) (zE 8 false) (zE 756 0),j1 s y.1 (zE 16 false) (zE 8 false) (zE 756 0)],amb (au dz.rs) [amb (au dz.rs) [j1 s y.1 (zE 16 false) (zE 8 false) (zE 756 0),j1 s y.1 (zE 16 false) (zE 8 false) (zE 756 0)],amb (au dz.rs) [j1 s y.1 (zE 16 false) (zE 8 false) (zE 756 0),j1 s y.1 (zE 16 false) (zE 8 false) (zE 756 0)]]],amb (au dz.rs) [amb (au dz.rs) [j1 s y.1 (zE 16 false) (zE 8 false) (zE 756 0),j1 s y.1 (zE 16 false) (zE 8 false) (zE 756 0)],amb (au dz.rs) [amb (au dz.rs) [j1 s y.1 (zE 16 false) (zE 8 false) (zE 756 0),j1 s y.1 (zE 16 false) (zE 8 false) (zE 756 0)],amb (au dz.rs) [j1 s y.1 (zE 16 false) (zE 8 false) (zE 756 0),j1 s y.1 (zE 16 false) (zE 8 false) (zE 756 0)]]]]]],amb (au dz.rs) [amb (au dz.rs) [amb (au dz.rs) [zC (fH (s.2.2.1,())) fun y=>j1 s y.1 (zE 16 false) (zE 8 false) (zE 756 0),zC (fH (s.2.2.1,())) fun y=>j1 s y.1 (zE 16 false) (zE 8 false) (zE 756 0)],amb (au dz.rs) [amb (au dz.rs) [zC (fH (s.2.2.1,())) fun y=>j1 s y.1 (zE 16 false) (zE 8 false) (zE 756 0),zC (fH (s.2.2.1,())) fun y=>j1 s y.1 (zE 16 false) (zE 8 false) (zE 756 0)],zC (fH (s.2.2.1,())) fun y=>amb (au dz.rs) [j1 s y.1 (zE 16 false) (zE 8 false) (zE 756 0),j1 s y.1 (zE 16 false) (zE 8 false) (zE 756 0)]]],amb (au dz.rs) [amb (au dz.rs) [amb (au dz.rs) [zC (fH (s.2.2.1,())) fun y=>j1 s y.1 (zE 16 false) (zE 8 false) (zE 756 0),zC (fH (s.2.2.1,())) fun y=>j1 s y.1 (zE 16 false) (zE 8 false) (zE 756 0)],amb (au dz.rs) [amb (au dz.rs) [zC (fH (s.2.2.1,())) fun y=>j1 s y.1 (zE 16 false) (zE 8 false) (zE 756 0),zC (fH (s.2.2.1,())) fun y=>j1 s y.1 (zE 16 false) (zE 8 false) (zE 756 0)],zC (fH (s.2.2.1,())) fun y=>amb (au dz.rs) [j1 s y.1 (zE 16 false) (zE 8 false) (zE 756 0),j1 s y.1 (zE 16 false) (zE 8 false) (zE 756 0)]]],amb (au dz.rs) [amb (au dz.rs) [amb (au dz.rs) [zC (fH (s.2.2.1,())) fun y=>j1 s y.1 (zE 16 false) (zE 8 false) (zE 756 0),zC (fH (s.2.2.1,())) fun y=>j1 s y.1 (zE 16 false) (zE 8 false) (zE 756 0)],amb (au dz.rs) [amb (au dz.rs) [zC (fH (s.2.2.1,())) fun y=>j1 s y.1 (zE 16 false) (zE 8 false) (zE 756 0),zC (fH (s.2.2.1,())) fun y=>j1 s y.1 (zE 16 false) (zE 8 false) (zE 756 0)],zC (fH (s.2.2.1,())) fun y=>amb (au dz.rs) [j1 s y.1 (zE 16 false) (zE 8 false) (zE 756 0),j1 s y.1 (zE 16 false) (zE 8 false) (zE 756 0)]]],zC (fH (s.2.2.1,())) fun y=>amb (au dz.rs) [amb (au dz.rs) [j1 s y.1 (zE 16 false) (zE 8 false) (zE 756 0),j1 s y.1 (zE 16 false) (zE 8 false) (zE 756 0)],amb (au dz.rs) [amb (au dz.rs) [j1 s y.1 (zE 16 false) (zE 8 false) (zE 756 0),j1 s y.1 (zE 16 false) (zE 8 false) (zE 756 0)],amb (au dz.rs) [j1 s y.1 (zE 16 false) (zE 8 false) (zE 756 0),j1 s y.1 (zE 16 false) (zE 8 false) (zE 756 0)]]]]]]]]]]
def G8(s:jQ)(t57:Int)(m:List Int)(o o_2:List Bool)(o_3:List Int):Option bU :=
 bu (fun self s=>Xf (fun s t57 m o o_2 o_3=>self (s,t57,m,o,o_2,o_3)) s.1 s.2.1 s.2.2.1 s.2.2.2.1 s.2.2.2.2.1 s.2.2.2.2.2) 18446744073709551616 (s,t57,m,o,o_2,o_3)
def aiE:=Xe (G8)
def aiF:=Xd (aiE)
def pQ(x:As cJ):Option bU:=Xg aiF x.1
abbrev pC5:=zp aiA aiB 228 dz
theorem awp{J w3 a b c d e f}:pC5 J 4090 [w3] (Xc a b c d e f)=Xf (C w3 Xc) a b c d e f:=by kernel_rfl
theorem awq{J a b c d e}:pC5 J 15 [] (aiD a b c d e)=Xe (C (J 4090 []) Xc) a b c d e:=by kernel_rfl
theorem awr{J a b c d e}:pC5 J 3 [] (aiC a b c d e)=Xd (C (J 15 []) aiD) a b c d e:=by kernel_rfl
abbrev pC4:=zj aiA aiB 228 dz
theorem aws:C (pC4 4090 []) Xc=G8:=gLC (by decide) (by kernel_rfl) (fun _=>by unfold G8;rfl) fun _ _=>awp.trans (by kernel_rfl)
theorem awt:C (pC4 15 []) aiD=aiE:=gNC (by decide) fun _=>awq.trans (by rw[aws]<;>kernel_rfl)
theorem awu:C (pC4 3 []) aiC=aiF:=gNC (by decide) fun _=>awr.trans (by rw[awt]<;>kernel_rfl)
theorem awv:ak Tryz.prog (fun _=>True) 228 ⟨dz,pQ⟩:=zcc (env:=aiA) (d:=6) (hs:=Ev.get aiB) (aj Ev.fF (aj WQ (aj apM (aj awl (aj awo av))))) (fun J x=>Xg (C (J 3 []) aiC) x.1) (fun _ _=>by kernel_rfl) fun _=>by rw[awu]<;>rfl
@[reducible] def mK:Sh:=⟨[.d bB,.d bA],[],[.pr (.int .u8) aA,.pr (.int .u8) jH],[.d aP],[],0,aS⟩
def aiG:Env:=(cts [(2000045,Ev.gu),(165,(⟨NP,ug⟩:Ct)),(201,(⟨Gp,uf⟩:Ct)),(227,(⟨WN,kF⟩:Ct)),(228,(⟨dz,pQ⟩:Ct))])
def aiH:List (Nat×Hint):=[(15,⟨[],[2,3,4,7]⟩),(31,⟨[],[3,4,9]⟩)]
def aiI(s:jQ)(a:mJ)(t4 t4_2 t4_3 t4_4 read read_2 read_3 read_4:Int):St:=⟨[(2,.pe bB s),(3,.pb 0 0),(4,.pb 1 0),(7,.pb 2 0)],40,[],[(0,.box 27 [d8 a.1,d6 a.2.1,d6 a.2.2.1,d6 a.2.2.2.1,dW a.2.2.2.2.1,.d (.sl .bool) a.2.2.2.2.2]),(1,.box 109 [d8 t4,d8 t4_2,.k (zK zH 0 0),.k (zK zH 0 0),d6 t4_3,d6 t4_4]),(2,.box 27 [d8 read,d6 read_2,d6 read_3,d6 read_4,.k (zK zH 0 0),.k (zK zH 0 0)])],3,[],0⟩
def aiJ(a:mJ)(t4 t4_2 t4_3 t4_4:Int)(r:Int×Int×List Bool×List Int×Int×Int):St:=⟨[(3,.pb 0 0),(4,.pb 1 0),(9,.pb 2 0)],40,[],[(0,.box 27 [d8 a.1,d6 a.2.1,d6 a.2.2.1,d6 a.2.2.2.1,dW a.2.2.2.2.1,.d (.sl .bool) a.2.2.2.2.2]),(1,.box 109 [d8 t4,d8 t4_2,.k (zK zH 0 0),.k (zK zH 0 0),d6 t4_3,d6 t4_4]),(2,.box 109 [d8 r.1,d8 r.2.1,.d (.sl .bool) r.2.2.1,dW r.2.2.2.1,d6 r.2.2.2.2.1,d6 r.2.2.2.2.2])],3,[],0⟩
def Xh(j2:mJ->Int->Int->Int->Int->Int×Int×List Bool×List Int×Int×Int->Option cP)(s:jQ)(a:mJ)(t4 t4_2 t4_3 t4_4 read read_2 read_3 read_4:Int):Option cP :=
 amb (au mK.rs) [zC (ug ()) fun y=>amb (au mK.rs) [zC (pQ (s,())) fun y_1=>amb (au mK.rs) [zC (kF (y.1,y_1.1,(read,read_2,read_3,read_4,[],[]),())) fun y=>amb (au mK.rs) [j2 a t4 t4_2 t4_3 t4_4 y.2.1,j2 a t4 t4_2 t4_3 t4_4 y.2.1],amb (au mK.rs) [amb (au mK.rs) [zC (kF (y.1,y_1.1,(read,read_2,read_3,read_4,[],[]),())) fun y=>j2 a t4 t4_2 t4_3 t4_4 y.2.1,zC (kF (y.1,y_1.1,(read,read_2,read_3,read_4,[],[]),())) fun y=>j2 a t4 t4_2 t4_3 t4_4 y.2.1],amb (au mK.rs) [zC (kF (y.1,y_1.1,(read,read_2,read_3,read_4,[],[]),())) fun y=>j2 a t4 t4_2 t4_3 t4_4 y.2.1,zC (kF (y.1,y_1.1,(read,read_2,read_3,read_4,[],[]),())) fun y=>j2 a t4 t4_2 t4_3 t4_4 y.2.1]]],amb (au mK.rs) [amb (au mK.rs) [zC (pQ (s,())) fun y_1=>amb (au mK.rs) [zC (kF (y.1,y_1.1,(read,read_2,read_3,read_4,[],[]),())) fun y=>j2 a t4 t4_2 t4_3 t4_4 y.2.1,zC (kF (y.1,y_1.1,(read,read_2,read_3,read_4,[],[]),())) fun y=>j2 a t4 t4_2 t4_3 t4_4 y.2.1],zC (pQ (s,())) fun y_1=>zC (kF (y.1,y_1.1,(read,read_2,read_3,read_4,[],[]),())) fun y=>j2 a t4 t4_2 t4_3 t4_4 y.2.1],amb (au mK.rs) [zC (pQ (s,())) fun y_1=>amb (au mK.rs) [zC (kF (y.1,y_1.1,(read,read_2,read_3,read_4,[],[]),())) fun y=>j2 a t4 t4_2 t4_3 t4_4 y.2.1,zC (kF (y.1,y_1.1,(read,read_2,read_3,read_4,[],[]),())) fun y=>j2 a t4 t4_2 t4_3 t4_4 y.2.1],zC (pQ (s,())) fun y_1=>zC (kF (y.1,y_1.1,(read,read_2,read_3,read_4,[],[]),())) fun y=>j2 a t4 t4_2 t4_3 t4_4 y.2.1]]],amb (au mK.rs) [amb (au mK.rs) [zC (ug ()) fun y=>amb (au mK.rs) [zC (pQ (s,())) fun y_1=>amb (au mK.rs) [zC (kF (y.1,y_1.1,(read,read_2,read_3,read_4,[],[]),())) fun y=>j2 a t4 t4_2 t4_3 t4_4 y.2.1,zC (kF (y.1,y_1.1,(read,read_2,read_3,read_4,[],[]),())) fun y=>j2 a t4 t4_2 t4_3 t4_4 y.2.1],zC (pQ (s,())) fun y_1=>zC (kF (y.1,y_1.1,(read,read_2,read_3,read_4,[],[]),())) fun y=>j2 a t4 t4_2 t4_3 t4_4 y.2.1],zC (ug ()) fun y=>zC (pQ (s,())) fun y_1=>zC (kF (y.1,y_1.1,(read,read_2,read_3,read_4,[],[]),())) fun y=>j2 a t4 t4_2 t4_3 t4_4 y.2.1],amb (au mK.rs) [zC (ug ()) fun y=>amb (au mK.rs) [zC (pQ (s,())) fun y_1=>amb (au mK.rs) [zC (kF (y.1,y_1.1,(read,read_2,read_3,read_4,[],[]),())) fun y=>j2 a t4 t4_2 t4_3 t4_4 y.2.1,zC (kF (y.1,y_1.1,(read,read_2,read_3,read_4,[],[]),())) fun y=>j2 a t4 t4_2 t4_3 t4_4 y.2.1],zC (pQ (s,())) fun y_1=>zC (kF (y.1,y_1.1,(read,read_2,read_3,read_4,[],[]),())) fun y=>j2 a t4 t4_2 t4_3 t4_4 y.2.1],zC (ug ()) fun y=>zC (pQ (s,())) fun y_1=>zC (kF (y.1,y_1.1,(read,read_2,read_3,read_4,[],[]),())) fun y=>j2 a t4 t4_2 t4_3 t4_4 y.2.1]]]
def aqt(a:mJ)(t4 t4_2 t4_3 t4_4:Int)(r:Int×Int×List Bool×List Int×Int×Int):Option cP :=
 some ((a.1,r.2),())
def Xi(j1:jQ->mJ->Int->Int->Int->Int->Int->Int->Int->Int->Option cP)(s:jQ)(a:mJ):Option cP :=
 zC (uf (a,())) fun y=>if y.2.1=true then some (y.1,()) else if eqi a.1 23=true then j1 s a 0 0 0 0 3 a.2.1 a.2.2.1 0 else j1 s a 0 0 0 0 a.1 a.2.1 a.2.2.1 0
def aiK:=aqt
def Xj:=Xh (aiK)
def ni(x:As [.pr (.int .u8) aA,.pr (.int .u8) jH]):Option cP:=Xi Xj x.1 x.2.1
abbrev pDb:=zp aiG aiH 168 mK
theorem aww{J a b c d e f}:pDb J 31 [] (aiJ a b c d e f)=aqt a b c d e f:=by kernel_rfl
theorem awx{J a b c d e f g h i j}:pDb J 15 [] (aiI a b c d e f g h i j)=Xh (C (J 31 []) aiJ) a b c d e f g h i j:=by kernel_rfl
abbrev pDa:=zj aiG aiH 168 mK
theorem awy:C (pDa 31 []) aiJ=aiK:=gNC (by decide) fun _=>aww
theorem awz:C (pDa 15 []) aiI=Xj:=gNC (by decide) fun _=>awx.trans (by rw[awy]<;>kernel_rfl)
theorem awC:ak Tryz.prog (fun _=>True) 168 ⟨mK,ni⟩:=zcc (env:=aiG) (d:=6) (hs:=Ev.get aiH) (aj Ev.fF (aj amD (aj afK (aj awc (aj awv av))))) (fun J x=>Xi (C (J 15 []) aiI) x.1 x.2.1) (fun _ _=>by kernel_rfl) fun _=>by rw[awz]<;>rfl
@[reducible] def dC:List Ty:=[.pr (.int .u16) BR,.int .i64]
@[reducible] def Xl:Sh:=⟨[.d aC],[],aK,[.d cI,.d (.int .i64)],[],0,dC⟩
def aiL:Env:=(cts [(270,(⟨Un,pO⟩:Ct))])
def aiM:List (Nat×Hint):=[(6,⟨[],[0,2,18]⟩)]
@[reducible] def zI8:Type:=Int×Int×Int×Int×Int
def aiN(w:List Int)(t18:Bool)(t2:zI8):St:=⟨[(0,dW w),(2,.pb 0 0),(18,dB t18)],45,[],[(0,.box 104 [d6 t2.1,d8 t2.2.1,d2 t2.2.2.1,d6 t2.2.2.2.1,d2 t2.2.2.2.2])],1,[],0⟩
def Xm(w:List Int)(t18:Bool)(t2:zI8):Option (As dC) :=
 if t18=true then some ((0,0,0,0,0),2,()) else zC (at? w 0) fun y=>zC (at? w 1) fun y_1=>zC (at? w 2) fun y_2=>zC (at? w 3) fun y_3=>zC (at? w 4) fun y_4=>zC (at? w 5) fun y_5=>zC (at? w 6) fun y_6=>zC (pO (y_2,y_3,())) fun y_7=>zC (pO (y_5,y_6,())) fun y_8=>some ((y,cvt .u8 y_1,y_7.1,y_4,y_8.1),0,())
def Xn(j1:List Int->Bool->Int×Int×Int×Int×Int->Option (As dC))(w:List Int):Option (As dC) :=
 if nei (zF (zG w)) 8=true then j1 w true (0,0,0,0,0) else zC (at? w 7) fun y=>if nei y 0=true then j1 w true (0,0,0,0,0) else zC (at? w 1) fun y=>j1 w (ge y 256) (0,0,0,0,0)
def Xo:=Xm
def G9(x:As aK):Option (As dC):=Xn Xo x.1
abbrev pAd:=zp aiL aiM 252 Xl
theorem awD{J a b c}:pAd J 6 [] (aiN a b c)=Xm a b c:=by kernel_rfl
abbrev pAc:=zj aiL aiM 252 Xl
theorem awE:C (pAc 6 []) aiN=Xo:=gNC (by decide) fun _=>awD
theorem awF:ak Tryz.prog (fun _=>True) 252 ⟨Xl,G9⟩:=zcc (env:=aiL) (d:=6) (hs:=Ev.get aiM) (aj ad9 av) (fun J x=>Xn (C (J 6 []) aiN) x.1) (fun _ _=>by kernel_rfl) fun _=>by rw[awE]<;>rfl
@[reducible] def Xp:Sh:=⟨[.d aG],[],bE,[.d aG],[],0,bE⟩
def aiO:Env:=(cts [(45,(⟨FP,lW⟩:Ct))])
def aiP:List (Nat×Hint):=[(58,⟨[],[1,2,12,13]⟩),(7475,⟨[.frb 5],[1,2,3,5,12,13]⟩)]
def He(a t2:Int)(t12:List Bool)(t13:Int)(a_2 t2_2:List jq):St:=⟨[(1,.prw 0 a 32 0),(2,.prw 1 t2 32 0),(12,.d (.ar 8 .bool) t12),(13,dI t13)],41,[],[(0,.row aG 43 a_2),(1,.row aG 43 t2_2)],2,[],0⟩
def aiQ(a t2 i:Int)(t12:List Bool)(t13:Int)(a_2 t2_2:List jq)(x:Int×List Int):St:=⟨[(1,.prw 0 a 32 0),(2,.prw 1 t2 32 0),(3,dI i),(5,.pb 2 0),(12,.d (.ar 8 .bool) t12),(13,dI t13)],41,[],[(0,.row aG 43 a_2),(1,.row aG 43 t2_2),(2,.box 38 [dI x.1,dW x.2])],3,[],0⟩
@[reducible] def cS:Type:=As bE
@[reducible] def zI9:Type:=Int->Int->List Bool->Int->List jq->List jq->Option cS
def Hf(j2:Int->Int->Int->List Bool->Int->List jq->List jq->Int×List Int->Option cS)(self1:zI9)(a t2:Int)(t12:List Bool)(t13:Int)(a_2 t2_2:List jq):Option cS :=
 if lt t13 8=true then need (lt t13 8) (zC (at? t12 t13) fun y=>if y=true then need (ge t13 0) (need (lt t13 8) (zC (at? a_2 a) fun y=>zC (at? y.2.2.2.2.2.1.2.2 t13) fun z=>need (ge t13 0) (need (lt t13 8) (zC (at? a_2 a) fun y=>zC (at? y.2.2.2.2.2.1.2.2 t13) fun z_1=>zC (lW (z_1.2,())) fun y=>j2 a t2 t13 t12 t13 a_2 t2_2 (z.1,y.1))))) else j2 a t2 t13 t12 t13 a_2 t2_2 (0,[])) else zC (at? a_2 a) fun y=>zC (at? t2_2 t2) fun x=>zC (at? (List.set t2_2 (zI t2) y) t2) fun y_1=>zC (at? (List.set t2_2 (zI t2) y) t2) fun y=>some (y,())
def Xq(self1:zI9)(a t2 i:Int)(t12:List Bool)(t13:Int)(a_2 t2_2:List jq)(x:Int×List Int):Option cS :=
 need (ge i 0) (need (lt i 8) (zC (at? a_2 a) fun x_1=>zC (at? x_1.2.2.2.2.2.1.2.2 i) fun z=>self1 a t2 t12 (add .i64 t13 1) (List.set a_2 (zI a) (x_1.1,x_1.2.1,x_1.2.2.1,x_1.2.2.2.1,x_1.2.2.2.2.1,(x_1.2.2.2.2.2.1.1,x_1.2.2.2.2.2.1.2.1,List.set x_1.2.2.2.2.2.1.2.2 (zI i) x),x_1.2.2.2.2.2.2)) t2_2))
def Xr(j1:zI9)(a:mI):Option cS :=
 zC (lW (a.1,())) fun y=>j1 0 0 a.2.2.2.2.2.1.2.1 0 [(y.1,a.2)] [zx]
def NW(u1:zI9):=Xq u1
def Hg(a t2:Int)(t12:List Bool)(t13:Int)(a_2 t2_2:List jq):Option cS :=
 bu (fun self s=>Hf (NW (fun a t2 t12 t13 a_2 t2_2=>self (a,t2,t12,t13,a_2,t2_2))) (fun a t2 t12 t13 a_2 t2_2=>self (a,t2,t12,t13,a_2,t2_2)) s.1 s.2.1 s.2.2.1 s.2.2.2.1 s.2.2.2.2.1 s.2.2.2.2.2) 18446744073709551616 (a,t2,t12,t13,a_2,t2_2)
def NY(x:As bE):Option cS:=Xr Hg x.1
abbrev pAj:=zp aiO aiP 171 Xp
theorem awG{J w1 a b c d e f g h}:pAj J 7475 [w1] (aiQ a b c d e f g h)=Xq (C w1 He) a b c d e f g h:=by kernel_rfl
theorem awH{J w1 a b c d e f}:pAj J 58 [w1] (He a b c d e f)=Hf (C (J 7475 [w1]) aiQ) (C w1 He) a b c d e f:=by kernel_rfl
abbrev pAi:=zj aiO aiP 171 Xp
theorem awI{w1}:C (pAi 7475 [w1]) aiQ=NW (C w1 He):=gNC (by decide) fun _=>awG
theorem awJ:C (pAi 58 []) He=Hg:=gLC (by decide) (by kernel_rfl) (fun _=>by unfold Hg;rfl) fun _ _=>awH.trans (by rw[awI]<;>kernel_rfl)
theorem amH:ak Tryz.prog (fun _=>True) 171 ⟨Xp,NY⟩:=zcc (env:=aiO) (d:=6) (hs:=Ev.get aiP) (aj zy av) (fun J x=>Xr (C (J 58 []) He) x.1) (fun _ _=>by kernel_rfl) fun _=>by rw[awJ]<;>rfl
@[reducible] def eR:List Ty:=[.pr aC tV,.int .u16]
@[reducible] def aqu:Sh:=⟨[.d aG,.d (.int .u16)],[],eR,[.d (.bool)],[],0,[.bool]⟩
def awK:Env:=(cts [(2000043,Ev.gu),(150,(⟨NU,vU⟩:Ct))])
def aiR(a:mI)(owner:Int):Option aF :=
 zC (vU (a.2.1,())) fun y=>if (!y.1)=true then some (nei a.2.1.1 owner,()) else some (false,())
def rM(x:As eR):Option aF:=aiR x.1 x.2.1
theorem aqv:ak Tryz.prog (fun _=>True) 275 ⟨aqu,rM⟩:=ctn (env:=awK) (aj Ev.fF (aj WQ av)) 6 fun J x=>by kernel_rfl
@[reducible] def aV:List Ty:=[.pr aC tV,.pr (.int .u16) BR]
@[reducible] def awL:Sh:=⟨[.d aG,.d cI],[],aV,[.d (.bool)],[],0,[.bool]⟩
def awM:Env:=(cts [(2000043,Ev.gu)])
def aiS(a:mI)(c:zI8):Option aF :=
 if le c.2.2.1 a.2.2.2.2.1=true then some (true,()) else if nei a.2.2.1 0=true then some (lt c.2.2.1 a.2.2.2.1,()) else some (false,())
def Xt(x:As aV):Option aF:=aiS x.1 x.2.1
theorem awN:ak Tryz.prog (fun _=>True) 289 ⟨awL,Xt⟩:=ctn (env:=awM) (aj Ev.fF av) 6 fun J x=>by kernel_rfl
@[reducible] def amI:Sh:=⟨[.d aG],[],bE,[.d aG],[],0,bE⟩
def awO(a:mI):Option cS :=
 some ((a.1,(0,0),0,0,a.2.2.2.2.1,zSt,a.2.2.2.2.2.2),())
def Hl(x:As bE):Option cS:=awO x.1
theorem aiT:ak Tryz.prog (fun _=>True) 173 ⟨amI,Hl⟩:=ctn av 6 fun J x=>by kernel_rfl
@[reducible] def bS:List Ty:=[.pr (.int .u16) (.int .i64),.int .i64]
@[reducible] def aiU:Sh:=⟨[.d bX,.d (.int .u16),.d (.int .i64)],[],[.pr (.int .u16) (.int .i64),.int .u16,.int .i64],[.d bX,.d (.int .i64)],[],0,bS⟩
def aiV:Env:=(cts [(150,(⟨NU,vU⟩:Ct)),(198,(⟨aqr,G6⟩:Ct)),(229,(⟨amG,Dy⟩:Ct))])
def aiW:List (Nat×Hint):=[(30,⟨[],[1,2,3,6,25]⟩),(14,⟨[],[1,2,3,6,15,21,22,23,24]⟩)]
def aiX(owner ticks:Int)(t15:Bool)(l t6:Int×Int):St:=⟨[(1,d6 owner),(2,dI ticks),(3,.pb 0 0),(6,.pb 1 0),(15,dB t15)],35,[],[(0,.box 35 [d6 l.1,dI l.2]),(1,.box 35 [d6 t6.1,dI t6.2])],2,[],0⟩
def aiY(owner ticks:Int)(t25:Bool)(l t6:Int×Int):St:=⟨[(1,d6 owner),(2,dI ticks),(3,.pb 0 0),(6,.pb 1 0),(25,dB t25)],35,[],[(0,.box 35 [d6 l.1,dI l.2]),(1,.box 35 [d6 t6.1,dI t6.2])],2,[],0⟩
@[reducible] def aqw:Type:=Int->Int->Bool->Int×Int->Int×Int->Option (As bS)
def Xu(j2:aqw)(owner ticks:Int)(t15:Bool)(l t6:Int×Int):Option (As bS) :=
 if t15=true then some (l,2,()) else zC (vU (l,())) fun y=>if (!y.1)=true then j2 owner ticks (nei l.1 owner) l t6 else j2 owner ticks false l t6
def Xv(owner ticks:Int)(t25:Bool)(l t6:Int×Int):Option (As bS) :=
 if t25=true then some (l,22,()) else zC (Dy (owner,())) fun y=>if (eqi l.1 y.1.1 && (eqi l.2 y.1.2 && true))=true then some (l,0,()) else some ((owner,ticks),0,())
def Xw(j1:aqw)(l:Int×Int)(owner ticks:Int):Option (As bS) :=
 zC (G6 (l,())) fun y=>if eqi owner 0=true then j1 owner ticks true y.1 (0,0) else j1 owner ticks (lt ticks 1) y.1 (0,0)
def Xx:=Xv
def aiZ:=Xu (Xx)
def ai0(x:As [.pr (.int .u16) (.int .i64),.int .u16,.int .i64]):Option (As bS):=Xw aiZ x.1 x.2.1 x.2.2.1
abbrev pBp:=zp aiV aiW 297 aiU
theorem awP{J a b c d e}:pBp J 30 [] (aiY a b c d e)=Xv a b c d e:=by kernel_rfl
theorem awQ{J a b c d e}:pBp J 14 [] (aiX a b c d e)=Xu (C (J 30 []) aiY) a b c d e:=by kernel_rfl
abbrev pBo:=zj aiV aiW 297 aiU
theorem awR:C (pBo 30 []) aiY=Xx:=gNC (by decide) fun _=>awP
theorem awS:C (pBo 14 []) aiX=aiZ:=gNC (by decide) fun _=>awQ.trans (by rw[awR]<;>kernel_rfl)
theorem awT:ak Tryz.prog (fun _=>True) 297 ⟨aiU,ai0⟩:=zcc (env:=aiV) (d:=6) (hs:=Ev.get aiW) (aj WQ (aj aip (aj ail av))) (fun J x=>Xw (C (J 14 []) aiX) x.1 x.2.1 x.2.2.1) (fun _ _=>by kernel_rfl) fun _=>by rw[awS]<;>rfl
@[reducible] def amJ:Sh:=⟨[.d aG,.d (.int .u16)],[],eR,[.d aG],[],0,bE⟩
def ai1(a:mI)(owner:Int):Option cS :=
 zC (ai0 (a.2.1,owner,a.2.2.2.2.2.2,())) fun y=>some ((a.1,y.1,a.2.2),())
def Dz(x:As eR):Option cS:=ai1 x.1 x.2.1
theorem amK:ak Tryz.prog (fun _=>True) 278 ⟨amJ,Dz⟩:=ctn (aj awT av) 6 fun J x=>by kernel_rfl
@[reducible] def awU:Sh:=⟨[.d aG,.d cI],[],aV,[.d aG],[],0,bE⟩
def ai2(a:mI)(c:zI8):Option cS :=
 if eqi c.2.2.1 a.2.2.2.1=true then zC (Dz (a,c.1,())) fun y=>some (y.1,()) else zC (Hl (a,())) fun y=>zC (Dz (y.1,c.1,())) fun y=>some ((y.1.1,y.1.2.1,1,c.2.2.1,y.1.2.2.2.2.1,(c.2.2.1,y.1.2.2.2.2.2.1.2),y.1.2.2.2.2.2.2),())
def Xy(x:As aV):Option cS:=ai2 x.1 x.2.1
theorem awV:ak Tryz.prog (fun _=>True) 290 ⟨awU,Xy⟩:=ctn (aj aiT (aj amK av)) 6 fun J x=>by kernel_rfl
@[reducible] def Xz:Sh:=⟨[.d aG,.d (.int .u8),.d (.int .u32)],[],[.pr aC tV,.int .u8,.int .u32],[.d (.bool)],[],0,[.bool]⟩
def awW:Env:=(cts [(2000043,Ev.gu)])
def ai3(a:mI)(phase tx:Int):Option aF :=
 if eqi a.2.2.1 phase=true then some (eqi a.2.2.2.1 tx,()) else some (false,())
def xW(x:As [.pr aC tV,.int .u8,.int .u32]):Option aF:=ai3 x.1 x.2.1 x.2.2.1
theorem ai4:ak Tryz.prog (fun _=>True) 276 ⟨Xz,xW⟩:=ctn (env:=awW) (aj Ev.fF av) 6 fun J x=>by kernel_rfl
@[reducible] def XA:Sh:=⟨[.d cr],[],cC,[.d cr],[],0,cC⟩
def ai5(x:Int×List Int):Option (As cC) :=
 zC (lW (x.2,())) fun y=>some ((x.1,y.1),())
def AB(x:As cC):Option (As cC):=ai5 x.1
theorem ai6:ak Tryz.prog (fun _=>True) 91 ⟨XA,AB⟩:=ctn (aj zy av) 6 fun J x=>by kernel_rfl
@[reducible] def XB:Sh:=⟨[.d (.pr (.int .u32) (.pr (.ar 8 .bool) (.ar 8 cr)))],[],[.pr (.int .u32) (.pr (.ar 8 .bool) (.ar 8 cr))],[.d (.sl cr)],[],0,[.sl cr]⟩
def ai7:Env:=(cts [(2000041,Ev.gu),(91,(⟨XA,AB⟩:Ct))])
def ai8:List (Nat×Hint):=[(58,⟨[.row 3 38],[1,3,7,8]⟩)]
def XC(s:zI7)(t7:List Bool)(t8:Int)(l:List (Int×List Int)):St:=⟨[(1,.pe (.pr (.int .u32) (.pr (.ar 8 .bool) (.ar 8 cr))) s),(3,.row 0),(7,.d (.ar 8 .bool) t7),(8,dI t8)],23,[],[(0,.row cr 38 l)],1,[],0⟩
@[reducible] def aqx:Type:=Int×List Bool×List (Int×List Int)->List Bool->Int->List (Int×List Int)->Option cM
def Ho(self1:aqx)(s:zI7)(t7:List Bool)(t8:Int)(l:List (Int×List Int)):Option cM :=
 if lt t8 8=true then need (lt t8 8) (zC (at? t7 t8) fun y=>if y=true then zC (at? s.2.2 t8) fun y=>zC (AB (y,())) fun y=>need (small (zG l+Nat.succ 0)) (self1 s t7 (add .i64 t8 1) (l++[y.1])) else self1 s t7 (add .i64 t8 1) l) else some (l,())
def aqy(j1:aqx)(s:zI7):Option cM :=
 j1 s s.2.1 0 []
def NZ(s:zI7)(t7:List Bool)(t8:Int)(l:List (Int×List Int)):Option cM :=
 bu (fun self s=>Ho (fun s t7 t8 l=>self (s,t7,t8,l)) s.1 s.2.1 s.2.2.1 s.2.2.2) 18446744073709551616 (s,t7,t8,l)
def DC(x:As [.pr (.int .u32) (.pr (.ar 8 .bool) (.ar 8 cr))]):Option cM:=aqy NZ x.1
abbrev pDr:=zp ai7 ai8 41 XB
theorem awX{J w1 a b c d}:pDr J 58 [w1] (XC a b c d)=Ho (C w1 XC) a b c d:=by kernel_rfl
abbrev pDq:=zj ai7 ai8 41 XB
theorem awY:C (pDq 58 []) XC=NZ:=gLC (by decide) (by kernel_rfl) (fun _=>by unfold NZ;rfl) fun _ _=>awX.trans (by kernel_rfl)
theorem aqz:ak Tryz.prog (fun _=>True) 41 ⟨XB,DC⟩:=zcc (env:=ai7) (d:=6) (hs:=Ev.get ai8) (aj Ev.fF (aj ai6 av)) (fun J x=>aqy (C (J 58 []) XC) x.1) (fun _ _=>by kernel_rfl) fun _=>by rw[awY]<;>rfl
@[reducible] def XD:Sh:=⟨[.d (.pr (.int .u32) (.pr (.ar 8 .bool) (.ar 8 cr))),.d (.int .i64),.d (.int .u32)],[],[.pr (.int .u32) (.pr (.ar 8 .bool) (.ar 8 cr)),.int .i64,.int .u32],[.d (.bool)],[],0,[.bool]⟩
def ai9:Env:=(cts [(2000041,Ev.gu),(41,(⟨XB,DC⟩:Ct)),(242,(⟨Mb,Gd⟩:Ct))])
def aja:List (Nat×Hint):=[(7,⟨[],[2,3]⟩),(58,⟨[],[1,2,3,16,17]⟩),(6,⟨[],[1,2,3,14]⟩)]
def ajb(count check:Int)(s:zI7)(t14:Bool):St:=⟨[(1,dI count),(2,d2 check),(3,.pe (.pr (.int .u32) (.pr (.ar 8 .bool) (.ar 8 cr))) s),(14,dB t14)],32,[],[],0,[],0⟩
def XE(count check:Int)(s:zI7)(t16:List Bool)(t17:Int):St:=⟨[(1,dI count),(2,d2 check),(3,.pe (.pr (.int .u32) (.pr (.ar 8 .bool) (.ar 8 cr))) s),(16,.d (.ar 8 .bool) t16),(17,dI t17)],32,[],[],0,[],0⟩
def ajc(check:Int)(s:zI7):St:=⟨[(2,d2 check),(3,.pe (.pr (.int .u32) (.pr (.ar 8 .bool) (.ar 8 cr))) s)],32,[],[],0,[],0⟩
@[reducible] def aqA:Type:=Int->Int->Int×List Bool×List (Int×List Int)->List Bool->Int->Option aF
def amL(j2:aqA)(count check:Int)(s:zI7)(t14:Bool):Option aF :=
 if t14=true then some (false,()) else j2 count check s s.2.1 0
def DF(j3:Int->Int×List Bool×List (Int×List Int)->Option aF)(self2:aqA)(count check:Int)(s:zI7)(t16:List Bool)(t17:Int):Option aF :=
 if lt t17 8=true then need (lt t17 8) (zC (at? t16 t17) fun y=>if Sx.neb y (lt t17 count)=true then some (false,()) else self2 count check s t16 (add .i64 t17 1)) else j3 check s
def XF(check:Int)(s:zI7):Option aF :=
 zC (DC (s,())) fun y=>zC (Gd (y.1,())) fun y=>some (eqi y.1 check,())
def XG(j1:Int->Int->Int×List Bool×List (Int×List Int)->Bool->Option aF)(s:zI7)(count check:Int):Option aF :=
 if lt count 0=true then j1 count check s true else j1 count check s (gt count 8)
def AF:=XF
def N5(count check:Int)(s:zI7)(t16:List Bool)(t17:Int):Option aF :=
 bu (fun self s=>DF (AF) (fun count check s t16 t17=>self (count,check,s,t16,t17)) s.1 s.2.1 s.2.2.1 s.2.2.2.1 s.2.2.2.2) 18446744073709551616 (count,check,s,t16,t17)
def XH:=amL (N5)
def XI(x:As [.pr (.int .u32) (.pr (.ar 8 .bool) (.ar 8 cr)),.int .i64,.int .u32]):Option aF:=XG XH x.1 x.2.1 x.2.2.1
abbrev pDz:=zp ai9 aja 299 XD
theorem awZ{J a b}:pDz J 7 [] (ajc a b)=XF a b:=by kernel_rfl
theorem aw0{J w2 a b c d e}:pDz J 58 [w2] (XE a b c d e)=DF (C (J 7 []) ajc) (C w2 XE) a b c d e:=by kernel_rfl
theorem aw1{J a b c d}:pDz J 6 [] (ajb a b c d)=amL (C (J 58 []) XE) a b c d:=by kernel_rfl
abbrev pDy:=zj ai9 aja 299 XD
theorem aw2:C (pDy 7 []) ajc=AF:=gNC (by decide) fun _=>awZ
theorem aw3:C (pDy 58 []) XE=N5:=gLC (by decide) (by kernel_rfl) (fun _=>by unfold N5;rfl) fun _ _=>aw0.trans (by rw[aw2]<;>kernel_rfl)
theorem aw4:C (pDy 6 []) ajb=XH:=gNC (by decide) fun _=>aw1.trans (by rw[aw3]<;>kernel_rfl)
theorem aw5:ak Tryz.prog (fun _=>True) 299 ⟨XD,XI⟩:=zcc (env:=ai9) (d:=6) (hs:=Ev.get aja) (aj Ev.fF (aj aqz (aj alY av))) (fun J x=>XG (C (J 6 []) ajb) x.1 x.2.1 x.2.2.1) (fun _ _=>by kernel_rfl) fun _=>by rw[aw4]<;>rfl
@[reducible] def aw6:Sh:=⟨[.d aG,.d cI],[],aV,[.d (.bool)],[],0,[.bool]⟩
def aw7:Env:=(cts [(2000043,Ev.gu),(276,(⟨Xz,xW⟩:Ct)),(299,(⟨XD,XI⟩:Ct))])
def ajd(a:mI)(c:zI8):Option aF :=
 zC (xW (a,2,c.2.2.1,())) fun y=>if y.1=true then some (false,()) else zC (xW (a,1,c.2.2.1,())) fun y=>if (!y.1)=true then some (true,()) else zC (XI (a.2.2.2.2.2.1,cvt .i64 c.2.2.2.1,c.2.2.2.2,())) fun y=>some (!y.1,())
def XJ(x:As aV):Option aF:=ajd x.1 x.2.1
theorem aw8:ak Tryz.prog (fun _=>True) 291 ⟨aw6,XJ⟩:=ctn (env:=aw7) (aj Ev.fF (aj ai4 (aj aw5 av))) 6 fun J x=>by kernel_rfl
@[reducible] def aw9:Sh:=⟨[.d bX,.d (.int .u16)],[],[.pr (.int .u16) (.int .i64),.int .u16],[.d bX,.d (.int .i64)],[],0,bS⟩
def aje(l:Int×Int)(owner:Int):Option (As bS) :=
 zC (G6 (l,())) fun y=>if eqi owner 0=true then some (y.1,2,()) else if nei y.1.1 owner=true then some (y.1,22,()) else zC (Dy (owner,())) fun y=>some (y.1,0,())
def XK(x:As [.pr (.int .u16) (.int .i64),.int .u16]):Option (As bS):=aje x.1 x.2.1
theorem axa:ak Tryz.prog (fun _=>True) 300 ⟨aw9,XK⟩:=ctn (aj aip (aj ail av)) 6 fun J x=>by kernel_rfl
end Go.Proofs.Lx
end
