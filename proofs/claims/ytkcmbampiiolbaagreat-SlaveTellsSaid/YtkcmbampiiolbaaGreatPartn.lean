/- Proved in the last of these 20 parts (this is part 14): SlaveTells. Conditions: those of the given statement, and no others. -/
import Derived.Test.YtkcmbampiiolbaaGreatParte
import Derived.Test.YtkcmbampiiolbaaGreatPartm
import Derived.Test.YtkcmbampiiolbaaGreatProg
import Derived.Test.YtkcmbampiiolbaaGreatPartj
set_option linter.unusedVariables false
set_option linter.unusedSimpArgs false
set_option linter.unusedSectionVars false
open Option renaming bind → zC, none → zH
open Int renaming ofNat → zF, toNat → zI
open List renaming length → zG, getD → zJ
open Go.Value renaming slice → zK
noncomputable section
open Go Go.Proofs Ev Sx
set_option maxRecDepth 100000
namespace Go.Proofs.Lx
abbrev iN:Type:=Int×Int×Int×Int×List Int×List Bool
abbrev jh:Type:=List Bool×List Bool×List Int×List Int
abbrev jL:Type:=Int×Int×gq×List Bool
abbrev aAQ:Type:=List Int×(Int×Int)×Int×Int×Int×jT×Int
@[reducible] def eJ:List Ty:=[.pr (.int .u32) qN,.int .i64]
@[reducible] def ahs:Sh:=⟨[.d bL,.d (.int .i64),.d gP],[],[.pr (.int .u32) qN,.int .i64,.pr (.int .i64) aA],[.d bL,.d (.int .i64)],[],0,eJ⟩
def aht:Env:=(cts [(2000033,Ev.iq),(4000033,Ev.iq),(145,(⟨vJ,qO⟩:Ct)),(147,(⟨Ic,AL⟩:Ct))])
def ahu:List (Nat×Hint):=[(6,⟨[],[1,3,5,6,14]⟩)]
@[reducible] def zN0:Type:=Int×List Bool×List (Int×List Int)
def ahv(b:Int)(c:zN0)(e:Int)(d:Bool)(a:Int×List Int)(f:List jT):St:=⟨[(1,dI b),(3,.pe bL c),(5,.pb 0 0),(6,.prw 1 e 25 0),(14,dB d)],44,[],[(0,.box 30 [dI a.1,dW a.2]),(1,.row (.cl bL) 33 f)],2,[],0⟩
def ahw(a:Int)(g:zN0)(c:Int)(h:Bool)(d:Int×List Int)(e:List jT):Option (As eJ) :=
 if h=true then zC (at? e c) fun d=>zC (at? (List.set e (zI c) zSt) c) fun b=>zC (at? (List.set e (zI c) zSt) c) fun b=>some (b,2,()) else zC (qO (d,())) fun b=>if (!b.1)=true then zC (at? e c) fun d=>zC (at? (List.set e (zI c) zSt) c) fun b=>zC (at? (List.set e (zI c) zSt) c) fun b=>some (b,20,()) else zC (AL (g,())) fun b=>need (ge a 0) (need (lt a 8) (zC (at? b.1.2.1 a) fun f=>need (ge a 0) (need (lt a 8) (zC (at? b.1.2.2 a) fun f=>need (ge a 0) (need (lt a 8) (zC (at? (List.set b.1.2.2 (zI a) (d.1,[])) a) fun f=>need (eqi (zF (zG f.2)) 0) (need (small (zG d.2)) (need (ge a 0) (need (lt a 8) (zC (at? (List.set b.1.2.2 (zI a) (d.1,[])) a) fun f=>zC (at? e c) fun i=>zC (at? (List.set e (zI c) (b.1.1,List.set b.1.2.1 (zI a) true,List.set (List.set b.1.2.2 (zI a) (d.1,[])) (zI a) (f.1,d.2))) c) fun j=>zC (at? (List.set e (zI c) (b.1.1,List.set b.1.2.1 (zI a) true,List.set (List.set b.1.2.2 (zI a) (d.1,[])) (zI a) (f.1,d.2))) c) fun b=>some (b,0,())))))))))))
def ahx(b:Int->Int×List Bool×List (Int×List Int)->Int->Bool->Int×List Int->List jT->Option (As eJ))(c:zN0)(a:Int)(d:Int×List Int):Option (As eJ) :=
 if lt a 0=true then b a c 0 true d [zSt] else b a c 0 (gt a 7) d [zSt]
def ahy:=ahw
def R8(x:As [.pr (.int .u32) qN,.int .i64,.pr (.int .i64) aA]):Option (As eJ):=ahx ahy x.1 x.2.1 x.2.2.1
abbrev pEh:=zp aht ahu 193 ahs
theorem aL5{J a b c d e f}:pEh J 6 [] (ahv a b c d e f)=ahw a b c d e f:=by kernel_rfl
abbrev pEg:=zj aht ahu 193 ahs
theorem aL6:C (pEg 6 []) ahv=ahy:=gNC (by decide) fun _=>aL5
theorem aL7:ak Tryz.prog (fun _=>True) 193 ⟨ahs,R8⟩:=zcc (env:=aht) (d:=6) (hs:=Ev.get ahu) (aj Ev.gI (aj Ev.gI (aj QW (aj adv bq)))) (fun J x=>ahx (C (J 6 []) ahv) x.1 x.2.1 x.2.2.1) (fun _ _=>by kernel_rfl) fun _=>by rw[aL6]<;>rfl
@[reducible] def ahz:Sh:=⟨[.d aH,.d (.int .u16),.d (.int .u32),.d (.int .i64),.d gP],[],[.pr aA nD,.int .u16,.int .u32,.int .i64,.pr (.int .i64) aA],[.d aH,.d (.int .i64)],[],0,aZ⟩
def ahA:Env:=(cts [(96,(⟨QZ,qx⟩:Ct)),(193,(⟨ahs,R8⟩:Ct))])
def ahB:List (Nat×Hint):=[(62,⟨[],[3,5,9,10,43]⟩),(30,⟨[],[2,3,5,9,10,33,39,40,41,42]⟩),(14,⟨[],[1,2,3,5,9,10,21,28,29,30,31,32,39,40,41,42]⟩)]
def ahC(e i d b f:Int)(h:Bool)(c:List gq)(a:Int×List Int)(g:List gq):St:=⟨[(1,d6 e),(2,d2 i),(3,dI d),(5,.prw 0 b 32 0),(9,.pb 1 0),(10,.prw 2 f 32 0),(21,dB h)],64,[],[(0,.row aH 35 c),(1,.box 30 [dI a.1,dW a.2]),(2,.row aH 35 g)],3,[],0⟩
def ahD(h d b e:Int)(g:Bool)(c:List gq)(a:Int×List Int)(f:List gq):St:=⟨[(2,d2 h),(3,dI d),(5,.prw 0 b 32 0),(9,.pb 1 0),(10,.prw 2 e 32 0),(33,dB g)],64,[],[(0,.row aH 35 c),(1,.box 30 [dI a.1,dW a.2]),(2,.row aH 35 f)],3,[],0⟩
def ahE(d b e:Int)(g:Bool)(c:List gq)(a:Int×List Int)(f:List gq):St:=⟨[(3,dI d),(5,.prw 0 b 32 0),(9,.pb 1 0),(10,.prw 2 e 32 0),(43,dB g)],64,[],[(0,.row aH 35 c),(1,.box 30 [dI a.1,dW a.2]),(2,.row aH 35 f)],3,[],0⟩
def awU(g:Int->Int->Int->Int->Bool->List gq->Int×List Int->List gq->Option aV)(j i h c b:Int)(k:Bool)(d:List gq)(f:Int×List Int)(e:List gq):Option aV :=
 if k=true then zC (at? d c) fun a=>zC (at? e b) fun f=>zC (at? (List.set e (zI b) a) b) fun l=>zC (at? (List.set e (zI b) a) b) fun a=>some (a,2,()) else zC (at? d c) fun a=>if nei a.2.1.1 0=true then zC (at? d c) fun a=>g i h c b (nei a.2.1.1 j) d f e else g i h c b false d f e
def awV(g:Int->Int->Int->Bool->List gq->Int×List Int->List gq->Option aV)(j h c b:Int)(i:Bool)(d:List gq)(f:Int×List Int)(e:List gq):Option aV :=
 if i=true then zC (at? d c) fun a=>zC (at? e b) fun f=>zC (at? (List.set e (zI b) a) b) fun k=>zC (at? (List.set e (zI b) a) b) fun a=>some (a,22,()) else zC (at? d c) fun a=>if nei a.2.2.1 1=true then g h c b true d f e else zC (at? d c) fun a=>g h c b (nei a.2.2.2.1 j) d f e
def awW(i d c:Int)(j:Bool)(f:List gq)(a:Int×List Int)(e:List gq):Option aV :=
 if j=true then zC (at? f d) fun b=>zC (at? e c) fun a=>zC (at? (List.set e (zI c) b) c) fun g=>zC (at? (List.set e (zI c) b) c) fun b=>some (b,23,()) else zC (at? f d) fun b=>zC (R8 (b.2.2.2.2.2.1,i,a,())) fun b=>if nei b.2.1 0=true then zC (at? f d) fun g=>zC (at? e c) fun a=>zC (at? (List.set e (zI c) g) c) fun k=>zC (at? (List.set e (zI c) g) c) fun l=>some (l,b.2.1,()) else zC (at? f d) fun a=>zC (at? (List.set f (zI d) (a.1,a.2.1,a.2.2.1,a.2.2.2.1,a.2.2.2.2.1,b.1,a.2.2.2.2.2.2)) d) fun g=>zC (at? (List.set f (zI d) (a.1,a.2.1,a.2.2.1,a.2.2.2.1,a.2.2.2.2.1,b.1,a.2.2.2.2.2.2)) d) fun h=>zC (at? (List.set (List.set f (zI d) (a.1,a.2.1,a.2.2.1,a.2.2.2.1,a.2.2.2.2.1,b.1,a.2.2.2.2.2.2)) (zI d) (h.1,(h.2.1.1,g.2.2.2.2.2.2),h.2.2)) d) fun b=>zC (at? e c) fun a=>zC (at? (List.set e (zI c) b) c) fun k=>zC (at? (List.set e (zI c) b) c) fun b=>some (b,0,())
def ahF(c:Int->Int->Int->Int->Int->Bool->List gq->Int×List Int->List gq->Option aV)(g:aAQ)(a b d:Int)(e:Int×List Int):Option aV :=
 zC (qx (g,())) fun f=>if eqi a 0=true then c a b d 0 0 true [f.1] e [gF] else c a b d 0 0 (eqi b 0) [f.1] e [gF]
def R9:=awW
def Bf:=awV (R9)
def ahG:=awU (Bf)
def Mx(x:As [.pr aA nD,.int .u16,.int .u32,.int .i64,.pr (.int .i64) aA]):Option aV:=ahF ahG x.1 x.2.1 x.2.2.1 x.2.2.2.1 x.2.2.2.2.1
abbrev pEt:=zp ahA ahB 155 ahz
theorem aL8{J a b c d e f g}:pEt J 62 [] (ahE a b c d e f g)=awW a b c d e f g:=by kernel_rfl
theorem aL9{J a b c d e f g h}:pEt J 30 [] (ahD a b c d e f g h)=awV (C (J 62 []) ahE) a b c d e f g h:=by kernel_rfl
theorem aMa{J a b c d e f g h i}:pEt J 14 [] (ahC a b c d e f g h i)=awU (C (J 30 []) ahD) a b c d e f g h i:=by kernel_rfl
abbrev pEs:=zj ahA ahB 155 ahz
theorem aMb:C (pEs 62 []) ahE=R9:=gNC (by decide) fun _=>aL8
theorem aMc:C (pEs 30 []) ahD=Bf:=gNC (by decide) fun _=>aL9.trans (by rw[aMb]<;>kernel_rfl)
theorem aMd:C (pEs 14 []) ahC=ahG:=gNC (by decide) fun _=>aMa.trans (by rw[aMc]<;>kernel_rfl)
theorem aMe:ak Tryz.prog (fun _=>True) 155 ⟨ahz,Mx⟩:=zcc (env:=ahA) (d:=6) (hs:=Ev.get ahB) (aj Il (aj aL7 bq)) (fun J x=>ahF (C (J 14 []) ahC) x.1 x.2.1 x.2.2.1 x.2.2.2.1 x.2.2.2.2.1) (fun _ _=>by kernel_rfl) fun _=>by rw[aMd]<;>rfl
@[reducible] def awX:Sh:=shD [.pr aA nD,.int .i64,.sl (.int .u16)] [.pr aA nD,.int .u8]
def aMf:Env:=(cts [(2000035,Ev.iq),(152,(⟨afZ,af5⟩:Ct)),(153,(⟨agU,Mv⟩:Ct)),(154,(⟨ahd,ahr⟩:Ct)),(155,(⟨ahz,Mx⟩:Ct))])
def arV(b:aAQ)(d:Int)(c:List Int):Option (As [.pr aA nD,.int .u8]) :=
 if eqi d 272=true then zC (af5 (c,())) fun a=>if nei a.2.1 0=true then some (b,3,()) else zC (Mv (b,a.1,())) fun a=>if nei a.2.1 0=true then some (b,4,()) else some (a.1,0,()) else zC (ahr (c,())) fun a=>if nei a.2.2.2.2.1 0=true then some (b,3,()) else zC (Mx (b,a.1,a.2.1,a.2.2.1,a.2.2.2.1,())) fun a=>if nei a.2.1 0=true then some (b,4,()) else some (a.1,0,())
def My(x:As [.pr aA nD,.int .i64,.sl (.int .u16)]):Option (As [.pr aA nD,.int .u8]):=arV x.1 x.2.1 x.2.2.1
theorem aMg:ak Tryz.prog (fun _=>True) 101 ⟨awX,My⟩:=ctn (env:=aMf) (aj Ev.gI (aj aKN (aj aLQ (aj aL4 (aj aMe bq))))) 6 fun J x=>by kernel_rfl
@[reducible] def eW:List Ty:=[.pr (.int .u8) aqy,.bool]
@[reducible] def Sc:Sh:=shD eA eW
def arW:Env:=(cts [(149,(⟨IB,AY⟩:Ct))])
def arX:List (Nat×Hint):=[(62,⟨[],[1,2,37]⟩)]
def ahH(f:Bool)(a:iN)(b c d e:Int):St:=⟨[(1,.pb 0 0),(2,.pb 1 0),(37,dB f)],46,[],[(0,.box 44 [d8 a.1,d6 a.2.1,d6 a.2.2.1,d6 a.2.2.2.1,dW a.2.2.2.2.1,.d (.sl .bool) a.2.2.2.2.2]),(1,.box 46 [d8 b,d8 c,.k (zK zH 0 0),.k (zK zH 0 0),d6 d,d6 e])],2,[],0⟩
def awY(b:Bool)(a:iN)(c d e f:Int):Option (As eW) :=
 if b=true then some ((a.1,0,[],[],a.2.1,a.2.2.1),true,()) else some ((0,0,[],[],0,0),false,())
def Jn(c:Bool->iN->Int->Int->Int->Int->Option (As eW))(a:iN):Option (As eW) :=
 zC (AY (a,())) fun b=>if (!b.1)=true then some ((0,0,[],[],0,0),false,()) else if eqi a.1 5=true then zC (at? a.2.2.2.2.2 0) fun b=>some ((5,0,[b],[],a.2.1,0),true,()) else if eqi a.1 6=true then zC (at? a.2.2.2.2.1 0) fun b=>some ((6,0,[],[b],a.2.1,0),true,()) else if eqi a.1 15=true then c true a 0 0 0 0 else c (eqi a.1 16) a 0 0 0 0
def ahI:=awY
def Bg(x:As eA):Option (As eW):=Jn ahI x.1
abbrev pC3:=zp arW arX 102 Sc
theorem aMh{J a b c d e f}:pC3 J 62 [] (ahH a b c d e f)=awY a b c d e f:=by kernel_rfl
abbrev pC2:=zj arW arX 102 Sc
theorem aMi:C (pC2 62 []) ahH=ahI:=gNC (by decide) fun _=>aMh
theorem awZ:ak Tryz.prog (fun _=>True) 102 ⟨Sc,Bg⟩:=zcc (env:=arW) (d:=6) (hs:=Ev.get arX) (aj aeP bq) (fun J x=>Jn (C (J 62 []) ahH) x.1) (fun _ _=>by kernel_rfl) fun _=>by rw[aMi]<;>rfl
@[reducible] def aw0:Sh:=shD aW aW
def ahJ(m:jh):Option aS :=
 need (small (0+zG m.1)) (need (small (0+zG m.2.1)) (need (small (0+zG m.2.2.1)) (need (small (0+zG m.2.2.2)) (some (m,())))))
def MB(x:As aW):Option aS:=ahJ x.1
theorem aMj:ak Tryz.prog (fun _=>True) 160 ⟨aw0,MB⟩:=ctn bq 6 fun J x=>by kernel_rfl
@[reducible] def arY:Sh:=shD [.sl iP,.int .i64,.bool] [.bool]
def arZ:Env:=(cts [])
def ar0:List (Nat×Hint):=[(7,⟨[],[1]⟩),(58,⟨[],[0,1,2,7,8,24,25,26,29,30,31,34,35,36,39,40,41,42,45,46,47,48,49,50,51,54,55,56,57,58]⟩),(3730,⟨[.agd 25 (.int .i64),.agd 26 .bool,.agd 30 (.int .i64),.agd 31 .bool,.agd 35 (.int .i64),.agd 36 .bool,.agd 40 (.int .i64),.agd 41 (.int .i64),.agd 42 .bool,.agd 46 (.int .i64),.agd 48 (.int .i64),.agd 49 (.int .i64),.agd 50 (.int .i64),.agd 51 .bool,.agd 54 .bool,.agd 55 .bool,.agd 57 .bool,.agd 58 .bool],[0,1,2,8,9,59]⟩)]
def Jo(d:List gX)(e:Int)(b:Bool)(a c:Int):St:=⟨[(0,.d (.sl iP) d),(1,dI e),(2,dB b),(7,dI a),(8,dI c)],67,[],[],0,[],0⟩
def ar5(d:List gX)(e:Int)(b:Bool)(c:Int)(f:Bool)(a:Int×Int×Bool×Bool×Bool):St:=⟨[(0,.d (.sl iP) d),(1,dI e),(2,dB b),(8,dI c),(9,.pb 0 0),(59,dB f)],67,[],[(0,.box 168 [dI a.1,dI a.2.1,dB a.2.2.1,dB a.2.2.2.1,dB a.2.2.2.2])],1,[],0⟩
def ar6(a:Int):St:=⟨[(1,dI a)],67,[],[],0,[],0⟩
@[reducible] def zN1:Type:=List gX->Int->Bool->Int->Int->Option aD
def aw1(f:List gX->Int->Bool->Int->Bool->Int×Int×Bool×Bool×Bool->Option aD)(h:Int->Option aD)(i:zN1)(c:List gX)(d:Int)(e:Bool)(g b:Int):Option aD :=
 if lt b (zF (zG c))=true then zC (at? c b) fun a=>if lt a.1 0=true then f c d e b true a else if lt a.2.1 1=true then f c d e b true a else if gt a.1 65536=true then f c d e b true a else if gt a.2.1 65536=true then f c d e b true a else if lt a.1 g=true then f c d e b true a else if gt (add .i64 a.1 a.2.1) d=true then f c d e b true a else if e=true then f c d e b a.2.2.2.1 a else f c d e b false a else h d
def aw2(f:zN1)(d:List gX)(e:Int)(b:Bool)(c:Int)(g:Bool)(a:Int×Int×Bool×Bool×Bool):Option aD :=
 if g=true then some (false,()) else f d e b (add .i64 a.1 a.2.1) (add .i64 c 1)
def aw3(a:Int):Option aD :=
 some (le a 65536,())
def aw4(b:zN1)(c:List gX)(d:Int)(a:Bool):Option aD :=
 b c d a 0 0
def aw5(a:zN1):=aw2 a
def aw6:=aw3
def ar7(d:List gX)(e:Int)(b:Bool)(a c:Int):Option aD :=
 ay (fun g f=>aw1 (aw5 (fun d e b a c=>g (d,e,b,a,c))) (aw6) (fun d e b a c=>g (d,e,b,a,c)) f.1 f.2.1 f.2.2.1 f.2.2.2.1 f.2.2.2.2) 18446744073709551616 (d,e,b,a,c)
def yh(x:As [.sl iP,.int .i64,.bool]):Option aD:=aw4 ar7 x.1 x.2.1 x.2.2.1
abbrev pDl:=zp arZ ar0 194 arY
theorem aMk{J w1 a b c d e f}:pDl J 3730 [w1] (ar5 a b c d e f)=aw2 (C w1 Jo) a b c d e f:=by kernel_rfl
theorem aMl{J a}:pDl J 7 [] (ar6 a)=aw3 a:=by kernel_rfl
theorem aMm{J w1 a b c d e}:pDl J 58 [w1] (Jo a b c d e)=aw1 (C (J 3730 [w1]) ar5) (C (J 7 []) ar6) (C w1 Jo) a b c d e:=by kernel_rfl
abbrev pDk:=zj arZ ar0 194 arY
theorem aMn{w1}:C (pDk 3730 [w1]) ar5=aw5 (C w1 Jo):=gNC (by decide) fun _=>aMk
theorem aMo:C (pDk 7 []) ar6=aw6:=gNC (by decide) fun _=>aMl
theorem aMp:C (pDk 58 []) Jo=ar7:=gLC (by decide) (by kernel_rfl) (fun _=>by unfold ar7;rfl) fun _ _=>aMm.trans (by rw[aMn,aMo]<;>kernel_rfl)
theorem aMq:ak Tryz.prog (fun _=>True) 194 ⟨arY,yh⟩:=zcc (env:=arZ) (d:=6) (hs:=Ev.get ar0) bq (fun J x=>aw4 (C (J 58 []) Jo) x.1 x.2.1 x.2.2.1) (fun _ _=>by kernel_rfl) fun _=>by rw[aMp]<;>rfl
@[reducible] def aw7:Sh:=shD [.pr (.sl iP) bQ,.pr (.sl .bool) su] [.bool]
def ahK(s:List gX×List gX×List gX×List gX)(m:jh):Option aD :=
 zC (yh (s.1,zF (zG m.1),false,())) fun y=>if y.1=true then zC (yh (s.2.1,zF (zG m.2.1),true,())) fun y=>if y.1=true then zC (yh (s.2.2.1,zF (zG m.2.2.1),false,())) fun y=>if y.1=true then zC (yh (s.2.2.2,zF (zG m.2.2.2),true,())) fun y=>some (y.1,()) else some (false,()) else some (false,()) else some (false,())
def Sd(x:As [.pr (.sl iP) bQ,.pr (.sl .bool) su]):Option aD:=ahK x.1 x.2.1
theorem aMr:ak Tryz.prog (fun _=>True) 161 ⟨aw7,Sd⟩:=ctn (aj aMq bq) 6 fun J x=>by kernel_rfl
@[reducible] def aL:List Ty:=[.pr (.sl .bool) su,.pr (.int .u8) aqy]
@[reducible] def ahL:Sh:=shD [.pr (.sl iP) bQ,.pr (.sl .bool) su,.pr (.int .u8) AF] aL
def ahM:Env:=(cts [(99,(⟨RI,I6⟩:Ct)),(102,(⟨Sc,Bg⟩:Ct)),(160,(⟨aw0,MB⟩:Ct)),(161,(⟨aw7,Sd⟩:Ct))])
def ahN:List (Nat×Hint):=[(15,⟨[],[5,6,7,8,9]⟩),(127,⟨[],[5,6,7,8,10]⟩),(255,⟨[],[5,6,7,8,10]⟩),(511,⟨[],[5,6,7,8]⟩),(8191,⟨[],[6,7,8,15]⟩),(16383,⟨[],[6,7,8,15]⟩),(65532,⟨[],[6,7,8,15]⟩),(65530,⟨[.rwb 15 2 4,.rwb 15 3 23],[5,6,7,8,15,16]⟩),(262121,⟨[.rwb 15 2 4,.rwb 15 3 23],[5,6,7,8,15,16]⟩),(4090,⟨[],[5,6,7,8,10,12]⟩),(2042,⟨[],[5,6,7,8,10,11]⟩),(30,⟨[],[5,6,7,8,9,29]⟩)]
def ahO(h:Int)(c:Bool)(a:iN)(d e f g:Int)(b:jh):St:=⟨[(5,.pb 0 0),(6,.pb 1 0),(7,.pb 2 0),(8,.pb 3 0),(9,d8 h),(29,dB c)],168,[],[(0,.box 44 [d8 a.1,d6 a.2.1,d6 a.2.2.1,d6 a.2.2.2.1,dW a.2.2.2.2.1,.d (.sl .bool) a.2.2.2.2.2]),(1,.box 96 [.k (zK zH 0 0),.k (zK zH 0 0),.k (zK zH 0 0),.k (zK zH 0 0)]),(2,.box 46 [d8 d,d8 e,.k (zK zH 0 0),.k (zK zH 0 0),d6 f,d6 g]),(3,.box 96 [.d (.sl .bool) b.1,.d (.sl .bool) b.2.1,dW b.2.2.1,dW b.2.2.2])],4,[],0⟩
def ahP(g:Int)(a:iN)(c d e f:Int)(b:jh):St:=⟨[(5,.pb 0 0),(6,.pb 1 0),(7,.pb 2 0),(8,.pb 3 0),(9,d8 g)],168,[],[(0,.box 44 [d8 a.1,d6 a.2.1,d6 a.2.2.1,d6 a.2.2.2.1,dW a.2.2.2.2.1,.d (.sl .bool) a.2.2.2.2.2]),(1,.box 96 [.k (zK zH 0 0),.k (zK zH 0 0),.k (zK zH 0 0),.k (zK zH 0 0)]),(2,.box 46 [d8 c,d8 d,.k (zK zH 0 0),.k (zK zH 0 0),d6 e,d6 f]),(3,.box 96 [.d (.sl .bool) b.1,.d (.sl .bool) b.2.1,dW b.2.2.1,dW b.2.2.2])],4,[],0⟩
def ahQ(c:Int)(a:iN)(d e f g:Int)(b:jh):St:=⟨[(5,.pb 0 0),(6,.pb 1 0),(7,.pb 2 0),(8,.pb 3 0),(10,dI c)],168,[],[(0,.box 44 [d8 a.1,d6 a.2.1,d6 a.2.2.1,d6 a.2.2.2.1,dW a.2.2.2.2.1,.d (.sl .bool) a.2.2.2.2.2]),(1,.box 96 [.k (zK zH 0 0),.k (zK zH 0 0),.k (zK zH 0 0),.k (zK zH 0 0)]),(2,.box 46 [d8 d,d8 e,.k (zK zH 0 0),.k (zK zH 0 0),d6 f,d6 g]),(3,.box 96 [.d (.sl .bool) b.1,.d (.sl .bool) b.2.1,dW b.2.2.1,dW b.2.2.2])],4,[],0⟩
def MC(c d:Int)(a:iN)(e f g h:Int)(b:jh):St:=⟨[(5,.pb 0 0),(6,.pb 1 0),(7,.pb 2 0),(8,.pb 3 0),(10,dI c),(11,dI d)],168,[],[(0,.box 44 [d8 a.1,d6 a.2.1,d6 a.2.2.1,d6 a.2.2.2.1,dW a.2.2.2.2.1,.d (.sl .bool) a.2.2.2.2.2]),(1,.box 96 [.k (zK zH 0 0),.k (zK zH 0 0),.k (zK zH 0 0),.k (zK zH 0 0)]),(2,.box 46 [d8 e,d8 f,.k (zK zH 0 0),.k (zK zH 0 0),d6 g,d6 h]),(3,.box 96 [.d (.sl .bool) b.1,.d (.sl .bool) b.2.1,dW b.2.2.1,dW b.2.2.2])],4,[],0⟩
def ahR(c:Int)(a:iN)(d e f g:Int)(b:jh):St:=⟨[(5,.pb 0 0),(6,.pb 1 0),(7,.pb 2 0),(8,.pb 3 0),(10,dI c)],168,[],[(0,.box 44 [d8 a.1,d6 a.2.1,d6 a.2.2.1,d6 a.2.2.2.1,dW a.2.2.2.2.1,.d (.sl .bool) a.2.2.2.2.2]),(1,.box 96 [.k (zK zH 0 0),.k (zK zH 0 0),.k (zK zH 0 0),.k (zK zH 0 0)]),(2,.box 46 [d8 d,d8 e,.k (zK zH 0 0),.k (zK zH 0 0),d6 f,d6 g]),(3,.box 96 [.d (.sl .bool) b.1,.d (.sl .bool) b.2.1,dW b.2.2.1,dW b.2.2.2])],4,[],0⟩
def ME(c d:Int)(a:iN)(e f g h:Int)(b:jh):St:=⟨[(5,.pb 0 0),(6,.pb 1 0),(7,.pb 2 0),(8,.pb 3 0),(10,dI c),(12,dI d)],168,[],[(0,.box 44 [d8 a.1,d6 a.2.1,d6 a.2.2.1,d6 a.2.2.2.1,dW a.2.2.2.2.1,.d (.sl .bool) a.2.2.2.2.2]),(1,.box 96 [.k (zK zH 0 0),.k (zK zH 0 0),.k (zK zH 0 0),.k (zK zH 0 0)]),(2,.box 46 [d8 e,d8 f,.k (zK zH 0 0),.k (zK zH 0 0),d6 g,d6 h]),(3,.box 96 [.d (.sl .bool) b.1,.d (.sl .bool) b.2.1,dW b.2.2.1,dW b.2.2.2])],4,[],0⟩
def ahS(a:iN)(c d e f:Int)(b:jh):St:=⟨[(5,.pb 0 0),(6,.pb 1 0),(7,.pb 2 0),(8,.pb 3 0)],168,[],[(0,.box 44 [d8 a.1,d6 a.2.1,d6 a.2.2.1,d6 a.2.2.2.1,dW a.2.2.2.2.1,.d (.sl .bool) a.2.2.2.2.2]),(1,.box 96 [.k (zK zH 0 0),.k (zK zH 0 0),.k (zK zH 0 0),.k (zK zH 0 0)]),(2,.box 46 [d8 c,d8 d,.k (zK zH 0 0),.k (zK zH 0 0),d6 e,d6 f]),(3,.box 96 [.d (.sl .bool) b.1,.d (.sl .bool) b.2.1,dW b.2.2.1,dW b.2.2.2])],4,[],0⟩
def Jp(c:Int)(a:iN)(j k l m:Int)(b:jh)(f g h i:Int)(d:List Bool)(e:List Int):St:=⟨[(5,.pb 0 0),(6,.pb 1 0),(7,.pb 2 0),(8,.pb 3 0),(15,.pb 4 0),(16,dI c)],168,[],[(0,.box 44 [d8 a.1,d6 a.2.1,d6 a.2.2.1,d6 a.2.2.2.1,dW a.2.2.2.2.1,.d (.sl .bool) a.2.2.2.2.2]),(1,.box 96 [.k (zK zH 0 0),.k (zK zH 0 0),.k (zK zH 0 0),.k (zK zH 0 0)]),(2,.box 46 [d8 j,d8 k,.k (zK zH 0 0),.k (zK zH 0 0),d6 l,d6 m]),(3,.box 96 [.d (.sl .bool) b.1,.d (.sl .bool) b.2.1,dW b.2.2.1,dW b.2.2.2]),(4,.box 46 [d8 f,d8 g,.row 5,.row 6,d6 h,d6 i]),(5,.row .bool 4 d),(6,.row (.int .u16) 23 e)],7,[],0⟩
def ahT(c:Int)(a:iN)(j k l m:Int)(b:jh)(f g h i:Int)(d:List Bool)(e:List Int):St:=⟨[(5,.pb 0 0),(6,.pb 1 0),(7,.pb 2 0),(8,.pb 3 0),(15,.pb 4 0),(16,dI c)],168,[],[(0,.box 44 [d8 a.1,d6 a.2.1,d6 a.2.2.1,d6 a.2.2.2.1,dW a.2.2.2.2.1,.d (.sl .bool) a.2.2.2.2.2]),(1,.box 96 [.k (zK zH 0 0),.k (zK zH 0 0),.k (zK zH 0 0),.k (zK zH 0 0)]),(2,.box 46 [d8 j,d8 k,.k (zK zH 0 0),.k (zK zH 0 0),d6 l,d6 m]),(3,.box 96 [.d (.sl .bool) b.1,.d (.sl .bool) b.2.1,dW b.2.2.1,dW b.2.2.2]),(4,.box 46 [d8 f,d8 g,.row 5,.row 6,d6 h,d6 i]),(5,.row .bool 4 d),(6,.row (.int .u16) 23 e)],7,[],0⟩
def ahU(h i j k:Int)(a:jh)(d e f g:Int)(b:List Bool)(c:List Int):St:=⟨[(6,.pb 0 0),(7,.pb 1 0),(8,.pb 2 0),(15,.pb 3 0)],168,[],[(0,.box 96 [.k (zK zH 0 0),.k (zK zH 0 0),.k (zK zH 0 0),.k (zK zH 0 0)]),(1,.box 46 [d8 h,d8 i,.k (zK zH 0 0),.k (zK zH 0 0),d6 j,d6 k]),(2,.box 96 [.d (.sl .bool) a.1,.d (.sl .bool) a.2.1,dW a.2.2.1,dW a.2.2.2]),(3,.box 46 [d8 d,d8 e,.row 4,.row 5,d6 f,d6 g]),(4,.row .bool 4 b),(5,.row (.int .u16) 23 c)],6,[],0⟩
def ahV(h i j k:Int)(a:jh)(d e f g:Int)(b:List Bool)(c:List Int):St:=⟨[(6,.pb 0 0),(7,.pb 1 0),(8,.pb 2 0),(15,.pb 3 0)],168,[],[(0,.box 96 [.k (zK zH 0 0),.k (zK zH 0 0),.k (zK zH 0 0),.k (zK zH 0 0)]),(1,.box 46 [d8 h,d8 i,.k (zK zH 0 0),.k (zK zH 0 0),d6 j,d6 k]),(2,.box 96 [.d (.sl .bool) a.1,.d (.sl .bool) a.2.1,dW a.2.2.1,dW a.2.2.2]),(3,.box 46 [d8 d,d8 e,.row 4,.row 5,d6 f,d6 g]),(4,.row .bool 4 b),(5,.row (.int .u16) 23 c)],6,[],0⟩
def ahW(h i j k:Int)(a:jh)(d e f g:Int)(b:List Bool)(c:List Int):St:=⟨[(6,.pb 0 0),(7,.pb 1 0),(8,.pb 2 0),(15,.pb 3 0)],168,[],[(0,.box 96 [.k (zK zH 0 0),.k (zK zH 0 0),.k (zK zH 0 0),.k (zK zH 0 0)]),(1,.box 46 [d8 h,d8 i,.k (zK zH 0 0),.k (zK zH 0 0),d6 j,d6 k]),(2,.box 96 [.d (.sl .bool) a.1,.d (.sl .bool) a.2.1,dW a.2.2.1,dW a.2.2.2]),(3,.box 46 [d8 d,d8 e,.row 4,.row 5,d6 f,d6 g]),(4,.row .bool 4 b),(5,.row (.int .u16) 23 c)],6,[],0⟩
@[reducible] def aJ:Type:=As aL
def aw8(b:Int->iN->Int->Int->Int->Int->jh->Option aJ)(i:Int)(h:Bool)(a:iN)(d e f g:Int)(c:jh):Option aJ :=
 if h=true then b 4 a d e f g c else b i a d e f g c
def aw9(c:Int->iN->Int->Int->Int->Int->jh->Option aJ)(h:Int)(a:iN)(d e f g:Int)(b:jh):Option aJ :=
 if nei h 0=true then some (b,(rem a.1 128,h,[],[],0,0),()) else if eqi a.1 23=true then c (cvt .i64 a.2.2.2.1) a d e f g b else c (cvt .i64 a.2.1) a d e f g b
def axa(c:Int->Int->iN->Int->Int->Int->Int->jh->Option aJ)(b:Int)(a:iN)(e f g h:Int)(d:jh):Option aJ :=
 c b 0 a e f g h d
def axb(e:Int->iN->Int->Int->Int->Int->jh->Option aJ)(k:Int->Int->iN->Int->Int->Int->Int->jh->Option aJ)(c b:Int)(a:iN)(f g h i:Int)(d:jh):Option aJ :=
 if lt b (zF (zG a.2.2.2.2.2))=true then zC (at? a.2.2.2.2.2 b) fun j=>zC (at? d.1 (add .i64 c b)) fun j=>zH else e c a f g h i d
def axc(c:Int->Int->iN->Int->Int->Int->Int->jh->Option aJ)(b:Int)(a:iN)(e f g h:Int)(d:jh):Option aJ :=
 c b 0 a e f g h d
def axd(e:iN->Int->Int->Int->Int->jh->Option aJ)(k:Int->Int->iN->Int->Int->Int->Int->jh->Option aJ)(d b:Int)(a:iN)(f g h i:Int)(c:jh):Option aJ :=
 if lt b (zF (zG a.2.2.2.2.1))=true then zC (at? a.2.2.2.2.1 b) fun j=>zC (at? c.2.2.1 (add .i64 d b)) fun j=>zH else e a f g h i c
def ahX(d:Int->iN->Int->Int->Int->Int->jh->Int->Int->Int->Int->List Bool->List Int->Option aJ)(a:iN)(e f g h:Int)(b:jh):Option aJ :=
 zC (Bg (a,())) fun c=>if c.2.1=true then some (b,c.1,()) else d (cvt .i64 a.2.1) a e f g h b a.1 0 0 0 [] []
def nE(o:Int->iN->Int->Int->Int->Int->jh->Int->Int->Int->Int->List Bool->List Int->Option aJ)(p:Int->Int->Int->Int->jh->Int->Int->Int->Int->List Bool->List Int->Option aJ)(q:Int->iN->Int->Int->Int->Int->jh->Int->Int->Int->Int->List Bool->List Int->Option aJ)(b:Int)(a:iN)(k l m n:Int)(c:jh)(g h i j:Int)(d:List Bool)(e:List Int):Option aJ :=
 if lt b (add .i64 (cvt .i64 a.2.1) (cvt .i64 a.2.2.1))=true then if eqi a.1 1=true then zC (at? c.1 b) fun f=>need (small (zG d+Nat.succ 0)) (o b a k l m n c g h i j (d++[f]) e) else if eqi a.1 2=true then zC (at? c.2.1 b) fun f=>need (small (zG d+Nat.succ 0)) (o b a k l m n c g h i j (d++[f]) e) else if eqi a.1 4=true then zC (at? c.2.2.2 b) fun f=>need (small (zG e+Nat.succ 0)) (o b a k l m n c g h i j d (e++[f])) else zC (at? c.2.2.1 b) fun f=>need (small (zG e+Nat.succ 0)) (o b a k l m n c g h i j d (e++[f])) else p k l m n c g h i j d e
def axe(j:Int->iN->Int->Int->Int->Int->jh->Int->Int->Int->Int->List Bool->List Int->Option aJ)(b:Int)(a:iN)(k l m n:Int)(e:jh)(f g h i:Int)(c:List Bool)(d:List Int):Option aJ :=
 j (add .i64 b 1) a k l m n e f g h i c d
def axf(a:Int->Int->Int->Int->jh->Int->Int->Int->Int->List Bool->List Int->Option aJ)(i j k l:Int)(d:jh)(e f g h:Int)(b:List Bool)(c:List Int):Option aJ :=
 a i j k l d e f g h b c
def Jq(l m:Int->Int->Int->Int->jh->Int->Int->Int->Int->List Bool->List Int->Option aJ)(h i j k:Int)(c:jh)(d e f g:Int)(a:List Bool)(b:List Int):Option aJ :=
 if nei (rem (zF (zG a)) 8) 0=true then need (small (zG a+1)) (m h i j k c d e f g (a++[false]) b) else l h i j k c d e f g a b
def axg(h i j k:Int)(c:jh)(d e f g:Int)(a:List Bool)(b:List Int):Option aJ :=
 some (c,(d,e,a,b,f,g),())
def MF(c:Int->Bool->iN->Int->Int->Int->Int->jh->Option aJ)(e:List gX×List gX×List gX×List gX)(d:jh)(a:iN):Option aJ :=
 zC (MB (d,())) fun f=>zC (I6 (e,a,())) fun b=>if eqi b.1 0=true then zC (Sd (e,d,())) fun g=>c b.1 (!g.1) a 0 0 0 0 f.1 else c b.1 false a 0 0 0 0 f.1
def axh(a:Int->iN->Int->Int->Int->Int->jh->Int->Int->Int->Int->List Bool->List Int->Option aJ):=axe a
def axi:=axg
def Eg(i j k l:Int)(d:jh)(e f g h:Int)(b:List Bool)(c:List Int):Option aJ :=
 ay (fun m a=>Jq (axi) (fun i j k l d e f g h b c=>m (i,j,k,l,d,e,f,g,h,b,c)) a.1 a.2.1 a.2.2.1 a.2.2.2.1 a.2.2.2.2.1 a.2.2.2.2.2.1 a.2.2.2.2.2.2.1 a.2.2.2.2.2.2.2.1 a.2.2.2.2.2.2.2.2.1 a.2.2.2.2.2.2.2.2.2.1 a.2.2.2.2.2.2.2.2.2.2) 18446744073709551616 (i,j,k,l,d,e,f,g,h,b,c)
def axj:=axf (Eg)
def Eh(c:Int)(b:iN)(k l m n:Int)(f:jh)(g h i j:Int)(d:List Bool)(e:List Int):Option aJ :=
 ay (fun o a=>nE (axh (fun c b k l m n f g h i j d e=>o (c,b,k,l,m,n,f,g,h,i,j,d,e))) (axj) (fun c b k l m n f g h i j d e=>o (c,b,k,l,m,n,f,g,h,i,j,d,e)) a.1 a.2.1 a.2.2.1 a.2.2.2.1 a.2.2.2.2.1 a.2.2.2.2.2.1 a.2.2.2.2.2.2.1 a.2.2.2.2.2.2.2.1 a.2.2.2.2.2.2.2.2.1 a.2.2.2.2.2.2.2.2.2.1 a.2.2.2.2.2.2.2.2.2.2.1 a.2.2.2.2.2.2.2.2.2.2.2.1 a.2.2.2.2.2.2.2.2.2.2.2.2) 18446744073709551616 (c,b,k,l,m,n,f,g,h,i,j,d,e)
def MG:=ahX (Eh)
def ahY(c d:Int)(b:iN)(f g h i:Int)(e:jh):Option aJ :=
 ay (fun j a=>axd (MG) (fun c d b f g h i e=>j (c,d,b,f,g,h,i,e)) a.1 a.2.1 a.2.2.1 a.2.2.2.1 a.2.2.2.2.1 a.2.2.2.2.2.1 a.2.2.2.2.2.2.1 a.2.2.2.2.2.2.2) 18446744073709551616 (c,d,b,f,g,h,i,e)
def axk:=axc (ahY)
def ahZ(c d:Int)(b:iN)(f g h i:Int)(e:jh):Option aJ :=
 ay (fun j a=>axb (axk) (fun c d b f g h i e=>j (c,d,b,f,g,h,i,e)) a.1 a.2.1 a.2.2.1 a.2.2.2.1 a.2.2.2.2.1 a.2.2.2.2.2.1 a.2.2.2.2.2.2.1 a.2.2.2.2.2.2.2) 18446744073709551616 (c,d,b,f,g,h,i,e)
def axl:=axa (ahZ)
def axm:=aw9 (axl)
def ah0:=aw8 (axm)
def kS(x:As [.pr (.sl iP) bQ,.pr (.sl .bool) su,.pr (.int .u8) AF]):Option aJ:=MF ah0 x.1 x.2.1 x.2.2.1
abbrev pDj:=zp ahM ahN 104 ahL
theorem aMs{J w8 a b c d e f g h i j k l m}:pDj J 262121 [w8] (ahT a b c d e f g h i j k l m)=axe (C w8 Jp) a b c d e f g h i j k l m:=by kernel_rfl
theorem aMt{J a b c d e f g h i j k}:pDj J 16383 [] (ahW a b c d e f g h i j k)=axg a b c d e f g h i j k:=by kernel_rfl
theorem aMu{J w11 a b c d e f g h i j k}:pDj J 65532 [w11] (ahV a b c d e f g h i j k)=Jq (C (J 16383 []) ahW) (C w11 ahV) a b c d e f g h i j k:=by kernel_rfl
theorem aMv{J a b c d e f g h i j k}:pDj J 8191 [] (ahU a b c d e f g h i j k)=axf (C (J 65532 []) ahV) a b c d e f g h i j k:=by kernel_rfl
theorem aMw{J w8 a b c d e f g h i j k l m}:pDj J 65530 [w8] (Jp a b c d e f g h i j k l m)=nE (C (J 262121 [w8]) ahT) (C (J 8191 []) ahU) (C w8 Jp) a b c d e f g h i j k l m:=by kernel_rfl
theorem aMx{J a b c d e f}:pDj J 511 [] (ahS a b c d e f)=ahX (C (J 65530 []) Jp) a b c d e f:=by kernel_rfl
theorem aMy{J w6 a b c d e f g h}:pDj J 4090 [w6] (ME a b c d e f g h)=axd (C (J 511 []) ahS) (C w6 ME) a b c d e f g h:=by kernel_rfl
theorem aMz{J a b c d e f g}:pDj J 255 [] (ahR a b c d e f g)=axc (C (J 4090 []) ME) a b c d e f g:=by kernel_rfl
theorem aMA{J w4 a b c d e f g h}:pDj J 2042 [w4] (MC a b c d e f g h)=axb (C (J 255 []) ahR) (C w4 MC) a b c d e f g h:=by kernel_rfl
theorem aMB{J a b c d e f g}:pDj J 127 [] (ahQ a b c d e f g)=axa (C (J 2042 []) MC) a b c d e f g:=by kernel_rfl
theorem aMC{J a b c d e f g}:pDj J 15 [] (ahP a b c d e f g)=aw9 (C (J 127 []) ahQ) a b c d e f g:=by kernel_rfl
theorem aMD{J a b c d e f g h}:pDj J 30 [] (ahO a b c d e f g h)=aw8 (C (J 15 []) ahP) a b c d e f g h:=by kernel_rfl
abbrev pDi:=zj ahM ahN 104 ahL
theorem aME{w8}:C (pDi 262121 [w8]) ahT=axh (C w8 Jp):=gNC (by decide) fun _=>aMs
theorem aMF:C (pDi 16383 []) ahW=axi:=gNC (by decide) fun _=>aMt
theorem aMG:C (pDi 65532 []) ahV=Eg:=gLC (by decide) (by kernel_rfl) (fun _=>by unfold Eg;rfl) fun _ _=>aMu.trans (by rw[aMF]<;>kernel_rfl)
theorem aMH:C (pDi 8191 []) ahU=axj:=gNC (by decide) fun _=>aMv.trans (by rw[aMG]<;>kernel_rfl)
theorem aMI:C (pDi 65530 []) Jp=Eh:=gLC (by decide) (by kernel_rfl) (fun _=>by unfold Eh;rfl) fun _ _=>aMw.trans (by rw[aME,aMH]<;>kernel_rfl)
theorem aMJ:C (pDi 511 []) ahS=MG:=gNC (by decide) fun _=>aMx.trans (by rw[aMI]<;>kernel_rfl)
theorem aMK:C (pDi 4090 []) ME=ahY:=gLC (by decide) (by kernel_rfl) (fun _=>by unfold ahY;rfl) fun _ _=>aMy.trans (by rw[aMJ]<;>kernel_rfl)
theorem aML:C (pDi 255 []) ahR=axk:=gNC (by decide) fun _=>aMz.trans (by rw[aMK]<;>kernel_rfl)
theorem aMM:C (pDi 2042 []) MC=ahZ:=gLC (by decide) (by kernel_rfl) (fun _=>by unfold ahZ;rfl) fun _ _=>aMA.trans (by rw[aML]<;>kernel_rfl)
theorem aMN:C (pDi 127 []) ahQ=axl:=gNC (by decide) fun _=>aMB.trans (by rw[aMM]<;>kernel_rfl)
theorem aMO:C (pDi 15 []) ahP=axm:=gNC (by decide) fun _=>aMC.trans (by rw[aMN]<;>kernel_rfl)
theorem aMP:C (pDi 30 []) ahO=ah0:=gNC (by decide) fun _=>aMD.trans (by rw[aMO]<;>kernel_rfl)
theorem aMQ:ak Tryz.prog (fun _=>True) 104 ⟨ahL,kS⟩:=zcc (env:=ahM) (d:=6) (hs:=Ev.get ahN) (aj aws (aj awZ (aj aMj (aj aMr bq)))) (fun J x=>MF (C (J 30 []) ahO) x.1 x.2.1 x.2.2.1) (fun _ _=>by kernel_rfl) fun _=>by rw[aMP]<;>rfl
@[reducible] def aR:List Ty:=[.pr (.int .u8) aB,.sl (.int .u8)]
@[reducible] def mh:Sh:=shD aR aR
def ar8:Env:=(cts [(1000038,Ev.iq),(6000038,Ev.iq),(39,(⟨Q0,adY⟩:Ct)),(48,(⟨vL,oW⟩:Ct)),(97,(⟨afp,Rv⟩:Ct)),(98,(⟨awj,IX⟩:Ct)),(99,(⟨RI,I6⟩:Ct)),(100,(⟨afX,yc⟩:Ct)),(101,(⟨awX,My⟩:Ct)),(102,(⟨Sc,Bg⟩:Ct)),(103,(⟨IW,D8⟩:Ct)),(104,(⟨ahL,kS⟩:Ct))])
def ar9:List (Nat×Hint):=[(63,⟨[],[2,4,6]⟩),(127,⟨[],[2,4,6]⟩),(2047,⟨[.frb 2,.frb 6],[2,4,6,16]⟩),(4095,⟨[],[2,4,16,18]⟩),(1018,⟨[],[2,4,6,11]⟩),(1013,⟨[],[2,4,6,8]⟩)]
@[reducible] def zN2:Type:=Int×Int×gq×Unit
def ah1(e c:Int)(a:zN2)(d:List Bool)(f:List (jL))(b:iN):St:=⟨[(2,.pb 0 0),(4,.prw 2 e 35 0),(6,.pb 3 0),(8,dI c)],133,[],[(0,.box 38 [d8 a.1,d8 a.2.1,dW a.2.2.1.1,d6 a.2.2.1.2.1.1,dI a.2.2.1.2.1.2,d8 a.2.2.1.2.2.1,d2 a.2.2.1.2.2.2.1,d2 a.2.2.1.2.2.2.2.1,d2 a.2.2.1.2.2.2.2.2.1.1,dB (zJ a.2.2.1.2.2.2.2.2.1.2.1 0 false),dB (zJ a.2.2.1.2.2.2.2.2.1.2.1 1 false),dB (zJ a.2.2.1.2.2.2.2.2.1.2.1 2 false),dB (zJ a.2.2.1.2.2.2.2.2.1.2.1 3 false),dB (zJ a.2.2.1.2.2.2.2.2.1.2.1 4 false),dB (zJ a.2.2.1.2.2.2.2.2.1.2.1 5 false),dB (zJ a.2.2.1.2.2.2.2.2.1.2.1 6 false),dB (zJ a.2.2.1.2.2.2.2.2.1.2.1 7 false),dI (zJ a.2.2.1.2.2.2.2.2.1.2.2 0 (0,[])).1,dW (zJ a.2.2.1.2.2.2.2.2.1.2.2 0 (0,[])).2,dI (zJ a.2.2.1.2.2.2.2.2.1.2.2 1 (0,[])).1,dW (zJ a.2.2.1.2.2.2.2.2.1.2.2 1 (0,[])).2,dI (zJ a.2.2.1.2.2.2.2.2.1.2.2 2 (0,[])).1,dW (zJ a.2.2.1.2.2.2.2.2.1.2.2 2 (0,[])).2,dI (zJ a.2.2.1.2.2.2.2.2.1.2.2 3 (0,[])).1,dW (zJ a.2.2.1.2.2.2.2.2.1.2.2 3 (0,[])).2,dI (zJ a.2.2.1.2.2.2.2.2.1.2.2 4 (0,[])).1,dW (zJ a.2.2.1.2.2.2.2.2.1.2.2 4 (0,[])).2,dI (zJ a.2.2.1.2.2.2.2.2.1.2.2 5 (0,[])).1,dW (zJ a.2.2.1.2.2.2.2.2.1.2.2 5 (0,[])).2,dI (zJ a.2.2.1.2.2.2.2.2.1.2.2 6 (0,[])).1,dW (zJ a.2.2.1.2.2.2.2.2.1.2.2 6 (0,[])).2,dI (zJ a.2.2.1.2.2.2.2.2.1.2.2 7 (0,[])).1,dW (zJ a.2.2.1.2.2.2.2.2.1.2.2 7 (0,[])).2,dI a.2.2.1.2.2.2.2.2.2,.row 1]),(1,.row .bool 4 d),(2,.row aQ 38 f),(3,.box 44 [d8 b.1,d6 b.2.1,d6 b.2.2.1,d6 b.2.2.2.1,dW b.2.2.2.2.1,.d (.sl .bool) b.2.2.2.2.2])],4,[],0⟩
def ah2(d:Int)(a:zN2)(c:List Bool)(e:List (jL))(b:iN):St:=⟨[(2,.pb 0 0),(4,.prw 2 d 35 0),(6,.pb 3 0)],133,[],[(0,.box 38 [d8 a.1,d8 a.2.1,dW a.2.2.1.1,d6 a.2.2.1.2.1.1,dI a.2.2.1.2.1.2,d8 a.2.2.1.2.2.1,d2 a.2.2.1.2.2.2.1,d2 a.2.2.1.2.2.2.2.1,d2 a.2.2.1.2.2.2.2.2.1.1,dB (zJ a.2.2.1.2.2.2.2.2.1.2.1 0 false),dB (zJ a.2.2.1.2.2.2.2.2.1.2.1 1 false),dB (zJ a.2.2.1.2.2.2.2.2.1.2.1 2 false),dB (zJ a.2.2.1.2.2.2.2.2.1.2.1 3 false),dB (zJ a.2.2.1.2.2.2.2.2.1.2.1 4 false),dB (zJ a.2.2.1.2.2.2.2.2.1.2.1 5 false),dB (zJ a.2.2.1.2.2.2.2.2.1.2.1 6 false),dB (zJ a.2.2.1.2.2.2.2.2.1.2.1 7 false),dI (zJ a.2.2.1.2.2.2.2.2.1.2.2 0 (0,[])).1,dW (zJ a.2.2.1.2.2.2.2.2.1.2.2 0 (0,[])).2,dI (zJ a.2.2.1.2.2.2.2.2.1.2.2 1 (0,[])).1,dW (zJ a.2.2.1.2.2.2.2.2.1.2.2 1 (0,[])).2,dI (zJ a.2.2.1.2.2.2.2.2.1.2.2 2 (0,[])).1,dW (zJ a.2.2.1.2.2.2.2.2.1.2.2 2 (0,[])).2,dI (zJ a.2.2.1.2.2.2.2.2.1.2.2 3 (0,[])).1,dW (zJ a.2.2.1.2.2.2.2.2.1.2.2 3 (0,[])).2,dI (zJ a.2.2.1.2.2.2.2.2.1.2.2 4 (0,[])).1,dW (zJ a.2.2.1.2.2.2.2.2.1.2.2 4 (0,[])).2,dI (zJ a.2.2.1.2.2.2.2.2.1.2.2 5 (0,[])).1,dW (zJ a.2.2.1.2.2.2.2.2.1.2.2 5 (0,[])).2,dI (zJ a.2.2.1.2.2.2.2.2.1.2.2 6 (0,[])).1,dW (zJ a.2.2.1.2.2.2.2.2.1.2.2 6 (0,[])).2,dI (zJ a.2.2.1.2.2.2.2.2.1.2.2 7 (0,[])).1,dW (zJ a.2.2.1.2.2.2.2.2.1.2.2 7 (0,[])).2,dI a.2.2.1.2.2.2.2.2.2,.row 1]),(1,.row .bool 4 c),(2,.row aQ 38 e),(3,.box 44 [d8 b.1,d6 b.2.1,d6 b.2.2.1,d6 b.2.2.2.1,dW b.2.2.2.2.1,.d (.sl .bool) b.2.2.2.2.2])],4,[],0⟩
def ah3(e c:Int)(a:zN2)(d:List Bool)(f:List (jL))(b:iN):St:=⟨[(2,.pb 0 0),(4,.prw 2 e 35 0),(6,.pb 3 0),(11,dI c)],133,[],[(0,.box 38 [d8 a.1,d8 a.2.1,dW a.2.2.1.1,d6 a.2.2.1.2.1.1,dI a.2.2.1.2.1.2,d8 a.2.2.1.2.2.1,d2 a.2.2.1.2.2.2.1,d2 a.2.2.1.2.2.2.2.1,d2 a.2.2.1.2.2.2.2.2.1.1,dB (zJ a.2.2.1.2.2.2.2.2.1.2.1 0 false),dB (zJ a.2.2.1.2.2.2.2.2.1.2.1 1 false),dB (zJ a.2.2.1.2.2.2.2.2.1.2.1 2 false),dB (zJ a.2.2.1.2.2.2.2.2.1.2.1 3 false),dB (zJ a.2.2.1.2.2.2.2.2.1.2.1 4 false),dB (zJ a.2.2.1.2.2.2.2.2.1.2.1 5 false),dB (zJ a.2.2.1.2.2.2.2.2.1.2.1 6 false),dB (zJ a.2.2.1.2.2.2.2.2.1.2.1 7 false),dI (zJ a.2.2.1.2.2.2.2.2.1.2.2 0 (0,[])).1,dW (zJ a.2.2.1.2.2.2.2.2.1.2.2 0 (0,[])).2,dI (zJ a.2.2.1.2.2.2.2.2.1.2.2 1 (0,[])).1,dW (zJ a.2.2.1.2.2.2.2.2.1.2.2 1 (0,[])).2,dI (zJ a.2.2.1.2.2.2.2.2.1.2.2 2 (0,[])).1,dW (zJ a.2.2.1.2.2.2.2.2.1.2.2 2 (0,[])).2,dI (zJ a.2.2.1.2.2.2.2.2.1.2.2 3 (0,[])).1,dW (zJ a.2.2.1.2.2.2.2.2.1.2.2 3 (0,[])).2,dI (zJ a.2.2.1.2.2.2.2.2.1.2.2 4 (0,[])).1,dW (zJ a.2.2.1.2.2.2.2.2.1.2.2 4 (0,[])).2,dI (zJ a.2.2.1.2.2.2.2.2.1.2.2 5 (0,[])).1,dW (zJ a.2.2.1.2.2.2.2.2.1.2.2 5 (0,[])).2,dI (zJ a.2.2.1.2.2.2.2.2.1.2.2 6 (0,[])).1,dW (zJ a.2.2.1.2.2.2.2.2.1.2.2 6 (0,[])).2,dI (zJ a.2.2.1.2.2.2.2.2.1.2.2 7 (0,[])).1,dW (zJ a.2.2.1.2.2.2.2.2.1.2.2 7 (0,[])).2,dI a.2.2.1.2.2.2.2.2.2,.row 1]),(1,.row .bool 4 d),(2,.row aQ 38 f),(3,.box 44 [d8 b.1,d6 b.2.1,d6 b.2.2.1,d6 b.2.2.2.1,dW b.2.2.2.2.1,.d (.sl .bool) b.2.2.2.2.2])],4,[],0⟩
def ah4(d:Int)(a:zN2)(c:List Bool)(e:List (jL))(b:iN):St:=⟨[(2,.pb 0 0),(4,.prw 2 d 35 0),(6,.pb 3 0)],133,[],[(0,.box 38 [d8 a.1,d8 a.2.1,dW a.2.2.1.1,d6 a.2.2.1.2.1.1,dI a.2.2.1.2.1.2,d8 a.2.2.1.2.2.1,d2 a.2.2.1.2.2.2.1,d2 a.2.2.1.2.2.2.2.1,d2 a.2.2.1.2.2.2.2.2.1.1,dB (zJ a.2.2.1.2.2.2.2.2.1.2.1 0 false),dB (zJ a.2.2.1.2.2.2.2.2.1.2.1 1 false),dB (zJ a.2.2.1.2.2.2.2.2.1.2.1 2 false),dB (zJ a.2.2.1.2.2.2.2.2.1.2.1 3 false),dB (zJ a.2.2.1.2.2.2.2.2.1.2.1 4 false),dB (zJ a.2.2.1.2.2.2.2.2.1.2.1 5 false),dB (zJ a.2.2.1.2.2.2.2.2.1.2.1 6 false),dB (zJ a.2.2.1.2.2.2.2.2.1.2.1 7 false),dI (zJ a.2.2.1.2.2.2.2.2.1.2.2 0 (0,[])).1,dW (zJ a.2.2.1.2.2.2.2.2.1.2.2 0 (0,[])).2,dI (zJ a.2.2.1.2.2.2.2.2.1.2.2 1 (0,[])).1,dW (zJ a.2.2.1.2.2.2.2.2.1.2.2 1 (0,[])).2,dI (zJ a.2.2.1.2.2.2.2.2.1.2.2 2 (0,[])).1,dW (zJ a.2.2.1.2.2.2.2.2.1.2.2 2 (0,[])).2,dI (zJ a.2.2.1.2.2.2.2.2.1.2.2 3 (0,[])).1,dW (zJ a.2.2.1.2.2.2.2.2.1.2.2 3 (0,[])).2,dI (zJ a.2.2.1.2.2.2.2.2.1.2.2 4 (0,[])).1,dW (zJ a.2.2.1.2.2.2.2.2.1.2.2 4 (0,[])).2,dI (zJ a.2.2.1.2.2.2.2.2.1.2.2 5 (0,[])).1,dW (zJ a.2.2.1.2.2.2.2.2.1.2.2 5 (0,[])).2,dI (zJ a.2.2.1.2.2.2.2.2.1.2.2 6 (0,[])).1,dW (zJ a.2.2.1.2.2.2.2.2.1.2.2 6 (0,[])).2,dI (zJ a.2.2.1.2.2.2.2.2.1.2.2 7 (0,[])).1,dW (zJ a.2.2.1.2.2.2.2.2.1.2.2 7 (0,[])).2,dI a.2.2.1.2.2.2.2.2.2,.row 1]),(1,.row .bool 4 c),(2,.row aQ 38 e),(3,.box 44 [d8 b.1,d6 b.2.1,d6 b.2.2.1,d6 b.2.2.2.1,dW b.2.2.2.2.1,.d (.sl .bool) b.2.2.2.2.2])],4,[],0⟩
def ah5(d c:Int)(a:jL)(e:List (jL))(b:iN):St:=⟨[(2,.pb 0 0),(4,.prw 1 d 35 0),(6,.pb 2 0),(16,d8 c)],133,[],[(0,.box 38 [d8 a.1,d8 a.2.1,dW a.2.2.1.1,d6 a.2.2.1.2.1.1,dI a.2.2.1.2.1.2,d8 a.2.2.1.2.2.1,d2 a.2.2.1.2.2.2.1,d2 a.2.2.1.2.2.2.2.1,d2 a.2.2.1.2.2.2.2.2.1.1,dB (zJ a.2.2.1.2.2.2.2.2.1.2.1 0 false),dB (zJ a.2.2.1.2.2.2.2.2.1.2.1 1 false),dB (zJ a.2.2.1.2.2.2.2.2.1.2.1 2 false),dB (zJ a.2.2.1.2.2.2.2.2.1.2.1 3 false),dB (zJ a.2.2.1.2.2.2.2.2.1.2.1 4 false),dB (zJ a.2.2.1.2.2.2.2.2.1.2.1 5 false),dB (zJ a.2.2.1.2.2.2.2.2.1.2.1 6 false),dB (zJ a.2.2.1.2.2.2.2.2.1.2.1 7 false),dI (zJ a.2.2.1.2.2.2.2.2.1.2.2 0 (0,[])).1,dW (zJ a.2.2.1.2.2.2.2.2.1.2.2 0 (0,[])).2,dI (zJ a.2.2.1.2.2.2.2.2.1.2.2 1 (0,[])).1,dW (zJ a.2.2.1.2.2.2.2.2.1.2.2 1 (0,[])).2,dI (zJ a.2.2.1.2.2.2.2.2.1.2.2 2 (0,[])).1,dW (zJ a.2.2.1.2.2.2.2.2.1.2.2 2 (0,[])).2,dI (zJ a.2.2.1.2.2.2.2.2.1.2.2 3 (0,[])).1,dW (zJ a.2.2.1.2.2.2.2.2.1.2.2 3 (0,[])).2,dI (zJ a.2.2.1.2.2.2.2.2.1.2.2 4 (0,[])).1,dW (zJ a.2.2.1.2.2.2.2.2.1.2.2 4 (0,[])).2,dI (zJ a.2.2.1.2.2.2.2.2.1.2.2 5 (0,[])).1,dW (zJ a.2.2.1.2.2.2.2.2.1.2.2 5 (0,[])).2,dI (zJ a.2.2.1.2.2.2.2.2.1.2.2 6 (0,[])).1,dW (zJ a.2.2.1.2.2.2.2.2.1.2.2 6 (0,[])).2,dI (zJ a.2.2.1.2.2.2.2.2.1.2.2 7 (0,[])).1,dW (zJ a.2.2.1.2.2.2.2.2.1.2.2 7 (0,[])).2,dI a.2.2.1.2.2.2.2.2.2,.d (.sl .bool) a.2.2.2]),(1,.row aQ 38 e),(2,.box 44 [d8 b.1,d6 b.2.1,d6 b.2.2.1,d6 b.2.2.2.1,dW b.2.2.2.2.1,.d (.sl .bool) b.2.2.2.2.2])],3,[],0⟩
def ah6(d c:Int)(a:jL)(e:List (jL))(b:Int×Int×List Bool×List Int×Int×Int):St:=⟨[(2,.pb 0 0),(4,.prw 1 d 35 0),(16,d8 c),(18,.pb 2 0)],133,[],[(0,.box 38 [d8 a.1,d8 a.2.1,dW a.2.2.1.1,d6 a.2.2.1.2.1.1,dI a.2.2.1.2.1.2,d8 a.2.2.1.2.2.1,d2 a.2.2.1.2.2.2.1,d2 a.2.2.1.2.2.2.2.1,d2 a.2.2.1.2.2.2.2.2.1.1,dB (zJ a.2.2.1.2.2.2.2.2.1.2.1 0 false),dB (zJ a.2.2.1.2.2.2.2.2.1.2.1 1 false),dB (zJ a.2.2.1.2.2.2.2.2.1.2.1 2 false),dB (zJ a.2.2.1.2.2.2.2.2.1.2.1 3 false),dB (zJ a.2.2.1.2.2.2.2.2.1.2.1 4 false),dB (zJ a.2.2.1.2.2.2.2.2.1.2.1 5 false),dB (zJ a.2.2.1.2.2.2.2.2.1.2.1 6 false),dB (zJ a.2.2.1.2.2.2.2.2.1.2.1 7 false),dI (zJ a.2.2.1.2.2.2.2.2.1.2.2 0 (0,[])).1,dW (zJ a.2.2.1.2.2.2.2.2.1.2.2 0 (0,[])).2,dI (zJ a.2.2.1.2.2.2.2.2.1.2.2 1 (0,[])).1,dW (zJ a.2.2.1.2.2.2.2.2.1.2.2 1 (0,[])).2,dI (zJ a.2.2.1.2.2.2.2.2.1.2.2 2 (0,[])).1,dW (zJ a.2.2.1.2.2.2.2.2.1.2.2 2 (0,[])).2,dI (zJ a.2.2.1.2.2.2.2.2.1.2.2 3 (0,[])).1,dW (zJ a.2.2.1.2.2.2.2.2.1.2.2 3 (0,[])).2,dI (zJ a.2.2.1.2.2.2.2.2.1.2.2 4 (0,[])).1,dW (zJ a.2.2.1.2.2.2.2.2.1.2.2 4 (0,[])).2,dI (zJ a.2.2.1.2.2.2.2.2.1.2.2 5 (0,[])).1,dW (zJ a.2.2.1.2.2.2.2.2.1.2.2 5 (0,[])).2,dI (zJ a.2.2.1.2.2.2.2.2.1.2.2 6 (0,[])).1,dW (zJ a.2.2.1.2.2.2.2.2.1.2.2 6 (0,[])).2,dI (zJ a.2.2.1.2.2.2.2.2.1.2.2 7 (0,[])).1,dW (zJ a.2.2.1.2.2.2.2.2.1.2.2 7 (0,[])).2,dI a.2.2.1.2.2.2.2.2.2,.d (.sl .bool) a.2.2.2]),(1,.row aQ 38 e),(2,.box 46 [d8 b.1,d8 b.2.1,.d (.sl .bool) b.2.2.1,dW b.2.2.2.1,d6 b.2.2.2.2.1,d6 b.2.2.2.2.2])],3,[],0⟩
@[reducible] def dG:Type:=As aR
def ah7(h:Int->Int×Int×gq×Unit->List Bool->List (jL)->iN->Option dG)(b g:Int)(a:zN2)(f:List Bool)(d:List (jL))(e:iN):Option dG :=
 zC (My ((gV a.2.2.1),g,e.2.2.2.2.1,())) fun c=>if nei c.2.1 0=true then zC (IX (e.1,c.2.1,())) fun c=>zC (at? d b) fun j=>zC (at? (List.set d (zI b) (a.1,a.2.1,(gV a.2.2.1),f)) b) fun k=>zC (at? (List.set d (zI b) (a.1,a.2.1,(gV a.2.2.1),f)) b) fun i=>some (i,c.1,()) else h b (a.1,a.2.1,c.1,()) f d e
def axn(c:Int->Int->Int×Int×gq×Unit->List Bool->List (jL)->iN->Option dG)(e:Int)(a:zN2)(d:List Bool)(f:List (jL))(b:iN):Option dG :=
 c e 0 (a.1,a.2.1,a.2.2.1,()) d f b
def Jr(g:Int->Int×Int×gq×Unit->List Bool->List (jL)->iN->Option dG)(h:Int->Int->Int×Int×gq×Unit->List Bool->List (jL)->iN->Option dG)(e b:Int)(c:zN2)(d:List Bool)(f:List (jL))(a:iN):Option dG :=
 if lt b (zF (zG a.2.2.2.2.2))=true then zC (at? a.2.2.2.2.2 b) fun j=>zC (at? d (add .i64 (cvt .i64 a.2.1) b)) fun i=>zC (at? d (add .i64 (cvt .i64 a.2.1) b)) fun i=>h e (add .i64 b 1) (c.1,c.2.1,c.2.2.1,()) (List.set d (zI (add .i64 (cvt .i64 a.2.1) b)) j) f a else g e (c.1,c.2.1,c.2.2.1,()) d f a
def ah8(g:Int->Int->jL->List (jL)->iN->Option dG)(c:Int)(a:zN2)(e:List Bool)(d:List (jL))(b:iN):Option dG :=
 zC (Bg (b,())) fun f=>if f.2.1=true then zC (D8 (f.1,())) fun f=>zC (at? d c) fun i=>zC (at? (List.set d (zI c) (a.1,a.2.1,(gV a.2.2.1),e)) c) fun j=>zC (at? (List.set d (zI c) (a.1,a.2.1,(gV a.2.2.1),e)) c) fun h=>some (h,f.1,()) else if eqi b.1 23=true then g c b.1 (a.1,a.2.1,a.2.2.1,e) d (3,b.2.1,b.2.2.1,0,[],[]) else g c b.1 (a.1,a.2.1,a.2.2.1,e) d b
def ah9(e:Int->Int->jL->List (jL)->Int×Int×List Bool×List Int×Int×Int->Option dG)(f d:Int)(a:jL)(g:List (jL))(h:iN):Option dG :=
 let A:=amb (av mh.rs) [zC (yc ()) fun b=>amb (av mh.rs) [zC (oW ((a.1,a.2.1,(gV a.2.2.1),a.2.2.2),())) fun c=>let A:=zC (kS (b.1,c.1,h,())) fun b=>e f d a g b.2.1; amb (av mh.rs) [A,A],zC (oW ((a.1,a.2.1,(gV a.2.2.1),a.2.2.2),())) fun c=>zC (kS (b.1,c.1,h,())) fun b=>e f d a g b.2.1],zC (yc ()) fun b=>zC (oW ((a.1,a.2.1,(gV a.2.2.1),a.2.2.2),())) fun c=>zC (kS (b.1,c.1,h,())) fun b=>e f d a g b.2.1];
 amb (av mh.rs) [zC (yc ()) fun b=>let A:=amb (av mh.rs) [zC (oW ((a.1,a.2.1,(gV a.2.2.1),a.2.2.2),())) fun c=>let A:=zC (kS (b.1,c.1,h,())) fun b=>e f d a g b.2.1; amb (av mh.rs) [A,A],zC (oW ((a.1,a.2.1,(gV a.2.2.1),a.2.2.2),())) fun c=>zC (kS (b.1,c.1,h,())) fun b=>e f d a g b.2.1]; amb (av mh.rs) [zC (oW ((a.1,a.2.1,(gV a.2.2.1),a.2.2.2),())) fun c=>let A:=zC (kS (b.1,c.1,h,())) fun b=>e f d a g b.2.1; let B:=amb (av mh.rs) [A,A]; amb (av mh.rs) [zC (kS (b.1,c.1,h,())) fun b=>let A:=e f d a g b.2.1; amb (av mh.rs) [A,A],amb (av mh.rs) [B,B]],amb (av mh.rs) [A,A]],amb (av mh.rs) [A,A]]
def aia(b d:Int)(a:jL)(c:List (jL))(e:Int×Int×List Bool×List Int×Int×Int):Option dG :=
 zC (D8 ((d,e.2),())) fun f=>zC (at? c b) fun h=>zC (at? (List.set c (zI b) (a.1,a.2.1,(gV a.2.2.1),a.2.2.2)) b) fun i=>zC (at? (List.set c (zI b) (a.1,a.2.1,(gV a.2.2.1),a.2.2.2)) b) fun g=>some (g,f.1,())
def aib(e:Int->Int->Int×Int×gq×Unit->List Bool->List (jL)->iN->Option dG)(f:Int->Int×Int×gq×Unit->List Bool->List (jL)->iN->Option dG)(c:jL)(g:List Int):Option dG :=
 zC (adY ((c.1,c.2.1,(gV c.2.2.1),c.2.2.2),())) fun a=>zC (Rv (g,())) fun b=>if nei b.2.1 0=true then zC (IX (b.1.1,b.2.1,())) fun d=>some ((unS a),d.1,()) else zC (yc ()) fun d=>zC (I6 (d.1,b.1,())) fun h=>if nei h.1 0=true then zC (IX (b.1.1,2,())) fun i=>some ((unS a),i.1,()) else if gt (zF (zG b.1.2.2.2.2.1)) 0=true then if eqi b.1.1 23=true then e 0 (cvt .i64 b.1.2.2.2.1) (a.1,a.2.1,(a.2.2.1,(a.2.2.2.1,a.2.2.2.2.1),a.2.2.2.2.2.1,a.2.2.2.2.2.2.1,a.2.2.2.2.2.2.2.1,(a.2.2.2.2.2.2.2.2.1,[a.2.2.2.2.2.2.2.2.2.1,a.2.2.2.2.2.2.2.2.2.2.1,a.2.2.2.2.2.2.2.2.2.2.2.1,a.2.2.2.2.2.2.2.2.2.2.2.2.1,a.2.2.2.2.2.2.2.2.2.2.2.2.2.1,a.2.2.2.2.2.2.2.2.2.2.2.2.2.2.1,a.2.2.2.2.2.2.2.2.2.2.2.2.2.2.2.1,a.2.2.2.2.2.2.2.2.2.2.2.2.2.2.2.2.1],[(a.2.2.2.2.2.2.2.2.2.2.2.2.2.2.2.2.2.1,a.2.2.2.2.2.2.2.2.2.2.2.2.2.2.2.2.2.2.1),(a.2.2.2.2.2.2.2.2.2.2.2.2.2.2.2.2.2.2.2.1,a.2.2.2.2.2.2.2.2.2.2.2.2.2.2.2.2.2.2.2.2.1),(a.2.2.2.2.2.2.2.2.2.2.2.2.2.2.2.2.2.2.2.2.2.1,a.2.2.2.2.2.2.2.2.2.2.2.2.2.2.2.2.2.2.2.2.2.2.1),(a.2.2.2.2.2.2.2.2.2.2.2.2.2.2.2.2.2.2.2.2.2.2.2.1,a.2.2.2.2.2.2.2.2.2.2.2.2.2.2.2.2.2.2.2.2.2.2.2.2.1),(a.2.2.2.2.2.2.2.2.2.2.2.2.2.2.2.2.2.2.2.2.2.2.2.2.2.1,a.2.2.2.2.2.2.2.2.2.2.2.2.2.2.2.2.2.2.2.2.2.2.2.2.2.2.1),(a.2.2.2.2.2.2.2.2.2.2.2.2.2.2.2.2.2.2.2.2.2.2.2.2.2.2.2.1,a.2.2.2.2.2.2.2.2.2.2.2.2.2.2.2.2.2.2.2.2.2.2.2.2.2.2.2.2.1),(a.2.2.2.2.2.2.2.2.2.2.2.2.2.2.2.2.2.2.2.2.2.2.2.2.2.2.2.2.2.1,a.2.2.2.2.2.2.2.2.2.2.2.2.2.2.2.2.2.2.2.2.2.2.2.2.2.2.2.2.2.2.1),(a.2.2.2.2.2.2.2.2.2.2.2.2.2.2.2.2.2.2.2.2.2.2.2.2.2.2.2.2.2.2.2.1,a.2.2.2.2.2.2.2.2.2.2.2.2.2.2.2.2.2.2.2.2.2.2.2.2.2.2.2.2.2.2.2.2.1)]),a.2.2.2.2.2.2.2.2.2.2.2.2.2.2.2.2.2.2.2.2.2.2.2.2.2.2.2.2.2.2.2.2.2.1),()) a.2.2.2.2.2.2.2.2.2.2.2.2.2.2.2.2.2.2.2.2.2.2.2.2.2.2.2.2.2.2.2.2.2.2.1 [zSl] b.1 else e 0 (cvt .i64 b.1.2.1) (a.1,a.2.1,(a.2.2.1,(a.2.2.2.1,a.2.2.2.2.1),a.2.2.2.2.2.1,a.2.2.2.2.2.2.1,a.2.2.2.2.2.2.2.1,(a.2.2.2.2.2.2.2.2.1,[a.2.2.2.2.2.2.2.2.2.1,a.2.2.2.2.2.2.2.2.2.2.1,a.2.2.2.2.2.2.2.2.2.2.2.1,a.2.2.2.2.2.2.2.2.2.2.2.2.1,a.2.2.2.2.2.2.2.2.2.2.2.2.2.1,a.2.2.2.2.2.2.2.2.2.2.2.2.2.2.1,a.2.2.2.2.2.2.2.2.2.2.2.2.2.2.2.1,a.2.2.2.2.2.2.2.2.2.2.2.2.2.2.2.2.1],[(a.2.2.2.2.2.2.2.2.2.2.2.2.2.2.2.2.2.1,a.2.2.2.2.2.2.2.2.2.2.2.2.2.2.2.2.2.2.1),(a.2.2.2.2.2.2.2.2.2.2.2.2.2.2.2.2.2.2.2.1,a.2.2.2.2.2.2.2.2.2.2.2.2.2.2.2.2.2.2.2.2.1),(a.2.2.2.2.2.2.2.2.2.2.2.2.2.2.2.2.2.2.2.2.2.1,a.2.2.2.2.2.2.2.2.2.2.2.2.2.2.2.2.2.2.2.2.2.2.1),(a.2.2.2.2.2.2.2.2.2.2.2.2.2.2.2.2.2.2.2.2.2.2.2.1,a.2.2.2.2.2.2.2.2.2.2.2.2.2.2.2.2.2.2.2.2.2.2.2.2.1),(a.2.2.2.2.2.2.2.2.2.2.2.2.2.2.2.2.2.2.2.2.2.2.2.2.2.1,a.2.2.2.2.2.2.2.2.2.2.2.2.2.2.2.2.2.2.2.2.2.2.2.2.2.2.1),(a.2.2.2.2.2.2.2.2.2.2.2.2.2.2.2.2.2.2.2.2.2.2.2.2.2.2.2.1,a.2.2.2.2.2.2.2.2.2.2.2.2.2.2.2.2.2.2.2.2.2.2.2.2.2.2.2.2.1),(a.2.2.2.2.2.2.2.2.2.2.2.2.2.2.2.2.2.2.2.2.2.2.2.2.2.2.2.2.2.1,a.2.2.2.2.2.2.2.2.2.2.2.2.2.2.2.2.2.2.2.2.2.2.2.2.2.2.2.2.2.2.1),(a.2.2.2.2.2.2.2.2.2.2.2.2.2.2.2.2.2.2.2.2.2.2.2.2.2.2.2.2.2.2.2.1,a.2.2.2.2.2.2.2.2.2.2.2.2.2.2.2.2.2.2.2.2.2.2.2.2.2.2.2.2.2.2.2.2.1)]),a.2.2.2.2.2.2.2.2.2.2.2.2.2.2.2.2.2.2.2.2.2.2.2.2.2.2.2.2.2.2.2.2.2.1),()) a.2.2.2.2.2.2.2.2.2.2.2.2.2.2.2.2.2.2.2.2.2.2.2.2.2.2.2.2.2.2.2.2.2.2.1 [zSl] b.1 else f 0 (a.1,a.2.1,(a.2.2.1,(a.2.2.2.1,a.2.2.2.2.1),a.2.2.2.2.2.1,a.2.2.2.2.2.2.1,a.2.2.2.2.2.2.2.1,(a.2.2.2.2.2.2.2.2.1,[a.2.2.2.2.2.2.2.2.2.1,a.2.2.2.2.2.2.2.2.2.2.1,a.2.2.2.2.2.2.2.2.2.2.2.1,a.2.2.2.2.2.2.2.2.2.2.2.2.1,a.2.2.2.2.2.2.2.2.2.2.2.2.2.1,a.2.2.2.2.2.2.2.2.2.2.2.2.2.2.1,a.2.2.2.2.2.2.2.2.2.2.2.2.2.2.2.1,a.2.2.2.2.2.2.2.2.2.2.2.2.2.2.2.2.1],[(a.2.2.2.2.2.2.2.2.2.2.2.2.2.2.2.2.2.1,a.2.2.2.2.2.2.2.2.2.2.2.2.2.2.2.2.2.2.1),(a.2.2.2.2.2.2.2.2.2.2.2.2.2.2.2.2.2.2.2.1,a.2.2.2.2.2.2.2.2.2.2.2.2.2.2.2.2.2.2.2.2.1),(a.2.2.2.2.2.2.2.2.2.2.2.2.2.2.2.2.2.2.2.2.2.1,a.2.2.2.2.2.2.2.2.2.2.2.2.2.2.2.2.2.2.2.2.2.2.1),(a.2.2.2.2.2.2.2.2.2.2.2.2.2.2.2.2.2.2.2.2.2.2.2.1,a.2.2.2.2.2.2.2.2.2.2.2.2.2.2.2.2.2.2.2.2.2.2.2.2.1),(a.2.2.2.2.2.2.2.2.2.2.2.2.2.2.2.2.2.2.2.2.2.2.2.2.2.1,a.2.2.2.2.2.2.2.2.2.2.2.2.2.2.2.2.2.2.2.2.2.2.2.2.2.2.1),(a.2.2.2.2.2.2.2.2.2.2.2.2.2.2.2.2.2.2.2.2.2.2.2.2.2.2.2.1,a.2.2.2.2.2.2.2.2.2.2.2.2.2.2.2.2.2.2.2.2.2.2.2.2.2.2.2.2.1),(a.2.2.2.2.2.2.2.2.2.2.2.2.2.2.2.2.2.2.2.2.2.2.2.2.2.2.2.2.2.1,a.2.2.2.2.2.2.2.2.2.2.2.2.2.2.2.2.2.2.2.2.2.2.2.2.2.2.2.2.2.2.1),(a.2.2.2.2.2.2.2.2.2.2.2.2.2.2.2.2.2.2.2.2.2.2.2.2.2.2.2.2.2.2.2.1,a.2.2.2.2.2.2.2.2.2.2.2.2.2.2.2.2.2.2.2.2.2.2.2.2.2.2.2.2.2.2.2.2.1)]),a.2.2.2.2.2.2.2.2.2.2.2.2.2.2.2.2.2.2.2.2.2.2.2.2.2.2.2.2.2.2.2.2.2.1),()) a.2.2.2.2.2.2.2.2.2.2.2.2.2.2.2.2.2.2.2.2.2.2.2.2.2.2.2.2.2.2.2.2.2.2.1 [zSl] b.1
def aic:=aia
def aid:=ah9 (aic)
def Js:=ah8 (aid)
def Se(e c:Int)(a:zN2)(d:List Bool)(f:List (jL))(b:iN):Option dG :=
 ay (fun g a=>Jr (Js) (fun e c a d f b=>g (e,c,a,d,f,b)) a.1 a.2.1 a.2.2.1 a.2.2.2.1 a.2.2.2.2.1 a.2.2.2.2.2) 18446744073709551616 (e,c,a,d,f,b)
def Bh:=axn (Se)
def Bi:=ah7 (Bh)
def Ei(x:As aR):Option dG:=aib Bi Bh x.1 x.2.1
abbrev pFd:=zp ar8 ar9 41 mh
theorem aMR{J a b c d e}:pFd J 4095 [] (ah6 a b c d e)=aia a b c d e:=by kernel_rfl
theorem aMS{J a b c d e}:pFd J 2047 [] (ah5 a b c d e)=ah9 (C (J 4095 []) ah6) a b c d e:=by kernel_rfl
theorem aMT{J a b c d e}:pFd J 127 [] (ah4 a b c d e)=ah8 (C (J 2047 []) ah5) a b c d e:=by kernel_rfl
theorem aMU{J w3 a b c d e f}:pFd J 1018 [w3] (ah3 a b c d e f)=Jr (C (J 127 []) ah4) (C w3 ah3) a b c d e f:=by kernel_rfl
theorem aMV{J a b c d e}:pFd J 63 [] (ah2 a b c d e)=axn (C (J 1018 []) ah3) a b c d e:=by kernel_rfl
theorem aMW{J a b c d e f}:pFd J 1013 [] (ah1 a b c d e f)=ah7 (C (J 63 []) ah2) a b c d e f:=by kernel_rfl
abbrev pFc:=zj ar8 ar9 41 mh
theorem aMX:C (pFc 4095 []) ah6=aic:=gNC (by decide) fun _=>aMR
theorem aMY:C (pFc 2047 []) ah5=aid:=gNC (by decide) fun _=>aMS.trans (by rw[aMX]<;>kernel_rfl)
theorem aMZ:C (pFc 127 []) ah4=Js:=gNC (by decide) fun _=>aMT.trans (by rw[aMY]<;>kernel_rfl)
theorem aM0:C (pFc 1018 []) ah3=Se:=gLC (by decide) (by kernel_rfl) (fun _=>by unfold Se;rfl) fun _ _=>aMU.trans (by rw[aMZ]<;>kernel_rfl)
theorem axo:C (pFc 63 []) ah2=Bh:=gNC (by decide) fun _=>aMV.trans (by rw[aM0]<;>kernel_rfl)
theorem aM1:C (pFc 1013 []) ah1=Bi:=gNC (by decide) fun _=>aMW.trans (by rw[axo]<;>kernel_rfl)
theorem axp:ak Tryz.prog (fun _=>True) 41 ⟨mh,Ei⟩:=zcc (env:=ar8) (d:=6) (hs:=Ev.get ar9) (aj Ev.gI (aj Ev.gI (aj aIB (aj avZ (aj aJ6 (aj aKo (aj aws (aj aKK (aj aMg (aj awZ (aj awi (aj aMQ bq)))))))))))) (fun J x=>aib (C (J 1013 []) ah1) (C (J 63 []) ah2) x.1 x.2.1) (fun _ _=>by kernel_rfl) fun _=>by rw[aM1,axo]<;>rfl
end Go.Proofs.Lx
end
