/- Proved in the last of these 20 parts (this is part 10): SlaveTells. Conditions: those of the given statement, and no others. -/
import Derived.Test.YtkcmbampiiolbaaGreatParte
import Derived.Test.YtkcmbampiiolbaaGreatParti
import Derived.Test.YtkcmbampiiolbaaGreatProg
set_option linter.unusedVariables false
set_option linter.unusedSimpArgs false
set_option linter.unusedSectionVars false
open Option renaming bind → zC, none → zH
open List renaming replicate → zE, length → zG, getD → zJ
open Int renaming ofNat → zF, toNat → zI
open Go.Value renaming slice → zK
noncomputable section
open Go Go.Proofs Ev Sx
set_option maxRecDepth 100000
namespace Go.Proofs.Lx
abbrev oG:Type:=Int×Int×jS×List Bool
@[reducible] def dF:List Ty:=[.ar 16 (.int .u16)]
@[reducible] def abB:Sh:=shD [] dF
def abC:Env:=(cts [])
def abD:List (Nat×Hint):=[(58,⟨[],[0,1,5]⟩),(7475,⟨[],[0,1,2,3,5]⟩),(59802,⟨[],[0,1,2,3,5,10]⟩)]
def AB(c:Int)(b a:List Int):St:=⟨[(0,.pb 0 0),(1,.pb 1 0),(5,dI c)],26,[],[(0,.row (.int .u16) 242 b),(1,.row (.int .u16) 242 a)],2,[],0⟩
def abE(a f e d:Int)(c b:List Int):St:=⟨[(0,.pb 0 0),(1,.pb 1 0),(2,dI a),(3,d6 f),(5,dI e),(10,dI d)],26,[],[(0,.row (.int .u16) 242 c),(1,.row (.int .u16) 242 b)],2,[],0⟩
def abF(a e d:Int)(c b:List Int):St:=⟨[(0,.pb 0 0),(1,.pb 1 0),(2,dI a),(3,d6 e),(5,dI d)],26,[],[(0,.row (.int .u16) 242 c),(1,.row (.int .u16) 242 b)],2,[],0⟩
@[reducible] def cZ:Type:=As dF
@[reducible] def zJ0:Type:=Int->Int->Int->Int->List Int->List Int->Option cZ
@[reducible] def zJ1:Type:=Int->List Int->List Int->Option cZ
def avh(d:zJ0)(e:zJ1)(b:Int)(c a:List Int):Option cZ :=
 if lt b 16=true then d b (cvt .u16 b) b 0 c a else need (eqi (zF (zG a)) 16) (need (eqi (zF (zG c)) (zF (zG a))) (need (eqi 16 (zF (zG a*1))) (need (eqi (zF (zG a)) 16) (need (eqi (zF (zG a)) 16) (some (a,()))))))
def avi(h:Int->Int->Int->List Int->List Int->Option cZ)(i:zJ1)(g:zJ0)(b a f e:Int)(d c:List Int):Option cZ :=
 if lt e 4=true then if eqi (Sx.kK .u16 a 1) 1=true then g b (Sx.iA .u16 (Sx.shr .u16 a 1) 40961) f (add .i64 e 1) d c else g b (Sx.shr .u16 a 1) f (add .i64 e 1) d c else h b a f d c
def avj(c:zJ1)(a f e:Int)(d b:List Int):Option cZ :=
 need (lt a 16) (zC (at? b a) fun g=>zC (at? b a) fun h=>c (add .i64 e 1) d (List.set b (zI a) f))
def avk(a:zJ1):Option cZ :=
 a 0 (zE 16 0) (zE 16 0)
def avl(a:zJ1):=avj a
def abG(h:zJ1)(b g f e:Int)(d c:List Int):Option cZ :=
 ay (fun i a=>avi (avl h) h (fun b g f e d c=>i (b,g,f,e,d,c)) a.1 a.2.1 a.2.2.1 a.2.2.2.1 a.2.2.2.2.1 a.2.2.2.2.2) 18446744073709551616 (b,g,f,e,d,c)
def abH(c:Int)(b a:List Int):Option cZ :=
 ay (fun e d=>avh (abG (fun c b a=>e (c,b,a))) (fun c b a=>e (c,b,a)) d.1 d.2.1 d.2.2) 18446744073709551616 (c,b,a)
def LJ(x:As []):Option cZ:=avk abH
abbrev pBb:=zp abC abD 183 abB
theorem aGu{J w1 a b c d e}:pBb J 7475 [w1] (abF a b c d e)=avj (C w1 AB) a b c d e:=by kernel_rfl
theorem aGv{J w1 w2 a b c d e f}:pBb J 59802 [w1,w2] (abE a b c d e f)=avi (C (J 7475 [w1]) abF) (C w1 AB) (C w2 abE) a b c d e f:=by kernel_rfl
theorem aGw{J w1 a b c}:pBb J 58 [w1] (AB a b c)=avh (C (J 59802 [w1]) abE) (C w1 AB) a b c:=by kernel_rfl
abbrev pBa:=zj abC abD 183 abB
theorem aGx{w1}:C (pBa 7475 [w1]) abF=avl (C w1 AB):=gNC (by decide) fun _=>aGu
theorem aGy{w1}:C (pBa 59802 [w1]) abE=abG (C w1 AB):=gLC (by decide) (by kernel_rfl) (fun _=>by unfold abG;rfl) fun _ _=>aGv.trans (by rw[aGx]<;>kernel_rfl)
theorem aGz:C (pBa 58 []) AB=abH:=gLC (by decide) (by kernel_rfl) (fun _=>by unfold abH;rfl) fun _ _=>aGw.trans (by rw[aGy]<;>kernel_rfl)
theorem aGA:ak Tryz.prog (fun _=>True) 183 ⟨abB,LJ⟩:=zcc (env:=abC) (d:=6) (hs:=Ev.get abD) bq (fun J x=>avk (C (J 58 []) AB)) (fun _ _=>by kernel_rfl) fun _=>by rw[aGz]<;>rfl
@[reducible] def avm:Sh:=⟨[.pb 0 0,.d (.int .u16),.d (.int .u8)],[.row (.int .u16) 242],[.int .u16,.int .u8,.sl (.int .u16)],[.d (.int .u16)],[(0,.row (.int .u16) 242)],0,[.int .u16,.sl (.int .u16)]⟩
def abI(b a:Int)(c:List Int):Option (As [.int .u16,.sl (.int .u16)]) :=
 need (lt (Sx.kK .u16 (Sx.iA .u16 b (cvt .u16 a)) 15) 16) (zC (at? c (Sx.kK .u16 (Sx.iA .u16 b (cvt .u16 a)) 15)) fun e=>zC (at? c (Sx.kK .u16 (Sx.iA .u16 b (cvt .u16 a)) 15)) fun d=>need (lt (Sx.kK .u16 (Sx.iA .u16 (Sx.shr .u16 (Sx.iA .u16 b (cvt .u16 a)) 4) d) 15) 16) (zC (at? c (Sx.kK .u16 (Sx.iA .u16 (Sx.shr .u16 (Sx.iA .u16 b (cvt .u16 a)) 4) d) 15)) fun e=>zC (at? c (Sx.kK .u16 (Sx.iA .u16 (Sx.shr .u16 (Sx.iA .u16 b (cvt .u16 a)) 4) d) 15)) fun f=>some (Sx.iA .u16 (Sx.shr .u16 (Sx.iA .u16 (Sx.shr .u16 (Sx.iA .u16 b (cvt .u16 a)) 4) d) 4) f,c,())))
def LK(x:As [.int .u16,.int .u8,.sl (.int .u16)]):Option (As [.int .u16,.sl (.int .u16)]):=abI x.1 x.2.1 x.2.2.1
theorem aGB:ak Tryz.prog (fun _=>True) 184 ⟨avm,LK⟩:=ctn bq 6 fun J x=>by kernel_rfl
@[reducible] def abJ:Sh:=shD aI [.int .u16]
def abK:Env:=(cts [(183,(⟨abB,LJ⟩:Ct)),(184,(⟨avm,LK⟩:Ct))])
def abL:List (Nat×Hint):=[(122,⟨[],[0,3,4,8,9]⟩)]
def LM(a:List Int)(b d e:Int)(c:List Int):St:=⟨[(0,dL a),(3,.pb 0 0),(4,d6 b),(8,dI d),(9,dI e)],20,[],[(0,.row (.int .u16) 242 c)],1,[],0⟩
@[reducible] def cU:Type:=As [.int .u16]
@[reducible] def zJ2:Type:=List Int->Int->Int->Int->List Int->Option cU
def Qz(f:zJ2)(c:List Int)(d e b:Int)(g:List Int):Option cU :=
 if lt b e=true then zC (at? c b) fun a=>zC (LK (d,a,g,())) fun a=>f c a.1 e (add .i64 b 1) a.2.1 else some (d,())
def LP(c:zJ2)(b:List Int):Option cU :=
 zC (LJ ()) fun a=>need (eqi 16 (zF (zG a.1))) (need (eqi 16 (zF (zG a.1*1))) (c b 65535 (zF (zG b)) 0 a.1))
def QA(b:List Int)(c e f:Int)(d:List Int):Option cU :=
 ay (fun g a=>Qz (fun b c e f d=>g (b,c,e,f,d)) a.1 a.2.1 a.2.2.1 a.2.2.2.1 a.2.2.2.2) 18446744073709551616 (b,c,e,f,d)
def LQ(x:As aI):Option cU:=LP QA x.1
abbrev pA9:=zp abK abL 140 abJ
theorem aGC{J w1 a b c d e}:pA9 J 122 [w1] (LM a b c d e)=Qz (C w1 LM) a b c d e:=by kernel_rfl
abbrev pA8:=zj abK abL 140 abJ
theorem aGD:C (pA8 122 []) LM=QA:=gLC (by decide) (by kernel_rfl) (fun _=>by unfold QA;rfl) fun _ _=>aGC.trans (by kernel_rfl)
theorem avn:ak Tryz.prog (fun _=>True) 140 ⟨abJ,LQ⟩:=zcc (env:=abK) (d:=6) (hs:=Ev.get abL) (aj aGA (aj aGB bq)) (fun J x=>LP (C (J 122 []) LM) x.1) (fun _ _=>by kernel_rfl) fun _=>by rw[aGD]<;>rfl
@[reducible] def avo:Sh:=shD aI aI
def abM(b:List Int):Option bO :=
 zC (LQ (b,())) fun y=>need (Ev.jC 0 (add .i64 (zF (zG b)) 2)) (need (small (zI (add .i64 (zF (zG b)) 2))) (need (small (0+zG b)) (need (small (zG b+Nat.succ (Nat.succ 0))) (some (b++[cvt .u8 y.1,cvt .u8 (Sx.shr .u16 y.1 8)],())))))
def LU(x:As aI):Option bO:=abM x.1
theorem aGE:ak Tryz.prog (fun _=>True) 86 ⟨avo,LU⟩:=ctn (aj avn bq) 6 fun J x=>by kernel_rfl
@[reducible] def fX:List Ty:=[.int .u8,.sl (.int .u8)]
@[reducible] def abN:Sh:=shD fX aK
def abO:Env:=(cts [(85,(⟨abA,DU⟩:Ct)),(86,(⟨avo,LU⟩:Ct))])
def abP:List (Nat×Hint):=[(6,⟨[],[0,1,18]⟩)]
def abQ(c:Int)(a:List Int)(b:Bool):St:=⟨[(0,d8 c),(1,dL a),(18,dB b)],24,[],[],0,[],0⟩
def abR(c:Int)(a:List Int)(b:Bool):Option bW :=
 if b=true then some ([],2,()) else need (small (Nat.succ 0+zG a)) (zC (LU (c::a,())) fun d=>some (d.1,0,()))
def abS(c:Int->List Int->Bool->Option bW)(b:Int)(a:List Int):Option bW :=
 zC (DU (b,())) fun d=>if (!d.1)=true then c b a true else if lt (zF (zG a)) 1=true then c b a true else c b a (gt (zF (zG a)) 253)
def abT:=abR
def LV(x:As fX):Option bW:=abS abT x.1 x.2.1
abbrev pFt:=zp abO abP 28 abN
theorem aGF{J a b c}:pFt J 6 [] (abQ a b c)=abR a b c:=by kernel_rfl
abbrev pFs:=zj abO abP 28 abN
theorem aGG:C (pFs 6 []) abQ=abT:=gNC (by decide) fun _=>aGF
theorem aGH:ak Tryz.prog (fun _=>True) 28 ⟨abN,LV⟩:=zcc (env:=abO) (d:=6) (hs:=Ev.get abP) (aj avg (aj aGE bq)) (fun J x=>abS (C (J 6 []) abQ) x.1 x.2.1) (fun _ _=>by kernel_rfl) fun _=>by rw[aGG]<;>rfl
@[reducible] def avp:Sh:=shD aI aK
def abU(a:List Int):Option bW :=
 if lt (zF (zG a)) 2=true then some ([],10,()) else zC (cut a 0 (Sx.sub .i64 (zF (zG a)) 2)) fun b=>zC (at? a (Sx.sub .i64 (zF (zG a)) 2)) fun c=>zC (at? a (add .i64 (Sx.sub .i64 (zF (zG a)) 2) 1)) fun d=>zC (LQ (b,())) fun b=>if nei b.1 (Sx.bor .u16 (cvt .u16 c) (Sx.shl .u16 (cvt .u16 d) 8))=true then some ([],11,()) else need (ge (Sx.sub .i64 (zF (zG a)) 2) 0) (need (Ev.jC (Sx.sub .i64 (zF (zG a)) 2) (Sx.sub .i64 (zF (zG a)) 2)) (need (small (zI (Sx.sub .i64 (zF (zG a)) 2))) (need (le (zF (0+zG (zE (α:=Int) (zI (Sx.sub .i64 (zF (zG a)) 2)) 0))) (zF (zG (zE (α:=Int) (zI (Sx.sub .i64 (zF (zG a)) 2)) 0)))) (some (List.take (zI (zF (zG (zE (α:=Int) (zI (Sx.sub .i64 (zF (zG a)) 2)) 0)))) a++List.drop (0+zG (List.take (zI (zF (zG (zE (α:=Int) (zI (Sx.sub .i64 (zF (zG a)) 2)) 0)))) a)) (zE (zI (Sx.sub .i64 (zF (zG a)) 2)) 0),0,())))))
def LW(x:As aI):Option bW:=abU x.1
theorem aGI:ak Tryz.prog (fun _=>True) 89 ⟨avp,LW⟩:=ctn (aj avn bq) 6 fun J x=>by kernel_rfl
@[reducible] def cD:List Ty:=[.int .u8,.sl (.int .u8),.int .i64]
@[reducible] def abV:Sh:=shD aI cD
def abW:Env:=(cts [(85,(⟨abA,DU⟩:Ct)),(89,(⟨avp,LW⟩:Ct))])
def abX:List (Nat×Hint):=[(6,⟨[],[0,14]⟩)]
def abY(a:List Int)(b:Bool):St:=⟨[(0,dL a),(14,dB b)],37,[],[],0,[],0⟩
def abZ(b:List Int)(c:Bool):Option (As cD) :=
 if c=true then some (0,[],10,()) else zC (LW (b,())) fun a=>if nei a.2.1 0=true then some (0,[],a.2.1,()) else zC (at? a.1 0) fun d=>zC (DU (d,())) fun e=>if (!e.1)=true then some (0,[],10,()) else zC (at? a.1 0) fun f=>zC (cut a.1 1 (zF (zG a.1))) fun g=>need (le (zF (zG a.1)) (zF (zG a.1))) (need (le (zF (zG a.1)) (zF (zG a.1))) (some (f,g,0,())))
def ab0(b:List Int->Bool->Option (As cD))(a:List Int):Option (As cD) :=
 if lt (zF (zG a)) 4=true then b a true else b a (gt (zF (zG a)) 256)
def ab1:=abZ
def LX(x:As aI):Option (As cD):=ab0 ab1 x.1
abbrev pFv:=zp abW abX 30 abV
theorem aGJ{J a b}:pFv J 6 [] (abY a b)=abZ a b:=by kernel_rfl
abbrev pFu:=zj abW abX 30 abV
theorem aGK:C (pFu 6 []) abY=ab1:=gNC (by decide) fun _=>aGJ
theorem aGL:ak Tryz.prog (fun _=>True) 30 ⟨abV,LX⟩:=zcc (env:=abW) (d:=6) (hs:=Ev.get abX) (aj avg (aj aGI bq)) (fun J x=>ab0 (C (J 6 []) abY) x.1) (fun _ _=>by kernel_rfl) fun _=>by rw[aGK]<;>rfl
@[reducible] def ab2:Sh:=shD aI [.bool]
def aqa:Env:=(cts [])
def aqb:List (Nat×Hint):=[(26,⟨[],[0,3,7,8,9,10,17,18,19,20,21,26,27,28,29,30,31,32,33,34,35,36,37,38]⟩),(841,⟨[.agd 32 bV,.agd 33 (.int .i64),.agd 35 (.int .u8),.agd 36 (.int .i64),.agd 37 .bool,.agd 26 bV,.agd 27 (.int .i64),.agd 29 (.int .u8),.agd 30 .bool,.agd 31 .bool,.agd 38 .bool],[0,3,39]⟩),(840,⟨[.agd 17 bV,.agd 18 (.int .i64),.agd 20 (.int .u8),.agd 21 .bool],[0,3,22]⟩),(104,⟨[.agd 7 (.int .i64),.agd 8 bV,.agd 9 (.int .i64),.agd 10 .bool],[0,3,11]⟩)]
def vI(b:List Int)(i:Int):St:=⟨[(0,dL b),(3,dI i)],40,[],[],0,[],0⟩
def aqc(a:List Int)(b:Int)(c:Bool):St:=⟨[(0,dL a),(3,dI b),(11,dB c)],40,[],[],0,[],0⟩
def ab3(a:List Int)(b:Int)(c:Bool):St:=⟨[(0,dL a),(3,dI b),(22,dB c)],40,[],[],0,[],0⟩
def ab4(a:List Int)(b:Int)(c:Bool):St:=⟨[(0,dL a),(3,dI b),(39,dB c)],40,[],[],0,[],0⟩
@[reducible] def zJ3:Type:=List Int->Int->Bool->Option aD
@[reducible] def zJ4:Type:=List Int->Int->Option aD
def DW(c:zJ3)(d:zJ4)(b:List Int)(a:Int):Option aD :=
 if lt a 6=true then c b a (lt a (zF (zG b))) else c b a false
def ab5(c:zJ3)(f:zJ4)(b:List Int)(a:Int)(d:Bool):Option aD :=
 if d=true then if lt a 5=true then zC (at? b a) fun e=>c b a (nei e 0) else c b a false else some (true,())
def ab6(c:zJ3)(f:zJ4)(b:List Int)(a:Int)(e:Bool):Option aD :=
 if e=true then some (false,()) else if eqi a 5=true then zC (at? b a) fun d=>if lt d 2=true then c b a true else zC (at? b a) fun d=>c b a (gt (cvt .i64 d) 254) else c b a false
def avq(c:zJ4)(a:List Int)(b:Int)(d:Bool):Option aD :=
 if d=true then some (false,()) else c a (add .i64 b 1)
def ab7(b:zJ4)(a:List Int):Option aD :=
 b a 2
def avr(a:zJ4):=avq a
def ab8(a:zJ4):=ab6 (avr a) a
def DX(a:zJ4):=ab5 (ab8 a) a
def QB(a:List Int)(b:Int):Option aD :=
 ay (fun d c=>DW (DX (fun a b=>d (a,b))) (fun a b=>d (a,b)) c.1 c.2) 18446744073709551616 (a,b)
def ab9(x:As aI):Option aD:=ab7 QB x.1
abbrev pBx:=zp aqa aqb 185 ab2
theorem aGM{J w1 a b c}:pBx J 841 [w1] (ab4 a b c)=avq (C w1 vI) a b c:=by kernel_rfl
theorem aGN{J w1 a b c}:pBx J 840 [w1] (ab3 a b c)=ab6 (C (J 841 [w1]) ab4) (C w1 vI) a b c:=by kernel_rfl
theorem aGO{J w1 a b c}:pBx J 104 [w1] (aqc a b c)=ab5 (C (J 840 [w1]) ab3) (C w1 vI) a b c:=by kernel_rfl
theorem aGP{J w1 a b}:pBx J 26 [w1] (vI a b)=DW (C (J 104 [w1]) aqc) (C w1 vI) a b:=by kernel_rfl
abbrev pBw:=zj aqa aqb 185 ab2
theorem aGQ{w1}:C (pBw 841 [w1]) ab4=avr (C w1 vI):=gNC (by decide) fun _=>aGM
theorem aGR{w1}:C (pBw 840 [w1]) ab3=ab8 (C w1 vI):=gNC (by decide) fun _=>aGN.trans (by rw[aGQ]<;>kernel_rfl)
theorem aGS{w1}:C (pBw 104 [w1]) aqc=DX (C w1 vI):=gNC (by decide) fun _=>aGO.trans (by rw[aGR]<;>kernel_rfl)
theorem aGT:C (pBw 26 []) vI=QB:=gLC (by decide) (by kernel_rfl) (fun _=>by unfold QB;rfl) fun _ _=>aGP.trans (by rw[aGS]<;>kernel_rfl)
theorem aGU:ak Tryz.prog (fun _=>True) 185 ⟨ab2,ab9⟩:=zcc (env:=aqa) (d:=6) (hs:=Ev.get aqb) bq (fun J x=>ab7 (C (J 26 []) vI) x.1) (fun _ _=>by kernel_rfl) fun _=>by rw[aGT]<;>rfl
@[reducible] def cJ:List Ty:=[.pr (.int .u16) Wy,.int .i64]
@[reducible] def acd:Sh:=shD aI cJ
def aqd:Env:=(cts [(185,(⟨ab2,ab9⟩:Ct))])
def aqe:List (Nat×Hint):=[(6,⟨[],[0,2,13]⟩)]
def ace(a:List Int)(b:Bool)(c d:Int):St:=⟨[(0,dL a),(2,.pb 0 0),(13,dB b)],49,[],[(0,.box 148 [d6 c,d8 d,.k (zK zH 0 0)])],1,[],0⟩
def acf(b:List Int)(d:Bool)(h i:Int):Option (As cJ) :=
 if d=true then some ((0,0,[]),0,()) else zC (at? b 5) fun a=>if lt (zF (zG b)) (add .i64 6 (cvt .i64 a))=true then some ((0,0,[]),0,()) else need (ge (Sx.sub .i64 (add .i64 6 (cvt .i64 a)) 7) 0) (need (Ev.jC (Sx.sub .i64 (add .i64 6 (cvt .i64 a)) 7) (Sx.sub .i64 (add .i64 6 (cvt .i64 a)) 7)) (need (small (zI (Sx.sub .i64 (add .i64 6 (cvt .i64 a)) 7))) (zC (cut b 7 (add .i64 6 (cvt .i64 a))) fun c=>need (le (zF (0+zG (zE (α:=Int) (zI (Sx.sub .i64 (add .i64 6 (cvt .i64 a)) 7)) 0))) (zF (zG (zE (α:=Int) (zI (Sx.sub .i64 (add .i64 6 (cvt .i64 a)) 7)) 0)))) (zC (at? b 0) fun e=>zC (at? b 1) fun f=>zC (at? b 6) fun g=>some ((Sx.bor .u16 (Sx.shl .u16 (cvt .u16 e) 8) (cvt .u16 f),g,List.take (zI (zF (zG (zE (α:=Int) (zI (Sx.sub .i64 (add .i64 6 (cvt .i64 a)) 7)) 0)))) c++List.drop (0+zG (List.take (zI (zF (zG (zE (α:=Int) (zI (Sx.sub .i64 (add .i64 6 (cvt .i64 a)) 7)) 0)))) c)) (zE (zI (Sx.sub .i64 (add .i64 6 (cvt .i64 a)) 7)) 0)),add .i64 6 (cvt .i64 a),())))))
def Hz(b:List Int->Bool->Int->Int->Option (As cJ))(a:List Int):Option (As cJ) :=
 if le (zF (zG a)) 7=true then b a true 0 0 else zC (ab9 (a,())) fun c=>b a (!c.1) 0 0
def acg:=acf
def QC(x:As aI):Option (As cJ):=Hz acg x.1
abbrev pBz:=zp aqd aqe 141 acd
theorem aGV{J a b c d}:pBz J 6 [] (ace a b c d)=acf a b c d:=by kernel_rfl
abbrev pBy:=zj aqd aqe 141 acd
theorem aGW:C (pBy 6 []) ace=acg:=gNC (by decide) fun _=>aGV
theorem aGX:ak Tryz.prog (fun _=>True) 141 ⟨acd,QC⟩:=zcc (env:=aqd) (d:=6) (hs:=Ev.get aqe) (aj aGU bq) (fun J x=>Hz (C (J 6 []) ace) x.1) (fun _ _=>by kernel_rfl) fun _=>by rw[aGW]<;>rfl
@[reducible] def ach:Sh:=shD aI cJ
def aqf:Env:=(cts [(141,(⟨acd,QC⟩:Ct))])
def aqg:List (Nat×Hint):=[(14,⟨[],[2,4,18]⟩)]
@[reducible] def zJ5:Type:=Int×Int×List Int
def aci(b:Bool)(c d:Int)(a:zJ5):St:=⟨[(2,.pb 0 0),(4,.pb 1 0),(18,dB b)],21,[],[(0,.box 148 [d6 c,d8 d,.k (zK zH 0 0)]),(1,.box 148 [d6 a.1,d8 a.2.1,dL a.2.2])],2,[],0⟩
def avs(a:Bool)(c d:Int)(b:zJ5):Option (As cJ) :=
 if a=true then some ((0,0,[]),10,()) else some (b,0,())
def acj(c:Bool->Int->Int->Int×Int×List Int->Option (As cJ))(b:List Int):Option (As cJ) :=
 zC (QC (b,())) fun a=>if eqi a.2.1 0=true then c true 0 0 a.1 else c (nei a.2.1 (zF (zG b))) 0 0 a.1
def ack:=avs
def acm(x:As aI):Option (As cJ):=acj ack x.1
abbrev pBv:=zp aqf aqg 87 ach
theorem aGY{J a b c d}:pBv J 14 [] (aci a b c d)=avs a b c d:=by kernel_rfl
abbrev pBu:=zj aqf aqg 87 ach
theorem aGZ:C (pBu 14 []) aci=ack:=gNC (by decide) fun _=>aGY
theorem aG0:ak Tryz.prog (fun _=>True) 87 ⟨ach,acm⟩:=zcc (env:=aqf) (d:=6) (hs:=Ev.get aqg) (aj aGX bq) (fun J x=>acj (C (J 14 []) aci) x.1) (fun _ _=>by kernel_rfl) fun _=>by rw[aGZ]<;>rfl
@[reducible] def acn:Sh:=shD [.pr (.int .u16) Wy] aK
def aco:Env:=(cts [])
def acp:List (Nat×Hint):=[(14,⟨[],[1,4,14]⟩)]
def acr(b:Int)(c:Bool)(a:zJ5):St:=⟨[(1,.pb 0 0),(4,dI b),(14,dB c)],37,[],[(0,.box 148 [d6 a.1,d8 a.2.1,dL a.2.2])],1,[],0⟩
def acs(b:Int)(c:Bool)(a:zJ5):Option bW :=
 if c=true then some ([],2,()) else need (Ev.jC 0 (add .i64 7 b)) (need (small (zI (add .i64 7 b))) (need (small (0+Nat.succ (Nat.succ (Nat.succ (Nat.succ (Nat.succ (Nat.succ (Nat.succ 0)))))))) (need (small (Nat.succ (Nat.succ (Nat.succ (Nat.succ (Nat.succ (Nat.succ (Nat.succ 0))))))+zG a.2.2)) (some (cvt .u8 (Sx.shr .u16 a.1 8)::cvt .u8 a.1::0::0::0::cvt .u8 (add .i64 b 1)::a.2.1::a.2.2,0,())))))
def acu(b:Int->Bool->Int×Int×List Int->Option bW)(a:zJ5):Option bW :=
 if lt (zF (zG a.2.2)) 1=true then b (zF (zG a.2.2)) true a else b (zF (zG a.2.2)) (gt (zF (zG a.2.2)) 253) a
def acv:=acs
def LY(x:As [.pr (.int .u16) Wy]):Option bW:=acu acv x.1
abbrev pBt:=zp aco acp 88 acn
theorem aG1{J a b c}:pBt J 14 [] (acr a b c)=acs a b c:=by kernel_rfl
abbrev pBs:=zj aco acp 88 acn
theorem aG2:C (pBs 14 []) acr=acv:=gNC (by decide) fun _=>aG1
theorem aG3:ak Tryz.prog (fun _=>True) 88 ⟨acn,LY⟩:=zcc (env:=aco) (d:=6) (hs:=Ev.get acp) bq (fun J x=>acu (C (J 14 []) acr) x.1) (fun _ _=>by kernel_rfl) fun _=>by rw[aG2]<;>rfl
@[reducible] def acw:Sh:=shD bK bK
def aqh:Env:=(cts [(14,(⟨Qt,xZ⟩:Ct)),(28,(⟨abN,LV⟩:Ct)),(30,(⟨abV,LX⟩:Ct)),(63,(⟨aaW,DK⟩:Ct)),(87,(⟨ach,acm⟩:Ct)),(88,(⟨acn,LY⟩:Ct))])
def aqi:List (Nat×Hint):=[(30,⟨[],[2,4,10,11,62]⟩),(106,⟨[],[2,4,6,31]⟩)]
def acy(b e:Int)(d:Bool)(c f:List (oG))(a:zJ5):St:=⟨[(2,.prw 0 b 35 0),(4,.prw 1 e 35 0),(6,.pb 2 0),(31,dB d)],79,[],[(0,.row cW 38 c),(1,.row cW 38 f),(2,.box 148 [d6 a.1,d8 a.2.1,dL a.2.2])],3,[],0⟩
def acz(b d g:Int)(a:List Int)(f:Bool)(c e:List (oG)):St:=⟨[(2,.prw 0 b 35 0),(4,.prw 1 d 35 0),(10,d8 g),(11,dL a),(62,dB f)],79,[],[(0,.row cW 38 c),(1,.row cW 38 e)],2,[],0⟩
def HV(d b:Int)(h:Bool)(f c:List (oG))(e:zJ5):Option fU :=
 if h=true then zC (at? f d) fun a=>zC (DK (a,())) fun a=>zC (at? c b) fun e=>zC (at? (List.set c (zI b) a.1) b) fun g=>zC (at? (List.set c (zI b) a.1) b) fun a=>some (a,[],()) else zC (at? f d) fun a=>zC (xZ (a,e.2.2,())) fun a=>zC (at? f d) fun i=>zC (LY ((e.1,e.2.1,a.2.1),())) fun g=>zC (at? (List.set f (zI d) a.1) d) fun a=>zC (at? c b) fun e=>zC (at? (List.set c (zI b) a) b) fun j=>zC (at? (List.set c (zI b) a) b) fun a=>some (a,g.1,())
def HY(d b j:Int)(h:List Int)(i:Bool)(e c:List (oG)):Option fU :=
 if i=true then zC (at? e d) fun a=>zC (DK (a,())) fun a=>zC (at? c b) fun f=>zC (at? (List.set c (zI b) a.1) b) fun g=>zC (at? (List.set c (zI b) a.1) b) fun a=>some (a,[],()) else zC (at? e d) fun a=>zC (xZ (a,h,())) fun a=>zC (at? e d) fun f=>zC (LV (j,a.2.1,())) fun g=>zC (at? (List.set e (zI d) a.1) d) fun a=>zC (at? c b) fun f=>zC (at? (List.set c (zI b) a) b) fun k=>zC (at? (List.set c (zI b) a) b) fun a=>some (a,g.1,())
def acA(d:Int->Int->Bool->List (oG)->List (oG)->Int×Int×List Int->Option fU)(e:Int->Int->Int->List Int->Bool->List (oG)->List (oG)->Option fU)(b:oG)(c:List Int):Option fU :=
 if eqi b.2.1 2=true then zC (acm (c,())) fun a=>if nei a.2.1 0=true then d 0 0 true [b] [zSl] a.1 else d 0 0 (nei a.1.2.1 b.1) [b] [zSl] a.1 else zC (LX (c,())) fun a=>if nei a.2.2.1 0=true then e 0 0 a.1 a.2.1 true [b] [zSl] else e 0 0 a.1 a.2.1 (nei a.1 b.1) [b] [zSl]
def HZ:=HV
def QD:=HY
def acB(x:As bK):Option fU:=acA HZ QD x.1 x.2.1
abbrev pF1:=zp aqh aqi 29 acw
theorem aG4{J a b c d e f}:pF1 J 106 [] (acy a b c d e f)=HV a b c d e f:=by kernel_rfl
theorem aG5{J a b c d e f g}:pF1 J 30 [] (acz a b c d e f g)=HY a b c d e f g:=by kernel_rfl
abbrev pF0:=zj aqh aqi 29 acw
theorem aG6:C (pF0 106 []) acy=HZ:=gNC (by decide) fun _=>aG4
theorem aG7:C (pF0 30 []) acz=QD:=gNC (by decide) fun _=>aG5
theorem aG8:ak Tryz.prog (fun _=>True) 29 ⟨acw,acB⟩:=zcc (env:=aqh) (d:=6) (hs:=Ev.get aqi) (aj abh (aj aGH (aj aGL (aj aa2 (aj aG0 (aj aG3 bq)))))) (fun J x=>acA (C (J 106 []) acy) (C (J 30 []) acz) x.1 x.2.1) (fun _ _=>by kernel_rfl) fun _=>by rw[aG6,aG7]<;>rfl
@[reducible] def eC:List Ty:=[.pr (.int .u16) (.int .i64),.bool]
@[reducible] def aqj:Sh:=shD bF eC
def aqk:Env:=(cts [(113,(⟨Dy,oU⟩:Ct)),(167,(⟨aon,Aq⟩:Ct)),(207,(⟨YH,xO⟩:Ct))])
def aql:List (Nat×Hint):=[(14,⟨[],[1,2,14]⟩)]
def acC(c:Bool)(a b:Int×Int):St:=⟨[(1,.pb 0 0),(2,.pb 1 0),(14,dB c)],25,[],[(0,.box 27 [d6 a.1,dI a.2]),(1,.box 27 [d6 b.1,dI b.2])],2,[],0⟩
def acD(b:Bool)(a c:Int×Int):Option (As eC) :=
 if b=true then some (a,false,()) else if eqi (Sx.sub .i64 a.2 1) 0=true then some ((0,0),true,()) else some ((a.1,Sx.sub .i64 a.2 1),false,())
def acE(b:Bool->Int×Int->Int×Int->Option (As eC))(d:Int×Int):Option (As eC) :=
 zC (Aq (d,())) fun a=>zC (oU (a.1,())) fun e=>if e.1=true then b true a.1 (0,0) else zC (xO (a.1.1,())) fun c=>b (eqi a.1.1 c.1.1 && (eqi a.1.2 c.1.2 && true)) a.1 (0,0)
def acF:=acD
def acG(x:As bF):Option (As eC):=acE acF x.1
abbrev pBl:=zp aqk aql 179 aqj
theorem aG9{J a b c}:pBl J 14 [] (acC a b c)=acD a b c:=by kernel_rfl
abbrev pBk:=zj aqk aql 179 aqj
theorem aHa:C (pBk 14 []) acC=acF:=gNC (by decide) fun _=>aG9
theorem aHb:ak Tryz.prog (fun _=>True) 179 ⟨aqj,acG⟩:=zcc (env:=aqk) (d:=6) (hs:=Ev.get aql) (aj GM (aj YK (aj YI bq))) (fun J x=>acE (C (J 14 []) acC) x.1) (fun _ _=>by kernel_rfl) fun _=>by rw[aHa]<;>rfl
@[reducible] def zJ6:Type:=List Int×(Int×Int)×Int×Int×Int×pO×Int
@[reducible] def aHc:Sh:=shD bJ bJ
def acH(c:zJ6):Option dD :=
 zC (DF (c,())) fun a=>zC (acG (a.1.2.1,())) fun b=>if b.2.1=true then zC (Av (a.1,())) fun a=>some (a.1,()) else some ((a.1.1,b.1,a.1.2.2),())
def acI(x:As bJ):Option dD:=acH x.1
theorem aHd:ak Tryz.prog (fun _=>True) 136 ⟨aHc,acI⟩:=ctn (aj ZF (aj aHb (aj P7 bq))) 6 fun J x=>by kernel_rfl
@[reducible] def avt:Sh:=shD bT bT
def acJ(b:oG):Option fT :=
 zC (DK (b,())) fun a=>zC (acI (a.1.2.2.1,())) fun c=>some ((a.1.1,a.1.2.1,c.1,a.1.2.2.2),())
def LZ(x:As bT):Option fT:=acJ x.1
theorem aHe:ak Tryz.prog (fun _=>True) 82 ⟨avt,LZ⟩:=ctn (aj aa2 (aj aHd bq)) 6 fun J x=>by kernel_rfl
@[reducible] def aHf:Sh:=shD bJ bJ
def acK(a:zJ6):Option dD :=
 zC (DF (a,())) fun y=>if eqi y.1.2.2.1 1=true then zC (Av (y.1,())) fun y=>some (y.1,()) else some (y.1,())
def acL(x:As bJ):Option dD:=acK x.1
theorem aHg:ak Tryz.prog (fun _=>True) 137 ⟨aHf,acL⟩:=ctn (aj ZF (aj P7 bq)) 6 fun J x=>by kernel_rfl
@[reducible] def avu:Sh:=shD bT bT
def acM(b:oG):Option fT :=
 zC (DK (b,())) fun a=>zC (acL (a.1.2.2.1,())) fun c=>some ((a.1.1,a.1.2.1,c.1,[false,false,false,false,false,false,false,false,false,false,false,false,false,false,false,false]),())
def L5(x:As bT):Option fT:=acM x.1
theorem aHh:ak Tryz.prog (fun _=>True) 83 ⟨avu,L5⟩:=ctn (aj aa2 (aj aHg bq)) 6 fun J x=>by kernel_rfl
@[reducible] def avv:Sh:=⟨[.d iE,.d iE],[],[.pr (.int .i64) aA,.pr (.int .i64) aA],[.d (.bool)],[],0,[.bool]⟩
def aqm(x y:Int×List Int):Option aD :=
 if eqi x.1 y.1=true then zC (Ad (x.2,y.2,())) fun y=>some (y.1,()) else some (false,())
def acN(x:As [.pr (.int .i64) aA,.pr (.int .i64) aA]):Option aD:=aqm x.1 x.2.1
theorem avw:ak Tryz.prog (fun _=>True) 182 ⟨avv,acN⟩:=ctn (aj Xx bq) 6 fun J x=>by kernel_rfl
@[reducible] def aqn:Sh:=⟨[.d (.sl iE),.d (.sl iE),.fn (.func 182) [] []],[],[.sl iE,.sl iE],[.d (.bool)],[],0,[.bool]⟩
def aqo:Env:=(cts [(182,(⟨avv,acN⟩:Ct))])
def aqp:List (Nat×Hint):=[(58,⟨[],[1,2,15,16,17]⟩)]
@[reducible] def zJ7:Type:=List (Int×List Int)
def acO(a b:zJ7)(c d:Int):St:=⟨[(1,.d (.sl iE) a),(2,.fn (.func 182) [] []),(15,.d (.sl iE) b),(16,dI c),(17,dI d)],32,[],[],0,[],0⟩
@[reducible] def zJ8:Type:=List (Int×List Int)->List (Int×List Int)->Int->Int->Option aD
def QE(f:zJ8)(c d:zJ7)(e a:Int):Option aD :=
 if lt a e=true then zC (at? d a) fun b=>zC (at? c a) fun g=>zC (acN (b,g,())) fun b=>if (!b.1)=true then some (false,()) else f c d e (add .i64 a 1) else some (true,())
def acP(c:zJ8)(a b:zJ7):Option aD :=
 if nei (zF (zG a)) (zF (zG b))=true then some (false,()) else c b a (zF (zG a)) 0
def QF(b c:zJ7)(d e:Int):Option aD :=
 ay (fun f a=>QE (fun b c d e=>f (b,c,d,e)) a.1 a.2.1 a.2.2.1 a.2.2.2) 18446744073709551616 (b,c,d,e)
def aqr(x:As [.sl iE,.sl iE]):Option aD:=acP QF x.1 x.2.1
abbrev pF9:=zp aqo aqp 181 aqn
theorem aPs{J w1 a b c d}:pF9 J 58 [w1] (acO a b c d)=QE (C w1 acO) a b c d:=by kernel_rfl
abbrev pF8:=zj aqo aqp 181 aqn
theorem aPt:C (pF8 58 []) acO=QF:=gLC (by decide) (by kernel_rfl) (fun _=>by unfold QF;rfl) fun _ _=>aPs.trans (by kernel_rfl)
theorem aPu:ak Tryz.prog (fun _=>True) 181 ⟨aqn,aqr⟩:=zcc (env:=aqo) (d:=6) (hs:=Ev.get aqp) (aj avw bq) (fun J x=>acP (C (J 58 []) acO) x.1 x.2.1) (fun _ _=>by kernel_rfl) fun _=>by rw[aPt]<;>rfl
@[reducible] def avx:Sh:=shD [.sl iE,.sl iE] [.bool]
def acQ(a b:zJ7):Option aD :=
 zC (aqr (a,b,())) fun y=>some (y.1,())
def L6(x:As [.sl iE,.sl iE]):Option aD:=acQ x.1 x.2.1
theorem aHi:ak Tryz.prog (fun _=>True) 138 ⟨avx,L6⟩:=ctn (aj aPu (aj avw bq)) 6 fun J x=>by kernel_rfl
@[reducible] def avy:Sh:=shD [.pr (.int .u32) aP,.pr (.int .u32) aP] [.bool]
def aHj:Env:=(cts [(2000033,Ev.iq),(138,(⟨avx,L6⟩:Ct)),(139,(⟨Qe,Aw⟩:Ct))])
def QG(a b:Int×List Bool×List (Int×List Int)):Option aD :=
 if eqi a.1 b.1=true then if (Sx.eqb (zJ a.2.1 0 false) (zJ b.2.1 0 false) && (Sx.eqb (zJ a.2.1 1 false) (zJ b.2.1 1 false) && (Sx.eqb (zJ a.2.1 2 false) (zJ b.2.1 2 false) && (Sx.eqb (zJ a.2.1 3 false) (zJ b.2.1 3 false) && (Sx.eqb (zJ a.2.1 4 false) (zJ b.2.1 4 false) && (Sx.eqb (zJ a.2.1 5 false) (zJ b.2.1 5 false) && (Sx.eqb (zJ a.2.1 6 false) (zJ b.2.1 6 false) && (Sx.eqb (zJ a.2.1 7 false) (zJ b.2.1 7 false) && true))))))))=true then zC (Aw (a,())) fun c=>zC (Aw (b,())) fun d=>zC (L6 (c.1,d.1,())) fun c=>some (c.1,()) else some (false,()) else some (false,())
def L8(x:As [.pr (.int .u32) aP,.pr (.int .u32) aP]):Option aD:=QG x.1 x.2.1
theorem aHk:ak Tryz.prog (fun _=>True) 84 ⟨avy,L8⟩:=ctn (env:=aHj) (aj Ev.gI (aj aHi (aj apf bq))) 6 fun J x=>by kernel_rfl
@[reducible] def avz:Sh:=shD [.pr aA qL,.pr aA qL] [.bool]
def aHl:Env:=(cts [(2000035,Ev.iq),(80,(⟨OZ,Ad⟩:Ct)),(84,(⟨avy,L8⟩:Ct))])
def acR(a b:zJ6):Option aD :=
 zC (Ad (a.1,b.1,())) fun y=>if y.1=true then if (eqi a.2.1.1 b.2.1.1 && (eqi a.2.1.2 b.2.1.2 && true))=true then if eqi a.2.2.1 b.2.2.1=true then if eqi a.2.2.2.1 b.2.2.2.1=true then if eqi a.2.2.2.2.1 b.2.2.2.2.1=true then zC (L8 (a.2.2.2.2.2.1,b.2.2.2.2.2.1,())) fun y=>if y.1=true then some (eqi a.2.2.2.2.2.2 b.2.2.2.2.2.2,()) else some (false,()) else some (false,()) else some (false,()) else some (false,()) else some (false,()) else some (false,())
def L9(x:As [.pr aA qL,.pr aA qL]):Option aD:=acR x.1 x.2.1
theorem aHm:ak Tryz.prog (fun _=>True) 27 ⟨avz,L9⟩:=ctn (env:=aHl) (aj Ev.gI (aj Xx (aj aHk bq))) 6 fun J x=>by kernel_rfl
@[reducible] def avA:Sh:=shD [.pr (.int .u8) aE,.pr (.int .u8) aE] [.bool]
def aHn:Env:=(cts [(2000038,Ev.iq),(27,(⟨avz,L9⟩:Ct)),(90,(⟨aa5,Qn⟩:Ct))])
def acS(a b:oG):Option aD :=
 if eqi a.1 b.1=true then if eqi a.2.1 b.2.1=true then zC (L9 (a.2.2.1,b.2.2.1,())) fun y=>if y.1=true then zC (Qn (a.2.2.2,b.2.2.2,())) fun y=>some (y.1,()) else some (false,()) else some (false,()) else some (false,())
def QI(x:As [.pr (.int .u8) aE,.pr (.int .u8) aE]):Option aD:=acS x.1 x.2.1
theorem aHo:ak Tryz.prog (fun _=>True) 32 ⟨avA,QI⟩:=ctn (env:=aHn) (aj Ev.gI (aj aHm (aj aAl bq))) 6 fun J x=>by kernel_rfl
@[reducible] def aqs:Sh:=shD [.sl .bool,.sl .bool] [.bool]
def acT:Env:=(cts [])
def acU:List (Nat×Hint):=[(58,⟨[],[0,1,12,13]⟩)]
def Ma(a b:List Bool)(c d:Int):St:=⟨[(0,.d (.sl .bool) a),(1,.d (.sl .bool) b),(12,dI c),(13,dI d)],26,[],[],0,[],0⟩
@[reducible] def zJ9:Type:=List Bool->List Bool->Int->Int->Option aD
def QJ(e:zJ9)(b c:List Bool)(d a:Int):Option aD :=
 if lt a d=true then zC (at? b a) fun f=>zC (at? c a) fun g=>if Sx.neb f g=true then some (false,()) else e b c d (add .i64 a 1) else some (true,())
def Mb(c:zJ9)(a b:List Bool):Option aD :=
 if nei (zF (zG a)) (zF (zG b))=true then some (false,()) else c a b (zF (zG a)) 0
def QK(b c:List Bool)(d e:Int):Option aD :=
 ay (fun f a=>QJ (fun b c d e=>f (b,c,d,e)) a.1 a.2.1 a.2.2.1 a.2.2.2) 18446744073709551616 (b,c,d,e)
def Mc(x:As [.sl .bool,.sl .bool]):Option aD:=Mb QK x.1 x.2.1
abbrev pBn:=zp acT acU 53 aqs
theorem aHp{J w1 a b c d}:pBn J 58 [w1] (Ma a b c d)=QJ (C w1 Ma) a b c d:=by kernel_rfl
abbrev pBm:=zj acT acU 53 aqs
theorem aHq:C (pBm 58 []) Ma=QK:=gLC (by decide) (by kernel_rfl) (fun _=>by unfold QK;rfl) fun _ _=>aHp.trans (by kernel_rfl)
theorem aHr:ak Tryz.prog (fun _=>True) 53 ⟨aqs,Mc⟩:=zcc (env:=acT) (d:=6) (hs:=Ev.get acU) bq (fun J x=>Mb (C (J 58 []) Ma) x.1 x.2.1) (fun _ _=>by kernel_rfl) fun _=>by rw[aHq]<;>rfl
@[reducible] def avB:Sh:=shD fC [.bool]
def aHs(a b:List Int):Option aD :=
 some (eqs (Sx.toS a) (Sx.toS b),())
def Md(x:As fC):Option aD:=aHs x.1 x.2.1
theorem aHt:ak Tryz.prog (fun _=>True) 31 ⟨avB,Md⟩:=ctn bq 6 fun J x=>by kernel_rfl
def aHu(r:Int×Int×List Bool×List Int×Int×Int):Option aD :=
 if nei r.2.1 0=true then zC (Hq ((),r,())) fun y=>some (y.1,()) else if eqi r.1 1=true then zC (xW ((),r,())) fun y=>some (y.1,()) else if eqi r.1 2=true then zC (xW ((),r,())) fun y=>some (y.1,()) else if eqi r.1 3=true then zC (sj ((),r,())) fun y=>some (y.1,()) else if eqi r.1 4=true then zC (sj ((),r,())) fun y=>some (y.1,()) else if eqi r.1 23=true then zC (sj ((),r,())) fun y=>some (y.1,()) else if eqi r.1 5=true then zC (Hr ((),r,())) fun y=>some (y.1,()) else if eqi r.1 6=true then zC (Ht ((),r,())) fun y=>some (y.1,()) else if eqi r.1 15=true then zC (xY (1968,r,())) fun y=>some (y.1,()) else if eqi r.1 16=true then zC (xY (123,r,())) fun y=>some (y.1,()) else some (false,())
def aHv(x:As bC):Option aD:=aHu x.1
def aHw(n:Bool)(f g c h:Int)(i:List Int)(j:List Bool)(k d:Int)(b:List Bool)(e:List Int)(l m:Int):Option aD :=
 if n=true then some (false,()) else if nei d 0=true then some (true,()) else zC (xQ ((f,g,c,h,i,j),())) fun a=>if a.2.1=true then zC (xV (a.1,(k,d,b,e,l,m),())) fun a=>some (a.1,()) else if gt (zF (zG b)) 0=true then if eqi (zF (zG b)) (mul .i64 (quo .i64 (add .i64 (cvt .i64 c) 7) 8) 8)=true then zC (cut b (cvt .i64 c) (zF (zG b))) fun a=>zC (Dx (a,true,())) fun a=>some (!a.1,()) else some (false,()) else some (eqi (zF (zG e)) (cvt .i64 c),())
@[reducible] def aqt:Type:=Int×Int×Int×Int×List Int×List Bool
def aHx(c:Bool->Int->Int->Int->Int->List Int->List Bool->Int->Int->List Bool->List Int->Int->Int->Option aD)(a:aqt)(b:Int×Int×List Bool×List Int×Int×Int):Option aD :=
 zC (xJ (a,())) fun d=>if (!d.1)=true then c true a.1 a.2.1 a.2.2.1 a.2.2.2.1 a.2.2.2.2.1 a.2.2.2.2.2 b.1 b.2.1 b.2.2.1 b.2.2.2.1 b.2.2.2.2.1 b.2.2.2.2.2 else zC (aHv (b,())) fun d=>if (!d.1)=true then c true a.1 a.2.1 a.2.2.1 a.2.2.2.1 a.2.2.2.2.1 a.2.2.2.2.2 b.1 b.2.1 b.2.2.1 b.2.2.2.1 b.2.2.2.2.1 b.2.2.2.2.2 else c (nei a.1 b.1) a.1 a.2.1 a.2.2.1 a.2.2.2.1 a.2.2.2.2.1 a.2.2.2.2.2 b.1 b.2.1 b.2.2.1 b.2.2.2.1 b.2.2.2.2.1 b.2.2.2.2.2
def aHy:=aHw
def aPM(x:As [.pr (.int .u8) mK,.pr (.int .u8) pP]):Option aD:=aHx aHy x.1 x.2.1
def aHz(e:List dw×List dw×List dw×List dw)(c:List Bool×List Bool×List Int×List Int)(d:List Int):Option (As [.pr (.sl .bool) uN,.sl (.int .u8)]) :=
 zC (xL (d,())) fun a=>if nei a.2.1 0=true then zC (ko (a.1.1,a.2.1,())) fun a=>zC (DR (a.1,())) fun a=>zC (aD9 (c,())) fun b=>some (b.1,a.1,()) else zC (kL (e,c,a.1,())) fun a=>zC (DR (a.2.1,())) fun b=>some (a.1,b.1,())
def aPN(x:As [.pr gW bY,.pr (.sl .bool) uN,.sl (.int .u8)]):Option (As [.pr (.sl .bool) uN,.sl (.int .u8)]):=aHz x.1 x.2.1 x.2.2.1
def aHA(a:Int×Int×Int×Int×Int):Option bU :=
 zC (Ap (a.2.2.1,())) fun b=>zC (Ap (a.2.2.2.2,())) fun c=>some ([a.1,cvt .u16 a.2.1,b.1,b.2.1,a.2.2.2.1,c.1,c.2.1,0],())
def aPO(x:As [.pr (.int .u16) Gm]):Option bU:=aHA x.1
def aHB(d e b:Int)(c:Int×List Int):Option dY :=
 zC (Dz (b,())) fun a=>if (!a.1)=true then some ([],2,()) else zC (rY (c,())) fun a=>if (!a.1)=true then some ([],20,()) else zC (PV (d,e,b,c,())) fun a=>some (a.1,0,())
def aPP(x:As eU):Option dY:=aHB x.1 x.2.1 x.2.2.1 x.2.2.2.1
@[reducible] def fJ:List Ty:=[.sl (.int .u8),.bool]
@[reducible] def QL:Sh:=shD [.pr (.int .u8) bA] fJ
def aqu:Env:=(cts [(13,(⟨Gs,Ab⟩:Ct)),(57,(⟨abq,AA⟩:Ct))])
def aqv:List (Nat×Hint):=[(7,⟨[.frb 4],[4]⟩)]
def aqw(a:aqt):St:=⟨[(4,.pb 0 0)],41,[],[(0,.box 44 [d8 a.1,d6 a.2.1,d6 a.2.2.1,d6 a.2.2.2.1,dW a.2.2.2.2.1,.d (.sl .bool) a.2.2.2.2.2])],1,[],0⟩
def acV(a:aqt):Option (As fJ) :=
 zC (Ab (a,())) fun y=>some (y.1,eqi y.2.1 0,())
def acW(b:Int×Int×Int×Int×List Int×List Bool->Option (As fJ))(a:Int×List Int×Wx×Int×Int×Int×Int×Int):Option (As fJ) :=
 if eqi (rem a.1 6) 0=true then some (a.2.1,true,()) else if eqi (rem a.1 6) 5=true then zC (AA (a.2.2.2,())) fun c=>if eqi (rem a.2.2.2.2.2.2.1 2) 1=true then zC (AA (a.2.2.2,())) fun c=>b (16,272,8,0,c.1,[]) else b (23,256,8,272,c.1,[]) else if eqi (rem a.1 6) 2=true then b a.2.2.1 else some ([],false,())
def acX:=acV
def H6(x:As [.pr (.int .u8) bA]):Option (As fJ):=acW acX x.1
abbrev pBf:=zp aqu aqv 40 QL
theorem aHC{J a}:pBf J 7 [] (aqw a)=acV a:=by kernel_rfl
abbrev pBe:=zj aqu aqv 40 QL
theorem aHD:C (pBe 7 []) aqw=acX:=gNC (by decide) fun _=>aHC
theorem avC:ak Tryz.prog (fun _=>True) 40 ⟨QL,H6⟩:=zcc (env:=aqu) (d:=6) (hs:=Ev.get aqv) (aj Xm (aj avb bq)) (fun J x=>acW (C (J 7 []) aqw) x.1) (fun _ _=>by kernel_rfl) fun _=>by rw[aHD]<;>rfl
@[reducible] def avD:Sh:=shD [.pr (.int .u8) bA,.pr (.int .u8) aE] bK
def aHE:Env:=(cts [(2000038,Ev.iq),(14,(⟨Qt,xZ⟩:Ct)),(29,(⟨acw,acB⟩:Ct)),(40,(⟨QL,H6⟩:Ct)),(82,(⟨avt,LZ⟩:Ct)),(83,(⟨avu,L5⟩:Ct))])
def aqx(o:Int×List Int×Wx×Int×Int×Int×Int×Int)(s:oG):Option fU :=
 zC (H6 (o,())) fun y=>if y.2.1=true then zC (xZ (s,y.1,())) fun y=>some (y.1,y.2.1,()) else if eqi (rem o.1 6) 1=true then zC (acB (s,o.2.1,())) fun y=>some (y.1,y.2.1,()) else if eqi (rem o.1 6) 3=true then zC (LZ (s,())) fun y=>some (y.1,[],()) else if eqi (rem o.1 6) 4=true then zC (L5 (s,())) fun y=>some (y.1,[],()) else some (s,[],())
def acY(x:As [.pr (.int .u8) bA,.pr (.int .u8) aE]):Option fU:=aqx x.1 x.2.1
theorem aHF:ak Tryz.prog (fun _=>True) 25 ⟨avD,acY⟩:=ctn (env:=aHE) (aj Ev.gI (aj abh (aj aG8 (aj avC (aj aHe (aj aHh bq)))))) 6 fun J x=>by kernel_rfl
end Go.Proofs.Lx
end
