/- Proved in the last of these 20 parts (this is part 8): SlaveTells. Conditions: those of the given statement, and no others. -/
import Derived.Test.YtkcmbampiiolbaaGreatParte
import Derived.Test.YtkcmbampiiolbaaGreatPartg
import Derived.Test.YtkcmbampiiolbaaGreatProg
set_option linter.unusedVariables false
set_option linter.unusedSimpArgs false
set_option linter.unusedSectionVars false
open Option renaming bind → zC, none → zH
open List renaming replicate → zE, length → zG
open Int renaming ofNat → zF, toNat → zI
open Go.Value renaming slice → zK
noncomputable section
open Go Go.Proofs Ev Sx
set_option maxRecDepth 100000
namespace Go.Proofs.Lx
abbrev nU:Type:=List Int×(Int×Int)×Int×Int×Int×pO×Int
abbrev mW:Type:=Int×Int×Int×Int×List Int×List Bool
@[reducible] def aoI:Sh:=shD [.pr gW aA,.bool] [.bool]
def aoJ:Env:=(cts [])
def aoK:List (Nat×Hint):=[(122,⟨[],[1,2,5,13,14,15,24,25,26,27,28,29,32,33,34,37,38,39,40,41,42,43,44,45,49,50]⟩),(31334,⟨[.agd 50 .bool],[1,2,7,13,14,15,51]⟩),(15666,⟨[.agd 25 (.int .i64),.agd 27 aA,.agd 28 (.int .i64),.agd 29 .bool,.agd 33 (.int .i64),.agd 34 .bool,.agd 38 (.int .i64),.agd 40 aA,.agd 41 (.int .i64),.agd 43 (.int .i64),.agd 44 (.int .i64),.agd 45 .bool],[1,2,7,13,14,15,46]⟩)]
@[reducible] def zH0:Type:=List dw×List Int
def Au(c:Bool)(b:Int)(d:List dw)(e f:Int)(a:zH0):St:=⟨[(1,dB c),(2,.pb 0 0),(5,dI b),(13,.d gW d),(14,dI e),(15,dI f)],58,[],[(0,.box 172 [.d gW a.1,dW a.2])],1,[],0⟩
@[reducible] def zH1:Type:=Int×Int×Bool×Bool×Bool
def aoL(c:Bool)(d:List dw)(e f:Int)(g:Bool)(b:zH0)(a:zH1):St:=⟨[(1,dB c),(2,.pb 0 0),(7,.pb 1 0),(13,.d gW d),(14,dI e),(15,dI f),(46,dB g)],58,[],[(0,.box 172 [.d gW b.1,dW b.2]),(1,.box 168 [dI a.1,dI a.2.1,dB a.2.2.1,dB a.2.2.2.1,dB a.2.2.2.2])],2,[],0⟩
def aoM(c:Bool)(d:List dw)(e f:Int)(g:Bool)(b:zH0)(a:zH1):St:=⟨[(1,dB c),(2,.pb 0 0),(7,.pb 1 0),(13,.d gW d),(14,dI e),(15,dI f),(51,dB g)],58,[],[(0,.box 172 [.d gW b.1,dW b.2]),(1,.box 168 [dI a.1,dI a.2.1,dB a.2.2.1,dB a.2.2.2.1,dB a.2.2.2.2])],2,[],0⟩
@[reducible] def zH2:Type:=Bool->List dw->Int->Int->Bool->List dw×List Int->Int×Int×Bool×Bool×Bool->Option aD
@[reducible] def zH3:Type:=Bool->Int->List dw->Int->Int->List dw×List Int->Option aD
def PZ(g:zH2)(i:zH3)(f:Bool)(h:Int)(d:List dw)(e c:Int)(b:zH0):Option aD :=
 if lt c e=true then zC (at? d c) fun a=>if lt a.1 h=true then g f d e c true b a else if gt a.1 (zF (zG b.2))=true then g f d e c true b a else if lt a.2.1 1=true then g f d e c true b a else g f d e c (gt a.2.1 (Sx.sub .i64 (zF (zG b.2)) a.1)) b a else some (true,())
def aoN(c:zH2)(i:zH3)(a:Bool)(e:List dw)(f g:Int)(h:Bool)(d:zH0)(b:zH1):Option aD :=
 if h=true then some (false,()) else if a=true then c a e f g b.2.2.2.1 d b else c a e f g false d b
def aoO(c:zH3)(b:Bool)(e:List dw)(f g:Int)(h:Bool)(d:zH0)(a:zH1):Option aD :=
 if h=true then some (false,()) else c b (add .i64 a.1 a.2.1) e f (add .i64 g 1) d
def Zf(c:zH3)(a:zH0)(b:Bool):Option aD :=
 if gt (zF (zG a.2)) 65536=true then some (false,()) else c b 0 a.1 (zF (zG a.1)) 0 a
def Zg(a:zH3):=aoO a
def Zh(a:zH3):=aoN (Zg a) a
def GY(c:Bool)(b:Int)(e:List dw)(f g:Int)(d:zH0):Option aD :=
 ay (fun h a=>PZ (Zh (fun c b e f g d=>h (c,b,e,f,g,d))) (fun c b e f g d=>h (c,b,e,f,g,d)) a.1 a.2.1 a.2.2.1 a.2.2.2.1 a.2.2.2.2.1 a.2.2.2.2.2) 18446744073709551616 (c,b,e,f,g,d)
def Zi(x:As [.pr gW aA,.bool]):Option aD:=Zf GY x.1 x.2.1
abbrev pCh:=zp aoJ aoK 119 aoI
theorem aDZ{J w1 a b c d e f g}:pCh J 31334 [w1] (aoM a b c d e f g)=aoO (C w1 Au) a b c d e f g:=by kernel_rfl
theorem aD0{J w1 a b c d e f g}:pCh J 15666 [w1] (aoL a b c d e f g)=aoN (C (J 31334 [w1]) aoM) (C w1 Au) a b c d e f g:=by kernel_rfl
theorem aD1{J w1 a b c d e f}:pCh J 122 [w1] (Au a b c d e f)=PZ (C (J 15666 [w1]) aoL) (C w1 Au) a b c d e f:=by kernel_rfl
abbrev pCg:=zj aoJ aoK 119 aoI
theorem aD2{w1}:C (pCg 31334 [w1]) aoM=Zg (C w1 Au):=gNC (by decide) fun _=>aDZ
theorem aD3{w1}:C (pCg 15666 [w1]) aoL=Zh (C w1 Au):=gNC (by decide) fun _=>aD0.trans (by rw[aD2]<;>kernel_rfl)
theorem aD4:C (pCg 122 []) Au=GY:=gLC (by decide) (by kernel_rfl) (fun _=>by unfold GY;rfl) fun _ _=>aD1.trans (by rw[aD3]<;>kernel_rfl)
theorem aD5:ak Tryz.prog (fun _=>True) 119 ⟨aoI,Zi⟩:=zcc (env:=aoJ) (d:=6) (hs:=Ev.get aoK) bq (fun J x=>Zf (C (J 122 []) Au) x.1 x.2.1) (fun _ _=>by kernel_rfl) fun _=>by rw[aD4]<;>rfl
@[reducible] def zH4:Type:=List Bool×List Bool×List Int×List Int
@[reducible] def auF:Sh:=shD eR [.bool]
def Zj(c:List dw×List dw×List dw×List dw)(b:zH4):Option aD :=
 zC (Gy (c,b,())) fun a=>zC (Ze (a.1.1,false,())) fun d=>if d.1=true then zC (Ze (a.1.2.1,true,())) fun e=>if e.1=true then zC (Zi (a.1.2.2.1,false,())) fun f=>if f.1=true then zC (Zi (a.1.2.2.2,true,())) fun a=>some (a.1,()) else some (false,()) else some (false,()) else some (false,())
def Lm(x:As eR):Option aD:=Zj x.1 x.2.1
theorem aD6:ak Tryz.prog (fun _=>True) 50 ⟨auF,Lm⟩:=ctn (aj auk (aj aDY (aj aD5 bq))) 6 fun J x=>by kernel_rfl
@[reducible] def aoP:Sh:=shD [.sl .bool] [.sl .bool]
def aoQ(s:List Bool):Option cM :=
 if eqi (zF (zG s)) 0=true then amb (av aoP.rs) [some ([],()),need (small (0+zG s)) (some (s,()))] else need (small (0+zG s)) (some (s,()))
def GZ(x:As [.sl .bool]):Option cM:=aoQ x.1
theorem aD7:ak Tryz.prog (fun _=>True) 130 ⟨aoP,GZ⟩:=ctn bq 6 fun J x=>by kernel_rfl
@[reducible] def Zk:Sh:=⟨[.d (.sl (.bool))],[],[.sl (.bool)],[.row 0],[(0,.row (.bool) 4)],1,[.sl (.bool)]⟩
def aoR(s:List Bool):Option cM :=
 if eqi (zF (zG s)) 0=true then amb (av Zk.rs) [some ([],()),need (small (0+zG s)) (some (s,()))] else need (small (0+zG s)) (some (s,()))
def DC(x:As [.sl .bool]):Option cM:=aoR x.1
theorem aAc:ak Tryz.prog (fun _=>True) 130 ⟨Zk,DC⟩:=ctn bq 6 fun J x=>by kernel_rfl
def aD8(a:zH4):Option cQ :=
 zC (GZ (a.1,())) fun b=>zC (GZ (a.2.1,())) fun c=>zC (oO (a.2.2.1,())) fun d=>zC (oO (a.2.2.2,())) fun e=>some ((b.1,c.1,d.1,e.1),())
def aD9(x:As cS):Option cQ:=aD8 x.1
@[reducible] def aEa:Sh:=shD [.pr gW (.sl .bool),.int .i64,.int .i64,.int .i64] [.sl .bool]
def aoS(e:List dw×List Bool)(c b a:Int):Option cM :=
 need (nei a 0) (need (ge (mul .i64 (quo .i64 (Sx.sub .i64 (add .i64 b a) 1) a) a) 0) (need (Ev.jC (mul .i64 (quo .i64 (Sx.sub .i64 (add .i64 b a) 1) a) a) (mul .i64 (quo .i64 (Sx.sub .i64 (add .i64 b a) 1) a) a)) (need (small (zI (mul .i64 (quo .i64 (Sx.sub .i64 (add .i64 b a) 1) a) a))) (zC (cut e.2 c (add .i64 c b)) fun d=>need (le (zF (0+zG (zE (zI (mul .i64 (quo .i64 (Sx.sub .i64 (add .i64 b a) 1) a) a)) false))) (zF (zG (zE (zI (mul .i64 (quo .i64 (Sx.sub .i64 (add .i64 b a) 1) a) a)) false)))) (some (List.take (zI (zF (zG (zE (zI (mul .i64 (quo .i64 (Sx.sub .i64 (add .i64 b a) 1) a) a)) false)))) d++List.drop (0+zG (List.take (zI (zF (zG (zE (zI (mul .i64 (quo .i64 (Sx.sub .i64 (add .i64 b a) 1) a) a)) false)))) d)) (zE (zI (mul .i64 (quo .i64 (Sx.sub .i64 (add .i64 b a) 1) a) a)) false),()))))))
def Zl(x:As [.pr gW (.sl .bool),.int .i64,.int .i64,.int .i64]):Option cM:=aoS x.1 x.2.1 x.2.2.1 x.2.2.2.1
theorem aEb:ak Tryz.prog (fun _=>True) 199 ⟨aEa,Zl⟩:=ctn bq 6 fun J x=>by kernel_rfl
@[reducible] def aEc:Sh:=shD [.pr gW aA,.int .i64,.int .i64,.int .i64] aM
def aoT(e:zH0)(c b a:Int):Option bU :=
 need (nei a 0) (need (ge (mul .i64 (quo .i64 (Sx.sub .i64 (add .i64 b a) 1) a) a) 0) (need (Ev.jC (mul .i64 (quo .i64 (Sx.sub .i64 (add .i64 b a) 1) a) a) (mul .i64 (quo .i64 (Sx.sub .i64 (add .i64 b a) 1) a) a)) (need (small (zI (mul .i64 (quo .i64 (Sx.sub .i64 (add .i64 b a) 1) a) a))) (zC (cut e.2 c (add .i64 c b)) fun d=>need (le (zF (0+zG (zE (α:=Int) (zI (mul .i64 (quo .i64 (Sx.sub .i64 (add .i64 b a) 1) a) a)) 0))) (zF (zG (zE (α:=Int) (zI (mul .i64 (quo .i64 (Sx.sub .i64 (add .i64 b a) 1) a) a)) 0)))) (some (List.take (zI (zF (zG (zE (α:=Int) (zI (mul .i64 (quo .i64 (Sx.sub .i64 (add .i64 b a) 1) a) a)) 0)))) d++List.drop (0+zG (List.take (zI (zF (zG (zE (α:=Int) (zI (mul .i64 (quo .i64 (Sx.sub .i64 (add .i64 b a) 1) a) a)) 0)))) d)) (zE (zI (mul .i64 (quo .i64 (Sx.sub .i64 (add .i64 b a) 1) a) a)) 0),()))))))
def Zm(x:As [.pr gW aA,.int .i64,.int .i64,.int .i64]):Option bU:=aoT x.1 x.2.1 x.2.2.1 x.2.2.2.1
theorem aEd:ak Tryz.prog (fun _=>True) 200 ⟨aEc,Zm⟩:=ctn bq 6 fun J x=>by kernel_rfl
@[reducible] def aAd:Sh:=shD [.pr dE cN,.int .i64,.pr (.int .u8) mK] bC
def aoU(v:eZ×eZ×(List dw×List Int)×List dw×List Int)(p:Int)(a:mW):Option dJ :=
 if eqi p 1=true then zC (Zl (v.1,cvt .i64 a.2.1,cvt .i64 a.2.2.1,8,())) fun y=>some ((a.1,0,y.1,[],0,0),()) else if eqi p 2=true then zC (Zl (v.2.1,cvt .i64 a.2.1,cvt .i64 a.2.2.1,8,())) fun y=>some ((a.1,0,y.1,[],0,0),()) else if eqi p 3=true then zC (Zm (v.2.2.1,cvt .i64 a.2.1,cvt .i64 a.2.2.1,1,())) fun y=>some ((a.1,0,[],y.1,0,0),()) else if eqi p 4=true then zC (Zm (v.2.2.2,cvt .i64 a.2.1,cvt .i64 a.2.2.1,1,())) fun y=>some ((a.1,0,[],y.1,0,0),()) else some ((a.1,0,[],[],0,0),())
def P4(x:As [.pr dE cN,.int .i64,.pr (.int .u8) mK]):Option dJ:=aoU x.1 x.2.1 x.2.2.1
theorem aEe:ak Tryz.prog (fun _=>True) 173 ⟨aAd,P4⟩:=ctn (aj aEb (aj aEd bq)) 6 fun J x=>by kernel_rfl
@[reducible] def dK:List Ty:=[.pr (.sl .bool) uN,.pr (.int .u8) pP]
@[reducible] def Zn:Sh:=shD [.pr gW bY,.pr (.sl .bool) uN,.pr (.int .u8) mK] dK
def Zo:Env:=(cts [(50,(⟨auF,Lm⟩:Ct)),(54,(⟨PO,Dw⟩:Ct)),(68,(⟨PW,xQ⟩:Ct)),(120,(⟨YC,ko⟩:Ct)),(124,(⟨Yb,Gz⟩:Ct)),(126,(⟨anJ,Dm⟩:Ct)),(130,(⟨Zk,DC⟩:Ct)),(131,(⟨Wz,Dh⟩:Ct)),(173,(⟨aAd,P4⟩:Ct))])
def Zp:List (Nat×Hint):=[(255,⟨[],[5,6,7,8,10,11]⟩)]
def Zq(a:mW)(g h i j:Int)(c d:List Bool)(e f:List Int)(k l m n:List dw)(b:Int×Int):St:=⟨[(5,.pb 0 0),(6,.pb 1 0),(7,.pb 2 0),(8,.pb 3 0),(10,.pb 8 0),(11,.pb 9 0)],79,[],[(0,.box 44 [d8 a.1,d6 a.2.1,d6 a.2.2.1,d6 a.2.2.2.1,dW a.2.2.2.2.1,.d (.sl .bool) a.2.2.2.2.2]),(1,.box 96 [.k (zK zH 0 0),.k (zK zH 0 0),.k (zK zH 0 0),.k (zK zH 0 0)]),(2,.box 46 [d8 g,d8 h,.k (zK zH 0 0),.k (zK zH 0 0),d6 i,d6 j]),(3,.box 96 [.row 4,.row 5,.row 6,.row 7]),(4,.row .bool 4 c),(5,.row .bool 4 d),(6,.row (.int .u16) 23 e),(7,.row (.int .u16) 23 f),(8,.box 174 [.d gW k,.row 4,.d gW l,.row 5,.d gW m,.row 6,.d gW n,.row 7]),(9,.box 183 [dI b.1,dI b.2])],10,[],0⟩
def auG(f:mW)(l m n o:Int)(b c:List Bool)(d e:List Int)(h i j k:List dw)(g:Int×Int):Option (As dK) :=
 zC (xQ (f,())) fun a=>if a.2.1=true then some ((b,c,d,e),a.1,()) else zC (P4 (((h,b),(i,c),(j,d),k,e),g.1,f,())) fun a=>some ((b,c,d,e),a.1,())
def Lr(j:mW->Int->Int->Int->Int->List Bool->List Bool->List Int->List Int->List dw->List dw->List dw->List dw->Int×Int->Option (As dK))(b:List dw×List dw×List dw×List dw)(g:zH4)(e:mW):Option (As dK) :=
 zC (DC (g.1,())) fun c=>zC (DC (g.2.1,())) fun h=>zC (Dh (g.2.2.1,())) fun d=>zC (Dh (g.2.2.2,())) fun i=>zC (Dw (b,e,())) fun l=>if nei l.1 0=true then zC (ko (e.1,l.1,())) fun k=>some ((c.1,h.1,d.1,i.1),k.1,()) else zC (Lm (b,g,())) fun k=>if (!k.1)=true then zC (ko (e.1,4,())) fun f=>some ((c.1,h.1,d.1,i.1),f.1,()) else zC (Gz (e.1,())) fun f=>zC (Dm (e,())) fun a=>if eqi f.1.2 1=true then need (ge a.1 0) (need (le a.1 (zF (zG c.1))) (need (le (zF (zG c.1)) (zF (zG c.1))) (need (le (a.1+(zF (zG c.1) - a.1)) (zF (zG c.1))) (j e 0 0 0 0 (List.take (zI a.1) c.1++List.take (zI (zF (zG c.1) - a.1)) e.2.2.2.2.2++List.drop (zI a.1+zG (List.take (zI (zF (zG c.1) - a.1)) e.2.2.2.2.2)) c.1) h.1 d.1 i.1 b.1 b.2.1 b.2.2.1 b.2.2.2 f.1)))) else if eqi f.1.2 3=true then need (ge a.1 0) (need (le a.1 (zF (zG d.1))) (need (le (zF (zG d.1)) (zF (zG d.1))) (need (le (a.1+(zF (zG d.1) - a.1)) (zF (zG d.1))) (j e 0 0 0 0 c.1 h.1 (List.take (zI a.1) d.1++List.take (zI (zF (zG d.1) - a.1)) e.2.2.2.2.1++List.drop (zI a.1+zG (List.take (zI (zF (zG d.1) - a.1)) e.2.2.2.2.1)) d.1) i.1 b.1 b.2.1 b.2.2.1 b.2.2.2 f.1)))) else j e 0 0 0 0 c.1 h.1 d.1 i.1 b.1 b.2.1 b.2.2.1 b.2.2.2 f.1
def P5:=auG
def kL(x:As [.pr gW bY,.pr (.sl .bool) uN,.pr (.int .u8) mK]):Option (As dK):=Lr P5 x.1 x.2.1 x.2.2.1
abbrev pB3:=zp Zo Zp 122 Zn
theorem aEf{J a b c d e f g h i j k l m n}:pB3 J 255 [] (Zq a b c d e f g h i j k l m n)=auG a b c d e f g h i j k l m n:=by kernel_rfl
abbrev pB2:=zj Zo Zp 122 Zn
theorem aEg:C (pB2 255 []) Zq=P5:=gNC (by decide) fun _=>aEf
theorem aEh:ak Tryz.prog (fun _=>True) 122 ⟨Zn,kL⟩:=zcc (env:=Zo) (d:=6) (hs:=Ev.get Zp) (aj aD6 (aj aut (aj auE (aj YD (aj aul (aj aum (aj aAc (aj az4 (aj aEe bq))))))))) (fun J x=>Lr (C (J 255 []) Zq) x.1 x.2.1 x.2.2.1) (fun _ _=>by kernel_rfl) fun _=>by rw[aEg]<;>rfl
@[reducible] def mX:Sh:=shD [.pr (.int .u8) aE,.pr (.int .u8) mK] bC
def aoV:Env:=(cts [(2000038,Ev.iq),(47,(⟨fu,oV⟩:Ct)),(49,(⟨O3,uh⟩:Ct)),(68,(⟨PW,xQ⟩:Ct)),(122,(⟨Zn,kL⟩:Ct))])
def aoW:List (Nat×Hint):=[(15,⟨[],[2,3,4,7]⟩),(31,⟨[],[3,4,9]⟩)]
def aoX(f:Int×Int×jS×List Bool)(a:mW)(g h i j b c d e:Int):St:=⟨[(2,.pe cW f),(3,.pb 0 0),(4,.pb 1 0),(7,.pb 2 0)],40,[],[(0,.box 44 [d8 a.1,d6 a.2.1,d6 a.2.2.1,d6 a.2.2.2.1,dW a.2.2.2.2.1,.d (.sl .bool) a.2.2.2.2.2]),(1,.box 46 [d8 g,d8 h,.k (zK zH 0 0),.k (zK zH 0 0),d6 i,d6 j]),(2,.box 44 [d8 b,d6 c,d6 d,d6 e,.k (zK zH 0 0),.k (zK zH 0 0)])],3,[],0⟩
def aoY(a:mW)(c d e f:Int)(b:Int×Int×List Bool×List Int×Int×Int):St:=⟨[(3,.pb 0 0),(4,.pb 1 0),(9,.pb 2 0)],40,[],[(0,.box 44 [d8 a.1,d6 a.2.1,d6 a.2.2.1,d6 a.2.2.2.1,dW a.2.2.2.2.1,.d (.sl .bool) a.2.2.2.2.2]),(1,.box 46 [d8 c,d8 d,.k (zK zH 0 0),.k (zK zH 0 0),d6 e,d6 f]),(2,.box 46 [d8 b.1,d8 b.2.1,.d (.sl .bool) b.2.2.1,dW b.2.2.2.1,d6 b.2.2.2.2.1,d6 b.2.2.2.2.2])],3,[],0⟩
def Zr(d:mW->Int->Int->Int->Int->Int×Int×List Bool×List Int×Int×Int->Option dJ)(m:Int×Int×jS×List Bool)(c:mW)(e f g h i j k l:Int):Option dJ :=
 let A:=amb (av mX.rs) [zC (uh ()) fun a=>amb (av mX.rs) [zC (oV (m,())) fun b=>let A:=zC (kL (a.1,b.1,(i,j,k,l,[],[]),())) fun a=>d c e f g h a.2.1; amb (av mX.rs) [A,A],zC (oV (m,())) fun b=>zC (kL (a.1,b.1,(i,j,k,l,[],[]),())) fun a=>d c e f g h a.2.1],zC (uh ()) fun a=>zC (oV (m,())) fun b=>zC (kL (a.1,b.1,(i,j,k,l,[],[]),())) fun a=>d c e f g h a.2.1];
 amb (av mX.rs) [zC (uh ()) fun a=>let A:=amb (av mX.rs) [zC (oV (m,())) fun b=>let A:=zC (kL (a.1,b.1,(i,j,k,l,[],[]),())) fun a=>d c e f g h a.2.1; amb (av mX.rs) [A,A],zC (oV (m,())) fun b=>zC (kL (a.1,b.1,(i,j,k,l,[],[]),())) fun a=>d c e f g h a.2.1]; amb (av mX.rs) [zC (oV (m,())) fun b=>let A:=zC (kL (a.1,b.1,(i,j,k,l,[],[]),())) fun a=>d c e f g h a.2.1; let B:=amb (av mX.rs) [A,A]; amb (av mX.rs) [zC (kL (a.1,b.1,(i,j,k,l,[],[]),())) fun a=>let A:=d c e f g h a.2.1; amb (av mX.rs) [A,A],amb (av mX.rs) [B,B]],amb (av mX.rs) [A,A]],amb (av mX.rs) [A,A]]
def auH(a:mW)(c d e f:Int)(b:Int×Int×List Bool×List Int×Int×Int):Option dJ :=
 some ((a.1,b.2),())
def Zs(b:Int×Int×jS×List Bool->mW->Int->Int->Int->Int->Int->Int->Int->Int->Option dJ)(c:Int×Int×jS×List Bool)(a:mW):Option dJ :=
 zC (xQ (a,())) fun d=>if d.2.1=true then some (d.1,()) else if eqi a.1 23=true then b c a 0 0 0 0 3 a.2.1 a.2.2.1 0 else b c a 0 0 0 0 a.1 a.2.1 a.2.2.1 0
def aoZ:=auH
def Zt:=Zr (aoZ)
def nJ(x:As [.pr (.int .u8) aE,.pr (.int .u8) mK]):Option dJ:=Zs Zt x.1 x.2.1
abbrev pF3:=zp aoV aoW 129 mX
theorem aEi{J a b c d e f}:pF3 J 31 [] (aoY a b c d e f)=auH a b c d e f:=by kernel_rfl
theorem aEj{J a b c d e f g h i j}:pF3 J 15 [] (aoX a b c d e f g h i j)=Zr (C (J 31 []) aoY) a b c d e f g h i j:=by kernel_rfl
abbrev pF2:=zj aoV aoW 129 mX
theorem aEk:C (pF2 31 []) aoY=aoZ:=gNC (by decide) fun _=>aEi
theorem aEl:C (pF2 15 []) aoX=Zt:=gNC (by decide) fun _=>aEj.trans (by rw[aEk]<;>kernel_rfl)
theorem aEm:ak Tryz.prog (fun _=>True) 129 ⟨mX,nJ⟩:=zcc (env:=aoV) (d:=6) (hs:=Ev.get aoW) (aj Ev.gI (aj auA (aj aub (aj auE (aj aEh bq))))) (fun J x=>Zs (C (J 15 []) aoX) x.1 x.2.1) (fun _ _=>by kernel_rfl) fun _=>by rw[aEl]<;>rfl
@[reducible] def eG:List Ty:=[.pr (.int .u16) Gm,.int .i64]
@[reducible] def Zu:Sh:=shD aM eG
def ao0:Env:=(cts [(81,(⟨Xy,Dk⟩:Ct))])
def ao1:List (Nat×Hint):=[(6,⟨[],[0,2,18]⟩)]
@[reducible] def zH5:Type:=Int×Int×Int×Int×Int
def Zv(c:List Int)(b:Bool)(a:zH5):St:=⟨[(0,dW c),(2,.pb 0 0),(18,dB b)],45,[],[(0,.box 61 [d6 a.1,d8 a.2.1,d2 a.2.2.1,d6 a.2.2.2.1,d2 a.2.2.2.2])],1,[],0⟩
def Zw(a:List Int)(b:Bool)(l:zH5):Option (As eG) :=
 if b=true then some ((0,0,0,0,0),2,()) else zC (at? a 0) fun c=>zC (at? a 1) fun d=>zC (at? a 2) fun e=>zC (at? a 3) fun f=>zC (at? a 4) fun g=>zC (at? a 5) fun h=>zC (at? a 6) fun i=>zC (Dk (e,f,())) fun j=>zC (Dk (h,i,())) fun k=>some ((c,cvt .u8 d,j.1,g,k.1),0,())
def Zx(b:List Int->Bool->Int×Int×Int×Int×Int->Option (As eG))(a:List Int):Option (As eG) :=
 if nei (zF (zG a)) 8=true then b a true (0,0,0,0,0) else zC (at? a 7) fun c=>if nei c 0=true then b a true (0,0,0,0,0) else zC (at? a 1) fun c=>b a (ge c 256) (0,0,0,0,0)
def Zy:=Zw
def G4(x:As aM):Option (As eG):=Zx Zy x.1
abbrev pAd:=zp ao0 ao1 203 Zu
theorem aEn{J a b c}:pAd J 6 [] (Zv a b c)=Zw a b c:=by kernel_rfl
abbrev pAc:=zj ao0 ao1 203 Zu
theorem aEo:C (pAc 6 []) Zv=Zy:=gNC (by decide) fun _=>aEn
theorem aEp:ak Tryz.prog (fun _=>True) 203 ⟨Zu,G4⟩:=zcc (env:=ao0) (d:=6) (hs:=Ev.get ao1) (aj atZ bq) (fun J x=>Zx (C (J 6 []) Zv) x.1) (fun _ _=>by kernel_rfl) fun _=>by rw[aEo]<;>rfl
@[reducible] def Zz:Sh:=shD bJ bJ
def ZA:Env:=(cts [(131,(⟨OH,oO⟩:Ct))])
def ZB:List (Nat×Hint):=[(58,⟨[],[1,2,12,13]⟩),(7475,⟨[.frb 5],[1,2,3,5,12,13]⟩)]
def G5(a e:Int)(c:List Bool)(d:Int)(b f:List jS):St:=⟨[(1,.prw 0 a 32 0),(2,.prw 1 e 32 0),(12,.d bP c),(13,dI d)],41,[],[(0,.row aO 35 b),(1,.row aO 35 f)],2,[],0⟩
def ZC(b g d:Int)(e:List Bool)(f:Int)(c h:List jS)(a:Int×List Int):St:=⟨[(1,.prw 0 b 32 0),(2,.prw 1 g 32 0),(3,dI d),(5,.pb 2 0),(12,.d bP e),(13,dI f)],41,[],[(0,.row aO 35 c),(1,.row aO 35 h),(2,.box 30 [dI a.1,dW a.2])],3,[],0⟩
@[reducible] def dD:Type:=As bJ
@[reducible] def zH6:Type:=Int->Int->List Bool->Int->List jS->List jS->Option dD
def G6(h:Int->Int->Int->List Bool->Int->List jS->List jS->Int×List Int->Option dD)(k:zH6)(d c:Int)(g:List Bool)(a:Int)(e f:List jS):Option dD :=
 if lt a 8=true then need (lt a 8) (zC (at? g a) fun b=>if b=true then need (ge a 0) (need (lt a 8) (zC (at? e d) fun b=>zC (at? b.2.2.2.2.2.1.2.2 a) fun i=>need (ge a 0) (need (lt a 8) (zC (at? e d) fun b=>zC (at? b.2.2.2.2.2.1.2.2 a) fun j=>zC (oO (j.2,())) fun b=>h d c a g a e f (i.1,b.1))))) else h d c a g a e f (0,[])) else zC (at? e d) fun b=>zC (at? f c) fun l=>zC (at? (List.set f (zI c) b) c) fun m=>zC (at? (List.set f (zI c) b) c) fun b=>some (b,())
def ZD(e:zH6)(c h b:Int)(f:List Bool)(g:Int)(d i:List jS)(j:Int×List Int):Option dD :=
 need (ge b 0) (need (lt b 8) (zC (at? d c) fun a=>zC (at? a.2.2.2.2.2.1.2.2 b) fun k=>e c h f (add .i64 g 1) (List.set d (zI c) (a.1,a.2.1,a.2.2.1,a.2.2.2.1,a.2.2.2.2.1,(a.2.2.2.2.2.1.1,a.2.2.2.2.2.1.2.1,List.set a.2.2.2.2.2.1.2.2 (zI b) j),a.2.2.2.2.2.2)) i))
def ZE(b:zH6)(a:nU):Option dD :=
 zC (oO (a.1,())) fun c=>b 0 0 a.2.2.2.2.2.1.2.1 0 [(c.1,a.2)] [gF]
def P6(a:zH6):=ZD a
def G7(b f:Int)(d:List Bool)(e:Int)(c g:List jS):Option dD :=
 ay (fun h a=>G6 (P6 (fun b f d e c g=>h (b,f,d,e,c,g))) (fun b f d e c g=>h (b,f,d,e,c,g)) a.1 a.2.1 a.2.2.1 a.2.2.2.1 a.2.2.2.2.1 a.2.2.2.2.2) 18446744073709551616 (b,f,d,e,c,g)
def DF(x:As bJ):Option dD:=ZE G7 x.1
abbrev pAl:=zp ZA ZB 178 Zz
theorem aEq{J w1 a b c d e f g h}:pAl J 7475 [w1] (ZC a b c d e f g h)=ZD (C w1 G5) a b c d e f g h:=by kernel_rfl
theorem aEr{J w1 a b c d e f}:pAl J 58 [w1] (G5 a b c d e f)=G6 (C (J 7475 [w1]) ZC) (C w1 G5) a b c d e f:=by kernel_rfl
abbrev pAk:=zj ZA ZB 178 Zz
theorem aEs{w1}:C (pAk 7475 [w1]) ZC=P6 (C w1 G5):=gNC (by decide) fun _=>aEq
theorem aEt:C (pAk 58 []) G5=G7:=gLC (by decide) (by kernel_rfl) (fun _=>by unfold G7;rfl) fun _ _=>aEr.trans (by rw[aEs]<;>kernel_rfl)
theorem ZF:ak Tryz.prog (fun _=>True) 178 ⟨Zz,DF⟩:=zcc (env:=ZA) (d:=6) (hs:=Ev.get ZB) (aj OI bq) (fun J x=>ZE (C (J 58 []) G5) x.1) (fun _ _=>by kernel_rfl) fun _=>by rw[aEt]<;>rfl
@[reducible] def fW:List Ty:=[.pr aA qL,.int .u16]
@[reducible] def auI:Sh:=shD fW [.bool]
def aEu:Env:=(cts [(2000035,Ev.iq),(113,(⟨Dy,oU⟩:Ct))])
def ao2(a:nU)(b:Int):Option aD :=
 zC (oU (a.2.1,())) fun c=>if (!c.1)=true then some (nei a.2.1.1 b,()) else some (false,())
def rZ(x:As fW):Option aD:=ao2 x.1 x.2.1
theorem auJ:ak Tryz.prog (fun _=>True) 214 ⟨auI,rZ⟩:=ctn (env:=aEu) (aj Ev.gI (aj GM bq)) 6 fun J x=>by kernel_rfl
@[reducible] def bG:List Ty:=[.pr aA qL,.pr (.int .u16) Gm]
@[reducible] def aEv:Sh:=shD bG [.bool]
def aEw:Env:=(cts [(2000035,Ev.iq)])
def ao3(a:nU)(c:zH5):Option aD :=
 if le c.2.2.1 a.2.2.2.2.1=true then some (true,()) else if nei a.2.2.1 0=true then some (lt c.2.2.1 a.2.2.2.1,()) else some (false,())
def ZG(x:As bG):Option aD:=ao3 x.1 x.2.1
theorem aEx:ak Tryz.prog (fun _=>True) 219 ⟨aEv,ZG⟩:=ctn (env:=aEw) (aj Ev.gI bq) 6 fun J x=>by kernel_rfl
@[reducible] def auK:Sh:=shD bJ bJ
def aEy(a:nU):Option dD :=
 some ((a.1,(0,0),0,0,a.2.2.2.2.1,zSt,a.2.2.2.2.2.2),())
def Av(x:As bJ):Option dD:=aEy x.1
theorem P7:ak Tryz.prog (fun _=>True) 180 ⟨auK,Av⟩:=ctn bq 6 fun J x=>by kernel_rfl
@[reducible] def cH:List Ty:=[.pr (.int .u16) (.int .i64),.int .i64]
@[reducible] def ao4:Sh:=shD [.pr (.int .u16) (.int .i64),.int .u16,.int .i64] cH
def ao5:Env:=(cts [(113,(⟨Dy,oU⟩:Ct)),(167,(⟨aon,Aq⟩:Ct)),(207,(⟨YH,xO⟩:Ct))])
def ao6:List (Nat×Hint):=[(30,⟨[],[1,2,3,6,25]⟩),(14,⟨[],[1,2,3,6,15,21,22,23,24]⟩)]
def ZH(c e:Int)(d:Bool)(a b:Int×Int):St:=⟨[(1,d6 c),(2,dI e),(3,.pb 0 0),(6,.pb 1 0),(15,dB d)],35,[],[(0,.box 27 [d6 a.1,dI a.2]),(1,.box 27 [d6 b.1,dI b.2])],2,[],0⟩
def ZI(c e:Int)(d:Bool)(a b:Int×Int):St:=⟨[(1,d6 c),(2,dI e),(3,.pb 0 0),(6,.pb 1 0),(25,dB d)],35,[],[(0,.box 27 [d6 a.1,dI a.2]),(1,.box 27 [d6 b.1,dI b.2])],2,[],0⟩
@[reducible] def zH7:Type:=Int->Int->Bool->Int×Int->Int×Int->Option (As cH)
def ZJ(c:zH7)(b e:Int)(f:Bool)(a d:Int×Int):Option (As cH) :=
 if f=true then some (a,2,()) else zC (oU (a,())) fun g=>if (!g.1)=true then c b e (nei a.1 b) a d else c b e false a d
def ZK(b e:Int)(d:Bool)(a f:Int×Int):Option (As cH) :=
 if d=true then some (a,22,()) else zC (xO (b,())) fun c=>if (eqi a.1 c.1.1 && (eqi a.2 c.1.2 && true))=true then some (a,0,()) else some ((b,e),0,())
def ZL(c:zH7)(e:Int×Int)(a b:Int):Option (As cH) :=
 zC (Aq (e,())) fun d=>if eqi a 0=true then c a b true d.1 (0,0) else c a b (lt b 1) d.1 (0,0)
def ZM:=ZK
def ZN:=ZJ (ZM)
def ZO(x:As [.pr (.int .u16) (.int .i64),.int .u16,.int .i64]):Option (As cH):=ZL ZN x.1 x.2.1 x.2.2.1
abbrev pBj:=zp ao5 ao6 227 ao4
theorem aEz{J a b c d e}:pBj J 30 [] (ZI a b c d e)=ZK a b c d e:=by kernel_rfl
theorem aEA{J a b c d e}:pBj J 14 [] (ZH a b c d e)=ZJ (C (J 30 []) ZI) a b c d e:=by kernel_rfl
abbrev pBi:=zj ao5 ao6 227 ao4
theorem aEB:C (pBi 30 []) ZI=ZM:=gNC (by decide) fun _=>aEz
theorem aEC:C (pBi 14 []) ZH=ZN:=gNC (by decide) fun _=>aEA.trans (by rw[aEB]<;>kernel_rfl)
theorem aED:ak Tryz.prog (fun _=>True) 227 ⟨ao4,ZO⟩:=zcc (env:=ao5) (d:=6) (hs:=Ev.get ao6) (aj GM (aj YK (aj YI bq))) (fun J x=>ZL (C (J 14 []) ZH) x.1 x.2.1 x.2.2.1) (fun _ _=>by kernel_rfl) fun _=>by rw[aEC]<;>rfl
@[reducible] def auL:Sh:=shD fW bJ
def ao7(a:nU)(b:Int):Option dD :=
 zC (ZO (a.2.1,b,a.2.2.2.2.2.2,())) fun c=>some ((a.1,c.1,a.2.2),())
def DI(x:As fW):Option dD:=ao7 x.1 x.2.1
theorem auM:ak Tryz.prog (fun _=>True) 217 ⟨auL,DI⟩:=ctn (aj aED bq) 6 fun J x=>by kernel_rfl
@[reducible] def aEE:Sh:=shD bG bJ
def ZP(a:nU)(c:zH5):Option dD :=
 if eqi c.2.2.1 a.2.2.2.1=true then zC (DI (a,c.1,())) fun y=>some (y.1,()) else zC (Av (a,())) fun y=>zC (DI (y.1,c.1,())) fun y=>some ((y.1.1,y.1.2.1,1,c.2.2.1,y.1.2.2.2.2.1,(c.2.2.1,y.1.2.2.2.2.2.1.2),y.1.2.2.2.2.2.2),())
def Ls(x:As bG):Option dD:=ZP x.1 x.2.1
theorem aEF:ak Tryz.prog (fun _=>True) 220 ⟨aEE,Ls⟩:=ctn (aj P7 (aj auM bq)) 6 fun J x=>by kernel_rfl
@[reducible] def Lt:Sh:=shD [.pr aA qL,.int .u8,.int .u32] [.bool]
def aEG:Env:=(cts [(2000035,Ev.iq)])
def ZQ(a:nU)(b c:Int):Option aD :=
 if eqi a.2.2.1 b=true then some (eqi a.2.2.2.1 c,()) else some (false,())
def xR(x:As [.pr aA qL,.int .u8,.int .u32]):Option aD:=ZQ x.1 x.2.1 x.2.2.1
theorem ZR:ak Tryz.prog (fun _=>True) 215 ⟨Lt,xR⟩:=ctn (env:=aEG) (aj Ev.gI bq) 6 fun J x=>by kernel_rfl
@[reducible] def auN:Sh:=shD [.int .u32] [.int .u32]
def ZS(a:Int):Option aY :=
 if eqi (Sx.kK .u32 a 1) 1=true then some (Sx.iA .u32 (Sx.shr .u32 a 1) 3988292384,()) else some (Sx.shr .u32 a 1,())
def Fb(x:As [.int .u32]):Option aY:=ZS x.1
theorem aEH:ak Tryz.prog (fun _=>True) 206 ⟨auN,Fb⟩:=ctn bq 6 fun J x=>by kernel_rfl
@[reducible] def ZT:Sh:=shD [.int .u32,.int .u8] [.int .u32]
def ZU:Env:=(cts [(206,(⟨auN,Fb⟩:Ct))])
def ZV:List (Nat×Hint):=[(58,⟨[],[0,9]⟩)]
def Lu(a b:Int):St:=⟨[(0,d2 a),(9,dI b)],15,[],[],0,[],0⟩
def P8(c:Int->Int->Option aY)(a b:Int):Option aY :=
 if lt b 8=true then zC (Fb (a,())) fun d=>c d.1 (add .i64 b 1) else some (a,())
def auO(b:Int->Int->Option aY)(c a:Int):Option aY :=
 b (Sx.iA .u32 c (cvt .u32 a)) 0
def P9(a b:Int):Option aY :=
 ay (fun d c=>P8 (fun a b=>d (a,b)) c.1 c.2) 18446744073709551616 (a,b)
def Lv(x:As [.int .u32,.int .u8]):Option aY:=auO P9 x.1 x.2.1
abbrev pGx:=zp ZU ZV 177 ZT
theorem aEI{J w1 a b}:pGx J 58 [w1] (Lu a b)=P8 (C w1 Lu) a b:=by kernel_rfl
abbrev pGw:=zj ZU ZV 177 ZT
theorem aEJ:C (pGw 58 []) Lu=P9:=gLC (by decide) (by kernel_rfl) (fun _=>by unfold P9;rfl) fun _ _=>aEI.trans (by kernel_rfl)
theorem aEK:ak Tryz.prog (fun _=>True) 177 ⟨ZT,Lv⟩:=zcc (env:=ZU) (d:=6) (hs:=Ev.get ZV) (aj aEH bq) (fun J x=>auO (C (J 58 []) Lu) x.1 x.2.1) (fun _ _=>by kernel_rfl) fun _=>by rw[aEJ]<;>rfl
@[reducible] def ao8:Sh:=shD aI [.int .u32]
def ZW:Env:=(cts [(177,(⟨ZT,Lv⟩:Ct))])
def ZX:List (Nat×Hint):=[(7,⟨[],[3]⟩),(58,⟨[],[0,3,6,7]⟩)]
def ZY(a:List Int)(b c d:Int):St:=⟨[(0,dL a),(3,d2 b),(6,dI c),(7,dI d)],19,[],[],0,[],0⟩
def ZZ(a:Int):St:=⟨[(3,d2 a)],19,[],[],0,[],0⟩
def G8(f:Int->Option aY)(g:List Int->Int->Int->Int->Option aY)(c:List Int)(d e a:Int):Option aY :=
 if lt a e=true then zC (at? c a) fun b=>zC (Lv (d,b,())) fun b=>g c b.1 e (add .i64 a 1) else f d
def Z0(a:Int):Option aY :=
 some (zF (BitVec.toNat { toFin:=⟨4294967295 ^^^ BitVec.toNat { toFin:=⟨zI (a%4294967296),BitVec.ofInt._proof_1 (Go.IntKind.bits .u32) a⟩ },BitVec.xor._proof_1 (BitVec.ofInt (Go.IntKind.bits .u32) (if Go.IntKind.signed .u32=true then -1 else Go.IntKind.max .u32)) (BitVec.ofInt (Go.IntKind.bits .u32) a)⟩ } % 4294967296),())
def auP(b:List Int->Int->Int->Int->Option aY)(a:List Int):Option aY :=
 b a 4294967295 (zF (zG a)) 0
def auQ:=Z0
def Qa(b:List Int)(c d e:Int):Option aY :=
 ay (fun f a=>G8 (auQ) (fun b c d e=>f (b,c,d,e)) a.1 a.2.1 a.2.2.1 a.2.2.2) 18446744073709551616 (b,c,d,e)
def Z4(x:As aI):Option aY:=auP Qa x.1
abbrev pGz:=zp ZW ZX 134 ao8
theorem aEL{J a}:pGz J 7 [] (ZZ a)=Z0 a:=by kernel_rfl
theorem aEM{J w1 a b c d}:pGz J 58 [w1] (ZY a b c d)=G8 (C (J 7 []) ZZ) (C w1 ZY) a b c d:=by kernel_rfl
abbrev pGy:=zj ZW ZX 134 ao8
theorem aEN:C (pGy 7 []) ZZ=auQ:=gNC (by decide) fun _=>aEL
theorem aEO:C (pGy 58 []) ZY=Qa:=gLC (by decide) (by kernel_rfl) (fun _=>by unfold Qa;rfl) fun _ _=>aEM.trans (by rw[aEN]<;>kernel_rfl)
theorem aEP:ak Tryz.prog (fun _=>True) 134 ⟨ao8,Z4⟩:=zcc (env:=ZW) (d:=6) (hs:=Ev.get ZX) (aj aEK bq) (fun J x=>auP (C (J 58 []) ZY) x.1) (fun _ _=>by kernel_rfl) fun _=>by rw[aEO]<;>rfl
@[reducible] def ao9:Sh:=shD aM aI
def apa:Env:=(cts [])
def apb:List (Nat×Hint):=[(58,⟨[],[0,3,10,11]⟩)]
def Z5(b:List Int)(c d:Int)(a:List Int):St:=⟨[(0,dW b),(3,.row 0),(10,dI c),(11,dI d)],36,[],[(0,.row (.int .u8) 5 a)],1,[],0⟩
@[reducible] def zH8:Type:=List Int->Int->Int->List Int->Option bO
def Qb(g:zH8)(c:List Int)(f a:Int)(b:List Int):Option bO :=
 if lt a f=true then zC (at? c a) fun e=>zC (at? c a) fun h=>zC (at? b (mul .i64 2 a)) fun d=>zC (at? b (mul .i64 2 a)) fun d=>zC (at? (List.set b (zI (mul .i64 2 a)) (cvt .u8 (Sx.shr .u16 e 8))) (add .i64 (mul .i64 2 a) 1)) fun d=>zC (at? (List.set b (zI (mul .i64 2 a)) (cvt .u8 (Sx.shr .u16 e 8))) (add .i64 (mul .i64 2 a) 1)) fun d=>g c f (add .i64 a 1) (List.set (List.set b (zI (mul .i64 2 a)) (cvt .u8 (Sx.shr .u16 e 8))) (zI (add .i64 (mul .i64 2 a) 1)) (cvt .u8 h)) else some (b,())
def Z6(b:zH8)(a:List Int):Option bO :=
 need (ge (mul .i64 2 (zF (zG a))) 0) (need (Ev.jC (mul .i64 2 (zF (zG a))) (mul .i64 2 (zF (zG a)))) (need (small (zI (mul .i64 2 (zF (zG a))))) (b a (zF (zG a)) 0 (zE (zI (mul .i64 2 (zF (zG a)))) 0))))
def Qc(c:List Int)(d e:Int)(b:List Int):Option bO :=
 ay (fun f a=>Qb (fun c d e b=>f (c,d,e,b)) a.1 a.2.1 a.2.2.1 a.2.2.2) 18446744073709551616 (c,d,e,b)
def apc(x:As aM):Option bO:=Z6 Qc x.1
abbrev pG1:=zp apa apb 135 ao9
theorem aEQ{J w1 a b c d}:pG1 J 58 [w1] (Z5 a b c d)=Qb (C w1 Z5) a b c d:=by kernel_rfl
abbrev pG0:=zj apa apb 135 ao9
theorem aER:C (pG0 58 []) Z5=Qc:=gLC (by decide) (by kernel_rfl) (fun _=>by unfold Qc;rfl) fun _ _=>aEQ.trans (by kernel_rfl)
theorem aES:ak Tryz.prog (fun _=>True) 135 ⟨ao9,apc⟩:=zcc (env:=apa) (d:=6) (hs:=Ev.get apb) bq (fun J x=>Z6 (C (J 58 []) Z5) x.1) (fun _ _=>by kernel_rfl) fun _=>by rw[aER]<;>rfl
@[reducible] def auR:Sh:=shD aM [.int .u32]
def Z7(l:List Int):Option aY :=
 zC (apc (l,())) fun y=>zC (Z4 (y.1,())) fun y=>some (y.1,())
def LA(x:As aM):Option aY:=Z7 x.1
theorem aET:ak Tryz.prog (fun _=>True) 74 ⟨auR,LA⟩:=ctn (aj aEP (aj aES bq)) 6 fun J x=>by kernel_rfl
@[reducible] def Z8:Sh:=shD [.sl iE] [.int .u32]
def Z9:Env:=(cts [(73,(⟨OX,Dj⟩:Ct)),(74,(⟨auR,LA⟩:Ct))])
def aaa:List (Nat×Hint):=[(7,⟨[],[3]⟩),(58,⟨[.row 3 23],[3,6,7,8]⟩)]
@[reducible] def zH9:Type:=List (Int×List Int)
def aab(b:zH9)(c d:Int)(a:List Int):St:=⟨[(3,.row 0),(6,.d (.sl iE) b),(7,dI c),(8,dI d)],19,[],[(0,.row (.int .u16) 23 a)],1,[],0⟩
def aac(a:List Int):St:=⟨[(3,.row 0)],19,[],[(0,.row (.int .u16) 23 a)],1,[],0⟩
@[reducible] def aAe:Type:=List (Int×List Int)->Int->Int->List Int->Option aY
def G9(f:List Int->Option aY)(g:aAe)(d:zH9)(e c:Int)(b:List Int):Option aY :=
 if lt c e=true then zC (at? d c) fun a=>zC (Dj (a,())) fun a=>need (small (zG b+zG a.1)) (g d e (add .i64 c 1) (b++a.1)) else f b
def aad(a:List Int):Option aY :=
 zC (LA (a,())) fun b=>some (b.1,())
def auS(b:aAe)(a:zH9):Option aY :=
 b a (zF (zG a)) 0 []
def aae:=aad
def Qd(c:zH9)(d e:Int)(b:List Int):Option aY :=
 ay (fun f a=>G9 (aae) (fun c d e b=>f (c,d,e,b)) a.1 a.2.1 a.2.2.1 a.2.2.2) 18446744073709551616 (c,d,e,b)
def LB(x:As [.sl iE]):Option aY:=auS Qd x.1
abbrev pGr:=zp Z9 aaa 19 Z8
theorem aEU{J a}:pGr J 7 [] (aac a)=aad a:=by kernel_rfl
theorem aEV{J w1 a b c d}:pGr J 58 [w1] (aab a b c d)=G9 (C (J 7 []) aac) (C w1 aab) a b c d:=by kernel_rfl
abbrev pGq:=zj Z9 aaa 19 Z8
theorem aEW:C (pGq 7 []) aac=aae:=gNC (by decide) fun _=>aEU
theorem aEX:C (pGq 58 []) aab=Qd:=gLC (by decide) (by kernel_rfl) (fun _=>by unfold Qd;rfl) fun _ _=>aEV.trans (by rw[aEW]<;>kernel_rfl)
theorem aEY:ak Tryz.prog (fun _=>True) 19 ⟨Z8,LB⟩:=zcc (env:=Z9) (d:=6) (hs:=Ev.get aaa) (aj anw (aj aET bq)) (fun J x=>auS (C (J 58 []) aab) x.1) (fun _ _=>by kernel_rfl) fun _=>by rw[aEX]<;>rfl
@[reducible] def Qe:Sh:=shD [.pr (.int .u32) aP] [.sl iE]
def apd:Env:=(cts [(2000033,Ev.iq),(79,(⟨Li,Ac⟩:Ct))])
def ape:List (Nat×Hint):=[(58,⟨[.row 3 30],[1,3,7,8]⟩)]
@[reducible] def r9:Type:=Int×List Bool×List (Int×List Int)
def aaf(b:r9)(c:List Bool)(d:Int)(a:zH9):St:=⟨[(1,.pe cR b),(3,.row 0),(7,.d bP c),(8,dI d)],23,[],[(0,.row iE 30 a)],1,[],0⟩
@[reducible] def aAf:Type:=Int×List Bool×List (Int×List Int)->List Bool->Int->List (Int×List Int)->Option (As [.sl iE])
def He(f:aAf)(d:r9)(e:List Bool)(a:Int)(c:zH9):Option (As [.sl iE]) :=
 if lt a 8=true then need (lt a 8) (zC (at? e a) fun b=>if b=true then zC (at? d.2.2 a) fun b=>zC (Ac (b,())) fun b=>need (small (zG c+Nat.succ 0)) (f d e (add .i64 a 1) (c++[b.1])) else f d e (add .i64 a 1) c) else some (c,())
def auT(b:aAf)(a:r9):Option (As [.sl iE]) :=
 b a a.2.1 0 []
def Qf(a:r9)(c:List Bool)(d:Int)(b:zH9):Option (As [.sl iE]) :=
 ay (fun e a=>He (fun a c d b=>e (a,c,d,b)) a.1 a.2.1 a.2.2.1 a.2.2.2) 18446744073709551616 (a,c,d,b)
def Aw(x:As [.pr (.int .u32) aP]):Option (As [.sl iE]):=auT Qf x.1
abbrev pGl:=zp apd ape 139 Qe
theorem aEZ{J w1 a b c d}:pGl J 58 [w1] (aaf a b c d)=He (C w1 aaf) a b c d:=by kernel_rfl
abbrev pGk:=zj apd ape 139 Qe
theorem aE0:C (pGk 58 []) aaf=Qf:=gLC (by decide) (by kernel_rfl) (fun _=>by unfold Qf;rfl) fun _ _=>aEZ.trans (by kernel_rfl)
theorem apf:ak Tryz.prog (fun _=>True) 139 ⟨Qe,Aw⟩:=zcc (env:=apd) (d:=6) (hs:=Ev.get ape) (aj Ev.gI (aj Xu bq)) (fun J x=>auT (C (J 58 []) aaf) x.1) (fun _ _=>by kernel_rfl) fun _=>by rw[aE0]<;>rfl
@[reducible] def aag:Sh:=shD [.pr (.int .u32) aP,.int .i64,.int .u32] [.bool]
def apg:Env:=(cts [(2000033,Ev.iq),(19,(⟨Z8,LB⟩:Ct)),(139,(⟨Qe,Aw⟩:Ct))])
def aph:List (Nat×Hint):=[(7,⟨[],[2,3]⟩),(58,⟨[],[1,2,3,16,17]⟩),(6,⟨[],[1,2,3,14]⟩)]
def apj(b a:Int)(c:r9)(d:Bool):St:=⟨[(1,dI b),(2,d2 a),(3,.pe cR c),(14,dB d)],32,[],[],0,[],0⟩
def aah(b a:Int)(c:r9)(d:List Bool)(e:Int):St:=⟨[(1,dI b),(2,d2 a),(3,.pe cR c),(16,.d bP d),(17,dI e)],32,[],[],0,[],0⟩
def aai(a:Int)(b:r9):St:=⟨[(2,d2 a),(3,.pe cR b)],32,[],[],0,[],0⟩
@[reducible] def aAg:Type:=Int->Int->Int×List Bool×List (Int×List Int)->List Bool->Int->Option aD
def auU(d:aAg)(c b:Int)(a:r9)(e:Bool):Option aD :=
 if e=true then some (false,()) else d c b a a.2.1 0
def DJ(f:Int->Int×List Bool×List (Int×List Int)->Option aD)(g:aAg)(c b:Int)(d:r9)(e:List Bool)(a:Int):Option aD :=
 if lt a 8=true then need (lt a 8) (zC (at? e a) fun h=>if Sx.neb h (lt a c)=true then some (false,()) else g c b d e (add .i64 a 1)) else f b d
def aaj(b:Int)(c:r9):Option aD :=
 zC (Aw (c,())) fun a=>zC (LB (a.1,())) fun a=>some (eqi a.1 b,())
def aak(c:Int->Int->Int×List Bool×List (Int×List Int)->Bool->Option aD)(d:r9)(a b:Int):Option aD :=
 if lt a 0=true then c a b d true else c a b d (gt a 8)
def Ay:=aaj
def Qg(c b:Int)(a:r9)(d:List Bool)(e:Int):Option aD :=
 ay (fun f a=>DJ (Ay) (fun c b a d e=>f (c,b,a,d,e)) a.1 a.2.1 a.2.2.1 a.2.2.2.1 a.2.2.2.2) 18446744073709551616 (c,b,a,d,e)
def aal:=auU (Qg)
def aam(x:As [.pr (.int .u32) aP,.int .i64,.int .u32]):Option aD:=aak aal x.1 x.2.1 x.2.2.1
abbrev pGt:=zp apg aph 229 aag
theorem aE1{J a b}:pGt J 7 [] (aai a b)=aaj a b:=by kernel_rfl
theorem aE2{J w2 a b c d e}:pGt J 58 [w2] (aah a b c d e)=DJ (C (J 7 []) aai) (C w2 aah) a b c d e:=by kernel_rfl
theorem aE3{J a b c d}:pGt J 6 [] (apj a b c d)=auU (C (J 58 []) aah) a b c d:=by kernel_rfl
abbrev pGs:=zj apg aph 229 aag
theorem aE4:C (pGs 7 []) aai=Ay:=gNC (by decide) fun _=>aE1
theorem aE5:C (pGs 58 []) aah=Qg:=gLC (by decide) (by kernel_rfl) (fun _=>by unfold Qg;rfl) fun _ _=>aE2.trans (by rw[aE4]<;>kernel_rfl)
theorem aE6:C (pGs 6 []) apj=aal:=gNC (by decide) fun _=>aE3.trans (by rw[aE5]<;>kernel_rfl)
theorem aE7:ak Tryz.prog (fun _=>True) 229 ⟨aag,aam⟩:=zcc (env:=apg) (d:=6) (hs:=Ev.get aph) (aj Ev.gI (aj aEY (aj apf bq))) (fun J x=>aak (C (J 6 []) apj) x.1 x.2.1 x.2.2.1) (fun _ _=>by kernel_rfl) fun _=>by rw[aE6]<;>rfl
@[reducible] def aE8:Sh:=shD bG [.bool]
def aE9:Env:=(cts [(2000035,Ev.iq),(215,(⟨Lt,xR⟩:Ct)),(229,(⟨aag,aam⟩:Ct))])
def apk(a:nU)(c:zH5):Option aD :=
 zC (xR (a,2,c.2.2.1,())) fun y=>if y.1=true then some (false,()) else zC (xR (a,1,c.2.2.1,())) fun y=>if (!y.1)=true then some (true,()) else zC (aam (a.2.2.2.2.2.1,cvt .i64 c.2.2.2.1,c.2.2.2.2,())) fun y=>some (!y.1,())
def aan(x:As bG):Option aD:=apk x.1 x.2.1
theorem aFa:ak Tryz.prog (fun _=>True) 221 ⟨aE8,aan⟩:=ctn (env:=aE9) (aj Ev.gI (aj ZR (aj aE7 bq))) 6 fun J x=>by kernel_rfl
@[reducible] def aFb:Sh:=shD [.pr (.int .u16) (.int .i64),.int .u16] cH
def aao(c:Int×Int)(b:Int):Option (As cH) :=
 zC (Aq (c,())) fun a=>if eqi b 0=true then some (a.1,2,()) else if nei a.1.1 b=true then some (a.1,22,()) else zC (xO (b,())) fun a=>some (a.1,0,())
def aap(x:As [.pr (.int .u16) (.int .i64),.int .u16]):Option (As cH):=aao x.1 x.2.1
theorem aFc:ak Tryz.prog (fun _=>True) 230 ⟨aFb,aap⟩:=ctn (aj YK (aj YI bq)) 6 fun J x=>by kernel_rfl
@[reducible] def aFd:Sh:=shD bG bJ
def apl(a:nU)(c:zH5):Option dD :=
 zC (aap (a.2.1,c.1,())) fun y=>some ((a.1,y.1,2,a.2.2.2),())
def aaq(x:As bG):Option dD:=apl x.1 x.2.1
theorem aFe:ak Tryz.prog (fun _=>True) 222 ⟨aFd,aaq⟩:=ctn (aj aFc bq) 6 fun J x=>by kernel_rfl
@[reducible] def aFf:Sh:=shD bG [.bool]
def aFg:Env:=(cts [(2000035,Ev.iq),(215,(⟨Lt,xR⟩:Ct))])
def apm(a:nU)(c:zH5):Option aD :=
 if nei a.2.2.2.2.1 c.2.2.1=true then zC (xR (a,2,c.2.2.1,())) fun y=>some (!y.1,()) else some (false,())
def aar(x:As bG):Option aD:=apm x.1 x.2.1
theorem aFh:ak Tryz.prog (fun _=>True) 223 ⟨aFf,aar⟩:=ctn (env:=aFg) (aj Ev.gI (aj ZR bq)) 6 fun J x=>by kernel_rfl
@[reducible] def auV:Sh:=⟨[.d iE],[],cG,[.d (.bool)],[],0,[.bool]⟩
def apn(x:Int×List Int):Option aD :=
 zC (rY (x,())) fun y=>some (!y.1,())
def LC(x:As cG):Option aD:=apn x.1
theorem apo:ak Tryz.prog (fun _=>True) 236 ⟨auV,LC⟩:=ctn (aj OV bq) 6 fun J x=>by kernel_rfl
@[reducible] def apq:Sh:=⟨[.d (.sl iE),.fn (.func 236) [] []],[],[.sl iE],[.d (.int .i64)],[],0,[.int .i64]⟩
def apr:Env:=(cts [(236,(⟨auV,LC⟩:Ct))])
def aps:List (Nat×Hint):=[(26,⟨[],[0,1,7,8]⟩)]
def aas(a:zH9)(b c:Int):St:=⟨[(0,.d (.sl iE) a),(1,.fn (.func 236) [] []),(7,dI b),(8,dI c)],19,[],[],0,[],0⟩
@[reducible] def aAh:Type:=List (Int×List Int)->Int->Int->Option bI
def Qh(e:aAh)(c:zH9)(d a:Int):Option bI :=
 if lt a d=true then zC (at? c a) fun b=>zC (LC (b,())) fun b=>if b.1=true then some (a,()) else e c d (add .i64 a 1) else some (-1,())
def aAi(b:aAh)(a:zH9):Option bI :=
 b a (zF (zG a)) 0
def Qi(a:zH9)(b c:Int):Option bI :=
 ay (fun d a=>Qh (fun a b c=>d (a,b,c)) a.1 a.2.1 a.2.2) 18446744073709551616 (a,b,c)
def apt(x:As [.sl iE]):Option bI:=aAi Qi x.1
abbrev pGf:=zp apr aps 237 apq
theorem aPn{J w1 a b c}:pGf J 26 [w1] (aas a b c)=Qh (C w1 aas) a b c:=by kernel_rfl
abbrev pGe:=zj apr aps 237 apq
theorem aPo:C (pGe 26 []) aas=Qi:=gLC (by decide) (by kernel_rfl) (fun _=>by unfold Qi;rfl) fun _ _=>aPn.trans (by kernel_rfl)
theorem aPp:ak Tryz.prog (fun _=>True) 237 ⟨apq,apt⟩:=zcc (env:=apr) (d:=6) (hs:=Ev.get aps) (aj apo bq) (fun J x=>aAi (C (J 26 []) aas) x.1) (fun _ _=>by kernel_rfl) fun _=>by rw[aPo]<;>rfl
@[reducible] def aPq:Sh:=⟨[.d (.sl iE),.fn (.func 236) [] []],[],[.sl iE],[.d (.bool)],[],0,[.bool]⟩
def apu(s:zH9):Option aD :=
 zC (apt (s,())) fun y=>some (ge y.1 0,())
def apv(x:As [.sl iE]):Option aD:=apu x.1
theorem aPr:ak Tryz.prog (fun _=>True) 235 ⟨aPq,apv⟩:=ctn (aj apo (aj aPp bq)) 6 fun J x=>by kernel_rfl
@[reducible] def auW:Sh:=shD [.sl iE] [.bool]
def aat(l:zH9):Option aD :=
 zC (apv (l,())) fun y=>some (!y.1,())
def LD(x:As [.sl iE]):Option aD:=aat x.1
theorem aFi:ak Tryz.prog (fun _=>True) 233 ⟨auW,LD⟩:=ctn (aj aPr (aj apo bq)) 6 fun J x=>by kernel_rfl
@[reducible] def apw:Sh:=shD [.sl (.int .u16),.sl iE] bH
def aau:Env:=(cts [(131,(⟨Wz,Dh⟩:Ct)),(233,(⟨auW,LD⟩:Ct))])
def aav:List (Nat×Hint):=[(31,⟨[],[0]⟩),(250,⟨[],[0,16,17,18]⟩)]
def aaw(b:zH9)(c d:Int)(a:List Int):St:=⟨[(0,.row 0),(16,.d (.sl iE) b),(17,dI c),(18,dI d)],31,[],[(0,.row (.int .u16) 23 a)],1,[],0⟩
def aax(a:List Int):St:=⟨[(0,.row 0)],31,[],[(0,.row (.int .u16) 23 a)],1,[],0⟩
@[reducible] def dY:Type:=As bH
@[reducible] def aAj:Type:=List (Int×List Int)->Int->Int->List Int->Option dY
def Hf(f:List Int->Option dY)(g:aAj)(d:zH9)(e c:Int)(a:List Int):Option dY :=
 if lt c e=true then zC (at? d c) fun b=>need (ge b.1 0) (need (le b.1 (zF (zG a))) (need (le (zF (zG a)) (zF (zG a))) (need (le (b.1+(zF (zG a) - b.1)) (zF (zG a))) (g d e (add .i64 c 1) (List.take (zI b.1) a++List.take (zI (zF (zG a) - b.1)) b.2++List.drop (zI b.1+zG (List.take (zI (zF (zG a) - b.1)) b.2)) a))))) else f a
def auX(a:List Int):Option dY :=
 some (a,0,())
def aay(d:aAj)(c:List Int)(a:zH9):Option dY :=
 if nei (zF (zG c)) 64=true then some ([],21,()) else zC (LD (a,())) fun b=>if (!b.1)=true then some ([],20,()) else zC (Dh (c,())) fun b=>d a (zF (zG a)) 0 b.1
def auY:=auX
def Hg(c:zH9)(d e:Int)(b:List Int):Option dY :=
 ay (fun f a=>Hf (auY) (fun c d e b=>f (c,d,e,b)) a.1 a.2.1 a.2.2.1 a.2.2.2) 18446744073709551616 (c,d,e,b)
def aaz(x:As [.sl (.int .u16),.sl iE]):Option dY:=aay Hg x.1 x.2.1
abbrev pA7:=zp aau aav 231 apw
theorem aFj{J a}:pA7 J 31 [] (aax a)=auX a:=by kernel_rfl
theorem aFk{J w1 a b c d}:pA7 J 250 [w1] (aaw a b c d)=Hf (C (J 31 []) aax) (C w1 aaw) a b c d:=by kernel_rfl
abbrev pA6:=zj aau aav 231 apw
theorem aFl:C (pA6 31 []) aax=auY:=gNC (by decide) fun _=>aFj
theorem aFm:C (pA6 250 []) aaw=Hg:=gLC (by decide) (by kernel_rfl) (fun _=>by unfold Hg;rfl) fun _ _=>aFk.trans (by rw[aFl]<;>kernel_rfl)
theorem aFo:ak Tryz.prog (fun _=>True) 231 ⟨apw,aaz⟩:=zcc (env:=aau) (d:=6) (hs:=Ev.get aav) (aj az4 (aj aFi bq)) (fun J x=>aay (C (J 250 []) aaw) x.1 x.2.1) (fun _ _=>by kernel_rfl) fun _=>by rw[aFm]<;>rfl
@[reducible] def aFp:Sh:=shD bG bJ
def apx(a:nU)(c:zH5):Option dD :=
 if eqi a.2.2.2.2.1 c.2.2.1=true then some (a,()) else zC (Aw (a.2.2.2.2.2.1,())) fun y=>zC (aaz (a.1,y.1,())) fun y=>if nei y.2.1 0=true then some (a,()) else zC (Av ((y.1,a.2.1,a.2.2.1,a.2.2.2.1,c.2.2.1,a.2.2.2.2.2),())) fun y=>some (y.1,())
def aaA(x:As bG):Option dD:=apx x.1 x.2.1
theorem aFq:ak Tryz.prog (fun _=>True) 224 ⟨aFp,aaA⟩:=ctn (aj apf (aj P7 (aj aFo bq))) 6 fun J x=>by kernel_rfl
@[reducible] def aFr:Sh:=shD bG [.bool]
def aFs:Env:=(cts [(2000035,Ev.iq)])
def aFt(a:nU)(c:zH5):Option aD :=
 some (le c.2.2.1 a.2.2.2.2.1,())
def aaB(x:As bG):Option aD:=aFt x.1 x.2.1
theorem aFu:ak Tryz.prog (fun _=>True) 225 ⟨aFr,aaB⟩:=ctn (env:=aFs) (aj Ev.gI bq) 6 fun J x=>by kernel_rfl
@[reducible] def apy:Sh:=shD bG bJ
def apz:Env:=(cts [(2000035,Ev.iq),(180,(⟨auK,Av⟩:Ct))])
def apA:List (Nat×Hint):=[(6,⟨[],[2,4,17]⟩)]
def apB(a:nU)(c:Int)(b:Bool)(d:List jS):St:=⟨[(2,.pe aO a),(4,.prw 0 c 32 0),(17,dB b)],21,[],[(0,.row aO 35 d)],1,[],0⟩
def aaC(d:nU)(a:Int)(e:Bool)(c:List jS):Option dD :=
 if e=true then zC (at? c a) fun f=>zC (at? (List.set c (zI a) d) a) fun b=>zC (at? (List.set c (zI a) d) a) fun b=>some (b,()) else zC (Av (d,())) fun b=>zC (at? c a) fun f=>zC (at? (List.set c (zI a) b.1) a) fun g=>zC (at? (List.set c (zI a) b.1) a) fun b=>some (b,())
def aaD(c:nU->Int->Bool->List jS->Option dD)(a:nU)(b:zH5):Option dD :=
 if nei a.2.1.1 b.1=true then c a 0 true [gF] else c a 0 (nei a.2.2.2.1 b.2.2.1) [gF]
def aaE:=aaC
def aaF(x:As bG):Option dD:=aaD aaE x.1 x.2.1
abbrev pAj:=zp apz apA 226 apy
theorem aFv{J a b c d}:pAj J 6 [] (apB a b c d)=aaC a b c d:=by kernel_rfl
abbrev pAi:=zj apz apA 226 apy
theorem aFw:C (pAi 6 []) apB=aaE:=gNC (by decide) fun _=>aFv
theorem aFx:ak Tryz.prog (fun _=>True) 226 ⟨apy,aaF⟩:=zcc (env:=apz) (d:=6) (hs:=Ev.get apA) (aj Ev.gI (aj P7 bq)) (fun J x=>aaD (C (J 6 []) apB) x.1 x.2.1) (fun _ _=>by kernel_rfl) fun _=>by rw[aFw]<;>rfl
@[reducible] def aaG:Sh:=shD bG cT
def aaH(e:nU)(b:zH5):Option (As cT) :=
 zC (DF (e,())) fun a=>amb (av aaG.rs) [if eqi 1 b.2.1=true then if eqi b.1 0=true then some (a.1,2,()) else if eqi b.2.2.1 0=true then some (a.1,2,()) else zC (rZ (a.1,b.1,())) fun c=>if c.1=true then some (a.1,22,()) else zC (ZG (a.1,b,())) fun d=>if d.1=true then some (a.1,23,()) else zC (Ls (a.1,b,())) fun a=>some (a.1,0,()) else if eqi 2 b.2.1=true then if eqi b.1 0=true then some (a.1,2,()) else if eqi b.2.2.1 0=true then some (a.1,2,()) else zC (rZ (a.1,b.1,())) fun c=>if c.1=true then some (a.1,22,()) else zC (aan (a.1,b,())) fun d=>if d.1=true then some (a.1,23,()) else zC (aaq (a.1,b,())) fun a=>some (a.1,0,()) else if eqi 3 b.2.1=true then if eqi b.1 0=true then some (a.1,2,()) else if eqi b.2.2.1 0=true then some (a.1,2,()) else zC (rZ (a.1,b.1,())) fun c=>if c.1=true then some (a.1,22,()) else zC (aar (a.1,b,())) fun d=>if d.1=true then some (a.1,23,()) else zC (aaA (a.1,b,())) fun a=>some (a.1,0,()) else if eqi 4 b.2.1=true then if eqi b.1 0=true then some (a.1,2,()) else if eqi b.2.2.1 0=true then some (a.1,2,()) else zC (rZ (a.1,b.1,())) fun c=>if c.1=true then some (a.1,22,()) else zC (aaB (a.1,b,())) fun d=>if d.1=true then some (a.1,23,()) else zC (aaF (a.1,b,())) fun a=>some (a.1,0,()) else if eqi b.1 0=true then some (a.1,2,()) else if eqi b.2.2.1 0=true then some (a.1,2,()) else some (a.1,2,()),if eqi 1 b.2.1=true then if eqi b.1 0=true then some (a.1,2,()) else if eqi b.2.2.1 0=true then some (a.1,2,()) else zC (rZ (a.1,b.1,())) fun c=>if c.1=true then some (a.1,22,()) else zC (ZG (a.1,b,())) fun d=>if d.1=true then some (a.1,23,()) else zC (Ls (a.1,b,())) fun a=>some (a.1,0,()) else if eqi 2 b.2.1=true then if eqi b.1 0=true then some (a.1,2,()) else if eqi b.2.2.1 0=true then some (a.1,2,()) else zC (rZ (a.1,b.1,())) fun c=>if c.1=true then some (a.1,22,()) else zC (aan (a.1,b,())) fun d=>if d.1=true then some (a.1,23,()) else zC (aaq (a.1,b,())) fun a=>some (a.1,0,()) else if eqi 3 b.2.1=true then if eqi b.1 0=true then some (a.1,2,()) else if eqi b.2.2.1 0=true then some (a.1,2,()) else zC (rZ (a.1,b.1,())) fun c=>if c.1=true then some (a.1,22,()) else zC (aar (a.1,b,())) fun d=>if d.1=true then some (a.1,23,()) else zC (aaA (a.1,b,())) fun a=>some (a.1,0,()) else if eqi 4 b.2.1=true then if eqi b.1 0=true then some (a.1,2,()) else if eqi b.2.2.1 0=true then some (a.1,2,()) else zC (rZ (a.1,b.1,())) fun c=>if c.1=true then some (a.1,22,()) else zC (aaB (a.1,b,())) fun d=>if d.1=true then some (a.1,23,()) else zC (aaF (a.1,b,())) fun a=>some (a.1,0,()) else if eqi b.1 0=true then some (a.1,2,()) else if eqi b.2.2.1 0=true then some (a.1,2,()) else some (a.1,2,())]
def xS(x:As bG):Option (As cT):=aaH x.1 x.2.1
theorem aFy:ak Tryz.prog (fun _=>True) 204 ⟨aaG,xS⟩:=ctn (aj ZF (aj auJ (aj aEx (aj aEF (aj aFa (aj aFe (aj aFh (aj aFq (aj aFu (aj aFx bq)))))))))) 6 fun J x=>by kernel_rfl
end Go.Proofs.Lx
end
