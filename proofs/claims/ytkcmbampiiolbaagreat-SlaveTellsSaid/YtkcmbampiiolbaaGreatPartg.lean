/- Proved in the last of these 20 parts (this is part 7): SlaveTells. Conditions: those of the given statement, and no others. -/
import Derived.Test.YtkcmbampiiolbaaGreatParte
import Derived.Test.YtkcmbampiiolbaaGreatPartf
import Derived.Test.YtkcmbampiiolbaaGreatProg
set_option linter.unusedVariables false
set_option linter.unusedSimpArgs false
set_option linter.unusedSectionVars false
open Option renaming bind → zC, none → zH
open List renaming replicate → zE, length → zG
open Int renaming ofNat → zF, toNat → zI
open Go.Value renaming slice → zK
noncomputable section
open Go Go.Proofs Ev Sx
set_option maxRecDepth 100000
namespace Go.Proofs.Lx
abbrev jg:Type:=Int×Int×Bool×Bool×Bool
@[reducible] def dR:List Ty:=[.sl cO,.int .i64,.int .i64,.int .i64,.int .i64]
@[reducible] def anV:Sh:=⟨[.d gW,.d (.int .i64),.d (.int .i64),.fn (.func 260) [] [.pb 0 0,.pb 1 0]],[.box 3 [.d (.int .i64)],.box 3 [.d (.int .i64)]],dR,[.d (.bool)],[(0,.box 3 [.d (.int .i64)]),(1,.box 3 [.d (.int .i64)])],0,aU⟩
def anW:Env:=(cts [(259,(⟨Pb,Ag⟩:Ct)),(260,(⟨Pe,xM⟩:Ct)),(261,(⟨Dn,vH⟩:Ct)),(264,(⟨Pj,Ah⟩:Ct)),(265,(⟨Pm,Fa⟩:Ct))])
def anX:List (Nat×Hint):=[(15,⟨[],[10]⟩),(122,⟨[],[1,2,3,9,10,19,20,21]⟩),(125342,⟨[],[1,2,3,9,10,12,14,15,19,20,21]⟩),(501369,⟨[],[1,2,3,9,10,12,14,15,19,20,21]⟩)]
def Aj(a c b:Int)(g:List dw)(h i e f:Int)(d:List Bool):St:=⟨[(1,dI a),(2,dI c),(3,.fn (.func 260) [] [.pb 0 0,.pb 1 0]),(9,.row 2),(10,dI b),(19,.d gW g),(20,dI h),(21,dI i)],62,[],[(0,.box 3 [dI e]),(1,.box 3 [dI f]),(2,.row .bool 4 d)],3,[],2⟩
def anY(a b c:Int):St:=⟨[(10,dI a)],62,[],[(0,.box 3 [dI b]),(1,.box 3 [dI c])],2,[],2⟩
def GG(b e d l c:Int)(i:List dw)(j k g h:Int)(f:List Bool)(a:jg):St:=⟨[(1,dI b),(2,dI e),(3,.fn (.func 260) [] [.pb 0 0,.pb 1 0]),(9,.row 2),(10,dI d),(12,.pb 3 0),(14,dI l),(15,dI c),(19,.d gW i),(20,dI j),(21,dI k)],62,[],[(0,.box 3 [dI g]),(1,.box 3 [dI h]),(2,.row .bool 4 f),(3,.box 168 [dI a.1,dI a.2.1,dB a.2.2.1,dB a.2.2.2.1,dB a.2.2.2.2])],4,[],2⟩
def anZ(b e d l c:Int)(i:List dw)(j k g h:Int)(f:List Bool)(a:jg):St:=⟨[(1,dI b),(2,dI e),(3,.fn (.func 260) [] [.pb 0 0,.pb 1 0]),(9,.row 2),(10,dI d),(12,.pb 3 0),(14,dI l),(15,dI c),(19,.d gW i),(20,dI j),(21,dI k)],62,[],[(0,.box 3 [dI g]),(1,.box 3 [dI h]),(2,.row .bool 4 f),(3,.box 168 [dI a.1,dI a.2.1,dB a.2.2.1,dB a.2.2.2.1,dB a.2.2.2.2])],4,[],2⟩
@[reducible] def zG0:Type:=Int->Int->Int->Option aT
@[reducible] def zG1:Type:=Int->Int->Int->List dw->Int->Int->Int->Int->List Bool->Option aT
def Pv(f:zG0)(l:Int->Int->Int->Int->Int->List dw->Int->Int->Int->Int->List Bool->jg->Option aT)(n:zG1)(b g a:Int)(h:List dw)(i e c d:Int)(m:List Bool):Option aT :=
 if lt e i=true then zC (at? h e) fun j=>if eqi a 0=true then f a c d else zC (vH (j,b,add .i64 b g,())) fun k=>l b g a k.2.1 k.1 h i e c d m j else f a c d
def auo(a b c:Int):Option aT :=
 some (eqi a 0,b,c,())
def Pw(n:Int->Int->Int->Int->Int->List dw->Int->Int->Int->Int->List Bool->jg->Option aT)(o:zG1)(p:Int->Int->Int->Int->Int->List dw->Int->Int->Int->Int->List Bool->jg->Option aT)(a f e l b:Int)(i:List dw)(j k g h:Int)(c:List Bool)(m:jg):Option aT :=
 if lt b l=true then zC (at? c (Sx.sub .i64 b a)) fun q=>zC (at? c (Sx.sub .i64 b a)) fun d=>if d=true then n a f e l b i j k g h c m else zC (xM (m,g,h,())) fun d=>if (!d.1)=true then some (false,d.2.1,d.2.2.1,()) else zC (at? c (Sx.sub .i64 b a)) fun r=>zC (at? c (Sx.sub .i64 b a)) fun s=>n a f (Sx.sub .i64 e 1) l b i j k d.2.1 d.2.2.1 (List.set c (zI (Sx.sub .i64 b a)) true) m else o a f e i j (add .i64 k 1) g h c
def an0(n:zG1)(h:Int->Int->Int->Int->Int->List dw->Int->Int->Int->Int->List Bool->jg->Option aT)(a d c l b:Int)(i:List dw)(j k f g:Int)(e:List Bool)(m:jg):Option aT :=
 h a d c l (add .i64 b 1) i j k f g e m
def Yp(e:zG1)(b:List dw)(d a f c:Int):Option aT :=
 need (ge a 0) (need (Ev.jC a a) (need (small (zI a)) (e d a a b (zF (zG b)) 0 f c (zE (zI a) false))))
def Px:=auo
def GH(a:zG1)(b:Int->Int->Int->Int->Int->List dw->Int->Int->Int->Int->List Bool->jg->Option aT):=an0 a b
def Dq(o:zG1)(b e d l c:Int)(i:List dw)(j k g h:Int)(f:List Bool)(m:jg):Option aT :=
 ay (fun n a=>Pw (GH o (fun b e d l c i j k g h f m=>n (b,e,d,l,c,i,j,k,g,h,f,m))) o (fun b e d l c i j k g h f m=>n (b,e,d,l,c,i,j,k,g,h,f,m)) a.1 a.2.1 a.2.2.1 a.2.2.2.1 a.2.2.2.2.1 a.2.2.2.2.2.1 a.2.2.2.2.2.2.1 a.2.2.2.2.2.2.2.1 a.2.2.2.2.2.2.2.2.1 a.2.2.2.2.2.2.2.2.2.1 a.2.2.2.2.2.2.2.2.2.2.1 a.2.2.2.2.2.2.2.2.2.2.2) 18446744073709551616 (b,e,d,l,c,i,j,k,g,h,f,m)
def Py(b d c:Int)(h:List dw)(i j f g:Int)(e:List Bool):Option aT :=
 ay (fun k a=>Pv (Px) (Dq (fun b d c h i j f g e=>k (b,d,c,h,i,j,f,g,e))) (fun b d c h i j f g e=>k (b,d,c,h,i,j,f,g,e)) a.1 a.2.1 a.2.2.1 a.2.2.2.1 a.2.2.2.2.1 a.2.2.2.2.2.1 a.2.2.2.2.2.2.1 a.2.2.2.2.2.2.2.1 a.2.2.2.2.2.2.2.2) 18446744073709551616 (b,d,c,h,i,j,f,g,e)
def Yq(x:As dR):Option aT:=Yp Py x.1 x.2.1 x.2.2.1 x.2.2.2.1 x.2.2.2.2.1
abbrev pB7:=zp anW anX 258 anV
theorem aCX{J a b c}:pB7 J 15 [] (anY a b c)=auo a b c:=by kernel_rfl
theorem aCY{J w1 w3 a b c d e f g h i j k l}:pB7 J 501369 [w1,w3] (anZ a b c d e f g h i j k l)=an0 (C w1 Aj) (C w3 GG) a b c d e f g h i j k l:=by kernel_rfl
theorem aCZ{J w1 w3 a b c d e f g h i j k l}:pB7 J 125342 [w1,w3] (GG a b c d e f g h i j k l)=Pw (C (J 501369 [w1,w3]) anZ) (C w1 Aj) (C w3 GG) a b c d e f g h i j k l:=by kernel_rfl
theorem aC0{J w1 a b c d e f g h i}:pB7 J 122 [w1] (Aj a b c d e f g h i)=Pv (C (J 15 []) anY) (C (J 125342 [w1]) GG) (C w1 Aj) a b c d e f g h i:=by kernel_rfl
abbrev pB6:=zj anW anX 258 anV
theorem aC1:C (pB6 15 []) anY=Px:=gNC (by decide) fun _=>aCX
theorem aC2{w1 w3}:C (pB6 501369 [w1,w3]) anZ=GH (C w1 Aj) (C w3 GG):=gNC (by decide) fun _=>aCY
theorem aC3{w1}:C (pB6 125342 [w1]) GG=Dq (C w1 Aj):=gLC (by decide) (by kernel_rfl) (fun _=>by unfold Dq;rfl) fun _ _=>aCZ.trans (by rw[aC2]<;>kernel_rfl)
theorem aC4:C (pB6 122 []) Aj=Py:=gLC (by decide) (by kernel_rfl) (fun _=>by unfold Py;rfl) fun _ _=>aC0.trans (by rw[aC1,aC3]<;>kernel_rfl)
theorem Yr:ak Tryz.prog (fun _=>True) 258 ⟨anV,Yq⟩:=zcc (env:=anW) (d:=6) (hs:=Ev.get anX) (aj Pd (aj Pf (aj Yl (aj Pk (aj Pn bq))))) (fun J x=>Yp (C (J 122 []) Aj) x.1 x.2.1 x.2.2.1 x.2.2.2.1 x.2.2.2.2.1) (fun _ _=>by kernel_rfl) fun _=>by rw[aC4]<;>rfl
@[reducible] def an1:Sh:=⟨[.d gW,.d (.int .i64),.d (.int .i64),.fn (.func 264) [] []],[],fD,[.d (.bool)],[],0,[.bool]⟩
def an2:Env:=(cts [(259,(⟨Pb,Ag⟩:Ct)),(260,(⟨Pe,xM⟩:Ct)),(261,(⟨Dn,vH⟩:Ct)),(264,(⟨Pj,Ah⟩:Ct)),(265,(⟨Pm,Fa⟩:Ct))])
def an3:List (Nat×Hint):=[(15,⟨[],[10]⟩),(122,⟨[],[1,2,3,9,10,19,20,21]⟩),(125342,⟨[],[1,2,3,9,10,12,14,15,19,20,21]⟩),(501369,⟨[],[1,2,3,9,10,12,14,15,19,20,21]⟩)]
def Ak(a c b:Int)(e:List dw)(f g:Int)(d:List Bool):St:=⟨[(1,dI a),(2,dI c),(3,.fn (.func 264) [] []),(9,.row 0),(10,dI b),(19,.d gW e),(20,dI f),(21,dI g)],62,[],[(0,.row .bool 4 d)],1,[],0⟩
def an4(a:Int):St:=⟨[(10,dI a)],62,[],[],0,[],0⟩
def GI(b e d j c:Int)(g:List dw)(h i:Int)(f:List Bool)(a:jg):St:=⟨[(1,dI b),(2,dI e),(3,.fn (.func 264) [] []),(9,.row 0),(10,dI d),(12,.pb 1 0),(14,dI j),(15,dI c),(19,.d gW g),(20,dI h),(21,dI i)],62,[],[(0,.row .bool 4 f),(1,.box 168 [dI a.1,dI a.2.1,dB a.2.2.1,dB a.2.2.2.1,dB a.2.2.2.2])],2,[],0⟩
def an5(b e d j c:Int)(g:List dw)(h i:Int)(f:List Bool)(a:jg):St:=⟨[(1,dI b),(2,dI e),(3,.fn (.func 264) [] []),(9,.row 0),(10,dI d),(12,.pb 1 0),(14,dI j),(15,dI c),(19,.d gW g),(20,dI h),(21,dI i)],62,[],[(0,.row .bool 4 f),(1,.box 168 [dI a.1,dI a.2.1,dB a.2.2.1,dB a.2.2.2.1,dB a.2.2.2.2])],2,[],0⟩
@[reducible] def zG2:Type:=Int->Int->Int->List dw->Int->Int->List Bool->Option aD
def Pz(d:Int->Option aD)(j:Int->Int->Int->Int->Int->List dw->Int->Int->List Bool->jg->Option aD)(l:zG2)(b e a:Int)(f:List dw)(g c:Int)(k:List Bool):Option aD :=
 if lt c g=true then zC (at? f c) fun h=>if eqi a 0=true then d a else zC (vH (h,b,add .i64 b e,())) fun i=>j b e a i.2.1 i.1 f g c k h else d a
def aup(a:Int):Option aD :=
 some (eqi a 0,())
def PD(l:Int->Int->Int->Int->Int->List dw->Int->Int->List Bool->jg->Option aD)(m:zG2)(n:Int->Int->Int->Int->Int->List dw->Int->Int->List Bool->jg->Option aD)(a e d i b:Int)(f:List dw)(g h:Int)(c:List Bool)(j:jg):Option aD :=
 if lt b i=true then zC (at? c (Sx.sub .i64 b a)) fun o=>zC (at? c (Sx.sub .i64 b a)) fun k=>if k=true then l a e d i b f g h c j else zC (Ah (j,())) fun k=>if (!k.1)=true then some (false,()) else zC (at? c (Sx.sub .i64 b a)) fun p=>zC (at? c (Sx.sub .i64 b a)) fun q=>l a e (Sx.sub .i64 d 1) i b f g h (List.set c (zI (Sx.sub .i64 b a)) true) j else m a e d f g (add .i64 h 1) c
def an6(l:zG2)(f:Int->Int->Int->Int->Int->List dw->Int->Int->List Bool->jg->Option aD)(a d c j b:Int)(g:List dw)(h i:Int)(e:List Bool)(k:jg):Option aD :=
 f a d c j (add .i64 b 1) g h i e k
def Yt(d:zG2)(b:List dw)(c a:Int):Option aD :=
 need (ge a 0) (need (Ev.jC a a) (need (small (zI a)) (d c a a b (zF (zG b)) 0 (zE (zI a) false))))
def PE:=aup
def GJ(a:zG2)(b:Int->Int->Int->Int->Int->List dw->Int->Int->List Bool->jg->Option aD):=an6 a b
def Dr(m:zG2)(b e d j c:Int)(g:List dw)(h i:Int)(f:List Bool)(k:jg):Option aD :=
 ay (fun l a=>PD (GJ m (fun b e d j c g h i f k=>l (b,e,d,j,c,g,h,i,f,k))) m (fun b e d j c g h i f k=>l (b,e,d,j,c,g,h,i,f,k)) a.1 a.2.1 a.2.2.1 a.2.2.2.1 a.2.2.2.2.1 a.2.2.2.2.2.1 a.2.2.2.2.2.2.1 a.2.2.2.2.2.2.2.1 a.2.2.2.2.2.2.2.2.1 a.2.2.2.2.2.2.2.2.2) 18446744073709551616 (b,e,d,j,c,g,h,i,f,k)
def PG(b d c:Int)(f:List dw)(g h:Int)(e:List Bool):Option aD :=
 ay (fun i a=>Pz (PE) (Dr (fun b d c f g h e=>i (b,d,c,f,g,h,e))) (fun b d c f g h e=>i (b,d,c,f,g,h,e)) a.1 a.2.1 a.2.2.1 a.2.2.2.1 a.2.2.2.2.1 a.2.2.2.2.2.1 a.2.2.2.2.2.2) 18446744073709551616 (b,d,c,f,g,h,e)
def Yu(x:As fD):Option aD:=Yt PG x.1 x.2.1 x.2.2.1
abbrev pB9:=zp an2 an3 258 an1
theorem aC5{J a}:pB9 J 15 [] (an4 a)=aup a:=by kernel_rfl
theorem aC6{J w1 w3 a b c d e f g h i j}:pB9 J 501369 [w1,w3] (an5 a b c d e f g h i j)=an6 (C w1 Ak) (C w3 GI) a b c d e f g h i j:=by kernel_rfl
theorem aC7{J w1 w3 a b c d e f g h i j}:pB9 J 125342 [w1,w3] (GI a b c d e f g h i j)=PD (C (J 501369 [w1,w3]) an5) (C w1 Ak) (C w3 GI) a b c d e f g h i j:=by kernel_rfl
theorem aC8{J w1 a b c d e f g}:pB9 J 122 [w1] (Ak a b c d e f g)=Pz (C (J 15 []) an4) (C (J 125342 [w1]) GI) (C w1 Ak) a b c d e f g:=by kernel_rfl
abbrev pB8:=zj an2 an3 258 an1
theorem aC9:C (pB8 15 []) an4=PE:=gNC (by decide) fun _=>aC5
theorem aDa{w1 w3}:C (pB8 501369 [w1,w3]) an5=GJ (C w1 Ak) (C w3 GI):=gNC (by decide) fun _=>aC6
theorem aDb{w1}:C (pB8 125342 [w1]) GI=Dr (C w1 Ak):=gLC (by decide) (by kernel_rfl) (fun _=>by unfold Dr;rfl) fun _ _=>aC7.trans (by rw[aDa]<;>kernel_rfl)
theorem aDc:C (pB8 122 []) Ak=PG:=gLC (by decide) (by kernel_rfl) (fun _=>by unfold PG;rfl) fun _ _=>aC8.trans (by rw[aC9,aDb]<;>kernel_rfl)
theorem Yw:ak Tryz.prog (fun _=>True) 258 ⟨an1,Yu⟩:=zcc (env:=an2) (d:=6) (hs:=Ev.get an3) (aj Pd (aj Pf (aj Yl (aj Pk (aj Pn bq))))) (fun J x=>Yt (C (J 122 []) Ak) x.1 x.2.1 x.2.2.1) (fun _ _=>by kernel_rfl) fun _=>by rw[aDc]<;>rfl
@[reducible] def an7:Sh:=⟨[.d gW,.d (.int .i64),.d (.int .i64),.fn (.func 265) [] [.pb 0 0,.pb 1 0]],[.box 3 [.d (.int .i64)],.box 3 [.d (.int .i64)]],dR,[.d (.bool)],[(0,.box 3 [.d (.int .i64)]),(1,.box 3 [.d (.int .i64)])],0,aU⟩
def an8:Env:=(cts [(259,(⟨Pb,Ag⟩:Ct)),(260,(⟨Pe,xM⟩:Ct)),(261,(⟨Dn,vH⟩:Ct)),(264,(⟨Pj,Ah⟩:Ct)),(265,(⟨Pm,Fa⟩:Ct))])
def an9:List (Nat×Hint):=[(15,⟨[],[10]⟩),(122,⟨[],[1,2,3,9,10,19,20,21]⟩),(125342,⟨[],[1,2,3,9,10,12,14,15,19,20,21]⟩),(501369,⟨[],[1,2,3,9,10,12,14,15,19,20,21]⟩)]
def Al(a c b:Int)(g:List dw)(h i e f:Int)(d:List Bool):St:=⟨[(1,dI a),(2,dI c),(3,.fn (.func 265) [] [.pb 0 0,.pb 1 0]),(9,.row 2),(10,dI b),(19,.d gW g),(20,dI h),(21,dI i)],62,[],[(0,.box 3 [dI e]),(1,.box 3 [dI f]),(2,.row .bool 4 d)],3,[],2⟩
def aoa(a b c:Int):St:=⟨[(10,dI a)],62,[],[(0,.box 3 [dI b]),(1,.box 3 [dI c])],2,[],2⟩
def GK(b e d l c:Int)(i:List dw)(j k g h:Int)(f:List Bool)(a:jg):St:=⟨[(1,dI b),(2,dI e),(3,.fn (.func 265) [] [.pb 0 0,.pb 1 0]),(9,.row 2),(10,dI d),(12,.pb 3 0),(14,dI l),(15,dI c),(19,.d gW i),(20,dI j),(21,dI k)],62,[],[(0,.box 3 [dI g]),(1,.box 3 [dI h]),(2,.row .bool 4 f),(3,.box 168 [dI a.1,dI a.2.1,dB a.2.2.1,dB a.2.2.2.1,dB a.2.2.2.2])],4,[],2⟩
def aob(b e d l c:Int)(i:List dw)(j k g h:Int)(f:List Bool)(a:jg):St:=⟨[(1,dI b),(2,dI e),(3,.fn (.func 265) [] [.pb 0 0,.pb 1 0]),(9,.row 2),(10,dI d),(12,.pb 3 0),(14,dI l),(15,dI c),(19,.d gW i),(20,dI j),(21,dI k)],62,[],[(0,.box 3 [dI g]),(1,.box 3 [dI h]),(2,.row .bool 4 f),(3,.box 168 [dI a.1,dI a.2.1,dB a.2.2.1,dB a.2.2.2.1,dB a.2.2.2.2])],4,[],2⟩
def PI(f:zG0)(l:Int->Int->Int->Int->Int->List dw->Int->Int->Int->Int->List Bool->jg->Option aT)(n:zG1)(b g a:Int)(h:List dw)(i e c d:Int)(m:List Bool):Option aT :=
 if lt e i=true then zC (at? h e) fun j=>if eqi a 0=true then f a c d else zC (vH (j,b,add .i64 b g,())) fun k=>l b g a k.2.1 k.1 h i e c d m j else f a c d
def auq(a b c:Int):Option aT :=
 some (eqi a 0,b,c,())
def PK(n:Int->Int->Int->Int->Int->List dw->Int->Int->Int->Int->List Bool->jg->Option aT)(o:zG1)(p:Int->Int->Int->Int->Int->List dw->Int->Int->Int->Int->List Bool->jg->Option aT)(a f e l b:Int)(i:List dw)(j k g h:Int)(c:List Bool)(m:jg):Option aT :=
 if lt b l=true then zC (at? c (Sx.sub .i64 b a)) fun q=>zC (at? c (Sx.sub .i64 b a)) fun d=>if d=true then n a f e l b i j k g h c m else zC (Fa (m,g,h,())) fun d=>if (!d.1)=true then some (false,d.2.1,d.2.2.1,()) else zC (at? c (Sx.sub .i64 b a)) fun r=>zC (at? c (Sx.sub .i64 b a)) fun s=>n a f (Sx.sub .i64 e 1) l b i j k d.2.1 d.2.2.1 (List.set c (zI (Sx.sub .i64 b a)) true) m else o a f e i j (add .i64 k 1) g h c
def aoc(n:zG1)(h:Int->Int->Int->Int->Int->List dw->Int->Int->Int->Int->List Bool->jg->Option aT)(a d c l b:Int)(i:List dw)(j k f g:Int)(e:List Bool)(m:jg):Option aT :=
 h a d c l (add .i64 b 1) i j k f g e m
def Yx(e:zG1)(b:List dw)(d a f c:Int):Option aT :=
 need (ge a 0) (need (Ev.jC a a) (need (small (zI a)) (e d a a b (zF (zG b)) 0 f c (zE (zI a) false))))
def PL:=auq
def GL(a:zG1)(b:Int->Int->Int->Int->Int->List dw->Int->Int->Int->Int->List Bool->jg->Option aT):=aoc a b
def Dt(o:zG1)(b e d l c:Int)(i:List dw)(j k g h:Int)(f:List Bool)(m:jg):Option aT :=
 ay (fun n a=>PK (GL o (fun b e d l c i j k g h f m=>n (b,e,d,l,c,i,j,k,g,h,f,m))) o (fun b e d l c i j k g h f m=>n (b,e,d,l,c,i,j,k,g,h,f,m)) a.1 a.2.1 a.2.2.1 a.2.2.2.1 a.2.2.2.2.1 a.2.2.2.2.2.1 a.2.2.2.2.2.2.1 a.2.2.2.2.2.2.2.1 a.2.2.2.2.2.2.2.2.1 a.2.2.2.2.2.2.2.2.2.1 a.2.2.2.2.2.2.2.2.2.2.1 a.2.2.2.2.2.2.2.2.2.2.2) 18446744073709551616 (b,e,d,l,c,i,j,k,g,h,f,m)
def PN(b d c:Int)(h:List dw)(i j f g:Int)(e:List Bool):Option aT :=
 ay (fun k a=>PI (PL) (Dt (fun b d c h i j f g e=>k (b,d,c,h,i,j,f,g,e))) (fun b d c h i j f g e=>k (b,d,c,h,i,j,f,g,e)) a.1 a.2.1 a.2.2.1 a.2.2.2.1 a.2.2.2.2.1 a.2.2.2.2.2.1 a.2.2.2.2.2.2.1 a.2.2.2.2.2.2.2.1 a.2.2.2.2.2.2.2.2) 18446744073709551616 (b,d,c,h,i,j,f,g,e)
def Yy(x:As dR):Option aT:=Yx PN x.1 x.2.1 x.2.2.1 x.2.2.2.1 x.2.2.2.2.1
abbrev pCb:=zp an8 an9 258 an7
theorem aDd{J a b c}:pCb J 15 [] (aoa a b c)=auq a b c:=by kernel_rfl
theorem aDe{J w1 w3 a b c d e f g h i j k l}:pCb J 501369 [w1,w3] (aob a b c d e f g h i j k l)=aoc (C w1 Al) (C w3 GK) a b c d e f g h i j k l:=by kernel_rfl
theorem aDf{J w1 w3 a b c d e f g h i j k l}:pCb J 125342 [w1,w3] (GK a b c d e f g h i j k l)=PK (C (J 501369 [w1,w3]) aob) (C w1 Al) (C w3 GK) a b c d e f g h i j k l:=by kernel_rfl
theorem aDg{J w1 a b c d e f g h i}:pCb J 122 [w1] (Al a b c d e f g h i)=PI (C (J 15 []) aoa) (C (J 125342 [w1]) GK) (C w1 Al) a b c d e f g h i:=by kernel_rfl
abbrev pCa:=zj an8 an9 258 an7
theorem aDh:C (pCa 15 []) aoa=PL:=gNC (by decide) fun _=>aDd
theorem aDi{w1 w3}:C (pCa 501369 [w1,w3]) aob=GL (C w1 Al) (C w3 GK):=gNC (by decide) fun _=>aDe
theorem aDj{w1}:C (pCa 125342 [w1]) GK=Dt (C w1 Al):=gLC (by decide) (by kernel_rfl) (fun _=>by unfold Dt;rfl) fun _ _=>aDf.trans (by rw[aDi]<;>kernel_rfl)
theorem aDk:C (pCa 122 []) Al=PN:=gLC (by decide) (by kernel_rfl) (fun _=>by unfold PN;rfl) fun _ _=>aDg.trans (by rw[aDh,aDj]<;>kernel_rfl)
theorem Yz:ak Tryz.prog (fun _=>True) 258 ⟨an7,Yy⟩:=zcc (env:=an8) (d:=6) (hs:=Ev.get an9) (aj Pd (aj Pf (aj Yl (aj Pk (aj Pn bq))))) (fun J x=>Yx (C (J 122 []) Al) x.1 x.2.1 x.2.2.1 x.2.2.2.1 x.2.2.2.2.1) (fun _ _=>by kernel_rfl) fun _=>by rw[aDk]<;>rfl
@[reducible] def zG3:Type:=List dw×List Bool
@[reducible] def eF:List Ty:=[.pr gW (.sl .bool),.int .i64,.int .i64]
@[reducible] def az5:Sh:=shD eF [.bool]
def aDl(c:zG3)(a b:Int):Option aD :=
 zC (Yn (c.1,a,b,())) fun d=>some (d.1,())
def Du(x:As eF):Option aD:=aDl x.1 x.2.1 x.2.2.1
theorem aDm:ak Tryz.prog (fun _=>True) 256 ⟨az5,Du⟩:=ctn (aj Yo (aj Yr (aj Yw (aj Yz (aj Pd bq))))) 6 fun J x=>by kernel_rfl
@[reducible] def az6:Sh:=shD eF [.bool]
def aDn(c:zG3)(a b:Int):Option aD :=
 zC (Yq (c.1,a,b,a,b,())) fun d=>some (d.1,())
def Dv(x:As eF):Option aD:=aDn x.1 x.2.1 x.2.2.1
theorem aDo:ak Tryz.prog (fun _=>True) 257 ⟨az6,Dv⟩:=ctn (aj Yo (aj Yr (aj Yw (aj Yz (aj Pf bq))))) 6 fun J x=>by kernel_rfl
@[reducible] def eX:List Ty:=[.pr gW aA,.int .i64,.int .i64]
@[reducible] def az7:Sh:=shD eX [.bool]
def aPj(c:List dw×List Int)(a b:Int):Option aD :=
 zC (Yu (c.1,a,b,())) fun d=>some (d.1,())
def Am(x:As eX):Option aD:=aPj x.1 x.2.1 x.2.2.1
theorem aPk:ak Tryz.prog (fun _=>True) 262 ⟨az7,Am⟩:=ctn (aj Yo (aj Yr (aj Yw (aj Yz (aj Pk bq))))) 6 fun J x=>by kernel_rfl
@[reducible] def az8:Sh:=shD eX [.bool]
def aPl(c:List dw×List Int)(a b:Int):Option aD :=
 zC (Yy (c.1,a,b,a,b,())) fun d=>some (d.1,())
def xN(x:As eX):Option aD:=aPl x.1 x.2.1 x.2.2.1
theorem aPm:ak Tryz.prog (fun _=>True) 263 ⟨az8,xN⟩:=ctn (aj Yo (aj Yr (aj Yw (aj Yz (aj Pn bq))))) 6 fun J x=>by kernel_rfl
@[reducible] def PO:Sh:=shD [.pr gW bY,.pr (.int .u8) mK] [.int .u8]
def aod:Env:=(cts [(58,(⟨Gp,xJ⟩:Ct)),(117,(⟨auj,Gy⟩:Ct)),(124,(⟨Yb,Gz⟩:Ct)),(126,(⟨anJ,Dm⟩:Ct)),(256,(⟨az5,Du⟩:Ct)),(257,(⟨az6,Dv⟩:Ct)),(262,(⟨az7,Am⟩:Ct)),(263,(⟨az8,xN⟩:Ct))])
def aoe:List (Nat×Hint):=[(509,⟨[],[60]⟩),(125,⟨[],[3,5,6,40,55,56,57,58,59]⟩)]
@[reducible] def zG4:Type:=Int×Int×Int×Int×List Int×List Bool
@[reducible] def eZ:Type:=List dw×List Bool
@[reducible] def zG5:Type:=eZ×eZ×(List dw×List Int)×List dw×List Int
def YA(d:Bool)(b:zG4)(a:zG5)(c:Int×Int):St:=⟨[(3,.pb 0 0),(5,.pb 1 0),(6,.pb 2 0),(40,dB d)],61,[],[(0,.box 44 [d8 b.1,d6 b.2.1,d6 b.2.2.1,d6 b.2.2.2.1,dW b.2.2.2.2.1,.d (.sl .bool) b.2.2.2.2.2]),(1,.box 174 [.d gW a.1.1,.d (.sl .bool) a.1.2,.d gW a.2.1.1,.d (.sl .bool) a.2.1.2,.d gW a.2.2.1.1,dW a.2.2.1.2,.d gW a.2.2.2.1,dW a.2.2.2.2]),(2,.box 183 [dI c.1,dI c.2])],3,[],0⟩
def aof(a:Bool):St:=⟨[(60,dB a)],61,[],[],0,[],0⟩
@[reducible] def dH:Type:=As [.int .u8]
def aur(b:Bool->Option dH)(f:Bool)(e:zG4)(d:zG5)(c:Int×Int):Option dH :=
 if f=true then some (2,()) else zC (Dm (e,())) fun a=>if eqi c.2 1=true then zC (Dv (d.1,a.1,a.2.1,())) fun a=>b !a.1 else if eqi c.2 2=true then zC (Dv (d.2.1,a.1,a.2.1,())) fun a=>b !a.1 else if eqi c.2 3=true then zC (xN (d.2.2.1,a.1,a.2.1,())) fun a=>b !a.1 else if eqi c.2 4=true then zC (xN (d.2.2.2,a.1,a.2.1,())) fun a=>b !a.1 else b false
def aus(a:Bool):Option dH :=
 if a=true then some (2,()) else some (0,())
def YB(e:Bool->Int×Int×Int×Int×List Int×List Bool->eZ×eZ×(List dw×List Int)×List dw×List Int->Int×Int->Option dH)(f:List dw×List dw×List dw×List dw)(a:zG4):Option dH :=
 zC (xJ (a,())) fun b=>if (!b.1)=true then some (3,()) else zC (Gy (f,([],[],[],[]),())) fun b=>zC (Gz (a.1,())) fun c=>if eqi c.1.1 1=true then zC (Du (b.1.1,cvt .i64 a.2.1,cvt .i64 a.2.2.1,())) fun d=>e (!d.1) a b.1 c.1 else if eqi c.1.1 2=true then zC (Du (b.1.2.1,cvt .i64 a.2.1,cvt .i64 a.2.2.1,())) fun d=>e (!d.1) a b.1 c.1 else if eqi c.1.1 3=true then zC (Am (b.1.2.2.1,cvt .i64 a.2.1,cvt .i64 a.2.2.1,())) fun d=>e (!d.1) a b.1 c.1 else if eqi c.1.1 4=true then zC (Am (b.1.2.2.2,cvt .i64 a.2.1,cvt .i64 a.2.2.1,())) fun d=>e (!d.1) a b.1 c.1 else e false a b.1 c.1
def Ao:=aus
def nC:=aur (Ao)
def Dw(x:As [.pr gW bY,.pr (.int .u8) mK]):Option dH:=YB nC x.1 x.2.1
abbrev pB1:=zp aod aoe 54 PO
theorem aDp{J a}:pB1 J 509 [] (aof a)=aus a:=by kernel_rfl
theorem aDq{J a b c d}:pB1 J 125 [] (YA a b c d)=aur (C (J 509 []) aof) a b c d:=by kernel_rfl
abbrev pB0:=zj aod aoe 54 PO
theorem aDr:C (pB0 509 []) aof=Ao:=gNC (by decide) fun _=>aDp
theorem aDs:C (pB0 125 []) YA=nC:=gNC (by decide) fun _=>aDq.trans (by rw[aDr]<;>kernel_rfl)
theorem aut:ak Tryz.prog (fun _=>True) 54 ⟨PO,Dw⟩:=zcc (env:=aod) (d:=6) (hs:=Ev.get aoe) (aj WV (aj auk (aj aul (aj aum (aj aDm (aj aDo (aj aPk (aj aPm bq)))))))) (fun J x=>YB (C (J 125 []) YA) x.1 x.2.1) (fun _ _=>by kernel_rfl) fun _=>by rw[aDs]<;>rfl
@[reducible] def bC:List Ty:=[.pr (.int .u8) pP]
@[reducible] def YC:Sh:=shD fF bC
@[reducible] def dJ:Type:=As bC
def aDt(b a:Int):Option dJ :=
 some ((rem b 128,a,[],[],0,0),())
def ko(x:As fF):Option dJ:=aDt x.1 x.2.1
theorem YD:ak Tryz.prog (fun _=>True) 120 ⟨YC,ko⟩:=ctn bq 6 fun J x=>by kernel_rfl
@[reducible] def aog:Sh:=shD [.sl .bool,.bool] [.int .i64]
def aoh:Env:=(cts [])
def aoi:List (Nat×Hint):=[(26,⟨[],[0,1,7,8]⟩)]
def YE(a:List Bool)(d:Bool)(b c:Int):St:=⟨[(0,.d (.sl .bool) a),(1,dB d),(7,dI b),(8,dI c)],19,[],[],0,[],0⟩
@[reducible] def bI:Type:=As [.int .i64]
def PR(e:List Bool->Bool->Int->Int->Option bI)(b:List Bool)(d:Bool)(c a:Int):Option bI :=
 if lt a c=true then zC (at? b a) fun f=>if Sx.eqb d f=true then some (a,()) else e b d c (add .i64 a 1) else some (-1,())
def YF(b:List Bool->Bool->Int->Int->Option bI)(a:List Bool)(c:Bool):Option bI :=
 b a c (zF (zG a)) 0
def PS(a:List Bool)(d:Bool)(b c:Int):Option bI :=
 ay (fun e a=>PR (fun a d b c=>e (a,d,b,c)) a.1 a.2.1 a.2.2.1 a.2.2.2) 18446744073709551616 (a,d,b,c)
def aoj(x:As [.sl .bool,.bool]):Option bI:=YF PS x.1 x.2.1
abbrev pGh:=zp aoh aoi 133 aog
theorem aDu{J w1 a b c d}:pGh J 26 [w1] (YE a b c d)=PR (C w1 YE) a b c d:=by kernel_rfl
abbrev pGg:=zj aoh aoi 133 aog
theorem aDv:C (pGg 26 []) YE=PS:=gLC (by decide) (by kernel_rfl) (fun _=>by unfold PS;rfl) fun _ _=>aDu.trans (by kernel_rfl)
theorem aDw:ak Tryz.prog (fun _=>True) 133 ⟨aog,aoj⟩:=zcc (env:=aoh) (d:=6) (hs:=Ev.get aoi) bq (fun J x=>YF (C (J 26 []) YE) x.1 x.2.1) (fun _ _=>by kernel_rfl) fun _=>by rw[aDv]<;>rfl
@[reducible] def aok:Sh:=shD [.sl .bool,.bool] [.bool]
def aol(s:List Bool)(v:Bool):Option aD :=
 zC (aoj (s,v,())) fun y=>some (ge y.1 0,())
def Dx(x:As [.sl .bool,.bool]):Option aD:=aol x.1 x.2.1
theorem az9:ak Tryz.prog (fun _=>True) 70 ⟨aok,Dx⟩:=ctn (aj aDw bq) 6 fun J x=>by kernel_rfl
@[reducible] def auu:Sh:=shD [.int .u32] fK
def YG(x:Int):Option (As fK) :=
 some (cvt .u16 (Sx.shr .u32 x 16),cvt .u16 x,())
def Ap(x:As [.int .u32]):Option (As fK):=YG x.1
theorem auv:ak Tryz.prog (fun _=>True) 71 ⟨auu,Ap⟩:=ctn bq 6 fun J x=>by kernel_rfl
@[reducible] def bF:List Ty:=[.pr (.int .u16) (.int .i64)]
@[reducible] def YH:Sh:=shD [.int .u16] bF
def aDx(a:Int):Option (As bF) :=
 some ((a,-1),())
def xO(x:As [.int .u16]):Option (As bF):=aDx x.1
theorem YI:ak Tryz.prog (fun _=>True) 207 ⟨YH,xO⟩:=ctn bq 6 fun J x=>by kernel_rfl
@[reducible] def aDy:Sh:=shD bF [.bool]
def aom(l:Int×Int):Option aD :=
 if eqi l.1 0=true then some (eqi l.1 0 && (eqi l.2 0 && true),()) else if ge l.2 1=true then some (true,()) else zC (xO (l.1,())) fun y=>some (eqi l.1 y.1.1 && (eqi l.2 y.1.2 && true),())
def YJ(x:As bF):Option aD:=aom x.1
theorem aDz:ak Tryz.prog (fun _=>True) 197 ⟨aDy,YJ⟩:=ctn (aj YI bq) 6 fun J x=>by kernel_rfl
@[reducible] def aon:Sh:=shD bF bF
def aoo(l:Int×Int):Option (As bF) :=
 zC (YJ (l,())) fun y=>if (!y.1)=true then some ((0,0),()) else some (l,())
def Aq(x:As bF):Option (As bF):=aoo x.1
theorem YK:ak Tryz.prog (fun _=>True) 167 ⟨aon,Aq⟩:=ctn (aj aDz bq) 6 fun J x=>by kernel_rfl
@[reducible] def Dy:Sh:=shD bF [.bool]
def PT(l:Int×Int):Option aD :=
 zC (Aq (l,())) fun y=>some (eqi y.1.1 0 && (eqi y.1.2 0 && true),())
def oU(x:As bF):Option aD:=PT x.1
theorem GM:ak Tryz.prog (fun _=>True) 113 ⟨Dy,oU⟩:=ctn (aj YK bq) 6 fun J x=>by kernel_rfl
@[reducible] def GN:Sh:=shD [.pr (.int .u32) aP] [.int .i64]
def aop:Env:=(cts [(2000033,Ev.iq)])
def aoq:List (Nat×Hint):=[(58,⟨[],[3,7,8]⟩)]
def YL(a:Int)(b:List Bool)(c:Int):St:=⟨[(3,dI a),(7,.d bP b),(8,dI c)],16,[],[],0,[],0⟩
def GQ(d:Int->List Bool->Int->Option bI)(b:Int)(c:List Bool)(a:Int):Option bI :=
 if lt a 8=true then need (lt a 8) (zC (at? c a) fun e=>if e=true then d (add .i64 b 1) c (add .i64 a 1) else d b c (add .i64 a 1)) else some (b,())
@[reducible] def zG6:Type:=Int×List Bool×List (Int×List Int)
def auw(a:Int->List Bool->Int->Option bI)(b:zG6):Option bI :=
 a 0 b.2.1 0
def PU(a:Int)(c:List Bool)(d:Int):Option bI :=
 ay (fun e b=>GQ (fun a c d=>e (a,c,d)) b.1 b.2.1 b.2.2) 18446744073709551616 (a,c,d)
def xP(x:As [.pr (.int .u32) aP]):Option bI:=auw PU x.1
abbrev pAn:=zp aop aoq 142 GN
theorem aDA{J w1 a b c}:pAn J 58 [w1] (YL a b c)=GQ (C w1 YL) a b c:=by kernel_rfl
abbrev pAm:=zj aop aoq 142 GN
theorem aDB:C (pAm 58 []) YL=PU:=gLC (by decide) (by kernel_rfl) (fun _=>by unfold PU;rfl) fun _ _=>aDA.trans (by kernel_rfl)
theorem aor:ak Tryz.prog (fun _=>True) 142 ⟨GN,xP⟩:=zcc (env:=aop) (d:=6) (hs:=Ev.get aoq) (aj Ev.gI bq) (fun J x=>auw (C (J 58 []) YL) x.1) (fun _ _=>by kernel_rfl) fun _=>by rw[aDB]<;>rfl
@[reducible] def bJ:List Ty:=[.pr aA qL]
@[reducible] def YM:Sh:=shD bJ aM
def aos:Env:=(cts [(2000035,Ev.iq),(71,(⟨auu,Ap⟩:Ct)),(113,(⟨Dy,oU⟩:Ct)),(142,(⟨GN,xP⟩:Ct))])
def aot:List (Nat×Hint):=[(7,⟨[],[1,3]⟩)]
@[reducible] def zG7:Type:=List Int×(Int×Int)×Int×Int×Int×pO×Int
def aou(a:zG7)(b:Int):St:=⟨[(1,.pe aO a),(3,d6 b)],39,[],[],0,[],0⟩
def YN(a:zG7)(d:Int):Option bU :=
 zC (Ap (a.2.2.2.1,())) fun b=>zC (Ap (a.2.2.2.2.1,())) fun c=>zC (xP (a.2.2.2.2.2.1,())) fun e=>some ([d,cvt .u16 a.2.2.1,b.1,b.2.1,c.1,c.2.1,cvt .u16 e.1,0],())
def YO(b:List Int×(Int×Int)×Int×Int×Int×pO×Int->Int->Option bU)(a:zG7):Option bU :=
 zC (oU (a.2.1,())) fun c=>if c.1=true then b a 0 else b a a.2.1.1
def YP:=YN
def iw(x:As bJ):Option bU:=YO YP x.1
abbrev pAh:=zp aos aot 112 YM
theorem aDC{J a b}:pAh J 7 [] (aou a b)=YN a b:=by kernel_rfl
abbrev pAg:=zj aos aot 112 YM
theorem aDD:C (pAg 7 []) aou=YP:=gNC (by decide) fun _=>aDC
theorem aDE:ak Tryz.prog (fun _=>True) 112 ⟨YM,iw⟩:=zcc (env:=aos) (d:=6) (hs:=Ev.get aot) (aj Ev.gI (aj auv (aj GM (aj aor bq)))) (fun J x=>YO (C (J 7 []) aou) x.1) (fun _ _=>by kernel_rfl) fun _=>by rw[aDD]<;>rfl
@[reducible] def YQ:Sh:=shD [.int .i64] [.bool]
def aov(n:Int):Option aD :=
 if ge n 0=true then some (lt n 8,()) else some (false,())
def Dz(x:As [.int .i64]):Option aD:=aov x.1
theorem auy:ak Tryz.prog (fun _=>True) 75 ⟨YQ,Dz⟩:=ctn bq 6 fun J x=>by kernel_rfl
@[reducible] def eU:List Ty:=[.int .u16,.int .u32,.int .i64,.pr (.int .i64) aA]
@[reducible] def auz:Sh:=⟨[.d (.int .u16),.d (.int .u32),.d (.int .i64),.d iE],[],eU,[.d aA],[],0,aM⟩
def aow(d e c:Int)(f:Int×List Int):Option bU :=
 zC (Ap (e,())) fun a=>need (small (0+Nat.succ (Nat.succ (Nat.succ (Nat.succ 0))))) (zC (Dj (f,())) fun b=>need (small (Nat.succ (Nat.succ (Nat.succ (Nat.succ 0)))+zG b.1)) (some (d::a.1::a.2.1::cvt .u16 c::b.1,())))
def PV(x:As eU):Option bU:=aow x.1 x.2.1 x.2.2.1 x.2.2.2.1
theorem aDF:ak Tryz.prog (fun _=>True) 77 ⟨auz,PV⟩:=ctn (aj auv (aj anw bq)) 6 fun J x=>by kernel_rfl
@[reducible] def YR:Sh:=shD [.pr (.int .u32) aP,.int .u16,.int .i64] aM
def aox:Env:=(cts [(2000033,Ev.iq),(75,(⟨YQ,Dz⟩:Ct)),(77,(⟨auz,PV⟩:Ct))])
def aoy:List (Nat×Hint):=[(6,⟨[],[1,2,3,16]⟩)]
def YS(b a:Int)(c:zG6)(d:Bool):St:=⟨[(1,d6 b),(2,dI a),(3,.pe cR c),(16,dB d)],27,[],[],0,[],0⟩
def YT(d b:Int)(c:zG6)(e:Bool):Option bU :=
 if e=true then some ([0,0,0,0,0,0,0,0,0,0,0,0,0,0,0,0,0,0,0,0],()) else zC (at? c.2.2 b) fun a=>zC (PV (d,c.1,b,a,())) fun a=>some (a.1,())
def YU(d:Int->Int->Int×List Bool×List (Int×List Int)->Bool->Option bU)(b:zG6)(e a:Int):Option bU :=
 zC (Dz (a,())) fun c=>if (!c.1)=true then d e a b true else zC (at? b.2.1 a) fun c=>d e a b !c
def YV:=YT
def YW(x:As [.pr (.int .u32) aP,.int .u16,.int .i64]):Option bU:=YU YV x.1 x.2.1 x.2.2.1
abbrev pGj:=zp aox aoy 114 YR
theorem aDG{J a b c d}:pGj J 6 [] (YS a b c d)=YT a b c d:=by kernel_rfl
abbrev pGi:=zj aox aoy 114 YR
theorem aDH:C (pGi 6 []) YS=YV:=gNC (by decide) fun _=>aDG
theorem aDI:ak Tryz.prog (fun _=>True) 114 ⟨YR,YW⟩:=zcc (env:=aox) (d:=6) (hs:=Ev.get aoy) (aj Ev.gI (aj auy (aj aDF bq))) (fun J x=>YU (C (J 6 []) YS) x.1 x.2.1 x.2.2.1) (fun _ _=>by kernel_rfl) fun _=>by rw[aDH]<;>rfl
@[reducible] def bT:List Ty:=[.pr (.int .u8) aE]
@[reducible] def cS:List Ty:=[.pr (.sl .bool) uN]
@[reducible] def fu:Sh:=shD bT cS
def YX:Env:=(cts [(2000038,Ev.iq),(70,(⟨aok,Dx⟩:Ct)),(112,(⟨YM,iw⟩:Ct)),(113,(⟨Dy,oU⟩:Ct)),(114,(⟨YR,YW⟩:Ct))])
def YY:List (Nat×Hint):=[(3,⟨[],[1,2,3]⟩),(15,⟨[],[1,2,3]⟩),(4090,⟨[],[1,2,3,57]⟩)]
@[reducible] def zG8:Type:=Int×Int×jS×List Bool
@[reducible] def cW:Ty:=.pr (.int .u8) aE
def YZ(e:zG8)(a:List Int)(b c:List Bool)(d:List Int):St:=⟨[(1,.pe cW e),(2,.pb 0 0),(3,.pb 1 0)],78,[],[(0,.box 96 [.k (zK zH 0 0),.k (zK zH 0 0),.k (zK zH 0 0),.k (zK zH 0 0)]),(1,.box 96 [.row 2,.row 3,.row 4,dW a]),(2,.row .bool 4 b),(3,.row .bool 4 c),(4,.row (.int .u16) 23 d)],5,[],0⟩
def Y0(e:zG8)(a:List Int)(b c:List Bool)(d:List Int):St:=⟨[(1,.pe cW e),(2,.pb 0 0),(3,.pb 1 0)],78,[],[(0,.box 96 [.k (zK zH 0 0),.k (zK zH 0 0),.k (zK zH 0 0),.k (zK zH 0 0)]),(1,.box 96 [.row 2,.row 3,.row 4,dW a]),(2,.row .bool 4 b),(3,.row .bool 4 c),(4,.row (.int .u16) 23 d)],5,[],0⟩
def Y1(e:zG8)(f:Int)(a:List Int)(b c:List Bool)(d:List Int):St:=⟨[(1,.pe cW e),(2,.pb 0 0),(3,.pb 1 0),(57,dI f)],78,[],[(0,.box 96 [.k (zK zH 0 0),.k (zK zH 0 0),.k (zK zH 0 0),.k (zK zH 0 0)]),(1,.box 96 [.row 2,.row 3,.row 4,dW a]),(2,.row .bool 4 b),(3,.row .bool 4 c),(4,.row (.int .u16) 23 d)],5,[],0⟩
@[reducible] def cQ:Type:=As cS
@[reducible] def zG9:Type:=Int×Int×jS×List Bool->List Int->List Bool->List Bool->List Int->Option cQ
def Y2(d:zG9)(a:zG8)(e:List Int)(b c:List Bool)(f:List Int):Option cQ :=
 need (le (zF (0+zG b)) (zF (zG b))) (if le a.2.2.1.2.2.1 2=true then zC (at? c a.2.2.1.2.2.1) fun g=>zC (at? c a.2.2.1.2.2.1) fun g=>d a e (List.take (zI (zF (zG b))) a.2.2.2++List.drop (0+zG (List.take (zI (zF (zG b))) a.2.2.2)) b) (List.set c (zI a.2.2.1.2.2.1) true) f else d a e (List.take (zI (zF (zG b))) a.2.2.2++List.drop (0+zG (List.take (zI (zF (zG b))) a.2.2.2)) b) c f)
@[reducible] def aAa:Type:=Int×Int×jS×List Bool->Int->List Int->List Bool->List Bool->List Int->Option cQ
def Y3(g:aAa)(a:zG8)(d:List Int)(h c:List Bool)(b:List Int):Option cQ :=
 zC (oU (a.2.2.1.2.1,())) fun f=>zC (at? c 4) fun e=>zC (at? c 4) fun e=>zC (Dx (List.take 8 (List.drop 0 a.2.2.1.2.2.2.2.2.1.2.1),true,())) fun i=>zC (at? (List.set c 4 !f.1) 5) fun e=>zC (at? (List.set c 4 !f.1) 5) fun e=>need (le (zF (zG b)) (zF (zG b))) (need (le 64 (zF (zG b+0))) (need (le 64 (zF (zG b))) (need (le 256 (zF (zG (List.take 64 a.2.2.1.1++List.drop (0+zG (List.take 64 a.2.2.1.1)) b)))) (need (le (zF (zG (List.take 64 a.2.2.1.1++List.drop (0+zG (List.take 64 a.2.2.1.1)) b))) (zF (zG (List.take 64 a.2.2.1.1++List.drop (0+zG (List.take 64 a.2.2.1.1)) b)))) (need (le (256+(zF (zG (List.take 64 a.2.2.1.1++List.drop (0+zG (List.take 64 a.2.2.1.1)) b)) - 256)) (zF (zG (List.take 64 a.2.2.1.1++List.drop (0+zG (List.take 64 a.2.2.1.1)) b)))) (g a 0 d h (List.set (List.set c 4 !f.1) 5 i.1) (List.take 256 (List.take 64 a.2.2.1.1++List.drop (0+zG (List.take 64 a.2.2.1.1)) b)++List.take (zI (zF (zG (List.take 64 a.2.2.1.1++List.drop (0+zG (List.take 64 a.2.2.1.1)) b)) - 256)) d++List.drop (256+zG (List.take (zI (zF (zG (List.take 64 a.2.2.1.1++List.drop (0+zG (List.take 64 a.2.2.1.1)) b)) - 256)) d)) (List.take 64 a.2.2.1.1++List.drop (0+zG (List.take 64 a.2.2.1.1)) b))))))))
def Y4(h:aAa)(g:zG8)(a:Int)(d:List Int)(e f:List Bool)(b:List Int):Option cQ :=
 if lt a 8=true then need (ge (add .i64 512 (mul .i64 a 32)) 0) (need (le (add .i64 512 (mul .i64 a 32)) (zF (zG b))) (need (le (zF (zG b)) (zF (zG b))) (zC (at? d 0) fun c=>zC (YW (g.2.2.1.2.2.2.2.2.1,c,a,())) fun c=>need (le (add .i64 512 (mul .i64 a 32)+(zF (zG b) - add .i64 512 (mul .i64 a 32))) (zF (zG b))) (h g (add .i64 a 1) d e f (List.take (zI (add .i64 512 (mul .i64 a 32))) b++List.take (zI (zF (zG b) - add .i64 512 (mul .i64 a 32))) c.1++List.drop (zI (add .i64 512 (mul .i64 a 32))+zG (List.take (zI (zF (zG b) - add .i64 512 (mul .i64 a 32))) c.1)) b))))) else some ((e,f,b,d),())
def Y5(c:zG9)(a:zG8):Option cQ :=
 let A:=zC (iw (a.2.2.1,())) fun b=>c a b.1 (zE 16 false) (zE 8 false) (zE 756 0);
 let B:=amb (av fu.rs) [A,A];
 let C:=zC (iw (a.2.2.1,())) fun b=>let A:=c a b.1 (zE 16 false) (zE 8 false) (zE 756 0); amb (av fu.rs) [A,A];
 let D:=amb (av fu.rs) [B,amb (av fu.rs) [C,B]];
 let E:=zC (iw (a.2.2.1,())) fun b=>let A:=c a b.1 (zE 16 false) (zE 8 false) (zE 756 0); let B:=amb (av fu.rs) [A,A]; amb (av fu.rs) [B,amb (av fu.rs) [B,B]];
 let F:=amb (av fu.rs) [B,amb (av fu.rs) [B,C]];
 let G:=amb (av fu.rs) [D,amb (av fu.rs) [D,amb (av fu.rs) [E,F]]];
 amb (av fu.rs) [G,amb (av fu.rs) [G,amb (av fu.rs) [G,amb (av fu.rs) [zC (iw (a.2.2.1,())) fun b=>let A:=c a b.1 (zE 16 false) (zE 8 false) (zE 756 0); let B:=amb (av fu.rs) [A,A]; let C:=amb (av fu.rs) [B,amb (av fu.rs) [B,B]]; amb (av fu.rs) [C,amb (av fu.rs) [C,amb (av fu.rs) [C,C]]],amb (av fu.rs) [F,amb (av fu.rs) [F,amb (av fu.rs) [F,E]]]]]]]
def GR(a:zG8)(f:Int)(b:List Int)(c d:List Bool)(e:List Int):Option cQ :=
 ay (fun g a=>Y4 (fun a f b c d e=>g (a,f,b,c,d,e)) a.1 a.2.1 a.2.2.1 a.2.2.2.1 a.2.2.2.2.1 a.2.2.2.2.2) 18446744073709551616 (a,f,b,c,d,e)
def Y6:=Y3 (GR)
def Y7:=Y2 (Y6)
def oV(x:As bT):Option cQ:=Y5 Y7 x.1
abbrev pFx:=zp YX YY 47 fu
theorem aDJ{J w3 a b c d e f}:pFx J 4090 [w3] (Y1 a b c d e f)=Y4 (C w3 Y1) a b c d e f:=by kernel_rfl
theorem aDK{J a b c d e}:pFx J 15 [] (Y0 a b c d e)=Y3 (C (J 4090 []) Y1) a b c d e:=by kernel_rfl
theorem aDL{J a b c d e}:pFx J 3 [] (YZ a b c d e)=Y2 (C (J 15 []) Y0) a b c d e:=by kernel_rfl
abbrev pFw:=zj YX YY 47 fu
theorem aDM:C (pFw 4090 []) Y1=GR:=gLC (by decide) (by kernel_rfl) (fun _=>by unfold GR;rfl) fun _ _=>aDJ.trans (by kernel_rfl)
theorem aDN:C (pFw 15 []) Y0=Y6:=gNC (by decide) fun _=>aDK.trans (by rw[aDM]<;>kernel_rfl)
theorem aDO:C (pFw 3 []) YZ=Y7:=gNC (by decide) fun _=>aDL.trans (by rw[aDN]<;>kernel_rfl)
theorem auA:ak Tryz.prog (fun _=>True) 47 ⟨fu,oV⟩:=zcc (env:=YX) (d:=6) (hs:=Ev.get YY) (aj Ev.gI (aj az9 (aj aDE (aj GM (aj aDI bq))))) (fun J x=>Y5 (C (J 3 []) YZ) x.1) (fun _ _=>by kernel_rfl) fun _=>by rw[aDO]<;>rfl
@[reducible] def dQ:List Ty:=[.pr (.int .u8) pP,.bool]
@[reducible] def PW:Sh:=shD dZ dQ
def aoz:Env:=(cts [(58,(⟨Gp,xJ⟩:Ct))])
def aoA:List (Nat×Hint):=[(15,⟨[.rwb 4 2 4,.rwb 4 3 23],[2,4]⟩),(1967,⟨[],[1,2,4,33]⟩)]
def Y8(g h i j c d e f:Int)(a:List Bool)(b:List Int):St:=⟨[(2,.pb 0 0),(4,.pb 1 0)],40,[],[(0,.box 46 [d8 g,d8 h,.k (zK zH 0 0),.k (zK zH 0 0),d6 i,d6 j]),(1,.box 46 [d8 c,d8 d,.row 2,.row 3,d6 e,d6 f]),(2,.row .bool 4 a),(3,.row (.int .u16) 23 b)],4,[],0⟩
def Y9(o:Bool)(a b c d:Int)(e:List Int)(f:List Bool)(k l m n g h i j:Int):St:=⟨[(1,.pb 0 0),(2,.pb 1 0),(4,.pb 2 0),(33,dB o)],40,[],[(0,.box 44 [d8 a,d6 b,d6 c,d6 d,dW e,.d (.sl .bool) f]),(1,.box 46 [d8 k,d8 l,.k (zK zH 0 0),.k (zK zH 0 0),d6 m,d6 n]),(2,.box 46 [d8 g,d8 h,.k (zK zH 0 0),.k (zK zH 0 0),d6 i,d6 j])],3,[],0⟩
def auB(g h i j c d e f:Int)(a:List Bool)(b:List Int):Option (As dQ) :=
 some ((c,d,a,b,e,f),true,())
@[reducible] def aAb:Type:=Int->Int->Int->Int->Int->Int->Int->Int->List Bool->List Int->Option (As dQ)
def auC(b:aAb)(j:Bool)(k l a m:Int)(n:List Int)(o:List Bool)(f g h i c d e p:Int):Option (As dQ) :=
 if j=true then b f g h i c d e a [] [] else some ((0,0,[],[],0,0),false,())
def GU(c:aAb)(d:Bool->Int->Int->Int->Int->List Int->List Bool->Int->Int->Int->Int->Int->Int->Int->Int->Option (As dQ))(a:zG4):Option (As dQ) :=
 zC (xJ (a,())) fun b=>if (!b.1)=true then some ((0,0,[],[],0,0),false,()) else if eqi a.1 5=true then zC (at? a.2.2.2.2.2 0) fun b=>c 0 0 0 0 a.1 0 a.2.1 0 [b] [] else if eqi a.1 6=true then zC (at? a.2.2.2.2.1 0) fun b=>c 0 0 0 0 a.1 0 a.2.1 0 [] [b] else if eqi a.1 15=true then d true a.1 a.2.1 a.2.2.1 a.2.2.2.1 a.2.2.2.2.1 a.2.2.2.2.2 0 0 0 0 a.1 0 a.2.1 0 else d (eqi a.1 16) a.1 a.2.1 a.2.2.1 a.2.2.2.1 a.2.2.2.2.1 a.2.2.2.2.2 0 0 0 0 a.1 0 a.2.1 0
def PX:=auB
def Za:=auC (PX)
def xQ(x:As dZ):Option (As dQ):=GU PX Za x.1
abbrev pFj:=zp aoz aoA 68 PW
theorem aDP{J a b c d e f g h i j}:pFj J 15 [] (Y8 a b c d e f g h i j)=auB a b c d e f g h i j:=by kernel_rfl
theorem aDQ{J a b c d e f g h i j k l m n o}:pFj J 1967 [] (Y9 a b c d e f g h i j k l m n o)=auC (C (J 15 []) Y8) a b c d e f g h i j k l m n o:=by kernel_rfl
abbrev pFi:=zj aoz aoA 68 PW
theorem auD:C (pFi 15 []) Y8=PX:=gNC (by decide) fun _=>aDP
theorem aDR:C (pFi 1967 []) Y9=Za:=gNC (by decide) fun _=>aDQ.trans (by rw[auD]<;>kernel_rfl)
theorem auE:ak Tryz.prog (fun _=>True) 68 ⟨PW,xQ⟩:=zcc (env:=aoz) (d:=6) (hs:=Ev.get aoA) (aj WV bq) (fun J x=>GU (C (J 15 []) Y8) (C (J 1967 []) Y9) x.1) (fun _ _=>by kernel_rfl) fun _=>by rw[auD,aDR]<;>rfl
@[reducible] def aoB:Sh:=shD [.pr gW (.sl .bool),.bool] [.bool]
def aoC:Env:=(cts [])
def aoD:List (Nat×Hint):=[(122,⟨[],[1,2,5,13,14,15,24,25,26,27,28,29,32,33,34,37,38,39,40,41,42,43,44,45,49,50]⟩),(31334,⟨[.agd 50 .bool],[1,2,7,13,14,15,51]⟩),(15666,⟨[.agd 25 (.int .i64),.agd 27 (.sl .bool),.agd 28 (.int .i64),.agd 29 .bool,.agd 33 (.int .i64),.agd 34 .bool,.agd 38 (.int .i64),.agd 40 (.sl .bool),.agd 41 (.int .i64),.agd 43 (.int .i64),.agd 44 (.int .i64),.agd 45 .bool],[1,2,7,13,14,15,46]⟩)]
def Ar(c:Bool)(b:Int)(d:List dw)(e f:Int)(a:zG3):St:=⟨[(1,dB c),(2,.pb 0 0),(5,dI b),(13,.d gW d),(14,dI e),(15,dI f)],58,[],[(0,.box 170 [.d gW a.1,.d (.sl .bool) a.2])],1,[],0⟩
def aoE(c:Bool)(d:List dw)(e f:Int)(g:Bool)(b:zG3)(a:jg):St:=⟨[(1,dB c),(2,.pb 0 0),(7,.pb 1 0),(13,.d gW d),(14,dI e),(15,dI f),(46,dB g)],58,[],[(0,.box 170 [.d gW b.1,.d (.sl .bool) b.2]),(1,.box 168 [dI a.1,dI a.2.1,dB a.2.2.1,dB a.2.2.2.1,dB a.2.2.2.2])],2,[],0⟩
def aoF(c:Bool)(d:List dw)(e f:Int)(g:Bool)(b:zG3)(a:jg):St:=⟨[(1,dB c),(2,.pb 0 0),(7,.pb 1 0),(13,.d gW d),(14,dI e),(15,dI f),(51,dB g)],58,[],[(0,.box 170 [.d gW b.1,.d (.sl .bool) b.2]),(1,.box 168 [dI a.1,dI a.2.1,dB a.2.2.1,dB a.2.2.2.1,dB a.2.2.2.2])],2,[],0⟩
@[reducible] def GV:Type:=Bool->Int->List dw->Int->Int->List dw×List Bool->Option aD
def PY(g:Bool->List dw->Int->Int->Bool->List dw×List Bool->jg->Option aD)(i:GV)(f:Bool)(h:Int)(d:List dw)(e c:Int)(b:zG3):Option aD :=
 if lt c e=true then zC (at? d c) fun a=>if lt a.1 h=true then g f d e c true b a else if gt a.1 (zF (zG b.2))=true then g f d e c true b a else if lt a.2.1 1=true then g f d e c true b a else g f d e c (gt a.2.1 (Sx.sub .i64 (zF (zG b.2)) a.1)) b a else some (true,())
def aoG(c:Bool->List dw->Int->Int->Bool->List dw×List Bool->jg->Option aD)(i:GV)(a:Bool)(e:List dw)(f g:Int)(h:Bool)(d:zG3)(b:jg):Option aD :=
 if h=true then some (false,()) else if a=true then c a e f g b.2.2.2.1 d b else c a e f g false d b
def aoH(c:GV)(b:Bool)(e:List dw)(f g:Int)(h:Bool)(d:zG3)(a:jg):Option aD :=
 if h=true then some (false,()) else c b (add .i64 a.1 a.2.1) e f (add .i64 g 1) d
def Zb(c:GV)(a:zG3)(b:Bool):Option aD :=
 if gt (zF (zG a.2)) 65536=true then some (false,()) else c b 0 a.1 (zF (zG a.1)) 0 a
def Zc(a:GV):=aoH a
def Zd(a:GV):=aoG (Zc a) a
def GX(c:Bool)(b:Int)(e:List dw)(f g:Int)(d:zG3):Option aD :=
 ay (fun h a=>PY (Zd (fun c b e f g d=>h (c,b,e,f,g,d))) (fun c b e f g d=>h (c,b,e,f,g,d)) a.1 a.2.1 a.2.2.1 a.2.2.2.1 a.2.2.2.2.1 a.2.2.2.2.2) 18446744073709551616 (c,b,e,f,g,d)
def Ze(x:As [.pr gW (.sl .bool),.bool]):Option aD:=Zb GX x.1 x.2.1
abbrev pCf:=zp aoC aoD 118 aoB
theorem aDS{J w1 a b c d e f g}:pCf J 31334 [w1] (aoF a b c d e f g)=aoH (C w1 Ar) a b c d e f g:=by kernel_rfl
theorem aDT{J w1 a b c d e f g}:pCf J 15666 [w1] (aoE a b c d e f g)=aoG (C (J 31334 [w1]) aoF) (C w1 Ar) a b c d e f g:=by kernel_rfl
theorem aDU{J w1 a b c d e f}:pCf J 122 [w1] (Ar a b c d e f)=PY (C (J 15666 [w1]) aoE) (C w1 Ar) a b c d e f:=by kernel_rfl
abbrev pCe:=zj aoC aoD 118 aoB
theorem aDV{w1}:C (pCe 31334 [w1]) aoF=Zc (C w1 Ar):=gNC (by decide) fun _=>aDS
theorem aDW{w1}:C (pCe 15666 [w1]) aoE=Zd (C w1 Ar):=gNC (by decide) fun _=>aDT.trans (by rw[aDV]<;>kernel_rfl)
theorem aDX:C (pCe 122 []) Ar=GX:=gLC (by decide) (by kernel_rfl) (fun _=>by unfold GX;rfl) fun _ _=>aDU.trans (by rw[aDW]<;>kernel_rfl)
theorem aDY:ak Tryz.prog (fun _=>True) 118 ⟨aoB,Ze⟩:=zcc (env:=aoC) (d:=6) (hs:=Ev.get aoD) bq (fun J x=>Zb (C (J 122 []) Ar) x.1 x.2.1) (fun _ _=>by kernel_rfl) fun _=>by rw[aDX]<;>rfl
end Go.Proofs.Lx
end
