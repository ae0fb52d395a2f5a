/- Proved in the last of these 15 parts (this is part 13): PlanText. Conditions: those of the given statement, and no others. -/
import Derived.Test.YtnamnibaedolaaaGreatDoorParte
import Derived.Test.YtnamnibaedolaaaGreatDoorProg
import Derived.Test.YtnamnibaedolaaaGreatDoorParti
import Derived.Test.YtnamnibaedolaaaGreatDoorPartl
import Derived.Test.YtnamnibaedolaaaGreatDoorPartk
import Derived.Test.YtnamnibaedolaaaGreatDoorPartj
set_option linter.unusedVariables false
set_option linter.unusedSimpArgs false
set_option linter.unusedSectionVars false
open Option renaming bind → zA, bind_some → zB
open Int renaming ofNat → zD, toNat → zG
open List renaming length → zE, mem_cons_of_mem → zO, getElem?_eq_getElem → zQ, mem_of_getElem? → zT, length_map → zV
open Bool renaming and_eq_true → zL
noncomputable section
open Go Go.Proofs Ev Sx
set_option maxRecDepth 100000
namespace Go.Proofs.Lx
abbrev Db:Type:=(List UInt8×(Int×Int)×List UInt8×Int)
abbrev bP:Type:=(List UInt8×Int×List Db)
abbrev cB:Type:=(List UInt8×List (List UInt8×Int×Int×Bool×(Int×Int)×(Int×Int)×List UInt8))
abbrev dH:Ty:=(.pr .str (.pr (.int .i64) (.sl (.pr .str (.pr aF (.pr .str (.int .i64)))))))
abbrev jQ:Ty:=aK
abbrev bQ:Ty:=(.pr (.int .i64) (.sl jQ))
abbrev ji:Ty:=(.pr .str (.sl (.pr .str (.pr (.int .i64) (.pr (.int .i64) (.pr .bool (.pr aF (.pr aF .str))))))))
abbrev bJ:Type:=(Int×List (Int×List Int))
@[reducible] def Qy:Sh:=shD [.sl (.int .u16),.sl (.int .u16)] [.bool]
def afy:Env:=(cts [])
def afz:List (Nat×Hint):=[(58,⟨[],[0,1,12,13]⟩)]
def Yb(a b:List Int)(c d:Int):St:=⟨[(0,dW a),(1,dW b),(12,dI c),(13,dI d)],26,[],[],0,[],0⟩
def Kq(e:List Int->List Int->Int->Int->Option aA)(b c:List Int)(d a:Int):Option aA :=
 if lt a d=true then zA (at? b a) fun f=>zA (at? c a) fun g=>if nei f g=true then some (false,()) else e b c d (add .i64 a 1) else some (true,())
def Yc(c:List Int->List Int->Int->Int->Option aA)(a b:List Int):Option aA :=
 if nei (zD (zE a)) (zD (zE b))=true then some (false,()) else c a b (zD (zE a)) 0
def Qz(b c:List Int)(d e:Int):Option aA :=
 aj (fun f a=>Kq (fun b c d e=>f (b,c,d,e)) a.1 a.2.1 a.2.2.1 a.2.2.2) 18446744073709551616 (b,c,d,e)
def Kr(x:As [.sl (.int .u16),.sl (.int .u16)]):Option aA:=Yc Qz x.1 x.2.1
abbrev pAd:=zp afy afz 31 Qy
theorem atq{J w1 a b c d}:pAd J 58 [w1] (Yb a b c d)=Kq (C w1 Yb) a b c d:=by kernel_rfl
abbrev pAc:=zj afy afz 31 Qy
theorem atr:C (pAc 58 []) Yb=Qz:=gLC (by decide) (by kernel_rfl) (fun _=>by unfold Qz;rfl) fun _ _=>atq.trans (by kernel_rfl)
theorem ak4:au Tryz.prog I0 31 ⟨Qy,Kr⟩:=zcc (env:=afy) (d:=6) (hs:=Ev.get afz) bN (fun J x=>Yc (C (J 58 []) Yb) x.1 x.2.1) (fun _ _=>by kernel_rfl) fun _=>by rw[atr]<;>rfl
@[reducible] def QA:Sh:=shD [.sl jQ,.sl jQ] [.bool]
def afA:Env:=(cts [(31,(⟨Qy,Kr⟩:Ct))])
def afB:List (Nat×Hint):=[(58,⟨[],[0,1,12,13,28,29,30,31,32,33,34,35,36,37,38,39]⟩),(3737,⟨[.agd 28 (.sl jQ),.agd 29 (.int .i64),.agd 32 aR,.agd 33 (.sl jQ),.agd 34 (.int .i64),.agd 37 aR,.agd 38 .bool,.agd 39 .bool],[0,1,12,13,40]⟩)]
@[reducible] def zM0:Type:=List (Int×List Int)
def Ks(a b:zM0)(c d:Int):St:=⟨[(0,.d (.sl jQ) a),(1,.d (.sl jQ) b),(12,dI c),(13,dI d)],42,[],[],0,[],0⟩
def afC(a b:zM0)(c d:Int)(e:Bool):St:=⟨[(0,.d (.sl jQ) a),(1,.d (.sl jQ) b),(12,dI c),(13,dI d),(40,dB e)],42,[],[],0,[],0⟩
@[reducible] def zM1:Type:=List (Int×List Int)->List (Int×List Int)->Int->Int->Option aA
def Ku(f:List (Int×List Int)->List (Int×List Int)->Int->Int->Bool->Option aA)(i:zM1)(c d:zM0)(e a:Int):Option aA :=
 if lt a e=true then zA (at? c a) fun b=>zA (at? d a) fun g=>if nei b.1 g.1=true then f c d e a true else zA (at? c a) fun b=>zA (at? d a) fun h=>zA (Kr (b.2,h.2,())) fun b=>f c d e a !b.1 else some (true,())
def Yd(c:zM1)(a b:zM0)(d e:Int)(f:Bool):Option aA :=
 if f=true then some (false,()) else c a b d (add .i64 e 1)
def Ye(c:zM1)(a b:zM0):Option aA :=
 if nei (zD (zE a)) (zD (zE b))=true then some (false,()) else c a b (zD (zE a)) 0
def QB(a:zM1):=Yd a
def QC(a b:zM0)(c d:Int):Option aA :=
 aj (fun f e=>Ku (QB (fun a b c d=>f (a,b,c,d))) (fun a b c d=>f (a,b,c,d)) e.1 e.2.1 e.2.2.1 e.2.2.2) 18446744073709551616 (a,b,c,d)
def F4(x:As [.sl jQ,.sl jQ]):Option aA:=Ye QC x.1 x.2.1
abbrev pAl:=zp afA afB 30 QA
theorem att{J w1 a b c d e}:pAl J 3737 [w1] (afC a b c d e)=Yd (C w1 Ks) a b c d e:=by kernel_rfl
theorem atu{J w1 a b c d}:pAl J 58 [w1] (Ks a b c d)=Ku (C (J 3737 [w1]) afC) (C w1 Ks) a b c d:=by kernel_rfl
abbrev pAk:=zj afA afB 30 QA
theorem atv{w1}:C (pAk 3737 [w1]) afC=QB (C w1 Ks):=gNC (by decide) fun _=>att
theorem atw:C (pAk 58 []) Ks=QC:=gLC (by decide) (by kernel_rfl) (fun _=>by unfold QC;rfl) fun _ _=>atu.trans (by rw[atv]<;>kernel_rfl)
theorem ak5:au Tryz.prog I0 30 ⟨QA,F4⟩:=zcc (env:=afA) (d:=6) (hs:=Ev.get afB) (av ak4 bN) (fun J x=>Ye (C (J 58 []) Ks) x.1 x.2.1) (fun _ _=>by kernel_rfl) fun _=>by rw[atw]<;>rfl
@[reducible] def aH:List Ty:=[.sl (.int .u16)]
@[reducible] def afD:Sh:=⟨[.d aR],[],aH,[.row 0],[(0,.row (.int .u16) 73)],1,aH⟩
@[reducible] def aG:Type:=As aH
def afE(s:List Int):Option aG :=
 if eqi (zD (zE s)) 0=true then amb (iw afD.rs) [some ([],()),need (small (0+zE s)) (some (s,()))] else need (small (0+zE s)) (some (s,()))
def Yf(x:As aH):Option aG:=afE x.1
theorem atx:au Tryz.prog I0 64 ⟨afD,Yf⟩:=ctn bN 6 fun J x=>by kernel_rfl
@[reducible] def Yg:Sh:=shD [.sl (.int .u16),.sl jQ] aH
def afF:Env:=(cts [(64,(⟨afD,Yf⟩:Ct))])
def afG:List (Nat×Hint):=[(58,⟨[],[0,12,13,14,33,34,35,36]⟩),(14950,⟨[],[0,6,12,13,14,19,20,21,33,34,35,36]⟩),(1913651,⟨[.agd 33 (.int .i64),.agd 35 (.int .i64),.agd 36 .bool],[0,6,8,9,12,13,14,19,20,21,37]⟩)]
def Dc(b:zM0)(c d:Int)(a:List Int):St:=⟨[(0,.row 0),(12,.d (.sl jQ) b),(13,dI c),(14,dI d)],45,[],[(0,.row (.int .u16) 73 a)],1,[],0⟩
def Kv(c:zM0)(d e:Int)(f:List Int)(g h:Int)(b:List Int)(a:Int×List Int):St:=⟨[(0,.row 0),(6,.pb 1 0),(12,.d (.sl jQ) c),(13,dI d),(14,dI e),(19,dW f),(20,dI g),(21,dI h)],45,[],[(0,.row (.int .u16) 73 b),(1,.box 78 [dI a.1,dW a.2])],2,[],0⟩
def afH(k b:Int)(d:zM0)(e f:Int)(g:List Int)(h i:Int)(j:Bool)(c:List Int)(a:Int×List Int):St:=⟨[(0,.row 0),(6,.pb 1 0),(8,d6 k),(9,dI b),(12,.d (.sl jQ) d),(13,dI e),(14,dI f),(19,dW g),(20,dI h),(21,dI i),(37,dB j)],45,[],[(0,.row (.int .u16) 73 c),(1,.box 78 [dI a.1,dW a.2])],2,[],0⟩
@[reducible] def zM2:Type:=List (Int×List Int)->Int->Int->List Int->Int->Int->List Int->Int×List Int->Option aG
@[reducible] def zM3:Type:=List (Int×List Int)->Int->Int->List Int->Option aG
def Kw(f:zM2)(g:zM3)(d:zM0)(e a:Int)(c:List Int):Option aG :=
 if lt a e=true then zA (at? d a) fun b=>f d e a b.2 (zD (zE b.2)) 0 c b else some (c,())
def Ky(i:Int->Int->List (Int×List Int)->Int->Int->List Int->Int->Int->Bool->List Int->Int×List Int->Option aG)(k:zM3)(l:zM2)(d:zM0)(e f:Int)(g:List Int)(h a:Int)(c:List Int)(b:Int×List Int):Option aG :=
 if lt a h=true then zA (at? g a) fun j=>if ge (add .i64 b.1 a) 0=true then i j (add .i64 b.1 a) d e f g h a (lt (add .i64 b.1 a) (zD (zE c))) c b else i j (add .i64 b.1 a) d e f g h a false c b else k d e (add .i64 f 1) c
def Yh(m:zM3)(c:zM2)(l b:Int)(d:zM0)(e f:Int)(g:List Int)(h i:Int)(k:Bool)(a:List Int)(j:Int×List Int):Option aG :=
 if k=true then zA (at? a b) fun n=>zA (at? a b) fun o=>c d e f g h (add .i64 i 1) (List.set a (zG b) l) j else c d e f g h (add .i64 i 1) a j
def Yi(c:zM3)(b:List Int)(a:zM0):Option aG :=
 zA (Yf (b,())) fun d=>c a (zD (zE a)) 0 d.1
def QD(a:zM3)(b:zM2):=Yh a b
def Kz(k:zM3)(c:zM0)(d e:Int)(f:List Int)(g h:Int)(b:List Int)(i:Int×List Int):Option aG :=
 aj (fun j a=>Ky (QD k (fun c d e f g h b i=>j (c,d,e,f,g,h,b,i))) k (fun c d e f g h b i=>j (c,d,e,f,g,h,b,i)) a.1 a.2.1 a.2.2.1 a.2.2.2.1 a.2.2.2.2.1 a.2.2.2.2.2.1 a.2.2.2.2.2.2.1 a.2.2.2.2.2.2.2) 18446744073709551616 (c,d,e,f,g,h,b,i)
def QE(b:zM0)(c d:Int)(a:List Int):Option aG :=
 aj (fun f e=>Kw (Kz (fun b c d a=>f (b,c,d,a))) (fun b c d a=>f (b,c,d,a)) e.1 e.2.1 e.2.2.1 e.2.2.2) 18446744073709551616 (b,c,d,a)
def Yj(x:As [.sl (.int .u16),.sl jQ]):Option aG:=Yi QE x.1 x.2.1
abbrev pA5:=zp afF afG 32 Yg
theorem aty{J w1 w2 a b c d e f g h i j k}:pA5 J 1913651 [w1,w2] (afH a b c d e f g h i j k)=Yh (C w1 Dc) (C w2 Kv) a b c d e f g h i j k:=by kernel_rfl
theorem atz{J w1 w2 a b c d e f g h}:pA5 J 14950 [w1,w2] (Kv a b c d e f g h)=Ky (C (J 1913651 [w1,w2]) afH) (C w1 Dc) (C w2 Kv) a b c d e f g h:=by kernel_rfl
theorem atA{J w1 a b c d}:pA5 J 58 [w1] (Dc a b c d)=Kw (C (J 14950 [w1]) Kv) (C w1 Dc) a b c d:=by kernel_rfl
abbrev pA4:=zj afF afG 32 Yg
theorem atB{w1 w2}:C (pA4 1913651 [w1,w2]) afH=QD (C w1 Dc) (C w2 Kv):=gNC (by decide) fun _=>aty
theorem atC{w1}:C (pA4 14950 [w1]) Kv=Kz (C w1 Dc):=gLC (by decide) (by kernel_rfl) (fun _=>by unfold Kz;rfl) fun _ _=>atz.trans (by rw[atB]<;>kernel_rfl)
theorem atD:C (pA4 58 []) Dc=QE:=gLC (by decide) (by kernel_rfl) (fun _=>by unfold QE;rfl) fun _ _=>atA.trans (by rw[atC]<;>kernel_rfl)
theorem atE:au Tryz.prog I0 32 ⟨Yg,Yj⟩:=zcc (env:=afF) (d:=6) (hs:=Ev.get afG) (av atx bN) (fun J x=>Yi (C (J 58 []) Dc) x.1 x.2.1) (fun _ _=>by kernel_rfl) fun _=>by rw[atD]<;>rfl
@[reducible] def KA:Sh:=shD [] [.bool]
def Yk:Env:=(cts [(29,(⟨FU,Kl⟩:Ct)),(30,(⟨QA,F4⟩:Ct)),(31,(⟨Qy,Kr⟩:Ct)),(32,(⟨Yg,Yj⟩:Ct))])
def Yl:List (Nat×Hint):=[(15,⟨[],[1,2,3,37,40,41,44,45,46,47,48,49,50,53,54,55,58,59,60,61,62,63,66,67,68,69,70,73,74,75,76,77]⟩),(122,⟨[],[1,2,3,16,37,40,41,44,45,46,47,48,49,50,53,54,55,58,59,60,61,62,63,66,67,68,69,70,73,74,75,76,77]⟩)]
@[reducible] def zM4:Type:=List (Int×Int)
def Ym(a:zM0)(d:Bool)(c:Int)(b:zM4):St:=⟨[(1,.d (.sl jQ) a),(2,dB d),(3,.mp 0),(16,dI c)],79,[],[(0,.dm (.int .i64) (.int .u16) b)],1,[],0⟩
def afI(a:zM0)(x:Bool)(m:zM4):St:=⟨[(1,.d (.sl jQ) a),(2,dB x),(3,.mp 0)],79,[],[(0,.dm (.int .i64) (.int .u16) m)],1,[],0⟩
@[reducible] def zM5:Type:=List (Int×List Int)->Bool->Int->List (Int×Int)->Option aA
def ak6(e:List (Int×List Int)->Bool->List (Int×Int)->Option aA)(f:zM5)(b:zM0)(d:Bool)(a:Int)(c:zM4):Option aA :=
 if lt a 15=true then f b d (add .i64 a 1) (Ev.dh (.int .i64) c a (cvt .u16 a)) else e b d c
def Yn(b:zM0)(d:Bool)(c:zM4):Option aA :=
 zA (Kl (c,())) fun a=>zA (Kl ([(64,1)],())) fun e=>if d=true then if a.2.1=true then if (!e.2.1)=true then zA (F4 (b,[(3,[7,8]),(6,[9])],())) fun f=>if f.1=true then if eqi (zD (zE a.1)) 2=true then zA (at? a.1 0) fun g=>if eqi (zD (zE g.2)) 14=true then zA (at? a.1 1) fun a=>if eqi a.1 14=true then zA (Yj ([0,0,0,0,0,0,0],b,())) fun a=>zA (Kr (a.1,[0,0,0,7,8,0,9],())) fun a=>some (a.1,()) else some (false,()) else some (false,()) else some (false,()) else some (false,()) else some (false,()) else some (false,()) else some (false,())
def Yo(b:zM5):Option aA :=
 zA (Kl ([(3,7),(4,8),(6,9)],())) fun a=>b a.1 a.2.1 0 []
def afJ:=Yn
def KB(b:zM0)(e:Bool)(d:Int)(c:zM4):Option aA :=
 aj (fun f a=>ak6 (afJ) (fun b e d c=>f (b,e,d,c)) a.1 a.2.1 a.2.2.1 a.2.2.2) 18446744073709551616 (b,e,d,c)
def Bh(x:As []):Option aA:=Yo KB
abbrev pAp:=zp Yk Yl 10 KA
theorem atF{J a b c}:pAp J 15 [] (afI a b c)=Yn a b c:=by kernel_rfl
theorem atG{J w1 a b c d}:pAp J 122 [w1] (Ym a b c d)=ak6 (C (J 15 []) afI) (C w1 Ym) a b c d:=by kernel_rfl
theorem atH(J:Orc aA)(x:As []):rfn Tryz.prog Yk 6 18446744073709551616 (Ev.get Yl) 10 KA J x=Yo (C (J 122 []) Ym):=by kernel_rfl
abbrev pAo:=zj Yk Yl 10 KA
theorem atI:C (pAo 15 []) afI=afJ:=gNC (by decide) fun _=>atF
theorem atJ:C (pAo 122 []) Ym=KB:=gLC (by decide) (by kernel_rfl) (fun _=>by unfold KB;rfl) fun _ _=>atG.trans (by rw[atI]<;>kernel_rfl)
theorem atK(x:As []):evT Tryz.prog Yk 6 18446744073709551616 (Ev.get Yl) 10 KA x=Bh x:=by rw[Ch,atH,atJ]<;>rfl
theorem atL:au Tryz.prog I0 10 ⟨KA,Bh⟩:=Cg (av ath (av ak5 (av ak4 (av atE bN)))) atK
@[reducible] def QF:Sh:=shD [.sl ji,.pr .str (.sl dH)] [.sl bQ,.pr (.int .i64) (.int .i64)]
def afK:Env:=(cts [(15,(⟨E6,lq⟩:Ct)),(29,(⟨C6,yE⟩:Ct)),(33,(⟨oH,Kn⟩:Ct))])
def afL:List (Nat×Hint):=[(15,⟨[],[5,6]⟩),(63,⟨[],[5,14]⟩),(506,⟨[.row 14 52],[5,14,58,59,60]⟩),(122,⟨[],[0,5,6,30,31,32]⟩)]
@[reducible] def aS:Type:=List (Int×Int)
@[reducible] def zM6:Type:=List aS
@[reducible] def aN:Ty:=.sl aO
def Yp(b:List cB)(f:zM6)(c:List bP)(d e:Int)(a:Int×Int):St:=⟨[(0,.d (.sl ji) b),(5,.pb 0 0),(6,.d aN f),(30,.d (.sl dH) c),(31,dI d),(32,dI e)],82,[],[(0,.box 33 [dI a.1,dI a.2])],1,[],0⟩
def afM(b:zM6)(a:Int×Int):St:=⟨[(5,.pb 0 0),(6,.d aN b)],82,[],[(0,.box 33 [dI a.1,dI a.2])],1,[],0⟩
def Yq(c:zM6)(d e:Int)(a:Int×Int)(b:List bJ):St:=⟨[(5,.pb 0 0),(14,.row 1),(58,.d aN c),(59,dI d),(60,dI e)],82,[],[(0,.box 33 [dI a.1,dI a.2]),(1,.row bQ 52 b)],2,[],0⟩
def afN(a:Int×Int)(b:List bJ):St:=⟨[(5,.pb 0 0),(14,.row 1)],82,[],[(0,.box 33 [dI a.1,dI a.2]),(1,.row bQ 52 b)],2,[],0⟩
@[reducible] def zM7:Type:=List cB->List aS->List bP->Int->Int->Int×Int->Option (As [.sl bQ,.pr (.int .i64) (.int .i64)])
def F5(j:List aS->Int×Int->Option (As [.sl bQ,.pr (.int .i64) (.int .i64)]))(g:zM7)(c:List cB)(b:zM6)(d:List bP)(e a:Int)(f:Int×Int):Option (As [.sl bQ,.pr (.int .i64) (.int .i64)]) :=
 if lt a e=true then zA (at? d a) fun h=>zA (lq (c,h.1,())) fun i=>if i.2.1=true then zA (at? b i.1) fun k=>zA (yE (k,())) fun l=>if (!l.2.1)=true then some ([],(160,h.2.1),()) else g c b d e (add .i64 a 1) f else g c b d e (add .i64 a 1) f else j b f
@[reducible] def zM8:Type:=List aS->Int->Int->Int×Int->List bJ->Option (As [.sl bQ,.pr (.int .i64) (.int .i64)])
def ak7(b:zM8)(a:zM6)(c:Int×Int):Option (As [.sl bQ,.pr (.int .i64) (.int .i64)]) :=
 b a (zD (zE a)) 0 c []
def F6(h:Int×Int->List bJ->Option (As [.sl bQ,.pr (.int .i64) (.int .i64)]))(g:zM8)(e:zM6)(f a:Int)(d:Int×Int)(b:List bJ):Option (As [.sl bQ,.pr (.int .i64) (.int .i64)]) :=
 if lt a f=true then zA (at? e a) fun c=>zA (yE (c,())) fun c=>if gt (zD (zE c.1)) 0=true then need (small (zE b+Nat.succ 0)) (g e f (add .i64 a 1) d (b++[(a,c.1)])) else g e f (add .i64 a 1) d b else h d b
def ak8(b:Int×Int)(a:List bJ):Option (As [.sl bQ,.pr (.int .i64) (.int .i64)]) :=
 some (a,(0,0),())
@[reducible] def zM9:Type:=List UInt8×List bP
def KC(d:zM7)(c:List cB)(b:zM9):Option (As [.sl bQ,.pr (.int .i64) (.int .i64)]) :=
 zA (Kn (c,b,())) fun a=>if (!(eqi a.2.1.1 0 && (eqi a.2.1.2 0 && true)))=true then some ([],a.2.1,()) else d c a.1 b.2 (zD (zE b.2)) 0 (0,0)
def Yr:=ak8
def KD(d:zM6)(e f:Int)(c:Int×Int)(b:List bJ):Option (As [.sl bQ,.pr (.int .i64) (.int .i64)]) :=
 aj (fun g a=>F6 (Yr) (fun d e f c b=>g (d,e,f,c,b)) a.1 a.2.1 a.2.2.1 a.2.2.2.1 a.2.2.2.2) 18446744073709551616 (d,e,f,c,b)
def QG:=ak7 (KD)
def KE(b:List cB)(g:zM6)(c:List bP)(d e:Int)(f:Int×Int):Option (As [.sl bQ,.pr (.int .i64) (.int .i64)]) :=
 aj (fun h a=>F5 (QG) (fun b g c d e f=>h (b,g,c,d,e,f)) a.1 a.2.1 a.2.2.1 a.2.2.2.1 a.2.2.2.2.1 a.2.2.2.2.2) 18446744073709551616 (b,g,c,d,e,f)
def F7(x:As [.sl ji,.pr .str (.sl dH)]):Option (As [.sl bQ,.pr (.int .i64) (.int .i64)]):=KC KE x.1 x.2.1
abbrev pA1:=zp afK afL 11 QF
theorem atM{J a b}:pA1 J 63 [] (afN a b)=ak8 a b:=by kernel_rfl
theorem atN{J w3 a b c d e}:pA1 J 506 [w3] (Yq a b c d e)=F6 (C (J 63 []) afN) (C w3 Yq) a b c d e:=by kernel_rfl
theorem atO{J a b}:pA1 J 15 [] (afM a b)=ak7 (C (J 506 []) Yq) a b:=by kernel_rfl
theorem atP{J w1 a b c d e f}:pA1 J 122 [w1] (Yp a b c d e f)=F5 (C (J 15 []) afM) (C w1 Yp) a b c d e f:=by kernel_rfl
abbrev pA0:=zj afK afL 11 QF
theorem atQ:C (pA0 63 []) afN=Yr:=gNC (by decide) fun _=>atM
theorem atS:C (pA0 506 []) Yq=KD:=gLC (by decide) (by kernel_rfl) (fun _=>by unfold KD;rfl) fun _ _=>atN.trans (by rw[atQ]<;>kernel_rfl)
theorem atT:C (pA0 15 []) afM=QG:=gNC (by decide) fun _=>atO.trans (by rw[atS]<;>kernel_rfl)
theorem atU:C (pA0 122 []) Yp=KE:=gLC (by decide) (by kernel_rfl) (fun _=>by unfold KE;rfl) fun _ _=>atP.trans (by rw[atT]<;>kernel_rfl)
theorem atV:au Tryz.prog I0 11 ⟨QF,F7⟩:=zcc (env:=afK) (d:=6) (hs:=Ev.get afL) (av (jN IX) (av akL (av atn bN))) (fun J x=>KC (C (J 122 []) Yp) x.1 x.2.1) (fun _ _=>by kernel_rfl) fun _=>by rw[atU]<;>rfl
@[reducible] def QI:Sh:=⟨[.d (.sl ji),.agg [.d .str,.row 0]],[.row dH 43],[.sl ji,.str,.sl dH],[.d (.sl bQ),.d aW],[(0,.row dH 43)],0,[.sl bQ,.pr (.int .i64) (.int .i64),.sl dH]⟩
def afO:Env:=(cts [(15,(⟨E6,lq⟩:Ct)),(29,(⟨C6,yE⟩:Ct)),(33,(⟨Da,X9⟩:Ct))])
def afP:List (Nat×Hint):=[(15,⟨[],[5,6]⟩),(63,⟨[],[5,14]⟩),(506,⟨[.row 14 52],[5,14,58,59,60]⟩),(122,⟨[],[0,5,6,30,31,32]⟩)]
def Yt(b:List cB)(f:zM6)(d e:Int)(c:List bP)(a:Int×Int):St:=⟨[(0,.d (.sl ji) b),(5,.pb 1 0),(6,.d aN f),(30,.row 0),(31,dI d),(32,dI e)],82,[],[(0,.row dH 43 c),(1,.box 33 [dI a.1,dI a.2])],2,[],1⟩
def afQ(c:zM6)(b:List bP)(a:Int×Int):St:=⟨[(5,.pb 1 0),(6,.d aN c)],82,[],[(0,.row dH 43 b),(1,.box 33 [dI a.1,dI a.2])],2,[],1⟩
def Yu(d:zM6)(e f:Int)(c:List bP)(a:Int×Int)(b:List bJ):St:=⟨[(5,.pb 1 0),(14,.row 2),(58,.d aN d),(59,dI e),(60,dI f)],82,[],[(0,.row dH 43 c),(1,.box 33 [dI a.1,dI a.2]),(2,.row bQ 52 b)],3,[],1⟩
def afR(c:List bP)(a:Int×Int)(b:List bJ):St:=⟨[(5,.pb 1 0),(14,.row 2)],82,[],[(0,.row dH 43 c),(1,.box 33 [dI a.1,dI a.2]),(2,.row bQ 52 b)],3,[],1⟩
@[reducible] def ak9:Type:=List cB->List aS->Int->Int->List bP->Int×Int->Option (As [.sl bQ,.pr (.int .i64) (.int .i64),.sl dH])
def QJ(j:List aS->List bP->Int×Int->Option (As [.sl bQ,.pr (.int .i64) (.int .i64),.sl dH]))(g:ak9)(d:List cB)(c:zM6)(e b:Int)(a:List bP)(f:Int×Int):Option (As [.sl bQ,.pr (.int .i64) (.int .i64),.sl dH]) :=
 if lt b e=true then zA (at? a b) fun m=>zA (at? a b) fun h=>zA (lq (d,h.1,())) fun i=>if i.2.1=true then zA (at? c i.1) fun k=>zA (yE (k,())) fun l=>if (!l.2.1)=true then some ([],(160,h.2.1),a,()) else g d c e (add .i64 b 1) a f else g d c e (add .i64 b 1) a f else j c a f
@[reducible] def ala:Type:=List aS->Int->Int->List bP->Int×Int->List bJ->Option (As [.sl bQ,.pr (.int .i64) (.int .i64),.sl dH])
def alb(b:ala)(a:zM6)(c:List bP)(d:Int×Int):Option (As [.sl bQ,.pr (.int .i64) (.int .i64),.sl dH]) :=
 b a (zD (zE a)) 0 c d []
def QK(i:List bP->Int×Int->List bJ->Option (As [.sl bQ,.pr (.int .i64) (.int .i64),.sl dH]))(h:ala)(f:zM6)(g a:Int)(d:List bP)(e:Int×Int)(b:List bJ):Option (As [.sl bQ,.pr (.int .i64) (.int .i64),.sl dH]) :=
 if lt a g=true then zA (at? f a) fun c=>zA (yE (c,())) fun c=>if gt (zD (zE c.1)) 0=true then need (small (zE b+Nat.succ 0)) (h f g (add .i64 a 1) d e (b++[(a,c.1)])) else h f g (add .i64 a 1) d e b else i d e b
def alc(b:List bP)(c:Int×Int)(a:List bJ):Option (As [.sl bQ,.pr (.int .i64) (.int .i64),.sl dH]) :=
 some (a,(0,0),b,())
def Yw(c:ak9)(b:List cB)(d:List UInt8)(e:List bP):Option (As [.sl bQ,.pr (.int .i64) (.int .i64),.sl dH]) :=
 zA (X9 (b,d,e,())) fun a=>if (!(eqi a.2.1.1 0 && (eqi a.2.1.2 0 && true)))=true then some ([],a.2.1,a.2.2.1,()) else c b a.1 (zD (zE a.2.2.1)) 0 a.2.2.1 (0,0)
def Yx:=alc
def QL(e:zM6)(f g:Int)(c:List bP)(d:Int×Int)(b:List bJ):Option (As [.sl bQ,.pr (.int .i64) (.int .i64),.sl dH]) :=
 aj (fun h a=>QK (Yx) (fun e f g c d b=>h (e,f,g,c,d,b)) a.1 a.2.1 a.2.2.1 a.2.2.2.1 a.2.2.2.2.1 a.2.2.2.2.2) 18446744073709551616 (e,f,g,c,d,b)
def Yy:=alb (QL)
def QM(b:List cB)(g:zM6)(d e:Int)(c:List bP)(f:Int×Int):Option (As [.sl bQ,.pr (.int .i64) (.int .i64),.sl dH]) :=
 aj (fun h a=>QJ (Yy) (fun b g d e c f=>h (b,g,d,e,c,f)) a.1 a.2.1 a.2.2.1 a.2.2.2.1 a.2.2.2.2.1 a.2.2.2.2.2) 18446744073709551616 (b,g,d,e,c,f)
def QN(x:As [.sl ji,.str,.sl dH]):Option (As [.sl bQ,.pr (.int .i64) (.int .i64),.sl dH]):=Yw QM x.1 x.2.1 x.2.2.1
abbrev pA3:=zp afO afP 11 QI
theorem atW{J a b c}:pA3 J 63 [] (afR a b c)=alc a b c:=by kernel_rfl
theorem atX{J w3 a b c d e f}:pA3 J 506 [w3] (Yu a b c d e f)=QK (C (J 63 []) afR) (C w3 Yu) a b c d e f:=by kernel_rfl
theorem atY{J a b c}:pA3 J 15 [] (afQ a b c)=alb (C (J 506 []) Yu) a b c:=by kernel_rfl
theorem atZ{J w1 a b c d e f}:pA3 J 122 [w1] (Yt a b c d e f)=QJ (C (J 15 []) afQ) (C w1 Yt) a b c d e f:=by kernel_rfl
abbrev pA2:=zj afO afP 11 QI
theorem at0:C (pA2 63 []) afR=Yx:=gNC (by decide) fun _=>atW
theorem at1:C (pA2 506 []) Yu=QL:=gLC (by decide) (by kernel_rfl) (fun _=>by unfold QL;rfl) fun _ _=>atX.trans (by rw[at0]<;>kernel_rfl)
theorem at5:C (pA2 15 []) afQ=Yy:=gNC (by decide) fun _=>atY.trans (by rw[at1]<;>kernel_rfl)
theorem at6:C (pA2 122 []) Yt=QM:=gLC (by decide) (by kernel_rfl) (fun _=>by unfold QM;rfl) fun _ _=>atZ.trans (by rw[at5]<;>kernel_rfl)
theorem at7:au Tryz.prog I0 11 ⟨QI,QN⟩:=zcc (env:=afO) (d:=6) (hs:=Ev.get afP) (av (jN IX) (av akL (av ato bN))) (fun J x=>Yw (C (J 122 []) Yt) x.1 x.2.1 x.2.2.1) (fun _ _=>by kernel_rfl) fun _=>by rw[at6]<;>rfl
@[reducible] def Yz:Sh:=shD [.sl bQ,.sl bQ] [.bool]
def afS:Env:=(cts [(30,(⟨QA,F4⟩:Ct))])
def afT:List (Nat×Hint):=[(58,⟨[],[0,1,12,13,28,29,30,31,32,33,34,35,36,37,38,39]⟩),(3737,⟨[.agd 28 (.sl bQ),.agd 29 (.int .i64),.agd 32 (.sl jQ),.agd 33 (.sl bQ),.agd 34 (.int .i64),.agd 37 (.sl jQ),.agd 38 .bool,.agd 39 .bool],[0,1,12,13,40]⟩)]
def KF(a b:List bJ)(c d:Int):St:=⟨[(0,.d (.sl bQ) a),(1,.d (.sl bQ) b),(12,dI c),(13,dI d)],42,[],[],0,[],0⟩
def afU(a b:List bJ)(c d:Int)(e:Bool):St:=⟨[(0,.d (.sl bQ) a),(1,.d (.sl bQ) b),(12,dI c),(13,dI d),(40,dB e)],42,[],[],0,[],0⟩
@[reducible] def YA:Type:=List bJ->List bJ->Int->Int->Option aA
def YB(f:List bJ->List bJ->Int->Int->Bool->Option aA)(i:YA)(c d:List bJ)(e a:Int):Option aA :=
 if lt a e=true then zA (at? c a) fun b=>zA (at? d a) fun g=>if nei b.1 g.1=true then f c d e a true else zA (at? c a) fun b=>zA (at? d a) fun h=>zA (F4 (b.2,h.2,())) fun b=>f c d e a !b.1 else some (true,())
def ald(c:YA)(a b:List bJ)(d e:Int)(f:Bool):Option aA :=
 if f=true then some (false,()) else c a b d (add .i64 e 1)
def YC(c:YA)(a b:List bJ):Option aA :=
 if nei (zD (zE a)) (zD (zE b))=true then some (false,()) else c a b (zD (zE a)) 0
def ale(a:YA):=ald a
def QO(a b:List bJ)(c d:Int):Option aA :=
 aj (fun f e=>YB (ale (fun a b c d=>f (a,b,c,d))) (fun a b c d=>f (a,b,c,d)) e.1 e.2.1 e.2.2.1 e.2.2.2) 18446744073709551616 (a,b,c,d)
def F8(x:As [.sl bQ,.sl bQ]):Option aA:=YC QO x.1 x.2.1
abbrev pAn:=zp afS afT 14 Yz
theorem aua{J w1 a b c d e}:pAn J 3737 [w1] (afU a b c d e)=ald (C w1 KF) a b c d e:=by kernel_rfl
theorem aub{J w1 a b c d}:pAn J 58 [w1] (KF a b c d)=YB (C (J 3737 [w1]) afU) (C w1 KF) a b c d:=by kernel_rfl
abbrev pAm:=zj afS afT 14 Yz
theorem auc{w1}:C (pAm 3737 [w1]) afU=ale (C w1 KF):=gNC (by decide) fun _=>aua
theorem aud:C (pAm 58 []) KF=QO:=gLC (by decide) (by kernel_rfl) (fun _=>by unfold QO;rfl) fun _ _=>aub.trans (by rw[auc]<;>kernel_rfl)
theorem aue:au Tryz.prog I0 14 ⟨Yz,F8⟩:=zcc (env:=afS) (d:=6) (hs:=Ev.get afT) (av ak5 bN) (fun J x=>YC (C (J 58 []) KF) x.1 x.2.1) (fun _ _=>by kernel_rfl) fun _=>by rw[aud]<;>rfl
@[reducible] def afV:Sh:=shD [.sl ji,.pr .str (.sl dH),.int .u8] [.bool]
def afW:Env:=(cts [(7000011,Ev.UY),(8,(⟨Wh,Wl⟩:Ct)),(9,(⟨Wm,JB⟩:Ct)),(10,(⟨KA,Bh⟩:Ct)),(11,(⟨QI,QN⟩:Ct)),(11,(⟨QF,F7⟩:Ct)),(12,(⟨XI,FK⟩:Ct)),(13,(⟨XO,AX⟩:Ct)),(14,(⟨Yz,F8⟩:Ct)),(15,(⟨E6,lq⟩:Ct))])
def afX:List (Nat×Hint):=[(1023,⟨[],[0,2,7,15,145,146,147,148,158,207,208,209,212]⟩),(262143,⟨[],[0,15,24,207,208,209,212]⟩),(2097146,⟨[.row 24 52],[0,15,22,24,182,183,184]⟩),(8190,⟨[],[0,2,7,15,149,158,207,208,209,212]⟩),(8186,⟨[.rwb 15 1 43],[0,2,4,7,15,16]⟩),(32745,⟨[],[0,2,4,7,15,16,145,146,147,148,158,207,208,209,212]⟩),(261961,⟨[],[0,2,4,7,15,16,17,145,146,147,148,158,207,208,209,212]⟩),(2095690,⟨[.rwb 17 2 47],[0,2,4,7,15,16,17,18]⟩),(510,⟨[],[0,2,4,7,86,145,146,147,148,158,207,208,209,212]⟩),(62,⟨[],[0,2,4,7,9,60,77,78,79,82,83,84,85,145,146,147,148,158,207,208,209,212]⟩),(6,⟨[],[0,2,4,36,53,54,57,58,59,77,78,79,82,83,84,85,145,146,147,148,158,207,208,209,212]⟩)]
def afY(c:List cB)(b:Int)(d:Bool)(a:zM9):St:=⟨[(0,.d (.sl ji) c),(2,d8 b),(4,.pb 0 0),(36,dB d)],214,[],[(0,.box 26 [dS a.1,.d (.sl dH) a.2])],1,[],0⟩
def afZ(e:List cB)(b:Int)(c:List bJ)(d:List UInt8)(f:Bool)(a:zM9):St:=⟨[(0,.d (.sl ji) e),(2,d8 b),(4,.pb 0 0),(7,.d (.sl bQ) c),(9,dS d),(60,dB f)],214,[],[(0,.box 26 [dS a.1,.d (.sl dH) a.2])],1,[],0⟩
def af0(d:List cB)(b:Int)(c:List bJ)(e:Bool)(a:zM9):St:=⟨[(0,.d (.sl ji) d),(2,d8 b),(4,.pb 0 0),(7,.d (.sl bQ) c),(86,dB e)],214,[],[(0,.box 26 [dS a.1,.d (.sl dH) a.2])],1,[],0⟩
def yJ(g:List cB)(b:Int)(e:List bJ)(d:Int)(a:zM9)(c:List UInt8)(f:List bP):St:=⟨[(0,.d (.sl ji) g),(2,d8 b),(4,.pb 0 0),(7,.d (.sl bQ) e),(15,.pb 1 0),(16,dI d)],214,[],[(0,.box 26 [dS a.1,.d (.sl dH) a.2]),(1,.box 26 [dS c,.row 2]),(2,.row dH 43 f)],3,[],0⟩
def YD(k:List cB)(b:Int)(f:List bJ)(d e:Int)(a:zM9)(c:List UInt8)(g:List bP)(i:List UInt8)(j:Int)(h:List Db):St:=⟨[(0,.d (.sl ji) k),(2,d8 b),(4,.pb 0 0),(7,.d (.sl bQ) f),(15,.pb 1 0),(16,dI d),(17,.pb 3 0),(18,dI e)],214,[],[(0,.box 26 [dS a.1,.d (.sl dH) a.2]),(1,.box 26 [dS c,.row 2]),(2,.row dH 43 g),(3,.box 43 [dS i,dI j,.row 4]),(4,.row (.pr .str (.pr aF (.pr .str (.int .i64)))) 47 h)],5,[],0⟩
def af2(e:List cB)(a:Int)(c:List bJ)(b:List UInt8)(d:List bP):St:=⟨[(0,.d (.sl ji) e),(2,d8 a),(7,.d (.sl bQ) c),(15,.pb 0 0)],214,[],[(0,.box 26 [dS b,.row 1]),(1,.row dH 43 d)],2,[],0⟩
def af3(j:List cB)(b:Int)(e:List bJ)(d:Int)(a:zM9)(c:List UInt8)(f:List bP)(h:List UInt8)(i:Int)(g:List Db):St:=⟨[(0,.d (.sl ji) j),(2,d8 b),(4,.pb 0 0),(7,.d (.sl bQ) e),(15,.pb 1 0),(16,dI d),(17,.pb 3 0)],214,[],[(0,.box 26 [dS a.1,.d (.sl dH) a.2]),(1,.box 26 [dS c,.row 2]),(2,.row dH 43 f),(3,.box 43 [dS h,dI i,.row 4]),(4,.row (.pr .str (.pr aF (.pr .str (.int .i64)))) 47 g)],5,[],0⟩
def af4(e:List cB)(a:Int)(c:List bJ)(f:Bool)(b:List UInt8)(d:List bP):St:=⟨[(0,.d (.sl ji) e),(2,d8 a),(7,.d (.sl bQ) c),(15,.pb 0 0),(149,dB f)],214,[],[(0,.box 26 [dS b,.row 1]),(1,.row dH 43 d)],2,[],0⟩
def af5(g:List cB)(b:Int)(e:List bJ)(d:Int)(a:zM9)(c:List UInt8)(f:List bP):St:=⟨[(0,.d (.sl ji) g),(2,d8 b),(4,.pb 0 0),(7,.d (.sl bQ) e),(15,.pb 1 0),(16,dI d)],214,[],[(0,.box 26 [dS a.1,.d (.sl dH) a.2]),(1,.box 26 [dS c,.row 2]),(2,.row dH 43 f)],3,[],0⟩
def YE(d:List cB)(h:Int)(e:List bJ)(f g:Int)(a:List UInt8)(c:List bP)(b:List bJ):St:=⟨[(0,.d (.sl ji) d),(15,.pb 0 0),(22,dI h),(24,.row 2),(182,.d (.sl bQ) e),(183,dI f),(184,dI g)],214,[],[(0,.box 26 [dS a,.row 1]),(1,.row dH 43 c),(2,.row bQ 52 b)],3,[],0⟩
def af6(d:List cB)(a:List UInt8)(c:List bP)(b:List bJ):St:=⟨[(0,.d (.sl ji) d),(15,.pb 0 0),(24,.row 2)],214,[],[(0,.box 26 [dS a,.row 1]),(1,.row dH 43 c),(2,.row bQ 52 b)],3,[],0⟩
def KG(f:List cB->Int->List bJ->List UInt8->Bool->List UInt8×List bP->Option aA)(d:List cB)(e:Int)(g:Bool)(b:zM9):Option aA :=
 if g=true then zA (Bh ()) fun a=>some (a.1,()) else zA (F7 (d,b,())) fun a=>zA (FK (b,())) fun c=>if nei a.2.1.1 0=true then f d e a.1 c.1 true b else if (!c.2.1)=true then f d e a.1 c.1 true b else f d e a.1 c.1 (gt (zD (zE c.1)) 8192) b
def KH(e:List cB->Int->List bJ->Bool->List UInt8×List bP->Option aA)(c:List cB)(d:Int)(b:List bJ)(h:List UInt8)(i:Bool)(f:zM9):Option aA :=
 if i=true then zA (Bh ()) fun a=>some (a.1,()) else zA (AX (h,())) fun a=>zA (F7 (c,a.1,())) fun g=>if nei a.2.1.1 0=true then e c d b true f else if nei g.2.1.1 0=true then e c d b true f else zA (F8 (b,g.1,())) fun a=>e c d b (!a.1) f
@[reducible] def De:Type:=List cB->Int->List bJ->Int->List UInt8×List bP->List UInt8->List bP->Option aA
def YF(c:De)(e:List cB)(b:Int)(d:List bJ)(f:Bool)(a:zM9):Option aA :=
 if f=true then some (false,()) else c e b d (Sx.sub .i64 (zD (zE a.2)) 1) a [98] []
@[reducible] def alf:Type:=List cB->Int->List bJ->Int->Int->List UInt8×List bP->List UInt8->List bP->List UInt8->Int->List Db->Option aA
def KI(h:alf)(i:List cB->Int->List bJ->List UInt8->List bP->Option aA)(l:De)(g:List cB)(c:Int)(e:List bJ)(a:Int)(b:zM9)(d:List UInt8)(f:List bP):Option aA :=
 if ge a 0=true then zA (at? b.2 a) fun j=>zA (at? b.2 a) fun k=>h g c e a (Sx.sub .i64 (zD (zE k.2.2)) 1) b d f j.1 0 [] else i g c e d f
def KJ(m:List cB->Int->List bJ->Int->List UInt8×List bP->List UInt8->List bP->List UInt8->Int->List Db->Option aA)(o:De)(n:alf)(l:List cB)(f:Int)(h:List bJ)(a b:Int)(d:zM9)(g:List UInt8)(i:List bP)(j:List UInt8)(k:Int)(c:List Db):Option aA :=
 if ge b 0=true then zA (at? d.2 a) fun e=>zA (at? e.2.2 b) fun e=>need (small (zE c+Nat.succ 0)) (n l f h a (Sx.sub .i64 b 1) d g i j k (c++[e])) else m l f h a d g i j k c
def YG(f:List cB->Int->List bJ->Bool->List UInt8->List bP->Option aA)(d:List cB)(e:Int)(c:List bJ)(b:List UInt8)(g:List bP):Option aA :=
 zA (QN (d,b,g,())) fun a=>if nei a.2.1.1 0=true then f d e c true b a.2.2.1 else zA (F8 (c,a.1,())) fun h=>f d e c (!h.1) b a.2.2.1
def YH(e l:De)(k:List cB)(b:Int)(f:List bJ)(d:Int)(j:zM9)(c:List UInt8)(a:List bP)(h:List UInt8)(i:Int)(g:List Db):Option aA :=
 need (small (zE a+Nat.succ 0)) (e k b f d j c (a++[(h,i,g)]))
@[reducible] def alg:Type:=List cB->Int->List bJ->Int->Int->List UInt8->List bP->List bJ->Option aA
def YI(h:alg)(f:List cB)(b:Int)(e:List bJ)(i:Bool)(g:List UInt8)(a:List bP):Option aA :=
 if i=true then some (false,()) else if eqi (zD (zE a)) 0=true then if eqi (zD (zE e)) 0=true then zA (Bh ()) fun c=>some (c.1,()) else some (false,()) else need (nei (zD (zE a)) 0) (zA (at? a (rem (cvt .i64 b) (zD (zE a)))) fun d=>zA (at? a (rem (cvt .i64 b) (zD (zE a)))) fun c=>zA (lq (f,c.1,())) fun c=>zA (at? a (rem (cvt .i64 b) (zD (zE a)))) fun d=>zA (at? a (rem (cvt .i64 b) (zD (zE a)))) fun d=>h f c.1 e (zD (zE e)) 0 g (List.set a (zG (rem (cvt .i64 b) (zD (zE a)))) (d.1,d.2.1,[])) [])
def alh(g:De)(h:List cB)(a:Int)(d:List bJ)(c:Int)(f:zM9)(b:List UInt8)(e:List bP):Option aA :=
 g h a d (Sx.sub .i64 c 1) f b e
def KL(k:List cB->List UInt8->List bP->List bJ->Option aA)(i:alg)(e:List cB)(h:Int)(f:List bJ)(g b:Int)(c:List UInt8)(d:List bP)(a:List bJ):Option aA :=
 if lt b g=true then zA (at? f b) fun j=>if nei j.1 h=true then need (small (zE a+Nat.succ 0)) (i e h f g (add .i64 b 1) c d (a++[j])) else i e h f g (add .i64 b 1) c d a else k e c d a
def YJ(e:List cB)(b:List UInt8)(d:List bP)(c:List bJ):Option aA :=
 zA (QN (e,b,d,())) fun a=>if eqi a.2.1.1 0=true then zA (F8 (a.1,c,())) fun a=>if a.1=true then zA (Bh ()) fun a=>some (a.1,()) else some (false,()) else some (false,())
def YK(e:List cB->Int->Bool->List UInt8×List bP->Option aA)(b:List cB)(a:zM9)(d:Int):Option aA :=
 zA (Wl (b,())) fun c=>if (!c.1)=true then e b d true a else zA (JB (a,())) fun c=>e b d (!c.1) a
def af7(a:De):=alh a
def QS(a:De):=YH (af7 a) a
def KM(m:De)(l:List cB)(b:Int)(f:List bJ)(d e:Int)(k:zM9)(c:List UInt8)(g:List bP)(i:List UInt8)(j:Int)(h:List Db):Option aA :=
 aj (fun n a=>KJ (QS m) m (fun l b f d e k c g i j h=>n (l,b,f,d,e,k,c,g,i,j,h)) a.1 a.2.1 a.2.2.1 a.2.2.2.1 a.2.2.2.2.1 a.2.2.2.2.2.1 a.2.2.2.2.2.2.1 a.2.2.2.2.2.2.2.1 a.2.2.2.2.2.2.2.2.1 a.2.2.2.2.2.2.2.2.2.1 a.2.2.2.2.2.2.2.2.2.2) 18446744073709551616 (l,b,f,d,e,k,c,g,i,j,h)
def KN:=YJ
def KO(e:List cB)(i:Int)(f:List bJ)(g h:Int)(b:List UInt8)(d:List bP)(c:List bJ):Option aA :=
 aj (fun j a=>KL (KN) (fun e i f g h b d c=>j (e,i,f,g,h,b,d,c)) a.1 a.2.1 a.2.2.1 a.2.2.2.1 a.2.2.2.2.1 a.2.2.2.2.2.1 a.2.2.2.2.2.2.1 a.2.2.2.2.2.2.2) 18446744073709551616 (e,i,f,g,h,b,d,c)
def YL:=YI (KO)
def QT:=YG (YL)
def QU(h:List cB)(b:Int)(e:List bJ)(d:Int)(g:zM9)(c:List UInt8)(f:List bP):Option aA :=
 aj (fun i a=>KI (KM (fun h b e d g c f=>i (h,b,e,d,g,c,f))) (QT) (fun h b e d g c f=>i (h,b,e,d,g,c,f)) a.1 a.2.1 a.2.2.1 a.2.2.2.1 a.2.2.2.2.1 a.2.2.2.2.2.1 a.2.2.2.2.2.2) 18446744073709551616 (h,b,e,d,g,c,f)
def YM:=YF (QU)
def YN:=KH (YM)
def YO:=KG (YN)
def af8(x:As [.sl ji,.pr .str (.sl dH),.int .u8]):Option aA:=YK YO x.1 x.2.1 x.2.2.1
abbrev pAj:=zp afW afX 3 afV
theorem auf{J w4 a b c d e f g}:pAj J 32745 [w4] (af5 a b c d e f g)=alh (C w4 yJ) a b c d e f g:=by kernel_rfl
theorem aug{J w4 a b c d e f g h i j}:pAj J 261961 [w4] (af3 a b c d e f g h i j)=YH (C (J 32745 [w4]) af5) (C w4 yJ) a b c d e f g h i j:=by kernel_rfl
theorem auh{J w4 w5 a b c d e f g h i j k}:pAj J 2095690 [w4,w5] (YD a b c d e f g h i j k)=KJ (C (J 261961 [w4]) af3) (C w4 yJ) (C w5 YD) a b c d e f g h i j k:=by kernel_rfl
theorem aui{J a b c d}:pAj J 262143 [] (af6 a b c d)=YJ a b c d:=by kernel_rfl
theorem auj{J w10 a b c d e f g h}:pAj J 2097146 [w10] (YE a b c d e f g h)=KL (C (J 262143 []) af6) (C w10 YE) a b c d e f g h:=by kernel_rfl
theorem auk{J a b c d e f}:pAj J 8190 [] (af4 a b c d e f)=YI (C (J 2097146 []) YE) a b c d e f:=by kernel_rfl
theorem aul{J a b c d e}:pAj J 1023 [] (af2 a b c d e)=YG (C (J 8190 []) af4) a b c d e:=by kernel_rfl
theorem aum{J w4 a b c d e f g}:pAj J 8186 [w4] (yJ a b c d e f g)=KI (C (J 2095690 [w4]) YD) (C (J 1023 []) af2) (C w4 yJ) a b c d e f g:=by kernel_rfl
theorem aun{J a b c d e}:pAj J 510 [] (af0 a b c d e)=YF (C (J 8186 []) yJ) a b c d e:=by kernel_rfl
theorem auo{J a b c d e f}:pAj J 62 [] (afZ a b c d e f)=KH (C (J 510 []) af0) a b c d e f:=by kernel_rfl
theorem aup{J a b c d}:pAj J 6 [] (afY a b c d)=KG (C (J 62 []) afZ) a b c d:=by kernel_rfl
abbrev pAi:=zj afW afX 3 afV
theorem auq{w4}:C (pAi 32745 [w4]) af5=af7 (C w4 yJ):=gNC (by decide) fun _=>auf
theorem aur{w4}:C (pAi 261961 [w4]) af3=QS (C w4 yJ):=gNC (by decide) fun _=>aug.trans (by rw[auq]<;>kernel_rfl)
theorem aus{w4}:C (pAi 2095690 [w4]) YD=KM (C w4 yJ):=gLC (by decide) (by kernel_rfl) (fun _=>by unfold KM;rfl) fun _ _=>auh.trans (by rw[aur]<;>kernel_rfl)
theorem aut:C (pAi 262143 []) af6=KN:=gNC (by decide) fun _=>aui
theorem auu:C (pAi 2097146 []) YE=KO:=gLC (by decide) (by kernel_rfl) (fun _=>by unfold KO;rfl) fun _ _=>auj.trans (by rw[aut]<;>kernel_rfl)
theorem auv:C (pAi 8190 []) af4=YL:=gNC (by decide) fun _=>auk.trans (by rw[auu]<;>kernel_rfl)
theorem auw:C (pAi 1023 []) af2=QT:=gNC (by decide) fun _=>aul.trans (by rw[auv]<;>kernel_rfl)
theorem auy:C (pAi 8186 []) yJ=QU:=gLC (by decide) (by kernel_rfl) (fun _=>by unfold QU;rfl) fun _ _=>aum.trans (by rw[aus,auw]<;>kernel_rfl)
theorem auz:C (pAi 510 []) af0=YM:=gNC (by decide) fun _=>aun.trans (by rw[auy]<;>kernel_rfl)
theorem auA:C (pAi 62 []) afZ=YN:=gNC (by decide) fun _=>auo.trans (by rw[auz]<;>kernel_rfl)
theorem auB:C (pAi 6 []) afY=YO:=gNC (by decide) fun _=>aup.trans (by rw[auA]<;>kernel_rfl)
theorem auC:au Tryz.prog I0 3 ⟨afV,af8⟩:=zcc (env:=afW) (d:=6) (hs:=Ev.get afX) (av Ev.UZ (av (jN aoA) (av (jN aoL) (av atL (av at7 (av atV (av arK (av asC (av aue (av (jN IX) bN)))))))))) (fun J x=>YK (C (J 6 []) afY) x.1 x.2.1 x.2.2.1) (fun _ _=>by kernel_rfl) fun _=>by rw[auB]<;>rfl
end Go.Proofs.Lx
end
noncomputable section
set_option maxRecDepth 100000
namespace Go.Proofs.Lx
open Go Ev Sx Pl
def ents:Nat->List Int->List Bool->List (Int×Int)
 | i,w::ws,b::bs=>if b=true then ((i:Int),w)::ents (i+1) ws bs else ents (i+1) ws bs
 | _,_,_=>[]
def oJ(a:zM4):Prop:=(a.map (·.1)).Pairwise (·< ·)
theorem S9:∀{i:Nat} {ws:List Int} {bs:List Bool} {e:Int×Int},e∈ents i ws bs->(i:Int)≤e.1∧e.1<i+bs.length
 | i,w::ws,b::bs,e,h=>by
  unfold ents at h;have hr:∀{e},e∈ents (i+1) ws bs->(i:Int)≤e.1∧e.1<i+(b::bs).length:=fun h=>by have:=S9 h;simp only[List.length_cons];omega
  split at h
  ·rcases List.mem_cons.1 h with h | h
   ·subst h;simp only[List.length_cons];omega
   ·exact hr h
  ·exact hr h
 | _,[],_,_,h=>by simp[ents]at h
 | _,_::_,[],_,h=>by simp[ents]at h
theorem xQ:∀{i:Nat} {ws:List Int} {bs:List Bool},oJ (ents i ws bs)
 | i,w::ws,b::bs=>by
  unfold ents;split
  ·unfold oJ
   simp only[List.map_cons,List.pairwise_cons];refine⟨fun k hk=>?_,xQ⟩;obtain⟨e,he,rfl⟩:=List.mem_map.1 hk;have:=S9 he;omega
  ·exact xQ
 | _,[],_=>by simp[ents,oJ]
 | _,_::_,[]=>by simp[ents,oJ]
theorem QV:∀{i:Nat} {ws:List Int} {bs:List Bool},(ents i ws bs).length≤bs.length
 | i,w::ws,b::bs=>by unfold ents;have:=@QV (i+1) ws bs;split<;>simp only[List.length_cons]<;>omega
 | _,[],_=>by simp[ents]
 | _,_::_,[]=>by simp[ents]
theorem ali{k:IntKind}{a b:Int}:keq (.int k) a b=true↔a=b:=by simp[keq,eqi]
theorem Ta{k:IntKind}:∀{m:List (Int×Int)} {a b:Int},oJ m->(a,b)∈m->bq (.int k) m a=some b
 | [],_,_,_,h=>by cases h
 | (c,d)::r,a,b,hr,h=>by
  unfold oJ at hr;simp only[List.map_cons,List.pairwise_cons]at hr;unfold bq;rcases List.mem_cons.1 h with h | h
  ·cases h
   rw[if_pos (ali.2 rfl)]
  ·have:=hr.1 a (List.mem_map.2 ⟨_,h,rfl⟩)
   rw[if_neg (by rw[ali];omega)];exact Ta hr.2 h
theorem yK{m:List (Int×Int)}(h:oJ m):sorted (m.map (·.1))=m.map (·.1) :=
 List.mergeSort_of_pairwise (h.imp fun h=>by simp;omega)
def uF(v:Int)(l:List Bk)(z:Int):Option (List Bk) :=
 if z<0∨64≤z then none else
 match l.getLast? with
 | none=>some [(z,[v])]
 | some (a,ws)=>if z≠a+(ws.length:Int)∨ws.length=14 then (if l.length=8 then none else some (l++[(z,[v])])) else some (l.dropLast++[(a,ws++[v])])
theorem af9(m:zM4)(l:List Bk)(z:Int):dV m l z=uF (bkV m z) l z:=rfl
def uG:List (Int×Int)->Option (List Bk)->Option (List Bk)
 | [],r=>r
 | e::q,r=>uG q (r.bind fun l=>uF e.2 l e.1)
theorem Bi{m:List (Int×Int)}:∀{es:List (Int×Int)} {r:Option (List Bk)},(∀e∈es,bq kT m e.1=some e.2)->jy m (es.map (·.1)) r=uG es r
 | [],_,_=>rfl
 | e::q,r,h=>by
  show jy m (q.map (·.1)) _=uG q _;rw[Bi fun e he=>h e (zO _ he)];have hv:bkV m e.1=e.2:=by unfold bkV;rw[h e (List.mem_cons_self ..)];rfl
  congr 1
  cases r with
  | none=>rfl
  | some l=>show dV m l e.1=uF e.2 l e.1;rw[af9,hv]
def MN:Option (List Bk)->List Bk×Bool
 | some l=>(l,true)
 | none=>([],false)
theorem F9(m:zM4):bZ m=if m.length > 64 then ([],false) else MN (jy m (sorted (m.map (·.1))) (some [])):=by unfold bZ;cases jy m (sorted (m.map (·.1))) (some [])<;>rfl
theorem HZ{m:List (Int×Int)}(h:oJ m)(hl:m.length≤64):bZ m=MN (uG m (some [])):=by rw[F9,if_neg (by omega),yK h,Bi fun e he=>Ta h he]
theorem aav{m:List (Int×Int)}(h:oJ m)(hk:∀e∈m,e.1<64)(v:Int):bZ (m++[(64,v)])=([],false):=by
 rw[F9];split
 ·rfl
 ·have hr:oJ (m++[(64,v)]):=by unfold oJ;rw[List.map_append,List.pairwise_append];refine⟨h,by simp,fun a ha b hb=>?_⟩;obtain⟨e,he,rfl⟩:=List.mem_map.1 ha;simp at hb;have:=hk e he;omega
  rw[yK hr,List.map_append,List.map_singleton,mh]
  cases jy (m++[(64,v)]) (m.map (·.1)) (some []) with
  | none=>rfl
  | some l =>
   have:dV (m++[(64,v)]) l 64=none:=by unfold dV;rw[if_pos (.inr (by decide))]
   show MN (dV (m++[(64,v)]) l 64)=_;rw[this];rfl
def fl:Int->List Int->List (Int×Int)
 | a,w::r=>(a,w)::fl (a+1) r
 | _,[]=>[]
theorem Tc:∀(a:Int) (ws:List Int) (v:Int),fl a (ws++[v])=fl a ws++[(a+(ws.length:Int),v)]
 | a,[],v=>by simp[fl]
 | a,w::r,v=>by
  show (a,w)::fl (a+1) (r++[v])=(a,w)::(fl (a+1) r++_);rw[Tc (a+1) r v];have:a+1+(r.length:Int)=a+((w::r).length:Int):=by simp only[List.length_cons];omega
  rw[this]
def Bj(l:List Bk):List (Int×Int):=l.flatMap fun b=>fl b.1 b.2
def nxt(b c:Bk):Prop:=b.1+(b.2.length:Int)<c.1∨(b.1+(b.2.length:Int)=c.1∧b.2.length=14)
structure Good(l:List Bk):Prop where
 len:∀b∈l,1≤b.2.length∧b.2.length≤14
 chn:∀(j:Nat) (b c:Bk),l[j]? = some b->l[j+1]? = some c->nxt b c
def rl:List Bool->Nat×Nat->Nat×Nat
 | [],p=>p
 | b::q,p=>rl q (if b=true then (p.1+1,if p.1%14=0 then p.2+1 else p.2) else (0,p.2))
structure BI(i runs:Nat) (l:List Bk):Prop where
 zero:runs=0->∀a ws,l.getLast? = some (a,ws)->a+(ws.length:Int)<i
 pos:runs≠0->∃l' a ws,l=l'++[(a,ws)]∧a+(ws.length:Int)=i∧ws.length=(runs - 1)%14+1
def Bl(c d a:Nat)(b:zM4):Option (List Bk)->Prop
 | none=>9≤a
 | some l=>Good l∧l.length=a∧l.length≤8∧Bj l=b∧BI c d l
theorem LH{l:List Bk}{x:Bk}(h:Good l)(h1:1≤x.2.length)(h2:x.2.length≤14)(h3:∀b,l.getLast? = some b->nxt b x):Good (l++[x]):=by
 refine⟨fun b hb=>?_,fun j b c hb hc=>?_⟩
 ·rcases List.mem_append.1 hb with hb | hb
  ·exact h.len b hb
  ·simp at hb;subst hb;exact⟨h1,h2⟩
 ·rcases Nat.lt_trichotomy (j+1) l.length with hj | hj | hj
  ·rw[List.getElem?_append_left (by omega)]at hb
   rw[List.getElem?_append_left hj]at hc;exact h.chn j b c hb hc
  ·rw[List.getElem?_append_left (by omega)]at hb
   rw[List.getElem?_append_right (by omega),hj]at hc;simp at hc;subst hc;refine h3 b ?_;rw[List.getLast?_eq_getElem?,<- hb]
   congr 1
   omega
  ·rw[List.getElem?_append_right (by omega)]at hc
   rw[List.getElem?_eq_none (by simp;omega)]at hc;cases hc
theorem aaw{l:List Bk}{a:Int}{ws:List Int}{v:Int}(h:Good (l++[(a,ws)]))(h2:ws.length<14):Good (l++[(a,ws++[v])]):=by have h0:Good l:=⟨fun b hb=>h.len b (List.mem_append_left _ hb),fun j b c hb hc=>h.chn j b c (by rw[List.getElem?_append_left (List.getElem?_eq_some_iff.1 hb).1];exact hb) (by rw[List.getElem?_append_left (List.getElem?_eq_some_iff.1 hc).1];exact hc)⟩;refine LH h0 (by simp) (by simp;omega) fun b hb=>?_;rw[List.getLast?_eq_getElem?]at hb;have hlt:=(List.getElem?_eq_some_iff.1 hb).1;have:=h.chn (l.length - 1) b (a,ws) (by rw[List.getElem?_append_left hlt];exact hb) (by rw[show l.length - 1+1=l.length by omega,List.getElem?_append_right (Nat.le_refl _)];simp);exact this
theorem LJ(l:List Bk)(b:Bk):Bj (l++[b])=Bj l++fl b.1 b.2:=by simp[Bj]
theorem amt{i runs least:Nat}{done:List (Int×Int)}{B:Option (List Bk)}(h:Bl i runs least done B)(hi:i<64)(v:Int) :
  Bl (i+1) (runs+1) (if runs%14=0 then least+1 else least) (done++[((i:Int),v)]) (B.bind fun l=>uF v l i):=by
 cases B with
 | none =>
  show 9≤_;have:9≤least:=h;split<;>omega
 | some l =>
  obtain⟨h1,h2,h3,h4,h5⟩:=h;show Bl _ _ _ _ (uF v l i)
  have push:runs%14=0->(∀b,l.getLast? = some b->nxt b ((i:Int),[v]))->Bl (i+1) (runs+1) (if runs%14=0 then least+1 else least) (done++[((i:Int),v)]) (if l.length=8 then none else some (l++[((i:Int),[v])])):=by
   intro hr hn;rw[if_pos hr];by_cases h8:l.length=8
   ·rw[if_pos h8]
    show 9≤_;omega
   ·rw[if_neg h8]
    refine⟨LH h1 (by simp) (by simp) hn,by simp[h2],by simp;omega,by rw[LJ,h4];rfl,⟨fun h=>by omega,fun _=>⟨l,i,[v],rfl,by simp,by simp;omega⟩⟩⟩
  have hin:¬ ((i:Int)<0∨64≤(i:Int)):=by omega
  cases hl:l.getLast? with
  | none =>
   have hnil:l=[]:=List.getLast?_eq_none_iff.1 hl;subst hnil
   have hr:runs=0:=by
    rcases Nat.eq_zero_or_pos runs with h | h
    ·exact h
    ·obtain⟨l',a,ws,h6,_⟩:=h5.pos (by omega)
     simp at h6
   have e:uF v [] i=some ([]++[((i:Int),[v])]):=by unfold uF;rw[if_neg hin];rfl
   rw[e];exact push (by rw[hr]) (fun b hb=>by simp at hb)
  | some b =>
   obtain⟨a,ws⟩:=b;have hmem:(a,ws)∈l:=List.mem_of_getLast? hl;have hlen:=h1.len _ hmem;simp only at hlen;have e:uF v l i=if (i:Int)≠a+(ws.length:Int)∨ws.length=14 then (if l.length=8 then none else some (l++[((i:Int),[v])])) else some (l.dropLast++[(a,ws++[v])]):=by unfold uF;rw[if_neg hin,hl]
   rw[e];by_cases hr:runs=0
   ·have hz:=h5.zero hr a ws hl
    rw[if_pos (show (i:Int)≠a+(ws.length:Int)∨ws.length=14 from .inl (by omega))];refine push (by rw[hr]) fun b hb=>?_;rw[hl]at hb;cases hb;exact .inl hz
   ·obtain⟨l',a',ws',h6,h7,h8⟩:=h5.pos hr
    have he:(a',ws')=(a,ws):=by rw[h6,List.getLast?_append]at hl;simpa using hl
    cases he
    by_cases h14:ws.length=14
    ·rw[if_pos (show (i:Int)≠a+(ws.length:Int)∨ws.length=14 from .inr h14)]
     refine push (by omega) fun b hb=>?_;rw[hl]at hb;cases hb;exact .inr ⟨h7,h14⟩
    ·rw[if_neg (show ¬ ((i:Int)≠a+(ws.length:Int)∨ws.length=14) by omega),if_neg (show ¬ runs%14=0 by omega)]
     have hd:l.dropLast=l':=by rw[h6];simp
     rw[hd];rw[h6]at h1 h2 h3 h4;refine⟨aaw h1 (by omega),by simpa using h2,by simpa using h3,?_,⟨fun h=>by omega,fun _=>⟨l',a,ws++[v],rfl,by simp;omega,by simp;omega⟩⟩⟩;rw[LJ]at h4 ⊢;show Bj l'++fl a (ws++[v])=_;rw[Tc,<- List.append_assoc];have h4:Bj l'++fl a ws=done:=h4;rw[h4,h7]
theorem auD{i runs least:Nat}{done:List (Int×Int)}{B:Option (List Bk)}(h:Bl i runs least done B):Bl (i+1) 0 least done B:=by
 cases B with
 | none=>exact h
 | some l =>
  obtain⟨h1,h2,h3,h4,h5⟩:=h;refine⟨h1,h2,h3,h4,⟨fun _ a ws hl=>?_,fun h=>absurd rfl h⟩⟩;by_cases hr:runs=0
  ·have:=h5.zero hr a ws hl
   omega
  ·obtain⟨l',a',ws',h6,h7,h8⟩:=h5.pos hr
   have he:(a',ws')=(a,ws):=by rw[h6,List.getLast?_append]at hl;simpa using hl
   cases he
   omega
theorem aga:∀(ws:List Int) (bs:List Bool) (i runs least:Nat) (done:zM4) (B:Option (List Bk)),ws.length=bs.length->i+bs.length≤64->Bl i runs least done B ->
  Bl (i+bs.length) (rl bs (runs,least)).1 (rl bs (runs,least)).2 (done++ents i ws bs) (uG (ents i ws bs) B)
 | [],[],i,runs,least,done,B,_,_,h=>by simpa [rl,ents,uG]using h
 | [],_::_,_,_,_,_,_,h,_,_=>by simp at h
 | _::_,[],_,_,_,_,_,h,_,_=>by simp at h
 | w::ws,b::bs,i,runs,least,done,B,hl,hi,h=>by
  simp only[List.length_cons]at hl hi ⊢
  cases b with
  | true =>
   have:=aga ws bs (i+1) (runs+1) (if runs%14=0 then least+1 else least) _ _ (by omega) (by omega) (amt h (by omega) w);rw[show i+(bs.length+1)=i+1+bs.length by omega];simp only[rl,ents,uG,if_true];rw[List.append_assoc]at this;exact this
  | false =>
   have:=aga ws bs (i+1) 0 least done B (by omega) (by omega) (auD h);rw[show i+(bs.length+1)=i+1+bs.length by omega];simp only[rl,ents,Bool.false_eq_true,if_false];exact this
theorem alj:Bl 0 0 0 [] (some []):=⟨⟨(fun b hb=>by cases hb),(fun j b c hb=>by simp at hb)⟩,rfl,by simp,rfl,⟨(fun _ a ws h=>by simp at h),fun h=>absurd rfl h⟩⟩
end Go.Proofs.Lx
end
noncomputable section
set_option maxRecDepth 100000
namespace Go.Proofs.Lx
open Go Ev Sx Pl
@[reducible] def aT:Type:=List (Int×List Int)
@[reducible] def alk:Type:=aT×aT×(Int)×(Int)->Option aA
def QW :=(fun (self:alk) (s:aT×aT×(Int)×(Int))=>Ku (QB (fun a b c d=>self (a,b,c,d))) (fun a b c d=>self (a,b,c,d)) s.1 s.2.1 s.2.2.1 s.2.2.2)
theorem alm  (self:alk)(a:zM0)(b:zM0)(t12:Int)(t13:Int):QW self (a,b,t12,t13)=Ku (QB (fun a b t12 t13=>self (a,b,t12,t13))) (fun a b t12 t13=>self (a,b,t12,t13)) a b t12 t13:=rfl
theorem auE  (a:zM0)(b:zM0)(t12:Int)(t13:Int):QC a b t12 t13=aj (QW) 18446744073709551616 (a,b,t12,t13):=rfl
@[reducible] def aln:Type:=(List Int)×(List Int)×(Int)×(Int)->Option aA
def YP :=(fun (self:aln) (s:(List Int)×(List Int)×(Int)×(Int))=>Kq (fun a b c d=>self (a,b,c,d)) s.1 s.2.1 s.2.2.1 s.2.2.2)
theorem alo  (self:aln)(a:List Int)(b:List Int)(t12:Int)(t13:Int):YP self (a,b,t12,t13)=Kq (fun a b t12 t13=>self (a,b,t12,t13)) a b t12 t13:=rfl
theorem auF  (a:List Int)(b:List Int)(t12:Int)(t13:Int):Qz a b t12 t13=aj (YP) 18446744073709551616 (a,b,t12,t13):=rfl
@[reducible] def alp:Type:=aT×(Int)×(Int)×(List Int)->Option aG
def YQ :=(fun (self:alp) (s:aT×(Int)×(Int)×(List Int))=>Kw (Kz (fun b c d a=>self (b,c,d,a))) (fun b c d a=>self (b,c,d,a)) s.1 s.2.1 s.2.2.1 s.2.2.2)
theorem alq  (self:alp)(t12:zM0)(t13:Int)(t14:Int)(bank:List Int):YQ self (t12,t13,t14,bank)=Kw (Kz (fun t12 t13 t14 bank=>self (t12,t13,t14,bank))) (fun t12 t13 t14 bank=>self (t12,t13,t14,bank)) t12 t13 t14 bank:=rfl
theorem auG  (t12:zM0)(t13:Int)(t14:Int)(bank:List Int):QE t12 t13 t14 bank=aj (YQ) 18446744073709551616 (t12,t13,t14,bank):=rfl
@[reducible] def alr:Type:=aT×(Int)×(Int)×(List Int)×(Int)×(Int)×(List Int)×(Int×List Int)->Option aG
def YR(i:zM3):=(fun (self:alr) (s:aT×(Int)×(Int)×(List Int)×(Int)×(Int)×(List Int)×(Int×List Int))=>Ky (QD i (fun b c d e f g a h=>self (b,c,d,e,f,g,a,h))) i (fun b c d e f g a h=>self (b,c,d,e,f,g,a,h)) s.1 s.2.1 s.2.2.1 s.2.2.2.1 s.2.2.2.2.1 s.2.2.2.2.2.1 s.2.2.2.2.2.2.1 s.2.2.2.2.2.2.2)
theorem als(u1:zM3)(self:alr)(t12:zM0)(t13 t14:Int)(t19:List Int)(t20 t21:Int)(bank:List Int)(x:Int×List Int):YR u1 self (t12,t13,t14,t19,t20,t21,bank,x)=Ky (QD u1 (fun t12 t13 t14 t19 t20 t21 bank x=>self (t12,t13,t14,t19,t20,t21,bank,x))) u1 (fun t12 t13 t14 t19 t20 t21 bank x=>self (t12,t13,t14,t19,t20,t21,bank,x)) t12 t13 t14 t19 t20 t21 bank x:=rfl
theorem auH(u1:zM3)(t12:zM0)(t13 t14:Int)(t19:List Int)(t20 t21:Int)(bank:List Int)(x:Int×List Int):Kz u1 t12 t13 t14 t19 t20 t21 bank x=aj (YR u1) 18446744073709551616 (t12,t13,t14,t19,t20,t21,bank,x):=rfl
theorem Td(a b:List Int)(hl:a.length=b.length)(hs:a.length≤1000000):∀(k i n:Nat),i+k=a.length->k<n->aj YP n (a,b,zD a.length,(i:Int))=some (decide (a.drop i=b.drop i),())
 | k,_,0,_,h=>by omega
 | 0,i,n+1,h,_=>by rw[gB,alo];unfold Kq;rw[if_neg (by rw[bg,ay];omega),List.drop_eq_nil_of_le (by omega),List.drop_eq_nil_of_le (by omega)];simp
 | k+1,i,n+1,h,hn=>by
  have hw:i<a.length:=by omega
  have hv:i<b.length:=by omega
  rw[gB,alo];unfold Kq;rw[if_pos (by rw[bg,ay];omega),gK (zQ hw),zB,gK (zQ hv),zB,List.drop_eq_getElem_cons hw,List.drop_eq_getElem_cons hv];rw[show add .i64 (i:Int) 1=((i+1:Nat):Int) from iO (by omega)];have ih:=Td a b hl hs k (i+1) n (by omega) (by omega);show (if nei a[i] b[i]=true then _ else aj YP n (a,b,zD a.length,((i+1:Nat):Int)))=_;rw[ih];generalize a[i]=x,b[i]=y,a.drop (i+1)=p,b.drop (i+1)=q;by_cases hc:x=y
  ·rw[if_neg (by rw[dK];simp[hc])]
   simp[hc]
  ·rw[if_pos (dK.2 hc)]
   simp[hc]
theorem Te(a b:List Int)(h1:a.length≤1000000)(h2:b.length≤1000000):Kr (a,b,())=some (decide (a=b),()):=by
 show Yc Qz a b=_;unfold Yc;by_cases hl:a.length=b.length
 ·rw[if_neg (by rw[dK,ay,ay];omega),auF]
  have:=Td a b hl h1 a.length 0 18446744073709551616 (by omega) (by omega);simpa using this
 ·rw[if_pos (by rw[dK,ay,ay];omega)]
  have:a≠b:=fun e=>hl (by rw[e]);simp[this]
def SmB(l:List Bk):Prop:=l.length≤1000000∧∀b∈l,b.2.length≤1000000
theorem Tf(a b:List Bk)(hl:a.length=b.length)(ha:SmB a)(hb:SmB b):∀(k i n:Nat),i+k=a.length->k<n->aj QW n (a,b,zD a.length,(i:Int))=some (decide (a.drop i=b.drop i),())
 | k,_,0,_,h=>by omega
 | 0,i,n+1,h,_=>by rw[gB,alm];unfold Ku;rw[if_neg (by rw[bg,ay];omega),List.drop_eq_nil_of_le (by omega),List.drop_eq_nil_of_le (by omega)];simp
 | k+1,i,n+1,h,hn=>by
  have hw:i<a.length:=by omega
  have hv:i<b.length:=by omega
  have h6:=ha.1;rw[gB,alm];unfold Ku
  rw[if_pos (by rw[bg,ay];omega),gK (zQ hw),zB,gK (zQ hv),zB,List.drop_eq_getElem_cons hw,List.drop_eq_getElem_cons hv,zB,zB,
   Te _ _ (ha.2 _ (List.getElem_mem hw)) (hb.2 _ (List.getElem_mem hv)),zB]
  have hk:∀c,QB (fun a b t12 t13=>aj QW n (a,b,t12,t13)) a b (zD a.length) (i:Int) c=if c=true then some (false,()) else some (decide (a.drop (i+1)=b.drop (i+1)),()):=fun c=>by show Yd _ a b _ _ c=_;unfold Yd;rw[show add .i64 (i:Int) 1=((i+1:Nat):Int) from iO (by omega)];have ih:=Tf a b hl ha hb k (i+1) n (by omega) (by omega);show (if c=true then _ else aj QW n (a,b,zD a.length,((i+1:Nat):Int)))=_;rw[ih]
  rw[hk,hk];generalize a[i]=x,b[i]=y,a.drop (i+1)=p,b.drop (i+1)=q;by_cases h1:x.1=y.1
  ·rw[if_neg (by rw[dK];simp[h1])]
   by_cases h2:x.2=y.2
   ·have:x=y:=Prod.ext h1 h2
    simp[this]
   ·have:¬ x=y:=fun e=>h2 (by rw[e])
    simp[this,h2]
  ·have:¬ x=y:=fun e=>h1 (by rw[e])
   rw[if_pos (dK.2 h1),if_pos rfl];simp[this]
theorem QX(a b:List Bk)(ha:SmB a)(hb:SmB b):F4 (a,b,())=some (decide (a=b),()):=by
 show Ye QC a b=_;unfold Ye;by_cases hl:a.length=b.length
 ·rw[if_neg (by rw[dK,ay,ay];omega),auE]
  have:=Tf a b hl ha hb a.length 0 18446744073709551616 (by omega) (by have:=ha.1;omega);simpa using this
 ·rw[if_pos (by rw[dK,ay,ay];omega)]
  have:a≠b:=fun e=>hl (by rw[e]);simp[this]
end Go.Proofs.Lx
end
noncomputable section
set_option maxRecDepth 100000
namespace Go.Proofs.Lx
open Go Ev Sx Pl
def xR(b:List Int)(a c:Int):List Int:=if 0≤a∧a<(b.length:Int) then b.set a.toNat c else b
theorem aax(bank:List Int)(a w:Int):(xR bank a w).length=bank.length:=by unfold xR;split<;>simp
def Bn:List Int->Int->List Int->List Int
 | bank,_,[]=>bank
 | bank,a,w::r=>Bn (xR bank a w) (a+1) r
theorem Df:∀(ws bank:List Int) (a:Int),(Bn bank a ws).length=bank.length
 | [],_,_=>rfl
 | w::r,bank,a=>by rw[Bn,Df r,aax]
def over:List Int->List Bk->List Int
 | bank,[]=>bank
 | bank,b::r=>over (Bn bank b.1 b.2) r
theorem QY:∀(l:List Bk) (bank:List Int),(over bank l).length=bank.length
 | [],_=>rfl
 | b::r,bank=>by rw[over,QY r,Df]
def FitB(l:List Bk):Prop:=l.length≤1000000∧∀b∈l,b.2.length≤1000000∧-1000000≤b.1∧b.1≤1000000
theorem FitB.sm{l:List Bk}(h:FitB l):SmB l:=⟨h.1,fun b hb=>(h.2 b hb).1⟩
theorem YS{α:Type}{s:List α}{i:Int}(h:0≤i∧i<(s.length:Int)):∃c,at? s i=some c:=by obtain⟨n,rfl⟩:=Int.eq_ofNat_of_zero_le h.1;exact⟨_,gK (zQ (show n<s.length by omega))⟩
theorem Tg(u1:List Bk->Int->Int->List Int->Option aG)(l:List Bk)(j:Int)(x:Bk)(h1:x.2.length≤1000000)(h2:-1000000≤x.1∧x.1≤1000000) :
  ∀(k i n:Nat) (bank:List Int),i+k=x.2.length->k<n->bank.length≤1000000->aj (YR u1) n (l,zD l.length,j,x.2,zD x.2.length,(i:Int),bank,x)=u1 l (zD l.length) (add .i64 j 1) (Bn bank (x.1+(i:Int)) (x.2.drop i))
 | k,_,0,_,_,h,_=>by omega
 | 0,i,n+1,bank,h,_,hb=>by rw[gB,als];unfold Ky;rw[if_neg (by rw[bg,ay];omega),List.drop_eq_nil_of_le (by omega)];rfl
 | k+1,i,n+1,bank,h,hn,hb=>by
  have hw:i<x.2.length:=by omega
  rw[gB,als];unfold Ky;have ea:add .i64 x.1 (i:Int)=x.1+(i:Int):=lX (by omega) (by omega);rw[if_pos (by rw[bg,ay];omega),gK (zQ hw),zB,ea,List.drop_eq_getElem_cons hw,Bn,Int.add_assoc];have e1:add .i64 (i:Int) 1=((i+1:Nat):Int):=iO (by omega);have e2:((i:Int)+1)=((i+1:Nat):Int):=by omega
  have ih:=fun bank' hb'=>Tg u1 l j x h1 h2 k (i+1) n bank' (by omega) (by omega) hb'
  have step:∀c:Bool,c=decide (0≤x.1+(i:Int)∧x.1+(i:Int)<(bank.length:Int))->QD u1 (fun t12 t13 t14 t19 t20 t21 bank x=>aj (YR u1) n (t12,t13,t14,t19,t20,t21,bank,x)) x.2[i] (x.1+(i:Int)) l (zD l.length) j x.2 (zD x.2.length) (i:Int) c bank x =
    u1 l (zD l.length) (add .i64 j 1) (Bn (xR bank (x.1+(i:Int)) x.2[i]) (x.1+((i:Int)+1)) (x.2.drop (i+1))):=by
   intro c hc;show Yh u1 _ x.2[i] (x.1+(i:Int)) l (zD l.length) j x.2 (zD x.2.length) (i:Int) c bank x=_;unfold Yh;rw[e1];by_cases hin:0≤x.1+(i:Int)∧x.1+(i:Int)<(bank.length:Int)
   ·obtain⟨v,hv⟩:=YS hin
    rw[hc,if_pos (by simpa using hin),hv,zB,zB];have hs:xR bank (x.1+(i:Int)) x.2[i]=bank.set (x.1+(i:Int)).toNat x.2[i]:=by unfold xR;rw[if_pos hin]
    rw[hs,e2];exact ih _ (by simpa using hb)
   ·rw[hc,if_neg (by simpa using hin)]
    have hs:xR bank (x.1+(i:Int)) x.2[i]=bank:=by unfold xR;rw[if_neg hin]
    rw[hs,e2];exact ih _ hb
  by_cases h0:0≤x.1+(i:Int)
  ·rw[if_pos (dN.2 h0)]
   exact step _ (by simp[lt,h0])
  ·rw[if_neg (by rw[dN];exact h0)]
   exact step _ (by simp[h0])
theorem QZ(l:List Bk)(h:FitB l):∀(k j n:Nat) (bank:List Int),j+k=l.length->k<n->bank.length≤1000000->aj YQ n (l,zD l.length,(j:Int),bank)=some (over bank (l.drop j),())
 | k,_,0,_,_,h,_=>by omega
 | 0,j,n+1,bank,hj,_,hb=>by rw[gB,alq];unfold Kw;rw[if_neg (by rw[bg,ay];omega),List.drop_eq_nil_of_le (by omega)];rfl
 | k+1,j,n+1,bank,hj,hn,hb=>by
  have hw:j<l.length:=by omega
  have h6:=h.1;have h7:=h.2 _ (List.getElem_mem hw);rw[gB,alq];unfold Kw;rw[if_pos (by rw[bg,ay];omega),gK (zQ hw),zB,auH];have:=Tg (fun t12 t13 t14 bank=>aj YQ n (t12,t13,t14,bank)) l (j:Int) l[j] h7.1 h7.2 l[j].2.length 0 18446744073709551616 bank (by omega) (by omega) hb;refine Eq.trans this ?_;rw[show add .i64 (j:Int) 1=((j+1:Nat):Int) from iO (by omega)];refine (QZ l h k (j+1) n _ (by omega) (by omega) (by rw[Df];exact hb)).trans ?_;rw[List.drop_eq_getElem_cons hw,over];simp
theorem alu{rs:List Ty}(a:Option (As rs)):amb (iw rs) [a,a]=a:=JD (xC rs) a
theorem ah5(s:List Int)(h:s.length≤1000000):Yf (s,())=some (s,()):=by
 show afE s=_;unfold afE;by_cases h0:s=[]
 ·subst h0
  rw[if_pos (by decide),gW (by decide)];exact alu _
 ·have:s.length≠0:=fun e=>h0 (List.eq_nil_of_length_eq_zero e)
  rw[if_neg (by rw[fQ,ay];omega),jU (by omega)]
theorem ah6(bank:List Int)(l:List Bk)(hb:bank.length≤1000000)(h:FitB l):Yj (bank,l,())=some (over bank l,()):=by show Yi QE bank l=_;unfold Yi;rw[ah5 bank hb,zB,auG];have:=QZ l h l.length 0 18446744073709551616 bank (by omega) (by have:=h.1;omega) hb;simpa using this
theorem blocks_eq{m:List (Int×Int)}(h:m.all qV=true):Kl (m,())=some ((bZ m).1,(bZ m).2,m,()):=by show (if m.all qV=true then _ else _)=_;rw[if_pos h]
theorem res1:bZ [(3,7),(4,8),(6,9)]=([(3,[7,8]),(6,[9])],true):=by rw[HZ (by unfold oJ;decide) (by decide)];decide
theorem res2:bZ [(64,1)]=([],false):=aav (m:=[]) (by unfold oJ;decide) (by simp) 1
def m15:List (Int×Int):=[(0,0),(1,1),(2,2),(3,3),(4,4),(5,5),(6,6),(7,7),(8,8),(9,9),(10,10),(11,11),(12,12),(13,13),(14,14)]
theorem auI:bZ m15=([(0,[0,1,2,3,4,5,6,7,8,9,10,11,12,13]),(14,[14])],true):=by rw[HZ (by unfold oJ m15;decide) (by decide)];decide
theorem YT(a:List Bk)(x:Bool):KB a x 0 []=afJ a x m15:=by kernel_rfl
theorem awake:Bh ()=some (true,()):=by
 show Yo KB=_;unfold Yo;rw[blocks_eq (by decide),res1,zB];show KB [(3,[7,8]),(6,[9])] true 0 []=_;rw[YT];show Yn [(3,[7,8]),(6,[9])] true m15=_;unfold Yn
 rw[blocks_eq (m:=m15) (by decide),auI,zB,blocks_eq (by decide),res2,zB,if_pos rfl,if_pos rfl,if_pos (by decide),
  QX _ _ ⟨by decide,by decide⟩ ⟨by decide,by decide⟩,zB,if_pos (by decide),if_pos (by decide)]
 show zA (some (0,[0,1,2,3,4,5,6,7,8,9,10,11,12,13])) _=_;rw[zB,if_pos (by decide)];show zA (some (14,[14])) _=_;rw[zB,if_pos (by decide),ah6 _ _ (by decide) ⟨by decide,by decide⟩,zB,Te _ _ (by rw[QY];decide) (by decide),zB];decide
end Go.Proofs.Lx
end
noncomputable section
set_option maxRecDepth 100000
namespace Go.Proofs.Lx
open Go Ev Sx Pl
end Go.Proofs.Lx
end
noncomputable section
set_option maxRecDepth 100000
namespace Go.Proofs.Lx
open Go Ev Sx
@[reducible] def bF:Type:=As [.sl (.pr (.int .i64) (.sl aK)),.pr (.int .i64) (.int .i64)]
@[reducible] def alv:Type:=(List (List UInt8×List (List UInt8×Int×Int×Bool×(Int×Int)×(Int×Int)×List UInt8)))×(List aS)×(List (List UInt8×Int×List (List UInt8×(Int×Int)×List UInt8×Int)))×(Int)×(Int)×(Int×Int)->Option bF
def agb :=(fun (self:alv) (s:(List (List UInt8×List (List UInt8×Int×Int×Bool×(Int×Int)×(Int×Int)×List UInt8)))×(List aS)×(List (List UInt8×Int×List (List UInt8×(Int×Int)×List UInt8×Int)))×(Int)×(Int)×(Int×Int))=>F5 (QG) (fun a f b c d e=>self (a,f,b,c,d,e)) s.1 s.2.1 s.2.2.1 s.2.2.2.1 s.2.2.2.2.1 s.2.2.2.2.2)
@[reducible] def alx:Type:=List (List UInt8×List (List UInt8×Int×Int×Bool×(Int×Int)×(Int×Int)×List UInt8))
@[reducible] def aly:Type:=List (List UInt8×Int×List (List UInt8×(Int×Int)×List UInt8×Int))
theorem agc  (self:alv)(t:alx)(words:zM6)(t30:aly)(t31:Int)(t32:Int)(t5:Int×Int):agb self (t,words,t30,t31,t32,t5)=F5 (QG) (fun t words t30 t31 t32 t5=>self (t,words,t30,t31,t32,t5)) t words t30 t31 t32 t5:=rfl
theorem alz  (t:alx)(words:zM6)(t30:aly)(t31:Int)(t32:Int)(t5:Int×Int):KE t words t30 t31 t32 t5=aj (agb) 18446744073709551616 (t,words,t30,t31,t32,t5):=rfl
@[reducible] def alA:Type:=(List aS)×(Int)×(Int)×(Int×Int)×(List (Int×List (Int×List Int)))->Option bF
def Q0 :=(fun (self:alA) (s:(List aS)×(Int)×(Int)×(Int×Int)×(List (Int×List (Int×List Int))))=>F6 (Yr) (fun c d e b a=>self (c,d,e,b,a)) s.1 s.2.1 s.2.2.1 s.2.2.2.1 s.2.2.2.2)
theorem age  (self:alA)(t58:zM6)(t59:Int)(t60:Int)(t5:Int×Int)(l:List (Int×List (Int×List Int))):Q0 self (t58,t59,t60,t5,l)=F6 (Yr) (fun t58 t59 t60 t5 l=>self (t58,t59,t60,t5,l)) t58 t59 t60 t5 l:=rfl
theorem alB  (t58:zM6)(t59:Int)(t60:Int)(t5:Int×Int)(l:List (Int×List (Int×List Int))):KD t58 t59 t60 t5 l=aj (Q0) 18446744073709551616 (t58,t59,t60,t5,l):=rfl
end Go.Proofs.Lx
end
noncomputable section
set_option maxRecDepth 100000
namespace Go.Proofs.Lx
open Go Ev Sx Pl
theorem Q5{e:Int×Int}:∀{ws:List Int} {bs:List Bool} {i:Nat},e∈ents i ws bs ↔ ∃j:Nat,e.1=((i+j:Nat):Int)∧ws[j]? = some e.2∧bs[j]? = some true
 | w::ws,b::bs,i=>by
  have hr:=@Q5 e ws bs (i+1);unfold ents;constructor
  ·intro h
   have tl:e∈ents (i+1) ws bs->∃j:Nat,e.1=((i+j:Nat):Int)∧(w::ws)[j]? = some e.2∧(b::bs)[j]? = some true:=fun h=>by obtain⟨j,h1,h2,h3⟩:=hr.1 h;exact⟨j+1,by rw[h1];congr 1;omega,by simpa using h2,by simpa using h3⟩
   split at h
   ·rename_i hb
    rcases List.mem_cons.1 h with h | h
    ·subst h
     exact⟨0,by simp,by simp,by simp[hb]⟩
    ·exact tl h
   ·exact tl h
  ·rintro⟨j,h1,h2,h3⟩
   cases j with
   | zero =>
    simp at h2 h3;rw[if_pos h3];have:e=((i:Int),w):=Prod.ext (by rw[h1];simp) h2.symm;rw[this];exact List.mem_cons_self ..
   | succ j =>
    have:e∈ents (i+1) ws bs:=hr.2 ⟨j,by rw[h1];congr 1;omega,by simpa using h2,by simpa using h3⟩;split
    ·exact zO _ this
    ·exact this
 | [],bs,i=>by simp[ents]
 | w::ws,[],i=>by simp[ents]
def uH(m:EnL):List Int:=(List.range 64).map fun (i:Nat)=>bkV m (i:Int)
def uI(m:EnL):List Bool:=(List.range 64).map fun (i:Nat)=>(bq kT m (i:Int)).isSome
def esM(m:EnL):EnL:=ents 0 (uH m) (uI m)
def dY(m:EnL):Option (List Bk):=uG (esM m) (some [])
theorem KP{m:EnL}{a w:Int}:(a,w)∈esM m↔(0≤a∧a<64)∧bq kT m a=some w:=by
 unfold esM;rw[Q5];unfold uH uI;constructor
 ·rintro⟨j,h1,h2,h3⟩
  dsimp only at h1 h2;rw[List.getElem?_map]at h2 h3
  cases hj:(List.range 64)[j]? with
  | none=>rw[hj]at h2;cases h2
  | some x =>
   rw[hj]at h2 h3;have hlt:=(List.getElem?_eq_some_iff.1 hj);obtain⟨hl,hx⟩:=hlt;simp at hl hx;subst hx;simp at h2 h3;have ha:a=(j:Int):=by omega
   subst ha;refine⟨by omega,?_⟩
   cases hd:bq kT m (j:Int) with
   | none=>rw[hd]at h3;cases h3
   | some v =>
    unfold bkV at h2;rw[hd]at h2;exact congrArg some h2
 ·rintro⟨h1,h2⟩
  refine⟨a.toNat,by dsimp only;omega,?_,?_⟩
  ·rw[List.getElem?_map,List.getElem?_range (by omega)]
   show some (bkV m ((a.toNat:Nat):Int))=some w;rw[show ((a.toNat:Nat):Int)=a by omega];unfold bkV;rw[h2];rfl
  ·rw[List.getElem?_map,List.getElem?_range (by omega)]
   show some (bq kT m ((a.toNat:Nat):Int)).isSome=some true;rw[show ((a.toNat:Nat):Int)=a by omega,h2];rfl
def Dg(m:EnL):Prop:=∀k∈m.map (·.1),0≤k∧k<64
theorem YU{es:EnL}(h:oJ es):(es.map (·.1)).Nodup:=h.imp fun h=>by omega
theorem keys_perm{m:EnL}(hn:(m.map (·.1)).Nodup)(hk:Dg m):(m.map (fun e:Int×Int=>e.1)).Perm ((esM m).map (fun e:Int×Int=>e.1)):=by
 rw[List.perm_ext_iff_of_nodup hn (YU (es:=esM m) xQ)];intro k;have hd:=@LF m k;constructor
 ·intro h
  cases hg:bq kT m k with
  | none=>exact absurd h (hd.1 hg)
  | some w=>exact List.mem_map.2 ⟨(k,w),KP.2 ⟨hk k h,hg⟩,rfl⟩
 ·intro h
  obtain⟨e,he,rfl⟩:=List.mem_map.1 h;have:=(KP (a:=e.1) (w:=e.2)).1 he;rcases Decidable.em (e.1∈m.map (·.1)) with h1 | h1
  ·exact h1
  ·rw[hd.2 h1]at this;cases this.2
theorem Ga(m:EnL):(uI m).length=64:=by simp[uI]
theorem agf(m:EnL):(uH m).length=64:=by simp[uH]
theorem aay{m:EnL}(hn:(m.map (·.1)).Nodup)(hk:Dg m):bZ m=MN (dY m):=by
 have hp:=keys_perm hn hk;have hl:m.length≤64:=by have h1:=hp.length_eq;have h2:=@QV 0 (uH m) (uI m);rw[Ga]at h2;rw[zV,zV]at h1;show m.length≤64;rw[h1];exact h2
 rw[F9,if_neg (by omega)];have hs:sorted (m.map (·.1))=(esM m).map (·.1):=by have e1:=mergeSort_of_perm_i hp;have e2:sorted ((esM m).map (·.1))=(esM m).map (·.1):=yK xQ;exact e1.trans e2
 rw[hs,Bi fun e he=>(KP.1 he).2];rfl
theorem ah7{m:EnL}{l:List Bk}(h:dY m=some l):Good l∧l.length≤8∧Bj l=esM m:=by have:=aga (uH m) (uI m) 0 0 0 [] (some []) (by rw[agf,Ga]) (by rw[Ga];omega) alj;rw[List.nil_append]at this;have h':uG (ents 0 (uH m) (uI m)) (some [])=some l:=h;rw[h']at this;exact⟨this.1,this.2.2.1,this.2.2.2.1⟩
theorem H6{m:EnL}(hn:(m.map (·.1)).Nodup)(hk:Dg m):yE (m,())=some ((dY m).getD [],(dY m).isSome,()):=by have h:m.all qV=true:=List.all_eq_true.2 fun e he=>C5.2 (by have:=hk e.1 (List.mem_map.2 ⟨e,he,rfl⟩);unfold inR;omega);show (if m.all qV=true then some ((bZ m).1,(bZ m).2,()) else none)=_;rw[if_pos h,aay hn hk];cases dY m<;>rfl
def mapD(b:List ak)(a:fZ):EnL:=gQ [] (wrD a b)
def Bp(t:bU)(ps:List ak)(p:ak):Bool:=match eD (fun d=>eqs d.1 p.1) t 0 with
 | some z=>(dY (mapD ps z.2)).isNone
 | none=>false
def eF:Nat->List EnL->List (Int×List Bk)
 | _,[]=>[]
 | i,m::q=>if ((dY m).getD []).length=0 then eF (i+1) q else ((i:Int),(dY m).getD [])::eF (i+1) q
def qm(t:bU)(r:eT):List (Int×List Bk)×(Int×Int):=if iP t r=(0,0) then match r.2.find? (Bp t r.2) with
  | some p=>([],(160,p.2.1))
  | none=>(eF 0 (fU t r.2),(0,0))
 else ([],iP t r)
theorem aaz{L:EnL}{P:Int->Prop}(h:∀e∈L,P e.1):∀k∈(gQ [] L).map (·.1),P k:=by
 intro k hk;have:bq kT (gQ [] L) k≠none:=fun e=>LF.1 e hk
 cases hd:bq kT (gQ [] L) k with
 | none=>exact absurd hd this
 | some w =>
  rcases xP L [] k w hd with h1 | h1
  ·exact h _ h1
  ·cases h1
theorem alC{p:TPt}(h:ptB p=true):(0≤p.2.1∧p.2.1<64)∧(0≤p.2.2.1∧p.2.2.1≤6):=by unfold ptB at h;simp only[zL,decide_eq_true_eq]at h;exact⟨h.2.1,h.2.2.1⟩
theorem Ti{t:bU}(hB:oD t=true){d:fZ}(hd:d∈t)(ps:List ak):((mapD ps d).map (·.1)).Nodup∧Dg (mapD ps d):=by refine⟨HV _ [] (by simp),aaz (P:=fun k=>0≤k∧k<64) fun e he=>?_⟩;obtain⟨a,w⟩:=e;obtain⟨p,_,_,s,_,q,hq,_,h2,_⟩:=uY.1 he;rw[<- h2];exact (alC ((FZ ((oI hB).2.2 d hd)).2.2 q hq)).1
theorem Tj:∀(i:Nat) (ms:List EnL),(eF i ms).length≤ms.length
 | _,[]=>by simp[eF]
 | i,m::q=>by have:=Tj (i+1) q;unfold eF;split<;>simp only[List.length_cons]<;>omega
theorem DY{t:bU}{r:eT}(ht:Kj t)(hr:FR r):F7 (t,r,())=some ((qm t r).1,(qm t r).2,()):=by
 have ht1:=ht.1;have hr1:=hr.1;show KC KE t r=_;unfold KC qm;rw[atp ht hr];rcases yI t r with ⟨h1,hB,h3,h4⟩ | ⟨h1,_⟩
 ·rw[if_pos h1,if_pos h1,zB]
  dsimp only;rw[if_neg (by decide)]
  have K2:QG (fU t r.2) (0,0)=some (eF 0 (fU t r.2),(0,0),()):=by
   show KD (fU t r.2) (zD (fU t r.2).length) 0 (0,0) []=_;have hwl:(fU t r.2).length=t.length:=by unfold fU;rw[zV]
   have hw:∀m∈fU t r.2,(m.map (·.1)).Nodup∧Dg m:=fun m hm=>by obtain⟨d,hd,rfl⟩:=List.mem_map.1 hm;exact Ti hB hd r.2
   generalize fU t r.2=ms at hwl hw ⊢;rw[alB]
   have key:∀(k i n:Nat) (l:List (Int×List Bk)),i+k=ms.length->k<n->l.length≤i->aj Q0 n (ms,zD ms.length,(i:Int),(0,0),l)=some (l++eF i (ms.drop i),(0,0),()):=by
    intro k
    induction k with
    | zero =>
     intro i n l hi hn hl;obtain⟨n,rfl⟩:∃n',n=n'+1:=⟨n - 1,by omega⟩;rw[gB,age];unfold F6;rw[if_neg (by rw[bg,ay];omega),List.drop_of_length_le (by omega)];show some (l,(0,0),())=_;rw[eF,List.append_nil]
    | succ k ih =>
     intro i n l hi hn hl;obtain⟨n,rfl⟩:∃n',n=n'+1:=⟨n - 1,by omega⟩;have hlt:i<ms.length:=by omega
     have hg:ms[i]? = some ms[i]:=zQ hlt;obtain⟨hn1,hn2⟩:=hw ms[i] (List.getElem_mem hlt);rw[gB,age];unfold F6;rw[if_pos (by rw[bg,ay];omega),gK hg,zB,H6 hn1 hn2,zB,iO (by omega),List.drop_eq_getElem_cons hlt,eF];dsimp only;by_cases h0:((dY ms[i]).getD []).length=0
     ·rw[if_pos h0,if_neg (by rw[fC,ay];omega)]
      exact ih (i+1) n l (by omega) (by omega) (by omega)
     ·rw[if_neg h0,if_pos (by rw[fC,ay];omega)]
      rw[jU (by omega)];show aj Q0 n (ms,zD ms.length,((i+1:Nat):Int),(0,0),l++[((i:Int),(dY ms[i]).getD [])])=_;rw[ih (i+1) n _ (by omega) (by omega) (by rw[List.length_append,List.length_singleton];omega),List.append_assoc];rfl
   exact (key ms.length 0 18446744073709551616 [] (by omega) (by omega) (by simp)).trans (by rw[List.drop_zero,List.nil_append])
  rw[alz]
  refine (l8 (xs:=r.2) (mk:=fun i (_:Unit)=>(t,fU t r.2,r.2,zD r.2.length,(i:Int),((0,0):Int×Int)))
   (body:=fun a p k=>if Bp t r.2 p=true then some ([],(160,p.2.1),()) else k a) (fin:=fun _=>some (eF 0 (fU t r.2),(0,0),())) ?_ ?_ r.2.length 0 () _ (by omega) (by omega)).trans ?_
  ·intro self i a p hp
   have hi:=(List.getElem?_eq_some_iff.1 hp).1;rw[agc];unfold F5;rw[if_pos (by rw[bg,ay];omega),gK hp,zB,find_eq (by omega),zB,iO (by omega)];unfold Bp
   cases hz:eD (fun d=>eqs d.1 p.1) t 0 with
   | none=>rfl
   | some z =>
    obtain⟨z1,z2⟩:=z;obtain⟨hm,hg,_⟩:=oF hz;obtain⟨hn1,hn2⟩:=Ti hB hm r.2;have hwg:(fU t r.2)[z1]? = some (mapD r.2 z2):=by unfold fU;rw[List.getElem?_map,hg];rfl
    dsimp only;rw[if_pos rfl,gK hwg,zB,H6 hn1 hn2,zB];dsimp only;rw[show (!(dY (mapD r.2 z2)).isSome)=(dY (mapD r.2 z2)).isNone from by cases dY (mapD r.2 z2)<;>rfl]
  ·intro self a
   rw[agc];unfold F5;rw[if_neg (by rw[bg,ay];omega)];exact K2
  ·rw[List.drop_zero]
   generalize Bp t r.2=B;generalize eF 0 (fU t r.2)=E;generalize r.2=ps
   induction ps with
   | nil=>rfl
   | cons p q ih =>
    show (if B p=true then some ([],(160,p.2.1),()) else goL _ _ q ())=_;rw[ih,List.find?_cons]
    cases hb:B p with
    | true=>rfl
    | false=>rfl
 ·have:¬ iP t r=(0,0):=fun e=>h1 (by rw[e])
  rw[if_neg this,if_neg this,zB];dsimp only;rw[if_pos];have:eqi (iP t r).1 0=false:=by rw[Bool.eq_false_iff];exact fun e=>h1 (fQ.1 e)
  rw[this];rfl
end Go.Proofs.Lx
end
noncomputable section
set_option maxRecDepth 100000
namespace Go.Proofs.Lx
open Go Ev Sx Pl
theorem ah8{m n:EnL}(h:∀a,bq kT m a=bq kT n a):esM m=esM n:=by
 have e1:uH m=uH n:=List.map_congr_left fun i _=>by unfold bkV;rw[h]
 have e2:uI m=uI n:=List.map_congr_left fun i _=>by rw[h]
 unfold esM;rw[e1,e2]
theorem agh{m n:EnL}(h:∀a,bq kT m a=bq kT n a):dY m=dY n:=by unfold dY;rw[ah8 h]
theorem Gb:dY []=some []:=by
 have:esM []=[]:=by decide
 unfold dY;rw[this];rfl
theorem Q6{d:fZ}{ps qs:List ak}(f:Func (wrD d ps))(h:∀e,e∈wrD d ps↔e∈wrD d qs):dY (mapD ps d)=dY (mapD qs d):=by have g:Func (wrD d qs):=fun a w v h1 h2=>f a w v ((h _).2 h1) ((h _).2 h2);refine agh fun a=>Option.ext fun w=>?_;unfold mapD;rw[Qt f,Qt g,h]
theorem LK{d:fZ}{ps:List ak}(h:∀p∈ps,d.1=p.1->p.2.2=[]):mapD ps d=[]:=by
 have:wrD d ps=[]:=by
  cases e:wrD d ps with
  | nil=>rfl
  | cons x q =>
   obtain⟨a,w⟩:=x;have hm:(a,w)∈wrD d ps:=by rw[e];exact List.mem_cons_self ..
   obtain⟨p,hp,h1,s,hs,_⟩:=uY.1 hm;rw[h p hp h1]at hs;cases hs
 unfold mapD;rw[this];rfl
theorem Q7{d:fZ}:∀{ss:List bG} {N:List (List UInt8)},(ss.map (·.1)).Nodup->(∀s∈ss,s.1 ∉ N)->(∀s∈ss,∃z,eD (fun p=>eqs p.1 s.1) d.2 0=some z∧(kN z.2 s).2=0)->fI d ss N=none
 | [],_,_,_,_=>rfl
 | s::q,N,h1,h2,h3=>by
  rw[List.map_cons,List.nodup_cons]at h1;obtain⟨z,hz,hw⟩:=h3 s (List.mem_cons_self ..);rw[fI,hz];dsimp only;rw[if_neg (h2 s (List.mem_cons_self ..)),if_pos hw];refine Q7 h1.2 (fun x hx hm=>?_) (fun x hx=>h3 x (zO _ hx));rcases List.mem_cons.1 hm with e | hm
  ·exact h1.1 (List.mem_map.2 ⟨x,hx,e⟩)
  ·exact h2 x (zO _ hx) hm
theorem Dh{t:bU}:∀{ps:List ak} {N:List (List UInt8)},(ps.map (·.1)).Nodup->(∀p∈ps,p.1 ∉ N)->(∀p∈ps,∃z,eD (fun d=>eqs d.1 p.1) t 0=some z∧fI z.2 p.2.2 []=none)->gF t ps N=none
 | [],_,_,_,_=>rfl
 | p::q,N,h1,h2,h3=>by
  rw[List.map_cons,List.nodup_cons]at h1;obtain⟨z,hz,hw⟩:=h3 p (List.mem_cons_self ..);rw[gF,hz];dsimp only;rw[if_neg (h2 p (List.mem_cons_self ..)),hw];dsimp only;refine Dh h1.2 (fun x hx hm=>?_) (fun x hx=>h3 x (zO _ hx));rcases List.mem_cons.1 hm with e | hm
  ·exact h1.1 (List.mem_map.2 ⟨x,hx,e⟩)
  ·exact h2 x (zO _ hx) hm
structure Okr(T:bU) (R:eT):Prop where
 t:oD T=true
 r:eX R=true
 p:gF T R.2 []=none
 b:∀d∈T,(dY (mapD R.2 d)).isSome=true
theorem ah9{t:bU}(hB:oD t=true){d:fZ}(hd:d∈t){n:List UInt8}(e:d.1=n):∃i,eD (fun d=>eqs d.1 n) t 0=some (i,d):=by
 cases hz:eD (fun d=>eqs d.1 n) t 0 with
 | none =>
  have:=CS hz d hd;rw[ql.2 e]at this;cases this
 | some z =>
  obtain⟨i,z⟩:=z;obtain⟨hm,hi,hn⟩:=oF hz;have:z=d:=rG (oI hB).1 hm hd (by rw[ql.1 hn,e]);subst this;exact⟨i,rfl⟩
theorem DZ{t:bU}{r:eT}(h:Okr t r):qm t r=(eF 0 (fU t r.2),(0,0)):=by
 have hc:iP t r=(0,0):=by unfold iP;rw[h.t,h.r,if_pos (show (true && true)=true from rfl),h.p];rfl
 have hb:r.2.find? (Bp t r.2)=none:=by
  rw[List.find?_eq_none];intro p hp;unfold Bp
  cases hz:eD (fun d=>eqs d.1 p.1) t 0 with
  | none=>simp
  | some z =>
   have:=h.b z.2 (oF hz).1;dsimp only
   cases e:dY (mapD r.2 z.2) with
   | none=>rw[e]at this;cases this
   | some _=>simp
 unfold qm;rw[if_pos hc,hb]
theorem Tm{t:bU}{r:eT}(h:(qm t r).2.1=0):Okr t r:=by
 rcases yI t r with ⟨h1,h2,h3,h4⟩ | ⟨h1,_⟩
 ·unfold qm at h
  rw[if_pos h1]at h
  have hb:r.2.find? (Bp t r.2)=none:=by
   cases e:r.2.find? (Bp t r.2) with
   | none=>rfl
   | some p =>
    rw[e]at h;exact absurd (show (160:Int)=0 from h) (by decide)
  rw[List.find?_eq_none]at hb;refine⟨h2,h3,h4,fun d hd=>?_⟩;by_cases hx:∃p∈r.2,d.1=p.1
  ·obtain⟨p,hp,e⟩:=hx
   obtain⟨i,hi⟩:=ah9 h2 hd e;have:=hb p hp;unfold Bp at this;rw[hi]at this;dsimp only at this
   cases e:dY (mapD r.2 d) with
   | none=>rw[e]at this;exact absurd rfl this
   | some _=>rfl
  ·rw[LK fun p hp e=>absurd ⟨p,hp,e⟩ hx,Gb]
   rfl
 ·unfold qm at h
  rw[if_neg (fun e=>h1 (by rw[e]))]at h;exact absurd h h1
theorem Q8:∀{ms ns:List EnL} {i:Nat},ms.map dY=ns.map dY->eF i ms=eF i ns
 | [],[],_,_=>rfl
 | [],_::_,_,h=>by cases h
 | _::_,[],_,h=>by cases h
 | m::ms,n::ns,i,h=>by
  rw[List.map_cons,List.map_cons]at h;injection h with h1 h2
  unfold eF;rw[h1,Q8 h2]
theorem Tn(qs:List TPt):∀(ss:List bG) (n:Int),wrS qs (nH n ss)=wrS qs ss
 | [],_=>rfl
 | s::q,n=>by unfold nH wrS;rw[List.flatMap_cons,List.flatMap_cons];have:=Tn qs q (n+1);unfold wrS at this;rw[this];rfl
theorem KQ(d:fZ):∀(ps:List ak) (n:Int),wrD d (rel n ps)=wrD d ps
 | [],_=>rfl
 | p::q,n=>by have:=KQ d q (n+1+p.2.2.length+1);unfold wrD at this;unfold rel wrD;rw[List.flatMap_cons,List.flatMap_cons,this,Tn]
theorem LM{d:fZ}:∀{ss:List bG} {N:List (List UInt8)} {n:Int},fI d ss N=none->fI d (nH n ss) N=none
 | [],_,_,_=>rfl
 | s::q,N,n,h=>by
  rw[fI]at h;unfold nH;rw[fI];dsimp only
  cases hz:eD (fun p=>eqs p.1 s.1) d.2 0 with
  | none=>rw[hz]at h;cases h
  | some z =>
   rw[hz]at h;dsimp only at h ⊢;by_cases h1:s.1∈N
   ·rw[if_pos h1]at h;cases h
   ·rw[if_neg h1]at h ⊢
    by_cases h2:(kN z.2 s).2=0
    ·rw[if_pos h2]at h
     have h2':(kN z.2 (s.1,s.2.1,s.2.2.1,n)).2=0:=h2;rw[if_pos h2'];exact LM h
    ·rw[if_neg h2]at h;cases h
theorem H7{t:bU}:∀{ps:List ak} {N:List (List UInt8)} {n:Int},gF t ps N=none->gF t (rel n ps) N=none
 | [],_,_,_=>rfl
 | p::q,N,n,h=>by
  rw[gF]at h;unfold rel;rw[gF];dsimp only
  cases hz:eD (fun d=>eqs d.1 p.1) t 0 with
  | none=>rw[hz]at h;cases h
  | some z =>
   rw[hz]at h;dsimp only at h ⊢;by_cases h1:p.1∈N
   ·rw[if_pos h1]at h;cases h
   ·rw[if_neg h1]at h ⊢
    cases hs:fI z.2 p.2.2 []with
    | some f=>rw[hs]at h;cases h
    | none =>
     rw[hs]at h;rw[LM hs];exact H7 h
theorem Di:∀{ss:List bG} {n:Int},ss.all qO=true->(nH n ss).all qO=true
 | [],_,_=>rfl
 | s::q,n,h=>by rw[List.all_cons,zL]at h;unfold nH;rw[List.all_cons,zL];exact⟨h.1,Di h.2⟩
theorem Bv:∀{ps:List ak} {n:Int},ps.all kR=true->(rel n ps).all kR=true
 | [],_,_=>rfl
 | p::q,n,h=>by rw[List.all_cons,zL]at h;unfold rel;rw[List.all_cons,zL];refine⟨?_,Bv h.2⟩;have h1:=h.1;unfold kR at h1 ⊢;simp only[zL,decide_eq_true_eq]at h1 ⊢;exact⟨h1.1,by rw[FQ];exact h1.2.1,Di h1.2.2⟩
theorem aia{t:bU}{r:eT}(h:Okr t r)(n:Int):Okr t (r.1,rel n r.2)∧fU t (rel n r.2)=fU t r.2:=by
 have hr:=h.r;unfold eX at hr;simp only[zL,decide_eq_true_eq]at hr;refine⟨⟨h.t,?_,H7 h.p,fun d hd=>?_⟩,?_⟩
 ·unfold eX
  simp only[zL,decide_eq_true_eq];exact⟨hr.1,by rw[Kg];exact hr.2.1,Bv hr.2.2⟩
 ·have:=h.b d hd
  unfold mapD at this ⊢;dsimp only;rw[KQ];exact this
 ·unfold fU
  exact List.map_congr_left fun d _=>by rw[KQ]
def Dj(p:ak):ak:=(p.1,0,p.2.2.reverse)
def iC(a:List ak):List ak:=(a.map Dj).reverse
theorem wD{ps:List ak}{x:ak}:x∈iC ps ↔ ∃p∈ps,x=Dj p:=by unfold iC;rw[List.mem_reverse,List.mem_map];exact⟨fun ⟨p,h,e⟩=>⟨p,h,e.symm⟩,fun ⟨p,h,e⟩=>⟨p,h,e.symm⟩⟩
theorem Bq(ps:List ak):(iC ps).length=ps.length:=by unfold iC;simp
theorem YV(ps:List ak):(iC ps).map (·.1)=(ps.map (·.1)).reverse:=by unfold iC;rw[List.map_reverse,List.map_map];rfl
theorem aib{d:fZ}{ps:List ak}(e:Int×Int):e∈wrD d ps↔e∈wrD d (iC ps):=by
 obtain⟨a,w⟩:=e;rw[uY,uY];constructor
 ·rintro⟨p,hp,h1,s,hs,h⟩
  exact⟨Dj p,wD.2 ⟨p,hp,rfl⟩,h1,s,List.mem_reverse.2 hs,h⟩
 ·rintro⟨x,hx,h1,s,hs,h⟩
  obtain⟨p,hp,rfl⟩:=wD.1 hx;exact⟨p,hp,h1,s,List.mem_reverse.1 hs,h⟩
theorem LP{α:Type}{l:List α}(h:l.Nodup):l.reverse.Nodup:=(List.reverse_perm l).nodup_iff.2 h
theorem aaA{d:fZ}{ss:List bG}(h:fI d ss []=none):fI d ss.reverse []=none:=by obtain⟨⟨h1,_⟩,h2⟩:=F3 h;refine Q7 ?_ (fun s _ hm=>by cases hm) (fun s hs=>h2 s (List.mem_reverse.1 hs));rw[List.map_reverse];exact LP h1
theorem aic:dz [98]=true:=by decide
theorem aid{t:bU}{r:eT}(h:Okr t r):Okr t ([98],iC r.2)∧eF 0 (fU t (iC r.2))=eF 0 (fU t r.2):=by
 have hr:=h.r;unfold eX at hr;simp only[zL,decide_eq_true_eq,List.all_eq_true]at hr;obtain⟨⟨p1,_⟩,p2⟩:=o9 h.p;have hm:∀d∈t,dY (mapD r.2 d)=dY (mapD (iC r.2) d):=fun d hd=>Q6 (Qx h.t h.p hd) aib;refine⟨⟨h.t,?_,Dh ?_ (fun p _ hm=>by cases hm) (fun x hx=>?_),fun d hd=>by rw[<- hm d hd];exact h.b d hd⟩,?_⟩
 ·unfold eX
  simp only[zL,decide_eq_true_eq,List.all_eq_true];refine⟨aic,by rw[Bq];exact hr.2.1,fun x hx=>?_⟩;obtain⟨p,hp,rfl⟩:=wD.1 hx;have hb:=hr.2.2 p hp;unfold kR at hb ⊢;unfold Dj;rw[List.length_reverse,List.all_reverse];exact hb
 ·show ((iC r.2).map (·.1)).Nodup
  rw[YV];exact LP p1
 ·obtain⟨p,hp,rfl⟩:=wD.1 hx
  obtain⟨z,hz,hs⟩:=p2 p hp;exact⟨z,hz,aaA hs⟩
 ·refine Q8 ?_
  unfold fU;rw[List.map_map,List.map_map];exact List.map_congr_left fun d hd=>(hm d hd).symm
theorem Ez{P:EnL->EnL}{k:Nat}:∀{ms ns:List EnL} {i:Nat},ms.length=ns.length->(∀(j:Nat) (m n:EnL),ms[j]? = some m->ns[j]? = some n->(if i+j=k then dY n=some [] else dY n=dY m)) ->
  eF i ns=(eF i ms).filter fun s=>nei s.1 (k:Int)
 | [],[],_,_,_=>rfl
 | [],_::_,_,h,_=>by cases h
 | _::_,[],_,h,_=>by cases h
 | m::ms,n::ns,i,hl,h=>by
  have h0:=h 0 m n rfl rfl
  have ih:=@Ez P k ms ns (i+1) (by simpa using hl) (fun j m' n' h1 h2=>by
   have:=h (j+1) m' n' h1 h2;rw[show i+1+j=i+(j+1) by omega]
   exact this)
  unfold eF;rw[Nat.add_zero]at h0;by_cases e:i=k
  ·rw[if_pos e]at h0
   have:((dY n).getD []).length=0:=by rw[h0];rfl
   rw[if_pos this,ih];split
   ·rfl
   ·rw[List.filter_cons_of_neg (by rw[dK];exact fun q=>q (by rw[e]))]
  ·rw[if_neg e]at h0
   rw[h0,ih];split
   ·rfl
   ·rw[List.filter_cons_of_pos (by rw[dK];omega)]
def nJ(c:List ak)(b:Nat)(a:ak):List ak:=c.set b (a.1,a.2.1,[])
theorem zx{ps:List ak}{k:Nat}{p x:ak}(hk:ps[k]? = some p)(hn:(ps.map (·.1)).Nodup)(hx:x∈nJ ps k p):x=(p.1,p.2.1,[])∨x∈ps∧x.1≠p.1:=by
 unfold nJ at hx;obtain⟨j,hj⟩:=List.getElem?_of_mem hx;rw[List.getElem?_set]at hj;split at hj
 ·split at hj
  ·exact .inl (Option.some.inj hj).symm
  ·cases hj
 ·rename_i hne
  exact .inr ⟨zT hj,fun e=>hne (Bg hn k j p x hk hj e.symm)⟩
theorem agi{ps:List ak}{k:Nat}{p x:ak}(hk:ps[k]? = some p)(hx:x∈ps)(hne:x.1≠p.1):x∈nJ ps k p:=by
 unfold nJ;obtain⟨j,hj⟩:=List.getElem?_of_mem hx;refine zT (i:=j) ?_;rw[List.getElem?_set];split
 ·rename_i e
  subst e;rw[hk]at hj;cases hj;exact absurd rfl hne
 ·exact hj
theorem aie{t:bU}{nm:List UInt8}{ps:List ak}(h:Okr t (nm,ps)){k:Nat}{p:ak}(hk:ps[k]? = some p){w:Nat}{d:fZ}(hw:eD (fun d=>eqs d.1 p.1) t 0=some (w,d)) :
  Okr t (nm,nJ ps k p)∧eF 0 (fU t (nJ ps k p))=(eF 0 (fU t ps)).filter fun s=>nei s.1 (w:Int):=by
 have hr:=h.r;unfold eX at hr;simp only[zL,decide_eq_true_eq,List.all_eq_true]at hr;obtain⟨⟨p1,_⟩,p2⟩:=o9 h.p;obtain⟨hm,hi,hn⟩:=oF hw;have hn:=ql.1 hn;have pm:=zT hk
 have nm':(nJ ps k p).map (·.1)=ps.map (·.1):=by
  unfold nJ;rw[List.map_set];refine List.ext_getElem? fun j=>?_;rw[List.getElem?_set];split
  ·rename_i e
   subst e;rw[List.getElem?_map,hk];split
   ·rfl
   ·rename_i hl
    rw[zV]at hl;exact absurd (List.getElem?_eq_some_iff.1 hk).1 hl
  ·rfl
 have other:∀e∈t,e.1≠p.1->dY (mapD (nJ ps k p) e)=dY (mapD ps e):=fun e he hne=>by
  refine (Q6 (Qx (r:=(nm,ps)) h.t h.p he) fun x=>?_).symm;obtain⟨a,v⟩:=x;rw[uY,uY];constructor
  ·rintro⟨q,hq,h1,h2⟩
   exact⟨q,agi hk hq (fun e'=>hne (h1.trans e')),h1,h2⟩
  ·rintro⟨q,hq,h1,s,hs,h2⟩
   rcases zx hk p1 hq with rfl | ⟨h3,_⟩
   ·cases hs
   ·exact⟨q,h3,h1,s,hs,h2⟩
 have none:dY (mapD (nJ ps k p) d)=some []:=by
  rw[LK fun q hq e=>?_,Gb];rcases zx hk p1 hq with rfl | ⟨_,h4⟩
  ·rfl
  ·exact absurd (e.symm.trans hn) h4
 refine⟨⟨h.t,?_,Dh (by rw[nm'];exact p1) (fun p _ hm=>by cases hm) (fun x hx=>?_),fun e he=>?_⟩,?_⟩
 ·unfold eX
  simp only[zL,decide_eq_true_eq,List.all_eq_true];refine⟨hr.1,by unfold nJ;rw[List.length_set];exact hr.2.1,fun x hx=>?_⟩;rcases zx hk p1 hx with rfl | ⟨h3,_⟩
  ·have hb:=hr.2.2 p pm
   unfold kR at hb ⊢;simp only[zL]at hb ⊢;exact⟨hb.1,rfl,rfl⟩
  ·exact hr.2.2 x h3
 ·rcases zx hk p1 hx with rfl | ⟨h3,_⟩
  ·exact⟨_,hw,rfl⟩
  ·exact p2 x h3
 ·by_cases e1:e.1=p.1
  ·have:e=d:=rG (oI h.t).1 he hm (e1.trans hn.symm)
   rw[this,none];rfl
  ·dsimp only
   rw[other e he e1];exact h.b e he
 ·refine Ez (P:=id) (by unfold fU;rw[zV,zV]) fun j m n h1 h2=>?_
  unfold fU at h1 h2;rw[List.getElem?_map]at h1 h2
  cases hj:t[j]? with
  | none=>rw[hj]at h1;cases h1
  | some e =>
   rw[hj]at h1 h2;cases h1;cases h2;have he:=zT hj;rw[Nat.zero_add];by_cases e1:j=w
   ·subst e1
    rw[hi]at hj;cases hj;rw[if_pos rfl];exact none
   ·rw[if_neg e1]
    exact other e he fun e2=>e1 ((oI h.t).2.1 j w e d hj hi (e2.trans hn.symm))
theorem Q9:∀{t:bU} {i:Nat},eF i (fU t [])=[]
 | [],_=>rfl
 | d::q,i=>by have:eF (i+1) (fU q [])=[]:=Q9;show eF i (gQ [] (wrD d [])::fU q [])=[];unfold eF;have e:dY (gQ [] (wrD d []))=some []:=Gb;rw[e,if_pos (show ((some ([]:List Bk)).getD []).length=0 from rfl),this]
end Go.Proofs.Lx
end
