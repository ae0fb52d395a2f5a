/- Proved in the last of these 20 parts (this is part 12): SlaveTells. Conditions: those of the given statement, and no others. -/
import Derived.Test.YtkcmbampiiolbaaGreatParte
import Derived.Test.YtkcmbampiiolbaaGreatPartk
import Derived.Test.YtkcmbampiiolbaaGreatProg
import Derived.Test.YtkcmbampiiolbaaGreatPartj
set_option linter.unusedVariables false
set_option linter.unusedSimpArgs false
set_option linter.unusedSectionVars false
open Option renaming bind → zC, none → zH
open List renaming replicate → zE, length → zG
open Int renaming ofNat → zF, toNat → zI
open Go.Value renaming slice → zK
noncomputable section
open Go Go.Proofs Ev Sx
set_option maxRecDepth 100000
namespace Go.Proofs.Lx
abbrev iK:Type:=Int×Int×gq×List Bool
abbrev nV:Type:=Int×Int×Int×Int×List Int×List Bool
@[reducible] def aW:List Ty:=[.pr (.sl .bool) su]
@[reducible] def vL:Sh:=shD bR aW
def aej:Env:=(cts [(2000038,Ev.iq),(115,(⟨ad3,ad7⟩:Ct)),(116,(⟨aed,aei⟩:Ct))])
def aek:List (Nat×Hint):=[(3,⟨[],[1,2,3]⟩),(63,⟨[],[1,2,3,4]⟩),(127,⟨[],[1,2,3,4]⟩),(255,⟨[],[1,2,3,4]⟩),(511,⟨[],[2,3,4]⟩),(4090,⟨[],[1,2,3,4,10]⟩),(2042,⟨[],[1,2,3,4,7]⟩),(8169,⟨[],[1,2,3,4,7]⟩),(261414,⟨[],[1,2,3,4,7,8,9]⟩),(1018,⟨[],[1,2,3,4,6]⟩),(506,⟨[],[1,2,3,4,5]⟩)]
@[reducible] def zL0:Type:=Unit×Unit×Unit×Unit
def ael(c:iK)(e d:zL0)(a:List Bool)(b:List Int):St:=⟨[(1,.pe aQ c),(2,.pb 0 0),(3,.pb 1 0)],112,[],[(0,.box 96 [.k (zK zH 0 0),.k (zK zH 0 0),.k (zK zH 0 0),.k (zK zH 0 0)]),(1,.box 96 [.k (zK zH 0 0),.row 2,.row 3,.k (zK zH 0 0)]),(2,.row .bool 4 a),(3,.row (.int .u16) 23 b)],4,[],0⟩
def aem(f:iK)(g:List Int)(a:Int)(i h:zL0)(b c:List Bool)(d e:List Int):St:=⟨[(1,.pe aQ f),(2,.pb 0 0),(3,.pb 1 0),(4,dW g),(5,dI a)],112,[],[(0,.box 96 [.k (zK zH 0 0),.k (zK zH 0 0),.k (zK zH 0 0),.k (zK zH 0 0)]),(1,.box 96 [.row 2,.row 3,.row 4,.row 5]),(2,.row .bool 4 b),(3,.row .bool 4 c),(4,.row (.int .u16) 23 d),(5,.row (.int .u16) 23 e)],6,[],0⟩
def aen(e:iK)(f:List Int)(h g:zL0)(a b:List Bool)(c d:List Int):St:=⟨[(1,.pe aQ e),(2,.pb 0 0),(3,.pb 1 0),(4,dW f)],112,[],[(0,.box 96 [.k (zK zH 0 0),.k (zK zH 0 0),.k (zK zH 0 0),.k (zK zH 0 0)]),(1,.box 96 [.row 2,.row 3,.row 4,.row 5]),(2,.row .bool 4 a),(3,.row .bool 4 b),(4,.row (.int .u16) 23 c),(5,.row (.int .u16) 23 d)],6,[],0⟩
def aeo(f:iK)(g:List Int)(a:Int)(i h:zL0)(b c:List Bool)(d e:List Int):St:=⟨[(1,.pe aQ f),(2,.pb 0 0),(3,.pb 1 0),(4,dW g),(6,dI a)],112,[],[(0,.box 96 [.k (zK zH 0 0),.k (zK zH 0 0),.k (zK zH 0 0),.k (zK zH 0 0)]),(1,.box 96 [.row 2,.row 3,.row 4,.row 5]),(2,.row .bool 4 b),(3,.row .bool 4 c),(4,.row (.int .u16) 23 d),(5,.row (.int .u16) 23 e)],6,[],0⟩
def aep(e:iK)(f:List Int)(h g:zL0)(a b:List Bool)(c d:List Int):St:=⟨[(1,.pe aQ e),(2,.pb 0 0),(3,.pb 1 0),(4,dW f)],112,[],[(0,.box 96 [.k (zK zH 0 0),.k (zK zH 0 0),.k (zK zH 0 0),.k (zK zH 0 0)]),(1,.box 96 [.row 2,.row 3,.row 4,.row 5]),(2,.row .bool 4 a),(3,.row .bool 4 b),(4,.row (.int .u16) 23 c),(5,.row (.int .u16) 23 d)],6,[],0⟩
def AU(f:iK)(g:List Int)(a:Int)(i h:zL0)(b c:List Bool)(d e:List Int):St:=⟨[(1,.pe aQ f),(2,.pb 0 0),(3,.pb 1 0),(4,dW g),(7,dI a)],112,[],[(0,.box 96 [.k (zK zH 0 0),.k (zK zH 0 0),.k (zK zH 0 0),.k (zK zH 0 0)]),(1,.box 96 [.row 2,.row 3,.row 4,.row 5]),(2,.row .bool 4 b),(3,.row .bool 4 c),(4,.row (.int .u16) 23 d),(5,.row (.int .u16) 23 e)],6,[],0⟩
def aer(g:iK)(h:List Int)(a:Int)(i:List Int)(b:Int)(k j:zL0)(c d:List Bool)(e f:List Int):St:=⟨[(1,.pe aQ g),(2,.pb 0 0),(3,.pb 1 0),(4,dW h),(7,dI a),(8,dW i),(9,dI b)],112,[],[(0,.box 96 [.k (zK zH 0 0),.k (zK zH 0 0),.k (zK zH 0 0),.k (zK zH 0 0)]),(1,.box 96 [.row 2,.row 3,.row 4,.row 5]),(2,.row .bool 4 c),(3,.row .bool 4 d),(4,.row (.int .u16) 23 e),(5,.row (.int .u16) 23 f)],6,[],0⟩
def aes(e:iK)(f:List Int)(h g:zL0)(a b:List Bool)(c d:List Int):St:=⟨[(1,.pe aQ e),(2,.pb 0 0),(3,.pb 1 0),(4,dW f)],112,[],[(0,.box 96 [.k (zK zH 0 0),.k (zK zH 0 0),.k (zK zH 0 0),.k (zK zH 0 0)]),(1,.box 96 [.row 2,.row 3,.row 4,.row 5]),(2,.row .bool 4 a),(3,.row .bool 4 b),(4,.row (.int .u16) 23 c),(5,.row (.int .u16) 23 d)],6,[],0⟩
def aet(f:iK)(g:List Int)(a:Int)(i h:zL0)(b c:List Bool)(d e:List Int):St:=⟨[(1,.pe aQ f),(2,.pb 0 0),(3,.pb 1 0),(4,dW g),(7,dI a)],112,[],[(0,.box 96 [.k (zK zH 0 0),.k (zK zH 0 0),.k (zK zH 0 0),.k (zK zH 0 0)]),(1,.box 96 [.row 2,.row 3,.row 4,.row 5]),(2,.row .bool 4 b),(3,.row .bool 4 c),(4,.row (.int .u16) 23 d),(5,.row (.int .u16) 23 e)],6,[],0⟩
def aeu(f:iK)(g:List Int)(a:Int)(i h:zL0)(b c:List Bool)(d e:List Int):St:=⟨[(1,.pe aQ f),(2,.pb 0 0),(3,.pb 1 0),(4,dW g),(10,dI a)],112,[],[(0,.box 96 [.k (zK zH 0 0),.k (zK zH 0 0),.k (zK zH 0 0),.k (zK zH 0 0)]),(1,.box 96 [.row 2,.row 3,.row 4,.row 5]),(2,.row .bool 4 b),(3,.row .bool 4 c),(4,.row (.int .u16) 23 d),(5,.row (.int .u16) 23 e)],6,[],0⟩
def aev(e:List Int)(g f:zL0)(a b:List Bool)(c d:List Int):St:=⟨[(2,.pb 0 0),(3,.pb 1 0),(4,dW e)],112,[],[(0,.box 96 [.k (zK zH 0 0),.k (zK zH 0 0),.k (zK zH 0 0),.k (zK zH 0 0)]),(1,.box 96 [.row 2,.row 3,.row 4,.row 5]),(2,.row .bool 4 a),(3,.row .bool 4 b),(4,.row (.int .u16) 23 c),(5,.row (.int .u16) 23 d)],6,[],0⟩
@[reducible] def aS:Type:=As aW
def aew(c:iK->List Int->Int->Unit×Unit×Unit×Unit->Unit×Unit×Unit×Unit->List Bool->List Bool->List Int->List Int->Option aS)(a:iK)(g f:zL0)(d:List Bool)(e:List Int):Option aS :=
 need (small (0+zG a.2.2.2)) (zC (ad7 (a.2.2.1,())) fun b=>need (small (0+zG b.1)) (c a b.1 0 ((),(),(),()) ((),(),(),()) a.2.2.2 d e b.1))
def Ip(h:iK->List Int->Unit×Unit×Unit×Unit->Unit×Unit×Unit×Unit->List Bool->List Bool->List Int->List Int->Option aS)(i:iK->List Int->Int->Unit×Unit×Unit×Unit->Unit×Unit×Unit×Unit->List Bool->List Bool->List Int->List Int->Option aS)(c:iK)(g:List Int)(a:Int)(m l:zL0)(d e:List Bool)(b f:List Int):Option aS :=
 if lt a 64=true then zC (at? c.2.2.1.1 a) fun k=>zC (at? b a) fun j=>zC (at? b a) fun j=>i c g (add .i64 a 1) ((),(),(),()) ((),(),(),()) d e (List.set b (zI a) k) f else h c g ((),(),(),()) ((),(),(),()) d e b f
def avW(a:iK->List Int->Int->Unit×Unit×Unit×Unit->Unit×Unit×Unit×Unit->List Bool->List Bool->List Int->List Int->Option aS)(f:iK)(g:List Int)(i h:zL0)(b c:List Bool)(d e:List Int):Option aS :=
 a f g 0 ((),(),(),()) ((),(),(),()) b c d e
def Iq(h:iK->List Int->Unit×Unit×Unit×Unit->Unit×Unit×Unit×Unit->List Bool->List Bool->List Int->List Int->Option aS)(i:iK->List Int->Int->Unit×Unit×Unit×Unit->Unit×Unit×Unit×Unit->List Bool->List Bool->List Int->List Int->Option aS)(g:iK)(c:List Int)(a:Int)(m l:zL0)(d e:List Bool)(b f:List Int):Option aS :=
 if lt a 8=true then zC (at? c a) fun k=>zC (at? b (add .i64 256 a)) fun j=>zC (at? b (add .i64 256 a)) fun j=>i g c (add .i64 a 1) ((),(),(),()) ((),(),(),()) d e (List.set b (zI (add .i64 256 a)) k) f else h g c ((),(),(),()) ((),(),(),()) d e b f
def avX(a:iK->List Int->Int->Unit×Unit×Unit×Unit->Unit×Unit×Unit×Unit->List Bool->List Bool->List Int->List Int->Option aS)(f:iK)(g:List Int)(i h:zL0)(b c:List Bool)(d e:List Int):Option aS :=
 a f g 0 ((),(),(),()) ((),(),(),()) b c d e
def Ir(i:iK->List Int->Int->List Int->Int->Unit×Unit×Unit×Unit->Unit×Unit×Unit×Unit->List Bool->List Bool->List Int->List Int->Option aS)(j:iK->List Int->Unit×Unit×Unit×Unit->Unit×Unit×Unit×Unit->List Bool->List Bool->List Int->List Int->Option aS)(l:iK->List Int->Int->Unit×Unit×Unit×Unit->Unit×Unit×Unit×Unit->List Bool->List Bool->List Int->List Int->Option aS)(b:iK)(c:List Int)(a:Int)(m k:zL0)(e f:List Bool)(g h:List Int):Option aS :=
 if lt a 8=true then zC (at? c 0) fun d=>zC (aei (b.2.2.1.2.2.2.2.2.1,d,a,())) fun d=>i b c a d.1 0 ((),(),(),()) ((),(),(),()) e f g h else j b c ((),(),(),()) ((),(),(),()) e f g h
def Iu(j o:iK->List Int->Int->Unit×Unit×Unit×Unit->Unit×Unit×Unit×Unit->List Bool->List Bool->List Int->List Int->Option aS)(k:iK->List Int->Int->List Int->Int->Unit×Unit×Unit×Unit->Unit×Unit×Unit×Unit->List Bool->List Bool->List Int->List Int->Option aS)(g:iK)(h:List Int)(b:Int)(i:List Int)(a:Int)(p n:zL0)(d e:List Bool)(c f:List Int):Option aS :=
 if lt a 20=true then zC (at? i a) fun m=>zC (at? c (add .i64 (add .i64 512 (mul .i64 32 b)) a)) fun l=>zC (at? c (add .i64 (add .i64 512 (mul .i64 32 b)) a)) fun l=>k g h b i (add .i64 a 1) ((),(),(),()) ((),(),(),()) d e (List.set c (zI (add .i64 (add .i64 512 (mul .i64 32 b)) a)) m) f else j g h b ((),(),(),()) ((),(),(),()) d e c f
def avY(a:iK->List Int->Int->Unit×Unit×Unit×Unit->Unit×Unit×Unit×Unit->List Bool->List Bool->List Int->List Int->Option aS)(f:iK)(g:List Int)(i h:zL0)(b c:List Bool)(d e:List Int):Option aS :=
 a f g 0 ((),(),(),()) ((),(),(),()) b c d e
def aex(g:iK->List Int->Int->Unit×Unit×Unit×Unit->Unit×Unit×Unit×Unit->List Bool->List Bool->List Int->List Int->Option aS)(f:iK)(h:List Int)(a:Int)(j i:zL0)(b c:List Bool)(d e:List Int):Option aS :=
 g f h (add .i64 a 1) ((),(),(),()) ((),(),(),()) b c d e
def Iv(h:List Int->Unit×Unit×Unit×Unit->Unit×Unit×Unit×Unit->List Bool->List Bool->List Int->List Int->Option aS)(i:iK->List Int->Int->Unit×Unit×Unit×Unit->Unit×Unit×Unit×Unit->List Bool->List Bool->List Int->List Int->Option aS)(f:iK)(g:List Int)(a:Int)(l k:zL0)(c b:List Bool)(d e:List Int):Option aS :=
 if lt a 3=true then zC (at? b a) fun j=>zC (at? b a) fun j=>i f g (add .i64 a 1) ((),(),(),()) ((),(),(),()) c (List.set b (zI a) (eqi (cvt .i64 f.2.2.1.2.2.1) a)) d e else h g ((),(),(),()) ((),(),(),()) c b d e
def aey(d:List Int)(j i:zL0)(e a:List Bool)(f g:List Int):Option aS :=
 zC (at? d 0) fun c=>zC (at? a 4) fun b=>zC (at? a 4) fun b=>zC (at? d 6) fun h=>zC (at? (List.set a 4 (nei c 0)) 5) fun b=>zC (at? (List.set a 4 (nei c 0)) 5) fun b=>some ((e,List.set (List.set a 4 (nei c 0)) 5 (nei h 0),f,g),())
def aez(a:iK->Unit×Unit×Unit×Unit->Unit×Unit×Unit×Unit->List Bool->List Int->Option aS)(b:iK):Option aS :=
 amb (av vL.rs) [amb (av vL.rs) [a b ((),(),(),()) ((),(),(),()) (zE 8 false) (zE 756 0),a b ((),(),(),()) ((),(),(),()) (zE 8 false) (zE 756 0)],amb (av vL.rs) [amb (av vL.rs) [a b ((),(),(),()) ((),(),(),()) (zE 8 false) (zE 756 0),a b ((),(),(),()) ((),(),(),()) (zE 8 false) (zE 756 0)],amb (av vL.rs) [a b ((),(),(),()) ((),(),(),()) (zE 8 false) (zE 756 0),a b ((),(),(),()) ((),(),(),()) (zE 8 false) (zE 756 0)]]]
def aeA(a:iK->List Int->Int->Unit×Unit×Unit×Unit->Unit×Unit×Unit×Unit->List Bool->List Bool->List Int->List Int->Option aS):=aex a
def Iw(l:iK->List Int->Int->Unit×Unit×Unit×Unit->Unit×Unit×Unit×Unit->List Bool->List Bool->List Int->List Int->Option aS)(a:iK)(i:List Int)(b:Int)(k:List Int)(c:Int)(j d:zL0)(e f:List Bool)(g h:List Int):Option aS :=
 ay (fun m a=>Iu (aeA l) l (fun a i b k c j d e f g h=>m (a,i,b,k,c,j,d,e,f,g,h)) a.1 a.2.1 a.2.2.1 a.2.2.2.1 a.2.2.2.2.1 a.2.2.2.2.2.1 a.2.2.2.2.2.2.1 a.2.2.2.2.2.2.2.1 a.2.2.2.2.2.2.2.2.1 a.2.2.2.2.2.2.2.2.2.1 a.2.2.2.2.2.2.2.2.2.2) 18446744073709551616 (a,i,b,k,c,j,d,e,f,g,h)
def Q9:=aey
def Iy(a:iK)(h:List Int)(b:Int)(i c:zL0)(d e:List Bool)(f g:List Int):Option aS :=
 ay (fun j a=>Iv (Q9) (fun a h b i c d e f g=>j (a,h,b,i,c,d,e,f,g)) a.1 a.2.1 a.2.2.1 a.2.2.2.1 a.2.2.2.2.1 a.2.2.2.2.2.1 a.2.2.2.2.2.2.1 a.2.2.2.2.2.2.2.1 a.2.2.2.2.2.2.2.2) 18446744073709551616 (a,h,b,i,c,d,e,f,g)
def Ra:=avY (Iy)
def AV(a:iK)(h:List Int)(b:Int)(i c:zL0)(d e:List Bool)(f g:List Int):Option aS :=
 ay (fun j a=>Ir (Iw (fun a h b i c d e f g=>j (a,h,b,i,c,d,e,f,g))) (Ra) (fun a h b i c d e f g=>j (a,h,b,i,c,d,e,f,g)) a.1 a.2.1 a.2.2.1 a.2.2.2.1 a.2.2.2.2.1 a.2.2.2.2.2.1 a.2.2.2.2.2.2.1 a.2.2.2.2.2.2.2.1 a.2.2.2.2.2.2.2.2) 18446744073709551616 (a,h,b,i,c,d,e,f,g)
def aeB:=avX (AV)
def D5(a:iK)(h:List Int)(b:Int)(i c:zL0)(d e:List Bool)(f g:List Int):Option aS :=
 ay (fun j a=>Iq (aeB) (fun a h b i c d e f g=>j (a,h,b,i,c,d,e,f,g)) a.1 a.2.1 a.2.2.1 a.2.2.2.1 a.2.2.2.2.1 a.2.2.2.2.2.1 a.2.2.2.2.2.2.1 a.2.2.2.2.2.2.2.1 a.2.2.2.2.2.2.2.2) 18446744073709551616 (a,h,b,i,c,d,e,f,g)
def aeC:=avW (D5)
def Iz(a:iK)(h:List Int)(b:Int)(i c:zL0)(d e:List Bool)(f g:List Int):Option aS :=
 ay (fun j a=>Ip (aeC) (fun a h b i c d e f g=>j (a,h,b,i,c,d,e,f,g)) a.1 a.2.1 a.2.2.1 a.2.2.2.1 a.2.2.2.2.1 a.2.2.2.2.2.1 a.2.2.2.2.2.2.1 a.2.2.2.2.2.2.2.1 a.2.2.2.2.2.2.2.2) 18446744073709551616 (a,h,b,i,c,d,e,f,g)
def aeD:=aew (Iz)
def oW(x:As bR):Option aS:=aez aeD x.1
abbrev pE7:=zp aej aek 48 vL
theorem aIP{J w6 a b c d e f g h i}:pE7 J 8169 [w6] (aet a b c d e f g h i)=aex (C w6 AU) a b c d e f g h i:=by kernel_rfl
theorem aIQ{J w6 w7 a b c d e f g h i j k}:pE7 J 261414 [w6,w7] (aer a b c d e f g h i j k)=Iu (C (J 8169 [w6]) aet) (C w6 AU) (C w7 aer) a b c d e f g h i j k:=by kernel_rfl
theorem aIR{J a b c d e f g}:pE7 J 511 [] (aev a b c d e f g)=aey a b c d e f g:=by kernel_rfl
theorem aIS{J w10 a b c d e f g h i}:pE7 J 4090 [w10] (aeu a b c d e f g h i)=Iv (C (J 511 []) aev) (C w10 aeu) a b c d e f g h i:=by kernel_rfl
theorem aIT{J a b c d e f g h}:pE7 J 255 [] (aes a b c d e f g h)=avY (C (J 4090 []) aeu) a b c d e f g h:=by kernel_rfl
theorem aIU{J w6 a b c d e f g h i}:pE7 J 2042 [w6] (AU a b c d e f g h i)=Ir (C (J 261414 [w6]) aer) (C (J 255 []) aes) (C w6 AU) a b c d e f g h i:=by kernel_rfl
theorem aIV{J a b c d e f g h}:pE7 J 127 [] (aep a b c d e f g h)=avX (C (J 2042 []) AU) a b c d e f g h:=by kernel_rfl
theorem aIW{J w4 a b c d e f g h i}:pE7 J 1018 [w4] (aeo a b c d e f g h i)=Iq (C (J 127 []) aep) (C w4 aeo) a b c d e f g h i:=by kernel_rfl
theorem aIX{J a b c d e f g h}:pE7 J 63 [] (aen a b c d e f g h)=avW (C (J 1018 []) aeo) a b c d e f g h:=by kernel_rfl
theorem aIY{J w2 a b c d e f g h i}:pE7 J 506 [w2] (aem a b c d e f g h i)=Ip (C (J 63 []) aen) (C w2 aem) a b c d e f g h i:=by kernel_rfl
theorem aIZ{J a b c d e}:pE7 J 3 [] (ael a b c d e)=aew (C (J 506 []) aem) a b c d e:=by kernel_rfl
abbrev pE6:=zj aej aek 48 vL
theorem aI0{w6}:C (pE6 8169 [w6]) aet=aeA (C w6 AU):=gNC (by decide) fun _=>aIP
theorem aI1{w6}:C (pE6 261414 [w6]) aer=Iw (C w6 AU):=gLC (by decide) (by kernel_rfl) (fun _=>by unfold Iw;rfl) fun _ _=>aIQ.trans (by rw[aI0]<;>kernel_rfl)
theorem aI2:C (pE6 511 []) aev=Q9:=gNC (by decide) fun _=>aIR
theorem aI3:C (pE6 4090 []) aeu=Iy:=gLC (by decide) (by kernel_rfl) (fun _=>by unfold Iy;rfl) fun _ _=>aIS.trans (by rw[aI2]<;>kernel_rfl)
theorem aI4:C (pE6 255 []) aes=Ra:=gNC (by decide) fun _=>aIT.trans (by rw[aI3]<;>kernel_rfl)
theorem aI5:C (pE6 2042 []) AU=AV:=gLC (by decide) (by kernel_rfl) (fun _=>by unfold AV;rfl) fun _ _=>aIU.trans (by rw[aI1,aI4]<;>kernel_rfl)
theorem aI6:C (pE6 127 []) aep=aeB:=gNC (by decide) fun _=>aIV.trans (by rw[aI5]<;>kernel_rfl)
theorem aI7:C (pE6 1018 []) aeo=D5:=gLC (by decide) (by kernel_rfl) (fun _=>by unfold D5;rfl) fun _ _=>aIW.trans (by rw[aI6]<;>kernel_rfl)
theorem aI8:C (pE6 63 []) aen=aeC:=gNC (by decide) fun _=>aIX.trans (by rw[aI7]<;>kernel_rfl)
theorem aI9:C (pE6 506 []) aem=Iz:=gLC (by decide) (by kernel_rfl) (fun _=>by unfold Iz;rfl) fun _ _=>aIY.trans (by rw[aI8]<;>kernel_rfl)
theorem aJa:C (pE6 3 []) ael=aeD:=gNC (by decide) fun _=>aIZ.trans (by rw[aI9]<;>kernel_rfl)
theorem avZ:ak Tryz.prog (fun _=>True) 48 ⟨vL,oW⟩:=zcc (env:=aej) (d:=6) (hs:=Ev.get aek) (aj Ev.gI (aj aIJ (aj aIO bq))) (fun J x=>aez (C (J 3 []) ael) x.1) (fun _ _=>by kernel_rfl) fun _=>by rw[aJa]<;>rfl
@[reducible] def av0:Sh:=shD aK [.int .i64]
def aeE(a:List Int)(b:Int):Option bI :=
 if ge (add .i64 b 1) (zF (zG a))=true then some (0,()) else zC (at? a b) fun c=>zC (at? a (add .i64 b 1)) fun d=>some (add .i64 (mul .i64 256 (cvt .i64 c)) (cvt .i64 d),())
def sw(x:As aK):Option bI:=aeE x.1 x.2.1
theorem aJb:ak Tryz.prog (fun _=>True) 186 ⟨av0,sw⟩:=ctn bq 6 fun J x=>by kernel_rfl
@[reducible] def aeF:Sh:=shD aI [.sl .bool]
def aqW:Env:=(cts [])
def aqX:List (Nat×Hint):=[(58,⟨[.row 3 4],[0,3,4]⟩),(233,⟨[],[0,3,4]⟩),(7462,⟨[.row 3 4],[0,3,4,5,6]⟩)]
def AX(a:List Int)(b:Int)(c:List Bool):St:=⟨[(0,dL a),(3,.row 0),(4,dI b)],31,[],[(0,.row .bool 4 c)],1,[],0⟩
def aeG(a:List Int)(b e c:Int)(d:List Bool):St:=⟨[(0,dL a),(3,.row 0),(4,dI b),(5,dI e),(6,dI c)],31,[],[(0,.row .bool 4 d)],1,[],0⟩
def aqY(a:List Int)(b:Int)(c:List Bool):St:=⟨[(0,dL a),(3,.row 0),(4,dI b)],31,[],[(0,.row .bool 4 c)],1,[],0⟩
@[reducible] def zL1:Type:=List Int->Int->Int->Int->List Bool->Option cM
@[reducible] def zL2:Type:=List Int->Int->List Bool->Option cM
def Rb(d:zL1)(f:zL2)(a:List Int)(b:Int)(c:List Bool):Option cM :=
 if lt b (zF (zG a))=true then zC (at? a b) fun e=>d a b (cvt .i64 e) 0 c else some (c,())
def aeH(f h:zL2)(g:zL1)(b:List Int)(c e d:Int)(a:List Bool):Option cM :=
 if lt d 8=true then need (small (zG a+Nat.succ 0)) (g b c (quo .i64 e 2) (add .i64 d 1) (a++[eqi (rem e 2) 1])) else f b c a
def av1(d:zL2)(a:List Int)(b:Int)(c:List Bool):Option cM :=
 d a (add .i64 b 1) c
def aeI(b:zL2)(a:List Int):Option cM :=
 b a 0 []
def av2(a:zL2):=av1 a
def Rc(g:zL2)(b:List Int)(c f d:Int)(e:List Bool):Option cM :=
 ay (fun h a=>aeH (av2 g) g (fun b c f d e=>h (b,c,f,d,e)) a.1 a.2.1 a.2.2.1 a.2.2.2.1 a.2.2.2.2) 18446744073709551616 (b,c,f,d,e)
def Rf(a:List Int)(b:Int)(c:List Bool):Option cM :=
 ay (fun e d=>Rb (Rc (fun a b c=>e (a,b,c))) (fun a b c=>e (a,b,c)) d.1 d.2.1 d.2.2) 18446744073709551616 (a,b,c)
def aeJ(x:As aI):Option cM:=aeI Rf x.1
abbrev pCx:=zp aqW aqX 187 aeF
theorem aJc{J w1 a b c}:pCx J 233 [w1] (aqY a b c)=av1 (C w1 AX) a b c:=by kernel_rfl
theorem aJd{J w1 w2 a b c d e}:pCx J 7462 [w1,w2] (aeG a b c d e)=aeH (C (J 233 [w1]) aqY) (C w1 AX) (C w2 aeG) a b c d e:=by kernel_rfl
theorem aJe{J w1 a b c}:pCx J 58 [w1] (AX a b c)=Rb (C (J 7462 [w1]) aeG) (C w1 AX) a b c:=by kernel_rfl
abbrev pCw:=zj aqW aqX 187 aeF
theorem aJf{w1}:C (pCw 233 [w1]) aqY=av2 (C w1 AX):=gNC (by decide) fun _=>aJc
theorem aJg{w1}:C (pCw 7462 [w1]) aeG=Rc (C w1 AX):=gLC (by decide) (by kernel_rfl) (fun _=>by unfold Rc;rfl) fun _ _=>aJd.trans (by rw[aJf]<;>kernel_rfl)
theorem aJh:C (pCw 58 []) AX=Rf:=gLC (by decide) (by kernel_rfl) (fun _=>by unfold Rf;rfl) fun _ _=>aJe.trans (by rw[aJg]<;>kernel_rfl)
theorem aJi:ak Tryz.prog (fun _=>True) 187 ⟨aeF,aeJ⟩:=zcc (env:=aqW) (d:=6) (hs:=Ev.get aqX) bq (fun J x=>aeI (C (J 58 []) AX) x.1) (fun _ _=>by kernel_rfl) fun _=>by rw[aJh]<;>rfl
@[reducible] def eA:List Ty:=[.pr (.int .u8) AF]
@[reducible] def IB:Sh:=shD eA [.bool]
def aqZ:Env:=(cts [])
def aq0:List (Nat×Hint):=[(122,⟨[],[3,4,5,24,25,31,32,35,36,39,40,48,49,52,53,56,57,64,65,68,69,76,77,80,81,89,90,93,94,97,98,105,106,107,110,111,114,115,122,123,126,127,130,131,134,135]⟩),(491,⟨[],[3,4,5,24,42,48,49,52,53,56,57,64,65,68,69,76,77,80,81,89,90,93,94,97,98,105,106,107,110,111,114,115,122,123,126,127,130,131,134,135]⟩),(14,⟨[],[1,3,4,5,22,31,32,35,36,39,40,48,49,52,53,56,57,64,65,68,69,76,77,80,81,89,90,93,94,97,98,105,106,107,110,111,114,115,122,123,126,127,130,131,134,135]⟩)]
def aeK(b e c:Int)(d:Bool)(a:nV):St:=⟨[(1,.pb 0 0),(3,dI b),(4,dI e),(5,dI c),(22,dB d)],137,[],[(0,.box 44 [d8 a.1,d6 a.2.1,d6 a.2.2.1,d6 a.2.2.2.1,dW a.2.2.2.2.1,.d (.sl .bool) a.2.2.2.2.2])],1,[],0⟩
def aq1(a e b c:Int)(d:Bool):St:=⟨[(3,dI a),(4,dI e),(5,dI b),(24,d8 c),(25,dB d)],137,[],[],0,[],0⟩
def aeL(a e b c:Int)(d:Bool):St:=⟨[(3,dI a),(4,dI e),(5,dI b),(24,d8 c),(42,dB d)],137,[],[],0,[],0⟩
def aq2(c:Int->Int->Int->Int->Bool->Option aD)(b e d:Int)(f:Bool)(a:nV):Option aD :=
 if f=true then some (false,()) else if eqi a.1 1=true then c b e d a.1 true else c b e d a.1 (eqi a.1 2)
def aq3(e:Int->Int->Int->Int->Bool->Option aD)(c d a b:Int)(f:Bool):Option aD :=
 if f=true then if eqi c 0=true then if eqi d 0=true then if ge a 1=true then some (le a 2000,()) else some (false,()) else some (false,()) else some (false,()) else if eqi b 3=true then e c d a b true else e c d a b (eqi b 4)
def aeM(c b a d:Int)(e:Bool):Option aD :=
 if e=true then if eqi c 0=true then if eqi b 0=true then if ge a 1=true then some (le a 125,()) else some (false,()) else some (false,()) else some (false,()) else if eqi d 5=true then if eqi c 1=true then if eqi b 0=true then some (eqi a 0,()) else some (false,()) else some (false,()) else if eqi d 6=true then if eqi c 0=true then if eqi b 1=true then some (eqi a 0,()) else some (false,()) else some (false,()) else if eqi d 15=true then if eqi c a=true then if eqi b 0=true then if ge a 1=true then some (le a 1968,()) else some (false,()) else some (false,()) else some (false,()) else if eqi d 16=true then if eqi c 0=true then if eqi b a=true then if ge a 1=true then some (le a 123,()) else some (false,()) else some (false,()) else some (false,()) else if eqi d 23=true then if eqi c 0=true then if ge b 1=true then if le b 121=true then if ge a 1=true then some (le a 125,()) else some (false,()) else some (false,()) else some (false,()) else some (false,()) else some (false,())
def aeN(b:Int->Int->Int->Bool->nV->Option aD)(a:nV):Option aD :=
 if nei a.1 23=true then b (zF (zG a.2.2.2.2.2)) (zF (zG a.2.2.2.2.1)) (cvt .i64 a.2.2.1) (nei a.2.2.2.1 0) a else b (zF (zG a.2.2.2.2.2)) (zF (zG a.2.2.2.2.1)) (cvt .i64 a.2.2.1) false a
def aq4:=aeM
def aeO:=aq3 (aq4)
def pQ:=aq2 (aeO)
def AY(x:As eA):Option aD:=aeN pQ x.1
abbrev pCv:=zp aqZ aq0 149 IB
theorem aJj{J a b c d e}:pCv J 491 [] (aeL a b c d e)=aeM a b c d e:=by kernel_rfl
theorem aJk{J a b c d e}:pCv J 122 [] (aq1 a b c d e)=aq3 (C (J 491 []) aeL) a b c d e:=by kernel_rfl
theorem aJl{J a b c d e}:pCv J 14 [] (aeK a b c d e)=aq2 (C (J 122 []) aq1) a b c d e:=by kernel_rfl
abbrev pCu:=zj aqZ aq0 149 IB
theorem aJm:C (pCu 491 []) aeL=aq4:=gNC (by decide) fun _=>aJj
theorem aJn:C (pCu 122 []) aq1=aeO:=gNC (by decide) fun _=>aJk.trans (by rw[aJm]<;>kernel_rfl)
theorem aJo:C (pCu 14 []) aeK=pQ:=gNC (by decide) fun _=>aJl.trans (by rw[aJn]<;>kernel_rfl)
theorem aeP:ak Tryz.prog (fun _=>True) 149 ⟨IB,AY⟩:=zcc (env:=aqZ) (d:=6) (hs:=Ev.get aq0) bq (fun J x=>aeN (C (J 14 []) aeK) x.1) (fun _ _=>by kernel_rfl) fun _=>by rw[aJo]<;>rfl
@[reducible] def Rh:Sh:=shD [.sl .bool] aI
def aq5:Env:=(cts [])
def aq6:List (Nat×Hint):=[(58,⟨[.row 3 5],[0,3,4]⟩),(233,⟨[],[0,3,4,26,27,28,29,30,31]⟩),(1865,⟨[],[0,3,4,5,26,27,28,29,30,31]⟩),(14922,⟨[],[0,3,4,5,6,26,27,28,29,30,31]⟩),(59689,⟨[],[0,3,4,5,6,26,27,28,29,30,31]⟩),(477513,⟨[.agd 26 (.sl .bool),.agd 27 (.int .i64),.agd 28 (.int .i64),.agd 29 (.int .i64),.agd 31 .bool],[0,3,4,5,6,32]⟩)]
def qy(a:List Bool)(b:Int)(c:List Int):St:=⟨[(0,.d (.sl .bool) a),(3,.row 0),(4,dI b)],41,[],[(0,.row (.int .u8) 5 c)],1,[],0⟩
def AZ(a:List Bool)(c b d:Int)(e:List Int):St:=⟨[(0,.d (.sl .bool) a),(3,.row 0),(4,dI c),(5,dI b),(6,dI d)],41,[],[(0,.row (.int .u8) 5 e)],1,[],0⟩
def aeQ(a:List Bool)(c b d:Int)(f:Bool)(e:List Int):St:=⟨[(0,.d (.sl .bool) a),(3,.row 0),(4,dI c),(5,dI b),(6,dI d),(32,dB f)],41,[],[(0,.row (.int .u8) 5 e)],1,[],0⟩
def aeR(a:List Bool)(c b:Int)(d:List Int):St:=⟨[(0,.d (.sl .bool) a),(3,.row 0),(4,dI c),(5,dI b)],41,[],[(0,.row (.int .u8) 5 d)],1,[],0⟩
def aeS(a:List Bool)(c b d:Int)(e:List Int):St:=⟨[(0,.d (.sl .bool) a),(3,.row 0),(4,dI c),(5,dI b),(6,dI d)],41,[],[(0,.row (.int .u8) 5 e)],1,[],0⟩
def aeT(a:List Bool)(b:Int)(c:List Int):St:=⟨[(0,.d (.sl .bool) a),(3,.row 0),(4,dI b)],41,[],[(0,.row (.int .u8) 5 c)],1,[],0⟩
@[reducible] def zL3:Type:=List Bool->Int->Int->Int->List Int->Option bO
@[reducible] def zL4:Type:=List Bool->Int->List Int->Option bO
def IC(d:zL3)(e:zL4)(a:List Bool)(b:Int)(c:List Int):Option bO :=
 if lt b (zF (zG a))=true then d a b 0 7 c else some (c,())
def IE(f:List Bool->Int->Int->Int->Bool->List Int->Option bO)(g:List Bool->Int->Int->List Int->Option bO)(i:zL4)(j:zL3)(a:List Bool)(b d c:Int)(e:List Int):Option bO :=
 if ge c 0=true then if lt (add .i64 b c) (zF (zG a))=true then zC (at? a (add .i64 b c)) fun h=>f a b (mul .i64 d 2) c h e else f a b (mul .i64 d 2) c false e else g a b d e
def aeU(d:zL3)(h:zL4)(i:zL3)(a:List Bool)(c b e:Int)(g:Bool)(f:List Int):Option bO :=
 if g=true then d a c (add .i64 b 1) e f else d a c b e f
def aeV(e f:zL4)(b:List Bool)(d c:Int)(a:List Int):Option bO :=
 need (small (zG a+Nat.succ 0)) (e b d (a++[cvt .u8 c]))
def aeW(g:zL4)(f:zL3)(a:List Bool)(c b d:Int)(e:List Int):Option bO :=
 f a c b (Sx.sub .i64 d 1) e
def aeX(d:zL4)(a:List Bool)(b:Int)(c:List Int):Option bO :=
 d a (add .i64 b 8) c
def aeY(b:zL4)(a:List Bool):Option bO :=
 b a 0 []
def aeZ(a:zL4)(b:zL3):=aeW a b
def ae0(a:zL4)(b:zL3):=aeU (aeZ a b) a b
def ae1(a:zL4):=aeX a
def ae2(a:zL4):=aeV (ae1 a) a
def Ri(g:zL4)(a:List Bool)(c b d:Int)(e:List Int):Option bO :=
 ay (fun h f=>IE (ae0 g (fun a c b d e=>h (a,c,b,d,e))) (ae2 g) g (fun a c b d e=>h (a,c,b,d,e)) f.1 f.2.1 f.2.2.1 f.2.2.2.1 f.2.2.2.2) 18446744073709551616 (a,c,b,d,e)
def Rj(a:List Bool)(b:Int)(c:List Int):Option bO :=
 ay (fun e d=>IC (Ri (fun a b c=>e (a,b,c))) (fun a b c=>e (a,b,c)) d.1 d.2.1 d.2.2) 18446744073709551616 (a,b,c)
def A7(x:As [.sl .bool]):Option bO:=aeY Rj x.1
abbrev pCr:=zp aq5 aq6 157 Rh
theorem aJp{J w1 w2 a b c d e}:pCr J 59689 [w1,w2] (aeS a b c d e)=aeW (C w1 qy) (C w2 AZ) a b c d e:=by kernel_rfl
theorem aJq{J w1 w2 a b c d e f}:pCr J 477513 [w1,w2] (aeQ a b c d e f)=aeU (C (J 59689 [w1,w2]) aeS) (C w1 qy) (C w2 AZ) a b c d e f:=by kernel_rfl
theorem aJr{J w1 a b c}:pCr J 233 [w1] (aeT a b c)=aeX (C w1 qy) a b c:=by kernel_rfl
theorem aJs{J w1 a b c d}:pCr J 1865 [w1] (aeR a b c d)=aeV (C (J 233 [w1]) aeT) (C w1 qy) a b c d:=by kernel_rfl
theorem aJt{J w1 w2 a b c d e}:pCr J 14922 [w1,w2] (AZ a b c d e)=IE (C (J 477513 [w1,w2]) aeQ) (C (J 1865 [w1]) aeR) (C w1 qy) (C w2 AZ) a b c d e:=by kernel_rfl
theorem aJu{J w1 a b c}:pCr J 58 [w1] (qy a b c)=IC (C (J 14922 [w1]) AZ) (C w1 qy) a b c:=by kernel_rfl
abbrev pCq:=zj aq5 aq6 157 Rh
theorem aJv{w1 w2}:C (pCq 59689 [w1,w2]) aeS=aeZ (C w1 qy) (C w2 AZ):=gNC (by decide) fun _=>aJp
theorem aJw{w1 w2}:C (pCq 477513 [w1,w2]) aeQ=ae0 (C w1 qy) (C w2 AZ):=gNC (by decide) fun _=>aJq.trans (by rw[aJv]<;>kernel_rfl)
theorem aJx{w1}:C (pCq 233 [w1]) aeT=ae1 (C w1 qy):=gNC (by decide) fun _=>aJr
theorem aJy{w1}:C (pCq 1865 [w1]) aeR=ae2 (C w1 qy):=gNC (by decide) fun _=>aJs.trans (by rw[aJx]<;>kernel_rfl)
theorem aJz{w1}:C (pCq 14922 [w1]) AZ=Ri (C w1 qy):=gLC (by decide) (by kernel_rfl) (fun _=>by unfold Ri;rfl) fun _ _=>aJt.trans (by rw[aJw,aJy]<;>kernel_rfl)
theorem aJA:C (pCq 58 []) qy=Rj:=gLC (by decide) (by kernel_rfl) (fun _=>by unfold Rj;rfl) fun _ _=>aJu.trans (by rw[aJz]<;>kernel_rfl)
theorem av3:ak Tryz.prog (fun _=>True) 157 ⟨Rh,A7⟩:=zcc (env:=aq5) (d:=6) (hs:=Ev.get aq6) bq (fun J x=>aeY (C (J 58 []) qy) x.1) (fun _ _=>by kernel_rfl) fun _=>by rw[aJA]<;>rfl
@[reducible] def Mi:Sh:=⟨[.row 0,.d (.int .i64)],[.row (.int .u8) 5],[.int .i64,.sl (.int .u8)],[.row 1],[(1,.row (.int .u8) 5)],1,aI⟩
def ae3(b:Int)(x:List Int):Option bO :=
 need (small (zG x+Nat.succ 0)) (need (small (zG (x++[cvt .u8 (quo .i64 b 256)])+Nat.succ 0)) (some (x++[cvt .u8 (quo .i64 b 256)]++[cvt .u8 (rem b 256)],())))
def kD(x:As [.int .i64,.sl (.int .u8)]):Option bO:=ae3 x.1 x.2.1
theorem ae4:ak Tryz.prog (fun _=>True) 159 ⟨Mi,kD⟩:=ctn bq 6 fun J x=>by kernel_rfl
@[reducible] def Rk:Sh:=⟨[.row 0,.d aA],[.row (.int .u8) 5],dP,[.row 1],[(1,.row (.int .u8) 5)],1,aI⟩
def aq7:Env:=(cts [(159,(⟨Mi,kD⟩:Ct))])
def aq8:List (Nat×Hint):=[(26,⟨[.unl 0],[0,1,5]⟩)]
def ae5(l:List Int)(i:Int)(b:List Int):St:=⟨[(0,.row 1),(1,dW l),(5,dI i)],20,[],[(1,.row (.int .u8) 5 b)],2,[],1⟩
@[reducible] def zL5:Type:=List Int->Int->List Int->Option bO
def Rl(e:zL5)(b:List Int)(a:Int)(d:List Int):Option bO :=
 if lt a (zF (zG b))=true then zC (at? b a) fun c=>zC (kD (cvt .i64 c,d,())) fun c=>e b (add .i64 a 1) c.1 else some (d,())
def ae6(b:zL5)(a c:List Int):Option bO :=
 b a 0 c
def Rm(c:List Int)(b:Int)(a:List Int):Option bO :=
 ay (fun e d=>Rl (fun c b a=>e (c,b,a)) d.1 d.2.1 d.2.2) 18446744073709551616 (c,b,a)
def x9(x:As dP):Option bO:=ae6 Rm x.1 x.2.1
abbrev pCz:=zp aq7 aq8 158 Rk
theorem aJB{J w1 a b c}:pCz J 26 [w1] (ae5 a b c)=Rl (C w1 ae5) a b c:=by kernel_rfl
abbrev pCy:=zj aq7 aq8 158 Rk
theorem aJC:C (pCy 26 []) ae5=Rm:=gLC (by decide) (by kernel_rfl) (fun _=>by unfold Rm;rfl) fun _ _=>aJB.trans (by kernel_rfl)
theorem av4:ak Tryz.prog (fun _=>True) 158 ⟨Rk,x9⟩:=zcc (env:=aq7) (d:=6) (hs:=Ev.get aq8) (aj ae4 bq) (fun J x=>ae6 (C (J 26 []) ae5) x.1 x.2.1) (fun _ _=>by kernel_rfl) fun _=>by rw[aJC]<;>rfl
@[reducible] def A8:Sh:=shD eA aK
def ae7:Env:=(cts [(149,(⟨IB,AY⟩:Ct)),(157,(⟨Rh,A7⟩:Ct)),(158,(⟨Rk,x9⟩:Ct)),(159,(⟨Mi,kD⟩:Ct))])
def ae8:List (Nat×Hint):=[(15,⟨[],[4]⟩),(31486,⟨[],[1,4]⟩),(981,⟨[],[4,5]⟩)]
def aq9(b:Int)(a:List Int):St:=⟨[(4,.row 0),(5,dI b)],105,[],[(0,.row (.int .u8) 5 a)],1,[],0⟩
def Rn(a:List Int):St:=⟨[(4,.row 0)],105,[],[(0,.row (.int .u8) 5 a)],1,[],0⟩
def ara(a:nV)(b:List Int):St:=⟨[(1,.pb 0 0),(4,.row 1)],105,[],[(0,.box 44 [d8 a.1,d6 a.2.1,d6 a.2.2.1,d6 a.2.2.2.1,dW a.2.2.2.2.1,.d (.sl .bool) a.2.2.2.2.2]),(1,.row (.int .u8) 5 b)],2,[],0⟩
@[reducible] def zL6:Type:=List Int->Option bW
def ae9(a:zL6)(c:Int)(b:List Int):Option bW :=
 zC (kD (c,b,())) fun d=>a d.1
def av5(a:List Int):Option bW :=
 some (a,0,())
def afa(b:zL6)(a:nV)(c:List Int):Option bW :=
 zC (x9 (a.2.2.2.2.1,c,())) fun d=>b d.1
def afb(e:Int->List Int->Option bW)(d:zL6)(f:nV->List Int->Option bW)(b:nV):Option bW :=
 zC (AY (b,())) fun a=>if (!a.1)=true then some ([],12,()) else zC (kD (cvt .i64 b.2.1,[b.1],())) fun a=>if eqi b.1 5=true then zC (at? b.2.2.2.2.2 0) fun c=>if c=true then e 65280 a.1 else e 0 a.1 else if eqi b.1 6=true then zC (at? b.2.2.2.2.1 0) fun c=>zC (kD (cvt .i64 c,a.1,())) fun a=>d a.1 else if eqi b.1 15=true then zC (A7 (b.2.2.2.2.2,())) fun c=>zC (kD (cvt .i64 b.2.2.1,a.1,())) fun a=>need (small (zG a.1+Nat.succ 0)) (need (small (zG (a.1++[cvt .u8 (zF (zG c.1))])+zG c.1)) (d (a.1++[cvt .u8 (zF (zG c.1))]++c.1))) else if eqi b.1 16=true then amb (av A8.rs) [zC (kD (cvt .i64 b.2.2.1,a.1,())) fun a=>need (small (zG a.1+Nat.succ 0)) (f b (a.1++[cvt .u8 (mul .i64 2 (zF (zG b.2.2.2.2.1)))])),zC (kD (cvt .i64 b.2.2.1,a.1,())) fun a=>need (small (zG a.1+Nat.succ 0)) (f b (a.1++[cvt .u8 (mul .i64 2 (zF (zG b.2.2.2.2.1)))]))] else if eqi b.1 23=true then zC (kD (cvt .i64 b.2.2.1,a.1,())) fun a=>zC (kD (cvt .i64 b.2.2.2.1,a.1,())) fun a=>zC (kD (zF (zG b.2.2.2.2.1),a.1,())) fun a=>need (small (zG a.1+Nat.succ 0)) (zC (x9 (b.2.2.2.2.1,a.1++[cvt .u8 (mul .i64 2 (zF (zG b.2.2.2.2.1)))],())) fun a=>d a.1) else zC (kD (cvt .i64 b.2.2.1,a.1,())) fun a=>d a.1
def qP:=av5
def Ro:=ae9 (qP)
def D6:=afa (qP)
def Rq(x:As eA):Option bW:=afb Ro qP D6 x.1
abbrev pCn:=zp ae7 ae8 188 A8
theorem aJD{J out}:pCn J 15 [] (Rn out)=av5 out:=by kernel_rfl
theorem aJE{J x out}:pCn J 981 [] (aq9 x out)=ae9 (fun out=>J 15 [] (Rn out)) x out:=by kernel_rfl
theorem aJF{J a out}:pCn J 31486 [] (ara a out)=afa (fun out=>J 15 [] (Rn out)) a out:=by kernel_rfl
theorem aJG(J:Orc bW)(x:As eA):rfn Tryz.prog ae7 6 18446744073709551616 (Ev.get ae8) 188 A8 J x=afb (fun x out=>J 981 [] (aq9 x out)) (fun out=>J 15 [] (Rn out)) (fun a out=>J 31486 [] (ara a out)) x.1:=by kernel_rfl
abbrev pCm:=zj ae7 ae8 188 A8
theorem afc  (out):pCm 15 [] (Rn out)=qP out:=gN (by decide) aJD
theorem aJH(x:Int)(out:List Int):pCm 981 [] (aq9 x out)=Ro x out:=gN (by decide) (aJE.trans (by simp only[afc];rfl))
theorem aJI  (a out):pCm 31486 [] (ara a out)=D6 a out:=gN (by decide) (aJF.trans (by simp only[afc];rfl))
theorem aJJ(x:As eA):evT Tryz.prog ae7 6 18446744073709551616 (Ev.get ae8) 188 A8 x=Rq x:=by rw[qb_,aJG];simp only[aJH,afc,aJI];rfl
theorem aJK:ak Tryz.prog (fun _=>True) 188 ⟨A8,Rq⟩:=q7_ (aj aeP (aj av3 (aj av4 (aj ae4 bq)))) aJJ
@[reducible] def bE:List Ty:=[.pr (.int .u8) AF,.int .i64]
@[reducible] def Rs:Sh:=shD aI bE
def arb:Env:=(cts [(186,(⟨av0,sw⟩:Ct)),(187,(⟨aeF,aeJ⟩:Ct)),(188,(⟨A8,Rq⟩:Ct))])
def arc:List (Nat×Hint):=[(7,⟨[],[0,2,4,57,58,59,60,61,62,63,92,93,94,121,122,123,124,125]⟩),(31,⟨[.rwb 4 4 23,.rwb 4 5 4],[0,2,4,5]⟩),(63,⟨[],[0,2,4,5,57,58,59,60,61,62,63,92,93,94,121,122,123,124,125]⟩),(127,⟨[],[0,2,4,5,92,93,94,121,122,123,124,125]⟩),(255,⟨[],[0,2,4,121,122,123,124,125]⟩),(2046,⟨[],[2,4,126]⟩),(510,⟨[],[0,2,4,5,95,121,122,123,124,125]⟩),(8170,⟨[],[0,2,4,7,121,122,123,124,125]⟩),(4074,⟨[],[0,2,4,5,6,57,58,59,60,61,62,63,92,93,94,121,122,123,124,125]⟩),(16296,⟨[.agd 57 (.int .i64),.agd 58 (.int .i64),.agd 59 (.int .i64),.agd 60 (.int .i64),.agd 61 bV,.agd 62 (.int .i64),.agd 63 .bool],[0,2,4,5,6,64]⟩)]
def afd(e:List Int)(f g h i a b c d:Int):St:=⟨[(0,dL e),(2,.pb 0 0),(4,.pb 1 0)],129,[],[(0,.box 44 [d8 f,d6 g,d6 h,d6 i,.k (zK zH 0 0),.k (zK zH 0 0)]),(1,.box 44 [d8 a,d6 b,d6 c,d6 d,.k (zK zH 0 0),.k (zK zH 0 0)])],2,[],0⟩
def afe(e:List Int)(f i j k l a b c d:Int)(g:List Int)(h:List Bool):St:=⟨[(0,dL e),(2,.pb 0 0),(4,.pb 1 0),(5,dI f)],129,[],[(0,.box 44 [d8 i,d6 j,d6 k,d6 l,.k (zK zH 0 0),.k (zK zH 0 0)]),(1,.box 44 [d8 a,d6 b,d6 c,d6 d,.row 2,.row 3]),(2,.row (.int .u16) 23 g),(3,.row .bool 4 h)],4,[],0⟩
def aff(e:List Int)(f i j k l a b c d:Int)(g:List Int)(h:List Bool):St:=⟨[(0,dL e),(2,.pb 0 0),(4,.pb 1 0),(5,dI f)],129,[],[(0,.box 44 [d8 i,d6 j,d6 k,d6 l,.k (zK zH 0 0),.k (zK zH 0 0)]),(1,.box 44 [d8 a,d6 b,d6 c,d6 d,.row 2,.row 3]),(2,.row (.int .u16) 23 g),(3,.row .bool 4 h)],4,[],0⟩
def IG(e:List Int)(f g j k l m a b c d:Int)(h:List Int)(i:List Bool):St:=⟨[(0,dL e),(2,.pb 0 0),(4,.pb 1 0),(5,dI f),(6,dI g)],129,[],[(0,.box 44 [d8 j,d6 k,d6 l,d6 m,.k (zK zH 0 0),.k (zK zH 0 0)]),(1,.box 44 [d8 a,d6 b,d6 c,d6 d,.row 2,.row 3]),(2,.row (.int .u16) 23 h),(3,.row .bool 4 i)],4,[],0⟩
def afg(e:List Int)(f i j k l a b c d:Int)(g:List Int)(h:List Bool):St:=⟨[(0,dL e),(2,.pb 0 0),(4,.pb 1 0),(5,dI f)],129,[],[(0,.box 44 [d8 i,d6 j,d6 k,d6 l,.k (zK zH 0 0),.k (zK zH 0 0)]),(1,.box 44 [d8 a,d6 b,d6 c,d6 d,.row 2,.row 3]),(2,.row (.int .u16) 23 g),(3,.row .bool 4 h)],4,[],0⟩
def ard(e:List Int)(f g:Int)(n:Bool)(j k l m a b c d:Int)(h:List Int)(i:List Bool):St:=⟨[(0,dL e),(2,.pb 0 0),(4,.pb 1 0),(5,dI f),(6,dI g),(64,dB n)],129,[],[(0,.box 44 [d8 j,d6 k,d6 l,d6 m,.k (zK zH 0 0),.k (zK zH 0 0)]),(1,.box 44 [d8 a,d6 b,d6 c,d6 d,.row 2,.row 3]),(2,.row (.int .u16) 23 h),(3,.row .bool 4 i)],4,[],0⟩
def arf(e:List Int)(f:Int)(m:Bool)(i j k l a b c d:Int)(g:List Int)(h:List Bool):St:=⟨[(0,dL e),(2,.pb 0 0),(4,.pb 1 0),(5,dI f),(95,dB m)],129,[],[(0,.box 44 [d8 i,d6 j,d6 k,d6 l,.k (zK zH 0 0),.k (zK zH 0 0)]),(1,.box 44 [d8 a,d6 b,d6 c,d6 d,.row 2,.row 3]),(2,.row (.int .u16) 23 g),(3,.row .bool 4 h)],4,[],0⟩
def afh(e:List Int)(f i j k l a b c d:Int)(g:List Int)(h:List Bool):St:=⟨[(0,dL e),(2,.pb 0 0),(4,.pb 1 0),(7,dI f)],129,[],[(0,.box 44 [d8 i,d6 j,d6 k,d6 l,.k (zK zH 0 0),.k (zK zH 0 0)]),(1,.box 44 [d8 a,d6 b,d6 c,d6 d,.row 2,.row 3]),(2,.row (.int .u16) 23 g),(3,.row .bool 4 h)],4,[],0⟩
def afi(e:List Int)(h i j k a b c d:Int)(f:List Int)(g:List Bool):St:=⟨[(0,dL e),(2,.pb 0 0),(4,.pb 1 0)],129,[],[(0,.box 44 [d8 h,d6 i,d6 j,d6 k,.k (zK zH 0 0),.k (zK zH 0 0)]),(1,.box 44 [d8 a,d6 b,d6 c,d6 d,.row 2,.row 3]),(2,.row (.int .u16) 23 f),(3,.row .bool 4 g)],4,[],0⟩
def arh(b:Bool)(c d e f:Int)(a:nV):St:=⟨[(2,.pb 0 0),(4,.pb 1 0),(126,dB b)],129,[],[(0,.box 44 [d8 c,d6 d,d6 e,d6 f,.k (zK zH 0 0),.k (zK zH 0 0)]),(1,.box 44 [d8 a.1,d6 a.2.1,d6 a.2.2.1,d6 a.2.2.2.1,dW a.2.2.2.2.1,.d (.sl .bool) a.2.2.2.2.2])],2,[],0⟩
@[reducible] def bB:Type:=As bE
@[reducible] def zL7:Type:=List Int->Int->Int->Int->Int->Int->Int->Int->Int->Int->List Int->List Bool->Option bB
def ari(f:zL7)(a:List Int)(g h i j b d k e:Int):Option bB :=
 if eqi b 5=true then zC (sw (a,3,())) fun c=>f a 6 g h i j b d k e [] [eqi c.1 65280] else if eqi b 6=true then zC (sw (a,3,())) fun c=>f a 6 g h i j b d k e [cvt .u16 c.1] [] else zC (sw (a,3,())) fun c=>f a 6 g h i j b d (cvt .u16 c.1) e [] []
def afj(e:zL7)(b:List Int)(m h i j k a c d l:Int)(f:List Int)(g:List Bool):Option bB :=
 if eqi a 23=true then zC (sw (b,5,())) fun n=>e b 10 h i j k a c d (cvt .u16 n.1) f g else e b m h i j k a c d l f g
@[reducible] def zL8:Type:=List Int->Int->Int->Int->Int->Int->Int->Int->Int->Int->Int->List Int->List Bool->Option bB
def afk(m:zL8)(n:zL7)(e:List Int)(f i j k l a b c d:Int)(g:List Int)(h:List Bool):Option bB :=
 if eqi a 15=true then m e f 0 i j k l a b c d g h else n e f i j k l a b c d g h
def II(h:List Int->Int->Int->Bool->Int->Int->Int->Int->Int->Int->Int->Int->List Int->List Bool->Option bB)(o:zL8)(c:List Int)(d a k l m n e f b g:Int)(i:List Int)(j:List Bool):Option bB :=
 if lt a (cvt .i64 b)=true then h c d a (lt (add .i64 d (quo .i64 a 8)) (zF (zG c))) k l m n e f b g i j else h c d a false k l m n e f b g i j
def afl(g:List Int->Int->Bool->Int->Int->Int->Int->Int->Int->Int->Int->List Int->List Bool->Option bB)(e:List Int)(f j k l m a b c d:Int)(h:List Int)(i:List Bool):Option bB :=
 if eqi a 16=true then g e f true j k l m a b c d h i else g e f (eqi a 23) j k l m a b c d h i
def afm(o:zL7)(p:zL8)(d:List Int)(b c:Int)(q:Bool)(k l m n f g h i:Int)(j:List Int)(e:List Bool):Option bB :=
 if q=true then zC (cut d (add .i64 b (quo .i64 c 8)) (add .i64 (add .i64 b (quo .i64 c 8)) 1)) fun a=>zC (aeJ (a,())) fun a=>zC (at? a.1 (rem c 8)) fun a=>need (small (zG e+Nat.succ 0)) (p d b (add .i64 c 1) k l m n f g h i j (e++[a])) else o d b k l m n f g h i j e
@[reducible] def zL9:Type:=List Int->Int->Int->Int->Int->Int->Int->Int->Int->List Int->List Bool->Option bB
def arj(m:zL7)(n:zL9)(e:List Int)(l:Int)(o:Bool)(h i j k a b c d:Int)(f:List Int)(g:List Bool):Option bB :=
 if o=true then m e l h i j k a b c d f g else n e h i j k a b c d f g
def IJ(m:zL9)(n:zL7)(a:List Int)(b i j k l d e f g:Int)(c:List Int)(h:List Bool):Option bB :=
 if lt (add .i64 b 1) (zF (zG a))=true then zC (sw (a,b,())) fun o=>need (small (zG c+Nat.succ 0)) (n a (add .i64 b 2) i j k l d e f g (c++[cvt .u16 o.1]) h) else m a i j k l d e f g c h
def ark(g:Bool->Int->Int->Int->Int->nV->Option bB)(m:List Int)(h i j k a b c d:Int)(e:List Int)(f:List Bool):Option bB :=
 zC (Rq ((a,b,c,d,e,f),())) fun l=>if nei l.2.1 0=true then g true h i j k (a,b,c,d,e,f) else g (nes (Sx.toS l.1) (Sx.toS m)) h i j k (a,b,c,d,e,f)
def av6(b:Bool)(c d e f:Int)(a:nV):Option bB :=
 if b=true then some ((0,0,0,0,[],[]),12,()) else some (a,0,())
def IK(c:List Int->Int->Int->Int->Int->Int->Int->Int->Int->Option bB)(a:List Int):Option bB :=
 if lt (zF (zG a)) 5=true then some ((0,0,0,0,[],[]),12,()) else zC (at? a 0) fun d=>amb (av Rs.rs) [zC (sw (a,1,())) fun b=>c a 0 0 0 0 d (cvt .u16 b.1) 0 0,zC (sw (a,1,())) fun b=>c a 0 0 0 0 d (cvt .u16 b.1) 0 0]
def av7:=av6
def uk:=ark (av7)
def IL(f:List Int)(g j k l m b c d e:Int)(h:List Int)(i:List Bool):Option bB :=
 ay (fun n a=>IJ (uk) (fun f g j k l m b c d e h i=>n (f,g,j,k,l,m,b,c,d,e,h,i)) a.1 a.2.1 a.2.2.1 a.2.2.2.1 a.2.2.2.2.1 a.2.2.2.2.2.1 a.2.2.2.2.2.2.1 a.2.2.2.2.2.2.2.1 a.2.2.2.2.2.2.2.2.1 a.2.2.2.2.2.2.2.2.2.1 a.2.2.2.2.2.2.2.2.2.2.1 a.2.2.2.2.2.2.2.2.2.2.2) 18446744073709551616 (f,g,j,k,l,m,b,c,d,e,h,i)
def afn:=arj (IL) (uk)
def Rt:=afl (afn)
def IP(a:zL8):=afm (Rt) a
def IQ(f:List Int)(g h k l m n b c d e:Int)(i:List Int)(j:List Bool):Option bB :=
 ay (fun o a=>II (IP (fun f g h k l m n b c d e i j=>o (f,g,h,k,l,m,n,b,c,d,e,i,j))) (fun f g h k l m n b c d e i j=>o (f,g,h,k,l,m,n,b,c,d,e,i,j)) a.1 a.2.1 a.2.2.1 a.2.2.2.1 a.2.2.2.2.1 a.2.2.2.2.2.1 a.2.2.2.2.2.2.1 a.2.2.2.2.2.2.2.1 a.2.2.2.2.2.2.2.2.1 a.2.2.2.2.2.2.2.2.2.1 a.2.2.2.2.2.2.2.2.2.2.1 a.2.2.2.2.2.2.2.2.2.2.2.1 a.2.2.2.2.2.2.2.2.2.2.2.2) 18446744073709551616 (f,g,h,k,l,m,n,b,c,d,e,i,j)
def IU:=afk (IQ) (Rt)
def afo:=afj (IU)
def Ru:=ari (afo)
def IV(x:As aI):Option bB:=IK Ru x.1
abbrev pCt:=zp arb arc 148 Rs
theorem aJL{J a b c d e f}:pCt J 2046 [] (arh a b c d e f)=av6 a b c d e f:=by kernel_rfl
theorem aJM{J a b c d e f g h i j k}:pCt J 255 [] (afi a b c d e f g h i j k)=ark (C (J 2046 []) arh) a b c d e f g h i j k:=by kernel_rfl
theorem aJN{J w8 a b c d e f g h i j k l}:pCt J 8170 [w8] (afh a b c d e f g h i j k l)=IJ (C (J 255 []) afi) (C w8 afh) a b c d e f g h i j k l:=by kernel_rfl
theorem aJO{J a b c d e f g h i j k l m}:pCt J 510 [] (arf a b c d e f g h i j k l m)=arj (C (J 8170 []) afh) (C (J 255 []) afi) a b c d e f g h i j k l m:=by kernel_rfl
theorem aJP{J a b c d e f g h i j k l}:pCt J 127 [] (afg a b c d e f g h i j k l)=afl (C (J 510 []) arf) a b c d e f g h i j k l:=by kernel_rfl
theorem aJQ{J w4 a b c d e f g h i j k l m n}:pCt J 16296 [w4] (ard a b c d e f g h i j k l m n)=afm (C (J 127 []) afg) (C w4 IG) a b c d e f g h i j k l m n:=by kernel_rfl
theorem aJR{J w4 a b c d e f g h i j k l m}:pCt J 4074 [w4] (IG a b c d e f g h i j k l m)=II (C (J 16296 [w4]) ard) (C w4 IG) a b c d e f g h i j k l m:=by kernel_rfl
theorem aJS{J a b c d e f g h i j k l}:pCt J 63 [] (aff a b c d e f g h i j k l)=afk (C (J 4074 []) IG) (C (J 127 []) afg) a b c d e f g h i j k l:=by kernel_rfl
theorem aJT{J a b c d e f g h i j k l}:pCt J 31 [] (afe a b c d e f g h i j k l)=afj (C (J 63 []) aff) a b c d e f g h i j k l:=by kernel_rfl
theorem aJU{J a b c d e f g h i}:pCt J 7 [] (afd a b c d e f g h i)=ari (C (J 31 []) afe) a b c d e f g h i:=by kernel_rfl
abbrev pCs:=zj arb arc 148 Rs
theorem aJV:C (pCs 2046 []) arh=av7:=gNC (by decide) fun _=>aJL
theorem av8:C (pCs 255 []) afi=uk:=gNC (by decide) fun _=>aJM.trans (by rw[aJV]<;>kernel_rfl)
theorem aJW:C (pCs 8170 []) afh=IL:=gLC (by decide) (by kernel_rfl) (fun _=>by unfold IL;rfl) fun _ _=>aJN.trans (by rw[av8]<;>kernel_rfl)
theorem aJX:C (pCs 510 []) arf=afn:=gNC (by decide) fun _=>aJO.trans (by rw[aJW,av8]<;>kernel_rfl)
theorem av9:C (pCs 127 []) afg=Rt:=gNC (by decide) fun _=>aJP.trans (by rw[aJX]<;>kernel_rfl)
theorem aJY{w4}:C (pCs 16296 [w4]) ard=IP (C w4 IG):=gNC (by decide) fun _=>aJQ.trans (by rw[av9]<;>kernel_rfl)
theorem aJZ:C (pCs 4074 []) IG=IQ:=gLC (by decide) (by kernel_rfl) (fun _=>by unfold IQ;rfl) fun _ _=>aJR.trans (by rw[aJY]<;>kernel_rfl)
theorem aJ0:C (pCs 63 []) aff=IU:=gNC (by decide) fun _=>aJS.trans (by rw[aJZ,av9]<;>kernel_rfl)
theorem aJ1:C (pCs 31 []) afe=afo:=gNC (by decide) fun _=>aJT.trans (by rw[aJ0]<;>kernel_rfl)
theorem aJ2:C (pCs 7 []) afd=Ru:=gNC (by decide) fun _=>aJU.trans (by rw[aJ1]<;>kernel_rfl)
theorem aJ3:ak Tryz.prog (fun _=>True) 148 ⟨Rs,IV⟩:=zcc (env:=arb) (d:=6) (hs:=Ev.get arc) (aj aJb (aj aJi (aj aJK bq))) (fun J x=>IK (C (J 7 []) afd) x.1) (fun _ _=>by kernel_rfl) fun _=>by rw[aJ2]<;>rfl
@[reducible] def eQ:List Ty:=[.pr (.int .u8) AF,.int .u8]
@[reducible] def afp:Sh:=shD aI eQ
def arl:Env:=(cts [(148,(⟨Rs,IV⟩:Ct))])
def arn:List (Nat×Hint):=[(126,⟨[],[2,6,39]⟩)]
def afq(a:Int)(f:Bool)(b c d e:Int):St:=⟨[(2,.pb 0 0),(6,d8 a),(39,dB f)],44,[],[(0,.box 44 [d8 b,d6 c,d6 d,d6 e,.k (zK zH 0 0),.k (zK zH 0 0)])],1,[],0⟩
def awc(a:Int)(b:Bool)(c d e f:Int):Option (As eQ) :=
 if b=true then some ((a,0,0,0,[],[]),3,()) else some ((a,0,0,0,[],[]),1,())
def afr(b:Int->Bool->Int->Int->Int->Int->Option (As eQ))(c:List Int):Option (As eQ) :=
 zC (IV (c,())) fun a=>if eqi a.2.1 0=true then some (a.1,0,()) else if eqi (zF (zG c)) 0=true then some ((0,0,0,0,[],[]),1,()) else zC (at? c 0) fun a=>if ge a 1=true then if le a 6=true then b a true 0 0 0 0 else if eqi a 15=true then b a true 0 0 0 0 else if eqi a 16=true then b a true 0 0 0 0 else b a (eqi a 23) 0 0 0 0 else if eqi a 15=true then b a true 0 0 0 0 else if eqi a 16=true then b a true 0 0 0 0 else b a (eqi a 23) 0 0 0 0
def afs:=awc
def Rv(x:As aI):Option (As eQ):=afr afs x.1
abbrev pCp:=zp arl arn 97 afp
theorem aJ4{J a b c d e f}:pCp J 126 [] (afq a b c d e f)=awc a b c d e f:=by kernel_rfl
abbrev pCo:=zj arl arn 97 afp
theorem aJ5:C (pCo 126 []) afq=afs:=gNC (by decide) fun _=>aJ4
theorem aJ6:ak Tryz.prog (fun _=>True) 97 ⟨afp,Rv⟩:=zcc (env:=arl) (d:=6) (hs:=Ev.get arn) (aj aJ3 bq) (fun J x=>afr (C (J 126 []) afq) x.1) (fun _ _=>by kernel_rfl) fun _=>by rw[aJ5]<;>rfl
@[reducible] def fB:List Ty:=[.pr (.int .u8) aqy]
@[reducible] def aft:Sh:=shD fB [.bool]
def aro:Env:=(cts [])
def arp:List (Nat×Hint):=[(122,⟨[],[1,3,4,41,42,48,49,52,53,54,57,58,61,62,63,66,67,68,77,78,81,82,85,86,87,90,91,92,99,100,103,104,105,112,113,116,117,118,125,126,129,130,131,134,135,136,143,144,147,148,149,152,153,154]⟩),(491,⟨[],[1,3,4,41,70,77,78,81,82,85,86,87,90,91,92,99,100,103,104,105,112,113,116,117,118,125,126,129,130,131,134,135,136,143,144,147,148,149,152,153,154]⟩)]
@[reducible] def Rx:Type:=Int×Int×List Bool×List Int×Int×Int
def afu(b e c:Int)(d:Bool)(a:Rx):St:=⟨[(1,.pb 0 0),(3,dI b),(4,dI e),(41,d8 c),(42,dB d)],156,[],[(0,.box 46 [d8 a.1,d8 a.2.1,.d (.sl .bool) a.2.2.1,dW a.2.2.2.1,d6 a.2.2.2.2.1,d6 a.2.2.2.2.2])],1,[],0⟩
def afv(b e c:Int)(d:Bool)(a:Rx):St:=⟨[(1,.pb 0 0),(3,dI b),(4,dI e),(41,d8 c),(70,dB d)],156,[],[(0,.box 46 [d8 a.1,d8 a.2.1,.d (.sl .bool) a.2.2.1,dW a.2.2.2.1,d6 a.2.2.2.2.1,d6 a.2.2.2.2.2])],1,[],0⟩
@[reducible] def aAN:Type:=Int->Int->Int->Bool->Int×Int×List Bool×List Int×Int×Int->Option aD
def arq(e:aAN)(a d b:Int)(f:Bool)(c:Rx):Option aD :=
 if f=true then if ge a 8=true then if le a 2000=true then if eqi (rem a 8) 0=true then if eqi d 0=true then if eqi c.2.2.2.2.1 0=true then some (eqi c.2.2.2.2.2 0,()) else some (false,()) else some (false,()) else some (false,()) else some (false,()) else some (false,()) else if eqi b 3=true then e a d b true c else if eqi b 4=true then e a d b true c else e a d b (eqi b 23) c
def afw(c b d:Int)(e:Bool)(a:Rx):Option aD :=
 if e=true then if eqi c 0=true then if ge b 1=true then if le b 125=true then if eqi a.2.2.2.2.1 0=true then some (eqi a.2.2.2.2.2 0,()) else some (false,()) else some (false,()) else some (false,()) else some (false,()) else if eqi d 5=true then if eqi c 1=true then if eqi b 0=true then some (eqi a.2.2.2.2.2 0,()) else some (false,()) else some (false,()) else if eqi d 6=true then if eqi c 0=true then if eqi b 1=true then some (eqi a.2.2.2.2.2 0,()) else some (false,()) else some (false,()) else if eqi d 15=true then if eqi c 0=true then if eqi b 0=true then if ge a.2.2.2.2.2 1=true then some (le a.2.2.2.2.2 1968,()) else some (false,()) else some (false,()) else some (false,()) else if eqi d 16=true then if eqi c 0=true then if eqi b 0=true then if ge a.2.2.2.2.2 1=true then some (le a.2.2.2.2.2 123,()) else some (false,()) else some (false,()) else some (false,()) else some (false,())
def afx(b:aAN)(a:Rx):Option aD :=
 if nei a.2.1 0=true then if le a.1 127=true then if le a.2.1 4=true then if eqi (zF (zG a.2.2.1)) 0=true then if eqi (zF (zG a.2.2.2.1)) 0=true then if eqi a.2.2.2.2.1 0=true then some (eqi a.2.2.2.2.2 0,()) else some (false,()) else some (false,()) else some (false,()) else some (false,()) else some (false,()) else if eqi a.1 1=true then b (zF (zG a.2.2.1)) (zF (zG a.2.2.2.1)) a.1 true a else b (zF (zG a.2.2.1)) (zF (zG a.2.2.2.1)) a.1 (eqi a.1 2) a
def afy:=afw
def Ry:=arq (afy)
def afz(x:As fB):Option aD:=afx Ry x.1
abbrev pC5:=zp aro arp 156 aft
theorem aJ7{J a b c d e}:pC5 J 491 [] (afv a b c d e)=afw a b c d e:=by kernel_rfl
theorem aJ8{J a b c d e}:pC5 J 122 [] (afu a b c d e)=arq (C (J 491 []) afv) a b c d e:=by kernel_rfl
abbrev pC4:=zj aro arp 156 aft
theorem aJ9:C (pC4 491 []) afv=afy:=gNC (by decide) fun _=>aJ7
theorem aKa:C (pC4 122 []) afu=Ry:=gNC (by decide) fun _=>aJ8.trans (by rw[aJ9]<;>kernel_rfl)
theorem aKb:ak Tryz.prog (fun _=>True) 156 ⟨aft,afz⟩:=zcc (env:=aro) (d:=6) (hs:=Ev.get arp) bq (fun J x=>afx (C (J 122 []) afu) x.1) (fun _ _=>by kernel_rfl) fun _=>by rw[aKa]<;>rfl
end Go.Proofs.Lx
end
