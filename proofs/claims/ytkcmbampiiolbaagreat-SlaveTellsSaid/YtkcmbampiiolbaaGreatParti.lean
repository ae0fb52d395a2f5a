/- Proved in the last of these 20 parts (this is part 9): SlaveTells. Conditions: those of the given statement, and no others. -/
import Derived.Test.YtkcmbampiiolbaaGreatParte
import Derived.Test.YtkcmbampiiolbaaGreatParth
import Derived.Test.YtkcmbampiiolbaaGreatProg
set_option linter.unusedVariables false
set_option linter.unusedSimpArgs false
set_option linter.unusedSectionVars false
open Option renaming bind → zC, none → zH
open List renaming replicate → zE, length → zG, getD → zJ
open Int renaming ofNat → zF, toNat → zI
open Go.Value renaming slice → zK
noncomputable section
open Go Go.Proofs Ev Sx
set_option maxRecDepth 100000
namespace Go.Proofs.Lx
abbrev aAk:Type:=List Int×(Int×Int)×Int×Int×Int×pO×Int
abbrev o9:Type:=Int×Int×jS×List Bool
@[reducible] def cV:List Ty:=[.pr (.int .u32) aP,.int .i64]
@[reducible] def aaI:Sh:=⟨[.d cR,.d (.int .i64),.d iE],[],[.pr (.int .u32) aP,.int .i64,.pr (.int .i64) aA],[.d cR,.d (.int .i64)],[],0,cV⟩
def aaJ:Env:=(cts [(75,(⟨YQ,Dz⟩:Ct)),(76,(⟨OU,rY⟩:Ct)),(79,(⟨Li,Ac⟩:Ct))])
def aaK:List (Nat×Hint):=[(31,⟨[],[3,6]⟩),(250,⟨[],[3,6,26,27]⟩)]
def aaL(a e:Int)(c:List Bool)(d:Int)(b f:List pO):St:=⟨[(3,.prw 0 a 25 0),(6,.prw 1 e 25 0),(26,.d bP c),(27,dI d)],46,[],[(0,.row cR 33 b),(1,.row cR 33 f)],2,[],0⟩
def aaM(a c:Int)(b d:List pO):St:=⟨[(3,.prw 0 a 25 0),(6,.prw 1 c 25 0)],46,[],[(0,.row cR 33 b),(1,.row cR 33 d)],2,[],0⟩
@[reducible] def zI0:Type:=Int->Int->List Bool->Int->List pO->List pO->Option (As cV)
def Qj(k:Int->Int->List pO->List pO->Option (As cV))(j:zI0)(c g:Int)(f:List Bool)(a:Int)(d h:List pO):Option (As cV) :=
 if lt a 8=true then need (lt a 8) (zC (at? f a) fun e=>if e=true then need (ge a 0) (need (lt a 8) (zC (at? d c) fun e=>zC (at? e.2.2 a) fun i=>zC (Ac (i,())) fun e=>need (ge a 0) (need (lt a 8) (zC (at? d c) fun b=>zC (at? b.2.2 a) fun i=>j c g f (add .i64 a 1) (List.set d (zI c) (b.1,b.2.1,List.set b.2.2 (zI a) e.1)) h)))) else need (ge a 0) (need (lt a 8) (zC (at? d c) fun b=>zC (at? b.2.2 a) fun i=>j c g f (add .i64 a 1) (List.set d (zI c) (b.1,b.2.1,List.set b.2.2 (zI a) (0,[]))) h))) else k c g d h
def auZ(d a:Int)(e c:List pO):Option (As cV) :=
 zC (at? e d) fun b=>zC (at? c a) fun f=>zC (at? (List.set c (zI a) b) a) fun g=>zC (at? (List.set c (zI a) b) a) fun b=>some (b,0,())
def aaN(e:zI0)(b:Int×List Bool×List (Int×List Int))(a:Int)(d:Int×List Int):Option (As cV) :=
 zC (Dz (a,())) fun c=>if (!c.1)=true then some (zSt,2,()) else zC (rY (d,())) fun c=>if (!c.1)=true then some (zSt,20,()) else need (ge a 0) (need (lt a 8) (zC (at? b.2.1 a) fun f=>need (ge a 0) (need (lt a 8) (zC (at? b.2.2 a) fun f=>e 0 0 (List.set b.2.1 (zI a) true) 0 [(b.1,List.set b.2.1 (zI a) true,List.set b.2.2 (zI a) d)] [zSt]))))
def au0:=auZ
def Qk(a e:Int)(c:List Bool)(d:Int)(b f:List pO):Option (As cV) :=
 ay (fun g a=>Qj (au0) (fun a e c d b f=>g (a,e,c,d,b,f)) a.1 a.2.1 a.2.2.1 a.2.2.2.1 a.2.2.2.2.1 a.2.2.2.2.2) 18446744073709551616 (a,e,c,d,b,f)
def LF(x:As [.pr (.int .u32) aP,.int .i64,.pr (.int .i64) aA]):Option (As cV):=aaN Qk x.1 x.2.1 x.2.2.1
abbrev pGn:=zp aaJ aaK 216 aaI
theorem aFz{J a b c d}:pGn J 31 [] (aaM a b c d)=auZ a b c d:=by kernel_rfl
theorem aFA{J w1 a b c d e f}:pGn J 250 [w1] (aaL a b c d e f)=Qj (C (J 31 []) aaM) (C w1 aaL) a b c d e f:=by kernel_rfl
abbrev pGm:=zj aaJ aaK 216 aaI
theorem aFB:C (pGm 31 []) aaM=au0:=gNC (by decide) fun _=>aFz
theorem aFC:C (pGm 250 []) aaL=Qk:=gLC (by decide) (by kernel_rfl) (fun _=>by unfold Qk;rfl) fun _ _=>aFA.trans (by rw[aFB]<;>kernel_rfl)
theorem aFD:ak Tryz.prog (fun _=>True) 216 ⟨aaI,LF⟩:=zcc (env:=aaJ) (d:=6) (hs:=Ev.get aaK) (aj auy (aj OV (aj Xu bq))) (fun J x=>aaN (C (J 250 []) aaL) x.1 x.2.1 x.2.2.1) (fun _ _=>by kernel_rfl) fun _=>by rw[aFC]<;>rfl
@[reducible] def aaO:Sh:=⟨[.d aO,.d (.int .u16),.d (.int .u32),.d (.int .i64),.d iE],[],[.pr aA qL,.int .u16,.int .u32,.int .i64,.pr (.int .i64) aA],[.d aO,.d (.int .i64)],[],0,cT⟩
def aaP:Env:=(cts [(178,(⟨Zz,DF⟩:Ct)),(214,(⟨auI,rZ⟩:Ct)),(215,(⟨Lt,xR⟩:Ct)),(216,(⟨aaI,LF⟩:Ct)),(217,(⟨auL,DI⟩:Ct))])
def aaQ:List (Nat×Hint):=[(14,⟨[],[1,2,3,5,9,10,21]⟩)]
def aaR(e i d b f:Int)(h:Bool)(c:List jS)(a:Int×List Int)(g:List jS):St:=⟨[(1,d6 e),(2,d2 i),(3,dI d),(5,.prw 0 b 32 0),(9,.pb 1 0),(10,.prw 2 f 32 0),(21,dB h)],49,[],[(0,.row aO 35 c),(1,.box 30 [dI a.1,dW a.2]),(2,.row aO 35 g)],3,[],0⟩
def aaS(h k i e b:Int)(j:Bool)(f:List jS)(d:Int×List Int)(c:List jS):Option (As cT) :=
 if j=true then zC (at? f e) fun a=>zC (at? c b) fun d=>zC (at? (List.set c (zI b) a) b) fun g=>zC (at? (List.set c (zI b) a) b) fun a=>some (a,2,()) else zC (at? f e) fun a=>zC (rZ (a,h,())) fun a=>if a.1=true then zC (at? f e) fun a=>zC (at? c b) fun d=>zC (at? (List.set c (zI b) a) b) fun g=>zC (at? (List.set c (zI b) a) b) fun a=>some (a,22,()) else zC (at? f e) fun a=>zC (xR (a,1,k,())) fun a=>if (!a.1)=true then zC (at? f e) fun a=>zC (at? c b) fun d=>zC (at? (List.set c (zI b) a) b) fun g=>zC (at? (List.set c (zI b) a) b) fun a=>some (a,23,()) else zC (at? f e) fun a=>zC (LF (a.2.2.2.2.2.1,i,d,())) fun a=>if nei a.2.1 0=true then zC (at? f e) fun g=>zC (at? c b) fun d=>zC (at? (List.set c (zI b) g) b) fun m=>zC (at? (List.set c (zI b) g) b) fun l=>some (l,a.2.1,()) else zC (at? f e) fun d=>zC (at? (List.set f (zI e) (d.1,d.2.1,d.2.2.1,d.2.2.2.1,d.2.2.2.2.1,a.1,d.2.2.2.2.2.2)) e) fun a=>zC (DI (a,h,())) fun a=>zC (at? c b) fun d=>zC (at? (List.set c (zI b) a.1) b) fun g=>zC (at? (List.set c (zI b) a.1) b) fun a=>some (a,0,())
def aaT(c:Int->Int->Int->Int->Int->Bool->List jS->Int×List Int->List jS->Option (As cT))(g:aAk)(a b d:Int)(e:Int×List Int):Option (As cT) :=
 zC (DF (g,())) fun f=>if eqi a 0=true then c a b d 0 0 true [f.1] e [gF] else c a b d 0 0 (eqi b 0) [f.1] e [gF]
def aaU:=aaS
def xU(x:As [.pr aA qL,.int .u16,.int .u32,.int .i64,.pr (.int .i64) aA]):Option (As cT):=aaT aaU x.1 x.2.1 x.2.2.1 x.2.2.2.1 x.2.2.2.2.1
abbrev pAb:=zp aaP aaQ 205 aaO
theorem aFE{J a b c d e f g h i}:pAb J 14 [] (aaR a b c d e f g h i)=aaS a b c d e f g h i:=by kernel_rfl
abbrev pAa:=zj aaP aaQ 205 aaO
theorem aFF:C (pAa 14 []) aaR=aaU:=gNC (by decide) fun _=>aFE
theorem aFG:ak Tryz.prog (fun _=>True) 205 ⟨aaO,xU⟩:=zcc (env:=aaP) (d:=6) (hs:=Ev.get aaQ) (aj ZF (aj auJ (aj ZR (aj aFD (aj auM bq))))) (fun J x=>aaT (C (J 14 []) aaR) x.1 x.2.1 x.2.2.1 x.2.2.2.1 x.2.2.2.2.1) (fun _ _=>by kernel_rfl) fun _=>by rw[aFF]<;>rfl
@[reducible] def bZ:List Ty:=[.int .u8,.int .u8,.sl (.int .u16),.int .u16,.int .i64,.int .u8,.int .u32,.int .u32,.int .u32,.bool,.bool,.bool,.bool,.bool,.bool,.bool,.bool,.int .i64,.sl (.int .u16),.int .i64,.sl (.int .u16),.int .i64,.sl (.int .u16),.int .i64,.sl (.int .u16),.int .i64,.sl (.int .u16),.int .i64,.sl (.int .u16),.int .i64,.sl (.int .u16),.int .i64,.sl (.int .u16),.int .i64,.sl (.int .u8),.sl .bool]
@[reducible] def dN:List Ty:=[.pr (.int .u8) aE,.pr (.int .u8) pP]
@[reducible] def uj:Sh:=⟨[.agg [.d (.int .u8),.d (.int .u8),.d aA,.d (.int .u16),.d (.int .i64),.d (.int .u8),.d (.int .u32),.d (.int .u32),.d (.int .u32),.d (.bool),.d (.bool),.d (.bool),.d (.bool),.d (.bool),.d (.bool),.d (.bool),.d (.bool),.d (.int .i64),.d aA,.d (.int .i64),.d aA,.d (.int .i64),.d aA,.d (.int .i64),.d aA,.d (.int .i64),.d aA,.d (.int .i64),.d aA,.d (.int .i64),.d aA,.d (.int .i64),.d aA,.d (.int .i64),.row 0],.d bV],[.row .bool 4],bZ,[.d cW,.d (.pr (.int .u8) pP)],[],0,dN⟩
def apC:Env:=(cts [(1000038,Ev.iq),(1000194,Ev.iq),(24,(⟨XA,Gu⟩:Ct)),(49,(⟨O3,uh⟩:Ct)),(52,(⟨aui,xL⟩:Ct)),(54,(⟨PO,Dw⟩:Ct)),(120,(⟨YC,ko⟩:Ct)),(129,(⟨mX,nJ⟩:Ct)),(203,(⟨Zu,G4⟩:Ct)),(204,(⟨aaG,xS⟩:Ct)),(205,(⟨aaO,xU⟩:Ct))])
def apD:List (Nat×Hint):=[(7,⟨[],[2,4,5,6,7]⟩)]
@[reducible] def zI1:Type:=Int×Int×Int×Int×List Int×List Bool
def apE(b:Int)(c:List Bool)(d o:Int)(z:List Int)(af ag ah ai aj ak:Int)(e f g h i j k l:Bool)(m:Int)(n:List Int)(p:Int)(q:List Int)(r:Int)(s:List Int)(t:Int)(u:List Int)(v:Int)(w:List Int)(x:Int)(y:List Int)(aa:Int)(ab:List Int)(ac:Int)(ad:List Int)(ae al ay bf bg bh bi bj bk:Int)(bl am an ao ap aq ar au:Bool)(av aw ax az ba bb bc bd be bm bn bo bp:Int)(a:zI1):St:=⟨[(2,.pb 1 0),(4,.pb 2 0),(5,.pb 3 0),(6,.pb 4 0),(7,d8 b)],43,[],[(0,.row .bool 4 c),(1,.box 38 [d8 d,d8 o,dW z,d6 af,dI ag,d8 ah,d2 ai,d2 aj,d2 ak,dB e,dB f,dB g,dB h,dB i,dB j,dB k,dB l,dI m,dW n,dI p,dW q,dI r,dW s,dI t,dW u,dI v,dW w,dI x,dW y,dI aa,dW ab,dI ac,dW ad,dI ae,.row 0]),(2,.box 38 [d8 al,d8 ay,.k (zK zH 0 0),d6 bf,dI bg,d8 bh,d2 bi,d2 bj,d2 bk,dB bl,dB am,dB an,dB ao,dB ap,dB aq,dB ar,dB au,dI av,.k (zK zH 0 0),dI aw,.k (zK zH 0 0),dI ax,.k (zK zH 0 0),dI az,.k (zK zH 0 0),dI ba,.k (zK zH 0 0),dI bb,.k (zK zH 0 0),dI bc,.k (zK zH 0 0),dI bd,.k (zK zH 0 0),dI be,.k (zK zH 0 0)]),(3,.box 46 [d8 bm,d8 bn,.k (zK zH 0 0),.k (zK zH 0 0),d6 bo,d6 bp]),(4,.box 44 [d8 a.1,d6 a.2.1,d6 a.2.2.1,d6 a.2.2.2.1,dW a.2.2.2.2.1,.d (.sl .bool) a.2.2.2.2.2])],5,[],1⟩
def au1(g:Int)(c:List Bool)(d e:Int)(ab:List Int)(ah ai aj ak al am:Int)(h i j k l m n o:Bool)(p:Int)(q:List Int)(r:Int)(s:List Int)(t:Int)(u:List Int)(v:Int)(w:List Int)(x:Int)(y:List Int)(z:Int)(aa:List Int)(ac:Int)(ad:List Int)(ae:Int)(af:List Int)(ag an bb bi bj bk bl bm bn:Int)(bo ao ap aq ar au aw ax:Bool)(ay az ba bc bd be bf bg bh bp bq br bs:Int)(b:zI1):Option (As dN) :=
 (fun (gA:TAg)=>if nei g 0=true then zC (ko (b.1,g,())) fun a=>some ((d,e,gA,c),a.1,()) else if eqi b.1 5=true then if le (add .i64 (cvt .i64 b.2.1) (zF (zG b.2.2.2.2.2))) (zF (zG c))=true then need (ge b.2.1 0) (need (le b.2.1 (zF (zG c))) (need (le (zF (zG c)) (zF (zG c))) (need (le (b.2.1+(zF (zG c) - b.2.1)) (zF (zG c))) (zC (nJ ((d,e,gA,List.take (zI b.2.1) c++List.take (zI (zF (zG c) - b.2.1)) b.2.2.2.2.2++List.drop (zI b.2.1+zG (List.take (zI (zF (zG c) - b.2.1)) b.2.2.2.2.2)) c),b,())) fun a=>some ((d,e,gA,List.take (zI b.2.1) c++List.take (zI (zF (zG c) - b.2.1)) b.2.2.2.2.2++List.drop (zI b.2.1+zG (List.take (zI (zF (zG c) - b.2.1)) b.2.2.2.2.2)) c),a.1,()))))) else zC (nJ ((d,e,gA,c),b,())) fun a=>some ((d,e,gA,c),a.1,()) else if eqi b.1 15=true then if le (add .i64 (cvt .i64 b.2.1) (zF (zG b.2.2.2.2.2))) (zF (zG c))=true then need (ge b.2.1 0) (need (le b.2.1 (zF (zG c))) (need (le (zF (zG c)) (zF (zG c))) (need (le (b.2.1+(zF (zG c) - b.2.1)) (zF (zG c))) (zC (nJ ((d,e,gA,List.take (zI b.2.1) c++List.take (zI (zF (zG c) - b.2.1)) b.2.2.2.2.2++List.drop (zI b.2.1+zG (List.take (zI (zF (zG c) - b.2.1)) b.2.2.2.2.2)) c),b,())) fun a=>some ((d,e,gA,List.take (zI b.2.1) c++List.take (zI (zF (zG c) - b.2.1)) b.2.2.2.2.2++List.drop (zI b.2.1+zG (List.take (zI (zF (zG c) - b.2.1)) b.2.2.2.2.2)) c),a.1,()))))) else zC (nJ ((d,e,gA,c),b,())) fun a=>some ((d,e,gA,c),a.1,()) else if eqi (zF (zG b.2.2.2.2.1)) 0=true then zC (nJ ((d,e,gA,c),b,())) fun a=>some ((d,e,gA,c),a.1,()) else if eqi b.1 23=true then if eqi 272 b.2.2.2.1=true then zC (G4 (b.2.2.2.2.1,())) fun a=>if nei a.2.1 0=true then zC (ko (b.1,3,())) fun a=>some ((d,e,gA,c),a.1,()) else amb (av uj.rs) [zC (xS (gA,a.1,())) fun a=>if nei a.2.1 0=true then zC (ko (b.1,4,())) fun a=>some ((d,e,gA,c),a.1,()) else zC (nJ ((d,e,(gV a.1),c),b,())) fun f=>some ((d,e,(gV a.1),c),f.1,()),zC (xS (gA,a.1,())) fun a=>if nei a.2.1 0=true then zC (ko (b.1,4,())) fun a=>some ((d,e,gA,c),a.1,()) else zC (nJ ((d,e,(gV a.1),c),b,())) fun f=>some ((d,e,(gV a.1),c),f.1,())] else if eqi 288 b.2.2.2.1=true then zC (Gu (b.2.2.2.2.1,())) fun a=>if nei a.2.2.2.2.1 0=true then zC (ko (b.1,3,())) fun a=>some ((d,e,gA,c),a.1,()) else amb (av uj.rs) [zC (xU (gA,a.1,a.2.1,a.2.2.1,a.2.2.2.1,())) fun a=>if nei a.2.1 0=true then zC (ko (b.1,4,())) fun a=>some ((d,e,gA,c),a.1,()) else zC (nJ ((d,e,(gV a.1),c),b,())) fun f=>some ((d,e,(gV a.1),c),f.1,()),zC (xU (gA,a.1,a.2.1,a.2.2.1,a.2.2.2.1,())) fun a=>if nei a.2.1 0=true then zC (ko (b.1,4,())) fun a=>some ((d,e,gA,c),a.1,()) else zC (nJ ((d,e,(gV a.1),c),b,())) fun f=>some ((d,e,(gV a.1),c),f.1,())] else zC (ko (b.1,2,())) fun a=>some ((d,e,gA,c),a.1,()) else if eqi 272 b.2.1=true then zC (G4 (b.2.2.2.2.1,())) fun a=>if nei a.2.1 0=true then zC (ko (b.1,3,())) fun a=>some ((d,e,gA,c),a.1,()) else amb (av uj.rs) [zC (xS (gA,a.1,())) fun a=>if nei a.2.1 0=true then zC (ko (b.1,4,())) fun a=>some ((d,e,gA,c),a.1,()) else zC (nJ ((d,e,(gV a.1),c),b,())) fun f=>some ((d,e,(gV a.1),c),f.1,()),zC (xS (gA,a.1,())) fun a=>if nei a.2.1 0=true then zC (ko (b.1,4,())) fun a=>some ((d,e,gA,c),a.1,()) else zC (nJ ((d,e,(gV a.1),c),b,())) fun f=>some ((d,e,(gV a.1),c),f.1,())] else if eqi 288 b.2.1=true then zC (Gu (b.2.2.2.2.1,())) fun a=>if nei a.2.2.2.2.1 0=true then zC (ko (b.1,3,())) fun a=>some ((d,e,gA,c),a.1,()) else amb (av uj.rs) [zC (xU (gA,a.1,a.2.1,a.2.2.1,a.2.2.2.1,())) fun a=>if nei a.2.1 0=true then zC (ko (b.1,4,())) fun a=>some ((d,e,gA,c),a.1,()) else zC (nJ ((d,e,(gV a.1),c),b,())) fun f=>some ((d,e,(gV a.1),c),f.1,()),zC (xU (gA,a.1,a.2.1,a.2.2.1,a.2.2.2.1,())) fun a=>if nei a.2.1 0=true then zC (ko (b.1,4,())) fun a=>some ((d,e,gA,c),a.1,()) else zC (nJ ((d,e,(gV a.1),c),b,())) fun f=>some ((d,e,(gV a.1),c),f.1,())] else zC (ko (b.1,2,())) fun a=>some ((d,e,gA,c),a.1,())) (ab,(ah,ai),aj,ak,al,(am,[h,i,j,k,l,m,n,o],[(p,q),(r,s),(t,u),(v,w),(x,y),(z,aa),(ac,ad),(ae,af)]),ag)
def au2(e:Int->List Bool->Int->Int->List Int->Int->Int->Int->Int->Int->Int->Bool->Bool->Bool->Bool->Bool->Bool->Bool->Bool->Int->List Int->Int->List Int->Int->List Int->Int->List Int->Int->List Int->Int->List Int->Int->List Int->Int->List Int->Int->Int->Int->Int->Int->Int->Int->Int->Int->Bool->Bool->Bool->Bool->Bool->Bool->Bool->Bool->Int->Int->Int->Int->Int->Int->Int->Int->Int->Int->Int->Int->Int->Int×Int×Int×Int×List Int×List Bool->Option (As dN))(h f:Int)(i:List Int)(g j u b d c:Int)(ae af ag ah ai aj ak k:Bool)(l:Int)(m:List Int)(n:Int)(o:List Int)(p:Int)(q:List Int)(r:Int)(s:List Int)(t:Int)(v:List Int)(w:Int)(x:List Int)(y:Int)(z:List Int)(aa:Int)(ab:List Int)(ac:Int)(al:List Int)(ad:List Bool):Option (As dN) :=
 zC (xL (al,())) fun a=>if eqi a.2.1 0=true then zC (uh ()) fun am=>zC (Dw (am.1,a.1,())) fun an=>e an.1 ad h f i g j u b d c ae af ag ah ai aj ak k l m n o p q r s t v w x y z aa ab ac 0 0 0 0 0 0 0 0 false false false false false false false false 0 0 0 0 0 0 0 0 0 0 0 0 0 a.1 else e a.2.1 ad h f i g j u b d c ae af ag ah ai aj ak k l m n o p q r s t v w x y z aa ab ac 0 0 0 0 0 0 0 0 false false false false false false false false 0 0 0 0 0 0 0 0 0 0 0 0 0 a.1
def aaV:=au1
def au3(x:As bZ):Option (As dN):=au2 aaV x.1 x.2.1 x.2.2.1 x.2.2.2.1 x.2.2.2.2.1 x.2.2.2.2.2.1 x.2.2.2.2.2.2.1 x.2.2.2.2.2.2.2.1 x.2.2.2.2.2.2.2.2.1 x.2.2.2.2.2.2.2.2.2.1 x.2.2.2.2.2.2.2.2.2.2.1 x.2.2.2.2.2.2.2.2.2.2.2.1 x.2.2.2.2.2.2.2.2.2.2.2.2.1 x.2.2.2.2.2.2.2.2.2.2.2.2.2.1 x.2.2.2.2.2.2.2.2.2.2.2.2.2.2.1 x.2.2.2.2.2.2.2.2.2.2.2.2.2.2.2.1 x.2.2.2.2.2.2.2.2.2.2.2.2.2.2.2.2.1 x.2.2.2.2.2.2.2.2.2.2.2.2.2.2.2.2.2.1 x.2.2.2.2.2.2.2.2.2.2.2.2.2.2.2.2.2.2.1 x.2.2.2.2.2.2.2.2.2.2.2.2.2.2.2.2.2.2.2.1 x.2.2.2.2.2.2.2.2.2.2.2.2.2.2.2.2.2.2.2.2.1 x.2.2.2.2.2.2.2.2.2.2.2.2.2.2.2.2.2.2.2.2.2.1 x.2.2.2.2.2.2.2.2.2.2.2.2.2.2.2.2.2.2.2.2.2.2.1 x.2.2.2.2.2.2.2.2.2.2.2.2.2.2.2.2.2.2.2.2.2.2.2.1 x.2.2.2.2.2.2.2.2.2.2.2.2.2.2.2.2.2.2.2.2.2.2.2.2.1 x.2.2.2.2.2.2.2.2.2.2.2.2.2.2.2.2.2.2.2.2.2.2.2.2.2.1 x.2.2.2.2.2.2.2.2.2.2.2.2.2.2.2.2.2.2.2.2.2.2.2.2.2.2.1 x.2.2.2.2.2.2.2.2.2.2.2.2.2.2.2.2.2.2.2.2.2.2.2.2.2.2.2.1 x.2.2.2.2.2.2.2.2.2.2.2.2.2.2.2.2.2.2.2.2.2.2.2.2.2.2.2.2.1 x.2.2.2.2.2.2.2.2.2.2.2.2.2.2.2.2.2.2.2.2.2.2.2.2.2.2.2.2.2.1 x.2.2.2.2.2.2.2.2.2.2.2.2.2.2.2.2.2.2.2.2.2.2.2.2.2.2.2.2.2.2.1 x.2.2.2.2.2.2.2.2.2.2.2.2.2.2.2.2.2.2.2.2.2.2.2.2.2.2.2.2.2.2.2.1 x.2.2.2.2.2.2.2.2.2.2.2.2.2.2.2.2.2.2.2.2.2.2.2.2.2.2.2.2.2.2.2.2.1 x.2.2.2.2.2.2.2.2.2.2.2.2.2.2.2.2.2.2.2.2.2.2.2.2.2.2.2.2.2.2.2.2.2.1 x.2.2.2.2.2.2.2.2.2.2.2.2.2.2.2.2.2.2.2.2.2.2.2.2.2.2.2.2.2.2.2.2.2.2.1 x.2.2.2.2.2.2.2.2.2.2.2.2.2.2.2.2.2.2.2.2.2.2.2.2.2.2.2.2.2.2.2.2.2.2.2.1
abbrev pF7:=zp apC apD 62 uj
theorem aFH{J a b c d e f g h i j k l m n o p q r t u v x y z aa ab ac ad ae af ag ah ba bb bc bd be bf bg bh ca cb cc cd ce cf cg ch da db dc dd de df dg dh ea eb ec ed ee ef eg eh fa fb}:pF7 J 7 [] (apE a b c d e f g h i j k l m n o p q r t u v x y z aa ab ac ad ae af ag ah ba bb bc bd be bf bg bh ca cb cc cd ce cf cg ch da db dc dd de df dg dh ea eb ec ed ee ef eg eh fa fb)=au1 a b c d e f g h i j k l m n o p q r t u v x y z aa ab ac ad ae af ag ah ba bb bc bd be bf bg bh ca cb cc cd ce cf cg ch da db dc dd de df dg dh ea eb ec ed ee ef eg eh fa fb:=by kernel_rfl
abbrev pF6:=zj apC apD 62 uj
theorem aFI:C (pF6 7 []) apE=aaV:=gNC (by decide) fun _=>aFH
theorem aFJ:ak Tryz.prog (fun _=>True) 62 ⟨uj,au3⟩:=zcc (env:=apC) (d:=6) (hs:=Ev.get apD) (aj Ev.gI (aj Ev.gI (aj aCk (aj aub (aj aCH (aj aut (aj YD (aj aEm (aj aEp (aj aFy (aj aFG bq))))))))))) (fun J x=>au2 (C (J 7 []) apE) x.1 x.2.1 x.2.2.1 x.2.2.2.1 x.2.2.2.2.1 x.2.2.2.2.2.1 x.2.2.2.2.2.2.1 x.2.2.2.2.2.2.2.1 x.2.2.2.2.2.2.2.2.1 x.2.2.2.2.2.2.2.2.2.1 x.2.2.2.2.2.2.2.2.2.2.1 x.2.2.2.2.2.2.2.2.2.2.2.1 x.2.2.2.2.2.2.2.2.2.2.2.2.1 x.2.2.2.2.2.2.2.2.2.2.2.2.2.1 x.2.2.2.2.2.2.2.2.2.2.2.2.2.2.1 x.2.2.2.2.2.2.2.2.2.2.2.2.2.2.2.1 x.2.2.2.2.2.2.2.2.2.2.2.2.2.2.2.2.1 x.2.2.2.2.2.2.2.2.2.2.2.2.2.2.2.2.2.1 x.2.2.2.2.2.2.2.2.2.2.2.2.2.2.2.2.2.2.1 x.2.2.2.2.2.2.2.2.2.2.2.2.2.2.2.2.2.2.2.1 x.2.2.2.2.2.2.2.2.2.2.2.2.2.2.2.2.2.2.2.2.1 x.2.2.2.2.2.2.2.2.2.2.2.2.2.2.2.2.2.2.2.2.2.1 x.2.2.2.2.2.2.2.2.2.2.2.2.2.2.2.2.2.2.2.2.2.2.1 x.2.2.2.2.2.2.2.2.2.2.2.2.2.2.2.2.2.2.2.2.2.2.2.1 x.2.2.2.2.2.2.2.2.2.2.2.2.2.2.2.2.2.2.2.2.2.2.2.2.1 x.2.2.2.2.2.2.2.2.2.2.2.2.2.2.2.2.2.2.2.2.2.2.2.2.2.1 x.2.2.2.2.2.2.2.2.2.2.2.2.2.2.2.2.2.2.2.2.2.2.2.2.2.2.1 x.2.2.2.2.2.2.2.2.2.2.2.2.2.2.2.2.2.2.2.2.2.2.2.2.2.2.2.1 x.2.2.2.2.2.2.2.2.2.2.2.2.2.2.2.2.2.2.2.2.2.2.2.2.2.2.2.2.1 x.2.2.2.2.2.2.2.2.2.2.2.2.2.2.2.2.2.2.2.2.2.2.2.2.2.2.2.2.2.1 x.2.2.2.2.2.2.2.2.2.2.2.2.2.2.2.2.2.2.2.2.2.2.2.2.2.2.2.2.2.2.1 x.2.2.2.2.2.2.2.2.2.2.2.2.2.2.2.2.2.2.2.2.2.2.2.2.2.2.2.2.2.2.2.1 x.2.2.2.2.2.2.2.2.2.2.2.2.2.2.2.2.2.2.2.2.2.2.2.2.2.2.2.2.2.2.2.2.1 x.2.2.2.2.2.2.2.2.2.2.2.2.2.2.2.2.2.2.2.2.2.2.2.2.2.2.2.2.2.2.2.2.2.1 x.2.2.2.2.2.2.2.2.2.2.2.2.2.2.2.2.2.2.2.2.2.2.2.2.2.2.2.2.2.2.2.2.2.2.1 x.2.2.2.2.2.2.2.2.2.2.2.2.2.2.2.2.2.2.2.2.2.2.2.2.2.2.2.2.2.2.2.2.2.2.2.1) (fun _ _=>by kernel_rfl) fun _=>by rw[aFI]<;>rfl
@[reducible] def aaW:Sh:=shD bT bT
def aaX:Env:=(cts [(130,(⟨aoP,GZ⟩:Ct)),(131,(⟨OH,oO⟩:Ct))])
def aaY:List (Nat×Hint):=[(122,⟨[],[1,2,15]⟩)]
def aaZ(a d c:Int)(b e:List (o9)):St:=⟨[(1,.prw 0 a 35 0),(2,.prw 1 d 35 0),(15,dI c)],33,[],[(0,.row cW 38 b),(1,.row cW 38 e)],2,[],0⟩
@[reducible] def fT:Type:=As bT
def aa0(i:Int->Int->Int->List (o9)->List (o9)->Option fT)(e d c:Int)(f g:List (o9)):Option fT :=
 if lt c 8=true then need (ge c 0) (need (lt c 8) (zC (at? f e) fun b=>zC (at? b.2.2.1.2.2.2.2.2.1.2.2 c) fun h=>zC (oO (h.2,())) fun b=>zC (at? f e) fun a=>zC (at? a.2.2.1.2.2.2.2.2.1.2.2 c) fun h=>i e d (add .i64 c 1) (List.set f (zI e) (a.1,a.2.1,(a.2.2.1.1,a.2.2.1.2.1,a.2.2.1.2.2.1,a.2.2.1.2.2.2.1,a.2.2.1.2.2.2.2.1,(a.2.2.1.2.2.2.2.2.1.1,a.2.2.1.2.2.2.2.2.1.2.1,List.set a.2.2.1.2.2.2.2.2.1.2.2 (zI c) (h.1,b.1)),a.2.2.1.2.2.2.2.2.2),a.2.2.2)) g)) else zC (at? f e) fun b=>zC (at? g d) fun a=>zC (at? (List.set g (zI d) b) d) fun j=>zC (at? (List.set g (zI d) b) d) fun b=>some (b,())
def aa1(b:Int->Int->Int->List (o9)->List (o9)->Option fT)(a:o9):Option fT :=
 zC (GZ (a.2.2.2,())) fun c=>zC (oO (a.2.2.1.1,())) fun d=>b 0 0 0 [(a.1,a.2.1,(d.1,a.2.2.1.2),c.1)] [zSl]
def Hl(a d c:Int)(b e:List (o9)):Option fT :=
 ay (fun f a=>aa0 (fun a d c b e=>f (a,d,c,b,e)) a.1 a.2.1 a.2.2.1 a.2.2.2.1 a.2.2.2.2) 18446744073709551616 (a,d,c,b,e)
def DK(x:As bT):Option fT:=aa1 Hl x.1
abbrev pF5:=zp aaX aaY 63 aaW
theorem aFK{J w1 a b c d e}:pF5 J 122 [w1] (aaZ a b c d e)=aa0 (C w1 aaZ) a b c d e:=by kernel_rfl
abbrev pF4:=zj aaX aaY 63 aaW
theorem aFL:C (pF4 122 []) aaZ=Hl:=gLC (by decide) (by kernel_rfl) (fun _=>by unfold Hl;rfl) fun _ _=>aFK.trans (by kernel_rfl)
theorem aa2:ak Tryz.prog (fun _=>True) 63 ⟨aaW,DK⟩:=zcc (env:=aaX) (d:=6) (hs:=Ev.get aaY) (aj aD7 (aj OI bq)) (fun J x=>aa1 (C (J 122 []) aaZ) x.1) (fun _ _=>by kernel_rfl) fun _=>by rw[aFL]<;>rfl
@[reducible] def aFM:Sh:=⟨[.d cW],[],bT,[.agg [.d (.int .u8),.d (.int .u8),.d aA,.d (.int .u16),.d (.int .i64),.d (.int .u8),.d (.int .u32),.d (.int .u32),.d (.int .u32),.d (.bool),.d (.bool),.d (.bool),.d (.bool),.d (.bool),.d (.bool),.d (.bool),.d (.bool),.d (.int .i64),.d aA,.d (.int .i64),.d aA,.d (.int .i64),.d aA,.d (.int .i64),.d aA,.d (.int .i64),.d aA,.d (.int .i64),.d aA,.d (.int .i64),.d aA,.d (.int .i64),.d aA,.d (.int .i64),.row 0]],[(0,.row .bool 4)],1,aF⟩
def aFN:Env:=(cts [(1000038,Ev.iq),(1000194,Ev.iq),(130,(⟨Zk,DC⟩:Ct)),(131,(⟨OH,oO⟩:Ct))])
def aa3(a:o9):Option (As aF) :=
 zC (DC (a.2.2.2,())) fun b=>zC (oO (a.2.2.1.1,())) fun c=>zC (oO ((zJ a.2.2.1.2.2.2.2.2.1.2.2 0 (0,[])).2,())) fun d=>zC (oO ((zJ a.2.2.1.2.2.2.2.2.1.2.2 1 (0,[])).2,())) fun e=>zC (oO ((zJ a.2.2.1.2.2.2.2.2.1.2.2 2 (0,[])).2,())) fun f=>zC (oO ((zJ a.2.2.1.2.2.2.2.2.1.2.2 3 (0,[])).2,())) fun g=>zC (oO ((zJ a.2.2.1.2.2.2.2.2.1.2.2 4 (0,[])).2,())) fun h=>zC (oO ((zJ a.2.2.1.2.2.2.2.2.1.2.2 5 (0,[])).2,())) fun i=>zC (oO ((zJ a.2.2.1.2.2.2.2.2.1.2.2 6 (0,[])).2,())) fun j=>zC (oO ((zJ a.2.2.1.2.2.2.2.2.1.2.2 7 (0,[])).2,())) fun k=>some (a.1,a.2.1,c.1,a.2.2.1.2.1.1,a.2.2.1.2.1.2,a.2.2.1.2.2.1,a.2.2.1.2.2.2.1,a.2.2.1.2.2.2.2.1,a.2.2.1.2.2.2.2.2.1.1,zJ a.2.2.1.2.2.2.2.2.1.2.1 0 false,zJ a.2.2.1.2.2.2.2.2.1.2.1 1 false,zJ a.2.2.1.2.2.2.2.2.1.2.1 2 false,zJ a.2.2.1.2.2.2.2.2.1.2.1 3 false,zJ a.2.2.1.2.2.2.2.2.1.2.1 4 false,zJ a.2.2.1.2.2.2.2.2.1.2.1 5 false,zJ a.2.2.1.2.2.2.2.2.1.2.1 6 false,zJ a.2.2.1.2.2.2.2.2.1.2.1 7 false,(zJ a.2.2.1.2.2.2.2.2.1.2.2 0 (0,[])).1,d.1,(zJ a.2.2.1.2.2.2.2.2.1.2.2 1 (0,[])).1,e.1,(zJ a.2.2.1.2.2.2.2.2.1.2.2 2 (0,[])).1,f.1,(zJ a.2.2.1.2.2.2.2.2.1.2.2 3 (0,[])).1,g.1,(zJ a.2.2.1.2.2.2.2.2.1.2.2 4 (0,[])).1,h.1,(zJ a.2.2.1.2.2.2.2.2.1.2.2 5 (0,[])).1,i.1,(zJ a.2.2.1.2.2.2.2.2.1.2.2 6 (0,[])).1,j.1,(zJ a.2.2.1.2.2.2.2.2.1.2.2 7 (0,[])).1,k.1,a.2.2.1.2.2.2.2.2.2,b.1,())
def aa4(x:As bT):Option (As aF):=aa3 x.1
theorem aFO:ak Tryz.prog (fun _=>True) 63 ⟨aFM,aa4⟩:=ctn (env:=aFN) (aj Ev.gI (aj Ev.gI (aj aAc (aj OI bq)))) 6 fun J x=>by kernel_rfl
@[reducible] def aa5:Sh:=shD [.sl .bool,.sl .bool] [.bool]
def apF:Env:=(cts [])
def apG:List (Nat×Hint):=[(58,⟨[],[0,1,12,13]⟩)]
def aa6(a b:List Bool)(c d:Int):St:=⟨[(0,.d (.sl .bool) a),(1,.d (.sl .bool) b),(12,dI c),(13,dI d)],26,[],[],0,[],0⟩
@[reducible] def zI2:Type:=List Bool->List Bool->Int->Int->Option aD
def Ql(e:zI2)(b c:List Bool)(d a:Int):Option aD :=
 if lt a d=true then zC (at? b a) fun f=>zC (at? c a) fun g=>if Sx.neb f g=true then some (false,()) else e b c d (add .i64 a 1) else some (true,())
def aa7(c:zI2)(a b:List Bool):Option aD :=
 if nei (zF (zG a)) (zF (zG b))=true then some (false,()) else c a b (zF (zG a)) 0
def Qm(b c:List Bool)(d e:Int):Option aD :=
 ay (fun f a=>Ql (fun b c d e=>f (b,c,d,e)) a.1 a.2.1 a.2.2.1 a.2.2.2) 18446744073709551616 (b,c,d,e)
def Qn(x:As [.sl .bool,.sl .bool]):Option aD:=aa7 Qm x.1 x.2.1
abbrev pGb:=zp apF apG 90 aa5
theorem aFP{J w1 a b c d}:pGb J 58 [w1] (aa6 a b c d)=Ql (C w1 aa6) a b c d:=by kernel_rfl
abbrev pGa:=zj apF apG 90 aa5
theorem aFQ:C (pGa 58 []) aa6=Qm:=gLC (by decide) (by kernel_rfl) (fun _=>by unfold Qm;rfl) fun _ _=>aFP.trans (by kernel_rfl)
theorem aAl:ak Tryz.prog (fun _=>True) 90 ⟨aa5,Qn⟩:=zcc (env:=apF) (d:=6) (hs:=Ev.get apG) bq (fun J x=>aa7 (C (J 58 []) aa6) x.1 x.2.1) (fun _ _=>by kernel_rfl) fun _=>by rw[aFQ]<;>rfl
@[reducible] def zI3:Type:=Int×Int×List Bool×List Int×Int×Int
@[reducible] def aFR:Sh:=shD [.pr (.int .u8) pP,.pr (.int .u8) pP] [.bool]
def aa8(a b:zI3):Option aD :=
 if eqi a.1 b.1=true then if eqi a.2.1 b.2.1=true then if eqi a.2.2.2.2.1 b.2.2.2.2.1=true then if eqi a.2.2.2.2.2 b.2.2.2.2.2=true then zC (Qn (a.2.2.1,b.2.2.1,())) fun y=>if y.1=true then zC (Ad (a.2.2.2.1,b.2.2.2.1,())) fun y=>some (y.1,()) else some (false,()) else some (false,()) else some (false,()) else some (false,()) else some (false,())
def xV(x:As [.pr (.int .u8) pP,.pr (.int .u8) pP]):Option aD:=aa8 x.1 x.2.1
theorem Ho:ak Tryz.prog (fun _=>True) 69 ⟨aFR,xV⟩:=ctn (aj Xx (aj aAl bq)) 6 fun J x=>by kernel_rfl
@[reducible] def bS:List Ty:=[.un,.pr (.int .u8) pP]
@[reducible] def aAm:Sh:=shD bS [.bool]
def apH(v:Unit)(r:zI3):Option aD :=
 if lt r.1 128=true then if ge r.2.1 1=true then if le r.2.1 4=true then zC (ko (r.1,r.2.1,())) fun y=>zC (xV (r,y.1,())) fun y=>some (y.1,()) else some (false,()) else some (false,()) else some (false,())
def Hq(x:As bS):Option aD:=apH x.1 x.2.1
theorem aAn:ak Tryz.prog (fun _=>True) 254 ⟨aAm,Hq⟩:=ctn (aj Ho (aj YD bq)) 6 fun J x=>by kernel_rfl
@[reducible] def aAo:Sh:=shD bS aI
def aFS(v:Unit)(r:zI3):Option bO :=
 some ([add .u8 r.1 128,r.2.1],())
def Qo(x:As bS):Option bO:=aFS x.1 x.2.1
theorem aAp:ak Tryz.prog (fun _=>True) 255 ⟨aAo,Qo⟩:=ctn bq 6 fun J x=>by kernel_rfl
@[reducible] def aAq:Sh:=shD bS [.bool]
def apI(v:Unit)(r:zI3):Option aD :=
 if ge (zF (zG r.2.2.1)) 8=true then if le (zF (zG r.2.2.1)) 2000=true then if eqi (rem (zF (zG r.2.2.1)) 8) 0=true then zC (xV (r,(r.1,0,r.2.2.1,[],0,0),())) fun y=>some (y.1,()) else some (false,()) else some (false,()) else some (false,())
def xW(x:As bS):Option aD:=apI x.1 x.2.1
theorem aAr:ak Tryz.prog (fun _=>True) 267 ⟨aAq,xW⟩:=ctn (aj Ho bq) 6 fun J x=>by kernel_rfl
@[reducible] def aAs:Sh:=shD bS aI
def apJ(v:Unit)(r:zI3):Option bO :=
 zC (Gr (r.2.2.1,())) fun y=>need (small (Nat.succ (Nat.succ 0)+zG y.1)) (some (r.1::cvt .u8 (zF (zG y.1))::y.1,()))
def DL(x:As bS):Option bO:=apJ x.1 x.2.1
theorem aAt:ak Tryz.prog (fun _=>True) 268 ⟨aAs,DL⟩:=ctn (aj atN bq) 6 fun J x=>by kernel_rfl
@[reducible] def aAu:Sh:=shD bS [.bool]
def apK(v:Unit)(r:zI3):Option aD :=
 if ge (zF (zG r.2.2.2.1)) 1=true then if le (zF (zG r.2.2.2.1)) 125=true then zC (xV (r,(r.1,0,[],r.2.2.2.1,0,0),())) fun y=>some (y.1,()) else some (false,()) else some (false,())
def sj(x:As bS):Option aD:=apK x.1 x.2.1
theorem aAv:ak Tryz.prog (fun _=>True) 270 ⟨aAu,sj⟩:=ctn (aj Ho bq) 6 fun J x=>by kernel_rfl
@[reducible] def aa9:Sh:=⟨[.row 0,.d aA],[.row (.int .u8) 5],dP,[.row 1],[(1,.row (.int .u8) 5)],1,aI⟩
def apL:Env:=(cts [])
def apM:List (Nat×Hint):=[(26,⟨[.unl 0],[0,7,8,9]⟩)]
def aba(b:List Int)(c d:Int)(a:List Int):St:=⟨[(0,.row 1),(7,dW b),(8,dI c),(9,dI d)],23,[],[(1,.row (.int .u8) 5 a)],2,[],1⟩
@[reducible] def zI4:Type:=List Int->Int->Int->List Int->Option bO
def Qp(f:zI4)(c:List Int)(d b:Int)(a:List Int):Option bO :=
 if lt b d=true then zC (at? c b) fun e=>need (small (zG a+Nat.succ (Nat.succ 0))) (f c d (add .i64 b 1) (a++[cvt .u8 (Sx.shr .u16 e 8),cvt .u8 e])) else some (a,())
def abb(b:zI4)(a c:List Int):Option bO :=
 b a (zF (zG a)) 0 c
def Qq(c:List Int)(d e:Int)(b:List Int):Option bO :=
 ay (fun f a=>Qp (fun c d e b=>f (c,d,e,b)) a.1 a.2.1 a.2.2.1 a.2.2.2) 18446744073709551616 (c,d,e,b)
def Az(x:As dP):Option bO:=abb Qq x.1 x.2.1
abbrev pFp:=zp apL apM 273 aa9
theorem aFT{J w1 a b c d}:pFp J 26 [w1] (aba a b c d)=Qp (C w1 aba) a b c d:=by kernel_rfl
abbrev pFo:=zj apL apM 273 aa9
theorem aFU:C (pFo 26 []) aba=Qq:=gLC (by decide) (by kernel_rfl) (fun _=>by unfold Qq;rfl) fun _ _=>aFT.trans (by kernel_rfl)
theorem abd:ak Tryz.prog (fun _=>True) 273 ⟨aa9,Az⟩:=zcc (env:=apL) (d:=6) (hs:=Ev.get apM) bq (fun J x=>abb (C (J 26 []) aba) x.1 x.2.1) (fun _ _=>by kernel_rfl) fun _=>by rw[aFU]<;>rfl
@[reducible] def aAw:Sh:=shD bS aI
def apN(v:Unit)(r:zI3):Option bO :=
 zC (Az (r.2.2.2.1,[r.1,cvt .u8 (mul .i64 2 (zF (zG r.2.2.2.1)))],())) fun y=>some (y.1,())
def xX(x:As bS):Option bO:=apN x.1 x.2.1
theorem aAx:ak Tryz.prog (fun _=>True) 271 ⟨aAw,xX⟩:=ctn (aj abd bq) 6 fun J x=>by kernel_rfl
@[reducible] def aAy:Sh:=shD bS [.bool]
def apO(v:Unit)(r:zI3):Option aD :=
 if eqi (zF (zG r.2.2.1)) 1=true then zC (xV (r,(r.1,0,r.2.2.1,[],r.2.2.2.2.1,0),())) fun y=>some (y.1,()) else some (false,())
def Hr(x:As bS):Option aD:=apO x.1 x.2.1
theorem aAz:ak Tryz.prog (fun _=>True) 275 ⟨aAy,Hr⟩:=ctn (aj Ho bq) 6 fun J x=>by kernel_rfl
@[reducible] def abe:Sh:=shD bS aI
def apP:Env:=(cts [(273,(⟨aa9,Az⟩:Ct))])
def apQ:List (Nat×Hint):=[(7,⟨[],[3,5]⟩)]
def apR(g a b:Int)(c:List Bool)(d:List Int)(e f:Int):St:=⟨[(3,.pb 0 0),(5,d6 g)],18,[],[(0,.box 46 [d8 a,d8 b,.d (.sl .bool) c,dW d,d6 e,d6 f])],1,[],0⟩
def apS(c a e:Int)(f:List Bool)(g:List Int)(b h:Int):Option bO :=
 zC (Az ([b,c],[a],())) fun d=>some (d.1,())
def abf(b:Int->Int->Int->List Bool->List Int->Int->Int->Option bO)(d:Unit)(a:zI3):Option bO :=
 zC (at? a.2.2.1 0) fun c=>if c=true then b 65280 a.1 a.2.1 a.2.2.1 a.2.2.2.1 a.2.2.2.2.1 a.2.2.2.2.2 else b 0 a.1 a.2.1 a.2.2.1 a.2.2.2.1 a.2.2.2.2.1 a.2.2.2.2.2
def abg:=apS
def Qr(x:As bS):Option bO:=abf abg x.1 x.2.1
abbrev pFr:=zp apP apQ 276 abe
theorem aFV{J a b c d e f g}:pFr J 7 [] (apR a b c d e f g)=apS a b c d e f g:=by kernel_rfl
abbrev pFq:=zj apP apQ 276 abe
theorem aFW:C (pFq 7 []) apR=abg:=gNC (by decide) fun _=>aFV
theorem aAA:ak Tryz.prog (fun _=>True) 276 ⟨abe,Qr⟩:=zcc (env:=apP) (d:=6) (hs:=Ev.get apQ) (aj abd bq) (fun J x=>abf (C (J 7 []) apR) x.1 x.2.1) (fun _ _=>by kernel_rfl) fun _=>by rw[aFW]<;>rfl
@[reducible] def aAB:Sh:=shD bS [.bool]
def apT(v:Unit)(r:zI3):Option aD :=
 if eqi (zF (zG r.2.2.2.1)) 1=true then zC (xV (r,(r.1,0,[],r.2.2.2.1,r.2.2.2.2.1,0),())) fun y=>some (y.1,()) else some (false,())
def Ht(x:As bS):Option aD:=apT x.1 x.2.1
theorem aAC:ak Tryz.prog (fun _=>True) 278 ⟨aAB,Ht⟩:=ctn (aj Ho bq) 6 fun J x=>by kernel_rfl
@[reducible] def apU:Sh:=shD bS aI
def apV(v:Unit)(r:zI3):Option bO :=
 zC (at? r.2.2.2.1 0) fun y=>amb (av apU.rs) [zC (Az ([r.2.2.2.2.1,y],[r.1],())) fun y=>some (y.1,()),zC (Az ([r.2.2.2.2.1,y],[r.1],())) fun y=>some (y.1,())]
def Qs(x:As bS):Option bO:=apV x.1 x.2.1
theorem aAD:ak Tryz.prog (fun _=>True) 279 ⟨apU,Qs⟩:=ctn (aj abd bq) 6 fun J x=>by kernel_rfl
@[reducible] def eS:List Ty:=[.wr (.int .u16),.pr (.int .u8) pP]
@[reducible] def aAE:Sh:=shD eS [.bool]
def apW(k:Int)(r:zI3):Option aD :=
 if ge r.2.2.2.2.2 1=true then if le r.2.2.2.2.2 k=true then zC (xV (r,(r.1,0,[],[],r.2.2.2.2),())) fun y=>some (y.1,()) else some (false,()) else some (false,())
def xY(x:As eS):Option aD:=apW x.1 x.2.1
theorem aAF:ak Tryz.prog (fun _=>True) 281 ⟨aAE,xY⟩:=ctn (aj Ho bq) 6 fun J x=>by kernel_rfl
@[reducible] def aAG:Sh:=shD eS aI
def apX(v:Int)(r:zI3):Option bO :=
 zC (Az ([r.2.2.2.2.1,r.2.2.2.2.2],[r.1],())) fun y=>some (y.1,())
def DN(x:As eS):Option bO:=apX x.1 x.2.1
theorem aAH:ak Tryz.prog (fun _=>True) 282 ⟨aAG,DN⟩:=ctn (aj abd bq) 6 fun J x=>by kernel_rfl
@[reducible] def aFX:Sh:=shD bC aK
def apY(r:zI3):Option bW :=
 if nei r.2.1 0=true then zC (Hq ((),r,())) fun y=>if y.1=true then zC (Qo ((),r,())) fun y=>some (y.1,0,()) else some ([],13,()) else if eqi r.1 1=true then zC (xW ((),r,())) fun y=>if y.1=true then zC (DL ((),r,())) fun y=>some (y.1,0,()) else some ([],13,()) else if eqi r.1 2=true then zC (xW ((),r,())) fun y=>if y.1=true then zC (DL ((),r,())) fun y=>some (y.1,0,()) else some ([],13,()) else if eqi r.1 3=true then zC (sj ((),r,())) fun y=>if y.1=true then zC (xX ((),r,())) fun y=>some (y.1,0,()) else some ([],13,()) else if eqi r.1 4=true then zC (sj ((),r,())) fun y=>if y.1=true then zC (xX ((),r,())) fun y=>some (y.1,0,()) else some ([],13,()) else if eqi r.1 23=true then zC (sj ((),r,())) fun y=>if y.1=true then zC (xX ((),r,())) fun y=>some (y.1,0,()) else some ([],13,()) else if eqi r.1 5=true then zC (Hr ((),r,())) fun y=>if y.1=true then zC (Qr ((),r,())) fun y=>some (y.1,0,()) else some ([],13,()) else if eqi r.1 6=true then zC (Ht ((),r,())) fun y=>if y.1=true then zC (Qs ((),r,())) fun y=>some (y.1,0,()) else some ([],13,()) else if eqi r.1 15=true then zC (xY (1968,r,())) fun y=>if y.1=true then zC (DN (1968,r,())) fun y=>some (y.1,0,()) else some ([],13,()) else if eqi r.1 16=true then zC (xY (123,r,())) fun y=>if y.1=true then zC (DN (123,r,())) fun y=>some (y.1,0,()) else some ([],13,()) else some ([],13,())
def DR(x:As bC):Option bW:=apY x.1
theorem aFY:ak Tryz.prog (fun _=>True) 64 ⟨aFX,DR⟩:=ctn (aj aAn (aj aAp (aj aAr (aj aAt (aj aAv (aj aAx (aj aAz (aj aAA (aj aAC (aj aAD (aj aAF (aj aAH bq)))))))))))) 6 fun J x=>by kernel_rfl
@[reducible] def bK:List Ty:=[.pr (.int .u8) aE,.sl (.int .u8)]
@[reducible] def Qt:Sh:=shD bK bK
@[reducible] def fU:Type:=As bK
def apZ(c:o9)(b:List Int):Option fU :=
 zC (aa4 (c,())) fun a=>zC (au3 (a.1,a.2.1,a.2.2.1,a.2.2.2.1,a.2.2.2.2.1,a.2.2.2.2.2.1,a.2.2.2.2.2.2.1,a.2.2.2.2.2.2.2.1,a.2.2.2.2.2.2.2.2.1,a.2.2.2.2.2.2.2.2.2.1,a.2.2.2.2.2.2.2.2.2.2.1,a.2.2.2.2.2.2.2.2.2.2.2.1,a.2.2.2.2.2.2.2.2.2.2.2.2.1,a.2.2.2.2.2.2.2.2.2.2.2.2.2.1,a.2.2.2.2.2.2.2.2.2.2.2.2.2.2.1,a.2.2.2.2.2.2.2.2.2.2.2.2.2.2.2.1,a.2.2.2.2.2.2.2.2.2.2.2.2.2.2.2.2.1,a.2.2.2.2.2.2.2.2.2.2.2.2.2.2.2.2.2.1,a.2.2.2.2.2.2.2.2.2.2.2.2.2.2.2.2.2.2.1,a.2.2.2.2.2.2.2.2.2.2.2.2.2.2.2.2.2.2.2.1,a.2.2.2.2.2.2.2.2.2.2.2.2.2.2.2.2.2.2.2.2.1,a.2.2.2.2.2.2.2.2.2.2.2.2.2.2.2.2.2.2.2.2.2.1,a.2.2.2.2.2.2.2.2.2.2.2.2.2.2.2.2.2.2.2.2.2.2.1,a.2.2.2.2.2.2.2.2.2.2.2.2.2.2.2.2.2.2.2.2.2.2.2.1,a.2.2.2.2.2.2.2.2.2.2.2.2.2.2.2.2.2.2.2.2.2.2.2.2.1,a.2.2.2.2.2.2.2.2.2.2.2.2.2.2.2.2.2.2.2.2.2.2.2.2.2.1,a.2.2.2.2.2.2.2.2.2.2.2.2.2.2.2.2.2.2.2.2.2.2.2.2.2.2.1,a.2.2.2.2.2.2.2.2.2.2.2.2.2.2.2.2.2.2.2.2.2.2.2.2.2.2.2.1,a.2.2.2.2.2.2.2.2.2.2.2.2.2.2.2.2.2.2.2.2.2.2.2.2.2.2.2.2.1,a.2.2.2.2.2.2.2.2.2.2.2.2.2.2.2.2.2.2.2.2.2.2.2.2.2.2.2.2.2.1,a.2.2.2.2.2.2.2.2.2.2.2.2.2.2.2.2.2.2.2.2.2.2.2.2.2.2.2.2.2.2.1,a.2.2.2.2.2.2.2.2.2.2.2.2.2.2.2.2.2.2.2.2.2.2.2.2.2.2.2.2.2.2.2.1,a.2.2.2.2.2.2.2.2.2.2.2.2.2.2.2.2.2.2.2.2.2.2.2.2.2.2.2.2.2.2.2.2.1,a.2.2.2.2.2.2.2.2.2.2.2.2.2.2.2.2.2.2.2.2.2.2.2.2.2.2.2.2.2.2.2.2.2.1,b,a.2.2.2.2.2.2.2.2.2.2.2.2.2.2.2.2.2.2.2.2.2.2.2.2.2.2.2.2.2.2.2.2.2.2.1,())) fun a=>zC (DR (a.2.1,())) fun d=>some (a.1,d.1,())
def xZ(x:As bK):Option fU:=apZ x.1 x.2.1
theorem abh:ak Tryz.prog (fun _=>True) 14 ⟨Qt,xZ⟩:=ctn (aj aFJ (aj aFO (aj aFY bq))) 6 fun J x=>by kernel_rfl
@[reducible] def dM:List Ty:=[.un,.sl (.int .u8)]
@[reducible] def aAI:Sh:=shD dM bC
def aFZ(d:Unit)(b:List Int):Option dJ :=
 zC (at? b 0) fun a=>zC (at? b 1) fun c=>zC (ko (a,c,())) fun a=>some (a.1,())
def ap0(x:As dM):Option dJ:=aFZ x.1 x.2.1
theorem aF0:ak Tryz.prog (fun _=>True) 253 ⟨aAI,ap0⟩:=ctn (aj YD bq) 6 fun J x=>by kernel_rfl
@[reducible] def aAJ:Sh:=shD dM bC
def aF1(e:Unit)(a:List Int):Option dJ :=
 zC (at? a 0) fun b=>zC (cut a 2 (zF (zG a))) fun c=>zC (Gv (c,())) fun d=>some ((b,0,d.1,[],0,0),())
def abj(x:As dM):Option dJ:=aF1 x.1 x.2.1
theorem aF2:ak Tryz.prog (fun _=>True) 266 ⟨aAJ,abj⟩:=ctn (aj aue bq) 6 fun J x=>by kernel_rfl
@[reducible] def ap1:Sh:=shD aI aM
def ap2:Env:=(cts [])
def ap3:List (Nat×Hint):=[(58,⟨[],[0,3,10,11]⟩)]
def abk(a:List Int)(c d:Int)(b:List Int):St:=⟨[(0,dL a),(3,.row 0),(10,dI c),(11,dI d)],34,[],[(0,.row (.int .u16) 23 b)],1,[],0⟩
@[reducible] def zI5:Type:=List Int->Int->Int->List Int->Option bU
def au4(e:zI5)(c:List Int)(d a:Int)(b:List Int):Option bU :=
 if lt a d=true then zC (at? c (mul .i64 2 a)) fun g=>zC (at? c (add .i64 (mul .i64 2 a) 1)) fun h=>zC (at? b a) fun f=>zC (at? b a) fun f=>e c d (add .i64 a 1) (List.set b (zI a) (Sx.bor .u16 (Sx.shl .u16 (cvt .u16 g) 8) (cvt .u16 h))) else some (b,())
def au5(b:zI5)(a:List Int):Option bU :=
 need (ge (quo .i64 (zF (zG a)) 2) 0) (need (Ev.jC (quo .i64 (zF (zG a)) 2) (quo .i64 (zF (zG a)) 2)) (need (small (zI (quo .i64 (zF (zG a)) 2))) (b a (zF (zG (zE (α:=Int) (zI (quo .i64 (zF (zG a)) 2)) 0))) 0 (zE (zI (quo .i64 (zF (zG a)) 2)) 0))))
def abl(b:List Int)(d e:Int)(c:List Int):Option bU :=
 ay (fun f a=>au4 (fun b d e c=>f (b,d,e,c)) a.1 a.2.1 a.2.2.1 a.2.2.2) 18446744073709551616 (b,d,e,c)
def Qu(x:As aI):Option bU:=au5 abl x.1
abbrev pFn:=zp ap2 ap3 272 ap1
theorem aF3{J w1 a b c d}:pFn J 58 [w1] (abk a b c d)=au4 (C w1 abk) a b c d:=by kernel_rfl
abbrev pFm:=zj ap2 ap3 272 ap1
theorem aF4:C (pFm 58 []) abk=abl:=gLC (by decide) (by kernel_rfl) (fun _=>by unfold abl;rfl) fun _ _=>aF3.trans (by kernel_rfl)
theorem abm:ak Tryz.prog (fun _=>True) 272 ⟨ap1,Qu⟩:=zcc (env:=ap2) (d:=6) (hs:=Ev.get ap3) bq (fun J x=>au5 (C (J 58 []) abk) x.1) (fun _ _=>by kernel_rfl) fun _=>by rw[aF4]<;>rfl
@[reducible] def aAK:Sh:=shD dM bC
def aF5(e:Unit)(a:List Int):Option dJ :=
 zC (at? a 0) fun b=>zC (cut a 2 (zF (zG a))) fun c=>zC (Qu (c,())) fun d=>some ((b,0,[],d.1,0,0),())
def Qv(x:As dM):Option dJ:=aF5 x.1 x.2.1
theorem aF6:ak Tryz.prog (fun _=>True) 269 ⟨aAK,Qv⟩:=ctn (aj abm bq) 6 fun J x=>by kernel_rfl
@[reducible] def aAL:Sh:=shD dM bC
def aF7(e:Unit)(b:List Int):Option dJ :=
 zC (cut b 1 (zF (zG b))) fun a=>zC (Qu (a,())) fun a=>if lt (zF (zG a.1)) 2=true then some ((0,0,[],[],0,0),()) else zC (at? b 0) fun c=>zC (at? a.1 0) fun d=>zC (at? a.1 1) fun a=>some ((c,0,[eqi a 65280],[],d,0),())
def ap4(x:As dM):Option dJ:=aF7 x.1 x.2.1
theorem aF8:ak Tryz.prog (fun _=>True) 274 ⟨aAL,ap4⟩:=ctn (aj abm bq) 6 fun J x=>by kernel_rfl
@[reducible] def aAM:Sh:=shD dM bC
def aF9(e:Unit)(b:List Int):Option dJ :=
 zC (cut b 1 (zF (zG b))) fun a=>zC (Qu (a,())) fun a=>if lt (zF (zG a.1)) 2=true then some ((0,0,[],[],0,0),()) else zC (at? b 0) fun c=>zC (at? a.1 0) fun d=>zC (at? a.1 1) fun a=>some ((c,0,[],[a],d,0),())
def ap5(x:As dM):Option dJ:=aF9 x.1 x.2.1
theorem aGa:ak Tryz.prog (fun _=>True) 277 ⟨aAM,ap5⟩:=ctn (aj abm bq) 6 fun J x=>by kernel_rfl
@[reducible] def au6:Sh:=shD [.wr (.int .u16),.sl (.int .u8)] bC
def aGb(e:Int)(b:List Int):Option dJ :=
 zC (cut b 1 (zF (zG b))) fun a=>zC (Qu (a,())) fun a=>if lt (zF (zG a.1)) 2=true then some ((0,0,[],[],0,0),()) else zC (at? b 0) fun c=>zC (at? a.1 0) fun d=>zC (at? a.1 1) fun a=>some ((c,0,[],[],d,a),())
def abn(x:As [.wr (.int .u16),.sl (.int .u8)]):Option dJ:=aGb x.1 x.2.1
theorem aGc:ak Tryz.prog (fun _=>True) 280 ⟨au6,abn⟩:=ctn (aj abm bq) 6 fun J x=>by kernel_rfl
@[reducible] def eM:List Ty:=[.pr (.int .u8) pP,.int .i64]
@[reducible] def abo:Sh:=shD aI eM
def ap6:Env:=(cts [(66,(⟨XL,oQ⟩:Ct)),(253,(⟨aAI,ap0⟩:Ct)),(254,(⟨aAm,Hq⟩:Ct)),(255,(⟨aAo,Qo⟩:Ct)),(266,(⟨aAJ,abj⟩:Ct)),(267,(⟨aAq,xW⟩:Ct)),(268,(⟨aAs,DL⟩:Ct)),(269,(⟨aAK,Qv⟩:Ct)),(270,(⟨aAu,sj⟩:Ct)),(271,(⟨aAw,xX⟩:Ct)),(274,(⟨aAL,ap4⟩:Ct)),(275,(⟨aAy,Hr⟩:Ct)),(276,(⟨abe,Qr⟩:Ct)),(277,(⟨aAM,ap5⟩:Ct)),(278,(⟨aAB,Ht⟩:Ct)),(279,(⟨apU,Qs⟩:Ct)),(280,(⟨au6,abn⟩:Ct)),(281,(⟨aAE,xY⟩:Ct)),(282,(⟨aAG,DN⟩:Ct))])
def ap7:List (Nat×Hint):=[(6,⟨[],[0,2,15,42,43,44,45,46,47]⟩)]
def ap8(a:List Int)(b:Bool)(c d e f:Int):St:=⟨[(0,dL a),(2,.pb 0 0),(15,dB b)],51,[],[(0,.box 46 [d8 c,d8 d,.k (zK zH 0 0),.k (zK zH 0 0),d6 e,d6 f])],1,[],0⟩
def au7(b:List Int)(f:Bool)(g h i j:Int):Option (As eM) :=
 if f=true then some ((0,0,[],[],0,0),13,()) else zC (at? b 0) fun a=>if lt a 128=true then zC (at? b 0) fun a=>if eqi a 1=true then zC (abj ((),b,())) fun a=>zC (xW ((),a.1,())) fun c=>if (!c.1)=true then some ((0,0,[],[],0,0),13,()) else zC (DL ((),a.1,())) fun d=>zC (oQ (d.1,b,())) fun e=>if (!e.1)=true then some ((0,0,[],[],0,0),13,()) else some (a.1,0,()) else if eqi a 2=true then zC (abj ((),b,())) fun a=>zC (xW ((),a.1,())) fun c=>if (!c.1)=true then some ((0,0,[],[],0,0),13,()) else zC (DL ((),a.1,())) fun d=>zC (oQ (d.1,b,())) fun e=>if (!e.1)=true then some ((0,0,[],[],0,0),13,()) else some (a.1,0,()) else if eqi a 3=true then zC (Qv ((),b,())) fun a=>zC (sj ((),a.1,())) fun c=>if (!c.1)=true then some ((0,0,[],[],0,0),13,()) else zC (xX ((),a.1,())) fun d=>zC (oQ (d.1,b,())) fun e=>if (!e.1)=true then some ((0,0,[],[],0,0),13,()) else some (a.1,0,()) else if eqi a 4=true then zC (Qv ((),b,())) fun a=>zC (sj ((),a.1,())) fun c=>if (!c.1)=true then some ((0,0,[],[],0,0),13,()) else zC (xX ((),a.1,())) fun d=>zC (oQ (d.1,b,())) fun e=>if (!e.1)=true then some ((0,0,[],[],0,0),13,()) else some (a.1,0,()) else if eqi a 23=true then zC (Qv ((),b,())) fun a=>zC (sj ((),a.1,())) fun c=>if (!c.1)=true then some ((0,0,[],[],0,0),13,()) else zC (xX ((),a.1,())) fun d=>zC (oQ (d.1,b,())) fun e=>if (!e.1)=true then some ((0,0,[],[],0,0),13,()) else some (a.1,0,()) else if eqi a 5=true then zC (ap4 ((),b,())) fun a=>zC (Hr ((),a.1,())) fun c=>if (!c.1)=true then some ((0,0,[],[],0,0),13,()) else zC (Qr ((),a.1,())) fun d=>zC (oQ (d.1,b,())) fun e=>if (!e.1)=true then some ((0,0,[],[],0,0),13,()) else some (a.1,0,()) else if eqi a 6=true then zC (ap5 ((),b,())) fun a=>zC (Ht ((),a.1,())) fun c=>if (!c.1)=true then some ((0,0,[],[],0,0),13,()) else zC (Qs ((),a.1,())) fun d=>zC (oQ (d.1,b,())) fun e=>if (!e.1)=true then some ((0,0,[],[],0,0),13,()) else some (a.1,0,()) else if eqi a 15=true then zC (abn (1968,b,())) fun a=>zC (xY (1968,a.1,())) fun c=>if (!c.1)=true then some ((0,0,[],[],0,0),13,()) else zC (DN (1968,a.1,())) fun d=>zC (oQ (d.1,b,())) fun e=>if (!e.1)=true then some ((0,0,[],[],0,0),13,()) else some (a.1,0,()) else if eqi a 16=true then zC (abn (123,b,())) fun a=>zC (xY (123,a.1,())) fun c=>if (!c.1)=true then some ((0,0,[],[],0,0),13,()) else zC (DN (123,a.1,())) fun d=>zC (oQ (d.1,b,())) fun e=>if (!e.1)=true then some ((0,0,[],[],0,0),13,()) else some (a.1,0,()) else some ((0,0,[],[],0,0),13,()) else zC (ap0 ((),b,())) fun a=>zC (Hq ((),a.1,())) fun c=>if (!c.1)=true then some ((0,0,[],[],0,0),13,()) else zC (Qo ((),a.1,())) fun d=>zC (oQ (d.1,b,())) fun e=>if (!e.1)=true then some ((0,0,[],[],0,0),13,()) else some (a.1,0,())
def au8(b:List Int->Bool->Int->Int->Int->Int->Option (As eM))(a:List Int):Option (As eM) :=
 if lt (zF (zG a)) 2=true then b a true 0 0 0 0 else b a (gt (zF (zG a)) 253) 0 0 0 0
def au9:=au7
def abp(x:As aI):Option (As eM):=au8 au9 x.1
abbrev pFl:=zp ap6 ap7 15 abo
theorem aGd{J a b c d e f}:pFl J 6 [] (ap8 a b c d e f)=au7 a b c d e f:=by kernel_rfl
abbrev pFk:=zj ap6 ap7 15 abo
theorem aGe:C (pFk 6 []) ap8=au9:=gNC (by decide) fun _=>aGd
theorem aGf:ak Tryz.prog (fun _=>True) 15 ⟨abo,abp⟩:=zcc (env:=ap6) (d:=6) (hs:=Ev.get ap7) (aj auc (aj aF0 (aj aAn (aj aAp (aj aF2 (aj aAr (aj aAt (aj aF6 (aj aAv (aj aAx (aj aF8 (aj aAz (aj aAA (aj aGa (aj aAC (aj aAD (aj aGc (aj aAF (aj aAH bq))))))))))))))))))) (fun J x=>au8 (C (J 6 []) ap8) x.1) (fun _ _=>by kernel_rfl) fun _=>by rw[aGe]<;>rfl
@[reducible] def cX:Ty:=.pr (.int .u8) mK
@[reducible] def bX:List Ty:=[.pr (.int .u8) mK,.int .u8,.int .u8,.sl (.int .u16),.int .u16,.int .i64,.int .u8,.int .u32,.int .u32,.int .u32,.bool,.bool,.bool,.bool,.bool,.bool,.bool,.bool,.int .i64,.sl (.int .u16),.int .i64,.sl (.int .u16),.int .i64,.sl (.int .u16),.int .i64,.sl (.int .u16),.int .i64,.sl (.int .u16),.int .i64,.sl (.int .u16),.int .i64,.sl (.int .u16),.int .i64,.sl (.int .u16),.int .i64,.sl .bool]
@[reducible] def aX:List Ty:=[.pr (.int .u8) pP,.int .u8,.int .u8,.sl (.int .u16),.int .u16,.int .i64,.int .u8,.int .u32,.int .u32,.int .u32,.bool,.bool,.bool,.bool,.bool,.bool,.bool,.bool,.int .i64,.sl (.int .u16),.int .i64,.sl (.int .u16),.int .i64,.sl (.int .u16),.int .i64,.sl (.int .u16),.int .i64,.sl (.int .u16),.int .i64,.sl (.int .u16),.int .i64,.sl (.int .u16),.int .i64,.sl (.int .u16),.int .i64,.sl .bool]
@[reducible] def ava:Sh:=⟨[.d cX,.pb 0 0],[.box 38 [.d (.int .u8),.d (.int .u8),.d aA,.d (.int .u16),.d (.int .i64),.d (.int .u8),.d (.int .u32),.d (.int .u32),.d (.int .u32),.d (.bool),.d (.bool),.d (.bool),.d (.bool),.d (.bool),.d (.bool),.d (.bool),.d (.bool),.d (.int .i64),.d aA,.d (.int .i64),.d aA,.d (.int .i64),.d aA,.d (.int .i64),.d aA,.d (.int .i64),.d aA,.d (.int .i64),.d aA,.d (.int .i64),.d aA,.d (.int .i64),.d aA,.d (.int .i64),.d (.sl .bool)]],bX,[.d (.pr (.int .u8) pP)],[(0,.box 38 [.d (.int .u8),.d (.int .u8),.d aA,.d (.int .u16),.d (.int .i64),.d (.int .u8),.d (.int .u32),.d (.int .u32),.d (.int .u32),.d (.bool),.d (.bool),.d (.bool),.d (.bool),.d (.bool),.d (.bool),.d (.bool),.d (.bool),.d (.int .i64),.d aA,.d (.int .i64),.d aA,.d (.int .i64),.d aA,.d (.int .i64),.d aA,.d (.int .i64),.d aA,.d (.int .i64),.d aA,.d (.int .i64),.d aA,.d (.int .i64),.d aA,.d (.int .i64),.d (.sl .bool)])],0,aX⟩
def aGg:Env:=(cts [(1000038,Ev.iq),(13,(⟨Gs,Ab⟩:Ct)),(14,(⟨Qt,xZ⟩:Ct)),(15,(⟨abo,abp⟩:Ct))])
def aGh(b:zI1)(h c:Int)(s:List Int)(d w e f g x:Int)(y z aa ab ac i j k:Bool)(l:Int)(m:List Int)(n:Int)(o:List Int)(p:Int)(q:List Int)(r:Int)(t:List Int)(u:Int)(v:List Int)(ad:Int)(ae:List Int)(af:Int)(ag:List Int)(ah:Int)(ai:List Int)(aj:Int)(ak:List Bool):Option (As aX) :=
 zC (Ab (b,())) fun a=>zC (xZ ((h,c,(s,(d,w),e,f,g,(x,[y,z,aa,ab,ac,i,j,k],[(l,m),(n,o),(p,q),(r,t),(u,v),(ad,ae),(af,ag),(ah,ai)]),aj),ak),a.1,())) fun a=>zC (abp (a.2.1,())) fun al=>some (al.1,pkS a.1)
def Hu(x:As bX):Option (As aX):=aGh x.1 x.2.1 x.2.2.1 x.2.2.2.1 x.2.2.2.2.1 x.2.2.2.2.2.1 x.2.2.2.2.2.2.1 x.2.2.2.2.2.2.2.1 x.2.2.2.2.2.2.2.2.1 x.2.2.2.2.2.2.2.2.2.1 x.2.2.2.2.2.2.2.2.2.2.1 x.2.2.2.2.2.2.2.2.2.2.2.1 x.2.2.2.2.2.2.2.2.2.2.2.2.1 x.2.2.2.2.2.2.2.2.2.2.2.2.2.1 x.2.2.2.2.2.2.2.2.2.2.2.2.2.2.1 x.2.2.2.2.2.2.2.2.2.2.2.2.2.2.2.1 x.2.2.2.2.2.2.2.2.2.2.2.2.2.2.2.2.1 x.2.2.2.2.2.2.2.2.2.2.2.2.2.2.2.2.2.1 x.2.2.2.2.2.2.2.2.2.2.2.2.2.2.2.2.2.2.1 x.2.2.2.2.2.2.2.2.2.2.2.2.2.2.2.2.2.2.2.1 x.2.2.2.2.2.2.2.2.2.2.2.2.2.2.2.2.2.2.2.2.1 x.2.2.2.2.2.2.2.2.2.2.2.2.2.2.2.2.2.2.2.2.2.1 x.2.2.2.2.2.2.2.2.2.2.2.2.2.2.2.2.2.2.2.2.2.2.1 x.2.2.2.2.2.2.2.2.2.2.2.2.2.2.2.2.2.2.2.2.2.2.2.1 x.2.2.2.2.2.2.2.2.2.2.2.2.2.2.2.2.2.2.2.2.2.2.2.2.1 x.2.2.2.2.2.2.2.2.2.2.2.2.2.2.2.2.2.2.2.2.2.2.2.2.2.1 x.2.2.2.2.2.2.2.2.2.2.2.2.2.2.2.2.2.2.2.2.2.2.2.2.2.2.1 x.2.2.2.2.2.2.2.2.2.2.2.2.2.2.2.2.2.2.2.2.2.2.2.2.2.2.2.1 x.2.2.2.2.2.2.2.2.2.2.2.2.2.2.2.2.2.2.2.2.2.2.2.2.2.2.2.2.1 x.2.2.2.2.2.2.2.2.2.2.2.2.2.2.2.2.2.2.2.2.2.2.2.2.2.2.2.2.2.1 x.2.2.2.2.2.2.2.2.2.2.2.2.2.2.2.2.2.2.2.2.2.2.2.2.2.2.2.2.2.2.1 x.2.2.2.2.2.2.2.2.2.2.2.2.2.2.2.2.2.2.2.2.2.2.2.2.2.2.2.2.2.2.2.1 x.2.2.2.2.2.2.2.2.2.2.2.2.2.2.2.2.2.2.2.2.2.2.2.2.2.2.2.2.2.2.2.2.1 x.2.2.2.2.2.2.2.2.2.2.2.2.2.2.2.2.2.2.2.2.2.2.2.2.2.2.2.2.2.2.2.2.2.1 x.2.2.2.2.2.2.2.2.2.2.2.2.2.2.2.2.2.2.2.2.2.2.2.2.2.2.2.2.2.2.2.2.2.2.1 x.2.2.2.2.2.2.2.2.2.2.2.2.2.2.2.2.2.2.2.2.2.2.2.2.2.2.2.2.2.2.2.2.2.2.2.1
theorem aGi:ak Tryz.prog (fun _=>True) 56 ⟨ava,Hu⟩:=ctn (env:=aGg) (aj Ev.gI (aj Xm (aj abh (aj aGf bq)))) 6 fun J x=>by kernel_rfl
@[reducible] def abq:Sh:=shD [.pr (.int .u16) Gm] aM
def ap9(c:Int×Int×Int×Int×Int):Option bU :=
 some ([c.1,cvt .u16 c.2.1,cvt .u16 (quo .u32 c.2.2.1 65536),cvt .u16 (rem c.2.2.1 65536),c.2.2.2.1,cvt .u16 (quo .u32 c.2.2.2.2 65536),cvt .u16 (rem c.2.2.2.2 65536),0],())
def AA(x:As [.pr (.int .u16) Gm]):Option bU:=ap9 x.1
theorem avb:ak Tryz.prog (fun _=>True) 57 ⟨abq,AA⟩:=ctn bq 6 fun J x=>by kernel_rfl
@[reducible] def avc:Sh:=shD [] [.bool]
def aGj:Env:=(cts [(1000038,Ev.iq),(20,(⟨WC,Di⟩:Ct)),(35,(⟨WB,z8⟩:Ct)),(56,(⟨ava,Hu⟩:Ct)),(57,(⟨abq,AA⟩:Ct))])
def aGk:Option aD :=
 zC (z8 (3,1,[0,0,0,0,0,0,0,0,0,0,0,0,0,0,0,0,0,0,0,0,0,0,0,0,0,0,0,0,0,0,0,0,0,0,0,0,0,0,0,0,0,0,0,0,0,0,0,0,0,0,0,0,0,0,0,0,0,0,0,0,0,0,0,0],5,())) fun a=>if nei a.2.1 0=true then some (false,()) else zC (Hu ((3,256,8,0,[],[]),pkS a.1)) fun a=>zC (AA ((7,1,1,0,0),())) fun d=>zC (Hu ((23,256,8,272,d.1,[]),a.2)) fun b=>zC (Hu ((6,272,0,0,[1],[]),b.2)) fun c=>zC (AA ((8,1,2,0,0),())) fun e=>zC (Hu ((16,272,8,0,e.1,[]),c.2)) fun f=>zC (Di (a.1.2.2.2.1,[0,0,0,0,0,0,0,0],())) fun a=>if a.1=true then zC (Di (b.1.2.2.2.1,[7,1,0,1,0,0,0,0],())) fun a=>if a.1=true then if eqi c.1.2.1 2=true then some (eqi f.1.2.1 4,()) else some (false,()) else some (false,()) else some (false,())
def Hw(x:As []):Option aD:=aGk
theorem aGl:ak Tryz.prog (fun _=>True) 10 ⟨avc,Hw⟩:=ctn (env:=aGj) (aj Ev.gI (aj atL (aj atK (aj aGi (aj avb bq))))) 6 fun J x=>by kernel_rfl
@[reducible] def avd:Sh:=shD [.sl (.int .u16),.sl .bool] [.bool]
def abr(b:List Int)(a:List Bool):Option aD :=
 if le (zF (zG b)) 200=true then some (le (zF (zG a)) 2100,()) else some (false,())
def LG(x:As [.sl (.int .u16),.sl .bool]):Option aD:=abr x.1 x.2.1
theorem aGm:ak Tryz.prog (fun _=>True) 78 ⟨avd,LG⟩:=ctn bq 6 fun J x=>by kernel_rfl
@[reducible] def dC:Ty:=.pr (.int .u16) Gm
@[reducible] def bN:Ty:=.pr cX dC
@[reducible] def bA:Ty:=.pr bV bN
@[reducible] def eH:Ty:=.pr (.int .u8) bA
@[reducible] def abt:Sh:=shD [.sl eH,.int .i64] [.bool]
def abu:Env:=(cts [(78,(⟨avd,LG⟩:Ct))])
def abv:List (Nat×Hint):=[(3,⟨[],[0,1]⟩),(26,⟨[],[0,1,7,8,9,18,19,20,21,22,23,24,25]⟩),(1689,⟨[.agd 20 aA,.agd 23 (.sl .bool),.agd 24 .bool,.agd 25 .bool],[0,1,7,8,9,26]⟩)]
def Hy(a:List ny)(b:Int)(c:List ny)(d e:Int):St:=⟨[(0,.d (.sl eH) a),(1,dI b),(7,.d (.sl eH) c),(8,dI d),(9,dI e)],32,[],[],0,[],0⟩
def abw(a:List ny)(b:Int)(d:List ny)(e f:Int)(c:Bool):St:=⟨[(0,.d (.sl eH) a),(1,dI b),(7,.d (.sl eH) d),(8,dI e),(9,dI f),(26,dB c)],32,[],[],0,[],0⟩
def abx(a:List ny)(b:Int):St:=⟨[(0,.d (.sl eH) a),(1,dI b)],32,[],[],0,[],0⟩
@[reducible] def zI6:Type:=List ny->Int->List ny->Int->Int->Option aD
def DT(g:List ny->Int->List ny->Int->Int->Bool->Option aD)(h:List ny->Int->Option aD)(i:zI6)(c:List ny)(d:Int)(e:List ny)(f b:Int):Option aD :=
 if lt b f=true then zC (at? e b) fun a=>if gt (zF (zG a.2.1)) 300=true then g c d e f b true else zC (LG (a.2.2.1.2.2.2.2.1,a.2.2.1.2.2.2.2.2,())) fun a=>g c d e f b !a.1 else h c d
def aby(c:zI6)(a:List ny)(b:Int)(e:List ny)(f g:Int)(d:Bool):Option aD :=
 if d=true then some (false,()) else c a b e f (add .i64 g 1)
def ave(a:List ny)(b:Int):Option aD :=
 some (le (zF (zG a)) b,())
def avf(b:zI6)(a:List ny)(c:Int):Option aD :=
 b a c a (zF (zG a)) 0
def Qw(a:zI6):=aby a
def Qx:=ave
def abz(a:List ny)(b:Int)(d:List ny)(e f:Int):Option aD :=
 ay (fun g c=>DT (Qw (fun a b d e f=>g (a,b,d,e,f))) (Qx) (fun a b d e f=>g (a,b,d,e,f)) c.1 c.2.1 c.2.2.1 c.2.2.2.1 c.2.2.2.2) 18446744073709551616 (a,b,d,e,f)
def LH(x:As [.sl eH,.int .i64]):Option aD:=avf abz x.1 x.2.1
abbrev pBd:=zp abu abv 22 abt
theorem aGn{J w1 a b c d e f}:pBd J 1689 [w1] (abw a b c d e f)=aby (C w1 Hy) a b c d e f:=by kernel_rfl
theorem aGo{J a b}:pBd J 3 [] (abx a b)=ave a b:=by kernel_rfl
theorem aGp{J w1 a b c d e}:pBd J 26 [w1] (Hy a b c d e)=DT (C (J 1689 [w1]) abw) (C (J 3 []) abx) (C w1 Hy) a b c d e:=by kernel_rfl
abbrev pBc:=zj abu abv 22 abt
theorem aGq{w1}:C (pBc 1689 [w1]) abw=Qw (C w1 Hy):=gNC (by decide) fun _=>aGn
theorem aGr:C (pBc 3 []) abx=Qx:=gNC (by decide) fun _=>aGo
theorem aGs:C (pBc 26 []) Hy=abz:=gLC (by decide) (by kernel_rfl) (fun _=>by unfold abz;rfl) fun _ _=>aGp.trans (by rw[aGq,aGr]<;>kernel_rfl)
theorem aGt:ak Tryz.prog (fun _=>True) 22 ⟨abt,LH⟩:=zcc (env:=abu) (d:=6) (hs:=Ev.get abv) (aj aGm bq) (fun J x=>avf (C (J 26 []) Hy) x.1 x.2.1) (fun _ _=>by kernel_rfl) fun _=>by rw[aGs]<;>rfl
@[reducible] def abA:Sh:=shD [.int .u8] [.bool]
def Qy(a:Int):Option aD :=
 if ge a 1=true then some (le a 247,()) else some (false,())
def DU(x:As [.int .u8]):Option aD:=Qy x.1
theorem avg:ak Tryz.prog (fun _=>True) 85 ⟨abA,DU⟩:=ctn bq 6 fun J x=>by kernel_rfl
end Go.Proofs.Lx
end
