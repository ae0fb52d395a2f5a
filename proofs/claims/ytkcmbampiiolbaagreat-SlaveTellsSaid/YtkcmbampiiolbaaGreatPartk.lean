/- Proved in the last of these 20 parts (this is part 11): SlaveTells. Conditions: those of the given statement, and no others. -/
import Derived.Test.YtkcmbampiiolbaaGreatParte
import Derived.Test.YtkcmbampiiolbaaGreatProg
import Derived.Test.YtkcmbampiiolbaaGreatPartj
set_option linter.unusedVariables false
set_option linter.unusedSimpArgs false
set_option linter.unusedSectionVars false
open Option renaming bind → zC, none → zH
open Int renaming ofNat → zF, toNat → zI
open List renaming length → zG, getD → zJ
open Go.Value renaming slice → zK
noncomputable section
open Go Go.Proofs Ev Sx
set_option maxRecDepth 100000
namespace Go.Proofs.Lx
abbrev gP:Ty:=(.pr (.int .i64) aA)
abbrev qN:Ty:=(.pr bP (.ar 8 gP))
@[reducible] def bL:Ty:=.pr (.int .u32) qN
abbrev nD:Ty:=(.pr (.pr (.int .u16) (.int .i64)) (.pr (.int .u8) (.pr (.int .u32) (.pr (.int .u32) (.pr bL (.int .i64))))))
abbrev jT:Type:=(Int×List Bool×List (Int×List Int))
abbrev gq:Type:=(List Int×(Int×Int)×Int×Int×Int×jT×Int)
abbrev iP:Ty:=(.pr (.int .i64) (.pr (.int .i64) (.pr .bool (.pr .bool .bool))))
abbrev su:Ty:=(.pr (.sl .bool) (.pr aA aA))
abbrev AF:Ty:=fN
abbrev aqy:Ty:=fO
abbrev gX:Type:=(Int×Int×Bool×Bool×Bool)
abbrev acZ:Type:=(Int×Int×Int×Int×List Int×List Bool)
abbrev kH:Type:=(Int×List Int×acZ×Int×Int×Int×Int×Int)
abbrev aPQ:Type:=(List Bool×List Bool×List Int×List Int)
abbrev Me:Ty:=(.pr (.int .u8) (.pr (.int .u32) (.pr (.int .u16) (.int .u32))))
abbrev ac0:Type:=(Unit×(Int×Int)×Int×Int×Int×(Int×List Bool×List (Int×Unit))×Int)
abbrev aPR:Type:=(Int×Int×List Bool×List Int×Int×Int)
abbrev ac1:Ty:=(.pr (.int .u8) bV)
abbrev aPS:Type:=(Unit×Unit×Unit×Unit)
abbrev iH:Type:=List Int×(Int×Int)×Int×Int×Int×jT×Int
abbrev lU:Type:=Int×Int×gq×List Bool
@[reducible] def ac2:Sh:=shD [.sl gP] [.bool]
def ac3:Env:=(cts [])
def ac4:List (Nat×Hint):=[(3,⟨[],[0]⟩),(26,⟨[],[0,5,6,7]⟩)]
@[reducible] def zK0:Type:=List (Int×List Int)
def ac5(a b:zK0)(c d:Int):St:=⟨[(0,.d (.sl gP) a),(5,.d (.sl gP) b),(6,dI c),(7,dI d)],19,[],[],0,[],0⟩
def ac6(l:zK0):St:=⟨[(0,.d (.sl gP) l)],19,[],[],0,[],0⟩
@[reducible] def zK1:Type:=List (Int×List Int)->List (Int×List Int)->Int->Int->Option aD
def H7(e:List (Int×List Int)->Option aD)(f:zK1)(b c:zK0)(d a:Int):Option aD :=
 if lt a d=true then zC (at? c a) fun g=>if gt (zF (zG g.2)) 100=true then some (false,()) else f b c d (add .i64 a 1) else e b
def avE(l:zK0):Option aD :=
 some (le (zF (zG l)) 40,())
def avF(b:zK1)(a:zK0):Option aD :=
 b a a (zF (zG a)) 0
def ac7:=avE
def QM(b c:zK0)(d e:Int):Option aD :=
 ay (fun f a=>H7 (ac7) (fun b c d e=>f (b,c,d,e)) a.1 a.2.1 a.2.2.1 a.2.2.2) 18446744073709551616 (b,c,d,e)
def Mf(x:As [.sl gP]):Option aD:=avF QM x.1
abbrev pBp:=zp ac3 ac4 34 ac2
theorem aHG{J a}:pBp J 3 [] (ac6 a)=avE a:=by kernel_rfl
theorem aHH{J w1 a b c d}:pBp J 26 [w1] (ac5 a b c d)=H7 (C (J 3 []) ac6) (C w1 ac5) a b c d:=by kernel_rfl
abbrev pBo:=zj ac3 ac4 34 ac2
theorem aHI:C (pBo 3 []) ac6=ac7:=gNC (by decide) fun _=>aHG
theorem aHJ:C (pBo 26 []) ac5=QM:=gLC (by decide) (by kernel_rfl) (fun _=>by unfold QM;rfl) fun _ _=>aHH.trans (by rw[aHI]<;>kernel_rfl)
theorem aHK:ak Tryz.prog (fun _=>True) 34 ⟨ac2,Mf⟩:=zcc (env:=ac3) (d:=6) (hs:=Ev.get ac4) bq (fun J x=>avF (C (J 26 []) ac5) x.1) (fun _ _=>by kernel_rfl) fun _=>by rw[aHJ]<;>rfl
@[reducible] def aZ:List Ty:=[.pr aA nD,.int .i64]
@[reducible] def avG:Sh:=shD bH aZ
def aHL:Env:=(cts [(1000035,Ev.iq)])
@[reducible] def aV:Type:=As aZ
def ac8(a:List Int)(b:Int):Option aV :=
 if nei (zF (zG a)) 64=true then some (gF,21,()) else if lt b 1=true then some (gF,2,()) else need (small (0+zG a)) (some ((a,(0,0),0,0,0,zSt,b),0,()))
def H8(x:As bH):Option aV:=ac8 x.1 x.2.1
theorem aHM:ak Tryz.prog (fun _=>True) 93 ⟨avG,H8⟩:=ctn (env:=aHL) (aj Ev.gI bq) 6 fun J x=>by kernel_rfl
@[reducible] def aH:Ty:=.pr aA nD
@[reducible] def aC:Ty:=.pr aH (.sl .bool)
@[reducible] def aB:Ty:=.pr (.int .u8) aC
@[reducible] def eN:List Ty:=[.pr (.int .u8) aB,.int .i64]
@[reducible] def ac9:Sh:=shD eD eN
def ada:Env:=(cts [(93,(⟨avG,H8⟩:Ct))])
def adb:List (Nat×Hint):=[(6,⟨[],[0,1,2,3,8,25]⟩)]
@[reducible] def aQ:Ty:=.pr (.int .u8) aB
def ade(g b:Int)(a:List Int)(f d:Int)(c:Bool)(e:List (lU)):St:=⟨[(0,d8 g),(1,d8 b),(2,dW a),(3,dI f),(8,.prw 0 d 35 0),(25,dB c)],42,[],[(0,.row aQ 38 e)],1,[],0⟩
def avH(e d:Int)(g:List Int)(i a:Int)(h:Bool)(b:List (lU)):Option (As eN) :=
 if h=true then zC (at? b a) fun f=>zC (at? (List.set b (zI a) zSl) a) fun c=>zC (at? (List.set b (zI a) zSl) a) fun c=>some (c,2,()) else zC (H8 (g,i,())) fun c=>if nei c.2.1 0=true then zC (at? b a) fun f=>zC (at? (List.set b (zI a) zSl) a) fun j=>zC (at? (List.set b (zI a) zSl) a) fun k=>some (k,c.2.1,()) else zC (at? b a) fun f=>zC (at? (List.set b (zI a) (e,d,(gV c.1),[false,false,false,false,false,false,false,false,false,false,false,false,false,false,false,false])) a) fun j=>zC (at? (List.set b (zI a) (e,d,(gV c.1),[false,false,false,false,false,false,false,false,false,false,false,false,false,false,false,false])) a) fun c=>some (c,0,())
def adf(d:Int->Int->List Int->Int->Int->Bool->List (lU)->Option (As eN))(b a:Int)(c:List Int)(e:Int):Option (As eN) :=
 if lt b 1=true then d b a c e 0 true [zSl] else if gt b 247=true then d b a c e 0 true [zSl] else if lt a 1=true then d b a c e 0 true [zSl] else d b a c e 0 (gt a 2) [zSl]
def adg:=avH
def Mg(x:As eD):Option (As eN):=adf adg x.1 x.2.1 x.2.2.1 x.2.2.2.1
abbrev pE9:=zp ada adb 36 ac9
theorem aHN{J a b c d e f g}:pE9 J 6 [] (ade a b c d e f g)=avH a b c d e f g:=by kernel_rfl
abbrev pE8:=zj ada adb 36 ac9
theorem aHO:C (pE8 6 []) ade=adg:=gNC (by decide) fun _=>aHN
theorem aHP:ak Tryz.prog (fun _=>True) 36 ⟨ac9,Mg⟩:=zcc (env:=ada) (d:=6) (hs:=Ev.get adb) (aj aHM bq) (fun J x=>adf (C (J 6 []) ade) x.1 x.2.1 x.2.2.1 x.2.2.2.1) (fun _ _=>by kernel_rfl) fun _=>by rw[aHO]<;>rfl
@[reducible] def dX:List Ty:=[.pr (.int .u32) qN]
@[reducible] def avI:Sh:=shD dX [.bool]
def aHQ:Env:=(cts [(2000033,Ev.iq),(70,(⟨aok,Dx⟩:Ct)),(142,(⟨GN,xP⟩:Ct))])
@[reducible] def zK2:Type:=Int×List Bool×List (Int×List Int)
def adh(s:zK2):Option aD :=
 zC (xP (s,())) fun y=>need (le 0 y.1) (need (le y.1 8) (zC (Dx (List.take (zI (y.1 - 0)) (List.drop 0 s.2.1),false,())) fun y=>some (!y.1,())))
def QN(x:As dX):Option aD:=adh x.1
theorem aHR:ak Tryz.prog (fun _=>True) 143 ⟨avI,QN⟩:=ctn (env:=aHQ) (aj Ev.gI (aj az9 (aj aor bq))) 6 fun J x=>by kernel_rfl
@[reducible] def cF:List Ty:=[.pr aA nD]
@[reducible] def adi:Sh:=shD cF [.bool]
def aqz:Env:=(cts [(2000035,Ev.iq),(76,(⟨OU,rY⟩:Ct)),(113,(⟨Dy,oU⟩:Ct)),(142,(⟨GN,xP⟩:Ct)),(143,(⟨avI,QN⟩:Ct))])
def aqA:List (Nat×Hint):=[(7,⟨[],[1,40,41,42,45,46,47,48,51,52,53,54,60,61,62,63,64,67,68,69,70,71,72,89,90,91]⟩),(62,⟨[],[1,73,89,90,91]⟩),(58,⟨[],[1,16,17,23,24,25,26,27,28,29,40,41,42,45,46,47,48,51,52,53,54,60,61,62,63,64,67,68,69,70,71,72,89,90,91]⟩),(3737,⟨[.agd 23 (.int .i64),.agd 27 gP,.agd 28 .bool,.agd 29 .bool],[1,16,17,30]⟩),(6,⟨[],[1,13,23,24,25,26,27,28,29,40,41,42,45,46,47,48,51,52,53,54,60,61,62,63,64,67,68,69,70,71,72,89,90,91]⟩)]
def adj(a:iH)(b:Bool):St:=⟨[(1,.pe aH a),(13,dB b)],93,[],[],0,[],0⟩
def H9(a:iH)(b:List Bool)(c:Int):St:=⟨[(1,.pe aH a),(16,.d bP b),(17,dI c)],93,[],[],0,[],0⟩
def adk(a:iH)(b:List Bool)(c:Int)(d:Bool):St:=⟨[(1,.pe aH a),(16,.d bP b),(17,dI c),(30,dB d)],93,[],[],0,[],0⟩
def adl(a:iH):St:=⟨[(1,.pe aH a)],93,[],[],0,[],0⟩
def aqB(a:iH)(b:Bool):St:=⟨[(1,.pe aH a),(73,dB b)],93,[],[],0,[],0⟩
def avJ(b:iH->List Bool->Int->Option aD)(a:iH)(c:Bool):Option aD :=
 if c=true then some (false,()) else b a a.2.2.2.2.2.1.2.1 0
def DY(e:iH->List Bool->Int->Bool->Option aD)(f:iH->Option aD)(g:iH->List Bool->Int->Option aD)(c:iH)(d:List Bool)(a:Int):Option aD :=
 if lt a 8=true then need (lt a 8) (zC (at? d a) fun b=>if b=true then zC (at? c.2.2.2.2.2.1.2.2 a) fun b=>zC (rY (b,())) fun b=>e c d a !b.1 else e c d a false) else f c
def adn(b:iH->List Bool->Int->Option aD)(a:iH)(c:List Bool)(d:Int)(e:Bool):Option aD :=
 if e=true then some (false,()) else b a c (add .i64 d 1)
def ado(b:iH->Bool->Option aD)(a:iH):Option aD :=
 if eqi a.2.2.1 0=true then if (eqi a.2.1.1 0 && (eqi a.2.1.2 0 && true))=true then if eqi a.2.2.2.1 0=true then if eqi a.2.2.2.2.2.1.1 0=true then zC (xP (a.2.2.2.2.2.1,())) fun c=>some (eqi c.1 0,()) else some (false,()) else some (false,()) else some (false,()) else zC (oU (a.2.1,())) fun c=>if c.1=true then b a true else if le a.2.2.2.1 a.2.2.2.2.1=true then b a true else b a (nei a.2.2.2.2.2.1.1 a.2.2.2.1)
def avK(a:iH)(b:Bool):Option aD :=
 if b=true then some (false,()) else if eqi a.2.2.1 1=true then some (ge a.2.1.2 1,()) else if eqi a.2.2.1 2=true then if eqi a.2.1.2 (-1)=true then zC (QN (a.2.2.2.2.2.1,())) fun c=>some (c.1,()) else some (false,()) else some (false,())
def adp(b:iH->Bool->Option aD)(a:iH):Option aD :=
 if nei (zF (zG a.1)) 64=true then b a true else b a (lt a.2.2.2.2.2.2 1)
def Ia(a:iH->List Bool->Int->Option aD):=adn a
def adq:=avK
def AJ:=ado (adq)
def QO(a:iH)(b:List Bool)(c:Int):Option aD :=
 ay (fun e d=>DY (Ia (fun a b c=>e (a,b,c))) (AJ) (fun a b c=>e (a,b,c)) d.1 d.2.1 d.2.2) 18446744073709551616 (a,b,c)
def adr:=avJ (QO)
def ads(x:As cF):Option aD:=adp adr x.1
abbrev pAf:=zp aqz aqA 94 adi
theorem aHS{J w2 a b c d}:pAf J 3737 [w2] (adk a b c d)=adn (C w2 H9) a b c d:=by kernel_rfl
theorem aHT{J a b}:pAf J 62 [] (aqB a b)=avK a b:=by kernel_rfl
theorem aHU{J a}:pAf J 7 [] (adl a)=ado (C (J 62 []) aqB) a:=by kernel_rfl
theorem aHV{J w2 a b c}:pAf J 58 [w2] (H9 a b c)=DY (C (J 3737 [w2]) adk) (C (J 7 []) adl) (C w2 H9) a b c:=by kernel_rfl
theorem aHW{J a b}:pAf J 6 [] (adj a b)=avJ (C (J 58 []) H9) a b:=by kernel_rfl
abbrev pAe:=zj aqz aqA 94 adi
theorem aHX{w2}:C (pAe 3737 [w2]) adk=Ia (C w2 H9):=gNC (by decide) fun _=>aHS
theorem aHY:C (pAe 62 []) aqB=adq:=gNC (by decide) fun _=>aHT
theorem aHZ:C (pAe 7 []) adl=AJ:=gNC (by decide) fun _=>aHU.trans (by rw[aHY]<;>kernel_rfl)
theorem aH0:C (pAe 58 []) H9=QO:=gLC (by decide) (by kernel_rfl) (fun _=>by unfold QO;rfl) fun _ _=>aHV.trans (by rw[aHX,aHZ]<;>kernel_rfl)
theorem aH1:C (pAe 6 []) adj=adr:=gNC (by decide) fun _=>aHW.trans (by rw[aH0]<;>kernel_rfl)
theorem aH2:ak Tryz.prog (fun _=>True) 94 ⟨adi,ads⟩:=zcc (env:=aqz) (d:=6) (hs:=Ev.get aqA) (aj Ev.gI (aj OV (aj GM (aj aor (aj aHR bq))))) (fun J x=>adp (C (J 6 []) adj) x.1) (fun _ _=>by kernel_rfl) fun _=>by rw[aH1]<;>rfl
@[reducible] def bR:List Ty:=[.pr (.int .u8) aB]
@[reducible] def avL:Sh:=shD bR [.bool]
def aH3:Env:=(cts [(2000038,Ev.iq),(91,(⟨atI,OG⟩:Ct)),(94,(⟨adi,ads⟩:Ct))])
def aqC(s:lU):Option aD :=
 zC (OG (s.1,s.2.1,())) fun y=>if y.1=true then zC (ads (s.2.2.1,())) fun y=>if y.1=true then some (eqi (zF (zG s.2.2.2)) 16,()) else some (false,()) else some (false,())
def Ib(x:As bR):Option aD:=aqC x.1
theorem aH4:ak Tryz.prog (fun _=>True) 37 ⟨avL,Ib⟩:=ctn (env:=aH3) (aj Ev.gI (aj atJ (aj aH2 bq))) 6 fun J x=>by kernel_rfl
@[reducible] def fI:List Ty:=[.cl bL]
@[reducible] def Ic:Sh:=shD dX fI
def aqD:Env:=(cts [(2000033,Ev.iq),(4000033,Ev.iq)])
def aqE:List (Nat×Hint):=[(58,⟨[],[1,2,3,4]⟩),(233,⟨[],[1,2,3,4]⟩)]
def Ie(d:zK2)(e b a:Int)(f c:List jT):St:=⟨[(1,.pe bL d),(2,.prw 0 e 25 0),(3,.prw 1 b 25 0),(4,dI a)],44,[],[(0,.row (.cl bL) 33 f),(1,.row (.cl bL) 33 c)],2,[],0⟩
def adt(d:zK2)(e b a:Int)(f c:List jT):St:=⟨[(1,.pe bL d),(2,.prw 0 e 25 0),(3,.prw 1 b 25 0),(4,dI a)],44,[],[(0,.row (.cl bL) 33 f),(1,.row (.cl bL) 33 c)],2,[],0⟩
@[reducible] def eP:Type:=As fI
def QS(l q:Int×List Bool×List (Int×List Int)->Int->Int->Int->List jT->List jT->Option eP)(h:zK2)(g b a:Int)(i f:List jT):Option eP :=
 if lt a 8=true then zC (at? h.2.1 a) fun e=>if e=true then need (ge a 0) (need (lt a 8) (zC (at? f b) fun c=>zC (at? c.2.1 a) fun k=>zC (at? h.2.2 a) fun e=>need (ge a 0) (need (lt a 8) (zC (at? (List.set f (zI b) (c.1,List.set c.2.1 (zI a) true,c.2.2)) b) fun d=>zC (at? d.2.2 a) fun k=>need (ge a 0) (need (lt a 8) (zC (at? (List.set (List.set f (zI b) (c.1,List.set c.2.1 (zI a) true,c.2.2)) (zI b) (d.1,d.2.1,List.set d.2.2 (zI a) (e.1,k.2))) b) fun m=>zC (at? m.2.2 a) fun o=>zC (at? h.2.2 a) fun n=>need (eqi (zF (zG o.2)) 0) (need (small (zG n.2)) (need (ge a 0) (need (lt a 8) (zC (at? (List.set (List.set f (zI b) (c.1,List.set c.2.1 (zI a) true,c.2.2)) (zI b) (d.1,d.2.1,List.set d.2.2 (zI a) (e.1,k.2))) b) fun j=>zC (at? j.2.2 a) fun p=>l h g b a i (List.set (List.set (List.set f (zI b) (c.1,List.set c.2.1 (zI a) true,c.2.2)) (zI b) (d.1,d.2.1,List.set d.2.2 (zI a) (e.1,k.2))) (zI b) (j.1,j.2.1,List.set j.2.2 (zI a) (p.1,n.2))))))))))))) else l h g b a i f else zC (at? f b) fun e=>zC (at? i g) fun c=>zC (at? (List.set i (zI g) e) g) fun m=>zC (at? (List.set i (zI g) e) g) fun e=>some (e,())
def avM(e:Int×List Bool×List (Int×List Int)->Int->Int->Int->List jT->List jT->Option eP)(d:zK2)(f b a:Int)(g c:List jT):Option eP :=
 e d f b (add .i64 a 1) g c
def avN(b:Int×List Bool×List (Int×List Int)->Int->Int->Int->List jT->List jT->Option eP)(a:zK2):Option eP :=
 b a 0 0 0 [zSt] [(a.1,[false,false,false,false,false,false,false,false],[(0,[]),(0,[]),(0,[]),(0,[]),(0,[]),(0,[]),(0,[]),(0,[])])]
def adu(a:Int×List Bool×List (Int×List Int)->Int->Int->Int->List jT->List jT->Option eP):=avM a
def QT(a:zK2)(e c b:Int)(f d:List jT):Option eP :=
 ay (fun g a=>QS (adu (fun a e c b f d=>g (a,e,c,b,f,d))) (fun a e c b f d=>g (a,e,c,b,f,d)) a.1 a.2.1 a.2.2.1 a.2.2.2.1 a.2.2.2.2.1 a.2.2.2.2.2) 18446744073709551616 (a,e,c,b,f,d)
def AL(x:As dX):Option eP:=avN QT x.1
abbrev pEd:=zp aqD aqE 147 Ic
theorem aH5{J w1 a b c d e f}:pEd J 233 [w1] (adt a b c d e f)=avM (C w1 Ie) a b c d e f:=by kernel_rfl
theorem aH6{J w1 a b c d e f}:pEd J 58 [w1] (Ie a b c d e f)=QS (C (J 233 [w1]) adt) (C w1 Ie) a b c d e f:=by kernel_rfl
abbrev pEc:=zj aqD aqE 147 Ic
theorem aH7{w1}:C (pEc 233 [w1]) adt=adu (C w1 Ie):=gNC (by decide) fun _=>aH5
theorem aH8:C (pEc 58 []) Ie=QT:=gLC (by decide) (by kernel_rfl) (fun _=>by unfold QT;rfl) fun _ _=>aH6.trans (by rw[aH7]<;>kernel_rfl)
theorem adv:ak Tryz.prog (fun _=>True) 147 ⟨Ic,AL⟩:=zcc (env:=aqD) (d:=6) (hs:=Ev.get aqE) (aj Ev.gI (aj Ev.gI bq)) (fun J x=>avN (C (J 58 []) Ie) x.1) (fun _ _=>by kernel_rfl) fun _=>by rw[aH8]<;>rfl
@[reducible] def AO:Sh:=shD dX [.sl gP]
def aqF:Env:=(cts [(2000033,Ev.iq),(147,(⟨Ic,AL⟩:Ct))])
def aqG:List (Nat×Hint):=[(122,⟨[.row 3 30],[3,4,5]⟩),(489,⟨[.row 3 30],[3,4,5]⟩)]
def Ig(a c:Int)(d:zK0)(b:List jT):St:=⟨[(3,.row 0),(4,.prw 1 a 25 0),(5,dI c)],24,[],[(0,.row gP 30 d),(1,.row bL 33 b)],2,[],0⟩
def aqH(a c:Int)(d:zK0)(b:List jT):St:=⟨[(3,.row 0),(4,.prw 1 a 25 0),(5,dI c)],24,[],[(0,.row gP 30 d),(1,.row bL 33 b)],2,[],0⟩
@[reducible] def fV:Type:=As [.sl gP]
@[reducible] def zK3:Type:=Int->Int->List (Int×List Int)->List jT->Option fV
def Ih(g h:zK3)(b a:Int)(d:zK0)(c:List jT):Option fV :=
 if lt a 8=true then need (ge a 0) (need (lt a 8) (zC (at? c b) fun e=>zC (at? e.2.1 a) fun f=>if f=true then need (ge a 0) (need (lt a 8) (zC (at? c b) fun e=>zC (at? e.2.2 a) fun f=>need (small (zG d+Nat.succ 0)) (g b a (d++[f]) c))) else g b a d c)) else some (d,())
def avO(e:zK3)(a c:Int)(d:zK0)(b:List jT):Option fV :=
 e a (add .i64 c 1) d b
def adw(a:zK3)(b:zK2):Option fV :=
 zC (AL (b,())) fun c=>a 0 0 [] [c.1]
def adx(a:zK3):=avO a
def Ii(a c:Int)(d:zK0)(b:List jT):Option fV :=
 ay (fun f e=>Ih (adx (fun a c d b=>f (a,c,d,b))) (fun a c d b=>f (a,c,d,b)) e.1 e.2.1 e.2.2.1 e.2.2.2) 18446744073709551616 (a,c,d,b)
def qw(x:As dX):Option fV:=adw Ii x.1
abbrev pEb:=zp aqF aqG 144 AO
theorem aH9{J w1 a b c d}:pEb J 489 [w1] (aqH a b c d)=avO (C w1 Ig) a b c d:=by kernel_rfl
theorem aIa{J w1 a b c d}:pEb J 122 [w1] (Ig a b c d)=Ih (C (J 489 [w1]) aqH) (C w1 Ig) a b c d:=by kernel_rfl
abbrev pEa:=zj aqF aqG 144 AO
theorem aIb{w1}:C (pEa 489 [w1]) aqH=adx (C w1 Ig):=gNC (by decide) fun _=>aH9
theorem aIc:C (pEa 122 []) Ig=Ii:=gLC (by decide) (by kernel_rfl) (fun _=>by unfold Ii;rfl) fun _ _=>aIa.trans (by rw[aIb]<;>kernel_rfl)
theorem QU:ak Tryz.prog (fun _=>True) 144 ⟨AO,qw⟩:=zcc (env:=aqF) (d:=6) (hs:=Ev.get aqG) (aj Ev.gI (aj adv bq)) (fun J x=>adw (C (J 122 []) Ig) x.1) (fun _ _=>by kernel_rfl) fun _=>by rw[aIc]<;>rfl
@[reducible] def vJ:Sh:=⟨[.d gP],[],cG,[.d (.bool)],[],0,[.bool]⟩
def ady:Env:=(cts [])
def adz:List (Nat×Hint):=[(58,⟨[],[1,3]⟩),(6,⟨[],[1,17]⟩)]
def adA(b:Bool)(a:Int×List Int):St:=⟨[(1,.pb 0 0),(17,dB b)],30,[],[(0,.box 30 [dI a.1,dW a.2])],1,[],0⟩
def QV(i:Int)(x:Int×List Int):St:=⟨[(1,.pb 0 0),(3,dI i)],30,[],[(0,.box 30 [dI x.1,dW x.2])],1,[],0⟩
def avP(a:Int->Int×List Int->Option aD)(b:Bool)(c:Int×List Int):Option aD :=
 if b=true then some (false,()) else a 0 c
def DZ(c:Int->Int×List Int->Option aD)(a:Int)(b:Int×List Int):Option aD :=
 if lt a (zF (zG b.2))=true then if gt (add .i64 b.1 a) 63=true then some (false,()) else c (add .i64 a 1) b else some (true,())
def adB(b:Bool->Int×List Int->Option aD)(a:Int×List Int):Option aD :=
 if gt (zF (zG a.2)) 14=true then b true a else if lt a.1 0=true then b true a else b (gt a.1 63) a
def adC(a:Int)(b:Int×List Int):Option aD :=
 ay (fun d c=>DZ (fun a b=>d (a,b)) c.1 c.2) 18446744073709551616 (a,b)
def adD:=avP (adC)
def qO(x:As cG):Option aD:=adB adD x.1
abbrev pDz:=zp ady adz 145 vJ
theorem aId{J w2 i x}:pDz J 58 [w2] (QV i x)=DZ (fun i x=>w2 (QV i x)) i x:=by kernel_rfl
theorem aIe{J t17 x}:pDz J 6 [] (adA t17 x)=avP (fun i x=>J 58 [] (QV i x)) t17 x:=by kernel_rfl
theorem aIf(J:Orc aD)(x:As cG):rfn Tryz.prog ady 6 18446744073709551616 (Ev.get adz) 145 vJ J x=adB (fun t17 x=>J 6 [] (adA t17 x)) x.1:=by kernel_rfl
abbrev pDy:=zj ady adz 145 vJ
theorem aIg(i:Int)(x:Int×List Int):pDy 58 [] (QV i x)=adC i x:=gL (σ:=(Int)×(Int×List Int)) (mk:=fun s=>QV s.1 s.2) (by decide) (by kernel_rfl) (fun w2 s=>aId) (i,x)
theorem aIh(t17:Bool)(x:Int×List Int):pDy 6 [] (adA t17 x)=adD t17 x:=gN (by decide) (aIe.trans (by simp only[aIg];rfl))
theorem aIi(x:As cG):evT Tryz.prog ady 6 18446744073709551616 (Ev.get adz) 145 vJ x=qO x:=by rw[qb_,aIf];simp only[aIh];rfl
theorem QW:ak Tryz.prog (fun _=>True) 145 ⟨vJ,qO⟩:=q7_ bq aIi
@[reducible] def avQ:Sh:=shD bF [.bool]
def adE(l:Int×Int):Option aD :=
 if eqi l.1 0=true then some (eqi l.2 0,()) else if gt l.2 0=true then some (true,()) else some (eqi l.2 (-1),())
def QX(x:As bF):Option aD:=adE x.1
theorem avR:ak Tryz.prog (fun _=>True) 146 ⟨avQ,QX⟩:=ctn bq 6 fun J x=>by kernel_rfl
@[reducible] def adF:Sh:=shD cF [.bool]
def aqI:Env:=(cts [(2000035,Ev.iq),(144,(⟨AO,qw⟩:Ct)),(145,(⟨vJ,qO⟩:Ct)),(146,(⟨avQ,QX⟩:Ct))])
def aqJ:List (Nat×Hint):=[(15,⟨[],[1,3,51,52,53,56,57,58,67,68,69,70,73,74,75,76,77,98,99,100,101,104,105,106,107,108]⟩),(32446,⟨[],[1,98,99,100,101,104,105,106,107,108]⟩),(259570,⟨[],[1,3,5,98,99,100,101,104,105,106,107,108]⟩),(122,⟨[],[1,3,4,51,52,53,56,57,58,67,68,69,70,73,74,75,76,77,98,99,100,101,104,105,106,107,108]⟩),(6,⟨[],[1,22,51,52,53,56,57,58,67,68,69,70,73,74,75,76,77,98,99,100,101,104,105,106,107,108]⟩)]
def adG(a:iH)(b:Bool):St:=⟨[(1,.pe aH a),(22,dB b)],110,[],[],0,[],0⟩
def adH(a:iH)(l:zK0)(i:Int):St:=⟨[(1,.pe aH a),(3,.d (.sl gP) l),(4,dI i)],110,[],[],0,[],0⟩
def adI(a:iH)(l:zK0):St:=⟨[(1,.pe aH a),(3,.d (.sl gP) l)],110,[],[],0,[],0⟩
def adJ(a:iH)(l:zK0)(i:Int):St:=⟨[(1,.pe aH a),(3,.d (.sl gP) l),(5,dI i)],110,[],[],0,[],0⟩
def aqK(a:iH):St:=⟨[(1,.pe aH a)],110,[],[],0,[],0⟩
def adK(b:iH->List (Int×List Int)->Int->Option aD)(a:iH)(c:Bool):Option aD :=
 if c=true then some (false,()) else zC (qw (a.2.2.2.2.2.1,())) fun d=>b a d.1 0
def D3(e:iH->List (Int×List Int)->Option aD)(f:iH->List (Int×List Int)->Int->Option aD)(d:iH)(a:zK0)(b:Int):Option aD :=
 if lt b (zF (zG a))=true then zC (at? a b) fun c=>zC (qO (c,())) fun c=>if (!c.1)=true then some (false,()) else f d a (add .i64 b 1) else e d a
def adL(c:iH->List (Int×List Int)->Int->Option aD)(a:iH)(b:zK0):Option aD :=
 zC (QX (a.2.1,())) fun d=>if (!d.1)=true then some (false,()) else if eqi a.2.2.1 0=true then if eqi a.2.1.1 0=true then if eqi a.2.2.2.1 0=true then some (eqi (zF (zG b)) 0,()) else some (false,()) else some (false,()) else if eqi a.2.2.1 1=true then if nei a.2.1.1 0=true then if gt a.2.1.2 0=true then some (gt a.2.2.2.1 a.2.2.2.2.1,()) else some (false,()) else some (false,()) else if eqi a.2.2.1 2=true then c a b 0 else some (false,())
def D4(d:iH->Option aD)(e:iH->List (Int×List Int)->Int->Option aD)(a:iH)(c:zK0)(b:Int):Option aD :=
 if lt b (zF (zG c))=true then zC (at? a.2.2.2.2.2.1.2.1 b) fun f=>if (!f)=true then some (false,()) else e a c (add .i64 b 1) else d a
def avS(a:iH):Option aD :=
 if nei a.2.1.1 0=true then if eqi a.2.1.2 (-1)=true then some (gt a.2.2.2.1 a.2.2.2.2.1,()) else some (false,()) else some (false,())
def adM(b:iH->Bool->Option aD)(a:iH):Option aD :=
 if nei (zF (zG a.1)) 64=true then b a true else if lt a.2.2.2.2.2.2 1=true then b a true else b a (nei a.2.2.2.1 a.2.2.2.2.2.1.1)
def AP:=avS
def QY(a:iH)(c:zK0)(b:Int):Option aD :=
 ay (fun e d=>D4 (AP) (fun a c b=>e (a,c,b)) d.1 d.2.1 d.2.2) 18446744073709551616 (a,c,b)
def AQ:=adL (QY)
def Ij(a:iH)(c:zK0)(b:Int):Option aD :=
 ay (fun e d=>D3 (AQ) (fun a c b=>e (a,c,b)) d.1 d.2.1 d.2.2) 18446744073709551616 (a,c,b)
def adN:=adK (Ij)
def adO(x:As cF):Option aD:=adM adN x.1
abbrev pEx:=zp aqI aqJ 95 adF
theorem aIj{J a}:pEx J 32446 [] (aqK a)=avS a:=by kernel_rfl
theorem aIk{J w4 a b c}:pEx J 259570 [w4] (adJ a b c)=D4 (C (J 32446 []) aqK) (C w4 adJ) a b c:=by kernel_rfl
theorem aIl{J a b}:pEx J 15 [] (adI a b)=adL (C (J 259570 []) adJ) a b:=by kernel_rfl
theorem aIm{J w2 a b c}:pEx J 122 [w2] (adH a b c)=D3 (C (J 15 []) adI) (C w2 adH) a b c:=by kernel_rfl
theorem aIn{J a b}:pEx J 6 [] (adG a b)=adK (C (J 122 []) adH) a b:=by kernel_rfl
abbrev pEw:=zj aqI aqJ 95 adF
theorem aIo:C (pEw 32446 []) aqK=AP:=gNC (by decide) fun _=>aIj
theorem aIp:C (pEw 259570 []) adJ=QY:=gLC (by decide) (by kernel_rfl) (fun _=>by unfold QY;rfl) fun _ _=>aIk.trans (by rw[aIo]<;>kernel_rfl)
theorem aIq:C (pEw 15 []) adI=AQ:=gNC (by decide) fun _=>aIl.trans (by rw[aIp]<;>kernel_rfl)
theorem aIr:C (pEw 122 []) adH=Ij:=gLC (by decide) (by kernel_rfl) (fun _=>by unfold Ij;rfl) fun _ _=>aIm.trans (by rw[aIq]<;>kernel_rfl)
theorem aIs:C (pEw 6 []) adG=adN:=gNC (by decide) fun _=>aIn.trans (by rw[aIr]<;>kernel_rfl)
theorem aIt:ak Tryz.prog (fun _=>True) 95 ⟨adF,adO⟩:=zcc (env:=aqI) (d:=6) (hs:=Ev.get aqJ) (aj Ev.gI (aj QU (aj QW (aj avR bq)))) (fun J x=>adM (C (J 6 []) adG) x.1) (fun _ _=>by kernel_rfl) fun _=>by rw[aIs]<;>rfl
@[reducible] def avT:Sh:=shD bR [.bool]
def aIu:Env:=(cts [(2000038,Ev.iq),(95,(⟨adF,adO⟩:Ct))])
def adP(s:lU):Option aD :=
 if ge s.1 1=true then if le s.1 247=true then if ge s.2.1 1=true then if le s.2.1 2=true then if eqi (zF (zG s.2.2.2)) 16=true then zC (adO (s.2.2.1,())) fun y=>some (y.1,()) else some (false,()) else some (false,()) else some (false,()) else some (false,()) else some (false,())
def Ik(x:As bR):Option aD:=adP x.1
theorem aIv:ak Tryz.prog (fun _=>True) 38 ⟨avT,Ik⟩:=ctn (env:=aIu) (aj Ev.gI (aj aIt bq)) 6 fun J x=>by kernel_rfl
@[reducible] def QZ:Sh:=shD cF cF
def aIw:Env:=(cts [(1000035,Ev.iq),(147,(⟨Ic,AL⟩:Ct))])
def adQ(a:iH):Option (As cF) :=
 need (small (0+zG a.1)) (zC (AL ((a.2.2.2.2.2.1.1,[zJ a.2.2.2.2.2.1.2.1 0 false,zJ a.2.2.2.2.2.1.2.1 1 false,zJ a.2.2.2.2.2.1.2.1 2 false,zJ a.2.2.2.2.2.1.2.1 3 false,zJ a.2.2.2.2.2.1.2.1 4 false,zJ a.2.2.2.2.2.1.2.1 5 false,zJ a.2.2.2.2.2.1.2.1 6 false,zJ a.2.2.2.2.2.1.2.1 7 false],[zJ a.2.2.2.2.2.1.2.2 0 (0,[]),zJ a.2.2.2.2.2.1.2.2 1 (0,[]),zJ a.2.2.2.2.2.1.2.2 2 (0,[]),zJ a.2.2.2.2.2.1.2.2 3 (0,[]),zJ a.2.2.2.2.2.1.2.2 4 (0,[]),zJ a.2.2.2.2.2.1.2.2 5 (0,[]),zJ a.2.2.2.2.2.1.2.2 6 (0,[]),zJ a.2.2.2.2.2.1.2.2 7 (0,[])]),())) fun y=>some ((a.1,a.2.1,a.2.2.1,a.2.2.2.1,a.2.2.2.2.1,(y.1.1,[zJ y.1.2.1 0 false,zJ y.1.2.1 1 false,zJ y.1.2.1 2 false,zJ y.1.2.1 3 false,zJ y.1.2.1 4 false,zJ y.1.2.1 5 false,zJ y.1.2.1 6 false,zJ y.1.2.1 7 false],[zJ y.1.2.2 0 (0,[]),zJ y.1.2.2 1 (0,[]),zJ y.1.2.2 2 (0,[]),zJ y.1.2.2 3 (0,[]),zJ y.1.2.2 4 (0,[]),zJ y.1.2.2 5 (0,[]),zJ y.1.2.2 6 (0,[]),zJ y.1.2.2 7 (0,[])]),a.2.2.2.2.2.2),()))
def qx(x:As cF):Option (As cF):=adQ x.1
theorem Il:ak Tryz.prog (fun _=>True) 96 ⟨QZ,qx⟩:=ctn (env:=aIw) (aj Ev.gI (aj adv bq)) 6 fun J x=>by kernel_rfl
@[reducible] def Im:Sh:=shD bR bR
def aqL:Env:=(cts [(1000038,Ev.iq),(96,(⟨QZ,qx⟩:Ct))])
def aqM:List (Nat×Hint):=[(3,⟨[],[1,2,3]⟩)]
@[reducible] def zK4:Type:=Int×Int×ac0×Unit
def adR(a:lU)(c:zK4)(b:Int×Int×gq×Unit):St:=⟨[(1,.pb 0 0),(2,.pb 1 0),(3,.pb 2 0)],19,[],[(0,.box 38 [d8 a.1,d8 a.2.1,dW a.2.2.1.1,d6 a.2.2.1.2.1.1,dI a.2.2.1.2.1.2,d8 a.2.2.1.2.2.1,d2 a.2.2.1.2.2.2.1,d2 a.2.2.1.2.2.2.2.1,d2 a.2.2.1.2.2.2.2.2.1.1,dB (zJ a.2.2.1.2.2.2.2.2.1.2.1 0 false),dB (zJ a.2.2.1.2.2.2.2.2.1.2.1 1 false),dB (zJ a.2.2.1.2.2.2.2.2.1.2.1 2 false),dB (zJ a.2.2.1.2.2.2.2.2.1.2.1 3 false),dB (zJ a.2.2.1.2.2.2.2.2.1.2.1 4 false),dB (zJ a.2.2.1.2.2.2.2.2.1.2.1 5 false),dB (zJ a.2.2.1.2.2.2.2.2.1.2.1 6 false),dB (zJ a.2.2.1.2.2.2.2.2.1.2.1 7 false),dI (zJ a.2.2.1.2.2.2.2.2.1.2.2 0 (0,[])).1,dW (zJ a.2.2.1.2.2.2.2.2.1.2.2 0 (0,[])).2,dI (zJ a.2.2.1.2.2.2.2.2.1.2.2 1 (0,[])).1,dW (zJ a.2.2.1.2.2.2.2.2.1.2.2 1 (0,[])).2,dI (zJ a.2.2.1.2.2.2.2.2.1.2.2 2 (0,[])).1,dW (zJ a.2.2.1.2.2.2.2.2.1.2.2 2 (0,[])).2,dI (zJ a.2.2.1.2.2.2.2.2.1.2.2 3 (0,[])).1,dW (zJ a.2.2.1.2.2.2.2.2.1.2.2 3 (0,[])).2,dI (zJ a.2.2.1.2.2.2.2.2.1.2.2 4 (0,[])).1,dW (zJ a.2.2.1.2.2.2.2.2.1.2.2 4 (0,[])).2,dI (zJ a.2.2.1.2.2.2.2.2.1.2.2 5 (0,[])).1,dW (zJ a.2.2.1.2.2.2.2.2.1.2.2 5 (0,[])).2,dI (zJ a.2.2.1.2.2.2.2.2.1.2.2 6 (0,[])).1,dW (zJ a.2.2.1.2.2.2.2.2.1.2.2 6 (0,[])).2,dI (zJ a.2.2.1.2.2.2.2.2.1.2.2 7 (0,[])).1,dW (zJ a.2.2.1.2.2.2.2.2.1.2.2 7 (0,[])).2,dI a.2.2.1.2.2.2.2.2.2,.d (.sl .bool) a.2.2.2]),(1,.box 38 [d8 c.1,d8 c.2.1,.k (zK zH 0 0),d6 c.2.2.1.2.1.1,dI c.2.2.1.2.1.2,d8 c.2.2.1.2.2.1,d2 c.2.2.1.2.2.2.1,d2 c.2.2.1.2.2.2.2.1,d2 c.2.2.1.2.2.2.2.2.1.1,dB (zJ c.2.2.1.2.2.2.2.2.1.2.1 0 false),dB (zJ c.2.2.1.2.2.2.2.2.1.2.1 1 false),dB (zJ c.2.2.1.2.2.2.2.2.1.2.1 2 false),dB (zJ c.2.2.1.2.2.2.2.2.1.2.1 3 false),dB (zJ c.2.2.1.2.2.2.2.2.1.2.1 4 false),dB (zJ c.2.2.1.2.2.2.2.2.1.2.1 5 false),dB (zJ c.2.2.1.2.2.2.2.2.1.2.1 6 false),dB (zJ c.2.2.1.2.2.2.2.2.1.2.1 7 false),dI (zJ c.2.2.1.2.2.2.2.2.1.2.2 0 (0,())).1,.k (zK zH 0 0),dI (zJ c.2.2.1.2.2.2.2.2.1.2.2 1 (0,())).1,.k (zK zH 0 0),dI (zJ c.2.2.1.2.2.2.2.2.1.2.2 2 (0,())).1,.k (zK zH 0 0),dI (zJ c.2.2.1.2.2.2.2.2.1.2.2 3 (0,())).1,.k (zK zH 0 0),dI (zJ c.2.2.1.2.2.2.2.2.1.2.2 4 (0,())).1,.k (zK zH 0 0),dI (zJ c.2.2.1.2.2.2.2.2.1.2.2 5 (0,())).1,.k (zK zH 0 0),dI (zJ c.2.2.1.2.2.2.2.2.1.2.2 6 (0,())).1,.k (zK zH 0 0),dI (zJ c.2.2.1.2.2.2.2.2.1.2.2 7 (0,())).1,.k (zK zH 0 0),dI c.2.2.1.2.2.2.2.2.2,.k (zK zH 0 0)]),(2,.box 38 [d8 b.1,d8 b.2.1,dW b.2.2.1.1,d6 b.2.2.1.2.1.1,dI b.2.2.1.2.1.2,d8 b.2.2.1.2.2.1,d2 b.2.2.1.2.2.2.1,d2 b.2.2.1.2.2.2.2.1,d2 b.2.2.1.2.2.2.2.2.1.1,dB (zJ b.2.2.1.2.2.2.2.2.1.2.1 0 false),dB (zJ b.2.2.1.2.2.2.2.2.1.2.1 1 false),dB (zJ b.2.2.1.2.2.2.2.2.1.2.1 2 false),dB (zJ b.2.2.1.2.2.2.2.2.1.2.1 3 false),dB (zJ b.2.2.1.2.2.2.2.2.1.2.1 4 false),dB (zJ b.2.2.1.2.2.2.2.2.1.2.1 5 false),dB (zJ b.2.2.1.2.2.2.2.2.1.2.1 6 false),dB (zJ b.2.2.1.2.2.2.2.2.1.2.1 7 false),dI (zJ b.2.2.1.2.2.2.2.2.1.2.2 0 (0,[])).1,dW (zJ b.2.2.1.2.2.2.2.2.1.2.2 0 (0,[])).2,dI (zJ b.2.2.1.2.2.2.2.2.1.2.2 1 (0,[])).1,dW (zJ b.2.2.1.2.2.2.2.2.1.2.2 1 (0,[])).2,dI (zJ b.2.2.1.2.2.2.2.2.1.2.2 2 (0,[])).1,dW (zJ b.2.2.1.2.2.2.2.2.1.2.2 2 (0,[])).2,dI (zJ b.2.2.1.2.2.2.2.2.1.2.2 3 (0,[])).1,dW (zJ b.2.2.1.2.2.2.2.2.1.2.2 3 (0,[])).2,dI (zJ b.2.2.1.2.2.2.2.2.1.2.2 4 (0,[])).1,dW (zJ b.2.2.1.2.2.2.2.2.1.2.2 4 (0,[])).2,dI (zJ b.2.2.1.2.2.2.2.2.1.2.2 5 (0,[])).1,dW (zJ b.2.2.1.2.2.2.2.2.1.2.2 5 (0,[])).2,dI (zJ b.2.2.1.2.2.2.2.2.1.2.2 6 (0,[])).1,dW (zJ b.2.2.1.2.2.2.2.2.1.2.2 6 (0,[])).2,dI (zJ b.2.2.1.2.2.2.2.2.1.2.2 7 (0,[])).1,dW (zJ b.2.2.1.2.2.2.2.2.1.2.2 7 (0,[])).2,dI b.2.2.1.2.2.2.2.2.2,.k (zK zH 0 0)])],3,[],0⟩
def adS(b:lU)(c:zK4)(a:Int×Int×gq×Unit):Option (As bR) :=
 need (small (0+zG b.2.2.2)) (some ((a.1,a.2.1,(gV a.2.2.1),b.2.2.2),()))
def adT(c:lU->Int×Int×ac0×Unit->Int×Int×gq×Unit->Option (As bR))(a:lU):Option (As bR) :=
 amb (av Im.rs) [zC (qx ((gV a.2.2.1),())) fun b=>c a (0,0,((),(0,0),0,0,0,(0,[false,false,false,false,false,false,false,false],[(0,()),(0,()),(0,()),(0,()),(0,()),(0,()),(0,()),(0,())]),0),()) (a.1,a.2.1,b.1,()),zC (qx ((gV a.2.2.1),())) fun b=>c a (0,0,((),(0,0),0,0,0,(0,[false,false,false,false,false,false,false,false],[(0,()),(0,()),(0,()),(0,()),(0,()),(0,()),(0,()),(0,())]),0),()) (a.1,a.2.1,b.1,())]
def adU:=adS
def vK(x:As bR):Option (As bR):=adT adU x.1
abbrev pE3:=zp aqL aqM 39 Im
theorem aIx{J a b c}:pE3 J 3 [] (adR a b c)=adS a b c:=by kernel_rfl
abbrev pE2:=zj aqL aqM 39 Im
theorem aIy:C (pE2 3 []) adR=adU:=gNC (by decide) fun _=>aIx
theorem adV:ak Tryz.prog (fun _=>True) 39 ⟨Im,vK⟩:=zcc (env:=aqL) (d:=6) (hs:=Ev.get aqM) (aj Ev.gI (aj Il bq)) (fun J x=>adT (C (J 3 []) adR) x.1) (fun _ _=>by kernel_rfl) fun _=>by rw[aIy]<;>rfl
@[reducible] def Q0:Sh:=⟨[.d aQ],[],bR,[.agg [.d (.int .u8),.d (.int .u8),.d aA,.d (.int .u16),.d (.int .i64),.d (.int .u8),.d (.int .u32),.d (.int .u32),.d (.int .u32),.d (.bool),.d (.bool),.d (.bool),.d (.bool),.d (.bool),.d (.bool),.d (.bool),.d (.bool),.d (.int .i64),.d aA,.d (.int .i64),.d aA,.d (.int .i64),.d aA,.d (.int .i64),.d aA,.d (.int .i64),.d aA,.d (.int .i64),.d aA,.d (.int .i64),.d aA,.d (.int .i64),.d aA,.d (.int .i64),.row 0]],[(0,.row .bool 4)],1,aF⟩
def aqN:Env:=(cts [(1000038,Ev.iq),(96,(⟨QZ,qx⟩:Ct))])
def aqO:List (Nat×Hint):=[(3,⟨[],[1,2,3]⟩)]
def aqP(a:lU)(c:zK4)(b:Int×Int×gq×Unit):St:=⟨[(1,.pb 0 0),(2,.pb 1 0),(3,.pb 2 0)],19,[],[(0,.box 38 [d8 a.1,d8 a.2.1,dW a.2.2.1.1,d6 a.2.2.1.2.1.1,dI a.2.2.1.2.1.2,d8 a.2.2.1.2.2.1,d2 a.2.2.1.2.2.2.1,d2 a.2.2.1.2.2.2.2.1,d2 a.2.2.1.2.2.2.2.2.1.1,dB (zJ a.2.2.1.2.2.2.2.2.1.2.1 0 false),dB (zJ a.2.2.1.2.2.2.2.2.1.2.1 1 false),dB (zJ a.2.2.1.2.2.2.2.2.1.2.1 2 false),dB (zJ a.2.2.1.2.2.2.2.2.1.2.1 3 false),dB (zJ a.2.2.1.2.2.2.2.2.1.2.1 4 false),dB (zJ a.2.2.1.2.2.2.2.2.1.2.1 5 false),dB (zJ a.2.2.1.2.2.2.2.2.1.2.1 6 false),dB (zJ a.2.2.1.2.2.2.2.2.1.2.1 7 false),dI (zJ a.2.2.1.2.2.2.2.2.1.2.2 0 (0,[])).1,dW (zJ a.2.2.1.2.2.2.2.2.1.2.2 0 (0,[])).2,dI (zJ a.2.2.1.2.2.2.2.2.1.2.2 1 (0,[])).1,dW (zJ a.2.2.1.2.2.2.2.2.1.2.2 1 (0,[])).2,dI (zJ a.2.2.1.2.2.2.2.2.1.2.2 2 (0,[])).1,dW (zJ a.2.2.1.2.2.2.2.2.1.2.2 2 (0,[])).2,dI (zJ a.2.2.1.2.2.2.2.2.1.2.2 3 (0,[])).1,dW (zJ a.2.2.1.2.2.2.2.2.1.2.2 3 (0,[])).2,dI (zJ a.2.2.1.2.2.2.2.2.1.2.2 4 (0,[])).1,dW (zJ a.2.2.1.2.2.2.2.2.1.2.2 4 (0,[])).2,dI (zJ a.2.2.1.2.2.2.2.2.1.2.2 5 (0,[])).1,dW (zJ a.2.2.1.2.2.2.2.2.1.2.2 5 (0,[])).2,dI (zJ a.2.2.1.2.2.2.2.2.1.2.2 6 (0,[])).1,dW (zJ a.2.2.1.2.2.2.2.2.1.2.2 6 (0,[])).2,dI (zJ a.2.2.1.2.2.2.2.2.1.2.2 7 (0,[])).1,dW (zJ a.2.2.1.2.2.2.2.2.1.2.2 7 (0,[])).2,dI a.2.2.1.2.2.2.2.2.2,.d (.sl .bool) a.2.2.2]),(1,.box 38 [d8 c.1,d8 c.2.1,.k (zK zH 0 0),d6 c.2.2.1.2.1.1,dI c.2.2.1.2.1.2,d8 c.2.2.1.2.2.1,d2 c.2.2.1.2.2.2.1,d2 c.2.2.1.2.2.2.2.1,d2 c.2.2.1.2.2.2.2.2.1.1,dB (zJ c.2.2.1.2.2.2.2.2.1.2.1 0 false),dB (zJ c.2.2.1.2.2.2.2.2.1.2.1 1 false),dB (zJ c.2.2.1.2.2.2.2.2.1.2.1 2 false),dB (zJ c.2.2.1.2.2.2.2.2.1.2.1 3 false),dB (zJ c.2.2.1.2.2.2.2.2.1.2.1 4 false),dB (zJ c.2.2.1.2.2.2.2.2.1.2.1 5 false),dB (zJ c.2.2.1.2.2.2.2.2.1.2.1 6 false),dB (zJ c.2.2.1.2.2.2.2.2.1.2.1 7 false),dI (zJ c.2.2.1.2.2.2.2.2.1.2.2 0 (0,())).1,.k (zK zH 0 0),dI (zJ c.2.2.1.2.2.2.2.2.1.2.2 1 (0,())).1,.k (zK zH 0 0),dI (zJ c.2.2.1.2.2.2.2.2.1.2.2 2 (0,())).1,.k (zK zH 0 0),dI (zJ c.2.2.1.2.2.2.2.2.1.2.2 3 (0,())).1,.k (zK zH 0 0),dI (zJ c.2.2.1.2.2.2.2.2.1.2.2 4 (0,())).1,.k (zK zH 0 0),dI (zJ c.2.2.1.2.2.2.2.2.1.2.2 5 (0,())).1,.k (zK zH 0 0),dI (zJ c.2.2.1.2.2.2.2.2.1.2.2 6 (0,())).1,.k (zK zH 0 0),dI (zJ c.2.2.1.2.2.2.2.2.1.2.2 7 (0,())).1,.k (zK zH 0 0),dI c.2.2.1.2.2.2.2.2.2,.k (zK zH 0 0)]),(2,.box 38 [d8 b.1,d8 b.2.1,dW b.2.2.1.1,d6 b.2.2.1.2.1.1,dI b.2.2.1.2.1.2,d8 b.2.2.1.2.2.1,d2 b.2.2.1.2.2.2.1,d2 b.2.2.1.2.2.2.2.1,d2 b.2.2.1.2.2.2.2.2.1.1,dB (zJ b.2.2.1.2.2.2.2.2.1.2.1 0 false),dB (zJ b.2.2.1.2.2.2.2.2.1.2.1 1 false),dB (zJ b.2.2.1.2.2.2.2.2.1.2.1 2 false),dB (zJ b.2.2.1.2.2.2.2.2.1.2.1 3 false),dB (zJ b.2.2.1.2.2.2.2.2.1.2.1 4 false),dB (zJ b.2.2.1.2.2.2.2.2.1.2.1 5 false),dB (zJ b.2.2.1.2.2.2.2.2.1.2.1 6 false),dB (zJ b.2.2.1.2.2.2.2.2.1.2.1 7 false),dI (zJ b.2.2.1.2.2.2.2.2.1.2.2 0 (0,[])).1,dW (zJ b.2.2.1.2.2.2.2.2.1.2.2 0 (0,[])).2,dI (zJ b.2.2.1.2.2.2.2.2.1.2.2 1 (0,[])).1,dW (zJ b.2.2.1.2.2.2.2.2.1.2.2 1 (0,[])).2,dI (zJ b.2.2.1.2.2.2.2.2.1.2.2 2 (0,[])).1,dW (zJ b.2.2.1.2.2.2.2.2.1.2.2 2 (0,[])).2,dI (zJ b.2.2.1.2.2.2.2.2.1.2.2 3 (0,[])).1,dW (zJ b.2.2.1.2.2.2.2.2.1.2.2 3 (0,[])).2,dI (zJ b.2.2.1.2.2.2.2.2.1.2.2 4 (0,[])).1,dW (zJ b.2.2.1.2.2.2.2.2.1.2.2 4 (0,[])).2,dI (zJ b.2.2.1.2.2.2.2.2.1.2.2 5 (0,[])).1,dW (zJ b.2.2.1.2.2.2.2.2.1.2.2 5 (0,[])).2,dI (zJ b.2.2.1.2.2.2.2.2.1.2.2 6 (0,[])).1,dW (zJ b.2.2.1.2.2.2.2.2.1.2.2 6 (0,[])).2,dI (zJ b.2.2.1.2.2.2.2.2.1.2.2 7 (0,[])).1,dW (zJ b.2.2.1.2.2.2.2.2.1.2.2 7 (0,[])).2,dI b.2.2.1.2.2.2.2.2.2,.k (zK zH 0 0)])],3,[],0⟩
def adW(b:lU)(c:zK4)(a:Int×Int×gq×Unit):Option (As aF) :=
 need (small (0+zG b.2.2.2)) (some (a.1,a.2.1,a.2.2.1.1,a.2.2.1.2.1.1,a.2.2.1.2.1.2,a.2.2.1.2.2.1,a.2.2.1.2.2.2.1,a.2.2.1.2.2.2.2.1,a.2.2.1.2.2.2.2.2.1.1,zJ a.2.2.1.2.2.2.2.2.1.2.1 0 false,zJ a.2.2.1.2.2.2.2.2.1.2.1 1 false,zJ a.2.2.1.2.2.2.2.2.1.2.1 2 false,zJ a.2.2.1.2.2.2.2.2.1.2.1 3 false,zJ a.2.2.1.2.2.2.2.2.1.2.1 4 false,zJ a.2.2.1.2.2.2.2.2.1.2.1 5 false,zJ a.2.2.1.2.2.2.2.2.1.2.1 6 false,zJ a.2.2.1.2.2.2.2.2.1.2.1 7 false,(zJ a.2.2.1.2.2.2.2.2.1.2.2 0 (0,[])).1,(zJ a.2.2.1.2.2.2.2.2.1.2.2 0 (0,[])).2,(zJ a.2.2.1.2.2.2.2.2.1.2.2 1 (0,[])).1,(zJ a.2.2.1.2.2.2.2.2.1.2.2 1 (0,[])).2,(zJ a.2.2.1.2.2.2.2.2.1.2.2 2 (0,[])).1,(zJ a.2.2.1.2.2.2.2.2.1.2.2 2 (0,[])).2,(zJ a.2.2.1.2.2.2.2.2.1.2.2 3 (0,[])).1,(zJ a.2.2.1.2.2.2.2.2.1.2.2 3 (0,[])).2,(zJ a.2.2.1.2.2.2.2.2.1.2.2 4 (0,[])).1,(zJ a.2.2.1.2.2.2.2.2.1.2.2 4 (0,[])).2,(zJ a.2.2.1.2.2.2.2.2.1.2.2 5 (0,[])).1,(zJ a.2.2.1.2.2.2.2.2.1.2.2 5 (0,[])).2,(zJ a.2.2.1.2.2.2.2.2.1.2.2 6 (0,[])).1,(zJ a.2.2.1.2.2.2.2.2.1.2.2 6 (0,[])).2,(zJ a.2.2.1.2.2.2.2.2.1.2.2 7 (0,[])).1,(zJ a.2.2.1.2.2.2.2.2.1.2.2 7 (0,[])).2,a.2.2.1.2.2.2.2.2.2,b.2.2.2,()))
def adX(c:lU->Int×Int×ac0×Unit->Int×Int×gq×Unit->Option (As aF))(a:lU):Option (As aF) :=
 amb (av Q0.rs) [zC (qx ((gV a.2.2.1),())) fun b=>c a (0,0,((),(0,0),0,0,0,(0,[false,false,false,false,false,false,false,false],[(0,()),(0,()),(0,()),(0,()),(0,()),(0,()),(0,()),(0,())]),0),()) (a.1,a.2.1,b.1,()),zC (qx ((gV a.2.2.1),())) fun b=>c a (0,0,((),(0,0),0,0,0,(0,[false,false,false,false,false,false,false,false],[(0,()),(0,()),(0,()),(0,()),(0,()),(0,()),(0,()),(0,())]),0),()) (a.1,a.2.1,b.1,())]
def aqQ:=adW
def adY(x:As bR):Option (As aF):=adX aqQ x.1
abbrev pE5:=zp aqN aqO 39 Q0
theorem aIz{J a b c}:pE5 J 3 [] (aqP a b c)=adW a b c:=by kernel_rfl
abbrev pE4:=zj aqN aqO 39 Q0
theorem aIA:C (pE4 3 []) aqP=aqQ:=gNC (by decide) fun _=>aIz
theorem aIB:ak Tryz.prog (fun _=>True) 39 ⟨Q0,adY⟩:=zcc (env:=aqN) (d:=6) (hs:=Ev.get aqO) (aj Ev.gI (aj Il bq)) (fun J x=>adX (C (J 3 []) aqP) x.1) (fun _ _=>by kernel_rfl) fun _=>by rw[aIA]<;>rfl
@[reducible] def aIC:Sh:=shD bF bF
def adZ(l:Int×Int):Option (As bF) :=
 zC (QX (l,())) fun y=>if (!y.1)=true then some ((0,0),()) else some (l,())
def ad1(x:As bF):Option (As bF):=adZ x.1
theorem aID:ak Tryz.prog (fun _=>True) 198 ⟨aIC,ad1⟩:=ctn (aj avR bq) 6 fun J x=>by kernel_rfl
@[reducible] def avU:Sh:=shD bF [.bool]
def ad2(l:Int×Int):Option aD :=
 zC (ad1 (l,())) fun y=>some (eqi y.1.1 0,())
def Mh(x:As bF):Option aD:=ad2 x.1
theorem aIE:ak Tryz.prog (fun _=>True) 168 ⟨avU,Mh⟩:=ctn (aj aID bq) 6 fun J x=>by kernel_rfl
@[reducible] def avV:Sh:=shD dX [.int .i64]
def aIF:Env:=(cts [(2000033,Ev.iq),(144,(⟨AO,qw⟩:Ct))])
def Q5(s:zK2):Option bI :=
 zC (qw (s,())) fun y=>some (zF (zG y.1),())
def Q6(x:As dX):Option bI:=Q5 x.1
theorem aIG:ak Tryz.prog (fun _=>True) 169 ⟨avV,Q6⟩:=ctn (env:=aIF) (aj Ev.gI (aj QU bq)) 6 fun J x=>by kernel_rfl
@[reducible] def ad3:Sh:=shD cF aM
def aqR:Env:=(cts [(2000035,Ev.iq),(168,(⟨avU,Mh⟩:Ct)),(169,(⟨avV,Q6⟩:Ct))])
def aqS:List (Nat×Hint):=[(7,⟨[],[1,3]⟩)]
def aqT(a:iH)(b:Int):St:=⟨[(1,.pe aH a),(3,d6 b)],35,[],[],0,[],0⟩
def ad4(a:iH)(b:Int):Option bU :=
 zC (Q6 (a.2.2.2.2.2.1,())) fun c=>some ([b,cvt .u16 a.2.2.1,cvt .u16 (quo .u32 a.2.2.2.1 65536),cvt .u16 (rem a.2.2.2.1 65536),cvt .u16 (quo .u32 a.2.2.2.2.1 65536),cvt .u16 (rem a.2.2.2.2.1 65536),cvt .u16 c.1,0],())
def ad5(b:iH->Int->Option bU)(a:iH):Option bU :=
 zC (Mh (a.2.1,())) fun c=>if c.1=true then b a 0 else b a a.2.1.1
def ad6:=ad4
def ad7(x:As cF):Option bU:=ad5 ad6 x.1
abbrev pE1:=zp aqR aqS 115 ad3
theorem aIH{J a b}:pE1 J 7 [] (aqT a b)=ad4 a b:=by kernel_rfl
abbrev pE0:=zj aqR aqS 115 ad3
theorem aII:C (pE0 7 []) aqT=ad6:=gNC (by decide) fun _=>aIH
theorem aIJ:ak Tryz.prog (fun _=>True) 115 ⟨ad3,ad7⟩:=zcc (env:=aqR) (d:=6) (hs:=Ev.get aqS) (aj Ev.gI (aj aIE (aj aIG bq))) (fun J x=>ad5 (C (J 7 []) aqT) x.1) (fun _ _=>by kernel_rfl) fun _=>by rw[aII]<;>rfl
@[reducible] def Io:Sh:=⟨[.d gP],[],cG,[.d aA],[],0,aM⟩
def ad8:Env:=(cts [(145,(⟨vJ,qO⟩:Ct))])
def ad9:List (Nat×Hint):=[(506,⟨[],[1,3,4]⟩)]
def aea(b:Int)(a:Int×List Int)(c:List Int):St:=⟨[(1,.pb 0 0),(3,.row 1),(4,dI b)],38,[],[(0,.box 30 [dI a.1,dW a.2]),(1,.row (.int .u16) 23 c)],2,[],0⟩
@[reducible] def zK5:Type:=Int->Int×List Int->List Int->Option bU
def Q7(d:zK5)(a:Int)(c:Int×List Int)(b:List Int):Option bU :=
 if lt a (zF (zG c.2))=true then zC (at? c.2 a) fun e=>zC (at? b (add .i64 2 a)) fun f=>zC (at? b (add .i64 2 a)) fun g=>d (add .i64 a 1) c (List.set b (zI (add .i64 2 a)) e) else some (b,())
def aeb(b:zK5)(a:Int×List Int):Option bU :=
 zC (qO (a,())) fun c=>if (!c.1)=true then some ([0,0,0,0,0,0,0,0,0,0,0,0,0,0,0,0],()) else b 0 a [cvt .u16 a.1,cvt .u16 (zF (zG a.2)),0,0,0,0,0,0,0,0,0,0,0,0,0,0]
def Q8(a:Int)(d:Int×List Int)(b:List Int):Option bU :=
 ay (fun e c=>Q7 (fun a d b=>e (a,d,b)) c.1 c.2.1 c.2.2) 18446744073709551616 (a,d,b)
def AR(x:As cG):Option bU:=aeb Q8 x.1
abbrev pEf:=zp ad8 ad9 170 Io
theorem aIK{J w1 a b c}:pEf J 506 [w1] (aea a b c)=Q7 (C w1 aea) a b c:=by kernel_rfl
abbrev pEe:=zj ad8 ad9 170 Io
theorem aIL:C (pEe 506 []) aea=Q8:=gLC (by decide) (by kernel_rfl) (fun _=>by unfold Q8;rfl) fun _ _=>aIK.trans (by kernel_rfl)
theorem aec:ak Tryz.prog (fun _=>True) 170 ⟨Io,AR⟩:=zcc (env:=ad8) (d:=6) (hs:=Ev.get ad9) (aj QW bq) (fun J x=>aeb (C (J 506 []) aea) x.1) (fun _ _=>by kernel_rfl) fun _=>by rw[aIL]<;>rfl
@[reducible] def aed:Sh:=shD [.pr (.int .u32) qN,.int .u16,.int .i64] aM
def aqU:Env:=(cts [(2000033,Ev.iq),(170,(⟨Io,AR⟩:Ct))])
def aqV:List (Nat×Hint):=[(6,⟨[],[1,2,3,20]⟩)]
def aee(b a:Int)(c:zK2)(d:Bool):St:=⟨[(1,d6 b),(2,dI a),(3,.pe bL c),(20,dB d)],41,[],[],0,[],0⟩
def aef(d c:Int)(b:zK2)(e:Bool):Option bU :=
 if e=true then some ([0,0,0,0,0,0,0,0,0,0,0,0,0,0,0,0,0,0,0,0],()) else zC (at? b.2.2 c) fun a=>zC (AR (a,())) fun a=>need (small (Nat.succ (Nat.succ (Nat.succ (Nat.succ 0)))+zG a.1)) (some (d::cvt .u16 (quo .u32 b.1 65536)::cvt .u16 (rem b.1 65536)::cvt .u16 c::a.1,()))
def aeg(c:Int->Int->Int×List Bool×List (Int×List Int)->Bool->Option bU)(b:zK2)(d a:Int):Option bU :=
 if lt a 0=true then c d a b true else if gt a 7=true then c d a b true else zC (at? b.2.1 a) fun e=>c d a b !e
def aeh:=aef
def aei(x:As [.pr (.int .u32) qN,.int .u16,.int .i64]):Option bU:=aeg aeh x.1 x.2.1 x.2.2.1
abbrev pD9:=zp aqU aqV 116 aed
theorem aIM{J a b c d}:pD9 J 6 [] (aee a b c d)=aef a b c d:=by kernel_rfl
abbrev pD8:=zj aqU aqV 116 aed
theorem aIN:C (pD8 6 []) aee=aeh:=gNC (by decide) fun _=>aIM
theorem aIO:ak Tryz.prog (fun _=>True) 116 ⟨aed,aei⟩:=zcc (env:=aqU) (d:=6) (hs:=Ev.get aqV) (aj Ev.gI (aj aec bq)) (fun J x=>aeg (C (J 6 []) aee) x.1 x.2.1 x.2.2.1) (fun _ _=>by kernel_rfl) fun _=>by rw[aIN]<;>rfl
end Go.Proofs.Lx
end
