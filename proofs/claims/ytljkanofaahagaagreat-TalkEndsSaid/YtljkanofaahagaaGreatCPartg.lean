/- Proved in the last of these 15 parts (this is part 7): TalkEnds. Conditions: those of the given statement, and no others. -/
import Derived.Test.YtljkanofaahagaaGreatCPartd
import Derived.Test.YtljkanofaahagaaGreatCPartf
import Derived.Test.YtljkanofaahagaaGreatProg
import Derived.Test.YtljkanofaahagaaGreatCParte
set_option linter.unusedVariables false
set_option linter.unusedSimpArgs false
set_option linter.unusedSectionVars false
open Option renaming bind → zC, none → zH
open List renaming replicate → zE, length → zG
open Int renaming ofNat → zF, toNat → zI
open Go.Value renaming slice → zK
noncomputable section
open Go Go.Proofs Ev Sx
set_option maxRecDepth 100000
namespace Go.Proofs.Lx
abbrev Ah:Type:=Lv×Int×Int×List (Int×List Int)×Int×Int×Int×Int×Int
abbrev jf:Type:=Int×Int×List Bool×List Int×Int×Int
@[reducible] def afj:Sh:=⟨[.d (.sl .bool),.d (.bool)],[],[.sl .bool,.bool],[.d (.int .i64)],[],0,[.int .i64]⟩
def afk:Env:=(cts [])
def afl:List (Nat×Hint):=[(26,⟨[],[0,1,7,8]⟩)]
def U3(s:List Bool)(v:Bool)(t7 t8:Int):St:=⟨[(0,.d (.sl .bool) s),(1,dB v),(7,dI t7),(8,dI t8)],19,[],[],0,[],0⟩
@[reducible] def cG:Type:=As [.int .i64]
def Gm(self1:List Bool->Bool->Int->Int->Option cG)(s:List Bool)(v:Bool)(t7 t8:Int):Option cG :=
 if lt t8 t7=true then zC (at? s t8) fun y=>if Sx.eqb v y=true then some (t8,()) else self1 s v t7 (add .i64 t8 1) else some (-1,())
def U4(j1:List Bool->Bool->Int->Int->Option cG)(s:List Bool)(v:Bool):Option cG :=
 j1 s v (zF (zG s)) 0
def MP(s:List Bool)(v:Bool)(t7 t8:Int):Option cG :=
 bu (fun self s=>Gm (fun s v t7 t8=>self (s,v,t7,t8)) s.1 s.2.1 s.2.2.1 s.2.2.2) 18446744073709551616 (s,v,t7,t8)
def afm(x:As [.sl .bool,.bool]):Option cG:=U4 MP x.1 x.2.1
abbrev pDn:=zp afk afl 241 afj
theorem aAp{J w1 a b c d}:pDn J 26 [w1] (U3 a b c d)=Gm (C w1 U3) a b c d:=by kernel_rfl
abbrev pDm:=zj afk afl 241 afj
theorem aAq:C (pDm 26 []) U3=MP:=gLC (by decide) (by kernel_rfl) (fun _=>by unfold MP;rfl) fun _ _=>aAp.trans (by kernel_rfl)
theorem aAr:ak Tryz.prog (fun _=>True) 241 ⟨afj,afm⟩:=zcc (env:=afk) (d:=6) (hs:=Ev.get afl) av (fun J x=>U4 (C (J 26 []) U3) x.1 x.2.1) (fun _ _=>by kernel_rfl) fun _=>by rw[aAq]<;>rfl
@[reducible] def afn:Sh:=⟨[.d (.sl .bool),.d (.bool)],[],[.sl .bool,.bool],[.d (.bool)],[],0,[.bool]⟩
def afo(s:List Bool)(v:Bool):Option aF :=
 zC (afm (s,v,())) fun y=>some (ge y.1 0,())
def Gn(x:As [.sl .bool,.bool]):Option aF:=afo x.1 x.2.1
theorem apM:ak Tryz.prog (fun _=>True) 199 ⟨afn,Gn⟩:=ctn (aj aAr av) 6 fun J x=>by kernel_rfl
@[reducible] def afp:Sh:=⟨[.d (.int .u8),.d (.int .u8)],[],[.int .u8,.int .u8],[.d aP],[],0,aS⟩
@[reducible] def cP:Type:=As aS
def at6(f except:Int):Option cP :=
 some ((rem f 128,except,[],[],0,0),())
def jI(x:As [.int .u8,.int .u8]):Option cP:=at6 x.1 x.2.1
theorem U5:ak Tryz.prog (fun _=>True) 166 ⟨afp,jI⟩:=ctn av 6 fun J x=>by kernel_rfl
@[reducible] def afq:Sh:=⟨[.d (.sl .bool),.d (.sl .bool)],[],[.sl .bool,.sl .bool],[.d (.bool)],[],0,[.bool]⟩
def afr:Env:=(cts [])
def afs:List (Nat×Hint):=[(58,⟨[],[0,1,12,13]⟩)]
def U6(s1 s2:List Bool)(t12 t13:Int):St:=⟨[(0,.d (.sl .bool) s1),(1,.d (.sl .bool) s2),(12,dI t12),(13,dI t13)],26,[],[],0,[],0⟩
@[reducible] def zG0:Type:=List Bool->List Bool->Int->Int->Option aF
def MQ(self1:zG0)(s1 s2:List Bool)(t12 t13:Int):Option aF :=
 if lt t13 t12=true then zC (at? s1 t13) fun y=>zC (at? s2 t13) fun y_1=>if Sx.neb y y_1=true then some (false,()) else self1 s1 s2 t12 (add .i64 t13 1) else some (true,())
def U7(j1:zG0)(s1 s2:List Bool):Option aF :=
 if nei (zF (zG s1)) (zF (zG s2))=true then some (false,()) else j1 s1 s2 (zF (zG s1)) 0
def MR(s1 s2:List Bool)(t12 t13:Int):Option aF :=
 bu (fun self s=>MQ (fun s1 s2 t12 t13=>self (s1,s2,t12,t13)) s.1 s.2.1 s.2.2.1 s.2.2.2) 18446744073709551616 (s1,s2,t12,t13)
def MS(x:As [.sl .bool,.sl .bool]):Option aF:=U7 MR x.1 x.2.1
abbrev pDh:=zp afr afs 59 afq
theorem at7{J w1 a b c d}:pDh J 58 [w1] (U6 a b c d)=MQ (C w1 U6) a b c d:=by kernel_rfl
abbrev pDg:=zj afr afs 59 afq
theorem aua:C (pDg 58 []) U6=MR:=gLC (by decide) (by kernel_rfl) (fun _=>by unfold MR;rfl) fun _ _=>at7.trans (by kernel_rfl)
theorem aAs:ak Tryz.prog (fun _=>True) 59 ⟨afq,MS⟩:=zcc (env:=afr) (d:=6) (hs:=Ev.get afs) av (fun J x=>U7 (C (J 58 []) U6) x.1 x.2.1) (fun _ _=>by kernel_rfl) fun _=>by rw[aua]<;>rfl
@[reducible] def ame:Sh:=⟨[.d aP,.d aP],[],[.pr (.int .u8) mg,.pr (.int .u8) mg],[.d (.bool)],[],0,[.bool]⟩
def aft(a b:jf):Option aF :=
 if eqi a.1 b.1=true then if eqi a.2.1 b.2.1=true then if eqi a.2.2.2.2.1 b.2.2.2.2.1=true then if eqi a.2.2.2.2.2 b.2.2.2.2.2=true then zC (MS (a.2.2.1,b.2.2.1,())) fun y=>if y.1=true then zC (vJ (a.2.2.2.1,b.2.2.2.1,())) fun y=>some (y.1,()) else some (false,()) else some (false,()) else some (false,()) else some (false,()) else some (false,())
def tZ(x:As [.pr (.int .u8) mg,.pr (.int .u8) mg]):Option aF:=aft x.1 x.2.1
theorem Df:ak Tryz.prog (fun _=>True) 202 ⟨ame,tZ⟩:=ctn (aj aAs (aj aeF av)) 6 fun J x=>by kernel_rfl
@[reducible] def bD:List Ty:=[.un,.pr (.int .u8) mg]
@[reducible] def apN:Sh:=⟨[.d (.un),.d aP],[],bD,[.d (.bool)],[],0,[.bool]⟩
def afu(v:Unit)(r:jf):Option aF :=
 if lt r.1 128=true then if ge r.2.1 1=true then if le r.2.1 4=true then zC (jI (r.1,r.2.1,())) fun y=>zC (tZ (r,y.1,())) fun y=>some (y.1,()) else some (false,()) else some (false,()) else some (false,())
def Dg(x:As bD):Option aF:=afu x.1 x.2.1
theorem afv:ak Tryz.prog (fun _=>True) 318 ⟨apN,Dg⟩:=ctn (aj U5 (aj Df av)) 6 fun J x=>by kernel_rfl
@[reducible] def apO:Sh:=⟨[.d (.un),.d aP],[],bD,[.d (.bool)],[],0,[.bool]⟩
def afw(v:Unit)(r:jf):Option aF :=
 if ge (zF (zG r.2.2.1)) 8=true then if le (zF (zG r.2.2.1)) 2000=true then if eqi (rem (zF (zG r.2.2.1)) 8) 0=true then zC (tZ (r,(r.1,0,r.2.2.1,[],0,0),())) fun y=>some (y.1,()) else some (false,()) else some (false,()) else some (false,())
def vL(x:As bD):Option aF:=afw x.1 x.2.1
theorem afx:ak Tryz.prog (fun _=>True) 321 ⟨apO,vL⟩:=ctn (aj Df av) 6 fun J x=>by kernel_rfl
@[reducible] def apP:Sh:=⟨[.d (.un),.d aP],[],bD,[.d (.bool)],[],0,[.bool]⟩
def afy(v:Unit)(r:jf):Option aF :=
 if ge (zF (zG r.2.2.2.1)) 1=true then if le (zF (zG r.2.2.2.1)) 125=true then zC (tZ (r,(r.1,0,[],r.2.2.2.1,0,0),())) fun y=>some (y.1,()) else some (false,()) else some (false,())
def wK(x:As bD):Option aF:=afy x.1 x.2.1
theorem afz:ak Tryz.prog (fun _=>True) 324 ⟨apP,wK⟩:=ctn (aj Df av) 6 fun J x=>by kernel_rfl
@[reducible] def apQ:Sh:=⟨[.d (.un),.d aP],[],bD,[.d (.bool)],[],0,[.bool]⟩
def afA(v:Unit)(r:jf):Option aF :=
 if eqi (zF (zG r.2.2.1)) 1=true then zC (tZ (r,(r.1,0,r.2.2.1,[],r.2.2.2.2.1,0),())) fun y=>some (y.1,()) else some (false,())
def Dh(x:As bD):Option aF:=afA x.1 x.2.1
theorem afB:ak Tryz.prog (fun _=>True) 329 ⟨apQ,Dh⟩:=ctn (aj Df av) 6 fun J x=>by kernel_rfl
@[reducible] def apR:Sh:=⟨[.d (.un),.d aP],[],bD,[.d (.bool)],[],0,[.bool]⟩
def afC(v:Unit)(r:jf):Option aF :=
 if eqi (zF (zG r.2.2.2.1)) 1=true then zC (tZ (r,(r.1,0,[],r.2.2.2.1,r.2.2.2.2.1,0),())) fun y=>some (y.1,()) else some (false,())
def Di(x:As bD):Option aF:=afC x.1 x.2.1
theorem afD:ak Tryz.prog (fun _=>True) 332 ⟨apR,Di⟩:=ctn (aj Df av) 6 fun J x=>by kernel_rfl
@[reducible] def apS:Sh:=⟨[.d (.wr (.int .u16)),.d aP],[],[.wr (.int .u16),.pr (.int .u8) mg],[.d (.bool)],[],0,[.bool]⟩
def afE(k:Int)(r:jf):Option aF :=
 if ge r.2.2.2.2.2 1=true then if le r.2.2.2.2.2 k=true then zC (tZ (r,(r.1,0,[],[],r.2.2.2.2),())) fun y=>some (y.1,()) else some (false,()) else some (false,())
def vM(x:As [.wr (.int .u16),.pr (.int .u8) mg]):Option aF:=afE x.1 x.2.1
theorem afF:ak Tryz.prog (fun _=>True) 335 ⟨apS,vM⟩:=ctn (aj Df av) 6 fun J x=>by kernel_rfl
@[reducible] def amf:Sh:=⟨[.d aP],[],aS,[.d (.bool)],[],0,[.bool]⟩
def afG(r:jf):Option aF :=
 if nei r.2.1 0=true then zC (Dg ((),r,())) fun y=>some (y.1,()) else if eqi r.1 1=true then zC (vL ((),r,())) fun y=>some (y.1,()) else if eqi r.1 2=true then zC (vL ((),r,())) fun y=>some (y.1,()) else if eqi r.1 3=true then zC (wK ((),r,())) fun y=>some (y.1,()) else if eqi r.1 4=true then zC (wK ((),r,())) fun y=>some (y.1,()) else if eqi r.1 23=true then zC (wK ((),r,())) fun y=>some (y.1,()) else if eqi r.1 5=true then zC (Dh ((),r,())) fun y=>some (y.1,()) else if eqi r.1 6=true then zC (Di ((),r,())) fun y=>some (y.1,()) else if eqi r.1 15=true then zC (vM (1968,r,())) fun y=>some (y.1,()) else if eqi r.1 16=true then zC (vM (123,r,())) fun y=>some (y.1,()) else some (false,())
def U8(x:As aS):Option aF:=afG x.1
theorem aub:ak Tryz.prog (fun _=>True) 200 ⟨amf,U8⟩:=ctn (aj afv (aj afx (aj afz (aj afB (aj afD (aj afF av)))))) 6 fun J x=>by kernel_rfl
@[reducible] def bI:List Ty:=[.pr (.int .u8) mg,.bool]
@[reducible] def Gp:Sh:=⟨[.d bA],[],aW,[.d aP,.d (.bool)],[],0,bI⟩
def afH:Env:=(cts [(105,(⟨C6,tX⟩:Ct))])
def afI:List (Nat×Hint):=[(15,⟨[.rwb 4 2 4,.rwb 4 3 25],[2,4]⟩),(1967,⟨[],[1,2,4,33]⟩)]
def U9(t2 t2_2 t2_3 t2_4 r r_2 r_3 r_4:Int)(o:List Bool)(o_2:List Int):St:=⟨[(2,.pb 0 0),(4,.pb 1 0)],40,[],[(0,.box 109 [d8 t2,d8 t2_2,.k (zK zH 0 0),.k (zK zH 0 0),d6 t2_3,d6 t2_4]),(1,.box 109 [d8 r,d8 r_2,.row 2,.row 3,d6 r_3,d6 r_4]),(2,.row .bool 4 o),(3,.row (.int .u16) 25 o_2)],4,[],0⟩
def afJ(t33:Bool)(a a_2 a_3 a_4:Int)(a_5:List Int)(a_6:List Bool)(t2 t2_2 t2_3 t2_4 r r_2 r_3 r_4:Int):St:=⟨[(1,.pb 0 0),(2,.pb 1 0),(4,.pb 2 0),(33,dB t33)],40,[],[(0,.box 27 [d8 a,d6 a_2,d6 a_3,d6 a_4,dW a_5,.d (.sl .bool) a_6]),(1,.box 109 [d8 t2,d8 t2_2,.k (zK zH 0 0),.k (zK zH 0 0),d6 t2_3,d6 t2_4]),(2,.box 109 [d8 r,d8 r_2,.k (zK zH 0 0),.k (zK zH 0 0),d6 r_3,d6 r_4])],3,[],0⟩
@[reducible] def eD:Type:=As bI
def amg(t2 t2_2 t2_3 t2_4 r r_2 r_3 r_4:Int)(o:List Bool)(o_2:List Int):Option eD :=
 some ((r,r_2,o,o_2,r_3,r_4),true,())
@[reducible] def zG1:Type:=Int->Int->Int->Int->Int->Int->Int->Int->List Bool->List Int->Option eD
def amh(j1:zG1)(t33:Bool)(a a_2 a_3 a_4:Int)(a_5:List Int)(a_6:List Bool)(t2 t2_2 t2_3 t2_4 r r_2 r_3 r_4:Int):Option eD :=
 if t33=true then j1 t2 t2_2 t2_3 t2_4 r r_2 r_3 a_3 [] [] else some ((0,0,[],[],0,0),false,())
def Gq(j1:zG1)(j2:Bool->Int->Int->Int->Int->List Int->List Bool->Int->Int->Int->Int->Int->Int->Int->Int->Option eD)(a:Int×Int×Int×Int×List Int×List Bool):Option eD :=
 zC (tX (a,())) fun y=>if (!y.1)=true then some ((0,0,[],[],0,0),false,()) else if eqi a.1 5=true then zC (at? a.2.2.2.2.2 0) fun y=>j1 0 0 0 0 a.1 0 a.2.1 0 [y] [] else if eqi a.1 6=true then zC (at? a.2.2.2.2.1 0) fun y=>j1 0 0 0 0 a.1 0 a.2.1 0 [] [y] else if eqi a.1 15=true then j2 true a.1 a.2.1 a.2.2.1 a.2.2.2.1 a.2.2.2.2.1 a.2.2.2.2.2 0 0 0 0 a.1 0 a.2.1 0 else j2 (eqi a.1 16) a.1 a.2.1 a.2.2.1 a.2.2.2.1 a.2.2.2.2.1 a.2.2.2.2.2 0 0 0 0 a.1 0 a.2.1 0
def MU:=amg
def Va:=amh (MU)
def uf(x:As aW):Option eD:=Gq MU Va x.1
abbrev pCp:=zp afH afI 201 Gp
theorem auc{J a b c d e f g h i j}:pCp J 15 [] (U9 a b c d e f g h i j)=amg a b c d e f g h i j:=by kernel_rfl
theorem aud{J a b c d e f g h i j k l m n o}:pCp J 1967 [] (afJ a b c d e f g h i j k l m n o)=amh (C (J 15 []) U9) a b c d e f g h i j k l m n o:=by kernel_rfl
abbrev pCo:=zj afH afI 201 Gp
theorem ami:C (pCo 15 []) U9=MU:=gNC (by decide) fun _=>auc
theorem aue:C (pCo 1967 []) afJ=Va:=gNC (by decide) fun _=>aud.trans (by rw[ami]<;>kernel_rfl)
theorem afK:ak Tryz.prog (fun _=>True) 201 ⟨Gp,uf⟩:=zcc (env:=afH) (d:=6) (hs:=Ev.get afI) (aj LJ av) (fun J x=>Gq (C (J 15 []) U9) (C (J 1967 []) afJ) x.1) (fun _ _=>by kernel_rfl) fun _=>by rw[ami,aue]<;>rfl
@[reducible] def Vb:Sh:=⟨[.d bA,.d aP],[],[.pr (.int .u8) jH,.pr (.int .u8) mg],[.d (.bool)],[],0,[.bool]⟩
def afL:Env:=(cts [(105,(⟨C6,tX⟩:Ct)),(199,(⟨afn,Gn⟩:Ct)),(200,(⟨amf,U8⟩:Ct)),(201,(⟨Gp,uf⟩:Ct)),(202,(⟨ame,tZ⟩:Ct))])
def afM:List (Nat×Hint):=[(6,⟨[],[2,3,22,51,52,53,54,55,56]⟩)]
def afN(t22:Bool)(a a_2 a_3 a_4:Int)(a_5:List Int)(a_6:List Bool)(r r_2:Int)(r_3:List Bool)(r_4:List Int)(r_5 r_6:Int):St:=⟨[(2,.pb 0 0),(3,.pb 1 0),(22,dB t22)],63,[],[(0,.box 27 [d8 a,d6 a_2,d6 a_3,d6 a_4,dW a_5,.d (.sl .bool) a_6]),(1,.box 109 [d8 r,d8 r_2,.d (.sl .bool) r_3,dW r_4,d6 r_5,d6 r_6])],2,[],0⟩
def afO(t22:Bool)(a a_2 a_3 a_4:Int)(a_5:List Int)(a_6:List Bool)(r r_2:Int)(r_3:List Bool)(r_4:List Int)(r_5 r_6:Int):Option aF :=
 if t22=true then some (false,()) else if nei r_2 0=true then some (true,()) else zC (uf ((a,a_2,a_3,a_4,a_5,a_6),())) fun y=>if y.2.1=true then zC (tZ (y.1,(r,r_2,r_3,r_4,r_5,r_6),())) fun y=>some (y.1,()) else if gt (zF (zG r_3)) 0=true then if eqi (zF (zG r_3)) (mul .i64 (quo .i64 (add .i64 (cvt .i64 a_3) 7) 8) 8)=true then zC (cut r_3 (cvt .i64 a_3) (zF (zG r_3))) fun y=>zC (Gn (y,true,())) fun y=>some (!y.1,()) else some (false,()) else some (eqi (zF (zG r_4)) (cvt .i64 a_3),())
def Vd(j1:Bool->Int->Int->Int->Int->List Int->List Bool->Int->Int->List Bool->List Int->Int->Int->Option aF)(a:Int×Int×Int×Int×List Int×List Bool)(r:jf):Option aF :=
 zC (tX (a,())) fun y=>if (!y.1)=true then j1 true a.1 a.2.1 a.2.2.1 a.2.2.2.1 a.2.2.2.2.1 a.2.2.2.2.2 r.1 r.2.1 r.2.2.1 r.2.2.2.1 r.2.2.2.2.1 r.2.2.2.2.2 else zC (U8 (r,())) fun y=>if (!y.1)=true then j1 true a.1 a.2.1 a.2.2.1 a.2.2.2.1 a.2.2.2.2.1 a.2.2.2.2.2 r.1 r.2.1 r.2.2.1 r.2.2.2.1 r.2.2.2.2.1 r.2.2.2.2.2 else j1 (nei a.1 r.1) a.1 a.2.1 a.2.2.1 a.2.2.2.1 a.2.2.2.2.1 a.2.2.2.2.2 r.1 r.2.1 r.2.2.1 r.2.2.2.1 r.2.2.2.2.1 r.2.2.2.2.2
def MV:=afO
def MW(x:As [.pr (.int .u8) jH,.pr (.int .u8) mg]):Option aF:=Vd MV x.1 x.2.1
abbrev pCr:=zp afL afM 154 Vb
theorem auf{J a b c d e f g h i j k l m}:pCr J 6 [] (afN a b c d e f g h i j k l m)=afO a b c d e f g h i j k l m:=by kernel_rfl
abbrev pCq:=zj afL afM 154 Vb
theorem aug:C (pCq 6 []) afN=MV:=gNC (by decide) fun _=>auf
theorem auh:ak Tryz.prog (fun _=>True) 154 ⟨Vb,MW⟩:=zcc (env:=afL) (d:=6) (hs:=Ev.get afM) (aj LJ (aj apM (aj aub (aj afK (aj Df av))))) (fun J x=>Vd (C (J 6 []) afN) x.1 x.2.1) (fun _ _=>by kernel_rfl) fun _=>by rw[aug]<;>rfl
@[reducible] def afP:Sh:=⟨[.d aJ,.d aJ],[],[.sl (.int .u8),.sl (.int .u8)],[.d (.bool)],[],0,[.bool]⟩
def aui(a b:List Int):Option aF :=
 some (eqs (Sx.toS a) (Sx.toS b),())
def nI(x:As [.sl (.int .u8),.sl (.int .u8)]):Option aF:=aui x.1 x.2.1
theorem amj:ak Tryz.prog (fun _=>True) 112 ⟨afP,nI⟩:=ctn av 6 fun J x=>by kernel_rfl
@[reducible] def cR:List Ty:=[.un,.sl (.int .u8)]
@[reducible] def apT:Sh:=⟨[.d (.un),.d aJ],[],cR,[.d aP],[],0,aS⟩
def aAt(v:Unit)(b:List Int):Option cP :=
 zC (at? b 0) fun y=>zC (at? b 1) fun y_1=>zC (jI (y,y_1,())) fun y=>some (y.1,())
def Ve(x:As cR):Option cP:=aAt x.1 x.2.1
theorem aAu:ak Tryz.prog (fun _=>True) 317 ⟨apT,Ve⟩:=ctn (aj U5 av) 6 fun J x=>by kernel_rfl
@[reducible] def apU:Sh:=⟨[.d (.un),.d aP],[],bD,[.d aJ],[],0,aI⟩
def aAv(v:Unit)(r:jf):Option bT :=
 some ([add .u8 r.1 128,r.2.1],())
def Gr(x:As bD):Option bT:=aAv x.1 x.2.1
theorem apV:ak Tryz.prog (fun _=>True) 319 ⟨apU,Gr⟩:=ctn av 6 fun J x=>by kernel_rfl
@[reducible] def Vf:Sh:=⟨[.d aJ],[],aI,[.d (.sl .bool)],[],0,[.sl .bool]⟩
def afQ:Env:=(cts [])
def afR:List (Nat×Hint):=[(58,⟨[],[0,3,10,11]⟩)]
def Vg(b:List Int)(t10 t11:Int)(out:List Bool):St:=⟨[(0,dL b),(3,.row 0),(10,dI t10),(11,dI t11)],29,[],[(0,.row .bool 4 out)],1,[],0⟩
@[reducible] def zG2:Type:=List Int->Int->Int->List Bool->Option cX
def MX(self1:zG2)(b:List Int)(t10 t11:Int)(out:List Bool):Option cX :=
 if lt t11 t10=true then zC (at? b (quo .i64 t11 8)) fun y=>need (ge (rem t11 8) 0) (zC (at? out t11) fun x=>zC (at? out t11) fun x=>self1 b t10 (add .i64 t11 1) (List.set out (zI t11) (eqi (Sx.lJ .u8 (Sx.shr .u8 y (rem t11 8)) 1) 1))) else some (out,())
def Vh(j1:zG2)(b:List Int):Option cX :=
 need (ge (mul .i64 8 (zF (zG b))) 0) (need (Ev.iX (mul .i64 8 (zF (zG b))) (mul .i64 8 (zF (zG b)))) (need (small (zI (mul .i64 8 (zF (zG b))))) (j1 b (zF (zG (zE (zI (mul .i64 8 (zF (zG b)))) false))) 0 (zE (zI (mul .i64 8 (zF (zG b)))) false))))
def MY(b:List Int)(t10 t11:Int)(out:List Bool):Option cX :=
 bu (fun self s=>MX (fun b t10 t11 out=>self (b,t10,t11,out)) s.1 s.2.1 s.2.2.1 s.2.2.2) 18446744073709551616 (b,t10,t11,out)
def Gs(x:As aI):Option cX:=Vh MY x.1
abbrev pAv:=zp afQ afR 288 Vf
theorem auj{J w1 a b c d}:pAv J 58 [w1] (Vg a b c d)=MX (C w1 Vg) a b c d:=by kernel_rfl
abbrev pAu:=zj afQ afR 288 Vf
theorem auk:C (pAu 58 []) Vg=MY:=gLC (by decide) (by kernel_rfl) (fun _=>by unfold MY;rfl) fun _ _=>auj.trans (by kernel_rfl)
theorem amk:ak Tryz.prog (fun _=>True) 288 ⟨Vf,Gs⟩:=zcc (env:=afQ) (d:=6) (hs:=Ev.get afR) av (fun J x=>Vh (C (J 58 []) Vg) x.1) (fun _ _=>by kernel_rfl) fun _=>by rw[auk]<;>rfl
@[reducible] def apW:Sh:=⟨[.d (.un),.d aJ],[],cR,[.d aP],[],0,aS⟩
def afS(v:Unit)(b:List Int):Option cP :=
 zC (at? b 0) fun y=>zC (cut b 2 (zF (zG b))) fun y_1=>zC (Gs (y_1,())) fun y_2=>some ((y,0,y_2.1,[],0,0),())
def MZ(x:As cR):Option cP:=afS x.1 x.2.1
theorem aAw:ak Tryz.prog (fun _=>True) 320 ⟨apW,MZ⟩:=ctn (aj amk av) 6 fun J x=>by kernel_rfl
@[reducible] def apX:Sh:=⟨[.d (.un),.d aP],[],bD,[.d aJ],[],0,aI⟩
def afT(v:Unit)(r:jf):Option bT :=
 zC (F6 (r.2.2.1,())) fun y=>need (small (Nat.succ (Nat.succ 0)+zG y.1)) (some (r.1::cvt .u8 (zF (zG y.1))::y.1,()))
def Ai(x:As bD):Option bT:=afT x.1 x.2.1
theorem apY:ak Tryz.prog (fun _=>True) 322 ⟨apX,Ai⟩:=ctn (aj alx av) 6 fun J x=>by kernel_rfl
@[reducible] def afU:Sh:=⟨[.d aJ],[],aI,[.d aC],[],0,aK⟩
def afV:Env:=(cts [])
def afW:List (Nat×Hint):=[(58,⟨[],[0,3,10,11]⟩)]
def Vi(b:List Int)(t10 t11:Int)(l:List Int):St:=⟨[(0,dL b),(3,.row 0),(10,dI t10),(11,dI t11)],34,[],[(0,.row (.int .u16) 25 l)],1,[],0⟩
@[reducible] def zG3:Type:=List Int->Int->Int->List Int->Option bK
def M0(self1:zG3)(b:List Int)(t10 t11:Int)(l:List Int):Option bK :=
 if lt t11 t10=true then zC (at? b (mul .i64 2 t11)) fun y=>zC (at? b (add .i64 (mul .i64 2 t11) 1)) fun y_1=>zC (at? l t11) fun x=>zC (at? l t11) fun x=>self1 b t10 (add .i64 t11 1) (List.set l (zI t11) (Sx.bor .u16 (Sx.shl .u16 (cvt .u16 y) 8) (cvt .u16 y_1))) else some (l,())
def Vj(j1:zG3)(b:List Int):Option bK :=
 need (ge (quo .i64 (zF (zG b)) 2) 0) (need (Ev.iX (quo .i64 (zF (zG b)) 2) (quo .i64 (zF (zG b)) 2)) (need (small (zI (quo .i64 (zF (zG b)) 2))) (j1 b (zF (zG (zE (α:=Int) (zI (quo .i64 (zF (zG b)) 2)) 0))) 0 (zE (zI (quo .i64 (zF (zG b)) 2)) 0))))
def M3(b:List Int)(t10 t11:Int)(l:List Int):Option bK :=
 bu (fun self s=>M0 (fun b t10 t11 l=>self (b,t10,t11,l)) s.1 s.2.1 s.2.2.1 s.2.2.2) 18446744073709551616 (b,t10,t11,l)
def Gu(x:As aI):Option bK:=Vj M3 x.1
abbrev pCv:=zp afV afW 326 afU
theorem aul{J w1 a b c d}:pCv J 58 [w1] (Vi a b c d)=M0 (C w1 Vi) a b c d:=by kernel_rfl
abbrev pCu:=zj afV afW 326 afU
theorem aum:C (pCu 58 []) Vi=M3:=gLC (by decide) (by kernel_rfl) (fun _=>by unfold M3;rfl) fun _ _=>aul.trans (by kernel_rfl)
theorem Vk:ak Tryz.prog (fun _=>True) 326 ⟨afU,Gu⟩:=zcc (env:=afV) (d:=6) (hs:=Ev.get afW) av (fun J x=>Vj (C (J 58 []) Vi) x.1) (fun _ _=>by kernel_rfl) fun _=>by rw[aum]<;>rfl
@[reducible] def apZ:Sh:=⟨[.d (.un),.d aJ],[],cR,[.d aP],[],0,aS⟩
def afX(v:Unit)(b:List Int):Option cP :=
 zC (at? b 0) fun y=>zC (cut b 2 (zF (zG b))) fun y_1=>zC (Gu (y_1,())) fun y_2=>some ((y,0,[],y_2.1,0,0),())
def Gv(x:As cR):Option cP:=afX x.1 x.2.1
theorem aAx:ak Tryz.prog (fun _=>True) 323 ⟨apZ,Gv⟩:=ctn (aj Vk av) 6 fun J x=>by kernel_rfl
@[reducible] def Vm:Sh:=⟨[.row 0,.d aC],[.row (.int .u8) 5],dY,[.row 1],[(1,.row (.int .u8) 5)],1,aI⟩
def afY:Env:=(cts [])
def afZ:List (Nat×Hint):=[(26,⟨[.unl 0],[0,7,8,9]⟩)]
def Vn(t7:List Int)(t8 t9:Int)(out:List Int):St:=⟨[(0,.row 1),(7,dW t7),(8,dI t8),(9,dI t9)],23,[],[(1,.row (.int .u8) 5 out)],2,[],1⟩
@[reducible] def zG4:Type:=List Int->Int->Int->List Int->Option bT
def M4(self1:zG4)(t7:List Int)(t8 t9:Int)(out:List Int):Option bT :=
 if lt t9 t8=true then zC (at? t7 t9) fun y=>need (small (zG out+Nat.succ (Nat.succ 0))) (self1 t7 t8 (add .i64 t9 1) (out++[cvt .u8 (Sx.shr .u16 y 8),cvt .u8 y])) else some (out,())
def Vo(j1:zG4)(out l:List Int):Option bT :=
 j1 out (zF (zG out)) 0 l
def M5(t7:List Int)(t8 t9:Int)(out:List Int):Option bT :=
 bu (fun self s=>M4 (fun t7 t8 t9 out=>self (t7,t8,t9,out)) s.1 s.2.1 s.2.2.1 s.2.2.2) 18446744073709551616 (t7,t8,t9,out)
def Aj(x:As dY):Option bT:=Vo M5 x.1 x.2.1
abbrev pCx:=zp afY afZ 327 Vm
theorem aun{J w1 a b c d}:pCx J 26 [w1] (Vn a b c d)=M4 (C w1 Vn) a b c d:=by kernel_rfl
abbrev pCw:=zj afY afZ 327 Vm
theorem auo:C (pCw 26 []) Vn=M5:=gLC (by decide) (by kernel_rfl) (fun _=>by unfold M5;rfl) fun _ _=>aun.trans (by kernel_rfl)
theorem Vp:ak Tryz.prog (fun _=>True) 327 ⟨Vm,Aj⟩:=zcc (env:=afY) (d:=6) (hs:=Ev.get afZ) av (fun J x=>Vo (C (J 26 []) Vn) x.1 x.2.1) (fun _ _=>by kernel_rfl) fun _=>by rw[auo]<;>rfl
@[reducible] def ap0:Sh:=⟨[.d (.un),.d aP],[],bD,[.d aJ],[],0,aI⟩
def af0(v:Unit)(r:jf):Option bT :=
 zC (Aj (r.2.2.2.1,[r.1,cvt .u8 (mul .i64 2 (zF (zG r.2.2.2.1)))],())) fun y=>some (y.1,())
def vN(x:As bD):Option bT:=af0 x.1 x.2.1
theorem ap1:ak Tryz.prog (fun _=>True) 325 ⟨ap0,vN⟩:=ctn (aj Vp av) 6 fun J x=>by kernel_rfl
@[reducible] def ap2:Sh:=⟨[.d (.un),.d aJ],[],cR,[.d aP],[],0,aS⟩
def af2(v:Unit)(b:List Int):Option cP :=
 zC (cut b 1 (zF (zG b))) fun y=>zC (Gu (y,())) fun y=>if lt (zF (zG y.1)) 2=true then some ((0,0,[],[],0,0),()) else zC (at? b 0) fun y_1=>zC (at? y.1 0) fun y_2=>zC (at? y.1 1) fun y=>some ((y_1,0,[eqi y 65280],[],y_2,0),())
def Vq(x:As cR):Option cP:=af2 x.1 x.2.1
theorem aup:ak Tryz.prog (fun _=>True) 328 ⟨ap2,Vq⟩:=ctn (aj Vk av) 6 fun J x=>by kernel_rfl
@[reducible] def Vr:Sh:=⟨[.d (.un),.d aP],[],bD,[.d aJ],[],0,aI⟩
def af3:Env:=(cts [(327,(⟨Vm,Aj⟩:Ct))])
def af4:List (Nat×Hint):=[(7,⟨[],[3,5]⟩)]
def af5(x r r_2:Int)(r_3:List Bool)(r_4:List Int)(r_5 r_6:Int):St:=⟨[(3,.pb 0 0),(5,d6 x)],18,[],[(0,.box 109 [d8 r,d8 r_2,.d (.sl .bool) r_3,dW r_4,d6 r_5,d6 r_6])],1,[],0⟩
def af6(x r r_2:Int)(r_3:List Bool)(r_4:List Int)(r_5 r_6:Int):Option bT :=
 zC (Aj ([r_5,x],[r],())) fun y=>some (y.1,())
def Vs(j1:Int->Int->Int->List Bool->List Int->Int->Int->Option bT)(v:Unit)(r:jf):Option bT :=
 zC (at? r.2.2.1 0) fun y=>if y=true then j1 65280 r.1 r.2.1 r.2.2.1 r.2.2.2.1 r.2.2.2.2.1 r.2.2.2.2.2 else j1 0 r.1 r.2.1 r.2.2.1 r.2.2.2.1 r.2.2.2.2.1 r.2.2.2.2.2
def M6:=af6
def Gw(x:As bD):Option bT:=Vs M6 x.1 x.2.1
abbrev pCz:=zp af3 af4 330 Vr
theorem aAy{J a b c d e f g}:pCz J 7 [] (af5 a b c d e f g)=af6 a b c d e f g:=by kernel_rfl
abbrev pCy:=zj af3 af4 330 Vr
theorem aAz:C (pCy 7 []) af5=M6:=gNC (by decide) fun _=>aAy
theorem ap3:ak Tryz.prog (fun _=>True) 330 ⟨Vr,Gw⟩:=zcc (env:=af3) (d:=6) (hs:=Ev.get af4) (aj Vp av) (fun J x=>Vs (C (J 7 []) af5) x.1 x.2.1) (fun _ _=>by kernel_rfl) fun _=>by rw[aAz]<;>rfl
@[reducible] def ap4:Sh:=⟨[.d (.un),.d aJ],[],cR,[.d aP],[],0,aS⟩
def af7(v:Unit)(b:List Int):Option cP :=
 zC (cut b 1 (zF (zG b))) fun y=>zC (Gu (y,())) fun y=>if lt (zF (zG y.1)) 2=true then some ((0,0,[],[],0,0),()) else zC (at? b 0) fun y_1=>zC (at? y.1 0) fun y_2=>zC (at? y.1 1) fun y=>some ((y_1,0,[],[y],y_2,0),())
def Vt(x:As cR):Option cP:=af7 x.1 x.2.1
theorem aAA:ak Tryz.prog (fun _=>True) 331 ⟨ap4,Vt⟩:=ctn (aj Vk av) 6 fun J x=>by kernel_rfl
@[reducible] def af8:Sh:=⟨[.d (.un),.d aP],[],bD,[.d aJ],[],0,aI⟩
def af9(v:Unit)(r:jf):Option bT :=
 zC (at? r.2.2.2.1 0) fun y=>amb (au af8.rs) [zC (Aj ([r.2.2.2.2.1,y],[r.1],())) fun y=>some (y.1,()),zC (Aj ([r.2.2.2.2.1,y],[r.1],())) fun y=>some (y.1,())]
def Gx(x:As bD):Option bT:=af9 x.1 x.2.1
theorem ap5:ak Tryz.prog (fun _=>True) 333 ⟨af8,Gx⟩:=ctn (aj Vp av) 6 fun J x=>by kernel_rfl
@[reducible] def ap6:Sh:=⟨[.d (.wr (.int .u16)),.d aJ],[],[.wr (.int .u16),.sl (.int .u8)],[.d aP],[],0,aS⟩
def aga(v:Int)(b:List Int):Option cP :=
 zC (cut b 1 (zF (zG b))) fun y=>zC (Gu (y,())) fun y=>if lt (zF (zG y.1)) 2=true then some ((0,0,[],[],0,0),()) else zC (at? b 0) fun y_1=>zC (at? y.1 0) fun y_2=>zC (at? y.1 1) fun y=>some ((y_1,0,[],[],y_2,y),())
def M7(x:As [.wr (.int .u16),.sl (.int .u8)]):Option cP:=aga x.1 x.2.1
theorem auq:ak Tryz.prog (fun _=>True) 334 ⟨ap6,M7⟩:=ctn (aj Vk av) 6 fun J x=>by kernel_rfl
@[reducible] def ap7:Sh:=⟨[.d (.wr (.int .u16)),.d aP],[],[.wr (.int .u16),.pr (.int .u8) mg],[.d aJ],[],0,aI⟩
def agb(v:Int)(r:jf):Option bT :=
 zC (Aj ([r.2.2.2.2.1,r.2.2.2.2.2],[r.1],())) fun y=>some (y.1,())
def Ak(x:As [.wr (.int .u16),.pr (.int .u8) mg]):Option bT:=agb x.1 x.2.1
theorem ap8:ak Tryz.prog (fun _=>True) 336 ⟨ap7,Ak⟩:=ctn (aj Vp av) 6 fun J x=>by kernel_rfl
@[reducible] def cL:List Ty:=[.pr (.int .u8) mg,.int .i64]
@[reducible] def Vu:Sh:=⟨[.d aJ],[],aI,[.d aP,.d (.int .i64)],[],0,cL⟩
def agc:Env:=(cts [(112,(⟨afP,nI⟩:Ct)),(317,(⟨apT,Ve⟩:Ct)),(318,(⟨apN,Dg⟩:Ct)),(319,(⟨apU,Gr⟩:Ct)),(320,(⟨apW,MZ⟩:Ct)),(321,(⟨apO,vL⟩:Ct)),(322,(⟨apX,Ai⟩:Ct)),(323,(⟨apZ,Gv⟩:Ct)),(324,(⟨apP,wK⟩:Ct)),(325,(⟨ap0,vN⟩:Ct)),(328,(⟨ap2,Vq⟩:Ct)),(329,(⟨apQ,Dh⟩:Ct)),(330,(⟨Vr,Gw⟩:Ct)),(331,(⟨ap4,Vt⟩:Ct)),(332,(⟨apR,Di⟩:Ct)),(333,(⟨af8,Gx⟩:Ct)),(334,(⟨ap6,M7⟩:Ct)),(335,(⟨apS,vM⟩:Ct)),(336,(⟨ap7,Ak⟩:Ct))])
def age:List (Nat×Hint):=[(6,⟨[],[0,2,15,42,43,44,45,46,47]⟩)]
def agf(b:List Int)(t15:Bool)(t2 t2_2 t2_3 t2_4:Int):St:=⟨[(0,dL b),(2,.pb 0 0),(15,dB t15)],51,[],[(0,.box 109 [d8 t2,d8 t2_2,.k (zK zH 0 0),.k (zK zH 0 0),d6 t2_3,d6 t2_4])],1,[],0⟩
def agh(b:List Int)(t15:Bool)(t2 t2_2 t2_3 t2_4:Int):Option (As cL) :=
 if t15=true then some ((0,0,[],[],0,0),13,()) else zC (at? b 0) fun y=>if lt y 128=true then zC (at? b 0) fun y=>if eqi y 1=true then zC (MZ ((),b,())) fun y=>zC (vL ((),y.1,())) fun y_1=>if (!y_1.1)=true then some ((0,0,[],[],0,0),13,()) else zC (Ai ((),y.1,())) fun y_2=>zC (nI (y_2.1,b,())) fun y_3=>if (!y_3.1)=true then some ((0,0,[],[],0,0),13,()) else some (y.1,0,()) else if eqi y 2=true then zC (MZ ((),b,())) fun y=>zC (vL ((),y.1,())) fun y_1=>if (!y_1.1)=true then some ((0,0,[],[],0,0),13,()) else zC (Ai ((),y.1,())) fun y_2=>zC (nI (y_2.1,b,())) fun y_3=>if (!y_3.1)=true then some ((0,0,[],[],0,0),13,()) else some (y.1,0,()) else if eqi y 3=true then zC (Gv ((),b,())) fun y=>zC (wK ((),y.1,())) fun y_1=>if (!y_1.1)=true then some ((0,0,[],[],0,0),13,()) else zC (vN ((),y.1,())) fun y_2=>zC (nI (y_2.1,b,())) fun y_3=>if (!y_3.1)=true then some ((0,0,[],[],0,0),13,()) else some (y.1,0,()) else if eqi y 4=true then zC (Gv ((),b,())) fun y=>zC (wK ((),y.1,())) fun y_1=>if (!y_1.1)=true then some ((0,0,[],[],0,0),13,()) else zC (vN ((),y.1,())) fun y_2=>zC (nI (y_2.1,b,())) fun y_3=>if (!y_3.1)=true then some ((0,0,[],[],0,0),13,()) else some (y.1,0,()) else if eqi y 23=true then zC (Gv ((),b,())) fun y=>zC (wK ((),y.1,())) fun y_1=>if (!y_1.1)=true then some ((0,0,[],[],0,0),13,()) else zC (vN ((),y.1,())) fun y_2=>zC (nI (y_2.1,b,())) fun y_3=>if (!y_3.1)=true then some ((0,0,[],[],0,0),13,()) else some (y.1,0,()) else if eqi y 5=true then zC (Vq ((),b,())) fun y=>zC (Dh ((),y.1,())) fun y_1=>if (!y_1.1)=true then some ((0,0,[],[],0,0),13,()) else zC (Gw ((),y.1,())) fun y_2=>zC (nI (y_2.1,b,())) fun y_3=>if (!y_3.1)=true then some ((0,0,[],[],0,0),13,()) else some (y.1,0,()) else if eqi y 6=true then zC (Vt ((),b,())) fun y=>zC (Di ((),y.1,())) fun y_1=>if (!y_1.1)=true then some ((0,0,[],[],0,0),13,()) else zC (Gx ((),y.1,())) fun y_2=>zC (nI (y_2.1,b,())) fun y_3=>if (!y_3.1)=true then some ((0,0,[],[],0,0),13,()) else some (y.1,0,()) else if eqi y 15=true then zC (M7 (1968,b,())) fun y=>zC (vM (1968,y.1,())) fun y_1=>if (!y_1.1)=true then some ((0,0,[],[],0,0),13,()) else zC (Ak (1968,y.1,())) fun y_2=>zC (nI (y_2.1,b,())) fun y_3=>if (!y_3.1)=true then some ((0,0,[],[],0,0),13,()) else some (y.1,0,()) else if eqi y 16=true then zC (M7 (123,b,())) fun y=>zC (vM (123,y.1,())) fun y_1=>if (!y_1.1)=true then some ((0,0,[],[],0,0),13,()) else zC (Ak (123,y.1,())) fun y_2=>zC (nI (y_2.1,b,())) fun y_3=>if (!y_3.1)=true then some ((0,0,[],[],0,0),13,()) else some (y.1,0,()) else some ((0,0,[],[],0,0),13,()) else zC (Ve ((),b,())) fun y=>zC (Dg ((),y.1,())) fun y_1=>if (!y_1.1)=true then some ((0,0,[],[],0,0),13,()) else zC (Gr ((),y.1,())) fun y_2=>zC (nI (y_2.1,b,())) fun y_3=>if (!y_3.1)=true then some ((0,0,[],[],0,0),13,()) else some (y.1,0,())
def Vv(j1:List Int->Bool->Int->Int->Int->Int->Option (As cL))(b:List Int):Option (As cL) :=
 if lt (zF (zG b)) 2=true then j1 b true 0 0 0 0 else j1 b (gt (zF (zG b)) 253) 0 0 0 0
def Vw:=agh
def Gy(x:As aI):Option (As cL):=Vv Vw x.1
abbrev pCt:=zp agc age 53 Vu
theorem aur{J a b c d e f}:pCt J 6 [] (agf a b c d e f)=agh a b c d e f:=by kernel_rfl
abbrev pCs:=zj agc age 53 Vu
theorem aus:C (pCs 6 []) agf=Vw:=gNC (by decide) fun _=>aur
theorem ap9:ak Tryz.prog (fun _=>True) 53 ⟨Vu,Gy⟩:=zcc (env:=agc) (d:=6) (hs:=Ev.get age) (aj amj (aj aAu (aj afv (aj apV (aj aAw (aj afx (aj apY (aj aAx (aj afz (aj ap1 (aj aup (aj afB (aj ap3 (aj aAA (aj afD (aj ap5 (aj auq (aj afF (aj ap8 av))))))))))))))))))) (fun J x=>Vv (C (J 6 []) agf) x.1) (fun _ _=>by kernel_rfl) fun _=>by rw[aus]<;>rfl
@[reducible] def Vx:Sh:=⟨[.d aJ],[],aI,[.d (.bool)],[],0,[.bool]⟩
def agi:Env:=(cts [])
def agj:List (Nat×Hint):=[(26,⟨[],[0,3,7,8,9,10,17,18,19,20,21,26,27,28,29,30,31,32,33,34,35,36,37,38]⟩),(841,⟨[.agd 32 aJ,.agd 33 (.int .i64),.agd 35 (.int .u8),.agd 36 (.int .i64),.agd 37 .bool,.agd 26 aJ,.agd 27 (.int .i64),.agd 29 (.int .u8),.agd 30 .bool,.agd 31 .bool,.agd 38 .bool],[0,3,39]⟩),(840,⟨[.agd 17 aJ,.agd 18 (.int .i64),.agd 20 (.int .u8),.agd 21 .bool],[0,3,22]⟩),(104,⟨[.agd 7 (.int .i64),.agd 8 aJ,.agd 9 (.int .i64),.agd 10 .bool],[0,3,11]⟩)]
def vO(b:List Int)(i:Int):St:=⟨[(0,dL b),(3,dI i)],40,[],[],0,[],0⟩
def agk(b:List Int)(i:Int)(t11:Bool):St:=⟨[(0,dL b),(3,dI i),(11,dB t11)],40,[],[],0,[],0⟩
def agl(b:List Int)(i:Int)(t22:Bool):St:=⟨[(0,dL b),(3,dI i),(22,dB t22)],40,[],[],0,[],0⟩
def agm(b:List Int)(i:Int)(t39:Bool):St:=⟨[(0,dL b),(3,dI i),(39,dB t39)],40,[],[],0,[],0⟩
@[reducible] def zG5:Type:=List Int->Int->Bool->Option aF
@[reducible] def zG6:Type:=List Int->Int->Option aF
def Dj(j2:zG5)(self1:zG6)(b:List Int)(i:Int):Option aF :=
 if lt i 6=true then j2 b i (lt i (zF (zG b))) else j2 b i false
def Vy(j3:zG5)(self1:zG6)(b:List Int)(i:Int)(t11:Bool):Option aF :=
 if t11=true then if lt i 5=true then zC (at? b i) fun y=>j3 b i (nei y 0) else j3 b i false else some (true,())
def Vz(j4:zG5)(self1:zG6)(b:List Int)(i:Int)(t22:Bool):Option aF :=
 if t22=true then some (false,()) else if eqi i 5=true then zC (at? b i) fun y=>if lt y 2=true then j4 b i true else zC (at? b i) fun y=>j4 b i (gt (cvt .i64 y) 254) else j4 b i false
def aqa(self1:zG6)(b:List Int)(i:Int)(t39:Bool):Option aF :=
 if t39=true then some (false,()) else self1 b (add .i64 i 1)
def VA(j1:zG6)(b:List Int):Option aF :=
 j1 b 2
def aml(u1:zG6):=aqa u1
def VB(u1:zG6):=Vz (aml u1) u1
def Dk(u1:zG6):=Vy (VB u1) u1
def M8(b:List Int)(i:Int):Option aF :=
 bu (fun self s=>Dj (Dk (fun b i=>self (b,i))) (fun b i=>self (b,i)) s.1 s.2) 18446744073709551616 (b,i)
def VC(x:As aI):Option aF:=VA M8 x.1
abbrev pBz:=zp agi agj 218 Vx
theorem aut{J w1 a b c}:pBz J 841 [w1] (agm a b c)=aqa (C w1 vO) a b c:=by kernel_rfl
theorem auu{J w1 a b c}:pBz J 840 [w1] (agl a b c)=Vz (C (J 841 [w1]) agm) (C w1 vO) a b c:=by kernel_rfl
theorem auv{J w1 a b c}:pBz J 104 [w1] (agk a b c)=Vy (C (J 840 [w1]) agl) (C w1 vO) a b c:=by kernel_rfl
theorem auw{J w1 a b}:pBz J 26 [w1] (vO a b)=Dj (C (J 104 [w1]) agk) (C w1 vO) a b:=by kernel_rfl
abbrev pBy:=zj agi agj 218 Vx
theorem auy{w1}:C (pBy 841 [w1]) agm=aml (C w1 vO):=gNC (by decide) fun _=>aut
theorem auz{w1}:C (pBy 840 [w1]) agl=VB (C w1 vO):=gNC (by decide) fun _=>auu.trans (by rw[auy]<;>kernel_rfl)
theorem auA{w1}:C (pBy 104 [w1]) agk=Dk (C w1 vO):=gNC (by decide) fun _=>auv.trans (by rw[auz]<;>kernel_rfl)
theorem auB:C (pBy 26 []) vO=M8:=gLC (by decide) (by kernel_rfl) (fun _=>by unfold M8;rfl) fun _ _=>auw.trans (by rw[auA]<;>kernel_rfl)
theorem auC:ak Tryz.prog (fun _=>True) 218 ⟨Vx,VC⟩:=zcc (env:=agi) (d:=6) (hs:=Ev.get agj) av (fun J x=>VA (C (J 26 []) vO) x.1) (fun _ _=>by kernel_rfl) fun _=>by rw[auB]<;>rfl
@[reducible] def bV:List Ty:=[.pr (.int .u16) BU,.int .i64]
@[reducible] def VD:Sh:=⟨[.d aJ],[],aI,[.d (.pr (.int .u16) BU),.d (.int .i64)],[],0,bV⟩
def agn:Env:=(cts [(218,(⟨Vx,VC⟩:Ct))])
def agq:List (Nat×Hint):=[(6,⟨[],[0,2,13]⟩)]
def agr(b:List Int)(t13:Bool)(t2 t2_2:Int):St:=⟨[(0,dL b),(2,.pb 0 0),(13,dB t13)],49,[],[(0,.box 129 [d6 t2,d8 t2_2,.k (zK zH 0 0)])],1,[],0⟩
def VE(b:List Int)(t13:Bool)(t2 t2_2:Int):Option (As bV) :=
 if t13=true then some ((0,0,[]),0,()) else zC (at? b 5) fun y=>if lt (zF (zG b)) (add .i64 6 (cvt .i64 y))=true then some ((0,0,[]),0,()) else need (ge (Sx.sub .i64 (add .i64 6 (cvt .i64 y)) 7) 0) (need (Ev.iX (Sx.sub .i64 (add .i64 6 (cvt .i64 y)) 7) (Sx.sub .i64 (add .i64 6 (cvt .i64 y)) 7)) (need (small (zI (Sx.sub .i64 (add .i64 6 (cvt .i64 y)) 7))) (zC (cut b 7 (add .i64 6 (cvt .i64 y))) fun y_1=>need (le (zF (0+zG (zE (α:=Int) (zI (Sx.sub .i64 (add .i64 6 (cvt .i64 y)) 7)) 0))) (zF (zG (zE (α:=Int) (zI (Sx.sub .i64 (add .i64 6 (cvt .i64 y)) 7)) 0)))) (zC (at? b 0) fun y_2=>zC (at? b 1) fun y_3=>zC (at? b 6) fun y_4=>some ((Sx.bor .u16 (Sx.shl .u16 (cvt .u16 y_2) 8) (cvt .u16 y_3),y_4,List.take (zI (zF (zG (zE (α:=Int) (zI (Sx.sub .i64 (add .i64 6 (cvt .i64 y)) 7)) 0)))) y_1++List.drop (0+zG (List.take (zI (zF (zG (zE (α:=Int) (zI (Sx.sub .i64 (add .i64 6 (cvt .i64 y)) 7)) 0)))) y_1)) (zE (zI (Sx.sub .i64 (add .i64 6 (cvt .i64 y)) 7)) 0)),add .i64 6 (cvt .i64 y),())))))
def Gz(j1:List Int->Bool->Int->Int->Option (As bV))(b:List Int):Option (As bV) :=
 if le (zF (zG b)) 7=true then j1 b true 0 0 else zC (VC (b,())) fun y=>j1 b (!y.1) 0 0
def VF:=VE
def M9(x:As aI):Option (As bV):=Gz VF x.1
abbrev pB1:=zp agn agq 158 VD
theorem auD{J a b c d}:pB1 J 6 [] (agr a b c d)=VE a b c d:=by kernel_rfl
abbrev pB0:=zj agn agq 158 VD
theorem auE:C (pB0 6 []) agr=VF:=gNC (by decide) fun _=>auD
theorem auF:ak Tryz.prog (fun _=>True) 158 ⟨VD,M9⟩:=zcc (env:=agn) (d:=6) (hs:=Ev.get agq) (aj auC av) (fun J x=>Gz (C (J 6 []) agr) x.1) (fun _ _=>by kernel_rfl) fun _=>by rw[auE]<;>rfl
@[reducible] def Na:Sh:=⟨[.d aJ],[],aI,[.d (.pr (.int .u16) BU),.d (.int .i64)],[],0,bV⟩
def ags:Env:=(cts [(158,(⟨VD,M9⟩:Ct))])
def agt:List (Nat×Hint):=[(14,⟨[],[2,4,18]⟩)]
def agu(t18:Bool)(t2 t2_2:Int)(x:Int×Int×List Int):St:=⟨[(2,.pb 0 0),(4,.pb 1 0),(18,dB t18)],21,[],[(0,.box 129 [d6 t2,d8 t2_2,.k (zK zH 0 0)]),(1,.box 129 [d6 x.1,d8 x.2.1,dL x.2.2])],2,[],0⟩
def amm(t18:Bool)(t2 t2_2:Int)(x:Int×Int×List Int):Option (As bV) :=
 if t18=true then some ((0,0,[]),10,()) else some (x,0,())
def VG(j1:Bool->Int->Int->Int×Int×List Int->Option (As bV))(b:List Int):Option (As bV) :=
 zC (M9 (b,())) fun y=>if eqi y.2.1 0=true then j1 true 0 0 y.1 else j1 (nei y.2.1 (zF (zG b))) 0 0 y.1
def VH:=amm
def Dl(x:As aI):Option (As bV):=VG VH x.1
abbrev pBx:=zp ags agt 98 Na
theorem auG{J a b c d}:pBx J 14 [] (agu a b c d)=amm a b c d:=by kernel_rfl
abbrev pBw:=zj ags agt 98 Na
theorem auH:C (pBw 14 []) agu=VH:=gNC (by decide) fun _=>auG
theorem amn:ak Tryz.prog (fun _=>True) 98 ⟨Na,Dl⟩:=zcc (env:=ags) (d:=6) (hs:=Ev.get agt) (aj auF av) (fun J x=>VG (C (J 14 []) agu) x.1) (fun _ _=>by kernel_rfl) fun _=>by rw[auH]<;>rfl
@[reducible] def dK:List Ty:=[.un,.int .u8,.int .u16,.sl (.int .u8)]
@[reducible] def VI:Sh:=⟨[.d (.un),.d (.int .u8),.d (.int .u16),.d aJ],[],dK,[.d aP,.d (.bool)],[],0,bI⟩
def agv:Env:=(cts [(53,(⟨Vu,Gy⟩:Ct)),(98,(⟨Na,Dl⟩:Ct))])
def agw:List (Nat×Hint):=[(14,⟨[],[8,10,31]⟩)]
def agx(t31:Bool)(t8 t8_2 t8_3 t8_4 x x_2:Int)(x_3:List Int):St:=⟨[(8,.pb 0 0),(10,.pb 1 0),(31,dB t31)],43,[],[(0,.box 109 [d8 t8,d8 t8_2,.k (zK zH 0 0),.k (zK zH 0 0),d6 t8_3,d6 t8_4]),(1,.box 129 [d6 x,d8 x_2,dL x_3])],2,[],0⟩
def agy(t31:Bool)(t8 t8_2 t8_3 t8_4 x x_2:Int)(x_3:List Int):Option eD :=
 if t31=true then some ((0,0,[],[],0,0),false,()) else zC (Gy (x_3,())) fun y=>if nei y.2.1 0=true then some ((0,0,[],[],0,0),false,()) else some (y.1,true,())
def VJ(j1:Bool->Int->Int->Int->Int->Int->Int->List Int->Option eD)(v:Unit)(unit tx:Int)(b:List Int):Option eD :=
 zC (Dl (b,())) fun y=>if nei y.2.1 0=true then j1 true 0 0 0 0 y.1.1 y.1.2.1 y.1.2.2 else if nei y.1.2.1 unit=true then j1 true 0 0 0 0 y.1.1 y.1.2.1 y.1.2.2 else j1 (nei y.1.1 tx) 0 0 0 0 y.1.1 y.1.2.1 y.1.2.2
def Nb:=agy
def GA(x:As dK):Option eD:=VJ Nb x.1 x.2.1 x.2.2.1 x.2.2.2.1
abbrev pCn:=zp agv agw 337 VI
theorem auI{J a b c d e f g h}:pCn J 14 [] (agx a b c d e f g h)=agy a b c d e f g h:=by kernel_rfl
abbrev pCm:=zj agv agw 337 VI
theorem auJ:C (pCm 14 []) agx=Nb:=gNC (by decide) fun _=>auI
theorem auK:ak Tryz.prog (fun _=>True) 337 ⟨VI,GA⟩:=zcc (env:=agv) (d:=6) (hs:=Ev.get agw) (aj ap9 (aj amn av)) (fun J x=>VJ (C (J 14 []) agx) x.1 x.2.1 x.2.2.1 x.2.2.2.1) (fun _ _=>by kernel_rfl) fun _=>by rw[auJ]<;>rfl
@[reducible] def amo:Sh:=⟨[.d aJ],[],aI,[.d aJ,.d (.int .i64)],[],0,aU⟩
def VK(b:List Int):Option cO :=
 if lt (zF (zG b)) 2=true then some ([],10,()) else zC (cut b 0 (Sx.sub .i64 (zF (zG b)) 2)) fun y=>zC (at? b (Sx.sub .i64 (zF (zG b)) 2)) fun y_1=>zC (at? b (add .i64 (Sx.sub .i64 (zF (zG b)) 2) 1)) fun y_2=>zC (TK (y,())) fun y=>if nei y.1 (Sx.bor .u16 (cvt .u16 y_1) (Sx.shl .u16 (cvt .u16 y_2) 8))=true then some ([],11,()) else need (ge (Sx.sub .i64 (zF (zG b)) 2) 0) (need (Ev.iX (Sx.sub .i64 (zF (zG b)) 2) (Sx.sub .i64 (zF (zG b)) 2)) (need (small (zI (Sx.sub .i64 (zF (zG b)) 2))) (need (le (zF (0+zG (zE (α:=Int) (zI (Sx.sub .i64 (zF (zG b)) 2)) 0))) (zF (zG (zE (α:=Int) (zI (Sx.sub .i64 (zF (zG b)) 2)) 0)))) (some (List.take (zI (zF (zG (zE (α:=Int) (zI (Sx.sub .i64 (zF (zG b)) 2)) 0)))) b++List.drop (0+zG (List.take (zI (zF (zG (zE (α:=Int) (zI (Sx.sub .i64 (zF (zG b)) 2)) 0)))) b)) (zE (zI (Sx.sub .i64 (zF (zG b)) 2)) 0),0,())))))
def JE(x:As aI):Option cO:=VK x.1
theorem auL:ak Tryz.prog (fun _=>True) 159 ⟨amo,JE⟩:=ctn (aj alM av) 6 fun J x=>by kernel_rfl
@[reducible] def cZ:List Ty:=[.int .u8,.sl (.int .u8),.int .i64]
@[reducible] def VL:Sh:=⟨[.d aJ],[],aI,[.d (.int .u8),.d aJ,.d (.int .i64)],[],0,cZ⟩
def agz:Env:=(cts [(159,(⟨amo,JE⟩:Ct)),(160,(⟨ads,C9⟩:Ct))])
def agA:List (Nat×Hint):=[(6,⟨[],[0,14]⟩)]
def agB(b:List Int)(t14:Bool):St:=⟨[(0,dL b),(14,dB t14)],37,[],[],0,[],0⟩
def VM(b:List Int)(t14:Bool):Option (As cZ) :=
 if t14=true then some (0,[],10,()) else zC (JE (b,())) fun y=>if nei y.2.1 0=true then some (0,[],y.2.1,()) else zC (at? y.1 0) fun y_1=>zC (C9 (y_1,())) fun y_2=>if (!y_2.1)=true then some (0,[],10,()) else zC (at? y.1 0) fun y_3=>zC (cut y.1 1 (zF (zG y.1))) fun y_4=>need (le (zF (zG y.1)) (zF (zG y.1))) (need (le (zF (zG y.1)) (zF (zG y.1))) (some (y_3,y_4,0,())))
def VN(j1:List Int->Bool->Option (As cZ))(b:List Int):Option (As cZ) :=
 if lt (zF (zG b)) 4=true then j1 b true else j1 b (gt (zF (zG b)) 256)
def VO:=VM
def GB(x:As aI):Option (As cZ):=VN VO x.1
abbrev pC3:=zp agz agA 101 VL
theorem auM{J a b}:pC3 J 6 [] (agB a b)=VM a b:=by kernel_rfl
abbrev pC2:=zj agz agA 101 VL
theorem auN:C (pC2 6 []) agB=VO:=gNC (by decide) fun _=>auM
theorem amq:ak Tryz.prog (fun _=>True) 101 ⟨VL,GB⟩:=zcc (env:=agz) (d:=6) (hs:=Ev.get agA) (aj auL (aj alO av)) (fun J x=>VN (C (J 6 []) agB) x.1) (fun _ _=>by kernel_rfl) fun _=>by rw[auN]<;>rfl
@[reducible] def auO:Sh:=⟨[.d (.int .u8),.d aJ],[],eQ,[.d aP,.d (.int .i64)],[],0,cL⟩
def agC(unit:Int)(b:List Int):Option (As cL) :=
 zC (GB (b,())) fun y=>if nei y.2.2.1 0=true then some ((0,0,[],[],0,0),y.2.2.1,()) else if nei y.1 unit=true then some ((0,0,[],[],0,0),10,()) else zC (Gy (y.2.1,())) fun y=>some (y.1,y.2.1,())
def VP(x:As eQ):Option (As cL):=agC x.1 x.2.1
theorem auP:ak Tryz.prog (fun _=>True) 343 ⟨auO,VP⟩:=ctn (aj ap9 (aj amq av)) 6 fun J x=>by kernel_rfl
@[reducible] def aqb:Sh:=⟨[.d (.un),.d (.int .u8),.d (.int .u16),.d aJ],[],dK,[.d aP,.d (.bool)],[],0,bI⟩
def agD(v:Unit)(unit tx:Int)(b:List Int):Option eD :=
 zC (VP (unit,b,())) fun y=>if nei y.2.1 0=true then some ((0,0,[],[],0,0),false,()) else some (y.1,true,())
def GD(x:As dK):Option eD:=agD x.1 x.2.1 x.2.2.1 x.2.2.2.1
theorem auQ:ak Tryz.prog (fun _=>True) 340 ⟨aqb,GD⟩:=ctn (aj auP av) 6 fun J x=>by kernel_rfl
@[reducible] def cF:List Ty:=[.pr (.int .u8) qz,.pr (.int .u8) mg,.bool]
@[reducible] def GG:Sh:=⟨[.d aD,.d aJ],[],cY,[.d aD,.d aP,.d (.bool)],[],0,cF⟩
def agE:Env:=(cts [(64,(⟨ad7,Ae⟩:Ct)),(114,(⟨alv,xQ⟩:Ct)),(154,(⟨Vb,MW⟩:Ct)),(337,(⟨VI,GA⟩:Ct)),(340,(⟨aqb,GD⟩:Ct))])
def agF:List (Nat×Hint):=[(7,⟨[],[2,4,5,7,8,30,31,32,33,34]⟩),(30,⟨[],[2,4,5,7,35]⟩)]
def agG(ok:Bool)(p p_2 p_3 p_4:Int)(p_5:Bool)(p_6 p_7 p_8 p_9:Int)(p_10:List Int)(p_11:List Bool)(p_12 p_13 p_14 t4 t4_2 t4_3 t4_4:Int)(t4_5:Bool)(t4_6 t4_7 t4_8 t4_9 t4_10 t4_11 t4_12 t5 t5_2 t5_3 t5_4 r r_2:Int)(r_3:List Bool)(r_4:List Int)(r_5 r_6:Int):St:=⟨[(2,.pb 0 0),(4,.pb 1 0),(5,.pb 2 0),(7,.pb 3 0),(8,dB ok)],42,[],[(0,.box 29 [d8 p,d8 p_2,dI p_3,dI p_4,dB p_5,d8 p_6,d6 p_7,d6 p_8,d6 p_9,dW p_10,.d (.sl .bool) p_11,d6 p_12,dI p_13,dI p_14]),(1,.box 29 [d8 t4,d8 t4_2,dI t4_3,dI t4_4,dB t4_5,d8 t4_6,d6 t4_7,d6 t4_8,d6 t4_9,.k (zK zH 0 0),.k (zK zH 0 0),d6 t4_10,dI t4_11,dI t4_12]),(2,.box 109 [d8 t5,d8 t5_2,.k (zK zH 0 0),.k (zK zH 0 0),d6 t5_3,d6 t5_4]),(3,.box 109 [d8 r,d8 r_2,.d (.sl .bool) r_3,dW r_4,d6 r_5,d6 r_6])],4,[],0⟩
def agH(t35:Bool)(p p_2 p_3 p_4:Int)(p_5:Bool)(p_6 p_7 p_8 p_9:Int)(p_10:List Int)(p_11:List Bool)(p_12 p_13 p_14 t4 t4_2 t4_3 t4_4:Int)(t4_5:Bool)(t4_6 t4_7 t4_8 t4_9 t4_10 t4_11 t4_12 t5 t5_2 t5_3 t5_4 r r_2:Int)(r_3:List Bool)(r_4:List Int)(r_5 r_6:Int):St:=⟨[(2,.pb 0 0),(4,.pb 1 0),(5,.pb 2 0),(7,.pb 3 0),(35,dB t35)],42,[],[(0,.box 29 [d8 p,d8 p_2,dI p_3,dI p_4,dB p_5,d8 p_6,d6 p_7,d6 p_8,d6 p_9,dW p_10,.d (.sl .bool) p_11,d6 p_12,dI p_13,dI p_14]),(1,.box 29 [d8 t4,d8 t4_2,dI t4_3,dI t4_4,dB t4_5,d8 t4_6,d6 t4_7,d6 t4_8,d6 t4_9,.k (zK zH 0 0),.k (zK zH 0 0),d6 t4_10,dI t4_11,dI t4_12]),(2,.box 109 [d8 t5,d8 t5_2,.k (zK zH 0 0),.k (zK zH 0 0),d6 t5_3,d6 t5_4]),(3,.box 109 [d8 r,d8 r_2,.d (.sl .bool) r_3,dW r_4,d6 r_5,d6 r_6])],4,[],0⟩
@[reducible] def zG7:Type:=Bool->Int->Int->Int->Int->Bool->Int->Int->Int->Int->List Int->List Bool->Int->Int->Int->Int->Int->Int->Int->Bool->Int->Int->Int->Int->Int->Int->Int->Int->Int->Int->Int->Int->Int->List Bool->List Int->Int->Int->Option (As cF)
def agI(j2:zG7)(ok:Bool)(p p_2 p_3 p_4:Int)(p_5:Bool)(p_6 p_7 p_8 p_9:Int)(p_10:List Int)(p_11:List Bool)(p_12 p_13 p_14 t4 t4_2 t4_3 t4_4:Int)(t4_5:Bool)(t4_6 t4_7 t4_8 t4_9 t4_10 t4_11 t4_12 t5 t5_2 t5_3 t5_4 r r_2:Int)(r_3:List Bool)(r_4:List Int)(r_5 r_6:Int):Option (As cF) :=
 if (!ok)=true then j2 true p p_2 p_3 p_4 p_5 p_6 p_7 p_8 p_9 p_10 p_11 p_12 p_13 p_14 t4 t4_2 t4_3 t4_4 t4_5 t4_6 t4_7 t4_8 t4_9 t4_10 t4_11 t4_12 t5 t5_2 t5_3 t5_4 r r_2 r_3 r_4 r_5 r_6 else zC (MW ((p_6,p_7,p_8,p_9,p_10,p_11),(r,r_2,r_3,r_4,r_5,r_6),())) fun y=>j2 (!y.1) p p_2 p_3 p_4 p_5 p_6 p_7 p_8 p_9 p_10 p_11 p_12 p_13 p_14 t4 t4_2 t4_3 t4_4 t4_5 t4_6 t4_7 t4_8 t4_9 t4_10 t4_11 t4_12 t5 t5_2 t5_3 t5_4 r r_2 r_3 r_4 r_5 r_6
def agJ(t35:Bool)(p p_2 p_3 p_4:Int)(p_5:Bool)(p_6 p_7 p_8 p_9:Int)(p_10:List Int)(p_11:List Bool)(p_12 p_13 p_14 t4 t4_2 t4_3 t4_4:Int)(t4_5:Bool)(t4_6 t4_7 t4_8 t4_9 t4_10 t4_11 t4_12 t5 t5_2 t5_3 t5_4 r r_2:Int)(r_3:List Bool)(r_4:List Int)(r_5 r_6:Int):Option (As cF) :=
 if t35=true then zC (xQ ((p,p_2,p_3,p_4,p_5,(p_6,p_7,p_8,p_9,p_10,p_11),p_12,p_13,p_14),())) fun y=>some (y.1,(0,0,[],[],0,0),false,()) else zC (Ae ((p,p_2,p_3,p_4,p_5,(p_6,p_7,p_8,p_9,p_10,p_11),p_12,p_13,p_14),())) fun y=>some (y.1,(r,r_2,r_3,r_4,r_5,r_6),true,())
def VQ(j1:zG7)(p:Int×Int×Int×Int×Bool×uS×Int×Int×Int)(frame:List Int):Option (As cF) :=
 if (!p.2.2.2.2.1)=true then zC (xQ (p,())) fun y=>some (y.1,(0,0,[],[],0,0),false,()) else amb (au GG.rs) [if eqi p.2.1 2=true then amb (au GG.rs) [zC (GA ((),p.1,p.2.2.2.2.2.2.1,frame,())) fun y=>j1 y.2.1 p.1 p.2.1 p.2.2.1 p.2.2.2.1 p.2.2.2.2.1 p.2.2.2.2.2.1.1 p.2.2.2.2.2.1.2.1 p.2.2.2.2.2.1.2.2.1 p.2.2.2.2.2.1.2.2.2.1 p.2.2.2.2.2.1.2.2.2.2.1 p.2.2.2.2.2.1.2.2.2.2.2 p.2.2.2.2.2.2.1 p.2.2.2.2.2.2.2.1 p.2.2.2.2.2.2.2.2 0 0 0 0 false 0 0 0 0 0 0 0 0 0 0 0 y.1.1 y.1.2.1 y.1.2.2.1 y.1.2.2.2.1 y.1.2.2.2.2.1 y.1.2.2.2.2.2,zC (GA ((),p.1,p.2.2.2.2.2.2.1,frame,())) fun y=>j1 y.2.1 p.1 p.2.1 p.2.2.1 p.2.2.2.1 p.2.2.2.2.1 p.2.2.2.2.2.1.1 p.2.2.2.2.2.1.2.1 p.2.2.2.2.2.1.2.2.1 p.2.2.2.2.2.1.2.2.2.1 p.2.2.2.2.2.1.2.2.2.2.1 p.2.2.2.2.2.1.2.2.2.2.2 p.2.2.2.2.2.2.1 p.2.2.2.2.2.2.2.1 p.2.2.2.2.2.2.2.2 0 0 0 0 false 0 0 0 0 0 0 0 0 0 0 0 y.1.1 y.1.2.1 y.1.2.2.1 y.1.2.2.2.1 y.1.2.2.2.2.1 y.1.2.2.2.2.2] else amb (au GG.rs) [zC (GD ((),p.1,p.2.2.2.2.2.2.1,frame,())) fun y=>j1 y.2.1 p.1 p.2.1 p.2.2.1 p.2.2.2.1 p.2.2.2.2.1 p.2.2.2.2.2.1.1 p.2.2.2.2.2.1.2.1 p.2.2.2.2.2.1.2.2.1 p.2.2.2.2.2.1.2.2.2.1 p.2.2.2.2.2.1.2.2.2.2.1 p.2.2.2.2.2.1.2.2.2.2.2 p.2.2.2.2.2.2.1 p.2.2.2.2.2.2.2.1 p.2.2.2.2.2.2.2.2 0 0 0 0 false 0 0 0 0 0 0 0 0 0 0 0 y.1.1 y.1.2.1 y.1.2.2.1 y.1.2.2.2.1 y.1.2.2.2.2.1 y.1.2.2.2.2.2,zC (GD ((),p.1,p.2.2.2.2.2.2.1,frame,())) fun y=>j1 y.2.1 p.1 p.2.1 p.2.2.1 p.2.2.2.1 p.2.2.2.2.1 p.2.2.2.2.2.1.1 p.2.2.2.2.2.1.2.1 p.2.2.2.2.2.1.2.2.1 p.2.2.2.2.2.1.2.2.2.1 p.2.2.2.2.2.1.2.2.2.2.1 p.2.2.2.2.2.1.2.2.2.2.2 p.2.2.2.2.2.2.1 p.2.2.2.2.2.2.2.1 p.2.2.2.2.2.2.2.2 0 0 0 0 false 0 0 0 0 0 0 0 0 0 0 0 y.1.1 y.1.2.1 y.1.2.2.1 y.1.2.2.2.1 y.1.2.2.2.2.1 y.1.2.2.2.2.2],if eqi p.2.1 2=true then zC (GA ((),p.1,p.2.2.2.2.2.2.1,frame,())) fun y=>j1 y.2.1 p.1 p.2.1 p.2.2.1 p.2.2.2.1 p.2.2.2.2.1 p.2.2.2.2.2.1.1 p.2.2.2.2.2.1.2.1 p.2.2.2.2.2.1.2.2.1 p.2.2.2.2.2.1.2.2.2.1 p.2.2.2.2.2.1.2.2.2.2.1 p.2.2.2.2.2.1.2.2.2.2.2 p.2.2.2.2.2.2.1 p.2.2.2.2.2.2.2.1 p.2.2.2.2.2.2.2.2 0 0 0 0 false 0 0 0 0 0 0 0 0 0 0 0 y.1.1 y.1.2.1 y.1.2.2.1 y.1.2.2.2.1 y.1.2.2.2.2.1 y.1.2.2.2.2.2 else zC (GD ((),p.1,p.2.2.2.2.2.2.1,frame,())) fun y=>j1 y.2.1 p.1 p.2.1 p.2.2.1 p.2.2.2.1 p.2.2.2.2.1 p.2.2.2.2.2.1.1 p.2.2.2.2.2.1.2.1 p.2.2.2.2.2.1.2.2.1 p.2.2.2.2.2.1.2.2.2.1 p.2.2.2.2.2.1.2.2.2.2.1 p.2.2.2.2.2.1.2.2.2.2.2 p.2.2.2.2.2.2.1 p.2.2.2.2.2.2.2.1 p.2.2.2.2.2.2.2.2 0 0 0 0 false 0 0 0 0 0 0 0 0 0 0 0 y.1.1 y.1.2.1 y.1.2.2.1 y.1.2.2.2.1 y.1.2.2.2.2.1 y.1.2.2.2.2.2]
def VR:=agJ
def GH:=agI (VR)
def agL(x:As cY):Option (As cF):=VQ GH x.1 x.2.1
abbrev pCl:=zp agE agF 95 GG
theorem auR{J a b c d e f g h i j k l m n o p q r t u v x y z aa ab ac ad ae af ag ah ba bb bc bd be}:pCl J 30 [] (agH a b c d e f g h i j k l m n o p q r t u v x y z aa ab ac ad ae af ag ah ba bb bc bd be)=agJ a b c d e f g h i j k l m n o p q r t u v x y z aa ab ac ad ae af ag ah ba bb bc bd be:=by kernel_rfl
theorem auS{J a b c d e f g h i j k l m n o p q r t u v x y z aa ab ac ad ae af ag ah ba bb bc bd be}:pCl J 7 [] (agG a b c d e f g h i j k l m n o p q r t u v x y z aa ab ac ad ae af ag ah ba bb bc bd be)=agI (C (J 30 []) agH) a b c d e f g h i j k l m n o p q r t u v x y z aa ab ac ad ae af ag ah ba bb bc bd be:=by kernel_rfl
abbrev pCk:=zj agE agF 95 GG
theorem auT:C (pCk 30 []) agH=VR:=gNC (by decide) fun _=>auR
theorem auU:C (pCk 7 []) agG=GH:=gNC (by decide) fun _=>auS.trans (by rw[auT]<;>kernel_rfl)
theorem auV:ak Tryz.prog (fun _=>True) 95 ⟨GG,agL⟩:=zcc (env:=agE) (d:=6) (hs:=Ev.get agF) (aj Um (aj acV (aj auh (aj auK (aj auQ av))))) (fun J x=>VQ (C (J 7 []) agG) x.1 x.2.1) (fun _ _=>by kernel_rfl) fun _=>by rw[auU]<;>rfl
@[reducible] def agM:Sh:=⟨[.d aX,.d aP],[],aY,[.d aX],[],0,aN⟩
def agN:Env:=(cts [(1000211,Ev.gu),(56,(⟨Me,lM⟩:Ct)),(204,(⟨Md,Ad⟩:Ct)),(205,(⟨Mg,Mi⟩:Ct)),(206,(⟨aex,Uz⟩:Ct)),(207,(⟨aez,Ml⟩:Ct)),(208,(⟨aeB,UA⟩:Ct)),(209,(⟨Ms,Mw⟩:Ct)),(211,(⟨Mx,My⟩:Ct)),(213,(⟨aeM,MB⟩:Ct)),(215,(⟨aeO,MC⟩:Ct)),(216,(⟨aeQ,UF⟩:Ct)),(217,(⟨ME,MH⟩:Ct))])
def agO:List (Nat×Hint):=[(14,⟨[],[2,3,4,5,15]⟩)]
def agQ(t15:Bool)(t:Ah)(r:jf)(t4:jS×Int×Int×Unit×Int×Int×Int×Int×Int):St:=⟨[(2,.pb 0 0),(3,.pb 1 0),(4,.pb 2 0),(5,.pb 3 0),(15,dB t15)],28,[],[(0,.box 33 (eY t [])),(1,.box 109 [d8 r.1,d8 r.2.1,.d (.sl .bool) r.2.2.1,dW r.2.2.2.1,d6 r.2.2.2.2.1,d6 r.2.2.2.2.2]),(2,.box 33 [d8 t4.1.1,d8 t4.1.2.1,dI t4.1.2.2.1,dI t4.1.2.2.2.1,dB t4.1.2.2.2.2.1,d8 t4.1.2.2.2.2.2.1.1,d6 t4.1.2.2.2.2.2.1.2.1,d6 t4.1.2.2.2.2.2.1.2.2.1,d6 t4.1.2.2.2.2.2.1.2.2.2.1,.k (zK zH 0 0),.k (zK zH 0 0),d6 t4.1.2.2.2.2.2.2.1,dI t4.1.2.2.2.2.2.2.2.1,dI t4.1.2.2.2.2.2.2.2.2,d6 t4.2.1,d2 t4.2.2.1,.k (zK zH 0 0),d8 t4.2.2.2.2.1,d8 t4.2.2.2.2.2.1,dI t4.2.2.2.2.2.2.1,dI t4.2.2.2.2.2.2.2.1,d8 t4.2.2.2.2.2.2.2.2]),(3,.box 211 [.k Go.Value.nilFunc,.k Go.Value.nilFunc,.fn (.func 203) [] [],.fn (.func 205) [] [],.fn (.func 206) [] [],.fn (.func 207) [] [],.fn (.func 208) [] [],.fn (.func 209) [] [],.fn (.func 210) [] [],.fn (.func 211) [] [],.fn (.func 212) [] [],.fn (.func 213) [] [],.fn (.func 214) [] [],.fn (.func 215) [] [],.fn (.func 216) [] [],.fn (.func 217) [] []])],4,[],0⟩
def VT(t15:Bool)(t:Ah)(r:jf)(t4:jS×Int×Int×Unit×Int×Int×Int×Int×Int):Option bP :=
 if t15=true then zC (lM (t,t.2.2.2.2.2.2.2.2,())) fun y=>some (y.1,()) else if eqi t.2.2.2.2.2.1 7=true then zC (MH (t,r,())) fun y=>some (y.1,()) else if eqi t.2.2.2.2.2.1 6=true then zC (MC (t,r,())) fun y=>some (y.1,()) else if eqi t.2.2.2.2.2.1 5=true then zC (MB (t,r,())) fun y=>some (y.1,()) else if eqi t.2.2.2.2.2.1 4=true then zC (My (t,r,())) fun y=>some (y.1,()) else if eqi t.2.2.2.2.2.1 3=true then zC (Mw (t,r,())) fun y=>some (y.1,()) else if eqi t.2.2.2.2.2.1 2=true then zC (Ml (t,r,())) fun y=>some (y.1,()) else if eqi t.2.2.2.2.2.1 1=true then zC (Mi (t,r,())) fun y=>some (y.1,()) else if eqi t.2.2.2.2.2.1 0=true then zH else zH
def VU(j1:Bool->Ah->jf->jS×Int×Int×Unit×Int×Int×Int×Int×Int->Option bP)(t:Ah)(r:jf):Option bP :=
 if ge (cvt .i64 t.2.2.2.2.2.1) 8=true then j1 true t r ((0,0,0,0,false,(0,0,0,0,(),()),0,0,0),0,0,(),0,0,0,0,0) else j1 (eqi t.2.2.2.2.2.1 0) t r ((0,0,0,0,false,(0,0,0,0,(),()),0,0,0),0,0,(),0,0,0,0,0)
def agR:=VT
def VW(x:As aY):Option bP:=VU agR x.1 x.2.1
abbrev pEh:=zp agN agO 96 agM
theorem auW{J a b c d}:pEh J 14 [] (agQ a b c d)=VT a b c d:=by kernel_rfl
abbrev pEg:=zj agN agO 96 agM
theorem auX:C (pEg 14 []) agQ=agR:=gNC (by decide) fun _=>auW
theorem auY:ak Tryz.prog (fun _=>True) 96 ⟨agM,VW⟩:=zcc (env:=agN) (d:=6) (hs:=Ev.get agO) (aj Ev.fF (aj xR (aj al1 (aj apw (aj apz (aj apA (aj al7 (aj apC (aj apE (aj apF (aj apG (aj al8 (aj al9 av))))))))))))) (fun J x=>VU (C (J 14 []) agQ) x.1 x.2.1) (fun _ _=>by kernel_rfl) fun _=>by rw[auX]<;>rfl
@[reducible] def agS:Sh:=⟨[.d aX,.d aJ],[],bL,[.d aX,.d aJ],[],0,bL⟩
def agT(t:Ah)(frame:List Int):Option (As bL) :=
 zC (C5 (t,())) fun y=>zC (agL (y.1.1,frame,())) fun y_1=>if (!y_1.2.2.1)=true then some (y.1,[],()) else zC (VW ((y_1.1,y.1.2),y_1.2.1,())) fun y=>if eqi y.1.2.2.2.2.2.1 0=true then some (y.1,[],()) else zC (xS (y.1,())) fun y=>some (y.1,y.2.1,())
def vP(x:As bL):Option (As bL):=agT x.1 x.2.1
theorem amr:ak Tryz.prog (fun _=>True) 46 ⟨agS,vP⟩:=ctn (aj acL (aj ae3 (aj auV (aj auY av)))) 6 fun J x=>by kernel_rfl
@[reducible] def cJ:List Ty:=[.pr (.int .u8) aA]
@[reducible] def VX:Sh:=⟨[.d bB],[],cJ,[.d bB],[],0,cJ⟩
def agU:Env:=(cts [(45,(⟨FP,lW⟩:Ct)),(113,(⟨acG,zU⟩:Ct))])
def agV:List (Nat×Hint):=[(122,⟨[],[1,2,15]⟩)]
@[reducible] def zG8:Type:=List (Int×Int×jq×List Bool)
def VY(s t2 t15:Int)(s_2 t2_2:zG8):St:=⟨[(1,.prw 0 s 35 0),(2,.prw 1 t2 35 0),(15,dI t15)],33,[],[(0,.row bB 45 s_2),(1,.row bB 45 t2_2)],2,[],0⟩
@[reducible] def zG9:Type:=Int->Int->Int->List (Int×Int×jq×List Bool)->List (Int×Int×jq×List Bool)->Option (As cJ)
def GI(self1:zG9)(s t2 t15:Int)(s_2 t2_2:zG8):Option (As cJ) :=
 if lt t15 8=true then need (ge t15 0) (need (lt t15 8) (zC (at? s_2 s) fun y=>zC (at? y.2.2.1.2.2.2.2.2.1.2.2 t15) fun z=>zC (lW (z.2,())) fun y=>zC (at? s_2 s) fun x=>zC (at? x.2.2.1.2.2.2.2.2.1.2.2 t15) fun z=>self1 s t2 (add .i64 t15 1) (List.set s_2 (zI s) (x.1,x.2.1,(x.2.2.1.1,x.2.2.1.2.1,x.2.2.1.2.2.1,x.2.2.1.2.2.2.1,x.2.2.1.2.2.2.2.1,(x.2.2.1.2.2.2.2.2.1.1,x.2.2.1.2.2.2.2.2.1.2.1,List.set x.2.2.1.2.2.2.2.2.1.2.2 (zI t15) (z.1,y.1)),x.2.2.1.2.2.2.2.2.2),x.2.2.2)) t2_2)) else zC (at? s_2 s) fun y=>zC (at? t2_2 t2) fun x=>zC (at? (List.set t2_2 (zI t2) y) t2) fun y_1=>zC (at? (List.set t2_2 (zI t2) y) t2) fun y=>some (y,())
def VZ(j1:zG9)(s:Int×Int×jq×List Bool):Option (As cJ) :=
 zC (zU (s.2.2.2,())) fun y=>zC (lW (s.2.2.1.1,())) fun y_1=>j1 0 0 0 [(s.1,s.2.1,(y_1.1,s.2.2.1.2),y.1)] [zSl]
def GJ(s t2 t15:Int)(s_2 t2_2:zG8):Option (As cJ) :=
 bu (fun self s=>GI (fun s t2 t15 s_2 t2_2=>self (s,t2,t15,s_2,t2_2)) s.1 s.2.1 s.2.2.1 s.2.2.2.1 s.2.2.2.2) 18446744073709551616 (s,t2,t15,s_2,t2_2)
def Nc(x:As cJ):Option (As cJ):=VZ GJ x.1
abbrev pDd:=zp agU agV 99 VX
theorem auZ{J w1 a b c d e}:pDd J 122 [w1] (VY a b c d e)=GI (C w1 VY) a b c d e:=by kernel_rfl
abbrev pDc:=zj agU agV 99 VX
theorem au0:C (pDc 122 []) VY=GJ:=gLC (by decide) (by kernel_rfl) (fun _=>by unfold GJ;rfl) fun _ _=>auZ.trans (by kernel_rfl)
theorem au1:ak Tryz.prog (fun _=>True) 99 ⟨VX,Nc⟩:=zcc (env:=agU) (d:=6) (hs:=Ev.get agV) (aj zy (aj acI av)) (fun J x=>VZ (C (J 122 []) VY) x.1) (fun _ _=>by kernel_rfl) fun _=>by rw[au0]<;>rfl
end Go.Proofs.Lx
end
