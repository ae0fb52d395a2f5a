/- Proved in the last of these 16 parts (this is part 7): TalkTrue. Conditions: those of the given statement, and no others. -/
import Derived.Test.YtljkanofaahagaaGreatBPartd
import Derived.Test.YtljkanofaahagaaGreatBPartf
import Derived.Test.YtljkanofaahagaaGreatProg
import Derived.Test.YtljkanofaahagaaGreatBParte
set_option linter.unusedVariables false
set_option linter.unusedSimpArgs false
set_option linter.unusedSectionVars false
open Option renaming bind → zC, none → zH
open List renaming replicate → zE, length → zG
open Int renaming ofNat → zF, toNat → zI
open Go.Value renaming slice → zK
noncomputable section
open Go Go.Proofs Ev Sx
set_option maxRecDepth 100000
namespace Go.Proofs.Lx
abbrev Bi:Type:=M5×Int×Int×List (Int×List Int)×Int×Int×Int×Int×Int
abbrev jI:Type:=Int×Int×List Bool×List Int×Int×Int
@[reducible] def ag0:Sh:=⟨[.d (.sl .bool),.d (.bool)],[],[.sl .bool,.bool],[.d (.int .i64)],[],0,[.int .i64]⟩
def ag1:Env:=(cts [])
def ag2:List (Nat×Hint):=[(26,⟨[],[0,1,7,8]⟩)]
def WE(s:List Bool)(v:Bool)(t7 t8:Int):St:=⟨[(0,.d (.sl .bool) s),(1,dB v),(7,dI t7),(8,dI t8)],19,[],[],0,[],0⟩
@[reducible] def cI:Type:=As [.int .i64]
def H9(self1:List Bool->Bool->Int->Int->Option cI)(s:List Bool)(v:Bool)(t7 t8:Int):Option cI :=
 if lt t8 t7=true then zC (at? s t8) fun y=>if Sx.eqb v y=true then some (t8,()) else self1 s v t7 (add .i64 t8 1) else some (-1,())
def WG(j1:List Bool->Bool->Int->Int->Option cI)(s:List Bool)(v:Bool):Option cI :=
 j1 s v (zF (zG s)) 0
def Oa(s:List Bool)(v:Bool)(t7 t8:Int):Option cI :=
 cu (fun self s=>H9 (fun s v t7 t8=>self (s,v,t7,t8)) s.1 s.2.1 s.2.2.1 s.2.2.2) 18446744073709551616 (s,v,t7,t8)
def ag3(x:As [.sl .bool,.bool]):Option cI:=WG Oa x.1 x.2.1
abbrev pDv:=zp ag1 ag2 241 ag0
theorem awE{J w1 a b c d}:pDv J 26 [w1] (WE a b c d)=H9 (C w1 WE) a b c d:=by kernel_rfl
abbrev pDu:=zj ag1 ag2 241 ag0
theorem awF:C (pDu 26 []) WE=Oa:=gLC (by decide) (by kernel_rfl) (fun _=>by unfold Oa;rfl) fun _ _=>awE.trans (by kernel_rfl)
theorem awG:ak Tryz.prog (fun _=>True) 241 ⟨ag0,ag3⟩:=zcc (env:=ag1) (d:=6) (hs:=Ev.get ag2) av (fun J x=>WG (C (J 26 []) WE) x.1 x.2.1) (fun _ _=>by kernel_rfl) fun _=>by rw[awF]<;>rfl
@[reducible] def WH:Sh:=⟨[.d (.sl .bool),.d (.bool)],[],[.sl .bool,.bool],[.d (.bool)],[],0,[.bool]⟩
def ag4(s:List Bool)(v:Bool):Option aE :=
 zC (ag3 (s,v,())) fun y=>some (ge y.1 0,())
def Bj(x:As [.sl .bool,.bool]):Option aE:=ag4 x.1 x.2.1
theorem ag5:ak Tryz.prog (fun _=>True) 199 ⟨WH,Bj⟩:=ctn (aj awG av) 6 fun J x=>by kernel_rfl
@[reducible] def ag6:Sh:=⟨[.d (.int .u8),.d (.int .u8)],[],[.int .u8,.int .u8],[.d aP],[],0,aS⟩
@[reducible] def cW:Type:=As aS
def awH(f except:Int):Option cW :=
 some ((rem f 128,except,[],[],0,0),())
def kI(x:As [.int .u8,.int .u8]):Option cW:=awH x.1 x.2.1
theorem WI:ak Tryz.prog (fun _=>True) 166 ⟨ag6,kI⟩:=ctn av 6 fun J x=>by kernel_rfl
@[reducible] def ag7:Sh:=⟨[.d (.sl .bool),.d (.sl .bool)],[],[.sl .bool,.sl .bool],[.d (.bool)],[],0,[.bool]⟩
def ag8:Env:=(cts [])
def ag9:List (Nat×Hint):=[(58,⟨[],[0,1,12,13]⟩)]
def WJ(s1 s2:List Bool)(t12 t13:Int):St:=⟨[(0,.d (.sl .bool) s1),(1,.d (.sl .bool) s2),(12,dI t12),(13,dI t13)],26,[],[],0,[],0⟩
@[reducible] def zG0:Type:=List Bool->List Bool->Int->Int->Option aE
def Ob(self1:zG0)(s1 s2:List Bool)(t12 t13:Int):Option aE :=
 if lt t13 t12=true then zC (at? s1 t13) fun y=>zC (at? s2 t13) fun y_1=>if Sx.neb y y_1=true then some (false,()) else self1 s1 s2 t12 (add .i64 t13 1) else some (true,())
def WK(j1:zG0)(s1 s2:List Bool):Option aE :=
 if nei (zF (zG s1)) (zF (zG s2))=true then some (false,()) else j1 s1 s2 (zF (zG s1)) 0
def Oc(s1 s2:List Bool)(t12 t13:Int):Option aE :=
 cu (fun self s=>Ob (fun s1 s2 t12 t13=>self (s1,s2,t12,t13)) s.1 s.2.1 s.2.2.1 s.2.2.2) 18446744073709551616 (s1,s2,t12,t13)
def Od(x:As [.sl .bool,.sl .bool]):Option aE:=WK Oc x.1 x.2.1
abbrev pDp:=zp ag8 ag9 59 ag7
theorem awI{J w1 a b c d}:pDp J 58 [w1] (WJ a b c d)=Ob (C w1 WJ) a b c d:=by kernel_rfl
abbrev pDo:=zj ag8 ag9 59 ag7
theorem awJ:C (pDo 58 []) WJ=Oc:=gLC (by decide) (by kernel_rfl) (fun _=>by unfold Oc;rfl) fun _ _=>awI.trans (by kernel_rfl)
theorem awK:ak Tryz.prog (fun _=>True) 59 ⟨ag7,Od⟩:=zcc (env:=ag8) (d:=6) (hs:=Ev.get ag9) av (fun J x=>WK (C (J 58 []) WJ) x.1 x.2.1) (fun _ _=>by kernel_rfl) fun _=>by rw[awJ]<;>rfl
@[reducible] def aoC:Sh:=⟨[.d aP,.d aP],[],[.pr (.int .u8) nC,.pr (.int .u8) nC],[.d (.bool)],[],0,[.bool]⟩
def aha(a b:jI):Option aE :=
 if eqi a.1 b.1=true then if eqi a.2.1 b.2.1=true then if eqi a.2.2.2.2.1 b.2.2.2.2.1=true then if eqi a.2.2.2.2.2 b.2.2.2.2.2=true then zC (Od (a.2.2.1,b.2.2.1,())) fun y=>if y.1=true then zC (wZ (a.2.2.2.1,b.2.2.2.1,())) fun y=>some (y.1,()) else some (false,()) else some (false,()) else some (false,()) else some (false,()) else some (false,())
def vo(x:As [.pr (.int .u8) nC,.pr (.int .u8) nC]):Option aE:=aha x.1 x.2.1
theorem Ep:ak Tryz.prog (fun _=>True) 202 ⟨aoC,vo⟩:=ctn (aj awK (aj V5 av)) 6 fun J x=>by kernel_rfl
@[reducible] def bD:List Ty:=[.un,.pr (.int .u8) nC]
@[reducible] def asB:Sh:=⟨[.d (.un),.d aP],[],bD,[.d (.bool)],[],0,[.bool]⟩
def ahb(v:Unit)(r:jI):Option aE :=
 if lt r.1 128=true then if ge r.2.1 1=true then if le r.2.1 4=true then zC (kI (r.1,r.2.1,())) fun y=>zC (vo (r,y.1,())) fun y=>some (y.1,()) else some (false,()) else some (false,()) else some (false,())
def Er(x:As bD):Option aE:=ahb x.1 x.2.1
theorem ahc:ak Tryz.prog (fun _=>True) 318 ⟨asB,Er⟩:=ctn (aj WI (aj Ep av)) 6 fun J x=>by kernel_rfl
@[reducible] def asC:Sh:=⟨[.d (.un),.d aP],[],bD,[.d (.bool)],[],0,[.bool]⟩
def ahd(v:Unit)(r:jI):Option aE :=
 if ge (zF (zG r.2.2.1)) 8=true then if le (zF (zG r.2.2.1)) 2000=true then if eqi (rem (zF (zG r.2.2.1)) 8) 0=true then zC (vo (r,(r.1,0,r.2.2.1,[],0,0),())) fun y=>some (y.1,()) else some (false,()) else some (false,()) else some (false,())
def w9(x:As bD):Option aE:=ahd x.1 x.2.1
theorem ahe:ak Tryz.prog (fun _=>True) 321 ⟨asC,w9⟩:=ctn (aj Ep av) 6 fun J x=>by kernel_rfl
@[reducible] def asD:Sh:=⟨[.d (.un),.d aP],[],bD,[.d (.bool)],[],0,[.bool]⟩
def ahf(v:Unit)(r:jI):Option aE :=
 if ge (zF (zG r.2.2.2.1)) 1=true then if le (zF (zG r.2.2.2.1)) 125=true then zC (vo (r,(r.1,0,[],r.2.2.2.1,0,0),())) fun y=>some (y.1,()) else some (false,()) else some (false,())
def xV(x:As bD):Option aE:=ahf x.1 x.2.1
theorem ahg:ak Tryz.prog (fun _=>True) 324 ⟨asD,xV⟩:=ctn (aj Ep av) 6 fun J x=>by kernel_rfl
@[reducible] def asE:Sh:=⟨[.d (.un),.d aP],[],bD,[.d (.bool)],[],0,[.bool]⟩
def ahh(v:Unit)(r:jI):Option aE :=
 if eqi (zF (zG r.2.2.1)) 1=true then zC (vo (r,(r.1,0,r.2.2.1,[],r.2.2.2.2.1,0),())) fun y=>some (y.1,()) else some (false,())
def Es(x:As bD):Option aE:=ahh x.1 x.2.1
theorem ahi:ak Tryz.prog (fun _=>True) 329 ⟨asE,Es⟩:=ctn (aj Ep av) 6 fun J x=>by kernel_rfl
@[reducible] def asF:Sh:=⟨[.d (.un),.d aP],[],bD,[.d (.bool)],[],0,[.bool]⟩
def ahj(v:Unit)(r:jI):Option aE :=
 if eqi (zF (zG r.2.2.2.1)) 1=true then zC (vo (r,(r.1,0,[],r.2.2.2.1,r.2.2.2.2.1,0),())) fun y=>some (y.1,()) else some (false,())
def Et(x:As bD):Option aE:=ahj x.1 x.2.1
theorem ahk:ak Tryz.prog (fun _=>True) 332 ⟨asF,Et⟩:=ctn (aj Ep av) 6 fun J x=>by kernel_rfl
@[reducible] def asG:Sh:=⟨[.d (.wr (.int .u16)),.d aP],[],[.wr (.int .u16),.pr (.int .u8) nC],[.d (.bool)],[],0,[.bool]⟩
def ahl(k:Int)(r:jI):Option aE :=
 if ge r.2.2.2.2.2 1=true then if le r.2.2.2.2.2 k=true then zC (vo (r,(r.1,0,[],[],r.2.2.2.2),())) fun y=>some (y.1,()) else some (false,()) else some (false,())
def xg(x:As [.wr (.int .u16),.pr (.int .u8) nC]):Option aE:=ahl x.1 x.2.1
theorem ahm:ak Tryz.prog (fun _=>True) 335 ⟨asG,xg⟩:=ctn (aj Ep av) 6 fun J x=>by kernel_rfl
@[reducible] def aoD:Sh:=⟨[.d aP],[],aS,[.d (.bool)],[],0,[.bool]⟩
def ahn(r:jI):Option aE :=
 if nei r.2.1 0=true then zC (Er ((),r,())) fun y=>some (y.1,()) else if eqi r.1 1=true then zC (w9 ((),r,())) fun y=>some (y.1,()) else if eqi r.1 2=true then zC (w9 ((),r,())) fun y=>some (y.1,()) else if eqi r.1 3=true then zC (xV ((),r,())) fun y=>some (y.1,()) else if eqi r.1 4=true then zC (xV ((),r,())) fun y=>some (y.1,()) else if eqi r.1 23=true then zC (xV ((),r,())) fun y=>some (y.1,()) else if eqi r.1 5=true then zC (Es ((),r,())) fun y=>some (y.1,()) else if eqi r.1 6=true then zC (Et ((),r,())) fun y=>some (y.1,()) else if eqi r.1 15=true then zC (xg (1968,r,())) fun y=>some (y.1,()) else if eqi r.1 16=true then zC (xg (123,r,())) fun y=>some (y.1,()) else some (false,())
def WM(x:As aS):Option aE:=ahn x.1
theorem awL:ak Tryz.prog (fun _=>True) 200 ⟨aoD,WM⟩:=ctn (aj ahc (aj ahe (aj ahg (aj ahi (aj ahk (aj ahm av)))))) 6 fun J x=>by kernel_rfl
@[reducible] def bK:List Ty:=[.pr (.int .u8) nC,.bool]
@[reducible] def Ia:Sh:=⟨[.d bA],[],aW,[.d aP,.d (.bool)],[],0,bK⟩
def aho:Env:=(cts [(105,(⟨Ee,vg⟩:Ct))])
def ahp:List (Nat×Hint):=[(15,⟨[.rwb 4 2 4,.rwb 4 3 25],[2,4]⟩),(1967,⟨[],[1,2,4,33]⟩)]
def WN(t2 t2_2 t2_3 t2_4 r r_2 r_3 r_4:Int)(o:List Bool)(o_2:List Int):St:=⟨[(2,.pb 0 0),(4,.pb 1 0)],40,[],[(0,.box 109 [d8 t2,d8 t2_2,.k (zK zH 0 0),.k (zK zH 0 0),d6 t2_3,d6 t2_4]),(1,.box 109 [d8 r,d8 r_2,.row 2,.row 3,d6 r_3,d6 r_4]),(2,.row .bool 4 o),(3,.row (.int .u16) 25 o_2)],4,[],0⟩
def ahq(t33:Bool)(a a_2 a_3 a_4:Int)(a_5:List Int)(a_6:List Bool)(t2 t2_2 t2_3 t2_4 r r_2 r_3 r_4:Int):St:=⟨[(1,.pb 0 0),(2,.pb 1 0),(4,.pb 2 0),(33,dB t33)],40,[],[(0,.box 27 [d8 a,d6 a_2,d6 a_3,d6 a_4,dW a_5,.d (.sl .bool) a_6]),(1,.box 109 [d8 t2,d8 t2_2,.k (zK zH 0 0),.k (zK zH 0 0),d6 t2_3,d6 t2_4]),(2,.box 109 [d8 r,d8 r_2,.k (zK zH 0 0),.k (zK zH 0 0),d6 r_3,d6 r_4])],3,[],0⟩
@[reducible] def eW:Type:=As bK
def aoE(t2 t2_2 t2_3 t2_4 r r_2 r_3 r_4:Int)(o:List Bool)(o_2:List Int):Option eW :=
 some ((r,r_2,o,o_2,r_3,r_4),true,())
@[reducible] def zG1:Type:=Int->Int->Int->Int->Int->Int->Int->Int->List Bool->List Int->Option eW
def aoF(j1:zG1)(t33:Bool)(a a_2 a_3 a_4:Int)(a_5:List Int)(a_6:List Bool)(t2 t2_2 t2_3 t2_4 r r_2 r_3 r_4:Int):Option eW :=
 if t33=true then j1 t2 t2_2 t2_3 t2_4 r r_2 r_3 a_3 [] [] else some ((0,0,[],[],0,0),false,())
def Ib(j1:zG1)(j2:Bool->Int->Int->Int->Int->List Int->List Bool->Int->Int->Int->Int->Int->Int->Int->Int->Option eW)(a:Int×Int×Int×Int×List Int×List Bool):Option eW :=
 zC (vg (a,())) fun y=>if (!y.1)=true then some ((0,0,[],[],0,0),false,()) else if eqi a.1 5=true then zC (at? a.2.2.2.2.2 0) fun y=>j1 0 0 0 0 a.1 0 a.2.1 0 [y] [] else if eqi a.1 6=true then zC (at? a.2.2.2.2.1 0) fun y=>j1 0 0 0 0 a.1 0 a.2.1 0 [] [y] else if eqi a.1 15=true then j2 true a.1 a.2.1 a.2.2.1 a.2.2.2.1 a.2.2.2.2.1 a.2.2.2.2.2 0 0 0 0 a.1 0 a.2.1 0 else j2 (eqi a.1 16) a.1 a.2.1 a.2.2.1 a.2.2.2.1 a.2.2.2.2.1 a.2.2.2.2.2 0 0 0 0 a.1 0 a.2.1 0
def Oe:=aoE
def WO:=aoF (Oe)
def vw(x:As aW):Option eW:=Ib Oe WO x.1
abbrev pCv:=zp aho ahp 201 Ia
theorem awM{J a b c d e f g h i j}:pCv J 15 [] (WN a b c d e f g h i j)=aoE a b c d e f g h i j:=by kernel_rfl
theorem awN{J a b c d e f g h i j k l m n o}:pCv J 1967 [] (ahq a b c d e f g h i j k l m n o)=aoF (C (J 15 []) WN) a b c d e f g h i j k l m n o:=by kernel_rfl
abbrev pCu:=zj aho ahp 201 Ia
theorem aoG:C (pCu 15 []) WN=Oe:=gNC (by decide) fun _=>awM
theorem awO:C (pCu 1967 []) ahq=WO:=gNC (by decide) fun _=>awN.trans (by rw[aoG]<;>kernel_rfl)
theorem ahr:ak Tryz.prog (fun _=>True) 201 ⟨Ia,vw⟩:=zcc (env:=aho) (d:=6) (hs:=Ev.get ahp) (aj Nf av) (fun J x=>Ib (C (J 15 []) WN) (C (J 1967 []) ahq) x.1) (fun _ _=>by kernel_rfl) fun _=>by rw[aoG,awO]<;>rfl
@[reducible] def WQ:Sh:=⟨[.d bA,.d aP],[],[.pr (.int .u8) kF,.pr (.int .u8) nC],[.d (.bool)],[],0,[.bool]⟩
def ahs:Env:=(cts [(105,(⟨Ee,vg⟩:Ct)),(199,(⟨WH,Bj⟩:Ct)),(200,(⟨aoD,WM⟩:Ct)),(201,(⟨Ia,vw⟩:Ct)),(202,(⟨aoC,vo⟩:Ct))])
def aht:List (Nat×Hint):=[(6,⟨[],[2,3,22,51,52,53,54,55,56]⟩)]
def ahu(t22:Bool)(a a_2 a_3 a_4:Int)(a_5:List Int)(a_6:List Bool)(r r_2:Int)(r_3:List Bool)(r_4:List Int)(r_5 r_6:Int):St:=⟨[(2,.pb 0 0),(3,.pb 1 0),(22,dB t22)],63,[],[(0,.box 27 [d8 a,d6 a_2,d6 a_3,d6 a_4,dW a_5,.d (.sl .bool) a_6]),(1,.box 109 [d8 r,d8 r_2,.d (.sl .bool) r_3,dW r_4,d6 r_5,d6 r_6])],2,[],0⟩
def ahv(t22:Bool)(a a_2 a_3 a_4:Int)(a_5:List Int)(a_6:List Bool)(r r_2:Int)(r_3:List Bool)(r_4:List Int)(r_5 r_6:Int):Option aE :=
 if t22=true then some (false,()) else if nei r_2 0=true then some (true,()) else zC (vw ((a,a_2,a_3,a_4,a_5,a_6),())) fun y=>if y.2.1=true then zC (vo (y.1,(r,r_2,r_3,r_4,r_5,r_6),())) fun y=>some (y.1,()) else if gt (zF (zG r_3)) 0=true then if eqi (zF (zG r_3)) (mul .i64 (quo .i64 (add .i64 (cvt .i64 a_3) 7) 8) 8)=true then zC (cut r_3 (cvt .i64 a_3) (zF (zG r_3))) fun y=>zC (Bj (y,true,())) fun y=>some (!y.1,()) else some (false,()) else some (eqi (zF (zG r_4)) (cvt .i64 a_3),())
def WR(j1:Bool->Int->Int->Int->Int->List Int->List Bool->Int->Int->List Bool->List Int->Int->Int->Option aE)(a:Int×Int×Int×Int×List Int×List Bool)(r:jI):Option aE :=
 zC (vg (a,())) fun y=>if (!y.1)=true then j1 true a.1 a.2.1 a.2.2.1 a.2.2.2.1 a.2.2.2.2.1 a.2.2.2.2.2 r.1 r.2.1 r.2.2.1 r.2.2.2.1 r.2.2.2.2.1 r.2.2.2.2.2 else zC (WM (r,())) fun y=>if (!y.1)=true then j1 true a.1 a.2.1 a.2.2.1 a.2.2.2.1 a.2.2.2.2.1 a.2.2.2.2.2 r.1 r.2.1 r.2.2.1 r.2.2.2.1 r.2.2.2.2.1 r.2.2.2.2.2 else j1 (nei a.1 r.1) a.1 a.2.1 a.2.2.1 a.2.2.2.1 a.2.2.2.2.1 a.2.2.2.2.2 r.1 r.2.1 r.2.2.1 r.2.2.2.1 r.2.2.2.2.1 r.2.2.2.2.2
def Og:=ahv
def Oh(x:As [.pr (.int .u8) kF,.pr (.int .u8) nC]):Option aE:=WR Og x.1 x.2.1
abbrev pCx:=zp ahs aht 154 WQ
theorem awP{J a b c d e f g h i j k l m}:pCx J 6 [] (ahu a b c d e f g h i j k l m)=ahv a b c d e f g h i j k l m:=by kernel_rfl
abbrev pCw:=zj ahs aht 154 WQ
theorem awQ:C (pCw 6 []) ahu=Og:=gNC (by decide) fun _=>awP
theorem awR:ak Tryz.prog (fun _=>True) 154 ⟨WQ,Oh⟩:=zcc (env:=ahs) (d:=6) (hs:=Ev.get aht) (aj Nf (aj ag5 (aj awL (aj ahr (aj Ep av))))) (fun J x=>WR (C (J 6 []) ahu) x.1 x.2.1) (fun _ _=>by kernel_rfl) fun _=>by rw[awQ]<;>rfl
@[reducible] def ahw:Sh:=⟨[.d aJ,.d aJ],[],[.sl (.int .u8),.sl (.int .u8)],[.d (.bool)],[],0,[.bool]⟩
def awS(a b:List Int):Option aE :=
 some (eqs (Sx.toS a) (Sx.toS b),())
def oK(x:As [.sl (.int .u8),.sl (.int .u8)]):Option aE:=awS x.1 x.2.1
theorem aoH:ak Tryz.prog (fun _=>True) 112 ⟨ahw,oK⟩:=ctn av 6 fun J x=>by kernel_rfl
@[reducible] def cY:List Ty:=[.un,.sl (.int .u8)]
@[reducible] def asH:Sh:=⟨[.d (.un),.d aJ],[],cY,[.d aP],[],0,aS⟩
def aDC(v:Unit)(b:List Int):Option cW :=
 zC (at? b 0) fun y=>zC (at? b 1) fun y_1=>zC (kI (y,y_1,())) fun y=>some (y.1,())
def WS(x:As cY):Option cW:=aDC x.1 x.2.1
theorem aDD:ak Tryz.prog (fun _=>True) 317 ⟨asH,WS⟩:=ctn (aj WI av) 6 fun J x=>by kernel_rfl
@[reducible] def asI:Sh:=⟨[.d (.un),.d aP],[],bD,[.d aJ],[],0,aI⟩
def aDE(v:Unit)(r:jI):Option bU :=
 some ([add .u8 r.1 128,r.2.1],())
def Ic(x:As bD):Option bU:=aDE x.1 x.2.1
theorem asJ:ak Tryz.prog (fun _=>True) 319 ⟨asI,Ic⟩:=ctn av 6 fun J x=>by kernel_rfl
@[reducible] def WT:Sh:=⟨[.d aJ],[],aI,[.d (.sl .bool)],[],0,[.sl .bool]⟩
def ahx:Env:=(cts [])
def ahy:List (Nat×Hint):=[(58,⟨[],[0,3,10,11]⟩)]
def WU(b:List Int)(t10 t11:Int)(out:List Bool):St:=⟨[(0,dL b),(3,.row 0),(10,dI t10),(11,dI t11)],29,[],[(0,.row .bool 4 out)],1,[],0⟩
@[reducible] def zG2:Type:=List Int->Int->Int->List Bool->Option dK
def Oi(self1:zG2)(b:List Int)(t10 t11:Int)(out:List Bool):Option dK :=
 if lt t11 t10=true then zC (at? b (quo .i64 t11 8)) fun y=>need (ge (rem t11 8) 0) (zC (at? out t11) fun x=>zC (at? out t11) fun x=>self1 b t10 (add .i64 t11 1) (List.set out (zI t11) (eqi (Sx.kZ .u8 (Sx.shr .u8 y (rem t11 8)) 1) 1))) else some (out,())
def WV(j1:zG2)(b:List Int):Option dK :=
 need (ge (mul .i64 8 (zF (zG b))) 0) (need (Ev.jC (mul .i64 8 (zF (zG b))) (mul .i64 8 (zF (zG b)))) (need (small (zI (mul .i64 8 (zF (zG b))))) (j1 b (zF (zG (zE (zI (mul .i64 8 (zF (zG b)))) false))) 0 (zE (zI (mul .i64 8 (zF (zG b)))) false))))
def Oj(b:List Int)(t10 t11:Int)(out:List Bool):Option dK :=
 cu (fun self s=>Oi (fun b t10 t11 out=>self (b,t10,t11,out)) s.1 s.2.1 s.2.2.1 s.2.2.2) 18446744073709551616 (b,t10,t11,out)
def Ie(x:As aI):Option dK:=WV Oj x.1
abbrev pAx:=zp ahx ahy 288 WT
theorem awT{J w1 a b c d}:pAx J 58 [w1] (WU a b c d)=Oi (C w1 WU) a b c d:=by kernel_rfl
abbrev pAw:=zj ahx ahy 288 WT
theorem awU:C (pAw 58 []) WU=Oj:=gLC (by decide) (by kernel_rfl) (fun _=>by unfold Oj;rfl) fun _ _=>awT.trans (by kernel_rfl)
theorem aoI:ak Tryz.prog (fun _=>True) 288 ⟨WT,Ie⟩:=zcc (env:=ahx) (d:=6) (hs:=Ev.get ahy) av (fun J x=>WV (C (J 58 []) WU) x.1) (fun _ _=>by kernel_rfl) fun _=>by rw[awU]<;>rfl
@[reducible] def asK:Sh:=⟨[.d (.un),.d aJ],[],cY,[.d aP],[],0,aS⟩
def ahz(v:Unit)(b:List Int):Option cW :=
 zC (at? b 0) fun y=>zC (cut b 2 (zF (zG b))) fun y_1=>zC (Ie (y_1,())) fun y_2=>some ((y,0,y_2.1,[],0,0),())
def Ol(x:As cY):Option cW:=ahz x.1 x.2.1
theorem awV:ak Tryz.prog (fun _=>True) 320 ⟨asK,Ol⟩:=ctn (aj aoI av) 6 fun J x=>by kernel_rfl
@[reducible] def asL:Sh:=⟨[.d (.un),.d aP],[],bD,[.d aJ],[],0,aI⟩
def ahA(v:Unit)(r:jI):Option bU :=
 zC (Hl (r.2.2.1,())) fun y=>need (small (Nat.succ (Nat.succ 0)+zG y.1)) (some (r.1::cvt .u8 (zF (zG y.1))::y.1,()))
def Bl(x:As bD):Option bU:=ahA x.1 x.2.1
theorem asM:ak Tryz.prog (fun _=>True) 322 ⟨asL,Bl⟩:=ctn (aj anP av) 6 fun J x=>by kernel_rfl
@[reducible] def ahB:Sh:=⟨[.d aJ],[],aI,[.d aB],[],0,aK⟩
def ahC:Env:=(cts [])
def ahD:List (Nat×Hint):=[(58,⟨[],[0,3,10,11]⟩)]
def WW(b:List Int)(t10 t11:Int)(l:List Int):St:=⟨[(0,dL b),(3,.row 0),(10,dI t10),(11,dI t11)],34,[],[(0,.row (.int .u16) 25 l)],1,[],0⟩
@[reducible] def zG3:Type:=List Int->Int->Int->List Int->Option bM
def Om(self1:zG3)(b:List Int)(t10 t11:Int)(l:List Int):Option bM :=
 if lt t11 t10=true then zC (at? b (mul .i64 2 t11)) fun y=>zC (at? b (add .i64 (mul .i64 2 t11) 1)) fun y_1=>zC (at? l t11) fun x=>zC (at? l t11) fun x=>self1 b t10 (add .i64 t11 1) (List.set l (zI t11) (Sx.bor .u16 (Sx.shl .u16 (cvt .u16 y) 8) (cvt .u16 y_1))) else some (l,())
def WX(j1:zG3)(b:List Int):Option bM :=
 need (ge (quo .i64 (zF (zG b)) 2) 0) (need (Ev.jC (quo .i64 (zF (zG b)) 2) (quo .i64 (zF (zG b)) 2)) (need (small (zI (quo .i64 (zF (zG b)) 2))) (j1 b (zF (zG (zE (α:=Int) (zI (quo .i64 (zF (zG b)) 2)) 0))) 0 (zE (zI (quo .i64 (zF (zG b)) 2)) 0))))
def Oo(b:List Int)(t10 t11:Int)(l:List Int):Option bM :=
 cu (fun self s=>Om (fun b t10 t11 l=>self (b,t10,t11,l)) s.1 s.2.1 s.2.2.1 s.2.2.2) 18446744073709551616 (b,t10,t11,l)
def Ig(x:As aI):Option bM:=WX Oo x.1
abbrev pC1:=zp ahC ahD 326 ahB
theorem awW{J w1 a b c d}:pC1 J 58 [w1] (WW a b c d)=Om (C w1 WW) a b c d:=by kernel_rfl
abbrev pC0:=zj ahC ahD 326 ahB
theorem awX:C (pC0 58 []) WW=Oo:=gLC (by decide) (by kernel_rfl) (fun _=>by unfold Oo;rfl) fun _ _=>awW.trans (by kernel_rfl)
theorem WZ:ak Tryz.prog (fun _=>True) 326 ⟨ahB,Ig⟩:=zcc (env:=ahC) (d:=6) (hs:=Ev.get ahD) av (fun J x=>WX (C (J 58 []) WW) x.1) (fun _ _=>by kernel_rfl) fun _=>by rw[awX]<;>rfl
@[reducible] def asN:Sh:=⟨[.d (.un),.d aJ],[],cY,[.d aP],[],0,aS⟩
def ahE(v:Unit)(b:List Int):Option cW :=
 zC (at? b 0) fun y=>zC (cut b 2 (zF (zG b))) fun y_1=>zC (Ig (y_1,())) fun y_2=>some ((y,0,[],y_2.1,0,0),())
def Ih(x:As cY):Option cW:=ahE x.1 x.2.1
theorem awY:ak Tryz.prog (fun _=>True) 323 ⟨asN,Ih⟩:=ctn (aj WZ av) 6 fun J x=>by kernel_rfl
@[reducible] def W9:Sh:=⟨[.row 0,.d aB],[.row (.int .u8) 5],eR,[.row 1],[(1,.row (.int .u8) 5)],1,aI⟩
def ahF:Env:=(cts [])
def ahG:List (Nat×Hint):=[(26,⟨[.unl 0],[0,7,8,9]⟩)]
def Xa(t7:List Int)(t8 t9:Int)(out:List Int):St:=⟨[(0,.row 1),(7,dW t7),(8,dI t8),(9,dI t9)],23,[],[(1,.row (.int .u8) 5 out)],2,[],1⟩
@[reducible] def zG4:Type:=List Int->Int->Int->List Int->Option bU
def Ot(self1:zG4)(t7:List Int)(t8 t9:Int)(out:List Int):Option bU :=
 if lt t9 t8=true then zC (at? t7 t9) fun y=>need (small (zG out+Nat.succ (Nat.succ 0))) (self1 t7 t8 (add .i64 t9 1) (out++[cvt .u8 (Sx.shr .u16 y 8),cvt .u8 y])) else some (out,())
def Xb(j1:zG4)(out l:List Int):Option bU :=
 j1 out (zF (zG out)) 0 l
def Ou(t7:List Int)(t8 t9:Int)(out:List Int):Option bU :=
 cu (fun self s=>Ot (fun t7 t8 t9 out=>self (t7,t8,t9,out)) s.1 s.2.1 s.2.2.1 s.2.2.2) 18446744073709551616 (t7,t8,t9,out)
def Bn(x:As eR):Option bU:=Xb Ou x.1 x.2.1
abbrev pC3:=zp ahF ahG 327 W9
theorem awZ{J w1 a b c d}:pC3 J 26 [w1] (Xa a b c d)=Ot (C w1 Xa) a b c d:=by kernel_rfl
abbrev pC2:=zj ahF ahG 327 W9
theorem aw0:C (pC2 26 []) Xa=Ou:=gLC (by decide) (by kernel_rfl) (fun _=>by unfold Ou;rfl) fun _ _=>awZ.trans (by kernel_rfl)
theorem Xc:ak Tryz.prog (fun _=>True) 327 ⟨W9,Bn⟩:=zcc (env:=ahF) (d:=6) (hs:=Ev.get ahG) av (fun J x=>Xb (C (J 26 []) Xa) x.1 x.2.1) (fun _ _=>by kernel_rfl) fun _=>by rw[aw0]<;>rfl
@[reducible] def asO:Sh:=⟨[.d (.un),.d aP],[],bD,[.d aJ],[],0,aI⟩
def ahH(v:Unit)(r:jI):Option bU :=
 zC (Bn (r.2.2.2.1,[r.1,cvt .u8 (mul .i64 2 (zF (zG r.2.2.2.1)))],())) fun y=>some (y.1,())
def xq(x:As bD):Option bU:=ahH x.1 x.2.1
theorem asP:ak Tryz.prog (fun _=>True) 325 ⟨asO,xq⟩:=ctn (aj Xc av) 6 fun J x=>by kernel_rfl
@[reducible] def asQ:Sh:=⟨[.d (.un),.d aJ],[],cY,[.d aP],[],0,aS⟩
def ahI(v:Unit)(b:List Int):Option cW :=
 zC (cut b 1 (zF (zG b))) fun y=>zC (Ig (y,())) fun y=>if lt (zF (zG y.1)) 2=true then some ((0,0,[],[],0,0),()) else zC (at? b 0) fun y_1=>zC (at? y.1 0) fun y_2=>zC (at? y.1 1) fun y=>some ((y_1,0,[eqi y 65280],[],y_2,0),())
def Xd(x:As cY):Option cW:=ahI x.1 x.2.1
theorem aw1:ak Tryz.prog (fun _=>True) 328 ⟨asQ,Xd⟩:=ctn (aj WZ av) 6 fun J x=>by kernel_rfl
@[reducible] def Xe:Sh:=⟨[.d (.un),.d aP],[],bD,[.d aJ],[],0,aI⟩
def ahJ:Env:=(cts [(327,(⟨W9,Bn⟩:Ct))])
def ahK:List (Nat×Hint):=[(7,⟨[],[3,5]⟩)]
def ahL(x r r_2:Int)(r_3:List Bool)(r_4:List Int)(r_5 r_6:Int):St:=⟨[(3,.pb 0 0),(5,d6 x)],18,[],[(0,.box 109 [d8 r,d8 r_2,.d (.sl .bool) r_3,dW r_4,d6 r_5,d6 r_6])],1,[],0⟩
def ahM(x r r_2:Int)(r_3:List Bool)(r_4:List Int)(r_5 r_6:Int):Option bU :=
 zC (Bn ([r_5,x],[r],())) fun y=>some (y.1,())
def Xf(j1:Int->Int->Int->List Bool->List Int->Int->Int->Option bU)(v:Unit)(r:jI):Option bU :=
 zC (at? r.2.2.1 0) fun y=>if y=true then j1 65280 r.1 r.2.1 r.2.2.1 r.2.2.2.1 r.2.2.2.2.1 r.2.2.2.2.2 else j1 0 r.1 r.2.1 r.2.2.1 r.2.2.2.1 r.2.2.2.2.1 r.2.2.2.2.2
def Ov:=ahM
def Ii(x:As bD):Option bU:=Xf Ov x.1 x.2.1
abbrev pC5:=zp ahJ ahK 330 Xe
theorem aw2{J a b c d e f g}:pC5 J 7 [] (ahL a b c d e f g)=ahM a b c d e f g:=by kernel_rfl
abbrev pC4:=zj ahJ ahK 330 Xe
theorem aw3:C (pC4 7 []) ahL=Ov:=gNC (by decide) fun _=>aw2
theorem asR:ak Tryz.prog (fun _=>True) 330 ⟨Xe,Ii⟩:=zcc (env:=ahJ) (d:=6) (hs:=Ev.get ahK) (aj Xc av) (fun J x=>Xf (C (J 7 []) ahL) x.1 x.2.1) (fun _ _=>by kernel_rfl) fun _=>by rw[aw3]<;>rfl
@[reducible] def asS:Sh:=⟨[.d (.un),.d aJ],[],cY,[.d aP],[],0,aS⟩
def ahN(v:Unit)(b:List Int):Option cW :=
 zC (cut b 1 (zF (zG b))) fun y=>zC (Ig (y,())) fun y=>if lt (zF (zG y.1)) 2=true then some ((0,0,[],[],0,0),()) else zC (at? b 0) fun y_1=>zC (at? y.1 0) fun y_2=>zC (at? y.1 1) fun y=>some ((y_1,0,[],[y],y_2,0),())
def Xg(x:As cY):Option cW:=ahN x.1 x.2.1
theorem aw4:ak Tryz.prog (fun _=>True) 331 ⟨asS,Xg⟩:=ctn (aj WZ av) 6 fun J x=>by kernel_rfl
@[reducible] def ahO:Sh:=⟨[.d (.un),.d aP],[],bD,[.d aJ],[],0,aI⟩
def ahP(v:Unit)(r:jI):Option bU :=
 zC (at? r.2.2.2.1 0) fun y=>amb (au ahO.rs) [zC (Bn ([r.2.2.2.2.1,y],[r.1],())) fun y=>some (y.1,()),zC (Bn ([r.2.2.2.2.1,y],[r.1],())) fun y=>some (y.1,())]
def Ij(x:As bD):Option bU:=ahP x.1 x.2.1
theorem asT:ak Tryz.prog (fun _=>True) 333 ⟨ahO,Ij⟩:=ctn (aj Xc av) 6 fun J x=>by kernel_rfl
@[reducible] def asU:Sh:=⟨[.d (.wr (.int .u16)),.d aJ],[],[.wr (.int .u16),.sl (.int .u8)],[.d aP],[],0,aS⟩
def ahQ(v:Int)(b:List Int):Option cW :=
 zC (cut b 1 (zF (zG b))) fun y=>zC (Ig (y,())) fun y=>if lt (zF (zG y.1)) 2=true then some ((0,0,[],[],0,0),()) else zC (at? b 0) fun y_1=>zC (at? y.1 0) fun y_2=>zC (at? y.1 1) fun y=>some ((y_1,0,[],[],y_2,y),())
def Ox(x:As [.wr (.int .u16),.sl (.int .u8)]):Option cW:=ahQ x.1 x.2.1
theorem aw5:ak Tryz.prog (fun _=>True) 334 ⟨asU,Ox⟩:=ctn (aj WZ av) 6 fun J x=>by kernel_rfl
@[reducible] def asV:Sh:=⟨[.d (.wr (.int .u16)),.d aP],[],[.wr (.int .u16),.pr (.int .u8) nC],[.d aJ],[],0,aI⟩
def ahR(v:Int)(r:jI):Option bU :=
 zC (Bn ([r.2.2.2.2.1,r.2.2.2.2.2],[r.1],())) fun y=>some (y.1,())
def Bp(x:As [.wr (.int .u16),.pr (.int .u8) nC]):Option bU:=ahR x.1 x.2.1
theorem asW:ak Tryz.prog (fun _=>True) 336 ⟨asV,Bp⟩:=ctn (aj Xc av) 6 fun J x=>by kernel_rfl
@[reducible] def cO:List Ty:=[.pr (.int .u8) nC,.int .i64]
@[reducible] def Xh:Sh:=⟨[.d aJ],[],aI,[.d aP,.d (.int .i64)],[],0,cO⟩
def ahS:Env:=(cts [(112,(⟨ahw,oK⟩:Ct)),(317,(⟨asH,WS⟩:Ct)),(318,(⟨asB,Er⟩:Ct)),(319,(⟨asI,Ic⟩:Ct)),(320,(⟨asK,Ol⟩:Ct)),(321,(⟨asC,w9⟩:Ct)),(322,(⟨asL,Bl⟩:Ct)),(323,(⟨asN,Ih⟩:Ct)),(324,(⟨asD,xV⟩:Ct)),(325,(⟨asO,xq⟩:Ct)),(328,(⟨asQ,Xd⟩:Ct)),(329,(⟨asE,Es⟩:Ct)),(330,(⟨Xe,Ii⟩:Ct)),(331,(⟨asS,Xg⟩:Ct)),(332,(⟨asF,Et⟩:Ct)),(333,(⟨ahO,Ij⟩:Ct)),(334,(⟨asU,Ox⟩:Ct)),(335,(⟨asG,xg⟩:Ct)),(336,(⟨asV,Bp⟩:Ct))])
def ahT:List (Nat×Hint):=[(6,⟨[],[0,2,15,42,43,44,45,46,47]⟩)]
def ahU(b:List Int)(t15:Bool)(t2 t2_2 t2_3 t2_4:Int):St:=⟨[(0,dL b),(2,.pb 0 0),(15,dB t15)],51,[],[(0,.box 109 [d8 t2,d8 t2_2,.k (zK zH 0 0),.k (zK zH 0 0),d6 t2_3,d6 t2_4])],1,[],0⟩
def ahV(b:List Int)(t15:Bool)(t2 t2_2 t2_3 t2_4:Int):Option (As cO) :=
 if t15=true then some ((0,0,[],[],0,0),13,()) else zC (at? b 0) fun y=>if lt y 128=true then zC (at? b 0) fun y=>if eqi y 1=true then zC (Ol ((),b,())) fun y=>zC (w9 ((),y.1,())) fun y_1=>if (!y_1.1)=true then some ((0,0,[],[],0,0),13,()) else zC (Bl ((),y.1,())) fun y_2=>zC (oK (y_2.1,b,())) fun y_3=>if (!y_3.1)=true then some ((0,0,[],[],0,0),13,()) else some (y.1,0,()) else if eqi y 2=true then zC (Ol ((),b,())) fun y=>zC (w9 ((),y.1,())) fun y_1=>if (!y_1.1)=true then some ((0,0,[],[],0,0),13,()) else zC (Bl ((),y.1,())) fun y_2=>zC (oK (y_2.1,b,())) fun y_3=>if (!y_3.1)=true then some ((0,0,[],[],0,0),13,()) else some (y.1,0,()) else if eqi y 3=true then zC (Ih ((),b,())) fun y=>zC (xV ((),y.1,())) fun y_1=>if (!y_1.1)=true then some ((0,0,[],[],0,0),13,()) else zC (xq ((),y.1,())) fun y_2=>zC (oK (y_2.1,b,())) fun y_3=>if (!y_3.1)=true then some ((0,0,[],[],0,0),13,()) else some (y.1,0,()) else if eqi y 4=true then zC (Ih ((),b,())) fun y=>zC (xV ((),y.1,())) fun y_1=>if (!y_1.1)=true then some ((0,0,[],[],0,0),13,()) else zC (xq ((),y.1,())) fun y_2=>zC (oK (y_2.1,b,())) fun y_3=>if (!y_3.1)=true then some ((0,0,[],[],0,0),13,()) else some (y.1,0,()) else if eqi y 23=true then zC (Ih ((),b,())) fun y=>zC (xV ((),y.1,())) fun y_1=>if (!y_1.1)=true then some ((0,0,[],[],0,0),13,()) else zC (xq ((),y.1,())) fun y_2=>zC (oK (y_2.1,b,())) fun y_3=>if (!y_3.1)=true then some ((0,0,[],[],0,0),13,()) else some (y.1,0,()) else if eqi y 5=true then zC (Xd ((),b,())) fun y=>zC (Es ((),y.1,())) fun y_1=>if (!y_1.1)=true then some ((0,0,[],[],0,0),13,()) else zC (Ii ((),y.1,())) fun y_2=>zC (oK (y_2.1,b,())) fun y_3=>if (!y_3.1)=true then some ((0,0,[],[],0,0),13,()) else some (y.1,0,()) else if eqi y 6=true then zC (Xg ((),b,())) fun y=>zC (Et ((),y.1,())) fun y_1=>if (!y_1.1)=true then some ((0,0,[],[],0,0),13,()) else zC (Ij ((),y.1,())) fun y_2=>zC (oK (y_2.1,b,())) fun y_3=>if (!y_3.1)=true then some ((0,0,[],[],0,0),13,()) else some (y.1,0,()) else if eqi y 15=true then zC (Ox (1968,b,())) fun y=>zC (xg (1968,y.1,())) fun y_1=>if (!y_1.1)=true then some ((0,0,[],[],0,0),13,()) else zC (Bp (1968,y.1,())) fun y_2=>zC (oK (y_2.1,b,())) fun y_3=>if (!y_3.1)=true then some ((0,0,[],[],0,0),13,()) else some (y.1,0,()) else if eqi y 16=true then zC (Ox (123,b,())) fun y=>zC (xg (123,y.1,())) fun y_1=>if (!y_1.1)=true then some ((0,0,[],[],0,0),13,()) else zC (Bp (123,y.1,())) fun y_2=>zC (oK (y_2.1,b,())) fun y_3=>if (!y_3.1)=true then some ((0,0,[],[],0,0),13,()) else some (y.1,0,()) else some ((0,0,[],[],0,0),13,()) else zC (WS ((),b,())) fun y=>zC (Er ((),y.1,())) fun y_1=>if (!y_1.1)=true then some ((0,0,[],[],0,0),13,()) else zC (Ic ((),y.1,())) fun y_2=>zC (oK (y_2.1,b,())) fun y_3=>if (!y_3.1)=true then some ((0,0,[],[],0,0),13,()) else some (y.1,0,())
def Xi(j1:List Int->Bool->Int->Int->Int->Int->Option (As cO))(b:List Int):Option (As cO) :=
 if lt (zF (zG b)) 2=true then j1 b true 0 0 0 0 else j1 b (gt (zF (zG b)) 253) 0 0 0 0
def Xj:=ahV
def Ik(x:As aI):Option (As cO):=Xi Xj x.1
abbrev pCz:=zp ahS ahT 53 Xh
theorem aw6{J a b c d e f}:pCz J 6 [] (ahU a b c d e f)=ahV a b c d e f:=by kernel_rfl
abbrev pCy:=zj ahS ahT 53 Xh
theorem aw7:C (pCy 6 []) ahU=Xj:=gNC (by decide) fun _=>aw6
theorem aoJ:ak Tryz.prog (fun _=>True) 53 ⟨Xh,Ik⟩:=zcc (env:=ahS) (d:=6) (hs:=Ev.get ahT) (aj aoH (aj aDD (aj ahc (aj asJ (aj awV (aj ahe (aj asM (aj awY (aj ahg (aj asP (aj aw1 (aj ahi (aj asR (aj aw4 (aj ahk (aj asT (aj aw5 (aj ahm (aj asW av))))))))))))))))))) (fun J x=>Xi (C (J 6 []) ahU) x.1) (fun _ _=>by kernel_rfl) fun _=>by rw[aw7]<;>rfl
@[reducible] def Xl:Sh:=⟨[.d aJ],[],aI,[.d (.bool)],[],0,[.bool]⟩
def ahW:Env:=(cts [])
def ahX:List (Nat×Hint):=[(26,⟨[],[0,3,7,8,9,10,17,18,19,20,21,26,27,28,29,30,31,32,33,34,35,36,37,38]⟩),(841,⟨[.agd 32 aJ,.agd 33 (.int .i64),.agd 35 (.int .u8),.agd 36 (.int .i64),.agd 37 .bool,.agd 26 aJ,.agd 27 (.int .i64),.agd 29 (.int .u8),.agd 30 .bool,.agd 31 .bool,.agd 38 .bool],[0,3,39]⟩),(840,⟨[.agd 17 aJ,.agd 18 (.int .i64),.agd 20 (.int .u8),.agd 21 .bool],[0,3,22]⟩),(104,⟨[.agd 7 (.int .i64),.agd 8 aJ,.agd 9 (.int .i64),.agd 10 .bool],[0,3,11]⟩)]
def xu(b:List Int)(i:Int):St:=⟨[(0,dL b),(3,dI i)],40,[],[],0,[],0⟩
def ahY(b:List Int)(i:Int)(t11:Bool):St:=⟨[(0,dL b),(3,dI i),(11,dB t11)],40,[],[],0,[],0⟩
def ahZ(b:List Int)(i:Int)(t22:Bool):St:=⟨[(0,dL b),(3,dI i),(22,dB t22)],40,[],[],0,[],0⟩
def ah0(b:List Int)(i:Int)(t39:Bool):St:=⟨[(0,dL b),(3,dI i),(39,dB t39)],40,[],[],0,[],0⟩
@[reducible] def zG5:Type:=List Int->Int->Bool->Option aE
@[reducible] def zG6:Type:=List Int->Int->Option aE
def Eu(j2:zG5)(self1:zG6)(b:List Int)(i:Int):Option aE :=
 if lt i 6=true then j2 b i (lt i (zF (zG b))) else j2 b i false
def Xm(j3:zG5)(self1:zG6)(b:List Int)(i:Int)(t11:Bool):Option aE :=
 if t11=true then if lt i 5=true then zC (at? b i) fun y=>j3 b i (nei y 0) else j3 b i false else some (true,())
def Xn(j4:zG5)(self1:zG6)(b:List Int)(i:Int)(t22:Bool):Option aE :=
 if t22=true then some (false,()) else if eqi i 5=true then zC (at? b i) fun y=>if lt y 2=true then j4 b i true else zC (at? b i) fun y=>j4 b i (gt (cvt .i64 y) 254) else j4 b i false
def aoK(self1:zG6)(b:List Int)(i:Int)(t39:Bool):Option aE :=
 if t39=true then some (false,()) else self1 b (add .i64 i 1)
def Xo(j1:zG6)(b:List Int):Option aE :=
 j1 b 2
def aoL(u1:zG6):=aoK u1
def Xp(u1:zG6):=Xn (aoL u1) u1
def Ew(u1:zG6):=Xm (Xp u1) u1
def Oy(b:List Int)(i:Int):Option aE :=
 cu (fun self s=>Eu (Ew (fun b i=>self (b,i))) (fun b i=>self (b,i)) s.1 s.2) 18446744073709551616 (b,i)
def Xq(x:As aI):Option aE:=Xo Oy x.1
abbrev pB5:=zp ahW ahX 218 Xl
theorem aw8{J w1 a b c}:pB5 J 841 [w1] (ah0 a b c)=aoK (C w1 xu) a b c:=by kernel_rfl
theorem aw9{J w1 a b c}:pB5 J 840 [w1] (ahZ a b c)=Xn (C (J 841 [w1]) ah0) (C w1 xu) a b c:=by kernel_rfl
theorem axa{J w1 a b c}:pB5 J 104 [w1] (ahY a b c)=Xm (C (J 840 [w1]) ahZ) (C w1 xu) a b c:=by kernel_rfl
theorem axb{J w1 a b}:pB5 J 26 [w1] (xu a b)=Eu (C (J 104 [w1]) ahY) (C w1 xu) a b:=by kernel_rfl
abbrev pB4:=zj ahW ahX 218 Xl
theorem axc{w1}:C (pB4 841 [w1]) ah0=aoL (C w1 xu):=gNC (by decide) fun _=>aw8
theorem axd{w1}:C (pB4 840 [w1]) ahZ=Xp (C w1 xu):=gNC (by decide) fun _=>aw9.trans (by rw[axc]<;>kernel_rfl)
theorem axe{w1}:C (pB4 104 [w1]) ahY=Ew (C w1 xu):=gNC (by decide) fun _=>axa.trans (by rw[axd]<;>kernel_rfl)
theorem axf:C (pB4 26 []) xu=Oy:=gLC (by decide) (by kernel_rfl) (fun _=>by unfold Oy;rfl) fun _ _=>axb.trans (by rw[axe]<;>kernel_rfl)
theorem axg:ak Tryz.prog (fun _=>True) 218 ⟨Xl,Xq⟩:=zcc (env:=ahW) (d:=6) (hs:=Ev.get ahX) av (fun J x=>Xo (C (J 26 []) xu) x.1) (fun _ _=>by kernel_rfl) fun _=>by rw[axf]<;>rfl
@[reducible] def bW:List Ty:=[.pr (.int .u16) C8,.int .i64]
@[reducible] def Xr:Sh:=⟨[.d aJ],[],aI,[.d (.pr (.int .u16) C8),.d (.int .i64)],[],0,bW⟩
def ah1:Env:=(cts [(218,(⟨Xl,Xq⟩:Ct))])
def ah2:List (Nat×Hint):=[(6,⟨[],[0,2,13]⟩)]
def ah3(b:List Int)(t13:Bool)(t2 t2_2:Int):St:=⟨[(0,dL b),(2,.pb 0 0),(13,dB t13)],49,[],[(0,.box 129 [d6 t2,d8 t2_2,.k (zK zH 0 0)])],1,[],0⟩
def Xt(b:List Int)(t13:Bool)(t2 t2_2:Int):Option (As bW) :=
 if t13=true then some ((0,0,[]),0,()) else zC (at? b 5) fun y=>if lt (zF (zG b)) (add .i64 6 (cvt .i64 y))=true then some ((0,0,[]),0,()) else need (ge (Sx.sub .i64 (add .i64 6 (cvt .i64 y)) 7) 0) (need (Ev.jC (Sx.sub .i64 (add .i64 6 (cvt .i64 y)) 7) (Sx.sub .i64 (add .i64 6 (cvt .i64 y)) 7)) (need (small (zI (Sx.sub .i64 (add .i64 6 (cvt .i64 y)) 7))) (zC (cut b 7 (add .i64 6 (cvt .i64 y))) fun y_1=>need (le (zF (0+zG (zE (α:=Int) (zI (Sx.sub .i64 (add .i64 6 (cvt .i64 y)) 7)) 0))) (zF (zG (zE (α:=Int) (zI (Sx.sub .i64 (add .i64 6 (cvt .i64 y)) 7)) 0)))) (zC (at? b 0) fun y_2=>zC (at? b 1) fun y_3=>zC (at? b 6) fun y_4=>some ((Sx.bor .u16 (Sx.shl .u16 (cvt .u16 y_2) 8) (cvt .u16 y_3),y_4,List.take (zI (zF (zG (zE (α:=Int) (zI (Sx.sub .i64 (add .i64 6 (cvt .i64 y)) 7)) 0)))) y_1++List.drop (0+zG (List.take (zI (zF (zG (zE (α:=Int) (zI (Sx.sub .i64 (add .i64 6 (cvt .i64 y)) 7)) 0)))) y_1)) (zE (zI (Sx.sub .i64 (add .i64 6 (cvt .i64 y)) 7)) 0)),add .i64 6 (cvt .i64 y),())))))
def Il(j1:List Int->Bool->Int->Int->Option (As bW))(b:List Int):Option (As bW) :=
 if le (zF (zG b)) 7=true then j1 b true 0 0 else zC (Xq (b,())) fun y=>j1 b (!y.1) 0 0
def Xu:=Xt
def Oz(x:As aI):Option (As bW):=Il Xu x.1
abbrev pB7:=zp ah1 ah2 158 Xr
theorem axh{J a b c d}:pB7 J 6 [] (ah3 a b c d)=Xt a b c d:=by kernel_rfl
abbrev pB6:=zj ah1 ah2 158 Xr
theorem axi:C (pB6 6 []) ah3=Xu:=gNC (by decide) fun _=>axh
theorem axj:ak Tryz.prog (fun _=>True) 158 ⟨Xr,Oz⟩:=zcc (env:=ah1) (d:=6) (hs:=Ev.get ah2) (aj axg av) (fun J x=>Il (C (J 6 []) ah3) x.1) (fun _ _=>by kernel_rfl) fun _=>by rw[axi]<;>rfl
@[reducible] def OA:Sh:=⟨[.d aJ],[],aI,[.d (.pr (.int .u16) C8),.d (.int .i64)],[],0,bW⟩
def ah4:Env:=(cts [(158,(⟨Xr,Oz⟩:Ct))])
def ah5:List (Nat×Hint):=[(14,⟨[],[2,4,18]⟩)]
def ah6(t18:Bool)(t2 t2_2:Int)(x:Int×Int×List Int):St:=⟨[(2,.pb 0 0),(4,.pb 1 0),(18,dB t18)],21,[],[(0,.box 129 [d6 t2,d8 t2_2,.k (zK zH 0 0)]),(1,.box 129 [d6 x.1,d8 x.2.1,dL x.2.2])],2,[],0⟩
def aoM(t18:Bool)(t2 t2_2:Int)(x:Int×Int×List Int):Option (As bW) :=
 if t18=true then some ((0,0,[]),10,()) else some (x,0,())
def Xv(j1:Bool->Int->Int->Int×Int×List Int->Option (As bW))(b:List Int):Option (As bW) :=
 zC (Oz (b,())) fun y=>if eqi y.2.1 0=true then j1 true 0 0 y.1 else j1 (nei y.2.1 (zF (zG b))) 0 0 y.1
def Xw:=aoM
def Ey(x:As aI):Option (As bW):=Xv Xw x.1
abbrev pB3:=zp ah4 ah5 98 OA
theorem axk{J a b c d}:pB3 J 14 [] (ah6 a b c d)=aoM a b c d:=by kernel_rfl
abbrev pB2:=zj ah4 ah5 98 OA
theorem axl:C (pB2 14 []) ah6=Xw:=gNC (by decide) fun _=>axk
theorem aoN:ak Tryz.prog (fun _=>True) 98 ⟨OA,Ey⟩:=zcc (env:=ah4) (d:=6) (hs:=Ev.get ah5) (aj axj av) (fun J x=>Xv (C (J 14 []) ah6) x.1) (fun _ _=>by kernel_rfl) fun _=>by rw[axl]<;>rfl
@[reducible] def eE:List Ty:=[.un,.int .u8,.int .u16,.sl (.int .u8)]
@[reducible] def Xx:Sh:=⟨[.d (.un),.d (.int .u8),.d (.int .u16),.d aJ],[],eE,[.d aP,.d (.bool)],[],0,bK⟩
def ah7:Env:=(cts [(53,(⟨Xh,Ik⟩:Ct)),(98,(⟨OA,Ey⟩:Ct))])
def ah8:List (Nat×Hint):=[(14,⟨[],[8,10,31]⟩)]
def ah9(t31:Bool)(t8 t8_2 t8_3 t8_4 x x_2:Int)(x_3:List Int):St:=⟨[(8,.pb 0 0),(10,.pb 1 0),(31,dB t31)],43,[],[(0,.box 109 [d8 t8,d8 t8_2,.k (zK zH 0 0),.k (zK zH 0 0),d6 t8_3,d6 t8_4]),(1,.box 129 [d6 x,d8 x_2,dL x_3])],2,[],0⟩
def aia(t31:Bool)(t8 t8_2 t8_3 t8_4 x x_2:Int)(x_3:List Int):Option eW :=
 if t31=true then some ((0,0,[],[],0,0),false,()) else zC (Ik (x_3,())) fun y=>if nei y.2.1 0=true then some ((0,0,[],[],0,0),false,()) else some (y.1,true,())
def Xy(j1:Bool->Int->Int->Int->Int->Int->Int->List Int->Option eW)(v:Unit)(unit tx:Int)(b:List Int):Option eW :=
 zC (Ey (b,())) fun y=>if nei y.2.1 0=true then j1 true 0 0 0 0 y.1.1 y.1.2.1 y.1.2.2 else if nei y.1.2.1 unit=true then j1 true 0 0 0 0 y.1.1 y.1.2.1 y.1.2.2 else j1 (nei y.1.1 tx) 0 0 0 0 y.1.1 y.1.2.1 y.1.2.2
def OB:=aia
def Im(x:As eE):Option eW:=Xy OB x.1 x.2.1 x.2.2.1 x.2.2.2.1
abbrev pCt:=zp ah7 ah8 337 Xx
theorem axm{J a b c d e f g h}:pCt J 14 [] (ah9 a b c d e f g h)=aia a b c d e f g h:=by kernel_rfl
abbrev pCs:=zj ah7 ah8 337 Xx
theorem axn:C (pCs 14 []) ah9=OB:=gNC (by decide) fun _=>axm
theorem axo:ak Tryz.prog (fun _=>True) 337 ⟨Xx,Im⟩:=zcc (env:=ah7) (d:=6) (hs:=Ev.get ah8) (aj aoJ (aj aoN av)) (fun J x=>Xy (C (J 14 []) ah9) x.1 x.2.1 x.2.2.1 x.2.2.2.1) (fun _ _=>by kernel_rfl) fun _=>by rw[axn]<;>rfl
@[reducible] def aoO:Sh:=⟨[.d aJ],[],aI,[.d aJ,.d (.int .i64)],[],0,aU⟩
def Xz(b:List Int):Option cU :=
 if lt (zF (zG b)) 2=true then some ([],10,()) else zC (cut b 0 (Sx.sub .i64 (zF (zG b)) 2)) fun y=>zC (at? b (Sx.sub .i64 (zF (zG b)) 2)) fun y_1=>zC (at? b (add .i64 (Sx.sub .i64 (zF (zG b)) 2) 1)) fun y_2=>zC (KP (y,())) fun y=>if nei y.1 (Sx.bor .u16 (cvt .u16 y_1) (Sx.shl .u16 (cvt .u16 y_2) 8))=true then some ([],11,()) else need (ge (Sx.sub .i64 (zF (zG b)) 2) 0) (need (Ev.jC (Sx.sub .i64 (zF (zG b)) 2) (Sx.sub .i64 (zF (zG b)) 2)) (need (small (zI (Sx.sub .i64 (zF (zG b)) 2))) (need (le (zF (0+zG (zE (α:=Int) (zI (Sx.sub .i64 (zF (zG b)) 2)) 0))) (zF (zG (zE (α:=Int) (zI (Sx.sub .i64 (zF (zG b)) 2)) 0)))) (some (List.take (zI (zF (zG (zE (α:=Int) (zI (Sx.sub .i64 (zF (zG b)) 2)) 0)))) b++List.drop (0+zG (List.take (zI (zF (zG (zE (α:=Int) (zI (Sx.sub .i64 (zF (zG b)) 2)) 0)))) b)) (zE (zI (Sx.sub .i64 (zF (zG b)) 2)) 0),0,())))))
def KU(x:As aI):Option cU:=Xz x.1
theorem axp:ak Tryz.prog (fun _=>True) 159 ⟨aoO,KU⟩:=ctn (aj an4 av) 6 fun J x=>by kernel_rfl
@[reducible] def dN:List Ty:=[.int .u8,.sl (.int .u8),.int .i64]
@[reducible] def XA:Sh:=⟨[.d aJ],[],aI,[.d (.int .u8),.d aJ,.d (.int .i64)],[],0,dN⟩
def aib:Env:=(cts [(159,(⟨aoO,KU⟩:Ct)),(160,(⟨aff,Eh⟩:Ct))])
def aic:List (Nat×Hint):=[(6,⟨[],[0,14]⟩)]
def aid(b:List Int)(t14:Bool):St:=⟨[(0,dL b),(14,dB t14)],37,[],[],0,[],0⟩
def XB(b:List Int)(t14:Bool):Option (As dN) :=
 if t14=true then some (0,[],10,()) else zC (KU (b,())) fun y=>if nei y.2.1 0=true then some (0,[],y.2.1,()) else zC (at? y.1 0) fun y_1=>zC (Eh (y_1,())) fun y_2=>if (!y_2.1)=true then some (0,[],10,()) else zC (at? y.1 0) fun y_3=>zC (cut y.1 1 (zF (zG y.1))) fun y_4=>need (le (zF (zG y.1)) (zF (zG y.1))) (need (le (zF (zG y.1)) (zF (zG y.1))) (some (y_3,y_4,0,())))
def XC(j1:List Int->Bool->Option (As dN))(b:List Int):Option (As dN) :=
 if lt (zF (zG b)) 4=true then j1 b true else j1 b (gt (zF (zG b)) 256)
def XD:=XB
def Io(x:As aI):Option (As dN):=XC XD x.1
abbrev pC9:=zp aib aic 101 XA
theorem axq{J a b}:pC9 J 6 [] (aid a b)=XB a b:=by kernel_rfl
abbrev pC8:=zj aib aic 101 XA
theorem axr:C (pC8 6 []) aid=XD:=gNC (by decide) fun _=>axq
theorem aoP:ak Tryz.prog (fun _=>True) 101 ⟨XA,Io⟩:=zcc (env:=aib) (d:=6) (hs:=Ev.get aic) (aj axp (aj an6 av)) (fun J x=>XC (C (J 6 []) aid) x.1) (fun _ _=>by kernel_rfl) fun _=>by rw[axr]<;>rfl
@[reducible] def axt:Sh:=⟨[.d (.int .u8),.d aJ],[],fH,[.d aP,.d (.int .i64)],[],0,cO⟩
def aie(unit:Int)(b:List Int):Option (As cO) :=
 zC (Io (b,())) fun y=>if nei y.2.2.1 0=true then some ((0,0,[],[],0,0),y.2.2.1,()) else if nei y.1 unit=true then some ((0,0,[],[],0,0),10,()) else zC (Ik (y.2.1,())) fun y=>some (y.1,y.2.1,())
def XE(x:As fH):Option (As cO):=aie x.1 x.2.1
theorem axu:ak Tryz.prog (fun _=>True) 343 ⟨axt,XE⟩:=ctn (aj aoJ (aj aoP av)) 6 fun J x=>by kernel_rfl
@[reducible] def asX:Sh:=⟨[.d (.un),.d (.int .u8),.d (.int .u16),.d aJ],[],eE,[.d aP,.d (.bool)],[],0,bK⟩
def aif(v:Unit)(unit tx:Int)(b:List Int):Option eW :=
 zC (XE (unit,b,())) fun y=>if nei y.2.1 0=true then some ((0,0,[],[],0,0),false,()) else some (y.1,true,())
def Ip(x:As eE):Option eW:=aif x.1 x.2.1 x.2.2.1 x.2.2.2.1
theorem axv:ak Tryz.prog (fun _=>True) 340 ⟨asX,Ip⟩:=ctn (aj axu av) 6 fun J x=>by kernel_rfl
@[reducible] def cG:List Ty:=[.pr (.int .u8) rG,.pr (.int .u8) nC,.bool]
@[reducible] def Iq:Sh:=⟨[.d aC,.d aJ],[],dM,[.d aC,.d aP,.d (.bool)],[],0,cG⟩
def aii:Env:=(cts [(64,(⟨VJ,Bf⟩:Ct)),(114,(⟨anO,yY⟩:Ct)),(154,(⟨WQ,Oh⟩:Ct)),(337,(⟨Xx,Im⟩:Ct)),(340,(⟨asX,Ip⟩:Ct))])
def aij:List (Nat×Hint):=[(7,⟨[],[2,4,5,7,8,30,31,32,33,34]⟩),(30,⟨[],[2,4,5,7,35]⟩)]
def aik(ok:Bool)(p p_2 p_3 p_4:Int)(p_5:Bool)(p_6 p_7 p_8 p_9:Int)(p_10:List Int)(p_11:List Bool)(p_12 p_13 p_14 t4 t4_2 t4_3 t4_4:Int)(t4_5:Bool)(t4_6 t4_7 t4_8 t4_9 t4_10 t4_11 t4_12 t5 t5_2 t5_3 t5_4 r r_2:Int)(r_3:List Bool)(r_4:List Int)(r_5 r_6:Int):St:=⟨[(2,.pb 0 0),(4,.pb 1 0),(5,.pb 2 0),(7,.pb 3 0),(8,dB ok)],42,[],[(0,.box 29 [d8 p,d8 p_2,dI p_3,dI p_4,dB p_5,d8 p_6,d6 p_7,d6 p_8,d6 p_9,dW p_10,.d (.sl .bool) p_11,d6 p_12,dI p_13,dI p_14]),(1,.box 29 [d8 t4,d8 t4_2,dI t4_3,dI t4_4,dB t4_5,d8 t4_6,d6 t4_7,d6 t4_8,d6 t4_9,.k (zK zH 0 0),.k (zK zH 0 0),d6 t4_10,dI t4_11,dI t4_12]),(2,.box 109 [d8 t5,d8 t5_2,.k (zK zH 0 0),.k (zK zH 0 0),d6 t5_3,d6 t5_4]),(3,.box 109 [d8 r,d8 r_2,.d (.sl .bool) r_3,dW r_4,d6 r_5,d6 r_6])],4,[],0⟩
def ail(t35:Bool)(p p_2 p_3 p_4:Int)(p_5:Bool)(p_6 p_7 p_8 p_9:Int)(p_10:List Int)(p_11:List Bool)(p_12 p_13 p_14 t4 t4_2 t4_3 t4_4:Int)(t4_5:Bool)(t4_6 t4_7 t4_8 t4_9 t4_10 t4_11 t4_12 t5 t5_2 t5_3 t5_4 r r_2:Int)(r_3:List Bool)(r_4:List Int)(r_5 r_6:Int):St:=⟨[(2,.pb 0 0),(4,.pb 1 0),(5,.pb 2 0),(7,.pb 3 0),(35,dB t35)],42,[],[(0,.box 29 [d8 p,d8 p_2,dI p_3,dI p_4,dB p_5,d8 p_6,d6 p_7,d6 p_8,d6 p_9,dW p_10,.d (.sl .bool) p_11,d6 p_12,dI p_13,dI p_14]),(1,.box 29 [d8 t4,d8 t4_2,dI t4_3,dI t4_4,dB t4_5,d8 t4_6,d6 t4_7,d6 t4_8,d6 t4_9,.k (zK zH 0 0),.k (zK zH 0 0),d6 t4_10,dI t4_11,dI t4_12]),(2,.box 109 [d8 t5,d8 t5_2,.k (zK zH 0 0),.k (zK zH 0 0),d6 t5_3,d6 t5_4]),(3,.box 109 [d8 r,d8 r_2,.d (.sl .bool) r_3,dW r_4,d6 r_5,d6 r_6])],4,[],0⟩
@[reducible] def zG7:Type:=Bool->Int->Int->Int->Int->Bool->Int->Int->Int->Int->List Int->List Bool->Int->Int->Int->Int->Int->Int->Int->Bool->Int->Int->Int->Int->Int->Int->Int->Int->Int->Int->Int->Int->Int->List Bool->List Int->Int->Int->Option (As cG)
def aim(j2:zG7)(ok:Bool)(p p_2 p_3 p_4:Int)(p_5:Bool)(p_6 p_7 p_8 p_9:Int)(p_10:List Int)(p_11:List Bool)(p_12 p_13 p_14 t4 t4_2 t4_3 t4_4:Int)(t4_5:Bool)(t4_6 t4_7 t4_8 t4_9 t4_10 t4_11 t4_12 t5 t5_2 t5_3 t5_4 r r_2:Int)(r_3:List Bool)(r_4:List Int)(r_5 r_6:Int):Option (As cG) :=
 if (!ok)=true then j2 true p p_2 p_3 p_4 p_5 p_6 p_7 p_8 p_9 p_10 p_11 p_12 p_13 p_14 t4 t4_2 t4_3 t4_4 t4_5 t4_6 t4_7 t4_8 t4_9 t4_10 t4_11 t4_12 t5 t5_2 t5_3 t5_4 r r_2 r_3 r_4 r_5 r_6 else zC (Oh ((p_6,p_7,p_8,p_9,p_10,p_11),(r,r_2,r_3,r_4,r_5,r_6),())) fun y=>j2 (!y.1) p p_2 p_3 p_4 p_5 p_6 p_7 p_8 p_9 p_10 p_11 p_12 p_13 p_14 t4 t4_2 t4_3 t4_4 t4_5 t4_6 t4_7 t4_8 t4_9 t4_10 t4_11 t4_12 t5 t5_2 t5_3 t5_4 r r_2 r_3 r_4 r_5 r_6
def ain(t35:Bool)(p p_2 p_3 p_4:Int)(p_5:Bool)(p_6 p_7 p_8 p_9:Int)(p_10:List Int)(p_11:List Bool)(p_12 p_13 p_14 t4 t4_2 t4_3 t4_4:Int)(t4_5:Bool)(t4_6 t4_7 t4_8 t4_9 t4_10 t4_11 t4_12 t5 t5_2 t5_3 t5_4 r r_2:Int)(r_3:List Bool)(r_4:List Int)(r_5 r_6:Int):Option (As cG) :=
 if t35=true then zC (yY ((p,p_2,p_3,p_4,p_5,(p_6,p_7,p_8,p_9,p_10,p_11),p_12,p_13,p_14),())) fun y=>some (y.1,(0,0,[],[],0,0),false,()) else zC (Bf ((p,p_2,p_3,p_4,p_5,(p_6,p_7,p_8,p_9,p_10,p_11),p_12,p_13,p_14),())) fun y=>some (y.1,(r,r_2,r_3,r_4,r_5,r_6),true,())
def XF(j1:zG7)(p:Int×Int×Int×Int×Bool×vY×Int×Int×Int)(frame:List Int):Option (As cG) :=
 if (!p.2.2.2.2.1)=true then zC (yY (p,())) fun y=>some (y.1,(0,0,[],[],0,0),false,()) else amb (au Iq.rs) [if eqi p.2.1 2=true then amb (au Iq.rs) [zC (Im ((),p.1,p.2.2.2.2.2.2.1,frame,())) fun y=>j1 y.2.1 p.1 p.2.1 p.2.2.1 p.2.2.2.1 p.2.2.2.2.1 p.2.2.2.2.2.1.1 p.2.2.2.2.2.1.2.1 p.2.2.2.2.2.1.2.2.1 p.2.2.2.2.2.1.2.2.2.1 p.2.2.2.2.2.1.2.2.2.2.1 p.2.2.2.2.2.1.2.2.2.2.2 p.2.2.2.2.2.2.1 p.2.2.2.2.2.2.2.1 p.2.2.2.2.2.2.2.2 0 0 0 0 false 0 0 0 0 0 0 0 0 0 0 0 y.1.1 y.1.2.1 y.1.2.2.1 y.1.2.2.2.1 y.1.2.2.2.2.1 y.1.2.2.2.2.2,zC (Im ((),p.1,p.2.2.2.2.2.2.1,frame,())) fun y=>j1 y.2.1 p.1 p.2.1 p.2.2.1 p.2.2.2.1 p.2.2.2.2.1 p.2.2.2.2.2.1.1 p.2.2.2.2.2.1.2.1 p.2.2.2.2.2.1.2.2.1 p.2.2.2.2.2.1.2.2.2.1 p.2.2.2.2.2.1.2.2.2.2.1 p.2.2.2.2.2.1.2.2.2.2.2 p.2.2.2.2.2.2.1 p.2.2.2.2.2.2.2.1 p.2.2.2.2.2.2.2.2 0 0 0 0 false 0 0 0 0 0 0 0 0 0 0 0 y.1.1 y.1.2.1 y.1.2.2.1 y.1.2.2.2.1 y.1.2.2.2.2.1 y.1.2.2.2.2.2] else amb (au Iq.rs) [zC (Ip ((),p.1,p.2.2.2.2.2.2.1,frame,())) fun y=>j1 y.2.1 p.1 p.2.1 p.2.2.1 p.2.2.2.1 p.2.2.2.2.1 p.2.2.2.2.2.1.1 p.2.2.2.2.2.1.2.1 p.2.2.2.2.2.1.2.2.1 p.2.2.2.2.2.1.2.2.2.1 p.2.2.2.2.2.1.2.2.2.2.1 p.2.2.2.2.2.1.2.2.2.2.2 p.2.2.2.2.2.2.1 p.2.2.2.2.2.2.2.1 p.2.2.2.2.2.2.2.2 0 0 0 0 false 0 0 0 0 0 0 0 0 0 0 0 y.1.1 y.1.2.1 y.1.2.2.1 y.1.2.2.2.1 y.1.2.2.2.2.1 y.1.2.2.2.2.2,zC (Ip ((),p.1,p.2.2.2.2.2.2.1,frame,())) fun y=>j1 y.2.1 p.1 p.2.1 p.2.2.1 p.2.2.2.1 p.2.2.2.2.1 p.2.2.2.2.2.1.1 p.2.2.2.2.2.1.2.1 p.2.2.2.2.2.1.2.2.1 p.2.2.2.2.2.1.2.2.2.1 p.2.2.2.2.2.1.2.2.2.2.1 p.2.2.2.2.2.1.2.2.2.2.2 p.2.2.2.2.2.2.1 p.2.2.2.2.2.2.2.1 p.2.2.2.2.2.2.2.2 0 0 0 0 false 0 0 0 0 0 0 0 0 0 0 0 y.1.1 y.1.2.1 y.1.2.2.1 y.1.2.2.2.1 y.1.2.2.2.2.1 y.1.2.2.2.2.2],if eqi p.2.1 2=true then zC (Im ((),p.1,p.2.2.2.2.2.2.1,frame,())) fun y=>j1 y.2.1 p.1 p.2.1 p.2.2.1 p.2.2.2.1 p.2.2.2.2.1 p.2.2.2.2.2.1.1 p.2.2.2.2.2.1.2.1 p.2.2.2.2.2.1.2.2.1 p.2.2.2.2.2.1.2.2.2.1 p.2.2.2.2.2.1.2.2.2.2.1 p.2.2.2.2.2.1.2.2.2.2.2 p.2.2.2.2.2.2.1 p.2.2.2.2.2.2.2.1 p.2.2.2.2.2.2.2.2 0 0 0 0 false 0 0 0 0 0 0 0 0 0 0 0 y.1.1 y.1.2.1 y.1.2.2.1 y.1.2.2.2.1 y.1.2.2.2.2.1 y.1.2.2.2.2.2 else zC (Ip ((),p.1,p.2.2.2.2.2.2.1,frame,())) fun y=>j1 y.2.1 p.1 p.2.1 p.2.2.1 p.2.2.2.1 p.2.2.2.2.1 p.2.2.2.2.2.1.1 p.2.2.2.2.2.1.2.1 p.2.2.2.2.2.1.2.2.1 p.2.2.2.2.2.1.2.2.2.1 p.2.2.2.2.2.1.2.2.2.2.1 p.2.2.2.2.2.1.2.2.2.2.2 p.2.2.2.2.2.2.1 p.2.2.2.2.2.2.2.1 p.2.2.2.2.2.2.2.2 0 0 0 0 false 0 0 0 0 0 0 0 0 0 0 0 y.1.1 y.1.2.1 y.1.2.2.1 y.1.2.2.2.1 y.1.2.2.2.2.1 y.1.2.2.2.2.2]
def XG:=ain
def Ir:=aim (XG)
def XH(x:As dM):Option (As cG):=XF Ir x.1 x.2.1
abbrev pCr:=zp aii aij 95 Iq
theorem axw{J a b c d e f g h i j k l m n o p q r t u v x y z aa ab ac ad ae af ag ah ba bb bc bd be}:pCr J 30 [] (ail a b c d e f g h i j k l m n o p q r t u v x y z aa ab ac ad ae af ag ah ba bb bc bd be)=ain a b c d e f g h i j k l m n o p q r t u v x y z aa ab ac ad ae af ag ah ba bb bc bd be:=by kernel_rfl
theorem axx{J a b c d e f g h i j k l m n o p q r t u v x y z aa ab ac ad ae af ag ah ba bb bc bd be}:pCr J 7 [] (aik a b c d e f g h i j k l m n o p q r t u v x y z aa ab ac ad ae af ag ah ba bb bc bd be)=aim (C (J 30 []) ail) a b c d e f g h i j k l m n o p q r t u v x y z aa ab ac ad ae af ag ah ba bb bc bd be:=by kernel_rfl
abbrev pCq:=zj aii aij 95 Iq
theorem axy:C (pCq 30 []) ail=XG:=gNC (by decide) fun _=>axw
theorem axz:C (pCq 7 []) aik=Ir:=gNC (by decide) fun _=>axx.trans (by rw[axy]<;>kernel_rfl)
theorem axA:ak Tryz.prog (fun _=>True) 95 ⟨Iq,XH⟩:=zcc (env:=aii) (d:=6) (hs:=Ev.get aij) (aj VK (aj UT (aj awR (aj axo (aj axv av))))) (fun J x=>XF (C (J 7 []) aik) x.1 x.2.1) (fun _ _=>by kernel_rfl) fun _=>by rw[axz]<;>rfl
@[reducible] def aio:Sh:=⟨[.d aX,.d aP],[],aY,[.d aX],[],0,aN⟩
def aip:Env:=(cts [(1000211,Ev.gU),(56,(⟨NA,mU⟩:Ct)),(204,(⟨Nz,Be⟩:Ct)),(205,(⟨NC,NF⟩:Ct)),(206,(⟨age,VZ⟩:Ct)),(207,(⟨agh,NI⟩:Ct)),(208,(⟨V2,KT⟩:Ct)),(209,(⟨NM,NP⟩:Ct)),(211,(⟨NQ,NR⟩:Ct)),(213,(⟨agu,NS⟩:Ct)),(215,(⟨agw,NT⟩:Ct)),(216,(⟨V8,V9⟩:Ct)),(217,(⟨NU,NY⟩:Ct))])
def aiq:List (Nat×Hint):=[(14,⟨[],[2,3,4,5,15]⟩)]
def air(t15:Bool)(t:Bi)(r:jI)(t4:kU×Int×Int×Unit×Int×Int×Int×Int×Int):St:=⟨[(2,.pb 0 0),(3,.pb 1 0),(4,.pb 2 0),(5,.pb 3 0),(15,dB t15)],28,[],[(0,.box 33 (fJ t [])),(1,.box 109 [d8 r.1,d8 r.2.1,.d (.sl .bool) r.2.2.1,dW r.2.2.2.1,d6 r.2.2.2.2.1,d6 r.2.2.2.2.2]),(2,.box 33 [d8 t4.1.1,d8 t4.1.2.1,dI t4.1.2.2.1,dI t4.1.2.2.2.1,dB t4.1.2.2.2.2.1,d8 t4.1.2.2.2.2.2.1.1,d6 t4.1.2.2.2.2.2.1.2.1,d6 t4.1.2.2.2.2.2.1.2.2.1,d6 t4.1.2.2.2.2.2.1.2.2.2.1,.k (zK zH 0 0),.k (zK zH 0 0),d6 t4.1.2.2.2.2.2.2.1,dI t4.1.2.2.2.2.2.2.2.1,dI t4.1.2.2.2.2.2.2.2.2,d6 t4.2.1,d2 t4.2.2.1,.k (zK zH 0 0),d8 t4.2.2.2.2.1,d8 t4.2.2.2.2.2.1,dI t4.2.2.2.2.2.2.1,dI t4.2.2.2.2.2.2.2.1,d8 t4.2.2.2.2.2.2.2.2]),(3,.box 211 [.k Go.Value.nilFunc,.k Go.Value.nilFunc,.fn (.func 203) [] [],.fn (.func 205) [] [],.fn (.func 206) [] [],.fn (.func 207) [] [],.fn (.func 208) [] [],.fn (.func 209) [] [],.fn (.func 210) [] [],.fn (.func 211) [] [],.fn (.func 212) [] [],.fn (.func 213) [] [],.fn (.func 214) [] [],.fn (.func 215) [] [],.fn (.func 216) [] [],.fn (.func 217) [] []])],4,[],0⟩
def XI(t15:Bool)(t:Bi)(r:jI)(t4:kU×Int×Int×Unit×Int×Int×Int×Int×Int):Option bR :=
 if t15=true then zC (mU (t,t.2.2.2.2.2.2.2.2,())) fun y=>some (y.1,()) else if eqi t.2.2.2.2.2.1 7=true then zC (NY (t,r,())) fun y=>some (y.1,()) else if eqi t.2.2.2.2.2.1 6=true then zC (NT (t,r,())) fun y=>some (y.1,()) else if eqi t.2.2.2.2.2.1 5=true then zC (NS (t,r,())) fun y=>some (y.1,()) else if eqi t.2.2.2.2.2.1 4=true then zC (NR (t,r,())) fun y=>some (y.1,()) else if eqi t.2.2.2.2.2.1 3=true then zC (NP (t,r,())) fun y=>some (y.1,()) else if eqi t.2.2.2.2.2.1 2=true then zC (NI (t,r,())) fun y=>some (y.1,()) else if eqi t.2.2.2.2.2.1 1=true then zC (NF (t,r,())) fun y=>some (y.1,()) else if eqi t.2.2.2.2.2.1 0=true then zH else zH
def XJ(j1:Bool->Bi->jI->kU×Int×Int×Unit×Int×Int×Int×Int×Int->Option bR)(t:Bi)(r:jI):Option bR :=
 if ge (cvt .i64 t.2.2.2.2.2.1) 8=true then j1 true t r ((0,0,0,0,false,(0,0,0,0,(),()),0,0,0),0,0,(),0,0,0,0,0) else j1 (eqi t.2.2.2.2.2.1 0) t r ((0,0,0,0,false,(0,0,0,0,(),()),0,0,0),0,0,(),0,0,0,0,0)
def ais:=XI
def XK(x:As aY):Option bR:=XJ ais x.1 x.2.1
abbrev pEp:=zp aip aiq 96 aio
theorem axB{J a b c d}:pEp J 14 [] (air a b c d)=XI a b c d:=by kernel_rfl
abbrev pEo:=zj aip aiq 96 aio
theorem axC:C (pEo 14 []) air=ais:=gNC (by decide) fun _=>axB
theorem axD:ak Tryz.prog (fun _=>True) 96 ⟨aio,XK⟩:=zcc (env:=aip) (d:=6) (hs:=Ev.get aiq) (aj Ev.gq (aj yZ (aj aoj (aj asq (aj aos (aj aot (aj aou (aj ast (aj asv (aj asw (aj asx (aj aov (aj aoy av))))))))))))) (fun J x=>XJ (C (J 14 []) air) x.1 x.2.1) (fun _ _=>by kernel_rfl) fun _=>by rw[axC]<;>rfl
@[reducible] def XL:Sh:=⟨[.d aX,.d aJ],[],bN,[.d aX,.d aJ],[],0,bN⟩
def ait(t:Bi)(frame:List Int):Option (As bN) :=
 zC (Ed (t,())) fun y=>zC (XH (y.1.1,frame,())) fun y_1=>if (!y_1.2.2.1)=true then some (y.1,[],()) else zC (XK ((y_1.1,y.1.2),y_1.2.1,())) fun y=>if eqi y.1.2.2.2.2.2.1 0=true then some (y.1,[],()) else zC (y5 (y.1,())) fun y=>some (y.1,y.2.1,())
def xw(x:As bN):Option (As bN):=ait x.1 x.2.1
theorem aoQ:ak Tryz.prog (fun _=>True) 46 ⟨XL,xw⟩:=ctn (aj UL (aj agK (aj axA (aj axD av)))) 6 fun J x=>by kernel_rfl
@[reducible] def cM:List Ty:=[.pr (.int .u8) aA]
@[reducible] def XM:Sh:=⟨[.d bB],[],cM,[.d bB],[],0,cM⟩
def aiu:Env:=(cts [(45,(⟨GV,mZ⟩:Ct)),(113,(⟨aeF,A9⟩:Ct))])
def aiv:List (Nat×Hint):=[(122,⟨[],[1,2,15]⟩)]
@[reducible] def zG8:Type:=List (Int×Int×jN×List Bool)
def XN(s t2 t15:Int)(s_2 t2_2:zG8):St:=⟨[(1,.prw 0 s 35 0),(2,.prw 1 t2 35 0),(15,dI t15)],33,[],[(0,.row bB 45 s_2),(1,.row bB 45 t2_2)],2,[],0⟩
@[reducible] def zG9:Type:=Int->Int->Int->List (Int×Int×jN×List Bool)->List (Int×Int×jN×List Bool)->Option (As cM)
def Iu(self1:zG9)(s t2 t15:Int)(s_2 t2_2:zG8):Option (As cM) :=
 if lt t15 8=true then need (ge t15 0) (need (lt t15 8) (zC (at? s_2 s) fun y=>zC (at? y.2.2.1.2.2.2.2.2.1.2.2 t15) fun z=>zC (mZ (z.2,())) fun y=>zC (at? s_2 s) fun x=>zC (at? x.2.2.1.2.2.2.2.2.1.2.2 t15) fun z=>self1 s t2 (add .i64 t15 1) (List.set s_2 (zI s) (x.1,x.2.1,(x.2.2.1.1,x.2.2.1.2.1,x.2.2.1.2.2.1,x.2.2.1.2.2.2.1,x.2.2.1.2.2.2.2.1,(x.2.2.1.2.2.2.2.2.1.1,x.2.2.1.2.2.2.2.2.1.2.1,List.set x.2.2.1.2.2.2.2.2.1.2.2 (zI t15) (z.1,y.1)),x.2.2.1.2.2.2.2.2.2),x.2.2.2)) t2_2)) else zC (at? s_2 s) fun y=>zC (at? t2_2 t2) fun x=>zC (at? (List.set t2_2 (zI t2) y) t2) fun y_1=>zC (at? (List.set t2_2 (zI t2) y) t2) fun y=>some (y,())
def XO(j1:zG9)(s:Int×Int×jN×List Bool):Option (As cM) :=
 zC (A9 (s.2.2.2,())) fun y=>zC (mZ (s.2.2.1.1,())) fun y_1=>j1 0 0 0 [(s.1,s.2.1,(y_1.1,s.2.2.1.2),y.1)] [zSl]
def Iv(s t2 t15:Int)(s_2 t2_2:zG8):Option (As cM) :=
 cu (fun self s=>Iu (fun s t2 t15 s_2 t2_2=>self (s,t2,t15,s_2,t2_2)) s.1 s.2.1 s.2.2.1 s.2.2.2.1 s.2.2.2.2) 18446744073709551616 (s,t2,t15,s_2,t2_2)
def Ez(x:As cM):Option (As cM):=XO Iv x.1
abbrev pDj:=zp aiu aiv 99 XM
theorem axE{J w1 a b c d e}:pDj J 122 [w1] (XN a b c d e)=Iu (C w1 XN) a b c d e:=by kernel_rfl
abbrev pDi:=zj aiu aiv 99 XM
theorem axF:C (pDi 122 []) XN=Iv:=gLC (by decide) (by kernel_rfl) (fun _=>by unfold Iv;rfl) fun _ _=>axE.trans (by kernel_rfl)
theorem aiw:ak Tryz.prog (fun _=>True) 99 ⟨XM,Ez⟩:=zcc (env:=aiu) (d:=6) (hs:=Ev.get aiv) (aj A7 (aj aeH av)) (fun J x=>XO (C (J 122 []) XN) x.1) (fun _ _=>by kernel_rfl) fun _=>by rw[axF]<;>rfl
end Go.Proofs.Lx
end
