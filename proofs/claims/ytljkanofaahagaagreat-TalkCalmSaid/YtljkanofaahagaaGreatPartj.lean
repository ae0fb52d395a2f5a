/- Proved in the last of these 16 parts (this is part 10): TalkCalm. Conditions: those of the given statement, and no others. -/
import Derived.Test.YtljkanofaahagaaGreatPartd
import Derived.Test.YtljkanofaahagaaGreatParti
import Derived.Test.YtljkanofaahagaaGreatProg
import Derived.Test.YtljkanofaahagaaGreatParte
set_option linter.unusedVariables false
set_option linter.unusedSimpArgs false
set_option linter.unusedSectionVars false
open Option renaming bind → zC, none → zH
open Int renaming ofNat → zF, toNat → zI
open List renaming length → zG, getD → zJ
open Go.Value renaming slice → zK
noncomputable section
open Go Go.Proofs Ev Sx
set_option maxRecDepth 100000
namespace Go.Proofs.Lx
abbrev yF:Type:=List Int×(Int×Int)×Int×Int×Int×qp×Int
abbrev pV:Type:=Int×Int×kL×List Bool
abbrev mR:Type:=Oi×Int×Int×List (Int×List Int)×Int×Int×Int×Int×Int
@[reducible] def zJ0:Type:=Int×Int×Int×Int×Int
@[reducible] def aBe:Sh:=⟨[.d aH,.d cR],[],aV,[.d aH],[],0,bF⟩
def amh(a:yF)(c:zJ0):Option dG :=
 zC (aaM (a.2.1,c.1,())) fun y=>some ((a.1,y.1,2,a.2.2.2),())
def aaN(x:As aV):Option dG:=amh x.1 x.2.1
theorem aBf:au Tryz.prog (fun _=>True) 292 ⟨aBe,aaN⟩:=ctn (aj aBd bq) 6 fun J x=>by kernel_rfl
@[reducible] def aBg:Sh:=⟨[.d aH,.d cR],[],aV,[.d (.bool)],[],0,[.bool]⟩
def aBh:Env:=(cts [(2000043,Ev.iw),(276,(⟨aaz,Aw⟩:Ct))])
def ami(a:yF)(c:zJ0):Option aF :=
 if nei a.2.2.2.2.1 c.2.2.1=true then zC (Aw (a,2,c.2.2.1,())) fun y=>some (!y.1,()) else some (false,())
def aaO(x:As aV):Option aF:=ami x.1 x.2.1
theorem aBi:au Tryz.prog (fun _=>True) 293 ⟨aBg,aaO⟩:=ctn (env:=aBh) (aj Ev.gJ (aj aaB bq)) 6 fun J x=>by kernel_rfl
@[reducible] def aqF:Sh:=⟨[.d d9],[],cI,[.d (.bool)],[],0,[.bool]⟩
def amj(x:Int×List Int):Option aF :=
 zC (sZ (x,())) fun y=>some (!y.1,())
def aaP(x:As cI):Option aF:=amj x.1
theorem amk:au Tryz.prog (fun _=>True) 94 ⟨aqF,aaP⟩:=ctn (aj Jf bq) 6 fun J x=>by kernel_rfl
@[reducible] def aml:Sh:=⟨[.d (.sl d9),.fn (.func 94) [] []],[],[.sl d9],[.d (.int .i64)],[],0,[.int .i64]⟩
def amm:Env:=(cts [(94,(⟨aqF,aaP⟩:Ct))])
def amn:List (Nat×Hint):=[(26,⟨[],[0,1,7,8]⟩)]
@[reducible] def zJ1:Type:=List (Int×List Int)
def aaQ(s:zJ1)(t7 t8:Int):St:=⟨[(0,.d (.sl d9) s),(1,.fn (.func 94) [] []),(7,dI t7),(8,dI t8)],19,[],[],0,[],0⟩
@[reducible] def zJ2:Type:=List (Int×List Int)->Int->Int->Option cO
def QK(self1:zJ2)(s:zJ1)(t7 t8:Int):Option cO :=
 if lt t8 t7=true then zC (at? s t8) fun y=>zC (aaP (y,())) fun y=>if y.1=true then some (t8,()) else self1 s t7 (add .i64 t8 1) else some (-1,())
def auQ(j1:zJ2)(s:zJ1):Option cO :=
 j1 s (zF (zG s)) 0
def QL(s:zJ1)(t7 t8:Int):Option cO :=
 cu (fun self s=>QK (fun s t7 t8=>self (s,t7,t8)) s.1 s.2.1 s.2.2) 18446744073709551616 (s,t7,t8)
def amo(x:As [.sl d9]):Option cO:=auQ QL x.1
abbrev pDr:=zp amm amn 152 aml
theorem aFM{J w1 a b c}:pDr J 26 [w1] (aaQ a b c)=QK (C w1 aaQ) a b c:=by kernel_rfl
abbrev pDq:=zj amm amn 152 aml
theorem aFN:C (pDq 26 []) aaQ=QL:=gLC (by decide) (by kernel_rfl) (fun _=>by unfold QL;rfl) fun _ _=>aFM.trans (by kernel_rfl)
theorem aFO:au Tryz.prog (fun _=>True) 152 ⟨aml,amo⟩:=zcc (env:=amm) (d:=6) (hs:=Ev.get amn) (aj amk bq) (fun J x=>auQ (C (J 26 []) aaQ) x.1) (fun _ _=>by kernel_rfl) fun _=>by rw[aFN]<;>rfl
@[reducible] def aFP:Sh:=⟨[.d (.sl d9),.fn (.func 94) [] []],[],[.sl d9],[.d (.bool)],[],0,[.bool]⟩
def amq(s:zJ1):Option aF :=
 zC (amo (s,())) fun y=>some (ge y.1 0,())
def amr(x:As [.sl d9]):Option aF:=amq x.1
theorem aFQ:au Tryz.prog (fun _=>True) 93 ⟨aFP,amr⟩:=ctn (aj amk (aj aFO bq)) 6 fun J x=>by kernel_rfl
@[reducible] def aqG:Sh:=⟨[.d (.sl d9)],[],[.sl d9],[.d (.bool)],[],0,[.bool]⟩
def aaR(l:zJ1):Option aF :=
 zC (amr (l,())) fun y=>some (!y.1,())
def Mm(x:As [.sl d9]):Option aF:=aaR x.1
theorem aBj:au Tryz.prog (fun _=>True) 44 ⟨aqG,Mm⟩:=ctn (aj aFQ (aj amk bq)) 6 fun J x=>by kernel_rfl
@[reducible] def ams:Sh:=⟨[.d aB,.d (.sl d9)],[],[.sl (.int .u16),.sl d9],[.d aB,.d (.int .i64)],[],0,bW⟩
def amt:Env:=(cts [(44,(⟨aqG,Mm⟩:Ct)),(45,(⟨V2,Fa⟩:Ct))])
def amu:List (Nat×Hint):=[(31,⟨[],[0]⟩),(250,⟨[],[0,16,17,18]⟩)]
def aaS(t16:zJ1)(t17 t18:Int)(bank:List Int):St:=⟨[(0,.row 0),(16,.d (.sl d9) t16),(17,dI t17),(18,dI t18)],31,[],[(0,.row (.int .u16) 25 bank)],1,[],0⟩
def amv(bank:List Int):St:=⟨[(0,.row 0)],31,[],[(0,.row (.int .u16) 25 bank)],1,[],0⟩
@[reducible] def zJ3:Type:=List (Int×List Int)->Int->Int->List Int->Option (As bW)
def J9(j2:List Int->Option (As bW))(self1:zJ3)(t16:zJ1)(t17 t18:Int)(bank:List Int):Option (As bW) :=
 if lt t18 t17=true then zC (at? t16 t18) fun y=>need (ge y.1 0) (need (le y.1 (zF (zG bank))) (need (le (zF (zG bank)) (zF (zG bank))) (need (le (y.1+(zF (zG bank) - y.1)) (zF (zG bank))) (self1 t16 t17 (add .i64 t18 1) (List.take (zI y.1) bank++List.take (zI (zF (zG bank) - y.1)) y.2++List.drop (zI y.1+zG (List.take (zI (zF (zG bank) - y.1)) y.2)) bank))))) else j2 bank
def aqH(bank:List Int):Option (As bW) :=
 some (bank,0,())
def aaT(j1:zJ3)(bank:List Int)(l:zJ1):Option (As bW) :=
 if nei (zF (zG bank)) 64=true then some ([],21,()) else zC (Mm (l,())) fun y=>if (!y.1)=true then some ([],20,()) else zC (Fa (bank,())) fun y=>j1 l (zF (zG l)) 0 y.1
def aqI:=aqH
def Ka(t16:zJ1)(t17 t18:Int)(bank:List Int):Option (As bW) :=
 cu (fun self s=>J9 (aqI) (fun t16 t17 t18 bank=>self (t16,t17,t18,bank)) s.1 s.2.1 s.2.2.1 s.2.2.2) 18446744073709551616 (t16,t17,t18,bank)
def amw(x:As [.sl (.int .u16),.sl d9]):Option (As bW):=aaT Ka x.1 x.2.1
abbrev pA5:=zp amt amu 12 ams
theorem aBk{J a}:pA5 J 31 [] (amv a)=aqH a:=by kernel_rfl
theorem aBl{J w1 a b c d}:pA5 J 250 [w1] (aaS a b c d)=J9 (C (J 31 []) amv) (C w1 aaS) a b c d:=by kernel_rfl
abbrev pA4:=zj amt amu 12 ams
theorem aBm:C (pA4 31 []) amv=aqI:=gNC (by decide) fun _=>aBk
theorem aBn:C (pA4 250 []) aaS=Ka:=gLC (by decide) (by kernel_rfl) (fun _=>by unfold Ka;rfl) fun _ _=>aBl.trans (by rw[aBm]<;>kernel_rfl)
theorem aBo:au Tryz.prog (fun _=>True) 12 ⟨ams,amw⟩:=zcc (env:=amt) (d:=6) (hs:=Ev.get amu) (aj aBj (aj atI bq)) (fun J x=>aaT (C (J 250 []) aaS) x.1 x.2.1) (fun _ _=>by kernel_rfl) fun _=>by rw[aBn]<;>rfl
@[reducible] def aBp:Sh:=⟨[.d aH,.d cR],[],aV,[.d aH],[],0,bF⟩
def amx(a:yF)(c:zJ0):Option dG :=
 if eqi a.2.2.2.2.1 c.2.2.1=true then some (a,()) else zC (FW (a.2.2.2.2.2.1,())) fun y=>zC (amw (a.1,y.1,())) fun y=>if nei y.2.1 0=true then some (a,()) else zC (Cz ((y.1,a.2.1,a.2.2.1,a.2.2.2.1,c.2.2.1,a.2.2.2.2.2),())) fun y=>some (y.1,())
def aaU(x:As aV):Option dG:=amx x.1 x.2.1
theorem aBq:au Tryz.prog (fun _=>True) 294 ⟨aBp,aaU⟩:=ctn (aj aBo (aj auO (aj QG bq))) 6 fun J x=>by kernel_rfl
@[reducible] def aBr:Sh:=⟨[.d aH,.d cR],[],aV,[.d (.bool)],[],0,[.bool]⟩
def aBs:Env:=(cts [(2000043,Ev.iw)])
def aBt(a:yF)(c:zJ0):Option aF :=
 some (le c.2.2.1 a.2.2.2.2.1,())
def aaV(x:As aV):Option aF:=aBt x.1 x.2.1
theorem aBu:au Tryz.prog (fun _=>True) 295 ⟨aBr,aaV⟩:=ctn (env:=aBs) (aj Ev.gJ bq) 6 fun J x=>by kernel_rfl
@[reducible] def amy:Sh:=⟨[.d aH,.d cR],[],aV,[.d aH],[],0,bF⟩
def amz:Env:=(cts [(2000043,Ev.iw),(173,(⟨aqB,Cz⟩:Ct))])
def amA:List (Nat×Hint):=[(6,⟨[],[2,4,17]⟩)]
def amB(a:yF)(t4:Int)(t17:Bool)(t4_2:List kL):St:=⟨[(2,.pe aH a),(4,.prw 0 t4 32 0),(17,dB t17)],21,[],[(0,.row aH 43 t4_2)],1,[],0⟩
def aaW(a:yF)(t4:Int)(t17:Bool)(t4_2:List kL):Option dG :=
 if t17=true then zC (at? t4_2 t4) fun x=>zC (at? (List.set t4_2 (zI t4) a) t4) fun y=>zC (at? (List.set t4_2 (zI t4) a) t4) fun y=>some (y,()) else zC (Cz (a,())) fun y=>zC (at? t4_2 t4) fun x=>zC (at? (List.set t4_2 (zI t4) y.1) t4) fun y_1=>zC (at? (List.set t4_2 (zI t4) y.1) t4) fun y=>some (y,())
def aaX(j1:yF->Int->Bool->List kL->Option dG)(a:yF)(c:zJ0):Option dG :=
 if nei a.2.1.1 c.1=true then j1 a 0 true [BR] else j1 a 0 (nei a.2.2.2.1 c.2.2.1) [BR]
def aaY:=aaW
def aaZ(x:As aV):Option dG:=aaX aaY x.1 x.2.1
abbrev pAh:=zp amz amA 296 amy
theorem aBv{J a b c d}:pAh J 6 [] (amB a b c d)=aaW a b c d:=by kernel_rfl
abbrev pAg:=zj amz amA 296 amy
theorem aBw:C (pAg 6 []) amB=aaY:=gNC (by decide) fun _=>aBv
theorem aBx:au Tryz.prog (fun _=>True) 296 ⟨amy,aaZ⟩:=zcc (env:=amz) (d:=6) (hs:=Ev.get amA) (aj Ev.gJ (aj QG bq)) (fun J x=>aaX (C (J 6 []) amB) x.1 x.2.1) (fun _ _=>by kernel_rfl) fun _=>by rw[aBw]<;>rfl
@[reducible] def aa0:Sh:=⟨[.d aH,.d cR],[],aV,[.d aH,.d (.int .i64)],[],0,cK⟩
def aa1(a:yF)(c:zJ0):Option (As cK) :=
 zC (FU (a,())) fun y=>amb (ay aa0.rs) [if eqi 1 c.2.1=true then if eqi c.1 0=true then some (y.1,2,()) else if eqi c.2.2.1 0=true then some (y.1,2,()) else zC (uR (y.1,c.1,())) fun y_1=>if y_1.1=true then some (y.1,22,()) else zC (aat (y.1,c,())) fun y_2=>if y_2.1=true then some (y.1,23,()) else zC (aay (y.1,c,())) fun y=>some (y.1,0,()) else if eqi 2 c.2.1=true then if eqi c.1 0=true then some (y.1,2,()) else if eqi c.2.2.1 0=true then some (y.1,2,()) else zC (uR (y.1,c.1,())) fun y_1=>if y_1.1=true then some (y.1,22,()) else zC (aaL (y.1,c,())) fun y_2=>if y_2.1=true then some (y.1,23,()) else zC (aaN (y.1,c,())) fun y=>some (y.1,0,()) else if eqi 3 c.2.1=true then if eqi c.1 0=true then some (y.1,2,()) else if eqi c.2.2.1 0=true then some (y.1,2,()) else zC (uR (y.1,c.1,())) fun y_1=>if y_1.1=true then some (y.1,22,()) else zC (aaO (y.1,c,())) fun y_2=>if y_2.1=true then some (y.1,23,()) else zC (aaU (y.1,c,())) fun y=>some (y.1,0,()) else if eqi 4 c.2.1=true then if eqi c.1 0=true then some (y.1,2,()) else if eqi c.2.2.1 0=true then some (y.1,2,()) else zC (uR (y.1,c.1,())) fun y_1=>if y_1.1=true then some (y.1,22,()) else zC (aaV (y.1,c,())) fun y_2=>if y_2.1=true then some (y.1,23,()) else zC (aaZ (y.1,c,())) fun y=>some (y.1,0,()) else if eqi c.1 0=true then some (y.1,2,()) else if eqi c.2.2.1 0=true then some (y.1,2,()) else some (y.1,2,()),if eqi 1 c.2.1=true then if eqi c.1 0=true then some (y.1,2,()) else if eqi c.2.2.1 0=true then some (y.1,2,()) else zC (uR (y.1,c.1,())) fun y_1=>if y_1.1=true then some (y.1,22,()) else zC (aat (y.1,c,())) fun y_2=>if y_2.1=true then some (y.1,23,()) else zC (aay (y.1,c,())) fun y=>some (y.1,0,()) else if eqi 2 c.2.1=true then if eqi c.1 0=true then some (y.1,2,()) else if eqi c.2.2.1 0=true then some (y.1,2,()) else zC (uR (y.1,c.1,())) fun y_1=>if y_1.1=true then some (y.1,22,()) else zC (aaL (y.1,c,())) fun y_2=>if y_2.1=true then some (y.1,23,()) else zC (aaN (y.1,c,())) fun y=>some (y.1,0,()) else if eqi 3 c.2.1=true then if eqi c.1 0=true then some (y.1,2,()) else if eqi c.2.2.1 0=true then some (y.1,2,()) else zC (uR (y.1,c.1,())) fun y_1=>if y_1.1=true then some (y.1,22,()) else zC (aaO (y.1,c,())) fun y_2=>if y_2.1=true then some (y.1,23,()) else zC (aaU (y.1,c,())) fun y=>some (y.1,0,()) else if eqi 4 c.2.1=true then if eqi c.1 0=true then some (y.1,2,()) else if eqi c.2.2.1 0=true then some (y.1,2,()) else zC (uR (y.1,c.1,())) fun y_1=>if y_1.1=true then some (y.1,22,()) else zC (aaV (y.1,c,())) fun y_2=>if y_2.1=true then some (y.1,23,()) else zC (aaZ (y.1,c,())) fun y=>some (y.1,0,()) else if eqi c.1 0=true then some (y.1,2,()) else if eqi c.2.2.1 0=true then some (y.1,2,()) else some (y.1,2,())]
def Ay(x:As aV):Option (As cK):=aa1 x.1 x.2.1
theorem aBy:au Tryz.prog (fun _=>True) 253 ⟨aa0,Ay⟩:=ctn (aj aas (aj auK (aj aAQ (aj aAY (aj aBb (aj aBf (aj aBi (aj aBq (aj aBu (aj aBx bq)))))))))) 6 fun J x=>by kernel_rfl
@[reducible] def bL:List Ty:=[.int .u16,.int .u32,.int .i64,.pr (.int .i64) aB,.int .i64]
@[reducible] def aa2:Sh:=⟨[.d aB],[],aJ,[.d (.int .u16),.d (.int .u32),.d (.int .i64),.d d9,.d (.int .i64)],[],0,bL⟩
def amC:Env:=(cts [(26,(⟨OD,sZ⟩:Ct)),(90,(⟨O4,yj⟩:Ct)),(91,(⟨aaC,CB⟩:Ct)),(267,(⟨OE,Fq⟩:Ct)),(270,(⟨XA,rT⟩:Ct))])
def amD:List (Nat×Hint):=[(126,⟨[],[0,5,10,53]⟩),(6,⟨[],[0,5,19,47,48,49,50,51,52]⟩)]
def amE(w:List Int)(t19:Bool)(t5:Int):St:=⟨[(0,dW w),(5,.pb 0 0),(19,dB t19)],70,[],[(0,.box 38 [dI t5,.k (zK zH 0 0)])],1,[],0⟩
def amF(w:List Int)(t53:Bool)(t5:Int)(x:Int×List Int):St:=⟨[(0,dW w),(5,.pb 0 0),(10,.pb 1 0),(53,dB t53)],70,[],[(0,.box 38 [dI t5,.k (zK zH 0 0)]),(1,.box 38 [dI x.1,dW x.2])],2,[],0⟩
def aa3(j2:List Int->Bool->Int->Int×List Int->Option (As bL))(w:List Int)(t19:Bool)(t5:Int):Option (As bL) :=
 if t19=true then some (0,0,0,(0,[]),2,()) else zC (at? w 4) fun y=>zC (at? w 5) fun y_1=>zC (cut w 6 (zF (zG w))) fun y_2=>if gt (cvt .i64 y_1) (zF (zG y_2))=true then some (0,0,0,(0,[]),20,()) else zC (cut y_2 0 (cvt .i64 y_1)) fun y_3=>need (le (cvt .i64 y_1) (cvt .i64 y_1)) (need (le (cvt .i64 y_1) (zF (zG y_2))) (zC (CB ((cvt .i64 y,y_3),())) fun y=>zC (sZ (y.1,())) fun y_4=>if (!y_4.1)=true then j2 w true t5 y.1 else zC (cut w 4 (zF (zG w))) fun y_5=>zC (Fq (y.1,())) fun y_6=>zC (yj (y_6.1,y_5,())) fun y_7=>j2 w (!y_7.1) t5 y.1))
def aa4(w:List Int)(t53:Bool)(t5:Int)(x:Int×List Int):Option (As bL) :=
 if t53=true then some (0,0,0,(0,[]),20,()) else zC (at? w 0) fun y=>zC (at? w 1) fun y_1=>zC (at? w 2) fun y_2=>zC (at? w 3) fun y_3=>zC (rT (y_1,y_2,())) fun y_4=>some (y,y_4.1,cvt .i64 y_3,x,0,())
def aa5(j1:List Int->Bool->Int->Option (As bL))(w:List Int):Option (As bL) :=
 if nei (zF (zG w)) 20=true then j1 w true 0 else zC (at? w 3) fun y=>j1 w (ge y 8) 0
def aa6:=aa4
def amG:=aa3 (aa6)
def Kb(x:As aJ):Option (As bL):=aa5 amG x.1
abbrev pD1:=zp amC amD 254 aa2
theorem aBz{J a b c d}:pD1 J 126 [] (amF a b c d)=aa4 a b c d:=by kernel_rfl
theorem aBA{J a b c}:pD1 J 6 [] (amE a b c)=aa3 (C (J 126 []) amF) a b c:=by kernel_rfl
abbrev pD0:=zj amC amD 254 aa2
theorem aBB:C (pD0 126 []) amF=aa6:=gNC (by decide) fun _=>aBz
theorem aBC:C (pD0 6 []) amE=amG:=gNC (by decide) fun _=>aBA.trans (by rw[aBB]<;>kernel_rfl)
theorem aBD:au Tryz.prog (fun _=>True) 254 ⟨aa2,Kb⟩:=zcc (env:=amC) (d:=6) (hs:=Ev.get amD) (aj Jf (aj ahT (aj al7 (aj ag0 (aj ahp bq))))) (fun J x=>aa5 (C (J 6 []) amE) x.1) (fun _ _=>by kernel_rfl) fun _=>by rw[aBC]<;>rfl
@[reducible] def aa7:Sh:=⟨[.d (.pr (.int .u32) (.pr (.ar 8 .bool) (.ar 8 d9))),.d (.int .i64),.d d9],[],[.pr (.int .u32) (.pr (.ar 8 .bool) (.ar 8 d9)),.int .i64,.pr (.int .i64) aB],[.d (.pr (.int .u32) (.pr (.ar 8 .bool) (.ar 8 d9))),.d (.int .i64)],[],0,[.pr (.int .u32) (.pr (.ar 8 .bool) (.ar 8 d9)),.int .i64]⟩
def amH:Env:=(cts [(26,(⟨OD,sZ⟩:Ct)),(91,(⟨aaC,CB⟩:Ct)),(283,(⟨ahD,Fv⟩:Ct))])
def amI:List (Nat×Hint):=[(31,⟨[],[3,6]⟩),(250,⟨[],[3,6,26,27]⟩)]
def aa8(s t6:Int)(t26:List Bool)(t27:Int)(s_2 t6_2:List qp):St:=⟨[(3,.prw 0 s 25 0),(6,.prw 1 t6 25 0),(26,.d (.ar 8 .bool) t26),(27,dI t27)],46,[],[(0,.row (.pr (.int .u32) (.pr (.ar 8 .bool) (.ar 8 d9))) 41 s_2),(1,.row (.pr (.int .u32) (.pr (.ar 8 .bool) (.ar 8 d9))) 41 t6_2)],2,[],0⟩
def amJ(s t6:Int)(s_2 t6_2:List qp):St:=⟨[(3,.prw 0 s 25 0),(6,.prw 1 t6 25 0)],46,[],[(0,.row (.pr (.int .u32) (.pr (.ar 8 .bool) (.ar 8 d9))) 41 s_2),(1,.row (.pr (.int .u32) (.pr (.ar 8 .bool) (.ar 8 d9))) 41 t6_2)],2,[],0⟩
@[reducible] def zJ4:Type:=Int->Int->List Bool->Int->List qp->List qp->Option (As [.pr (.int .u32) (.pr (.ar 8 .bool) (.ar 8 d9)),.int .i64])
def QM(j2:Int->Int->List qp->List qp->Option (As [.pr (.int .u32) (.pr (.ar 8 .bool) (.ar 8 d9)),.int .i64]))(self1:zJ4)(s t6:Int)(t26:List Bool)(t27:Int)(s_2 t6_2:List qp):Option (As [.pr (.int .u32) (.pr (.ar 8 .bool) (.ar 8 d9)),.int .i64]) :=
 if lt t27 8=true then need (lt t27 8) (zC (at? t26 t27) fun y=>if y=true then need (ge t27 0) (need (lt t27 8) (zC (at? s_2 s) fun y=>zC (at? y.2.2 t27) fun z=>zC (CB (z,())) fun y=>need (ge t27 0) (need (lt t27 8) (zC (at? s_2 s) fun x=>zC (at? x.2.2 t27) fun z=>self1 s t6 t26 (add .i64 t27 1) (List.set s_2 (zI s) (x.1,x.2.1,List.set x.2.2 (zI t27) y.1)) t6_2)))) else need (ge t27 0) (need (lt t27 8) (zC (at? s_2 s) fun x=>zC (at? x.2.2 t27) fun z=>self1 s t6 t26 (add .i64 t27 1) (List.set s_2 (zI s) (x.1,x.2.1,List.set x.2.2 (zI t27) (0,[]))) t6_2))) else j2 s t6 s_2 t6_2
def aqJ(s t6:Int)(s_2 t6_2:List qp):Option (As [.pr (.int .u32) (.pr (.ar 8 .bool) (.ar 8 d9)),.int .i64]) :=
 zC (at? s_2 s) fun y=>zC (at? t6_2 t6) fun x=>zC (at? (List.set t6_2 (zI t6) y) t6) fun y_1=>zC (at? (List.set t6_2 (zI t6) y) t6) fun y=>some (y,0,())
def aa9(j1:zJ4)(s:Int×List Bool×List (Int×List Int))(n:Int)(x:Int×List Int):Option (As [.pr (.int .u32) (.pr (.ar 8 .bool) (.ar 8 d9)),.int .i64]) :=
 zC (Fv (n,())) fun y=>if (!y.1)=true then some (zSt,2,()) else zC (sZ (x,())) fun y=>if (!y.1)=true then some (zSt,20,()) else need (ge n 0) (need (lt n 8) (zC (at? s.2.1 n) fun z=>need (ge n 0) (need (lt n 8) (zC (at? s.2.2 n) fun z=>j1 0 0 (List.set s.2.1 (zI n) true) 0 [(s.1,List.set s.2.1 (zI n) true,List.set s.2.2 (zI n) x)] [zSt]))))
def aqK:=aqJ
def QN(s t6:Int)(t26:List Bool)(t27:Int)(s_2 t6_2:List qp):Option (As [.pr (.int .u32) (.pr (.ar 8 .bool) (.ar 8 d9)),.int .i64]) :=
 cu (fun self s=>QM (aqK) (fun s t6 t26 t27 s_2 t6_2=>self (s,t6,t26,t27,s_2,t6_2)) s.1 s.2.1 s.2.2.1 s.2.2.2.1 s.2.2.2.2.1 s.2.2.2.2.2) 18446744073709551616 (s,t6,t26,t27,s_2,t6_2)
def aba(x:As [.pr (.int .u32) (.pr (.ar 8 .bool) (.ar 8 d9)),.int .i64,.pr (.int .i64) aB]):Option (As [.pr (.int .u32) (.pr (.ar 8 .bool) (.ar 8 d9)),.int .i64]):=aa9 QN x.1 x.2.1 x.2.2.1
abbrev pDz:=zp amH amI 277 aa7
theorem aBE{J a b c d}:pDz J 31 [] (amJ a b c d)=aqJ a b c d:=by kernel_rfl
theorem aBF{J w1 a b c d e f}:pDz J 250 [w1] (aa8 a b c d e f)=QM (C (J 31 []) amJ) (C w1 aa8) a b c d e f:=by kernel_rfl
abbrev pDy:=zj amH amI 277 aa7
theorem aBG:C (pDy 31 []) amJ=aqK:=gNC (by decide) fun _=>aBE
theorem aBH:C (pDy 250 []) aa8=QN:=gLC (by decide) (by kernel_rfl) (fun _=>by unfold QN;rfl) fun _ _=>aBF.trans (by rw[aBG]<;>kernel_rfl)
theorem aBI:au Tryz.prog (fun _=>True) 277 ⟨aa7,aba⟩:=zcc (env:=amH) (d:=6) (hs:=Ev.get amI) (aj Jf (aj al7 (aj ahF bq))) (fun J x=>aa9 (C (J 250 []) aa8) x.1 x.2.1 x.2.2.1) (fun _ _=>by kernel_rfl) fun _=>by rw[aBH]<;>rfl
@[reducible] def abb:Sh:=⟨[.d aH,.d (.int .u16),.d (.int .u32),.d (.int .i64),.d d9],[],[.pr aB wC,.int .u16,.int .u32,.int .i64,.pr (.int .i64) aB],[.d aH,.d (.int .i64)],[],0,cK⟩
def amK:Env:=(cts [(171,(⟨aap,FU⟩:Ct)),(275,(⟨aqA,uR⟩:Ct)),(276,(⟨aaz,Aw⟩:Ct)),(277,(⟨aa7,aba⟩:Ct)),(278,(⟨aqC,FV⟩:Ct))])
def amL:List (Nat×Hint):=[(14,⟨[],[1,2,3,5,9,10,21]⟩)]
def amM(owner tx n a t10:Int)(t21:Bool)(a_2:List kL)(x:Int×List Int)(t10_2:List kL):St:=⟨[(1,d6 owner),(2,d2 tx),(3,dI n),(5,.prw 0 a 32 0),(9,.pb 1 0),(10,.prw 2 t10 32 0),(21,dB t21)],49,[],[(0,.row aH 43 a_2),(1,.box 38 [dI x.1,dW x.2]),(2,.row aH 43 t10_2)],3,[],0⟩
def abd(owner tx n a t10:Int)(t21:Bool)(a_2:List kL)(x:Int×List Int)(t10_2:List kL):Option (As cK) :=
 if t21=true then zC (at? a_2 a) fun y=>zC (at? t10_2 t10) fun x=>zC (at? (List.set t10_2 (zI t10) y) t10) fun y_1=>zC (at? (List.set t10_2 (zI t10) y) t10) fun y=>some (y,2,()) else zC (at? a_2 a) fun y=>zC (uR (y,owner,())) fun y=>if y.1=true then zC (at? a_2 a) fun y=>zC (at? t10_2 t10) fun x=>zC (at? (List.set t10_2 (zI t10) y) t10) fun y_1=>zC (at? (List.set t10_2 (zI t10) y) t10) fun y=>some (y,22,()) else zC (at? a_2 a) fun y=>zC (Aw (y,1,tx,())) fun y=>if (!y.1)=true then zC (at? a_2 a) fun y=>zC (at? t10_2 t10) fun x=>zC (at? (List.set t10_2 (zI t10) y) t10) fun y_1=>zC (at? (List.set t10_2 (zI t10) y) t10) fun y=>some (y,23,()) else zC (at? a_2 a) fun y=>zC (aba (y.2.2.2.2.2.1,n,x,())) fun y=>if nei y.2.1 0=true then zC (at? a_2 a) fun y_1=>zC (at? t10_2 t10) fun x=>zC (at? (List.set t10_2 (zI t10) y_1) t10) fun y_2=>zC (at? (List.set t10_2 (zI t10) y_1) t10) fun y_3=>some (y_3,y.2.1,()) else zC (at? a_2 a) fun x=>zC (at? (List.set a_2 (zI a) (x.1,x.2.1,x.2.2.1,x.2.2.2.1,x.2.2.2.2.1,y.1,x.2.2.2.2.2.2)) a) fun y=>zC (FV (y,owner,())) fun y=>zC (at? t10_2 t10) fun x=>zC (at? (List.set t10_2 (zI t10) y.1) t10) fun y_1=>zC (at? (List.set t10_2 (zI t10) y.1) t10) fun y=>some (y,0,())
def abe(j1:Int->Int->Int->Int->Int->Bool->List kL->Int×List Int->List kL->Option (As cK))(a:yF)(owner tx n:Int)(x:Int×List Int):Option (As cK) :=
 zC (FU (a,())) fun y=>if eqi owner 0=true then j1 owner tx n 0 0 true [y.1] x [BR] else j1 owner tx n 0 0 (eqi tx 0) [y.1] x [BR]
def abf:=abd
def Az(x:As [.pr aB wC,.int .u16,.int .u32,.int .i64,.pr (.int .i64) aB]):Option (As cK):=abe abf x.1 x.2.1 x.2.2.1 x.2.2.2.1 x.2.2.2.2.1
abbrev pAb:=zp amK amL 255 abb
theorem aBJ{J a b c d e f g h i}:pAb J 14 [] (amM a b c d e f g h i)=abd a b c d e f g h i:=by kernel_rfl
abbrev pAa:=zj amK amL 255 abb
theorem aBK:C (pAa 14 []) amM=abf:=gNC (by decide) fun _=>aBJ
theorem aBL:au Tryz.prog (fun _=>True) 255 ⟨abb,Az⟩:=zcc (env:=amK) (d:=6) (hs:=Ev.get amL) (aj aas (aj auK (aj aaB (aj aBI (aj aqD bq))))) (fun J x=>abe (C (J 14 []) amM) x.1 x.2.1 x.2.2.1 x.2.2.2.1 x.2.2.2.2.1) (fun _ _=>by kernel_rfl) fun _=>by rw[aBK]<;>rfl
@[reducible] def bJ:List Ty:=[.int .u8,.int .u8,.sl (.int .u16),.int .u16,.int .i64,.int .u8,.int .u32,.int .u32,.int .u32,.bool,.bool,.bool,.bool,.bool,.bool,.bool,.bool,.int .i64,.sl (.int .u16),.int .i64,.sl (.int .u16),.int .i64,.sl (.int .u16),.int .i64,.sl (.int .u16),.int .i64,.sl (.int .u16),.int .i64,.sl (.int .u16),.int .i64,.sl (.int .u16),.int .i64,.sl (.int .u16),.int .i64,.sl (.int .u8),.sl .bool]
@[reducible] def dH:List Ty:=[.pr (.int .u8) aA,.pr (.int .u8) og]
@[reducible] def wK:Sh:=⟨[.agg [.d (.int .u8),.d (.int .u8),.d aB,.d (.int .u16),.d (.int .i64),.d (.int .u8),.d (.int .u32),.d (.int .u32),.d (.int .u32),.d (.bool),.d (.bool),.d (.bool),.d (.bool),.d (.bool),.d (.bool),.d (.bool),.d (.bool),.d (.int .i64),.d aB,.d (.int .i64),.d aB,.d (.int .i64),.d aB,.d (.int .i64),.d aB,.d (.int .i64),.d aB,.d (.int .i64),.d aB,.d (.int .i64),.d aB,.d (.int .i64),.d aB,.d (.int .i64),.row 0],.d aL],[.row .bool 4],bJ,[.d bB,.d aP],[],0,dH⟩
def amN:Env:=(cts [(1000045,Ev.iw),(1000226,Ev.iw),(163,(⟨aqk,Cj⟩:Ct)),(164,(⟨Qx,FT⟩:Ct)),(165,(⟨Qy,wJ⟩:Ct)),(166,(⟨aiF,lF⟩:Ct)),(168,(⟨oK,pq⟩:Ct)),(252,(⟨aal,J4⟩:Ct)),(253,(⟨aa0,Ay⟩:Ct)),(254,(⟨aa2,Kb⟩:Ct)),(255,(⟨abb,Az⟩:Ct))])
def amO:List (Nat×Hint):=[(7,⟨[],[2,4,5,6,7]⟩)]
@[reducible] def zJ5:Type:=Int×Int×Int×Int×List Int×List Bool
def amP(except:Int)(o:List Bool)(s s_2:Int)(s_3:List Int)(s_4 s_5 s_6 s_7 s_8 s_9:Int)(s_10 s_11 s_12 s_13 s_14 s_15 s_16 s_17:Bool)(s_18:Int)(s_19:List Int)(s_20:Int)(s_21:List Int)(s_22:Int)(s_23:List Int)(s_24:Int)(s_25:List Int)(s_26:Int)(s_27:List Int)(s_28:Int)(s_29:List Int)(s_30:Int)(s_31:List Int)(s_32:Int)(s_33:List Int)(s_34 t4 t4_2 t4_3 t4_4 t4_5 t4_6 t4_7 t4_8:Int)(t4_9 t4_10 t4_11 t4_12 t4_13 t4_14 t4_15 t4_16:Bool)(t4_17 t4_18 t4_19 t4_20 t4_21 t4_22 t4_23 t4_24 t4_25 t5 t5_2 t5_3 t5_4:Int)(a:zJ5):St:=⟨[(2,.pb 1 0),(4,.pb 2 0),(5,.pb 3 0),(6,.pb 4 0),(7,d8 except)],43,[],[(0,.row .bool 4 o),(1,.box 45 [d8 s,d8 s_2,dW s_3,d6 s_4,dI s_5,d8 s_6,d2 s_7,d2 s_8,d2 s_9,dB s_10,dB s_11,dB s_12,dB s_13,dB s_14,dB s_15,dB s_16,dB s_17,dI s_18,dW s_19,dI s_20,dW s_21,dI s_22,dW s_23,dI s_24,dW s_25,dI s_26,dW s_27,dI s_28,dW s_29,dI s_30,dW s_31,dI s_32,dW s_33,dI s_34,.row 0]),(2,.box 45 [d8 t4,d8 t4_2,.k (zK zH 0 0),d6 t4_3,dI t4_4,d8 t4_5,d2 t4_6,d2 t4_7,d2 t4_8,dB t4_9,dB t4_10,dB t4_11,dB t4_12,dB t4_13,dB t4_14,dB t4_15,dB t4_16,dI t4_17,.k (zK zH 0 0),dI t4_18,.k (zK zH 0 0),dI t4_19,.k (zK zH 0 0),dI t4_20,.k (zK zH 0 0),dI t4_21,.k (zK zH 0 0),dI t4_22,.k (zK zH 0 0),dI t4_23,.k (zK zH 0 0),dI t4_24,.k (zK zH 0 0),dI t4_25,.k (zK zH 0 0)]),(3,.box 109 [d8 t5,d8 t5_2,.k (zK zH 0 0),.k (zK zH 0 0),d6 t5_3,d6 t5_4]),(4,.box 27 [d8 a.1,d6 a.2.1,d6 a.2.2.1,d6 a.2.2.2.1,dW a.2.2.2.2.1,.d (.sl .bool) a.2.2.2.2.2])],5,[],1⟩
def aqL(except:Int)(o:List Bool)(s s_2:Int)(s_3:List Int)(s_4 s_5 s_6 s_7 s_8 s_9:Int)(s_10 s_11 s_12 s_13 s_14 s_15 s_16 s_17:Bool)(s_18:Int)(s_19:List Int)(s_20:Int)(s_21:List Int)(s_22:Int)(s_23:List Int)(s_24:Int)(s_25:List Int)(s_26:Int)(s_27:List Int)(s_28:Int)(s_29:List Int)(s_30:Int)(s_31:List Int)(s_32:Int)(s_33:List Int)(s_34 t4 t4_2 t4_3 t4_4 t4_5 t4_6 t4_7 t4_8:Int)(t4_9 t4_10 t4_11 t4_12 t4_13 t4_14 t4_15 t4_16:Bool)(t4_17 t4_18 t4_19 t4_20 t4_21 t4_22 t4_23 t4_24 t4_25 t5 t5_2 t5_3 t5_4:Int)(a:zJ5):Option (As dH) :=
 (fun (gA:TAg)=>if nei except 0=true then zC (lF (a.1,except,())) fun y=>some ((s,s_2,gA,o),y.1,()) else if eqi a.1 5=true then if le (add .i64 (cvt .i64 a.2.1) (zF (zG a.2.2.2.2.2))) (zF (zG o))=true then need (ge a.2.1 0) (need (le a.2.1 (zF (zG o))) (need (le (zF (zG o)) (zF (zG o))) (need (le (a.2.1+(zF (zG o) - a.2.1)) (zF (zG o))) (zC (pq ((s,s_2,gA,List.take (zI a.2.1) o++List.take (zI (zF (zG o) - a.2.1)) a.2.2.2.2.2++List.drop (zI a.2.1+zG (List.take (zI (zF (zG o) - a.2.1)) a.2.2.2.2.2)) o),a,())) fun y=>some ((s,s_2,gA,List.take (zI a.2.1) o++List.take (zI (zF (zG o) - a.2.1)) a.2.2.2.2.2++List.drop (zI a.2.1+zG (List.take (zI (zF (zG o) - a.2.1)) a.2.2.2.2.2)) o),y.1,()))))) else zC (pq ((s,s_2,gA,o),a,())) fun y=>some ((s,s_2,gA,o),y.1,()) else if eqi a.1 15=true then if le (add .i64 (cvt .i64 a.2.1) (zF (zG a.2.2.2.2.2))) (zF (zG o))=true then need (ge a.2.1 0) (need (le a.2.1 (zF (zG o))) (need (le (zF (zG o)) (zF (zG o))) (need (le (a.2.1+(zF (zG o) - a.2.1)) (zF (zG o))) (zC (pq ((s,s_2,gA,List.take (zI a.2.1) o++List.take (zI (zF (zG o) - a.2.1)) a.2.2.2.2.2++List.drop (zI a.2.1+zG (List.take (zI (zF (zG o) - a.2.1)) a.2.2.2.2.2)) o),a,())) fun y=>some ((s,s_2,gA,List.take (zI a.2.1) o++List.take (zI (zF (zG o) - a.2.1)) a.2.2.2.2.2++List.drop (zI a.2.1+zG (List.take (zI (zF (zG o) - a.2.1)) a.2.2.2.2.2)) o),y.1,()))))) else zC (pq ((s,s_2,gA,o),a,())) fun y=>some ((s,s_2,gA,o),y.1,()) else if eqi (zF (zG a.2.2.2.2.1)) 0=true then zC (pq ((s,s_2,gA,o),a,())) fun y=>some ((s,s_2,gA,o),y.1,()) else if eqi a.1 23=true then if eqi 272 a.2.2.2.1=true then zC (J4 (a.2.2.2.2.1,())) fun y=>if nei y.2.1 0=true then zC (lF (a.1,3,())) fun y=>some ((s,s_2,gA,o),y.1,()) else amb (ay wK.rs) [zC (Ay (gA,y.1,())) fun y=>if nei y.2.1 0=true then zC (lF (a.1,4,())) fun y=>some ((s,s_2,gA,o),y.1,()) else zC (pq ((s,s_2,(jT y.1),o),a,())) fun y_1=>some ((s,s_2,(jT y.1),o),y_1.1,()),zC (Ay (gA,y.1,())) fun y=>if nei y.2.1 0=true then zC (lF (a.1,4,())) fun y=>some ((s,s_2,gA,o),y.1,()) else zC (pq ((s,s_2,(jT y.1),o),a,())) fun y_1=>some ((s,s_2,(jT y.1),o),y_1.1,())] else if eqi 288 a.2.2.2.1=true then zC (Kb (a.2.2.2.2.1,())) fun y=>if nei y.2.2.2.2.1 0=true then zC (lF (a.1,3,())) fun y=>some ((s,s_2,gA,o),y.1,()) else amb (ay wK.rs) [zC (Az (gA,y.1,y.2.1,y.2.2.1,y.2.2.2.1,())) fun y=>if nei y.2.1 0=true then zC (lF (a.1,4,())) fun y=>some ((s,s_2,gA,o),y.1,()) else zC (pq ((s,s_2,(jT y.1),o),a,())) fun y_1=>some ((s,s_2,(jT y.1),o),y_1.1,()),zC (Az (gA,y.1,y.2.1,y.2.2.1,y.2.2.2.1,())) fun y=>if nei y.2.1 0=true then zC (lF (a.1,4,())) fun y=>some ((s,s_2,gA,o),y.1,()) else zC (pq ((s,s_2,(jT y.1),o),a,())) fun y_1=>some ((s,s_2,(jT y.1),o),y_1.1,())] else zC (lF (a.1,2,())) fun y=>some ((s,s_2,gA,o),y.1,()) else if eqi 272 a.2.1=true then zC (J4 (a.2.2.2.2.1,())) fun y=>if nei y.2.1 0=true then zC (lF (a.1,3,())) fun y=>some ((s,s_2,gA,o),y.1,()) else amb (ay wK.rs) [zC (Ay (gA,y.1,())) fun y=>if nei y.2.1 0=true then zC (lF (a.1,4,())) fun y=>some ((s,s_2,gA,o),y.1,()) else zC (pq ((s,s_2,(jT y.1),o),a,())) fun y_1=>some ((s,s_2,(jT y.1),o),y_1.1,()),zC (Ay (gA,y.1,())) fun y=>if nei y.2.1 0=true then zC (lF (a.1,4,())) fun y=>some ((s,s_2,gA,o),y.1,()) else zC (pq ((s,s_2,(jT y.1),o),a,())) fun y_1=>some ((s,s_2,(jT y.1),o),y_1.1,())] else if eqi 288 a.2.1=true then zC (Kb (a.2.2.2.2.1,())) fun y=>if nei y.2.2.2.2.1 0=true then zC (lF (a.1,3,())) fun y=>some ((s,s_2,gA,o),y.1,()) else amb (ay wK.rs) [zC (Az (gA,y.1,y.2.1,y.2.2.1,y.2.2.2.1,())) fun y=>if nei y.2.1 0=true then zC (lF (a.1,4,())) fun y=>some ((s,s_2,gA,o),y.1,()) else zC (pq ((s,s_2,(jT y.1),o),a,())) fun y_1=>some ((s,s_2,(jT y.1),o),y_1.1,()),zC (Az (gA,y.1,y.2.1,y.2.2.1,y.2.2.2.1,())) fun y=>if nei y.2.1 0=true then zC (lF (a.1,4,())) fun y=>some ((s,s_2,gA,o),y.1,()) else zC (pq ((s,s_2,(jT y.1),o),a,())) fun y_1=>some ((s,s_2,(jT y.1),o),y_1.1,())] else zC (lF (a.1,2,())) fun y=>some ((s,s_2,gA,o),y.1,())) (s_3,(s_4,s_5),s_6,s_7,s_8,(s_9,[s_10,s_11,s_12,s_13,s_14,s_15,s_16,s_17],[(s_18,s_19),(s_20,s_21),(s_22,s_23),(s_24,s_25),(s_26,s_27),(s_28,s_29),(s_30,s_31),(s_32,s_33)]),s_34)
def aqM(j1:Int->List Bool->Int->Int->List Int->Int->Int->Int->Int->Int->Int->Bool->Bool->Bool->Bool->Bool->Bool->Bool->Bool->Int->List Int->Int->List Int->Int->List Int->Int->List Int->Int->List Int->Int->List Int->Int->List Int->Int->List Int->Int->Int->Int->Int->Int->Int->Int->Int->Int->Bool->Bool->Bool->Bool->Bool->Bool->Bool->Bool->Int->Int->Int->Int->Int->Int->Int->Int->Int->Int->Int->Int->Int->Int×Int×Int×Int×List Int×List Bool->Option (As dH))(s pdu:Int)(s_2:List Int)(pdu_2 v v_2 a except d:Int)(v_3 v_4 v_5 v_6 v_7 v_8 v_9 v_10:Bool)(v_11:Int)(v_12:List Int)(v_13:Int)(v_14:List Int)(v_15:Int)(v_16:List Int)(v_17:Int)(v_18:List Int)(v_19:Int)(v_20:List Int)(v_21:Int)(v_22:List Int)(v_23:Int)(v_24:List Int)(v_25:Int)(v_26:List Int)(v_27:Int)(v_28:List Int)(v_29:List Bool):Option (As dH) :=
 zC (Cj (v_28,())) fun y=>if eqi y.2.1 0=true then zC (wJ ()) fun y_1=>zC (FT (y_1.1,y.1,())) fun y_2=>j1 y_2.1 v_29 s pdu s_2 pdu_2 v v_2 a except d v_3 v_4 v_5 v_6 v_7 v_8 v_9 v_10 v_11 v_12 v_13 v_14 v_15 v_16 v_17 v_18 v_19 v_20 v_21 v_22 v_23 v_24 v_25 v_26 v_27 0 0 0 0 0 0 0 0 false false false false false false false false 0 0 0 0 0 0 0 0 0 0 0 0 0 y.1 else j1 y.2.1 v_29 s pdu s_2 pdu_2 v v_2 a except d v_3 v_4 v_5 v_6 v_7 v_8 v_9 v_10 v_11 v_12 v_13 v_14 v_15 v_16 v_17 v_18 v_19 v_20 v_21 v_22 v_23 v_24 v_25 v_26 v_27 0 0 0 0 0 0 0 0 false false false false false false false false 0 0 0 0 0 0 0 0 0 0 0 0 0 y.1
def amQ:=aqL
def aqN(x:As bJ):Option (As dH):=aqM amQ x.1 x.2.1 x.2.2.1 x.2.2.2.1 x.2.2.2.2.1 x.2.2.2.2.2.1 x.2.2.2.2.2.2.1 x.2.2.2.2.2.2.2.1 x.2.2.2.2.2.2.2.2.1 x.2.2.2.2.2.2.2.2.2.1 x.2.2.2.2.2.2.2.2.2.2.1 x.2.2.2.2.2.2.2.2.2.2.2.1 x.2.2.2.2.2.2.2.2.2.2.2.2.1 x.2.2.2.2.2.2.2.2.2.2.2.2.2.1 x.2.2.2.2.2.2.2.2.2.2.2.2.2.2.1 x.2.2.2.2.2.2.2.2.2.2.2.2.2.2.2.1 x.2.2.2.2.2.2.2.2.2.2.2.2.2.2.2.2.1 x.2.2.2.2.2.2.2.2.2.2.2.2.2.2.2.2.2.1 x.2.2.2.2.2.2.2.2.2.2.2.2.2.2.2.2.2.2.1 x.2.2.2.2.2.2.2.2.2.2.2.2.2.2.2.2.2.2.2.1 x.2.2.2.2.2.2.2.2.2.2.2.2.2.2.2.2.2.2.2.2.1 x.2.2.2.2.2.2.2.2.2.2.2.2.2.2.2.2.2.2.2.2.2.1 x.2.2.2.2.2.2.2.2.2.2.2.2.2.2.2.2.2.2.2.2.2.2.1 x.2.2.2.2.2.2.2.2.2.2.2.2.2.2.2.2.2.2.2.2.2.2.2.1 x.2.2.2.2.2.2.2.2.2.2.2.2.2.2.2.2.2.2.2.2.2.2.2.2.1 x.2.2.2.2.2.2.2.2.2.2.2.2.2.2.2.2.2.2.2.2.2.2.2.2.2.1 x.2.2.2.2.2.2.2.2.2.2.2.2.2.2.2.2.2.2.2.2.2.2.2.2.2.2.1 x.2.2.2.2.2.2.2.2.2.2.2.2.2.2.2.2.2.2.2.2.2.2.2.2.2.2.2.1 x.2.2.2.2.2.2.2.2.2.2.2.2.2.2.2.2.2.2.2.2.2.2.2.2.2.2.2.2.1 x.2.2.2.2.2.2.2.2.2.2.2.2.2.2.2.2.2.2.2.2.2.2.2.2.2.2.2.2.2.1 x.2.2.2.2.2.2.2.2.2.2.2.2.2.2.2.2.2.2.2.2.2.2.2.2.2.2.2.2.2.2.1 x.2.2.2.2.2.2.2.2.2.2.2.2.2.2.2.2.2.2.2.2.2.2.2.2.2.2.2.2.2.2.2.1 x.2.2.2.2.2.2.2.2.2.2.2.2.2.2.2.2.2.2.2.2.2.2.2.2.2.2.2.2.2.2.2.2.1 x.2.2.2.2.2.2.2.2.2.2.2.2.2.2.2.2.2.2.2.2.2.2.2.2.2.2.2.2.2.2.2.2.2.1 x.2.2.2.2.2.2.2.2.2.2.2.2.2.2.2.2.2.2.2.2.2.2.2.2.2.2.2.2.2.2.2.2.2.2.1 x.2.2.2.2.2.2.2.2.2.2.2.2.2.2.2.2.2.2.2.2.2.2.2.2.2.2.2.2.2.2.2.2.2.2.2.1
abbrev pDl:=zp amN amO 109 wK
theorem aBM{J a b c d e f g h i j k l m n o p q r t u v x y z aa ab ac ad ae af ag ah ba bb bc bd be bf bg bh ca cb cc cd ce cf cg ch da db dc dd de df dg dh ea eb ec ed ee ef eg eh fa fb}:pDl J 7 [] (amP a b c d e f g h i j k l m n o p q r t u v x y z aa ab ac ad ae af ag ah ba bb bc bd be bf bg bh ca cb cc cd ce cf cg ch da db dc dd de df dg dh ea eb ec ed ee ef eg eh fa fb)=aqL a b c d e f g h i j k l m n o p q r t u v x y z aa ab ac ad ae af ag ah ba bb bc bd be bf bg bh ca cb cc cd ce cf cg ch da db dc dd de df dg dh ea eb ec ed ee ef eg eh fa fb:=by kernel_rfl
abbrev pDk:=zj amN amO 109 wK
theorem aBN:C (pDk 7 []) amP=amQ:=gNC (by decide) fun _=>aBM
theorem aBO:au Tryz.prog (fun _=>True) 109 ⟨wK,aqN⟩:=zcc (env:=amN) (d:=6) (hs:=Ev.get amO) (aj Ev.gJ (aj Ev.gJ (aj azr (aj aqr (aj aqw (aj Yl (aj aAF (aj aAI (aj aBy (aj aBD (aj aBL bq))))))))))) (fun J x=>aqM (C (J 7 []) amP) x.1 x.2.1 x.2.2.1 x.2.2.2.1 x.2.2.2.2.1 x.2.2.2.2.2.1 x.2.2.2.2.2.2.1 x.2.2.2.2.2.2.2.1 x.2.2.2.2.2.2.2.2.1 x.2.2.2.2.2.2.2.2.2.1 x.2.2.2.2.2.2.2.2.2.2.1 x.2.2.2.2.2.2.2.2.2.2.2.1 x.2.2.2.2.2.2.2.2.2.2.2.2.1 x.2.2.2.2.2.2.2.2.2.2.2.2.2.1 x.2.2.2.2.2.2.2.2.2.2.2.2.2.2.1 x.2.2.2.2.2.2.2.2.2.2.2.2.2.2.2.1 x.2.2.2.2.2.2.2.2.2.2.2.2.2.2.2.2.1 x.2.2.2.2.2.2.2.2.2.2.2.2.2.2.2.2.2.1 x.2.2.2.2.2.2.2.2.2.2.2.2.2.2.2.2.2.2.1 x.2.2.2.2.2.2.2.2.2.2.2.2.2.2.2.2.2.2.2.1 x.2.2.2.2.2.2.2.2.2.2.2.2.2.2.2.2.2.2.2.2.1 x.2.2.2.2.2.2.2.2.2.2.2.2.2.2.2.2.2.2.2.2.2.1 x.2.2.2.2.2.2.2.2.2.2.2.2.2.2.2.2.2.2.2.2.2.2.1 x.2.2.2.2.2.2.2.2.2.2.2.2.2.2.2.2.2.2.2.2.2.2.2.1 x.2.2.2.2.2.2.2.2.2.2.2.2.2.2.2.2.2.2.2.2.2.2.2.2.1 x.2.2.2.2.2.2.2.2.2.2.2.2.2.2.2.2.2.2.2.2.2.2.2.2.2.1 x.2.2.2.2.2.2.2.2.2.2.2.2.2.2.2.2.2.2.2.2.2.2.2.2.2.2.1 x.2.2.2.2.2.2.2.2.2.2.2.2.2.2.2.2.2.2.2.2.2.2.2.2.2.2.2.1 x.2.2.2.2.2.2.2.2.2.2.2.2.2.2.2.2.2.2.2.2.2.2.2.2.2.2.2.2.1 x.2.2.2.2.2.2.2.2.2.2.2.2.2.2.2.2.2.2.2.2.2.2.2.2.2.2.2.2.2.1 x.2.2.2.2.2.2.2.2.2.2.2.2.2.2.2.2.2.2.2.2.2.2.2.2.2.2.2.2.2.2.1 x.2.2.2.2.2.2.2.2.2.2.2.2.2.2.2.2.2.2.2.2.2.2.2.2.2.2.2.2.2.2.2.1 x.2.2.2.2.2.2.2.2.2.2.2.2.2.2.2.2.2.2.2.2.2.2.2.2.2.2.2.2.2.2.2.2.1 x.2.2.2.2.2.2.2.2.2.2.2.2.2.2.2.2.2.2.2.2.2.2.2.2.2.2.2.2.2.2.2.2.2.1 x.2.2.2.2.2.2.2.2.2.2.2.2.2.2.2.2.2.2.2.2.2.2.2.2.2.2.2.2.2.2.2.2.2.2.1 x.2.2.2.2.2.2.2.2.2.2.2.2.2.2.2.2.2.2.2.2.2.2.2.2.2.2.2.2.2.2.2.2.2.2.2.1) (fun _ _=>by kernel_rfl) fun _=>by rw[aBN]<;>rfl
@[reducible] def aBP:Sh:=⟨[.d aP],[],aS,[.d aL,.d (.int .i64)],[],0,aU⟩
def amR(r:Int×Int×List Bool×List Int×Int×Int):Option dA :=
 if nei r.2.1 0=true then zC (FB ((),r,())) fun y=>if y.1=true then zC (Js ((),r,())) fun y=>some (y.1,0,()) else some ([],13,()) else if eqi r.1 1=true then zC (yu ((),r,())) fun y=>if y.1=true then zC (Ce ((),r,())) fun y=>some (y.1,0,()) else some ([],13,()) else if eqi r.1 2=true then zC (yu ((),r,())) fun y=>if y.1=true then zC (Ce ((),r,())) fun y=>some (y.1,0,()) else some ([],13,()) else if eqi r.1 3=true then zC (yX ((),r,())) fun y=>if y.1=true then zC (yx ((),r,())) fun y=>some (y.1,0,()) else some ([],13,()) else if eqi r.1 4=true then zC (yX ((),r,())) fun y=>if y.1=true then zC (yx ((),r,())) fun y=>some (y.1,0,()) else some ([],13,()) else if eqi r.1 23=true then zC (yX ((),r,())) fun y=>if y.1=true then zC (yx ((),r,())) fun y=>some (y.1,0,()) else some ([],13,()) else if eqi r.1 5=true then zC (FC ((),r,())) fun y=>if y.1=true then zC (Jw ((),r,())) fun y=>some (y.1,0,()) else some ([],13,()) else if eqi r.1 6=true then zC (FD ((),r,())) fun y=>if y.1=true then zC (Jy ((),r,())) fun y=>some (y.1,0,()) else some ([],13,()) else if eqi r.1 15=true then zC (yw (1968,r,())) fun y=>if y.1=true then zC (Cg (1968,r,())) fun y=>some (y.1,0,()) else some ([],13,()) else if eqi r.1 16=true then zC (yw (123,r,())) fun y=>if y.1=true then zC (Cg (123,r,())) fun y=>some (y.1,0,()) else some ([],13,()) else some ([],13,())
def QO(x:As aS):Option dA:=amR x.1
theorem aBQ:au Tryz.prog (fun _=>True) 110 ⟨aBP,QO⟩:=ctn (aj aiL (aj auj (aj aiN (aj aum (aj aiP (aj aup (aj aiR (aj aur (aj aiT (aj aut (aj aiV (aj auw bq)))))))))))) 6 fun J x=>by kernel_rfl
@[reducible] def bD:List Ty:=[.pr (.int .u8) aA,.sl (.int .u8)]
@[reducible] def amS:Sh:=⟨[.d bB,.d aL],[],bD,[.d bB,.d aL],[],0,bD⟩
def amT(s:pV)(pdu:List Int):Option (As bD) :=
 zC (Zf (s,())) fun y=>zC (aqN (y.1,y.2.1,y.2.2.1,y.2.2.2.1,y.2.2.2.2.1,y.2.2.2.2.2.1,y.2.2.2.2.2.2.1,y.2.2.2.2.2.2.2.1,y.2.2.2.2.2.2.2.2.1,y.2.2.2.2.2.2.2.2.2.1,y.2.2.2.2.2.2.2.2.2.2.1,y.2.2.2.2.2.2.2.2.2.2.2.1,y.2.2.2.2.2.2.2.2.2.2.2.2.1,y.2.2.2.2.2.2.2.2.2.2.2.2.2.1,y.2.2.2.2.2.2.2.2.2.2.2.2.2.2.1,y.2.2.2.2.2.2.2.2.2.2.2.2.2.2.2.1,y.2.2.2.2.2.2.2.2.2.2.2.2.2.2.2.2.1,y.2.2.2.2.2.2.2.2.2.2.2.2.2.2.2.2.2.1,y.2.2.2.2.2.2.2.2.2.2.2.2.2.2.2.2.2.2.1,y.2.2.2.2.2.2.2.2.2.2.2.2.2.2.2.2.2.2.2.1,y.2.2.2.2.2.2.2.2.2.2.2.2.2.2.2.2.2.2.2.2.1,y.2.2.2.2.2.2.2.2.2.2.2.2.2.2.2.2.2.2.2.2.2.1,y.2.2.2.2.2.2.2.2.2.2.2.2.2.2.2.2.2.2.2.2.2.2.1,y.2.2.2.2.2.2.2.2.2.2.2.2.2.2.2.2.2.2.2.2.2.2.2.1,y.2.2.2.2.2.2.2.2.2.2.2.2.2.2.2.2.2.2.2.2.2.2.2.2.1,y.2.2.2.2.2.2.2.2.2.2.2.2.2.2.2.2.2.2.2.2.2.2.2.2.2.1,y.2.2.2.2.2.2.2.2.2.2.2.2.2.2.2.2.2.2.2.2.2.2.2.2.2.2.1,y.2.2.2.2.2.2.2.2.2.2.2.2.2.2.2.2.2.2.2.2.2.2.2.2.2.2.2.1,y.2.2.2.2.2.2.2.2.2.2.2.2.2.2.2.2.2.2.2.2.2.2.2.2.2.2.2.2.1,y.2.2.2.2.2.2.2.2.2.2.2.2.2.2.2.2.2.2.2.2.2.2.2.2.2.2.2.2.2.1,y.2.2.2.2.2.2.2.2.2.2.2.2.2.2.2.2.2.2.2.2.2.2.2.2.2.2.2.2.2.2.1,y.2.2.2.2.2.2.2.2.2.2.2.2.2.2.2.2.2.2.2.2.2.2.2.2.2.2.2.2.2.2.2.1,y.2.2.2.2.2.2.2.2.2.2.2.2.2.2.2.2.2.2.2.2.2.2.2.2.2.2.2.2.2.2.2.2.1,y.2.2.2.2.2.2.2.2.2.2.2.2.2.2.2.2.2.2.2.2.2.2.2.2.2.2.2.2.2.2.2.2.2.1,pdu,y.2.2.2.2.2.2.2.2.2.2.2.2.2.2.2.2.2.2.2.2.2.2.2.2.2.2.2.2.2.2.2.2.2.2.1,())) fun y=>zC (QO (y.2.1,())) fun y_1=>some (y.1,y_1.1,())
def Kc(x:As bD):Option (As bD):=amT x.1 x.2.1
theorem aBR:au Tryz.prog (fun _=>True) 52 ⟨amS,Kc⟩:=ctn (aj azb (aj aBO (aj aBQ bq))) 6 fun J x=>by kernel_rfl
@[reducible] def abg:Sh:=⟨[.d bB,.d aL],[],bD,[.d bB,.d aL],[],0,bD⟩
def amU:Env:=(cts [(52,(⟨amS,Kc⟩:Ct)),(98,(⟨PX,FH⟩:Ct)),(99,(⟨Zc,FI⟩:Ct)),(100,(⟨WN,Oz⟩:Ct)),(101,(⟨Y1,JC⟩:Ct)),(102,(⟨W9,OC⟩:Ct))])
def amV:List (Nat×Hint):=[(30,⟨[],[2,4,10,11,62]⟩),(106,⟨[],[2,4,6,31]⟩)]
def amW(s t4:Int)(t31:Bool)(s_2 t4_2:List (pV))(x:Int×Int×List Int):St:=⟨[(2,.prw 0 s 35 0),(4,.prw 1 t4 35 0),(6,.pb 2 0),(31,dB t31)],79,[],[(0,.row bB 45 s_2),(1,.row bB 45 t4_2),(2,.box 129 [d6 x.1,d8 x.2.1,dL x.2.2])],3,[],0⟩
def amX(s t4 unit:Int)(pdu:List Int)(t62:Bool)(s_2 t4_2:List (pV)):St:=⟨[(2,.prw 0 s 35 0),(4,.prw 1 t4 35 0),(10,d8 unit),(11,dL pdu),(62,dB t62)],79,[],[(0,.row bB 45 s_2),(1,.row bB 45 t4_2)],2,[],0⟩
def Ke(s t4:Int)(t31:Bool)(s_2 t4_2:List (pV))(x:Int×Int×List Int):Option (As bD) :=
 if t31=true then zC (at? s_2 s) fun y=>zC (FI (y,())) fun y=>zC (at? t4_2 t4) fun x=>zC (at? (List.set t4_2 (zI t4) y.1) t4) fun y_1=>zC (at? (List.set t4_2 (zI t4) y.1) t4) fun y=>some (y,[],()) else zC (at? s_2 s) fun y=>zC (Kc (y,x.2.2,())) fun y=>zC (at? s_2 s) fun x_1=>zC (Oz ((x.1,x.2.1,y.2.1),())) fun y_1=>zC (at? (List.set s_2 (zI s) y.1) s) fun y=>zC (at? t4_2 t4) fun x=>zC (at? (List.set t4_2 (zI t4) y) t4) fun y_2=>zC (at? (List.set t4_2 (zI t4) y) t4) fun y=>some (y,y_1.1,())
def Kg(s t4 unit:Int)(pdu:List Int)(t62:Bool)(s_2 t4_2:List (pV)):Option (As bD) :=
 if t62=true then zC (at? s_2 s) fun y=>zC (FI (y,())) fun y=>zC (at? t4_2 t4) fun x=>zC (at? (List.set t4_2 (zI t4) y.1) t4) fun y_1=>zC (at? (List.set t4_2 (zI t4) y.1) t4) fun y=>some (y,[],()) else zC (at? s_2 s) fun y=>zC (Kc (y,pdu,())) fun y=>zC (at? s_2 s) fun x=>zC (OC (unit,y.2.1,())) fun y_1=>zC (at? (List.set s_2 (zI s) y.1) s) fun y=>zC (at? t4_2 t4) fun x=>zC (at? (List.set t4_2 (zI t4) y) t4) fun y_2=>zC (at? (List.set t4_2 (zI t4) y) t4) fun y=>some (y,y_1.1,())
def abh(j1:Int->Int->Bool->List (pV)->List (pV)->Int×Int×List Int->Option (As bD))(j2:Int->Int->Int->List Int->Bool->List (pV)->List (pV)->Option (As bD))(s:pV)(frame:List Int):Option (As bD) :=
 if eqi s.2.1 2=true then zC (FH (frame,())) fun y=>if nei y.2.1 0=true then j1 0 0 true [s] [zSl] y.1 else j1 0 0 (nei y.1.2.1 s.1) [s] [zSl] y.1 else zC (JC (frame,())) fun y=>if nei y.2.2.1 0=true then j2 0 0 y.1 y.2.1 true [s] [zSl] else j2 0 0 y.1 y.2.1 (nei y.1 s.1) [s] [zSl]
def Kh:=Ke
def QS:=Kg
def QT(x:As bD):Option (As bD):=abh Kh QS x.1 x.2.1
abbrev pDf:=zp amU amV 48 abg
theorem aBS{J a b c d e f}:pDf J 106 [] (amW a b c d e f)=Ke a b c d e f:=by kernel_rfl
theorem aBT{J a b c d e f g}:pDf J 30 [] (amX a b c d e f g)=Kg a b c d e f g:=by kernel_rfl
abbrev pDe:=zj amU amV 48 abg
theorem aBU:C (pDe 106 []) amW=Kh:=gNC (by decide) fun _=>aBS
theorem aBV:C (pDe 30 []) amX=QS:=gNC (by decide) fun _=>aBT
theorem aBW:au Tryz.prog (fun _=>True) 48 ⟨abg,QT⟩:=zcc (env:=amU) (d:=6) (hs:=Ev.get amV) (aj aBR (aj aqc (aj aj4 (aj apn (aj aqe (aj apy bq)))))) (fun J x=>abh (C (J 106 []) amW) (C (J 30 []) amX) x.1 x.2.1) (fun _ _=>by kernel_rfl) fun _=>by rw[aBU,aBV]<;>rfl
@[reducible] def eQ:List Ty:=[.pr .bool aL,.pr aC nE,.pr (.int .u8) aA,.int .u32,.int .u32,.sl (.sl d9),.sl iy]
@[reducible] def CG:Sh:=⟨[.pb 0 0,.d iy],[(prG 1),.que iy 63],eQ,[],[(0,(prG 2)),(2,.que iy 63)],1,aK⟩
def amY:Env:=(cts [(1000048,Ev.iw),(9000046,Ev.iw),(9999999,Ev.iw),(20,(⟨Fb,yc⟩:Ct)),(46,(⟨Zb,yB⟩:Ct)),(48,(⟨abg,QT⟩:Ct))])
def amZ:List (Nat×Hint):=[(7,⟨[],[0,6,7,45,46,47,48,49,50]⟩),(31,⟨[],[0,7,51]⟩),(26,⟨[],[0,4,5]⟩)]
@[reducible] def zJ6:Type:=List (Bool×List Int)
def am0(b:List Int)(p:(mR)×(pV)×Unit×Int×Int×List aG)(o:zJ6)(t:mR):St:=⟨[(0,.pb 0 0),(4,.pb 2 0),(5,dL b)],63,[],[(0,.box 48 (gD p.1 (slC p.2.1 [.row 1,d2 p.2.2.2.1,d2 p.2.2.2.2.1,.d cE p.2.2.2.2.2]))),(1,.que iy 63 o),(2,.box 33 (gD t []))],3,[],2⟩
def am1(s:Int)(b:List Int)(p:(mR)×(pV)×Unit×Int×Int×List aG)(o:zJ6)(s_2:List (pV)):St:=⟨[(0,.pb 0 0),(6,.prw 2 s 35 0),(7,dL b)],63,[],[(0,.box 48 (gD p.1 (slC p.2.1 [.row 1,d2 p.2.2.2.1,d2 p.2.2.2.2.1,.d cE p.2.2.2.2.2]))),(1,.que iy 63 o),(2,.row bB 45 s_2)],3,[],2⟩
def am2(b:List Int)(t51:Bool)(p:(mR)×(pV)×Unit×Int×Int×List aG)(o:zJ6):St:=⟨[(0,.pb 0 0),(7,dL b),(51,dB t51)],63,[],[(0,.box 48 (gD p.1 (slC p.2.1 [.row 1,d2 p.2.2.2.1,d2 p.2.2.2.2.1,.d cE p.2.2.2.2.2]))),(1,.que iy 63 o)],2,[],2⟩
def abj(b:List Int)(p:(mR)×(pV)×Unit×Int×Int×List aG)(o:zJ6)(t:mR):Option eV :=
 zC (yc (b,t,(gW p.2.1),p.2.2.2.1,p.2.2.2.2.1,p.2.2.2.2.2,o,())) fun y=>some (y.1,(gW y.2.1),y.2.2.1,y.2.2.2.1,y.2.2.2.2.1,y.2.2.2.2.2.1,())
def abk(j3:List Int->Bool->(mR)×(pV)×Unit×Int×Int×List aG->List (Bool×List Int)->Option eV)(s:Int)(b:List Int)(p:(mR)×(pV)×Unit×Int×Int×List aG)(o:zJ6)(s_2:List (pV)):Option eV :=
 zC (at? s_2 s) fun y=>if gt (zF (zG b)) 0=true then j3 b (lt (zF (zG o)) 12) (p.1,y,p.2.2) o else j3 b false (p.1,y,p.2.2) o
def Ki(b:List Int)(t51:Bool)(p:(mR)×(pV)×Unit×Int×Int×List aG)(o:zJ6):Option eV :=
 if t51=true then need (small (zG o+Nat.succ 0)) (some (p.1,(gW p.2.1),p.2.2.2.1,p.2.2.2.2.1,p.2.2.2.2.2,o++[(true,b)],())) else some (p.1,(gW p.2.1),p.2.2.2.1,p.2.2.2.2.1,p.2.2.2.2.2,o,())
def abl(j1:List Int->(mR)×(pV)×Unit×Int×Int×List aG->List (Bool×List Int)->mR->Option eV)(j2:Int->List Int->(mR)×(pV)×Unit×Int×Int×List aG->List (Bool×List Int)->List (pV)->Option eV)(p:Bool×List Int)(m:mR)(p_2:pV)(m_2 t:Int)(b:List aG)(s:zJ6):Option eV :=
 if p.1=true then amb (ay CG.rs) [zC (yB (m,p.2,())) fun y=>j1 y.2.1 (m,p_2,(),m_2,t,b) s y.1,zC (yB (m,p.2,())) fun y=>j1 y.2.1 (m,p_2,(),m_2,t,b) s y.1] else amb (ay CG.rs) [zC (QT ((gW p_2),p.2,())) fun y=>j2 0 y.2.1 (m,p_2,(),m_2,t,b) s [y.1],zC (QT ((gW p_2),p.2,())) fun y=>j2 0 y.2.1 (m,p_2,(),m_2,t,b) s [y.1]]
def abm:=abj
def CJ:=Ki
def abn:=abk (CJ)
def AA(x:As eQ):Option eV:=abl abm abn x.1 x.2.1 x.2.2.1 x.2.2.2.1 x.2.2.2.2.1 x.2.2.2.2.2.1 x.2.2.2.2.2.2.1
abbrev pBj:=zp amY amZ 16 CG
theorem aBX{J a b c d}:pBj J 26 [] (am0 a b c d)=abj a b c d:=by kernel_rfl
theorem aBY{J a b c d}:pBj J 31 [] (am2 a b c d)=Ki a b c d:=by kernel_rfl
theorem aBZ{J a b c d e}:pBj J 7 [] (am1 a b c d e)=abk (C (J 31 []) am2) a b c d e:=by kernel_rfl
abbrev pBi:=zj amY amZ 16 CG
theorem aB0:C (pBi 26 []) am0=abm:=gNC (by decide) fun _=>aBX
theorem aB1:C (pBi 31 []) am2=CJ:=gNC (by decide) fun _=>aBY
theorem aB2:C (pBi 7 []) am1=abn:=gNC (by decide) fun _=>aBZ.trans (by rw[aB1]<;>kernel_rfl)
theorem am3:au Tryz.prog (fun _=>True) 16 ⟨CG,AA⟩:=zcc (env:=amY) (d:=6) (hs:=Ev.get amZ) (aj Ev.gJ (aj Ev.gJ (aj Ev.gJ (aj Wk (aj aqf (aj aBW bq)))))) (fun J x=>abl (C (J 26 []) am0) (C (J 7 []) am1) x.1 x.2.1 x.2.2.1 x.2.2.2.1 x.2.2.2.2.1 x.2.2.2.2.2.1 x.2.2.2.2.2.2.1) (fun _ _=>by kernel_rfl) fun _=>by rw[aB0,aB2]<;>rfl
@[reducible] def fF:List Ty:=[.pr (.int .u8) sW,.sl (.int .u8),.bool]
@[reducible] def aB3:Sh:=⟨[.d aC],[],cH,[.d aC,.d aL,.d (.bool)],[],0,fF⟩
def am4(p:Int×Int×Int×Int×Bool×xC×Int×Int×Int):Option (As fF) :=
 zC (Am (p,())) fun y=>if (!y.1.2.2.2.2.1)=true then some (y.1,[],false,()) else if nei (Sx.sub .i64 y.1.2.2.2.2.2.2.2.1 1) 0=true then some ((y.1.1,y.1.2.1,y.1.2.2.1,y.1.2.2.2.1,y.1.2.2.2.2.1,y.1.2.2.2.2.2.1,y.1.2.2.2.2.2.2.1,Sx.sub .i64 y.1.2.2.2.2.2.2.2.1 1,y.1.2.2.2.2.2.2.2.2),[],false,()) else if gt y.1.2.2.2.2.2.2.2.2 0=true then zC (Xe ((y.1.1,y.1.2.1,y.1.2.2.1,y.1.2.2.2.1,y.1.2.2.2.2.1,y.1.2.2.2.2.2.1,y.1.2.2.2.2.2.2.1,Sx.sub .i64 y.1.2.2.2.2.2.2.2.1 1,Sx.sub .i64 y.1.2.2.2.2.2.2.2.2 1),())) fun y=>some (y.1,y.2.1,false,()) else zC (Ca ((y.1.1,y.1.2.1,y.1.2.2.1,y.1.2.2.2.1,y.1.2.2.2.2.1,y.1.2.2.2.2.2.1,y.1.2.2.2.2.2.2.1,Sx.sub .i64 y.1.2.2.2.2.2.2.2.1 1,y.1.2.2.2.2.2.2.2.2),())) fun y=>some (y.1,[],true,())
def abo(x:As cH):Option (As fF):=am4 x.1
theorem aB4:au Tryz.prog (fun _=>True) 55 ⟨aB3,abo⟩:=ctn (aj Xz (aj Wy (aj apz bq))) 6 fun J x=>by kernel_rfl
@[reducible] def abp:Sh:=⟨[.d aX],[],aN,[.d aX,.d aL],[],0,bQ⟩
def am5(t:mR):Option (As bQ) :=
 zC (Fg (t,())) fun y=>zC (abo (y.1.1,())) fun y_1=>if (!y_1.2.2.1)=true then some ((y_1.1,y.1.2),y_1.2.1,()) else if eqi y.1.2.2.2.2.1 1=true then zC (nG ((y_1.1,y.1.2),2,())) fun y=>some (y.1,[],()) else zC (Ap ((y_1.1,y.1.2),())) fun y=>some (y.1,y.2.1,())
def CK(x:As aN):Option (As bQ):=am5 x.1
theorem am6:au Tryz.prog (fun _=>True) 19 ⟨abp,CK⟩:=ctn (aj Wq (aj aB4 (aj Ao (aj aii bq)))) 6 fun J x=>by kernel_rfl
end Go.Proofs.Lx
end
noncomputable section
open Go Go.Proofs Ev Sx
set_option maxRecDepth 100000
namespace Go.Proofs.Lx
abbrev gG:Type:=Oi×Int×Int×List (Int×List Int)×Int×Int×Int×Int×Int
abbrev iV:Type:=Int×Int×kL×List Bool
@[reducible] def FY:Sh:=⟨[],[],[],[.d (.bool)],[],0,[.bool]⟩
def am7:Env:=(cts [(1000048,Ev.iw),(9000046,Ev.iw),(9999999,Ev.iw),(9,(⟨Ol,I5⟩:Ct)),(10,(⟨Aq,yt⟩:Ct)),(16,(⟨CG,AA⟩:Ct)),(19,(⟨abp,CK⟩:Ct)),(25,(⟨Pn,uQ⟩:Ct)),(46,(⟨Zb,yB⟩:Ct)),(47,(⟨WX,BZ⟩:Ct))])
def am8:List (Nat×Hint):=[(31,⟨[],[1,3,51,52,53,54,57,58,59,60,61,81,82,94,95,96,99,100,101,104,105,106,109,110]⟩),(255,⟨[],[5,6,7,8,81,82,94,95,96,99,100,101,104,105,106,109,110]⟩),(1023,⟨[],[5,6,7,8,10,94,95,96,99,100,101,104,105,106,109,110]⟩),(4092,⟨[],[5,6,7,8,10,81,82,94,95,96,99,100,101,104,105,106,109,110]⟩),(16368,⟨[.agd 81 (.int .i64),.agd 82 .bool],[5,6,7,8,10,83]⟩),(126,⟨[],[1,62,81,82,94,95,96,99,100,101,104,105,106,109,110]⟩),(124,⟨[],[1,3,30,31,51,52,53,54,57,58,59,60,61,81,82,94,95,96,99,100,101,104,105,106,109,110]⟩),(496,⟨[.agd 30 (.int .i64),.agd 31 .bool],[1,3,32]⟩),(14,⟨[],[1,24,30,31,51,52,53,54,57,58,59,60,61,81,82,94,95,96,99,100,101,104,105,106,109,110]⟩)]
def am9(t24:Bool)(p:(gG)×(iV)×Unit×Int×Int×List aG)(o:zJ6):St:=⟨[(1,.pb 0 0),(24,dB t24)],112,[],[(0,.box 48 (gD p.1 (slC p.2.1 [.row 1,d2 p.2.2.2.1,d2 p.2.2.2.2.1,.d cE p.2.2.2.2.2]))),(1,.que iy 63 o)],2,[],0⟩
def Kj(frames:Int)(p:(gG)×(iV)×Unit×Int×Int×List aG)(o:zJ6):St:=⟨[(1,.pb 0 0),(3,dI frames)],112,[],[(0,.box 48 (gD p.1 (slC p.2.1 [.row 1,d2 p.2.2.2.1,d2 p.2.2.2.2.1,.d cE p.2.2.2.2.2]))),(1,.que iy 63 o)],2,[],0⟩
def ana(frames:Int)(t32:Bool)(p:(gG)×(iV)×Unit×Int×Int×List aG)(o:zJ6):St:=⟨[(1,.pb 0 0),(3,dI frames),(32,dB t32)],112,[],[(0,.box 48 (gD p.1 (slC p.2.1 [.row 1,d2 p.2.2.2.1,d2 p.2.2.2.2.1,.d cE p.2.2.2.2.2]))),(1,.que iy 63 o)],2,[],0⟩
def anb(frames:Int)(p:(gG)×(iV)×Unit×Int×Int×List aG)(o:zJ6):St:=⟨[(1,.pb 0 0),(3,dI frames)],112,[],[(0,.box 48 (gD p.1 (slC p.2.1 [.row 1,d2 p.2.2.2.1,d2 p.2.2.2.2.1,.d cE p.2.2.2.2.2]))),(1,.que iy 63 o)],2,[],0⟩
def anc(t62:Bool)(p:(gG)×(iV)×Unit×Int×Int×List aG)(o:zJ6):St:=⟨[(1,.pb 0 0),(62,dB t62)],112,[],[(0,.box 48 (gD p.1 (slC p.2.1 [.row 1,d2 p.2.2.2.1,d2 p.2.2.2.2.1,.d cE p.2.2.2.2.2]))),(1,.que iy 63 o)],2,[],0⟩
def ane(b:List Int)(e:Int)(t u:gG):St:=⟨[(5,.pb 0 0),(6,dL b),(7,dI e),(8,.pb 1 0)],112,[],[(0,.box 33 (gD t [])),(1,.box 33 (gD u []))],2,[],0⟩
def Kk(b:List Int)(e ticks:Int)(t u:gG):St:=⟨[(5,.pb 0 0),(6,dL b),(7,dI e),(8,.pb 1 0),(10,dI ticks)],112,[],[(0,.box 33 (gD t [])),(1,.box 33 (gD u []))],2,[],0⟩
def anf(b:List Int)(e ticks:Int)(t83:Bool)(t u:gG):St:=⟨[(5,.pb 0 0),(6,dL b),(7,dI e),(8,.pb 1 0),(10,dI ticks),(83,dB t83)],112,[],[(0,.box 33 (gD t [])),(1,.box 33 (gD u []))],2,[],0⟩
def ang(b:List Int)(e ticks:Int)(t u:gG):St:=⟨[(5,.pb 0 0),(6,dL b),(7,dI e),(8,.pb 1 0),(10,dI ticks)],112,[],[(0,.box 33 (gD t [])),(1,.box 33 (gD u []))],2,[],0⟩
def aqO(j2:Int->(gG)×(iV)×Unit×Int×Int×List aG->List (Bool×List Int)->Option aF)(t24:Bool)(p:(gG)×(iV)×Unit×Int×Int×List aG)(o:zJ6):Option aF :=
 if t24=true then some (false,()) else j2 0 p o
def aqP(j3:Int->Bool->(gG)×(iV)×Unit×Int×Int×List aG->List (Bool×List Int)->Option aF)(self2:Int->(gG)×(iV)×Unit×Int×Int×List aG->List (Bool×List Int)->Option aF)(frames:Int)(p:(gG)×(iV)×Unit×Int×Int×List aG)(o:zJ6):Option aF :=
 if gt (zF (zG o)) 0=true then j3 frames (lt frames 50) p o else j3 frames false p o
def aqQ(j4 self2:Int->(gG)×(iV)×Unit×Int×Int×List aG->List (Bool×List Int)->Option aF)(frames:Int)(t32:Bool)(p:(gG)×(iV)×Unit×Int×Int×List aG)(o:zJ6):Option aF :=
 if t32=true then zC (at? o 0) fun x=>zC (at? o 0) fun y=>need (le 1 (zF (zG o))) (need (le (zF (zG o)) (zF (zG o))) (need (lt 0 (zF (zG o))) (if (!y.1)=true then zC (AA (y,p.1,(gW p.2.1),p.2.2.2.1,p.2.2.2.2.1,p.2.2.2.2.2,List.take (zI (zF (zG o) - 1)) (List.drop 1 o),())) fun y=>self2 (add .i64 frames 1) (y.1,y.2.1,(),y.2.2.1,y.2.2.2.1,y.2.2.2.2.1) y.2.2.2.2.2.1 else zC (AA (y,p.1,(gW p.2.1),p.2.2.2.1,p.2.2.2.2.1,p.2.2.2.2.2,List.take (zI (zF (zG o) - 1)) (List.drop 1 o),())) fun y=>self2 frames (y.1,y.2.1,(),y.2.2.1,y.2.2.2.1,y.2.2.2.2.1) y.2.2.2.2.2.1))) else j4 frames p o
def aqR(j5:Bool->(gG)×(iV)×Unit×Int×Int×List aG->List (Bool×List Int)->Option aF)(frames:Int)(p:(gG)×(iV)×Unit×Int×Int×List aG)(o:zJ6):Option aF :=
 if nei frames 4=true then j5 true p o else if nei p.1.2.2.2.2.2.2.2.2 1=true then j5 true p o else j5 (nei p.2.1.2.2.1.2.2.1 2) p o
def aqS(j6:List Int->Int->gG->gG->Option aF)(t62:Bool)(p:(gG)×(iV)×Unit×Int×Int×List aG)(o:zJ6):Option aF :=
 if t62=true then some (false,()) else zC (uQ (p.1,1,9,[],())) fun y=>amb (ay FY.rs) [amb (ay FY.rs) [zC (BZ ([9,151,4],())) fun y_1=>amb (ay FY.rs) [zC (yB (y.1,y_1.1,())) fun y_2=>j6 y.2.1 y.2.2.1 y.1 y_2.1,zC (yB (y.1,y_1.1,())) fun y_2=>j6 y.2.1 y.2.2.1 y.1 y_2.1],zC (BZ ([9,151,4],())) fun y_1=>zC (yB (y.1,y_1.1,())) fun y_2=>j6 y.2.1 y.2.2.1 y.1 y_2.1],zC (BZ ([9,151,4],())) fun y_1=>zC (yB (y.1,y_1.1,())) fun y_2=>j6 y.2.1 y.2.2.1 y.1 y_2.1]
def aqT(j7:List Int->Int->Int->gG->gG->Option aF)(b:List Int)(e:Int)(t u:gG):Option aF :=
 j7 b e 0 t u
def aqU(j8:List Int->Int->Int->Bool->gG->gG->Option aF)(self7:List Int->Int->Int->gG->gG->Option aF)(b:List Int)(e ticks:Int)(t u:gG):Option aF :=
 if eqi t.2.2.2.2.2.2.2.2 0=true then j8 b e ticks (lt ticks 50) t u else j8 b e ticks false t u
def aqV(j9 self7:List Int->Int->Int->gG->gG->Option aF)(b:List Int)(e ticks:Int)(t83:Bool)(t u:gG):Option aF :=
 if t83=true then zC (CK (t,())) fun y=>self7 b e (add .i64 ticks 1) y.1 u else j9 b e ticks t u
def aqW(b:List Int)(e ticks:Int)(t u:gG):Option aF :=
 if eqi e 0=true then if gt (zF (zG b)) 0=true then if eqi u.2.2.2.2.2.2.2.2 2=true then if eqi t.2.2.2.2.2.2.2.2 2=true then some (eqi ticks 4,()) else some (false,()) else some (false,()) else some (false,()) else some (false,())
def aqX(j1:Bool->(gG)×(iV)×Unit×Int×Int×List aG->List (Bool×List Int)->Option aF):Option aF :=
 zC (I5 (0,1,1,[],[[(5,[9])]],())) fun y=>if (!y.2.2.2.2.2.1)=true then j1 true (y.1,y.2.1,(),y.2.2.1,y.2.2.2.1,y.2.2.2.2.1) y.2.2.2.2.2.2.1 else zC (yt (false,y.1,(gW y.2.1),y.2.2.1,y.2.2.2.1,y.2.2.2.2.1,y.2.2.2.2.2.2.1,())) fun y=>j1 (!y.1) (y.2.1,y.2.2.1,(),y.2.2.2.1,y.2.2.2.2.1,y.2.2.2.2.2.1) y.2.2.2.2.2.2.1
def aqY:=aqW
def aqZ(u7:List Int->Int->Int->gG->gG->Option aF):=aqV (aqY) u7
def anh(b:List Int)(e ticks:Int)(t u:gG):Option aF :=
 cu (fun self s=>aqU (aqZ (fun b e ticks t u=>self (b,e,ticks,t,u))) (fun b e ticks t u=>self (b,e,ticks,t,u)) s.1 s.2.1 s.2.2.1 s.2.2.2.1 s.2.2.2.2) 18446744073709551616 (b,e,ticks,t,u)
def aq0:=aqT (anh)
def aq1:=aqS (aq0)
def aq2:=aqR (aq1)
def aq3(u2:Int->(gG)×(iV)×Unit×Int×Int×List aG->List (Bool×List Int)->Option aF):=aqQ (aq2) u2
def ani(frames:Int)(p:(gG)×(iV)×Unit×Int×Int×List aG)(o:zJ6):Option aF :=
 cu (fun self s=>aqP (aq3 (fun frames p o=>self (frames,p,o))) (fun frames p o=>self (frames,p,o)) s.1 s.2.1 s.2.2) 18446744073709551616 (frames,p,o)
def aq4:=aqO (ani)
def abq(x:As []):Option aF:=aqX aq4
abbrev pBr:=zp am7 am8 15 FY
theorem aB5{J a b c d e}:pBr J 1023 [] (ang a b c d e)=aqW a b c d e:=by kernel_rfl
theorem aB6{J w7 a b c d e f}:pBr J 16368 [w7] (anf a b c d e f)=aqV (C (J 1023 []) ang) (C w7 Kk) a b c d e f:=by kernel_rfl
theorem aB7{J w7 a b c d e}:pBr J 4092 [w7] (Kk a b c d e)=aqU (C (J 16368 [w7]) anf) (C w7 Kk) a b c d e:=by kernel_rfl
theorem aB8{J a b c d}:pBr J 255 [] (ane a b c d)=aqT (C (J 4092 []) Kk) a b c d:=by kernel_rfl
theorem aB9{J a b c}:pBr J 126 [] (anc a b c)=aqS (C (J 255 []) ane) a b c:=by kernel_rfl
theorem aCa{J a b c}:pBr J 31 [] (anb a b c)=aqR (C (J 126 []) anc) a b c:=by kernel_rfl
theorem aCb{J w2 a b c d}:pBr J 496 [w2] (ana a b c d)=aqQ (C (J 31 []) anb) (C w2 Kj) a b c d:=by kernel_rfl
theorem aCc{J w2 a b c}:pBr J 124 [w2] (Kj a b c)=aqP (C (J 496 [w2]) ana) (C w2 Kj) a b c:=by kernel_rfl
theorem aCd{J a b c}:pBr J 14 [] (am9 a b c)=aqO (C (J 124 []) Kj) a b c:=by kernel_rfl
abbrev pBq:=zj am7 am8 15 FY
theorem aCe:C (pBq 1023 []) ang=aqY:=gNC (by decide) fun _=>aB5
theorem aCf{w7}:C (pBq 16368 [w7]) anf=aqZ (C w7 Kk):=gNC (by decide) fun _=>aB6.trans (by rw[aCe]<;>kernel_rfl)
theorem aCg:C (pBq 4092 []) Kk=anh:=gLC (by decide) (by kernel_rfl) (fun _=>by unfold anh;rfl) fun _ _=>aB7.trans (by rw[aCf]<;>kernel_rfl)
theorem aCh:C (pBq 255 []) ane=aq0:=gNC (by decide) fun _=>aB8.trans (by rw[aCg]<;>kernel_rfl)
theorem aCi:C (pBq 126 []) anc=aq1:=gNC (by decide) fun _=>aB9.trans (by rw[aCh]<;>kernel_rfl)
theorem aCj:C (pBq 31 []) anb=aq2:=gNC (by decide) fun _=>aCa.trans (by rw[aCi]<;>kernel_rfl)
theorem aCk{w2}:C (pBq 496 [w2]) ana=aq3 (C w2 Kj):=gNC (by decide) fun _=>aCb.trans (by rw[aCj]<;>kernel_rfl)
theorem aCl:C (pBq 124 []) Kj=ani:=gLC (by decide) (by kernel_rfl) (fun _=>by unfold ani;rfl) fun _ _=>aCc.trans (by rw[aCk]<;>kernel_rfl)
theorem aCm:C (pBq 14 []) am9=aq4:=gNC (by decide) fun _=>aCd.trans (by rw[aCl]<;>kernel_rfl)
theorem aCn:au Tryz.prog (fun _=>True) 15 ⟨FY,abq⟩:=zcc (env:=am7) (d:=6) (hs:=Ev.get am8) (aj Ev.gJ (aj Ev.gJ (aj Ev.gJ (aj ao7 (aj aiy (aj am3 (aj am6 (aj ap0 (aj aqf (aj apw bq)))))))))) (fun J x=>aqX (C (J 14 []) am9)) (fun _ _=>by kernel_rfl) fun _=>by rw[aCm]<;>rfl
@[reducible] def eY:List Ty:=[.int .i64,.pr aC nE,.pr (.int .u8) aA,.int .u32,.int .u32,.sl (.sl d9),.sl iy]
@[reducible] def abr:Sh:=⟨[.pb 0 0,.d (.int .i64)],[(prG 1),.que iy 63],eY,[.d (.bool)],[(0,(prG 2)),(2,.que iy 63)],1,aE⟩
def anj:Env:=(cts [(1000048,Ev.iw),(9000046,Ev.iw),(9999999,Ev.iw),(16,(⟨CG,AA⟩:Ct))])
def ank:List (Nat×Hint):=[(3,⟨[],[0]⟩),(26,⟨[.quw 0 57 63],[0,6,7]⟩)]
def abt(t6 t7:Int)(p:(gG)×(iV)×Unit×Int×Int×List aG)(o:zJ6):St:=⟨[(0,.pb 0 0),(6,dI t6),(7,dI t7)],39,[],[(0,.box 48 (gD p.1 (slC p.2.1 [.row 2,d2 p.2.2.2.1,d2 p.2.2.2.2.1,.d cE p.2.2.2.2.2]))),(2,.que iy 63 o)],3,[],2⟩
def anl(p:(gG)×(iV)×Unit×Int×Int×List aG)(o:zJ6):St:=⟨[(0,.pb 0 0)],39,[],[(0,.box 48 (gD p.1 (slC p.2.1 [.row 2,d2 p.2.2.2.1,d2 p.2.2.2.2.1,.d cE p.2.2.2.2.2]))),(2,.que iy 63 o)],3,[],2⟩
def AB(j2:(gG)×(iV)×Unit×Int×Int×List aG->List (Bool×List Int)->Option cY)(self1:Int->Int->(gG)×(iV)×Unit×Int×Int×List aG->List (Bool×List Int)->Option cY)(t6 t7:Int)(p:(gG)×(iV)×Unit×Int×Int×List aG)(o:zJ6):Option cY :=
 if lt t7 t6=true then if eqi (zF (zG o)) 0=true then some (true,p.1,(gW p.2.1),p.2.2.2.1,p.2.2.2.2.1,p.2.2.2.2.2,o,()) else zC (at? o 0) fun x=>zC (at? o 0) fun y=>need (le 1 (zF (zG o))) (need (le (zF (zG o)) (zF (zG o))) (need (lt 0 (zF (zG o))) (zC (AA (y,p.1,(gW p.2.1),p.2.2.2.1,p.2.2.2.2.1,p.2.2.2.2.2,List.take (zI (zF (zG o) - 1)) (List.drop 1 o),())) fun y=>self1 t6 (add .i64 t7 1) (y.1,y.2.1,(),y.2.2.1,y.2.2.2.1,y.2.2.2.2.1) y.2.2.2.2.2.1))) else j2 p o
def abu(p:(gG)×(iV)×Unit×Int×Int×List aG)(o:zJ6):Option cY :=
 some (eqi (zF (zG o)) 0,p.1,(gW p.2.1),p.2.2.2.1,p.2.2.2.2.1,p.2.2.2.2.2,o,())
def auR(j1:Int->Int->(gG)×(iV)×Unit×Int×Int×List aG->List (Bool×List Int)->Option cY)(p:Int)(most:gG)(p_2:iV)(most_2 v:Int)(m:List aG)(v_2:zJ6):Option cY :=
 j1 p 0 (most,p_2,(),most_2,v,m) v_2
def Kl:=abu
def anm(t6 t7:Int)(p:(gG)×(iV)×Unit×Int×Int×List aG)(o:zJ6):Option cY :=
 cu (fun self s=>AB (Kl) (fun t6 t7 p o=>self (t6,t7,p,o)) s.1 s.2.1 s.2.2.1 s.2.2.2) 18446744073709551616 (t6,t7,p,o)
def CO(x:As eY):Option cY:=auR anm x.1 x.2.1 x.2.2.1 x.2.2.2.1 x.2.2.2.2.1 x.2.2.2.2.2.1 x.2.2.2.2.2.2.1
abbrev pBh:=zp anj ank 11 abr
theorem aCo{J a b}:pBh J 3 [] (anl a b)=abu a b:=by kernel_rfl
theorem aCp{J w1 a b c d}:pBh J 26 [w1] (abt a b c d)=AB (C (J 3 []) anl) (C w1 abt) a b c d:=by kernel_rfl
abbrev pBg:=zj anj ank 11 abr
theorem aCq:C (pBg 3 []) anl=Kl:=gNC (by decide) fun _=>aCo
theorem aCr:C (pBg 26 []) abt=anm:=gLC (by decide) (by kernel_rfl) (fun _=>by unfold anm;rfl) fun _ _=>aCp.trans (by rw[aCq]<;>kernel_rfl)
theorem aCs:au Tryz.prog (fun _=>True) 11 ⟨abr,CO⟩:=zcc (env:=anj) (d:=6) (hs:=Ev.get ank) (aj Ev.gJ (aj Ev.gJ (aj Ev.gJ (aj am3 bq)))) (fun J x=>auR (C (J 26 []) abt) x.1 x.2.1 x.2.2.1 x.2.2.2.1 x.2.2.2.2.1 x.2.2.2.2.2.1 x.2.2.2.2.2.2.1) (fun _ _=>by kernel_rfl) fun _=>by rw[aCr]<;>rfl
def aCt(j2:Int->Int×List Int->Option aF)(t17:Bool)(x:Int×List Int):Option aF :=
 if t17=true then some (false,()) else j2 0 x
def aCu(self2:Int->Int×List Int->Option aF)(i:Int)(x:Int×List Int):Option aF :=
 if lt i (zF (zG x.2))=true then if gt (add .i64 x.1 i) 63=true then some (false,()) else self2 (add .i64 i 1) x else some (true,())
def aCv(j1:Bool->Int×List Int->Option aF)(x:Int×List Int):Option aF :=
 if gt (zF (zG x.2)) 14=true then j1 true x else if lt x.1 0=true then j1 true x else j1 (gt x.1 63) x
def aCw(i:Int)(x:Int×List Int):Option aF :=
 cu (fun self s=>aCu (fun i x=>self (i,x)) s.1 s.2) 18446744073709551616 (i,x)
def aCx:=aCt (aCw)
def aCy(x:As cI):Option aF:=aCv aCx x.1
@[reducible] def zJ7:Type:=Int->Int×List Int->List Int->Option bY
def aCz(self1:zJ7)(i:Int)(x:Int×List Int)(out:List Int):Option bY :=
 if lt i (zF (zG x.2))=true then zC (at? x.2 i) fun y=>zC (at? out (add .i64 2 i)) fun x_1=>zC (at? out (add .i64 2 i)) fun x_2=>self1 (add .i64 i 1) x (List.set out (zI (add .i64 2 i)) y) else some (out,())
def aCA(j1:zJ7)(x:Int×List Int):Option bY :=
 zC (aCy (x,())) fun y=>if (!y.1)=true then some ([0,0,0,0,0,0,0,0,0,0,0,0,0,0,0,0],()) else j1 0 x [cvt .u16 x.1,cvt .u16 (zF (zG x.2)),0,0,0,0,0,0,0,0,0,0,0,0,0,0]
def aCB(i:Int)(x:Int×List Int)(out:List Int):Option bY :=
 cu (fun self s=>aCz (fun i x out=>self (i,x,out)) s.1 s.2.1 s.2.2) 18446744073709551616 (i,x,out)
def aCC(x:As cI):Option bY:=aCA aCB x.1
@[reducible] def zJ8:Type:=Int->Int->Option aQ
def aCD(j2 self1:zJ8)(sum i:Int):Option aQ :=
 if lt i 8=true then if eqi (rem sum 2) 1=true then j2 (Sx.iU .u32 (quo .u32 sum 2) 3988292384) i else j2 (quo .u32 sum 2) i else some (sum,())
def aCE(self1:zJ8)(sum i:Int):Option aQ :=
 self1 sum (add .i64 i 1)
def aCF(j1:zJ8)(sum b:Int):Option aQ :=
 j1 (Sx.iU .u32 sum (cvt .u32 b)) 0
def aCG(u1:zJ8):=aCE u1
def aCH(sum i:Int):Option aQ :=
 cu (fun self s=>aCD (aCG (fun sum i=>self (sum,i))) (fun sum i=>self (sum,i)) s.1 s.2) 18446744073709551616 (sum,i)
def aCI(x:As [.int .u32,.int .u8]):Option aQ:=aCF aCH x.1 x.2.1
def aCJ(self1:Int->List Int->Int->Option aQ)(sum:Int)(b:List Int)(i:Int):Option aQ :=
 if lt i (zF (zG b))=true then zC (at? b i) fun y=>zC (aCI (sum,y,())) fun y=>self1 y.1 b (add .i64 i 1) else some (sum,())
def aCK(j1:Int->List Int->Int->Option aQ)(sum:Int)(b:List Int):Option aQ :=
 j1 sum b 0
def aCL(sum:Int)(b:List Int)(i:Int):Option aQ :=
 cu (fun self s=>aCJ (fun sum b i=>self (sum,b,i)) s.1 s.2.1 s.2.2) 18446744073709551616 (sum,b,i)
def aCM(x:As [.int .u32,.sl (.int .u8)]):Option aQ:=aCK aCL x.1 x.2.1
def aCN(b:List Int):Option aQ :=
 zC (aCM (4294967295,b,())) fun y=>some (Sx.iU .u32 y.1 4294967295,())
def aCO(x:As aI):Option aQ:=aCN x.1
def aCP(j2:List Int->Option aQ)(self1:List Int->Int->List Int->Option aQ)(l:List Int)(i:Int)(b:List Int):Option aQ :=
 if lt i (zF (zG l))=true then zC (at? l i) fun y=>zC (at? l i) fun y_1=>need (small (zG b+Nat.succ (Nat.succ 0))) (self1 l (add .i64 i 1) (b++[cvt .u8 (quo .u16 y 256),cvt .u8 (rem y_1 256)])) else j2 b
def aCQ(b:List Int):Option aQ :=
 zC (aCO (b,())) fun y=>some (y.1,())
def aCR(j1:List Int->Int->List Int->Option aQ)(l:List Int):Option aQ :=
 j1 l 0 []
def aCS:=aCQ
def aCT(l:List Int)(i:Int)(b:List Int):Option aQ :=
 cu (fun self s=>aCP (aCS) (fun l i b=>self (l,i,b)) s.1 s.2.1 s.2.2) 18446744073709551616 (l,i,b)
def aCU(x:As aJ):Option aQ:=aCR aCT x.1
@[reducible] def zJ9:Type:=List (Int×List Int)->Int->List Int->Option aQ
def aCV(j2:List Int->Option aQ)(self1:zJ9)(l:zJ1)(i:Int)(all:List Int):Option aQ :=
 if lt i (zF (zG l))=true then zC (at? l i) fun y=>zC (aCC (y,())) fun y=>need (small (zG all+zG y.1)) (self1 l (add .i64 i 1) (all++y.1)) else j2 all
def aCW(all:List Int):Option aQ :=
 zC (aCU (all,())) fun y=>some (y.1,())
def aCX(j1:zJ9)(l:zJ1):Option aQ :=
 j1 l 0 []
def aCY:=aCW
def aCZ(l:zJ1)(i:Int)(all:List Int):Option aQ :=
 cu (fun self s=>aCV (aCY) (fun l i all=>self (l,i,all)) s.1 s.2.1 s.2.2) 18446744073709551616 (l,i,all)
def aq5(x:As [.sl d9]):Option aQ:=aCX aCZ x.1
def aC0(c:zJ0):Option bY :=
 some ([c.1,cvt .u16 c.2.1,cvt .u16 (quo .u32 c.2.2.1 65536),cvt .u16 (rem c.2.2.1 65536),c.2.2.2.1,cvt .u16 (quo .u32 c.2.2.2.2 65536),cvt .u16 (rem c.2.2.2.2 65536),0],())
def aC1(x:As [.pr (.int .u16) D6]):Option bY:=aC0 x.1
@[reducible] def eM:List Ty:=[.pr (.int .u16) (.int .u8),.pr aC nE,.pr (.int .u8) aA,.int .u32,.int .u32,.sl (.sl d9),.sl iy]
@[reducible] def aC2:Sh:=⟨[.d (.pr (.int .u16) (.int .u8)),.pb 0 0],[(prG 1),.que iy 63],eM,[.d (.bool)],[(0,(prG 2)),(2,.que iy 63)],1,aE⟩
def aC3(p:(gG)×(iV)×Unit×Int×Int×List aG)(o:zJ6)(c:zJ0):Option cY :=
 zC (aC1 (c,())) fun y=>zC (Fj ((16,272,8,0,y.1,[]),())) fun y=>zC (Kc ((gW p.2.1),y.1,())) fun y=>zC (Jz (y.2.1,())) fun y_1=>if eqi y_1.2.1 0=true then some (eqi y_1.1.2.1 0,p.1,(gW y.1),p.2.2.2.1,p.2.2.2.2.1,p.2.2.2.2.2,o,()) else some (false,p.1,(gW y.1),p.2.2.2.1,p.2.2.2.2.1,p.2.2.2.2.2,o,())
def aC4(j1:(gG)×(iV)×Unit×Int×Int×List aG->List (Bool×List Int)->Int×Int×Int×Int×Int->Option cY)(o:Int×Int)(p:gG)(o_2:iV)(p_2 v:Int)(c:List aG)(b:zJ6):Option cY :=
 amb (ay aC2.rs) [zC (aq5 ([],())) fun y=>j1 (p,o_2,(),p_2,v,c) b (o.1,o.2,5,0,y.1),zC (aq5 ([],())) fun y=>j1 (p,o_2,(),p_2,v,c) b (o.1,o.2,5,0,y.1)]
def aC5:=aC3
def aF4(x:As eM):Option cY:=aC4 aC5 x.1 x.2.1 x.2.2.1 x.2.2.2.1 x.2.2.2.2.1 x.2.2.2.2.2.1 x.2.2.2.2.2.2.1
def aC6(x y:Int×List Int):Option aF :=
 if eqi x.1 y.1=true then zC (yj (x.2,y.2,())) fun y=>some (y.1,()) else some (false,())
def aC7(x:As [.pr (.int .i64) aB,.pr (.int .i64) aB]):Option aF:=aC6 x.1 x.2.1
@[reducible] def abv:Type:=List (Int×List Int)->List (Int×List Int)->Int->Int->Option aF
def aFR(self1:abv)(s2 t15:zJ1)(t16 t17:Int):Option aF :=
 if lt t17 t16=true then zC (at? t15 t17) fun y=>zC (at? s2 t17) fun y_1=>zC (aC7 (y,y_1,())) fun y=>if (!y.1)=true then some (false,()) else self1 s2 t15 t16 (add .i64 t17 1) else some (true,())
def aFS(j1:abv)(s1 s2:zJ1):Option aF :=
 if nei (zF (zG s1)) (zF (zG s2))=true then some (false,()) else j1 s2 s1 (zF (zG s1)) 0
def aFT(s2 t15:zJ1)(t16 t17:Int):Option aF :=
 cu (fun self s=>aFR (fun s2 t15 t16 t17=>self (s2,t15,t16,t17)) s.1 s.2.1 s.2.2.1 s.2.2.2) 18446744073709551616 (s2,t15,t16,t17)
def aFU(x:As [.sl d9,.sl d9]):Option aF:=aFS aFT x.1 x.2.1
def aC8(a b:zJ1):Option aF :=
 zC (aFU (a,b,())) fun y=>some (y.1,())
def aq6(x:As [.sl d9,.sl d9]):Option aF:=aC8 x.1 x.2.1
def aC9(a b:Int×List Bool×List (Int×List Int)):Option aF :=
 if eqi a.1 b.1=true then if (Sx.eqb (zJ a.2.1 0 false) (zJ b.2.1 0 false) && (Sx.eqb (zJ a.2.1 1 false) (zJ b.2.1 1 false) && (Sx.eqb (zJ a.2.1 2 false) (zJ b.2.1 2 false) && (Sx.eqb (zJ a.2.1 3 false) (zJ b.2.1 3 false) && (Sx.eqb (zJ a.2.1 4 false) (zJ b.2.1 4 false) && (Sx.eqb (zJ a.2.1 5 false) (zJ b.2.1 5 false) && (Sx.eqb (zJ a.2.1 6 false) (zJ b.2.1 6 false) && (Sx.eqb (zJ a.2.1 7 false) (zJ b.2.1 7 false) && true))))))))=true then zC (FW (a,())) fun y=>zC (FW (b,())) fun y_1=>zC (aq6 (y.1,y_1.1,())) fun y=>some (y.1,()) else some (false,()) else some (false,())
def aDa(x:As [.pr (.int .u32) (.pr (.ar 8 .bool) (.ar 8 d9)),.pr (.int .u32) (.pr (.ar 8 .bool) (.ar 8 d9))]):Option aF:=aC9 x.1 x.2.1
def aDb(a b:List Int×(Int×Int)×Int×Int×Int×qp×Int):Option aF :=
 zC (yj (a.1,b.1,())) fun y=>if y.1=true then if (eqi a.2.1.1 b.2.1.1 && (eqi a.2.1.2 b.2.1.2 && true))=true then if eqi a.2.2.1 b.2.2.1=true then if eqi a.2.2.2.1 b.2.2.2.1=true then if eqi a.2.2.2.2.1 b.2.2.2.2.1=true then zC (aDa (a.2.2.2.2.2.1,b.2.2.2.2.2.1,())) fun y=>if y.1=true then some (eqi a.2.2.2.2.2.2 b.2.2.2.2.2.2,()) else some (false,()) else some (false,()) else some (false,()) else some (false,()) else some (false,()) else some (false,())
def aDc(x:As [.pr aB wC,.pr aB wC]):Option aF:=aDb x.1 x.2.1
def aDd(a b:iV):Option aF :=
 if eqi a.1 b.1=true then if eqi a.2.1 b.2.1=true then zC (aDc (a.2.2.1,b.2.2.1,())) fun y=>if y.1=true then zC (Py (a.2.2.2,b.2.2.2,())) fun y=>some (y.1,()) else some (false,()) else some (false,()) else some (false,())
def aF5(x:As [.pr (.int .u8) aA,.pr (.int .u8) aA]):Option aF:=aDd x.1 x.2.1
def aDe(a b:zJ5):Option aF :=
 if eqi a.1 b.1=true then if eqi a.2.1 b.2.1=true then if eqi a.2.2.1 b.2.2.1=true then if eqi a.2.2.2.1 b.2.2.2.1=true then zC (yj (a.2.2.2.2.1,b.2.2.2.2.1,())) fun y=>if y.1=true then zC (Py (a.2.2.2.2.2,b.2.2.2.2.2,())) fun y=>some (y.1,()) else some (false,()) else some (false,()) else some (false,()) else some (false,()) else some (false,())
def aDf(x:As [.pr (.int .u8) lC,.pr (.int .u8) lC]):Option aF:=aDe x.1 x.2.1
def aDg(a b:Int×Int×Int×Int×Bool×xC×Int×Int×Int):Option aF :=
 if eqi a.1 b.1=true then if eqi a.2.1 b.2.1=true then if eqi a.2.2.1 b.2.2.1=true then if eqi a.2.2.2.1 b.2.2.2.1=true then if Sx.eqb a.2.2.2.2.1 b.2.2.2.2.1=true then if eqi a.2.2.2.2.2.2.1 b.2.2.2.2.2.2.1=true then if eqi a.2.2.2.2.2.2.2.1 b.2.2.2.2.2.2.2.1=true then if eqi a.2.2.2.2.2.2.2.2 b.2.2.2.2.2.2.2.2=true then zC (aDf (a.2.2.2.2.2.1,b.2.2.2.2.2.1,())) fun y=>some (y.1,()) else some (false,()) else some (false,()) else some (false,()) else some (false,()) else some (false,()) else some (false,()) else some (false,()) else some (false,())
def aDh(x:As [.pr (.int .u8) sW,.pr (.int .u8) sW]):Option aF:=aDg x.1 x.2.1
def aDi(a b:gG):Option aF :=
 zC (aDh (a.1,b.1,())) fun y=>if y.1=true then zC (aq6 (a.2.2.2.1,b.2.2.2.1,())) fun y=>if y.1=true then if eqi a.2.1 b.2.1=true then if eqi a.2.2.1 b.2.2.1=true then if eqi a.2.2.2.2.1 b.2.2.2.2.1=true then if eqi a.2.2.2.2.2.1 b.2.2.2.2.2.1=true then if eqi a.2.2.2.2.2.2.1 b.2.2.2.2.2.2.1=true then if eqi a.2.2.2.2.2.2.2.1 b.2.2.2.2.2.2.2.1=true then some (eqi a.2.2.2.2.2.2.2.2 b.2.2.2.2.2.2.2.2,()) else some (false,()) else some (false,()) else some (false,()) else some (false,()) else some (false,()) else some (false,()) else some (false,()) else some (false,())
def aF6(x:As [.pr aC nE,.pr aC nE]):Option aF:=aDi x.1 x.2.1
def aDj(self1:List Int->List Int->Int->Int->Option aF)(a b:List Int)(t12 t13:Int):Option aF :=
 if lt t13 t12=true then zC (at? a t13) fun y=>zC (at? b t13) fun y_1=>if nei y y_1=true then some (false,()) else self1 a b t12 (add .i64 t13 1) else some (true,())
def aDk(j1:List Int->List Int->Int->Int->Option aF)(a b:List Int):Option aF :=
 if nei (zF (zG a)) (zF (zG b))=true then some (false,()) else j1 a b (zF (zG a)) 0
def aDl(a b:List Int)(t12 t13:Int):Option aF :=
 cu (fun self s=>aDj (fun a b t12 t13=>self (a,b,t12,t13)) s.1 s.2.1 s.2.2.1 s.2.2.2) 18446744073709551616 (a,b,t12,t13)
def aF7(x:As [.sl (.int .u16),.sl (.int .u16)]):Option aF:=aDk aDl x.1 x.2.1
def aDm(j2:List (Int×List Int)->Option aF)(self1:abv)(l t5:zJ1)(t6 t7:Int):Option aF :=
 if lt t7 t6=true then zC (at? t5 t7) fun y=>if gt (zF (zG y.2)) 100=true then some (false,()) else self1 l t5 t6 (add .i64 t7 1) else j2 l
def aDn(l:zJ1):Option aF :=
 some (le (zF (zG l)) 40,())
def aDo(j1:abv)(l:zJ1):Option aF :=
 j1 l l (zF (zG l)) 0
def aDp:=aDn
def aDq(l t5:zJ1)(t6 t7:Int):Option aF :=
 cu (fun self s=>aDm (aDp) (fun l t5 t6 t7=>self (l,t5,t6,t7)) s.1 s.2.1 s.2.2.1 s.2.2.2) 18446744073709551616 (l,t5,t6,t7)
def aF8(x:As [.sl d9]):Option aF:=aDo aDq x.1
end Go.Proofs.Lx
end
noncomputable section
namespace Pl
open Go Ev Sx
set_option maxRecDepth 10000
theorem nH{σ R:Type}(F:(σ->Option R)->σ->Option R)(n:Nat)(s:σ):cu F (n+1) s=F (cu F n) s:=rfl
theorem om{σ R:Type}{F:(σ->Option R)->σ->Option R}{Inv:σ->Prop}{μ:σ->Nat}{G:σ->Option R}
  (step:∀self s,Inv s->(∀s',Inv s'->μ s'<μ s->self s'=G s')->F self s=G s):∀(n:Nat) (s:σ),Inv s->μ s<n->cu F n s=G s
 | 0,s,_,h=>by omega
 | n+1,s,hs,h=>by rw[nH];exact step _ s hs fun s' hs' hlt=>om step n s' hs' (by omega)
theorem w64{x:Int}(h1:-9223372036854775808≤x)(h2:x≤9223372036854775807):IntKind.i64.wrap x=x:=by simp only[IntKind.wrap,IntKind.signed,IntKind.bits];simp;omega
theorem wu8{x:Int}(h1:0≤x)(h2:x≤255):IntKind.u8.wrap x=x:=by simp only[IntKind.wrap,IntKind.signed,IntKind.bits];simp;omega
theorem abw{x:Int}(h1:0≤x)(h2:x≤65535):IntKind.u16.wrap x=x:=by simp only[IntKind.wrap,IntKind.signed,IntKind.bits];simp;omega
theorem auS{x:Int}(h1:0≤x)(h2:x≤4294967295):IntKind.u32.wrap x=x:=by simp only[IntKind.wrap,IntKind.signed,IntKind.bits];simp;omega
theorem jS{a b:Int}(h1:-9223372036854775808≤a+b)(h2:a+b≤9223372036854775807):add .i64 a b=a+b:=w64 h1 h2
theorem lQ{a b:Int}(h1:-9223372036854775808≤a - b)(h2:a - b≤9223372036854775807):sub .i64 a b=a - b:=w64 h1 h2
theorem ou{a b:Int}(h1:-9223372036854775808≤a*b)(h2:a*b≤9223372036854775807):mul .i64 a b=a*b:=w64 h1 h2
theorem jr{a:Int}(h1:-9223372036854775808≤a)(h2:a≤9223372036854775807):cvt .i64 a=a:=w64 h1 h2
theorem jm{n:Nat}(h:n<4611686018427387904):add .i64 (n:Int) 1=((n+1:Nat):Int):=by rw[jS (by omega) (by omega)];rfl
theorem rW{n m:Nat}(h:n+m<4611686018427387904):add .i64 (n:Int) (m:Int)=((n+m:Nat):Int):=by rw[jS (by omega) (by omega)];rfl
theorem bu(n:Nat):zF n=(n:Int):=rfl
theorem fq{a b:Int}:lt a b=true↔a<b:=by simp[lt]
theorem iO{a b:Int}:le a b=true↔a≤b:=by simp[le]
theorem jU{a b:Int}:gt a b=true↔b<a:=by simp[gt]
theorem iK{a b:Int}:ge a b=true↔b≤a:=by simp[ge]
theorem fo{a b:Int}:eqi a b=true↔a=b:=by simp[eqi]
theorem gP{a b:Int}:nei a b=true↔a≠b:=by simp[nei]
theorem Km{a b:List UInt8}:eqs a b=true↔a=b:=by simp[eqs]
theorem CP{n:Nat}:small n=true↔n≤1073741824:=by simp[small]
theorem rX(a b:Int):lt a b=decide (a<b):=rfl
theorem le_dec(a b:Int):le a b=decide (a≤b):=rfl
theorem CR(a b:Int):gt a b=decide (b<a):=rfl
theorem auT(a b:Int):ge a b=decide (b≤a):=rfl
theorem fT{b:Bool}{β:Type}{k:Option β}(h:b=true):need b k=k:=by unfold need;rw[if_pos h]
theorem jJ{n:Nat}{β:Type}{k:Option β}(h:n≤1073741824):need (small n) k=k:=fT (CP.2 h)
theorem gZ{α:Type}{s:List α}{i:Nat}{c:α}(h:s[i]? = some c):at? s (i:Int)=some c:=by unfold at?;simp[h]
theorem jy{α:Type}(c:α)(q:List α):at? (c::q) 0=some c:=rfl
theorem drop_nil{α:Type}{s:List α}{i:Nat}(h:s.drop i=[]):s.length≤i:=by have:=congrArg zG h;simp at this;omega
theorem yY{α:Type}{xs:List α}{i j:Nat}(h1:i≤j)(h2:j≤xs.length):cut xs (i:Int) (j:Int)=some ((xs.take j).drop i):=by unfold cut;rw[if_pos ⟨by omega,by omega,by omega⟩];simp
theorem l7{α:Type}{xs:List α}{i:Nat}(h:i≤xs.length):cut xs (i:Int) (zF xs.length)=some (xs.drop i):=by rw[bu,yY h (Nat.le_refl _)];simp
theorem pW{α:Type}{xs:List α}{j:Nat}(h:j≤xs.length):cut xs 0 (j:Int)=some (xs.take j):=by have:=yY (xs:=xs) (Nat.zero_le j) h;simpa using this
theorem TU{α:Type}(c:α)(q:List α):cut (c::q) 1 (zF (c::q).length)=some q:=by have:=l7 (xs:=c::q) (i:=1) (by simp);simpa using this
theorem QU:∀(t:Ty) (x:Vl t),eqV t x x=true:=by
 have hl:∀{α:Type} {f:α->α->Bool},(∀a,f a a=true)->∀x:List α,eqL f x x=true:=fun h x=>by
  induction x with
  | nil=>rfl
  | cons a q ih=>simp[eqL,h,ih]
 intro t
 induction t with
 | int k=>intro x;simp[eqV,eqi]
 | bool=>intro x;simp[eqV,eqb]
 | str=>intro x;simp[eqV,eqs]
 | sl t ih=>intro x;exact hl ih x
 | pr a b iha ihb=>intro x;simp[eqV,iha,ihb]
 | wr a ih=>intro x;exact ih x
 | un=>intro x;rfl
 | ar n t ih=>intro x;exact hl ih x
 | mp k v ihk ihv=>intro x;exact hl (fun a=>by rw[ihk,ihv];rfl) x
theorem eqAs_refl:∀(rs:List Ty) (x:As rs),ay rs x x=true
 | [],_=>rfl
 | t::r,x=>by simp[ay,QU,eqAs_refl r]
theorem tF{R:Type}{eq:R->R->Bool}(h:∀x,eq x x=true)(a:Option R):amb eq [a,a]=a:=by cases a<;>simp[amb,E6,h]
theorem auU{R:Type}{eq:R->R->Bool}(h:∀x,eq x x=true)(a:Option R):amb eq [a,a,a]=a:=by cases a<;>simp[amb,E6,h]
end Pl
end
