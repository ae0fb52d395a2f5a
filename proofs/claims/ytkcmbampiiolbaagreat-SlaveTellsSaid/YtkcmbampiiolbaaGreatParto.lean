/- Proved in the last of these 20 parts (this is part 15): SlaveTells. Conditions: those of the given statement, and no others. -/
import Derived.Test.YtkcmbampiiolbaaGreatParte
import Derived.Test.YtkcmbampiiolbaaGreatPartn
import Derived.Test.YtkcmbampiiolbaaGreatProg
import Derived.Test.YtkcmbampiiolbaaGreatPartj
set_option linter.unusedVariables false
set_option linter.unusedSimpArgs false
set_option linter.unusedSectionVars false
open Option renaming bind → zC, bind_some → zD, none → zH
open List renaming replicate → zE, length → zG, getD → zJ, getElem?_eq_getElem → zU, getD_eq_getElem?_getD → zW, length_append → zY, length_replicate → kC
open Int renaming ofNat → zF, toNat → zI, eq_ofNat_of_zero_le → zN, toNat_natCast → zP
open Go.Value renaming slice → zK
open Bool renaming and_eq_true → zO
noncomputable section
open Go Go.Proofs Ev Sx
set_option maxRecDepth 100000
namespace Go.Proofs.Lx
abbrev gu:Type:=Int×Int×gq×List Bool
abbrev nK:Type:=List Int×(Int×Int)×Int×Int×Int×jT×Int
@[reducible] def aie:Sh:=shD aI [.int .i64]
def asa:Env:=(cts [])
def asb:List (Nat×Hint):=[(3,⟨[],[0,23,24,25,26,36,37,38,39]⟩),(62,⟨[],[0,40]⟩),(14,⟨[],[0,27,36,37,38,39]⟩),(26,⟨[],[0,3,7,8,9,10,23,24,25,26,36,37,38,39]⟩),(104,⟨[.agd 7 (.int .i64),.agd 8 bV,.agd 9 (.int .i64),.agd 10 .bool],[0,3,11]⟩)]
def Jt(b:List Int)(i:Int):St:=⟨[(0,dL b),(3,dI i)],46,[],[],0,[],0⟩
def aif(a:List Int)(b:Int)(c:Bool):St:=⟨[(0,dL a),(3,dI b),(11,dB c)],46,[],[],0,[],0⟩
def aii(b:List Int):St:=⟨[(0,dL b)],46,[],[],0,[],0⟩
def aij(a:List Int)(b:Bool):St:=⟨[(0,dL a),(27,dB b)],46,[],[],0,[],0⟩
def aik(a:List Int)(b:Bool):St:=⟨[(0,dL a),(40,dB b)],46,[],[],0,[],0⟩
@[reducible] def zO0:Type:=List Int->Int->Option bI
def Ju(c:List Int->Int->Bool->Option bI)(d:zO0)(b:List Int)(a:Int):Option bI :=
 if lt a 4=true then c b a (lt a (zF (zG b))) else c b a false
def ail(c:List Int->Option bI)(d:zO0)(a:List Int)(b:Int)(e:Bool):Option bI :=
 if e=true then zC (at? a b) fun f=>if nei f 0=true then some (-1,()) else d a (add .i64 b 1) else c a
def aim(b:List Int->Bool->Option bI)(a:List Int):Option bI :=
 if gt (zF (zG a)) 4=true then zC (at? a 4) fun c=>b a (nei c 0) else b a false
def ain(c:List Int->Bool->Option bI)(a:List Int)(d:Bool):Option bI :=
 if d=true then some (-1,()) else if lt (zF (zG a)) 6=true then some (0,()) else zC (at? a 5) fun b=>if lt b 2=true then c a true else zC (at? a 5) fun b=>c a (gt b 254)
def aio(a:List Int)(b:Bool):Option bI :=
 if b=true then some (-1,()) else zC (at? a 5) fun c=>some (add .i64 6 (cvt .i64 c),())
def aip(b:zO0)(a:List Int):Option bI :=
 b a 2
def aiq:=aio
def air:=ain (aiq)
def ais:=aim (air)
def Jv(a:zO0):=ail (ais) a
def Sf(a:List Int)(b:Int):Option bI :=
 ay (fun d c=>Ju (Jv (fun a b=>d (a,b))) (fun a b=>d (a,b)) c.1 c.2) 18446744073709551616 (a,b)
def ait(x:As aI):Option bI:=aip Sf x.1
abbrev pDf:=zp asa asb 162 aie
theorem aM2{J a b}:pDf J 62 [] (aik a b)=aio a b:=by kernel_rfl
theorem aM3{J a b}:pDf J 14 [] (aij a b)=ain (C (J 62 []) aik) a b:=by kernel_rfl
theorem aM4{J a}:pDf J 3 [] (aii a)=aim (C (J 14 []) aij) a:=by kernel_rfl
theorem aM5{J w1 a b c}:pDf J 104 [w1] (aif a b c)=ail (C (J 3 []) aii) (C w1 Jt) a b c:=by kernel_rfl
theorem aM6{J w1 a b}:pDf J 26 [w1] (Jt a b)=Ju (C (J 104 [w1]) aif) (C w1 Jt) a b:=by kernel_rfl
abbrev pDe:=zj asa asb 162 aie
theorem aM7:C (pDe 62 []) aik=aiq:=gNC (by decide) fun _=>aM2
theorem aM8:C (pDe 14 []) aij=air:=gNC (by decide) fun _=>aM3.trans (by rw[aM7]<;>kernel_rfl)
theorem aM9:C (pDe 3 []) aii=ais:=gNC (by decide) fun _=>aM4.trans (by rw[aM8]<;>kernel_rfl)
theorem aNa{w1}:C (pDe 104 [w1]) aif=Jv (C w1 Jt):=gNC (by decide) fun _=>aM5.trans (by rw[aM9]<;>kernel_rfl)
theorem aNb:C (pDe 26 []) Jt=Sf:=gLC (by decide) (by kernel_rfl) (fun _=>by unfold Sf;rfl) fun _ _=>aM6.trans (by rw[aNa]<;>kernel_rfl)
theorem aNc:ak Tryz.prog (fun _=>True) 162 ⟨aie,ait⟩:=zcc (env:=asa) (d:=6) (hs:=Ev.get asb) bq (fun J x=>aip (C (J 26 []) Jt) x.1) (fun _ _=>by kernel_rfl) fun _=>by rw[aNb]<;>rfl
@[reducible] def cK:List Ty:=[.pr (.int .u16) ac1,.int .i64]
@[reducible] def aiu:Sh:=shD aI cK
def asc:Env:=(cts [(162,(⟨aie,ait⟩:Ct))])
def ase:List (Nat×Hint):=[(15,⟨[],[2,4]⟩),(122,⟨[.rwb 4 2 5],[0,2,4,5]⟩),(6,⟨[],[0,2,15]⟩)]
def aiv(a:List Int)(b:Bool)(c d:Int):St:=⟨[(0,dL a),(2,.pb 0 0),(15,dB b)],47,[],[(0,.box 148 [d6 c,d8 d,.k (zK zH 0 0)])],1,[],0⟩
def aiw(a:List Int)(b d e f g:Int)(c:List Int):St:=⟨[(0,dL a),(2,.pb 0 0),(4,.pb 1 0),(5,dI b)],47,[],[(0,.box 148 [d6 d,d8 e,.k (zK zH 0 0)]),(1,.box 148 [d6 f,d8 g,.row 2]),(2,.row (.int .u8) 5 c)],3,[],0⟩
def aix(b c d e:Int)(a:List Int):St:=⟨[(2,.pb 0 0),(4,.pb 1 0)],47,[],[(0,.box 148 [d6 b,d8 c,.k (zK zH 0 0)]),(1,.box 148 [d6 d,d8 e,.row 2]),(2,.row (.int .u8) 5 a)],3,[],0⟩
@[reducible] def cI:Type:=As cK
@[reducible] def zO1:Type:=List Int->Int->Int->Int->Int->Int->List Int->Option cI
def aiy(b:zO1)(a:List Int)(c:Bool)(d e:Int):Option cI :=
 if c=true then some ((0,0,[]),10,()) else zC (at? a 0) fun f=>zC (at? a 1) fun g=>zC (at? a 6) fun h=>b a 7 d e (add .u16 (mul .u16 256 (cvt .u16 f)) (cvt .u16 g)) h []
def Jw(h:Int->Int->Int->Int->List Int->Option cI)(i:zO1)(a:List Int)(b d e f g:Int)(c:List Int):Option cI :=
 if lt b (zF (zG a))=true then zC (at? a b) fun j=>need (small (zG c+Nat.succ 0)) (i a (add .i64 b 1) d e f g (c++[j])) else h d e f g c
def axq(d e b c:Int)(a:List Int):Option cI :=
 some ((b,c,a),0,())
def aiz(b:List Int->Bool->Int->Int->Option cI)(a:List Int):Option cI :=
 if lt (zF (zG a)) 8=true then b a true 0 0 else zC (ait (a,())) fun c=>b a (nei c.1 (zF (zG a))) 0 0
def axr:=axq
def Si(b:List Int)(c e f g h:Int)(d:List Int):Option cI :=
 ay (fun i a=>Jw (axr) (fun b c e f g h d=>i (b,c,e,f,g,h,d)) a.1 a.2.1 a.2.2.1 a.2.2.2.1 a.2.2.2.2.1 a.2.2.2.2.2.1 a.2.2.2.2.2.2) 18446744073709551616 (b,c,e,f,g,h,d)
def Sj:=aiy (Si)
def aiA(x:As aI):Option cI:=aiz Sj x.1
abbrev pDd:=zp asc ase 105 aiu
theorem aNd{J a b c d e}:pDd J 15 [] (aix a b c d e)=axq a b c d e:=by kernel_rfl
theorem aNe{J w2 a b c d e f g}:pDd J 122 [w2] (aiw a b c d e f g)=Jw (C (J 15 []) aix) (C w2 aiw) a b c d e f g:=by kernel_rfl
theorem aNf{J a b c d}:pDd J 6 [] (aiv a b c d)=aiy (C (J 122 []) aiw) a b c d:=by kernel_rfl
abbrev pDc:=zj asc ase 105 aiu
theorem aNg:C (pDc 15 []) aix=axr:=gNC (by decide) fun _=>aNd
theorem aNh:C (pDc 122 []) aiw=Si:=gLC (by decide) (by kernel_rfl) (fun _=>by unfold Si;rfl) fun _ _=>aNe.trans (by rw[aNg]<;>kernel_rfl)
theorem aNi:C (pDc 6 []) aiv=Sj:=gNC (by decide) fun _=>aNf.trans (by rw[aNh]<;>kernel_rfl)
theorem aNj:ak Tryz.prog (fun _=>True) 105 ⟨aiu,aiA⟩:=zcc (env:=asc) (d:=6) (hs:=Ev.get ase) (aj aNc bq) (fun J x=>aiz (C (J 6 []) aiv) x.1) (fun _ _=>by kernel_rfl) fun _=>by rw[aNi]<;>rfl
@[reducible] def aiB:Sh:=shD [.pr (.int .u16) ac1] aI
def asf:Env:=(cts [])
def asg:List (Nat×Hint):=[(122,⟨[],[1,4,5]⟩)]
@[reducible] def zO2:Type:=Int×Int×List Int
def aiC(b:Int)(a:zO2)(c:List Int):St:=⟨[(1,.pb 0 0),(4,.row 1),(5,dI b)],43,[],[(0,.box 148 [d6 a.1,d8 a.2.1,dL a.2.2]),(1,.row (.int .u8) 5 c)],2,[],0⟩
@[reducible] def zO3:Type:=Int->Int×Int×List Int->List Int->Option bO
def Sk(d:zO3)(a:Int)(c:zO2)(b:List Int):Option bO :=
 if lt a (zF (zG c.2.2))=true then zC (at? c.2.2 a) fun e=>need (small (zG b+Nat.succ 0)) (d (add .i64 a 1) c (b++[e])) else some (b,())
def aiD(b:zO3)(a:zO2):Option bO :=
 b 0 a [cvt .u8 (quo .u16 a.1 256),cvt .u8 (rem a.1 256),0,0,cvt .u8 (quo .i64 (add .i64 (zF (zG a.2.2)) 1) 256),cvt .u8 (rem (add .i64 (zF (zG a.2.2)) 1) 256),a.2.1]
def Sl(a:Int)(d:zO2)(b:List Int):Option bO :=
 ay (fun e c=>Sk (fun a d b=>e (a,d,b)) c.1 c.2.1 c.2.2) 18446744073709551616 (a,d,b)
def aiE(x:As [.pr (.int .u16) ac1]):Option bO:=aiD Sl x.1
abbrev pDb:=zp asf asg 106 aiB
theorem aNk{J w1 a b c}:pDb J 122 [w1] (aiC a b c)=Sk (C w1 aiC) a b c:=by kernel_rfl
abbrev pDa:=zj asf asg 106 aiB
theorem aNl:C (pDa 122 []) aiC=Sl:=gLC (by decide) (by kernel_rfl) (fun _=>by unfold Sl;rfl) fun _ _=>aNk.trans (by kernel_rfl)
theorem aNm:ak Tryz.prog (fun _=>True) 106 ⟨aiB,aiE⟩:=zcc (env:=asf) (d:=6) (hs:=Ev.get asg) bq (fun J x=>aiD (C (J 122 []) aiC) x.1) (fun _ _=>by kernel_rfl) fun _=>by rw[aNl]<;>rfl
@[reducible] def aiF:Sh:=shD [.int .u16,.int .u8] [.int .u16]
def ash:Env:=(cts [])
def asi:List (Nat×Hint):=[(58,⟨[],[0,5]⟩),(233,⟨[],[0,5]⟩)]
def Jy(b a:Int):St:=⟨[(0,d6 b),(5,dI a)],24,[],[],0,[],0⟩
def aiG(b a:Int):St:=⟨[(0,d6 b),(5,dI a)],24,[],[],0,[],0⟩
@[reducible] def zO4:Type:=Int->Int->Option cU
def aiH(c d:zO4)(a b:Int):Option cU :=
 if lt b 8=true then if eqi (rem a 2) 1=true then c (Sx.iA .u16 (quo .u16 a 2) 40961) b else c (quo .u16 a 2) b else some (a,())
def aiI(b:zO4)(c a:Int):Option cU :=
 b c (add .i64 a 1)
def aiJ(b:zO4)(c a:Int):Option cU :=
 b (Sx.iA .u16 c (cvt .u16 a)) 0
def aiK(a:zO4):=aiI a
def Sm(b a:Int):Option cU :=
 ay (fun d c=>aiH (aiK (fun b a=>d (b,a))) (fun b a=>d (b,a)) c.1 c.2) 18446744073709551616 (b,a)
def aiL(x:As [.int .u16,.int .u8]):Option cU:=aiJ Sm x.1 x.2.1
abbrev pCj:=zp ash asi 211 aiF
theorem aNn{J w1 a b}:pCj J 233 [w1] (aiG a b)=aiI (C w1 Jy) a b:=by kernel_rfl
theorem aNo{J w1 a b}:pCj J 58 [w1] (Jy a b)=aiH (C (J 233 [w1]) aiG) (C w1 Jy) a b:=by kernel_rfl
abbrev pCi:=zj ash asi 211 aiF
theorem aNp{w1}:C (pCi 233 [w1]) aiG=aiK (C w1 Jy):=gNC (by decide) fun _=>aNn
theorem aNq:C (pCi 58 []) Jy=Sm:=gLC (by decide) (by kernel_rfl) (fun _=>by unfold Sm;rfl) fun _ _=>aNo.trans (by rw[aNp]<;>kernel_rfl)
theorem aNr:ak Tryz.prog (fun _=>True) 211 ⟨aiF,aiL⟩:=zcc (env:=ash) (d:=6) (hs:=Ev.get asi) bq (fun J x=>aiJ (C (J 58 []) Jy) x.1 x.2.1) (fun _ _=>by kernel_rfl) fun _=>by rw[aNq]<;>rfl
@[reducible] def asj:Sh:=shD aI [.int .u16]
def aiM:Env:=(cts [(211,(⟨aiF,aiL⟩:Ct))])
def aiN:List (Nat×Hint):=[(58,⟨[],[0,3,4]⟩)]
def aiO(a:List Int)(c b:Int):St:=⟨[(0,dL a),(3,d6 c),(4,dI b)],18,[],[],0,[],0⟩
def Jz(e:List Int->Int->Int->Option cU)(a:List Int)(d b:Int):Option cU :=
 if lt b (zF (zG a))=true then zC (at? a b) fun c=>zC (aiL (d,c,())) fun c=>e a c.1 (add .i64 b 1) else some (d,())
def aiP(b:List Int->Int->Int->Option cU)(a:List Int):Option cU :=
 b a 65535 0
def Sn(a:List Int)(d b:Int):Option cU :=
 ay (fun e c=>Jz (fun a d b=>e (a,d,b)) c.1 c.2.1 c.2.2) 18446744073709551616 (a,d,b)
def MH(x:As aI):Option cU:=aiP Sn x.1
abbrev pCl:=zp aiM aiN 195 asj
theorem aNs{J w1 a b c}:pCl J 58 [w1] (aiO a b c)=Jz (C w1 aiO) a b c:=by kernel_rfl
abbrev pCk:=zj aiM aiN 195 asj
theorem aNt:C (pCk 58 []) aiO=Sn:=gLC (by decide) (by kernel_rfl) (fun _=>by unfold Sn;rfl) fun _ _=>aNs.trans (by kernel_rfl)
theorem axt:ak Tryz.prog (fun _=>True) 195 ⟨asj,MH⟩:=zcc (env:=aiM) (d:=6) (hs:=Ev.get aiN) (aj aNr bq) (fun J x=>aiP (C (J 58 []) aiO) x.1) (fun _ _=>by kernel_rfl) fun _=>by rw[aNt]<;>rfl
@[reducible] def axu:Sh:=shD aI aK
def aiQ(a:List Int):Option bW :=
 if lt (zF (zG a)) 2=true then some ([],10,()) else zC (cut a 0 (Sx.sub .i64 (zF (zG a)) 2)) fun b=>zC (MH (b,())) fun b=>zC (at? a (Sx.sub .i64 (zF (zG a)) 2)) fun c=>zC (at? a (add .i64 (Sx.sub .i64 (zF (zG a)) 2) 1)) fun d=>if nei (add .i64 (cvt .i64 c) (mul .i64 256 (cvt .i64 d))) (cvt .i64 b.1)=true then some ([],11,()) else zC (cut a 0 (Sx.sub .i64 (zF (zG a)) 2)) fun b=>need (small (0+zG b)) (some (b,0,()))
def MI(x:As aI):Option bW:=aiQ x.1
theorem aNu:ak Tryz.prog (fun _=>True) 163 ⟨axu,MI⟩:=ctn (aj axt bq) 6 fun J x=>by kernel_rfl
@[reducible] def aiR:Sh:=shD aI cD
def asl:Env:=(cts [(163,(⟨axu,MI⟩:Ct))])
def asn:List (Nat×Hint):=[(62,⟨[],[5,31]⟩),(6,⟨[],[0,14,27,28,29,30]⟩)]
def aiS(a:List Int)(b:Bool):St:=⟨[(0,dL a),(14,dB b)],37,[],[],0,[],0⟩
def aiT(a:List Int)(b:Bool):St:=⟨[(5,dL a),(31,dB b)],37,[],[],0,[],0⟩
@[reducible] def zO5:Type:=List Int->Bool->Option (As cD)
def aiU(b:zO5)(c:List Int)(d:Bool):Option (As cD) :=
 if d=true then some (0,[],10,()) else zC (MI (c,())) fun a=>if nei a.2.1 0=true then some (0,[],11,()) else zC (at? a.1 0) fun e=>if lt e 1=true then b a.1 true else zC (at? a.1 0) fun f=>b a.1 (gt f 247)
def aiV(a:List Int)(b:Bool):Option (As cD) :=
 if b=true then some (0,[],10,()) else zC (at? a 0) fun c=>zC (cut a 1 (zF (zG a))) fun d=>some (c,d,0,())
def aiW(b:zO5)(a:List Int):Option (As cD) :=
 if lt (zF (zG a)) 4=true then b a true else b a (gt (zF (zG a)) 256)
def Sq:=aiV
def aiX:=aiU (Sq)
def aiY(x:As aI):Option (As cD):=aiW aiX x.1
abbrev pC9:=zp asl asn 107 aiR
theorem aNv{J a b}:pC9 J 62 [] (aiT a b)=aiV a b:=by kernel_rfl
theorem aNw{J a b}:pC9 J 6 [] (aiS a b)=aiU (C (J 62 []) aiT) a b:=by kernel_rfl
abbrev pC8:=zj asl asn 107 aiR
theorem aNx:C (pC8 62 []) aiT=Sq:=gNC (by decide) fun _=>aNv
theorem aNy:C (pC8 6 []) aiS=aiX:=gNC (by decide) fun _=>aNw.trans (by rw[aNx]<;>kernel_rfl)
theorem aNz:ak Tryz.prog (fun _=>True) 107 ⟨aiR,aiY⟩:=zcc (env:=asl) (d:=6) (hs:=Ev.get asn) (aj aNu bq) (fun J x=>aiW (C (J 6 []) aiS) x.1) (fun _ _=>by kernel_rfl) fun _=>by rw[aNy]<;>rfl
@[reducible] def axv:Sh:=shD aI aI
def aiZ(b:List Int):Option bO :=
 need (small (0+zG b)) (zC (MH (b,())) fun y=>need (small (zG b+Nat.succ 0)) (need (small (zG (b++[cvt .u8 (rem y.1 256)])+Nat.succ 0)) (some (b++[cvt .u8 (rem y.1 256)]++[cvt .u8 (quo .u16 y.1 256)],()))))
def Fe(x:As aI):Option bO:=aiZ x.1
theorem aNA:ak Tryz.prog (fun _=>True) 164 ⟨axv,Fe⟩:=ctn (aj axt bq) 6 fun J x=>by kernel_rfl
@[reducible] def ai0:Sh:=shD fX aK
def aso:Env:=(cts [(164,(⟨axv,Fe⟩:Ct))])
def asq:List (Nat×Hint):=[(6,⟨[],[0,1,21]⟩)]
def ai1(c:Int)(a:List Int)(b:Bool):St:=⟨[(0,d8 c),(1,dL a),(21,dB b)],27,[],[],0,[],0⟩
def axw(c:Int)(a:List Int)(b:Bool):Option bW :=
 if b=true then some ([],2,()) else need (small (Nat.succ 0+zG a)) (zC (Fe (c::a,())) fun d=>some (d.1,0,()))
def ai2(c:Int->List Int->Bool->Option bW)(b:Int)(a:List Int):Option bW :=
 if lt b 1=true then c b a true else if gt b 247=true then c b a true else if lt (zF (zG a)) 1=true then c b a true else c b a (gt (zF (zG a)) 253)
def ai3:=axw
def ai4(x:As fX):Option bW:=ai2 ai3 x.1 x.2.1
abbrev pC7:=zp aso asq 108 ai0
theorem aNB{J a b c}:pC7 J 6 [] (ai1 a b c)=axw a b c:=by kernel_rfl
abbrev pC6:=zj aso asq 108 ai0
theorem aNC:C (pC6 6 []) ai1=ai3:=gNC (by decide) fun _=>aNB
theorem aND:ak Tryz.prog (fun _=>True) 108 ⟨ai0,ai4⟩:=zcc (env:=aso) (d:=6) (hs:=Ev.get asq) (aj aNA bq) (fun J x=>ai2 (C (J 6 []) ai1) x.1 x.2.1) (fun _ _=>by kernel_rfl) fun _=>by rw[aNC]<;>rfl
@[reducible] def ai5:Sh:=shD aR aR
def asr:Env:=(cts [(2000038,Ev.iq),(39,(⟨Im,vK⟩:Ct)),(41,(⟨mh,Ei⟩:Ct)),(105,(⟨aiu,aiA⟩:Ct)),(106,(⟨aiB,aiE⟩:Ct)),(107,(⟨aiR,aiY⟩:Ct)),(108,(⟨ai0,ai4⟩:Ct))])
def ast:List (Nat×Hint):=[(30,⟨[],[2,4,10,11,64]⟩),(106,⟨[],[2,4,6,33]⟩)]
def ai6(b:gu)(d:Int)(c:Bool)(e:List (gu))(a:zO2):St:=⟨[(2,.pe aQ b),(4,.prw 0 d 35 0),(6,.pb 1 0),(33,dB c)],81,[],[(0,.row aQ 38 e),(1,.box 148 [d6 a.1,d8 a.2.1,dL a.2.2])],2,[],0⟩
def ai7(b:gu)(c f:Int)(a:List Int)(e:Bool)(d:List (gu)):St:=⟨[(2,.pe aQ b),(4,.prw 0 c 35 0),(10,d8 f),(11,dL a),(64,dB e)],81,[],[(0,.row aQ 38 d)],1,[],0⟩
def JA(e:gu)(a:Int)(g:Bool)(c:List (gu))(d:zO2):Option dG :=
 if g=true then zC (vK (e,())) fun b=>zC (at? c a) fun d=>zC (at? (List.set c (zI a) b.1) a) fun f=>zC (at? (List.set c (zI a) b.1) a) fun b=>some (b,[],()) else zC (Ei (e,d.2.2,())) fun b=>zC (aiE ((d.1,d.2.1,b.2.1),())) fun f=>zC (at? c a) fun d=>zC (at? (List.set c (zI a) b.1) a) fun h=>zC (at? (List.set c (zI a) b.1) a) fun b=>some (b,f.1,())
def JB(d:gu)(a h:Int)(f:List Int)(g:Bool)(c:List (gu)):Option dG :=
 if g=true then zC (vK (d,())) fun b=>zC (at? c a) fun i=>zC (at? (List.set c (zI a) b.1) a) fun e=>zC (at? (List.set c (zI a) b.1) a) fun b=>some (b,[],()) else zC (Ei (d,f,())) fun b=>zC (ai4 (h,b.2.1,())) fun e=>zC (at? c a) fun i=>zC (at? (List.set c (zI a) b.1) a) fun j=>zC (at? (List.set c (zI a) b.1) a) fun b=>some (b,e.1,())
def ai8(d:gu->Int->Bool->List (gu)->Int×Int×List Int->Option dG)(e:gu->Int->Int->List Int->Bool->List (gu)->Option dG)(b:gu)(c:List Int):Option dG :=
 if eqi b.2.1 2=true then zC (aiA (c,())) fun a=>if nei a.2.1 0=true then d b 0 true [zSl] a.1 else d b 0 (nei a.1.2.1 b.1) [zSl] a.1 else zC (aiY (c,())) fun a=>if nei a.2.2.1 0=true then e b 0 a.1 a.2.1 true [zSl] else e b 0 a.1 a.2.1 (nei a.1 b.1) [zSl]
def Sr:=JA
def Ss:=JB
def ai9(x:As aR):Option dG:=ai8 Sr Ss x.1 x.2.1
abbrev pFh:=zp asr ast 42 ai5
theorem aNE{J a b c d e}:pFh J 106 [] (ai6 a b c d e)=JA a b c d e:=by kernel_rfl
theorem aNF{J a b c d e f}:pFh J 30 [] (ai7 a b c d e f)=JB a b c d e f:=by kernel_rfl
abbrev pFg:=zj asr ast 42 ai5
theorem aNG:C (pFg 106 []) ai6=Sr:=gNC (by decide) fun _=>aNE
theorem aNH:C (pFg 30 []) ai7=Ss:=gNC (by decide) fun _=>aNF
theorem aNI:ak Tryz.prog (fun _=>True) 42 ⟨ai5,ai9⟩:=zcc (env:=asr) (d:=6) (hs:=Ev.get ast) (aj Ev.gI (aj adV (aj axp (aj aNj (aj aNm (aj aNz (aj aND bq))))))) (fun J x=>ai8 (C (J 106 []) ai6) (C (J 30 []) ai7) x.1 x.2.1) (fun _ _=>by kernel_rfl) fun _=>by rw[aNG,aNH]<;>rfl
@[reducible] def aNJ:Sh:=shD cF cF
def aja(a:nK):Option (As cF) :=
 zC (qx (a,())) fun y=>if nei y.1.2.2.1 1=true then some (y.1,()) else if eqi (Sx.sub .i64 y.1.2.1.2 1) 0=true then zC (Eb ((y.1.1,(y.1.2.1.1,Sx.sub .i64 y.1.2.1.2 1),y.1.2.2),())) fun y=>some (y.1,()) else some ((y.1.1,(y.1.2.1.1,Sx.sub .i64 y.1.2.1.2 1),y.1.2.2),())
def MJ(x:As cF):Option (As cF):=aja x.1
theorem aNK:ak Tryz.prog (fun _=>True) 109 ⟨aNJ,MJ⟩:=ctn (aj Il (aj af6 bq)) 6 fun J x=>by kernel_rfl
@[reducible] def axx:Sh:=shD bR bR
def ajb(b:gu):Option (As bR) :=
 zC (vK (b,())) fun a=>zC (MJ (a.1.2.2.1,())) fun c=>some ((a.1.1,a.1.2.1,c.1,a.1.2.2.2),())
def MK(x:As bR):Option (As bR):=ajb x.1
theorem aNL:ak Tryz.prog (fun _=>True) 43 ⟨axx,MK⟩:=ctn (aj adV (aj aNK bq)) 6 fun J x=>by kernel_rfl
@[reducible] def aNM:Sh:=shD cF cF
def ajc(a:nK):Option (As cF) :=
 zC (qx (a,())) fun y=>if eqi y.1.2.2.1 1=true then zC (Eb (y.1,())) fun y=>some (y.1,()) else some (y.1,())
def ML(x:As cF):Option (As cF):=ajc x.1
theorem aNN:ak Tryz.prog (fun _=>True) 110 ⟨aNM,ML⟩:=ctn (aj Il (aj af6 bq)) 6 fun J x=>by kernel_rfl
@[reducible] def axy:Sh:=shD bR bR
def ajd(b:gu):Option (As bR) :=
 zC (vK (b,())) fun a=>zC (ML (a.1.2.2.1,())) fun c=>some ((a.1.1,a.1.2.1,c.1,[false,false,false,false,false,false,false,false,false,false,false,false,false,false,false,false]),())
def MN(x:As bR):Option (As bR):=ajd x.1
theorem aNO:ak Tryz.prog (fun _=>True) 44 ⟨axy,MN⟩:=ctn (aj adV (aj aNN bq)) 6 fun J x=>by kernel_rfl
@[reducible] def aje:Sh:=shD [.sl gP,.sl gP] [.bool]
def asu:Env:=(cts [])
def asv:List (Nat×Hint):=[(58,⟨[],[0,1,5,30,31,32,33,34,35,36,37,38,39,40,41,42]⟩),(233,⟨[],[0,1,5,30,31,32,33,34,35,36,37,38,39,40,41,42]⟩),(7462,⟨[],[0,1,5,6,30,31,32,33,34,35,36,37,38,39,40,41,42]⟩),(1864,⟨[.agd 30 (.sl gP),.agd 31 (.int .i64),.agd 34 aA,.agd 35 (.int .i64),.agd 36 (.sl gP),.agd 37 (.int .i64),.agd 40 aA,.agd 41 (.int .i64),.agd 42 .bool],[0,1,5,43]⟩)]
@[reducible] def zO6:Type:=List (Int×List Int)
def vM(a b:zO6)(i:Int):St:=⟨[(0,.d (.sl gP) a),(1,.d (.sl gP) b),(5,dI i)],71,[],[],0,[],0⟩
def ajf(a b:zO6)(c:Int)(d:Bool):St:=⟨[(0,.d (.sl gP) a),(1,.d (.sl gP) b),(5,dI c),(43,dB d)],71,[],[],0,[],0⟩
def ajg(a b:zO6)(i k:Int):St:=⟨[(0,.d (.sl gP) a),(1,.d (.sl gP) b),(5,dI i),(6,dI k)],71,[],[],0,[],0⟩
def ajh(a b:zO6)(i:Int):St:=⟨[(0,.d (.sl gP) a),(1,.d (.sl gP) b),(5,dI i)],71,[],[],0,[],0⟩
@[reducible] def zO7:Type:=List (Int×List Int)->List (Int×List Int)->Int->Option aD
def Ej(e:List (Int×List Int)->List (Int×List Int)->Int->Bool->Option aD)(h:zO7)(b c:zO6)(a:Int):Option aD :=
 if lt a (zF (zG b))=true then zC (at? b a) fun d=>zC (at? c a) fun f=>if nei d.1 f.1=true then e b c a true else zC (at? b a) fun d=>zC (at? c a) fun g=>e b c a (nei (zF (zG d.2)) (zF (zG g.2))) else some (true,())
@[reducible] def zO8:Type:=List (Int×List Int)->List (Int×List Int)->Int->Int->Option aD
def aji(d:zO8)(f:zO7)(a b:zO6)(c:Int)(e:Bool):Option aD :=
 if e=true then some (false,()) else d a b c 0
def Em(f j:zO7)(g:zO8)(c e:zO6)(a d:Int):Option aD :=
 zC (at? c a) fun b=>if lt d (zF (zG b.2))=true then zC (at? c a) fun b=>zC (at? b.2 d) fun b=>zC (at? e a) fun h=>zC (at? h.2 d) fun i=>if nei b i=true then some (false,()) else g c e a (add .i64 d 1) else f c e a
def ajj(d:zO7)(a b:zO6)(c:Int):Option aD :=
 d a b (add .i64 c 1)
def ajk(c:zO7)(a b:zO6):Option aD :=
 if nei (zF (zG a)) (zF (zG b))=true then some (false,()) else c a b 0
def Sv(a:zO7):=ajj a
def ajl(f:zO7)(b c:zO6)(d e:Int):Option aD :=
 ay (fun g a=>Em (Sv f) f (fun b c d e=>g (b,c,d,e)) a.1 a.2.1 a.2.2.1 a.2.2.2) 18446744073709551616 (b,c,d,e)
def JC(a:zO7):=aji (ajl a) a
def ajm(a b:zO6)(c:Int):Option aD :=
 ay (fun e d=>Ej (JC (fun a b c=>e (a,b,c))) (fun a b c=>e (a,b,c)) d.1 d.2.1 d.2.2) 18446744073709551616 (a,b,c)
def ajn(x:As [.sl gP,.sl gP]):Option aD:=ajk ajm x.1 x.2.1
abbrev pD3:=zp asu asv 196 aje
theorem aNP{J w1 a b c}:pD3 J 233 [w1] (ajh a b c)=ajj (C w1 vM) a b c:=by kernel_rfl
theorem aNQ{J w1 w3 a b c d}:pD3 J 7462 [w1,w3] (ajg a b c d)=Em (C (J 233 [w1]) ajh) (C w1 vM) (C w3 ajg) a b c d:=by kernel_rfl
theorem aNR{J w1 a b c d}:pD3 J 1864 [w1] (ajf a b c d)=aji (C (J 7462 [w1]) ajg) (C w1 vM) a b c d:=by kernel_rfl
theorem aNS{J w1 a b c}:pD3 J 58 [w1] (vM a b c)=Ej (C (J 1864 [w1]) ajf) (C w1 vM) a b c:=by kernel_rfl
abbrev pD2:=zj asu asv 196 aje
theorem aNT{w1}:C (pD2 233 [w1]) ajh=Sv (C w1 vM):=gNC (by decide) fun _=>aNP
theorem aNU{w1}:C (pD2 7462 [w1]) ajg=ajl (C w1 vM):=gLC (by decide) (by kernel_rfl) (fun _=>by unfold ajl;rfl) fun _ _=>aNQ.trans (by rw[aNT]<;>kernel_rfl)
theorem aNV{w1}:C (pD2 1864 [w1]) ajf=JC (C w1 vM):=gNC (by decide) fun _=>aNR.trans (by rw[aNU]<;>kernel_rfl)
theorem aNW:C (pD2 58 []) vM=ajm:=gLC (by decide) (by kernel_rfl) (fun _=>by unfold ajm;rfl) fun _ _=>aNS.trans (by rw[aNV]<;>kernel_rfl)
theorem aNX:ak Tryz.prog (fun _=>True) 196 ⟨aje,ajn⟩:=zcc (env:=asu) (d:=6) (hs:=Ev.get asv) bq (fun J x=>ajk (C (J 58 []) vM) x.1 x.2.1) (fun _ _=>by kernel_rfl) fun _=>by rw[aNW]<;>rfl
@[reducible] def axz:Sh:=shD [.pr (.int .u32) qN,.pr (.int .u32) qN] [.bool]
def aNY:Env:=(cts [(2000033,Ev.iq),(144,(⟨AO,qw⟩:Ct)),(196,(⟨aje,ajn⟩:Ct))])
def ajo(a b:Int×List Bool×List (Int×List Int)):Option aD :=
 if eqi a.1 b.1=true then if (Sx.eqb (zJ a.2.1 0 false) (zJ b.2.1 0 false) && (Sx.eqb (zJ a.2.1 1 false) (zJ b.2.1 1 false) && (Sx.eqb (zJ a.2.1 2 false) (zJ b.2.1 2 false) && (Sx.eqb (zJ a.2.1 3 false) (zJ b.2.1 3 false) && (Sx.eqb (zJ a.2.1 4 false) (zJ b.2.1 4 false) && (Sx.eqb (zJ a.2.1 5 false) (zJ b.2.1 5 false) && (Sx.eqb (zJ a.2.1 6 false) (zJ b.2.1 6 false) && (Sx.eqb (zJ a.2.1 7 false) (zJ b.2.1 7 false) && true))))))))=true then zC (qw (a,())) fun c=>zC (qw (b,())) fun d=>zC (ajn (c.1,d.1,())) fun c=>some (c.1,()) else some (false,()) else some (false,())
def MO(x:As [.pr (.int .u32) qN,.pr (.int .u32) qN]):Option aD:=ajo x.1 x.2.1
theorem aNZ:ak Tryz.prog (fun _=>True) 166 ⟨axz,MO⟩:=ctn (env:=aNY) (aj Ev.gI (aj QU (aj aNX bq))) 6 fun J x=>by kernel_rfl
@[reducible] def ajp:Sh:=shD [.pr aA nD,.pr aA nD] [.bool]
def asw:Env:=(cts [(2000035,Ev.iq),(166,(⟨axz,MO⟩:Ct))])
def asx:List (Nat×Hint):=[(58,⟨[],[2,3,5]⟩),(6,⟨[],[2,3,55]⟩)]
def ajq(a b:nK)(c:Bool):St:=⟨[(2,.pe aH a),(3,.pe aH b),(55,dB c)],74,[],[],0,[],0⟩
def ajr(a b:nK)(i:Int):St:=⟨[(2,.pe aH a),(3,.pe aH b),(5,dI i)],74,[],[],0,[],0⟩
def axA(c:nK->nK->Int->Option aD)(a b:nK)(d:Bool):Option aD :=
 if d=true then some (false,()) else c a b 0
def JD(d:nK->nK->Int->Option aD)(b c:nK)(a:Int):Option aD :=
 if lt a (zF (zG b.1))=true then zC (at? b.1 a) fun e=>zC (at? c.1 a) fun f=>if nei e f=true then some (false,()) else d b c (add .i64 a 1) else some (true,())
def ajs(c:nK->nK->Bool->Option aD)(a b:nK):Option aD :=
 if nei (zF (zG a.1)) (zF (zG b.1))=true then c a b true else if (!(eqi a.2.1.1 b.2.1.1 && (eqi a.2.1.2 b.2.1.2 && true)))=true then c a b true else if nei a.2.2.1 b.2.2.1=true then c a b true else if nei a.2.2.2.1 b.2.2.2.1=true then c a b true else if nei a.2.2.2.2.1 b.2.2.2.2.1=true then c a b true else if nei a.2.2.2.2.2.2 b.2.2.2.2.2.2=true then c a b true else zC (MO (a.2.2.2.2.2.1,b.2.2.2.2.2.1,())) fun d=>c a b !d.1
def JE(a b:nK)(c:Int):Option aD :=
 ay (fun e d=>JD (fun a b c=>e (a,b,c)) d.1 d.2.1 d.2.2) 18446744073709551616 (a,b,c)
def ajt:=axA (JE)
def aju(x:As [.pr aA nD,.pr aA nD]):Option aD:=ajs ajt x.1 x.2.1
abbrev pEz:=zp asw asx 111 ajp
theorem aN0{J w2 a b c}:pEz J 58 [w2] (ajr a b c)=JD (C w2 ajr) a b c:=by kernel_rfl
theorem aN1{J a b c}:pEz J 6 [] (ajq a b c)=axA (C (J 58 []) ajr) a b c:=by kernel_rfl
abbrev pEy:=zj asw asx 111 ajp
theorem aN2:C (pEy 58 []) ajr=JE:=gLC (by decide) (by kernel_rfl) (fun _=>by unfold JE;rfl) fun _ _=>aN0.trans (by kernel_rfl)
theorem aN3:C (pEy 6 []) ajq=ajt:=gNC (by decide) fun _=>aN1.trans (by rw[aN2]<;>kernel_rfl)
theorem aN4:ak Tryz.prog (fun _=>True) 111 ⟨ajp,aju⟩:=zcc (env:=asw) (d:=6) (hs:=Ev.get asx) (aj Ev.gI (aj aNZ bq)) (fun J x=>ajs (C (J 6 []) ajq) x.1 x.2.1) (fun _ _=>by kernel_rfl) fun _=>by rw[aN3]<;>rfl
@[reducible] def ajv:Sh:=shD [.pr (.int .u8) aB,.pr (.int .u8) aB] [.bool]
def asy:Env:=(cts [(2000038,Ev.iq),(111,(⟨ajp,aju⟩:Ct))])
def asz:List (Nat×Hint):=[(58,⟨[],[2,3,5]⟩),(6,⟨[],[2,3,34]⟩)]
def ajw(a b:gu)(c:Bool):St:=⟨[(2,.pe aQ a),(3,.pe aQ b),(34,dB c)],53,[],[],0,[],0⟩
def ajx(a b:gu)(i:Int):St:=⟨[(2,.pe aQ a),(3,.pe aQ b),(5,dI i)],53,[],[],0,[],0⟩
def axB(c:gu->gu->Int->Option aD)(a b:gu)(d:Bool):Option aD :=
 if d=true then some (false,()) else c a b 0
def JF(d:gu->gu->Int->Option aD)(b c:gu)(a:Int):Option aD :=
 if lt a (zF (zG b.2.2.2))=true then zC (at? b.2.2.2 a) fun e=>zC (at? c.2.2.2 a) fun f=>if Sx.neb e f=true then some (false,()) else d b c (add .i64 a 1) else some (true,())
def ajy(c:gu->gu->Bool->Option aD)(a b:gu):Option aD :=
 if nei a.1 b.1=true then c a b true else if nei a.2.1 b.2.1=true then c a b true else if nei (zF (zG a.2.2.2)) (zF (zG b.2.2.2))=true then c a b true else zC (aju (a.2.2.1,b.2.2.1,())) fun d=>c a b !d.1
def JG(a b:gu)(c:Int):Option aD :=
 ay (fun e d=>JF (fun a b c=>e (a,b,c)) d.1 d.2.1 d.2.2) 18446744073709551616 (a,b,c)
def ajz:=axB (JG)
def JH(x:As [.pr (.int .u8) aB,.pr (.int .u8) aB]):Option aD:=ajy ajz x.1 x.2.1
abbrev pFb:=zp asy asz 45 ajv
theorem aN5{J w2 a b c}:pFb J 58 [w2] (ajx a b c)=JF (C w2 ajx) a b c:=by kernel_rfl
theorem aN6{J a b c}:pFb J 6 [] (ajw a b c)=axB (C (J 58 []) ajx) a b c:=by kernel_rfl
abbrev pFa:=zj asy asz 45 ajv
theorem aN7:C (pFa 58 []) ajx=JG:=gLC (by decide) (by kernel_rfl) (fun _=>by unfold JG;rfl) fun _ _=>aN5.trans (by kernel_rfl)
theorem aN8:C (pFa 6 []) ajw=ajz:=gNC (by decide) fun _=>aN6.trans (by rw[aN7]<;>kernel_rfl)
theorem aN9:ak Tryz.prog (fun _=>True) 45 ⟨ajv,JH⟩:=zcc (env:=asy) (d:=6) (hs:=Ev.get asz) (aj Ev.gI (aj aN4 bq)) (fun J x=>ajy (C (J 6 []) ajw) x.1 x.2.1) (fun _ _=>by kernel_rfl) fun _=>by rw[aN8]<;>rfl
@[reducible] def axC:Sh:=shD [.pr (.sl .bool) su,.pr (.sl .bool) su] [.bool]
def asA(a b:List Bool×List Bool×List Int×List Int):Option aD :=
 zC (Mc (a.1,b.1,())) fun y=>if y.1=true then zC (Mc (a.2.1,b.2.1,())) fun y=>if y.1=true then zC (Di (a.2.2.1,b.2.2.1,())) fun y=>if y.1=true then zC (Di (a.2.2.2,b.2.2.2,())) fun y=>some (y.1,()) else some (false,()) else some (false,()) else some (false,())
def MP(x:As [.pr (.sl .bool) su,.pr (.sl .bool) su]):Option aD:=asA x.1 x.2.1
theorem aOa:ak Tryz.prog (fun _=>True) 46 ⟨axC,MP⟩:=ctn (aj atL (aj aHr bq)) 6 fun J x=>by kernel_rfl
@[reducible] def eB:Ty:=.pr (.int .u8) AF
@[reducible] def dT:Ty:=.pr (.int .u16) Me
@[reducible] def cA:Ty:=.pr eB dT
@[reducible] def bM:Ty:=.pr bV cA
@[reducible] def bD:Ty:=.pr (.int .u8) bM
@[reducible] def fQ:List Ty:=[.int .u8,.int .u8,.sl (.int .u16),.int .i64,.sl bD,.pr (.int .u8) aB]
@[reducible] def asB:Sh:=shD fQ [.bool]
def asC:Env:=(cts [(2000038,Ev.iq),(10,(⟨avc,Hw⟩:Ct)),(22,(⟨abt,LH⟩:Ct)),(25,(⟨avD,acY⟩:Ct)),(31,(⟨avB,Md⟩:Ct)),(32,(⟨avA,QI⟩:Ct)),(34,(⟨ac2,Mf⟩:Ct)),(35,(⟨WB,z8⟩:Ct)),(36,(⟨ac9,Mg⟩:Ct)),(37,(⟨avL,Ib⟩:Ct)),(38,(⟨avT,Ik⟩:Ct)),(39,(⟨Im,vK⟩:Ct)),(40,(⟨QL,H6⟩:Ct)),(41,(⟨mh,Ei⟩:Ct)),(42,(⟨ai5,ai9⟩:Ct)),(43,(⟨axx,MK⟩:Ct)),(44,(⟨axy,MN⟩:Ct)),(45,(⟨ajv,JH⟩:Ct)),(46,(⟨axC,MP⟩:Ct)),(47,(⟨fu,oV⟩:Ct)),(48,(⟨vL,oW⟩:Ct))])
def asD:List (Nat×Hint):=[(63,⟨[],[4,13,14,15,144,145,146,147,150,151,152,153,156,157,158,159,160,161,162,165,166,167,168,171,172,173,174,175,176]⟩),(2042,⟨[],[13,15,89,90,91,144,145,146,147,150,151,152,153,156,157,158,159,160,161,162,165,166,167,168,171,172,173,174,175,176]⟩),(2091423,⟨[.agd 22 bV],[13,15,19,20,21,22,89,90,91]⟩),(8365694,⟨[.agd 144 aQ,.agd 145 aQ,.agd 146 .bool,.agd 147 .bool,.agd 150 aQ,.agd 151 aQ,.agd 152 .bool,.agd 153 .bool,.agd 156 aQ,.agd 157 aQ,.agd 158 .bool,.agd 159 aQ,.agd 160 aQ,.agd 161 .bool,.agd 162 .bool,.agd 165 aQ,.agd 166 aQ,.agd 167 .bool,.agd 168 .bool,.agd 171 aQ,.agd 172 (.pr (.sl .bool) su),.agd 173 aQ,.agd 174 (.pr (.sl .bool) su),.agd 175 .bool,.agd 176 .bool],[13,15,20,89,90,91,177]⟩),(62,⟨[],[4,11,13,14,15,81,144,145,146,147,150,151,152,153,156,157,158,159,160,161,162,165,166,167,168,171,172,173,174,175,176]⟩),(6,⟨[],[0,1,2,3,4,11,54,76,77,78,79,80,144,145,146,147,150,151,152,153,156,157,158,159,160,161,162,165,166,167,168,171,172,173,174,175,176]⟩)]
def asE(g c:Int)(a:List Int)(f:Int)(b:List kH)(d:gu)(e:Bool):St:=⟨[(0,d8 g),(1,d8 c),(2,dW a),(3,dI f),(4,.d (.sl bD) b),(11,.pe aQ d),(54,dB e)],181,[],[],0,[],0⟩
def asF(f:List kH)(g:gu)(a e c:Int)(h:Bool)(b d:List (gu)):St:=⟨[(4,.d (.sl bD) f),(11,.pe aQ g),(13,.prw 0 a 35 0),(14,dI e),(15,.prw 1 c 35 0),(81,dB h)],181,[],[(0,.row aQ 38 b),(1,.row aQ 38 d)],2,[],0⟩
def asG(f:List kH)(a e c:Int)(b d:List (gu)):St:=⟨[(4,.d (.sl bD) f),(13,.prw 0 a 35 0),(14,dI e),(15,.prw 1 c 35 0)],181,[],[(0,.row aQ 38 b),(1,.row aQ 38 d)],2,[],0⟩
def Bj(a c:Int)(e:List kH)(f g:Int)(b d:List (gu)):St:=⟨[(13,.prw 0 a 35 0),(15,.prw 1 c 35 0),(89,.d (.sl bD) e),(90,dI f),(91,dI g)],181,[],[(0,.row aQ 38 b),(1,.row aQ 38 d)],2,[],0⟩
def asH(a c l e:Int)(g k:List Int)(h:List kH)(i j:Int)(b d m f:List (gu)):St:=⟨[(13,.prw 0 a 35 0),(15,.prw 1 c 35 0),(19,.prw 2 l 35 0),(20,.prw 3 e 35 0),(21,dL g),(22,dL k),(89,.d (.sl bD) h),(90,dI i),(91,dI j)],181,[],[(0,.row aQ 38 b),(1,.row aQ 38 d),(2,.row aQ 38 m),(3,.row aQ 38 f)],4,[],0⟩
def asI(a c e:Int)(h:List kH)(i j:Int)(g:Bool)(b d f:List (gu)):St:=⟨[(13,.prw 0 a 35 0),(15,.prw 1 c 35 0),(20,.prw 2 e 35 0),(89,.d (.sl bD) h),(90,dI i),(91,dI j),(177,dB g)],181,[],[(0,.row aQ 38 b),(1,.row aQ 38 d),(2,.row aQ 38 f)],3,[],0⟩
def JI(e:List kH->gu->Int->Int->Int->Bool->List (gu)->List (gu)->Option aD)(i g:Int)(d:List Int)(h:Int)(f:List kH)(b:gu)(j:Bool):Option aD :=
 if j=true then zC (Hw ()) fun a=>some (a.1,()) else zC (z8 (i,g,d,h,())) fun a=>zC (Mg (i,g,d,h,())) fun c=>if nei a.2.1 c.2.1=true then e f b 0 a.2.1 0 true [a.1] [c.1] else zC (Ib (b,())) fun k=>zC (Ik (b,())) fun l=>e f b 0 a.2.1 0 (Sx.neb k.1 l.1) [a.1] [c.1]
def ajA(f:List kH->Int->Int->Int->List (gu)->List (gu)->Option aD)(g:List kH)(e:gu)(a h b:Int)(i:Bool)(c d:List (gu)):Option aD :=
 if i=true then some (false,()) else zC (Ik (e,())) fun k=>if k.1=true then zC (at? c a) fun j=>zC (at? d b) fun j=>f g a 0 b (List.set c (zI a) e) (List.set d (zI b) e) else f g a h b c d
def ajB(g:Int->Int->List kH->Int->Int->List (gu)->List (gu)->Option aD)(a:List kH)(b f d:Int)(c e:List (gu)):Option aD :=
 if nei f 0=true then zC (Hw ()) fun h=>some (h.1,()) else g b d a (zF (zG a)) 0 c e
def JJ(j:Int->Int->Int->Int->List Int->List Int->List kH->Int->Int->List (gu)->List (gu)->List (gu)->List (gu)->Option aD)(q:Int->Int->List kH->Int->Int->List (gu)->List (gu)->Option aD)(e b:Int)(h:List kH)(i g:Int)(f c:List (gu)):Option aD :=
 if lt g i=true then zC (at? h g) fun a=>zC (at? f e) fun n=>zC (vK (n,())) fun k=>zC (at? f e) fun o=>zC (acY (a,o,())) fun d=>zC (H6 (a,())) fun m=>if m.2.1=true then zC (at? c b) fun a=>zC (Ei (a,m.1,())) fun a=>zC (at? c b) fun l=>j e b 0 0 d.2.1 a.2.1 h i g f (List.set c (zI b) a.1) [k.1] [d.1] else if eqi (rem a.1 6) 1=true then zC (at? c b) fun p=>zC (ai9 (p,a.2.1,())) fun a=>zC (at? c b) fun l=>j e b 0 0 d.2.1 a.2.1 h i g f (List.set c (zI b) a.1) [k.1] [d.1] else if eqi (rem a.1 6) 3=true then zC (at? c b) fun a=>zC (MK (a,())) fun a=>zC (at? c b) fun l=>j e b 0 0 d.2.1 [] h i g f (List.set c (zI b) a.1) [k.1] [d.1] else if eqi (rem a.1 6) 4=true then zC (at? c b) fun a=>zC (MN (a,())) fun a=>zC (at? c b) fun l=>j e b 0 0 d.2.1 [] h i g f (List.set c (zI b) a.1) [k.1] [d.1] else j e b 0 0 d.2.1 [] h i g f c [k.1] [d.1] else zC (Hw ()) fun a=>some (a.1,())
def ajC(h:Int->Int->Int->List kH->Int->Int->Bool->List (gu)->List (gu)->List (gu)->Option aD)(y:Int->Int->List kH->Int->Int->List (gu)->List (gu)->Option aD)(f b l d:Int)(n o:List Int)(i:List kH)(j k:Int)(g c m e:List (gu)):Option aD :=
 zC (Md (n,o,())) fun a=>if (!a.1)=true then h f b d i j k true g c e else zC (at? e d) fun a=>zC (at? c b) fun p=>zC (JH (a,p,())) fun a=>if (!a.1)=true then h f b d i j k true g c e else zC (at? e d) fun a=>zC (at? c b) fun q=>zC (QI (a,q,())) fun a=>if (!a.1)=true then h f b d i j k true g c e else zC (at? e d) fun a=>zC (at? m l) fun r=>zC (at? c b) fun s=>zC (at? m l) fun t=>zC (QI (a,r,())) fun a=>zC (JH (s,t,())) fun u=>if Sx.neb a.1 u.1=true then h f b d i j k true g c e else zC (at? g f) fun a=>zC (at? m l) fun v=>zC (JH (a,v,())) fun a=>if (!a.1)=true then h f b d i j k true g c e else zC (at? e d) fun a=>zC (at? c b) fun w=>zC (oV (a,())) fun a=>zC (oW (w,())) fun x=>zC (MP (a.1,x.1,())) fun a=>h f b d i j k (!a.1) g c e
def ajD(g:Int->Int->List kH->Int->Int->List (gu)->List (gu)->Option aD)(a c e:Int)(i:List kH)(j k:Int)(h:Bool)(b d f:List (gu)):Option aD :=
 if h=true then some (false,()) else zC (at? f e) fun l=>zC (at? b a) fun m=>g a c i j (add .i64 k 1) (List.set b (zI a) l) d
def ajE(d:Int->Int->List Int->Int->List kH->gu->Bool->Option aD)(g e:Int)(b:List Int)(f:Int)(c:List kH)(a:gu):Option aD :=
 if gt (zF (zG b)) 80=true then d g e b f c a true else zC (LH (c,40,())) fun h=>if (!h.1)=true then d g e b f c a true else if gt (zF (zG a.2.2.2)) 100=true then d g e b f c a true else if gt (zF (zG a.2.2.1.1)) 100=true then d g e b f c a true else zC (Mf (List.take 8 (List.drop 0 a.2.2.1.2.2.2.2.2.1.2.2),())) fun h=>d g e b f c a !h.1
def asJ(a:Int->Int->List kH->Int->Int->List (gu)->List (gu)->Option aD):=ajD a
def JK(a:Int->Int->List kH->Int->Int->List (gu)->List (gu)->Option aD):=ajC (asJ a) a
def JL(b d:Int)(f:List kH)(g h:Int)(c e:List (gu)):Option aD :=
 ay (fun i a=>JJ (JK (fun b d f g h c e=>i (b,d,f,g,h,c,e))) (fun b d f g h c e=>i (b,d,f,g,h,c,e)) a.1 a.2.1 a.2.2.1 a.2.2.2.1 a.2.2.2.2.1 a.2.2.2.2.2.1 a.2.2.2.2.2.2) 18446744073709551616 (b,d,f,g,h,c,e)
def ajF:=ajB (JL)
def asK:=ajA (ajF)
def ajG:=JI (asK)
def asL(x:As fQ):Option aD:=ajE ajG x.1 x.2.1 x.2.2.1 x.2.2.2.1 x.2.2.2.2.1 x.2.2.2.2.2.1
abbrev pBh:=zp asC asD 7 asB
theorem aOb{J w4 a b c d e f g h i j}:pBh J 8365694 [w4] (asI a b c d e f g h i j)=ajD (C w4 Bj) a b c d e f g h i j:=by kernel_rfl
theorem aOc{J w4 a b c d e f g h i j k l m}:pBh J 2091423 [w4] (asH a b c d e f g h i j k l m)=ajC (C (J 8365694 [w4]) asI) (C w4 Bj) a b c d e f g h i j k l m:=by kernel_rfl
theorem aOd{J w4 a b c d e f g}:pBh J 2042 [w4] (Bj a b c d e f g)=JJ (C (J 2091423 [w4]) asH) (C w4 Bj) a b c d e f g:=by kernel_rfl
theorem aOe{J a b c d e f}:pBh J 63 [] (asG a b c d e f)=ajB (C (J 2042 []) Bj) a b c d e f:=by kernel_rfl
theorem aOf{J a b c d e f g h}:pBh J 62 [] (asF a b c d e f g h)=ajA (C (J 63 []) asG) a b c d e f g h:=by kernel_rfl
theorem aOg{J a b c d e f g}:pBh J 6 [] (asE a b c d e f g)=JI (C (J 62 []) asF) a b c d e f g:=by kernel_rfl
abbrev pBg:=zj asC asD 7 asB
theorem aOh{w4}:C (pBg 8365694 [w4]) asI=asJ (C w4 Bj):=gNC (by decide) fun _=>aOb
theorem aOi{w4}:C (pBg 2091423 [w4]) asH=JK (C w4 Bj):=gNC (by decide) fun _=>aOc.trans (by rw[aOh]<;>kernel_rfl)
theorem aOj:C (pBg 2042 []) Bj=JL:=gLC (by decide) (by kernel_rfl) (fun _=>by unfold JL;rfl) fun _ _=>aOd.trans (by rw[aOi]<;>kernel_rfl)
theorem aOk:C (pBg 63 []) asG=ajF:=gNC (by decide) fun _=>aOe.trans (by rw[aOj]<;>kernel_rfl)
theorem aOl:C (pBg 62 []) asF=asK:=gNC (by decide) fun _=>aOf.trans (by rw[aOk]<;>kernel_rfl)
theorem aOm:C (pBg 6 []) asE=ajG:=gNC (by decide) fun _=>aOg.trans (by rw[aOl]<;>kernel_rfl)
theorem aOn:ak Tryz.prog (fun _=>True) 7 ⟨asB,asL⟩:=zcc (env:=asC) (d:=6) (hs:=Ev.get asD) (aj Ev.gI (aj aGl (aj aGt (aj aHF (aj aHt (aj aHo (aj aHK (aj atK (aj aHP (aj aH4 (aj aIv (aj adV (aj avC (aj axp (aj aNI (aj aNL (aj aNO (aj aN9 (aj aOa (aj auA (aj avZ bq))))))))))))))))))))) (fun J x=>ajE (C (J 6 []) asE) x.1 x.2.1 x.2.2.1 x.2.2.2.1 x.2.2.2.2.1 x.2.2.2.2.2.1) (fun _ _=>by kernel_rfl) fun _=>by rw[aOm]<;>rfl
end Go.Proofs.Lx
end
noncomputable section
namespace Pl
open Go Ev Sx
set_option maxRecDepth 10000
theorem kP{σ R:Type}(F:(σ->Option R)->σ->Option R)(n:Nat)(s:σ):ay F (n+1) s=F (ay F n) s:=rfl
theorem mO{σ R:Type}{F:(σ->Option R)->σ->Option R}{Inv:σ->Prop}{μ:σ->Nat}{G:σ->Option R}
  (step:∀self s,Inv s->(∀s',Inv s'->μ s'<μ s->self s'=G s')->F self s=G s):∀(n:Nat) (s:σ),Inv s->μ s<n->ay F n s=G s
 | 0,s,_,h=>by omega
 | n+1,s,hs,h=>by rw[kP];exact step _ s hs fun s' hs' hlt=>mO step n s' hs' (by omega)
theorem w64{x:Int}(h1:-9223372036854775808≤x)(h2:x≤9223372036854775807):IntKind.i64.wrap x=x:=by grind[IntKind.wrap,IntKind.signed,IntKind.bits]
theorem wu8{x:Int}(h1:0≤x)(h2:x≤255):IntKind.u8.wrap x=x:=by grind[IntKind.wrap,IntKind.signed,IntKind.bits]
theorem yj{x:Int}(h1:0≤x)(h2:x≤65535):IntKind.u16.wrap x=x:=by grind[IntKind.wrap,IntKind.signed,IntKind.bits]
theorem aPv{x:Int}(h1:0≤x)(h2:x≤4294967295):IntKind.u32.wrap x=x:=by grind[IntKind.wrap,IntKind.signed,IntKind.bits]
theorem iF{a b:Int}(h1:-9223372036854775808≤a+b)(h2:a+b≤9223372036854775807):add .i64 a b=a+b:=w64 h1 h2
theorem jO{a b:Int}(h1:-9223372036854775808≤a - b)(h2:a - b≤9223372036854775807):sub .i64 a b=a - b:=w64 h1 h2
theorem kZ{a b:Int}(h1:-9223372036854775808≤a*b)(h2:a*b≤9223372036854775807):mul .i64 a b=a*b:=w64 h1 h2
theorem gM{a:Int}(h1:-9223372036854775808≤a)(h2:a≤9223372036854775807):cvt .i64 a=a:=w64 h1 h2
theorem gJ{n:Nat}(h:n<4611686018427387904):add .i64 (n:Int) 1=((n+1:Nat):Int):=by grind[iF]
theorem lg{n m:Nat}(h:n+m<4611686018427387904):add .i64 (n:Int) (m:Int)=((n+m:Nat):Int):=by grind[iF]
theorem bu(n:Nat):zF n=(n:Int):=rfl
theorem cr{a b:Int}:lt a b=true↔a<b:=by simp[lt]
theorem gT{a b:Int}:le a b=true↔a≤b:=by simp[le]
theorem iD{a b:Int}:gt a b=true↔b<a:=by simp[gt]
theorem gU{a b:Int}:ge a b=true↔b≤a:=by simp[ge]
theorem au{a b:Int}:eqi a b=true↔a=b:=by simp[eqi]
theorem cu{a b:Int}:nei a b=true↔a≠b:=by simp[nei]
theorem JM{a b:List UInt8}:eqs a b=true↔a=b:=by simp[eqs]
theorem UH{a b:List UInt8}:nes a b=true↔a≠b:=by simp[nes]
theorem Bl{n:Nat}:small n=true↔n≤1073741824:=by simp[small]
theorem rM(a b:Int):lt a b=decide (a<b):=rfl
theorem le_dec(a b:Int):le a b=decide (a≤b):=rfl
theorem Bn(a b:Int):gt a b=decide (b<a):=rfl
theorem ak7(a b:Int):ge a b=decide (b≤a):=rfl
theorem gy{b:Bool}{β:Type}{k:Option β}(h:b=true):need b k=k:=by unfold need;simp_all
theorem gZ{n:Nat}{β:Type}{k:Option β}(h:n≤1073741824):need (small n) k=k:=gy (Bl.2 h)
theorem d9{α:Type}{s:List α}{i:Nat}{c:α}(h:s[i]? = some c):at? s (i:Int)=some c:=by simp_all[at?]
theorem kI{α:Type}(c:α)(q:List α):at? (c::q) 0=some c:=rfl
theorem drop_nil{α:Type}{s:List α}{i:Nat}(h:s.drop i=[]):s.length≤i:=by simp_all
theorem tH{α:Type}{xs:List α}{i j:Nat}(h1:i≤j)(h2:j≤xs.length):cut xs (i:Int) (j:Int)=some ((xs.take j).drop i):=by simp_all[cut,if_pos]
theorem lH{α:Type}{xs:List α}{i:Nat}(h:i≤xs.length):cut xs (i:Int) (zF xs.length)=some (xs.drop i):=by simp_all[bu,tH,Nat.le_refl]
theorem Bp{α:Type}{xs:List α}{j:Nat}(h:j≤xs.length):cut xs 0 (j:Int)=some (xs.take j):=by have:=tH (xs:=xs) (Nat.zero_le j) h;simp_all
theorem JN{α:Type}(c:α)(q:List α):cut (c::q) 1 (zF (c::q).length)=some q:=by have:=lH (xs:=c::q) (i:=1) (by simp);simp_all
theorem Sw:∀(t:Ty) (x:Vl t),eqV t x x=true:=by
 have hl:∀{α:Type} {f:α->α->Bool},(∀a,f a a=true)->∀x:List α,eqL f x x=true:=fun h x=>by
  induction x with
  | nil=>rfl
  | cons a q ih=>grind[eqL]
 intro t
 induction t with
 | int k=>simp_all[eqV,eqi]
 | bool=>simp_all[eqV,eqb]
 | str=>simp_all[eqV,eqs]
 | sl t ih=>intro x;exact hl ih x
 | pr a b iha ihb=>simp_all[eqV]
 | wr a ih=>intro x;exact ih x
 | cl a ih=>intro x;exact ih x
 | un=>intro x;rfl
 | ar n t ih=>intro x;exact hl ih x
 | mp k v ihk ihv=>intro x;exact hl (fun a=>by simp_all) x
theorem eqAs_refl:∀(rs:List Ty) (x:As rs),av rs x x=true
 | [],_=>rfl
 | t::r,x=>by simp[av,Sw,eqAs_refl r]
theorem vN{R:Type}{eq:R->R->Bool}(h:∀x,eq x x=true)(a:Option R):amb eq [a,a]=a:=by cases a<;>simp[amb,De,h]
theorem aAR{R:Type}{eq:R->R->Bool}(h:∀x,eq x x=true)(a:Option R):amb eq [a,a,a]=a:=by cases a<;>simp[amb,De,h]
end Pl
end
noncomputable section
namespace Pl
open Go Ev Sx
theorem nX{σ R α β:Type}{F:(σ->Option R)->σ->Option R}{mk:Nat->β->σ}{xs:List α}{stp:β->α->β}{fin:β->Option R}(Inv:Nat->β->Prop)
  (hs:∀self i acc x,xs[i]? = some x->Inv i acc->F self (mk i acc)=self (mk (i+1) (stp acc x)))
  (hi:∀i acc x,xs[i]? = some x->Inv i acc->Inv (i+1) (stp acc x))
  (he:∀self acc,Inv xs.length acc->F self (mk xs.length acc)=fin acc) :
  ∀(k i:Nat) (acc:β) (n:Nat),i+k=xs.length->k<n->Inv i acc->ay F n (mk i acc)=fin ((xs.drop i).foldl stp acc)
 | _,_,_,0,_,hn,_=>by omega
 | 0,i,acc,n+1,h,_,hI=>by simp_all[kP,List.drop_length]
 | k+1,i,acc,n+1,h,hn,hI=>by have hx:xs[i]? = some (xs[i]'(by omega)):=zU (by omega);rw[kP,hs _ _ _ _ hx hI,nX Inv hs hi he k (i+1) _ n (by omega) (by omega) (hi _ _ _ hx hI),List.drop_eq_getElem_cons (show i<xs.length by omega)];rfl
def goL{α β R:Type}(a:β->α->(β->Option R)->Option R)(b:β->Option R):List α->β->Option R
 | [],acc=>b acc
 | x::r,acc=>a acc x (goL a b r)
theorem oH{σ R α β:Type}{F:(σ->Option R)->σ->Option R}{mk:Nat->β->σ}{xs:List α}{body:β->α->(β->Option R)->Option R}{fin:β->Option R}
  (hs:∀self i acc x,xs[i]? = some x->F self (mk i acc)=body acc x fun a=>self (mk (i+1) a))
  (he:∀self acc,F self (mk xs.length acc)=fin acc) :
  ∀(k i:Nat) (acc:β) (n:Nat),i+k=xs.length->k<n->ay F n (mk i acc)=goL body fin (xs.drop i) acc
 | _,_,_,0,_,hn=>by omega
 | 0,i,acc,n+1,h,_=>by
  have:i=xs.length:=by omega
  subst this;rw[kP,he,List.drop_length];rfl
 | k+1,i,acc,n+1,h,hn=>by
  have hx:xs[i]? = some (xs[i]'(by omega)):=zU (by omega);rw[kP,hs _ _ _ _ hx,List.drop_eq_getElem_cons (show i<xs.length by omega)];show _=body acc _ (goL body fin (xs.drop (i+1)))
  congr 1
  funext a;exact oH hs he k (i+1) a n (by omega) (by omega)
theorem kQ{α β:Type}(f:α->List β):∀(xs:List α) (out:List β),xs.foldl (fun o x=>o++f x) out=out++xs.flatMap f
 | [],out=>by simp
 | x::r,out=>by simp[kQ f r]
theorem wr8(x:Int):IntKind.u8.wrap x=x%256:=by rfl
theorem yt(x:Int):IntKind.u16.wrap x=x%65536:=by rfl
theorem jU(x:Int):cvt .u8 x=x%256:=wr8 x
theorem oI(x:Int):cvt .u16 x=x%65536:=yt x
theorem ajH(k:IntKind)(x:Int)(hk:8≤k.bits):shr k x 8=x / 256:=by
 unfold shr;have:min (8:Int).toNat k.bits=8:=by have:(8:Int).toNat=8:=rfl;omega
 rw[this,Int.fdiv_eq_ediv_of_nonneg _ (by decide)];rfl
theorem aPw(k:IntKind)(x:Int)(hk:8≤k.bits):shr k x 4=x / 16:=by unfold shr;grind
theorem UI(x:Int):0≤IntKind.u16.wrap x∧IntKind.u16.wrap x<65536:=by grind[yt]
theorem ak8(x:Int):0≤kK .u16 x 15∧kK .u16 x 15<16:=by
 have h:(BitVec.ofInt IntKind.u16.bits x &&& BitVec.ofInt IntKind.u16.bits 15).toNat≤15:=by rw[BitVec.toNat_and];exact Nat.le_trans Nat.and_le_right (by decide)
 grind[kK,yt]
end Pl
end
noncomputable section
namespace Pl
open Go Ev Sx
theorem jV{σ R:Type}{F:(σ->Option R)->σ->Option R}{mk:Nat->σ}{N:Nat}{r:Option R}(hs:∀self i,i<N->F self (mk i)=self (mk (i+1)))(he:∀self,F self (mk N)=r) :
  ∀(k i n:Nat),i+k=N->k<n->ay F n (mk i)=r
 | _,_,0,_,h=>by omega
 | 0,i,n+1,h,_=>by
  have:i=N:=by omega
  subst this;rw[kP,he]
 | k+1,i,n+1,h,hn=>by rw[kP,hs _ _ (by omega),jV hs he k (i+1) n (by omega) (by omega)]
theorem Fg{α:Type}(p:List α)(x y:α)(q:List α):(p++x::q).set p.length y=p++y::q:=by rw[List.set_append_right _ _ (Nat.le_refl _),Nat.sub_self];rfl
end Pl
end
noncomputable section
namespace Go.Proofs.Lx
open Go Ev Sx Pl
set_option maxRecDepth 100000
def uo:List Int:=[0,52225,55297,5120,61441,15360,10240,58369,40961,27648,30720,46081,20480,39937,34817,17408]
theorem asM:LJ ()=some (uo,()):=by rfl
def tab(i:Int):Int:=uo.getD i.toNat 0
theorem ak9{i:Int}(h0:0≤i)(h1:i<16):at? uo i=some (tab i):=by
 obtain⟨n,rfl⟩:=zN h0;have:n<uo.length:=by show n<16;omega
 simp_all[uo,zU,d9,tab,zP,zW]
def nib(s:Int):Int:=iA .u16 (shr .u16 s 4) (tab (kK .u16 s 15))
def qA(s c:Int):Int:=nib (nib (iA .u16 s (cvt .u16 c)))
theorem Km(s c:Int):0≤qA s c∧qA s c<65536:=UI _
theorem step_eq(s c:Int):LK (s,c,uo,())=some (qA s c,uo,()):=by show abI s c uo=_;unfold abI;have h1:=ak8 (iA .u16 s (cvt .u16 c));rw[gy (cr.2 h1.2),ak9 h1.1 h1.2,zD,zD];have h2:=ak8 (iA .u16 (shr .u16 (iA .u16 s (cvt .u16 c)) 4) (tab (kK .u16 (iA .u16 s (cvt .u16 c)) 15)));rw[gy (cr.2 h2.2),ak9 h2.1 h2.2,zD,zD];rfl
def sD(b:List Int):Int:=b.foldl qA 65535
theorem En(b:List Int):0≤sD b∧sD b<65536:=by
 unfold sD
 have:∀(b:List Int) (s:Int),(0≤s∧s<65536)->0≤b.foldl qA s∧b.foldl qA s<65536:=by
  intro b
  induction b with
  | nil=>simp
  | cons c r ih=>simp_all[Km]
 simp_all
theorem ala{b:List Int}(h:b.length<4611686018427387904):LQ (b,())=some (sD b,()):=by
 show LP QA b=_;unfold LP;rw[asM,zD];rw[gy (by rfl),gy (by rfl)];unfold QA;refine (nX (xs:=b) (mk:=fun i acc=>(b,acc,zF b.length,(i:Int),uo)) (stp:=qA) (fin:=fun acc=>some (acc,())) (fun _ _=>True) ?_ (fun _ _ _ _ _=>trivial) ?_ b.length 0 65535 _ (by omega) (by omega) trivial).trans ?_
 ·intro self i acc x hx _
  have hi:=(List.getElem?_eq_some_iff.1 hx).1;show Qz _ b acc (zF b.length) (i:Int) uo=_;unfold Qz;rw[if_pos (by grind[cr,bu]),d9 hx,zD,step_eq,zD,gJ (by omega)]
 ·simp_all[Qz,zF,Int,uo,if_neg,cr,bu]
 ·rfl
theorem UJ{n:Int}(h:0≤n):jC 0 n=true:=by simp_all[jC,decide_eq_true]
theorem oJ(n:Int):jC n n=true:=by unfold jC;simp
def two(x:Int):List Int:=[x / 256%256,x%256]
def sF(b:List Int):List Int:=b++[sD b%256,sD b / 256]
theorem put_eq{b:List Int}(h:b.length<1000000):LU (b,())=some (sF b,()):=by
 show abM b=_;unfold abM;have hs:=En b;have e:add .i64 (zF b.length) 2=((b.length+2:Nat):Int):=by rw[bu];exact lg (m:=2) (by omega)
 rw[ala (by omega),zD,e,gy (UJ (by omega)),gy (by grind[Bl]),gZ (by omega),gZ (by omega),jU,jU,ajH _ _ (by decide)];have e2:sD b / 256%256=sD b / 256:=by omega
 rw[e2];rfl
abbrev TA:=Int×Int×Int×Int×List Int×List Bool
structure OkA(a:TA):Prop where
 f0:0≤a.1
 f1:a.1≤255
 at0:0≤a.2.1
 at1:a.2.1≤65535
 m0:0≤a.2.2.1
 m1:a.2.2.1≤65535
 t0:0≤a.2.2.2.1
 t1:a.2.2.2.1≤65535
 w:∀x∈a.2.2.2.2.1,0≤x∧x≤65535
 lw:a.2.2.2.2.1.length≤100000
 lb:a.2.2.2.2.2.length≤100000
def shp(f:Int):Option (Int×Int×Int×Bool×Bool) :=
 if eqi 1 f=true then some (2000,0,0,false,false) else if eqi 2 f=true then some (2000,0,0,false,false) else if eqi 3 f=true then some (125,0,0,false,false) else
 if eqi 4 f=true then some (125,0,0,false,false) else if eqi 5 f=true then some (0,1,0,false,false) else if eqi 6 f=true then some (0,0,1,false,false) else
 if eqi 15 f=true then some (1968,1968,0,false,true) else if eqi 16 f=true then some (123,0,123,false,true) else if eqi 23 f=true then some (125,0,121,true,false) else none
def JO(f:Int):Int×Int×Int×Bool×Bool:=(shp f).getD (0,0,0,false,false)
theorem pR(f:Int):xI (f,())=some (JO f,(shp f).isSome,()):=rfl
theorem Bq(f:Int):((f=1∨f=2)∧shp f=some (2000,0,0,false,false))∨((f=3∨f=4)∧shp f=some (125,0,0,false,false))∨(f=5∧shp f=some (0,1,0,false,false)) ∨
  (f=6∧shp f=some (0,0,1,false,false))∨(f=15∧shp f=some (1968,1968,0,false,true))∨(f=16∧shp f=some (123,0,123,false,true))∨(f=23∧shp f=some (125,0,121,true,false)) ∨
  ((f≠1∧f≠2∧f≠3∧f≠4∧f≠5∧f≠6∧f≠15∧f≠16∧f≠23)∧shp f=none):=by
 by_cases h1:f=1
 ·subst h1;exact .inl ⟨.inl rfl,rfl⟩
 by_cases h2:f=2
 ·subst h2;exact .inl ⟨.inr rfl,rfl⟩
 by_cases h3:f=3
 ·subst h3;exact .inr (.inl ⟨.inl rfl,rfl⟩)
 by_cases h4:f=4
 ·subst h4;exact .inr (.inl ⟨.inr rfl,rfl⟩)
 by_cases h5:f=5
 ·subst h5;exact .inr (.inr (.inl ⟨rfl,rfl⟩))
 by_cases h6:f=6
 ·subst h6;exact .inr (.inr (.inr (.inl ⟨rfl,rfl⟩)))
 by_cases h7:f=15
 ·subst h7;exact .inr (.inr (.inr (.inr (.inl ⟨rfl,rfl⟩))))
 by_cases h8:f=16
 ·subst h8;exact .inr (.inr (.inr (.inr (.inr (.inl ⟨rfl,rfl⟩)))))
 by_cases h9:f=23
 ·subst h9;exact .inr (.inr (.inr (.inr (.inr (.inr (.inl ⟨rfl,rfl⟩))))))
 refine .inr (.inr (.inr (.inr (.inr (.inr (.inr ⟨⟨h1,h2,h3,h4,h5,h6,h7,h8,h9⟩,?_⟩))))));have e:∀n:Int,f≠n->¬ eqi n f=true:=fun n hn h=>hn (au.1 h).symm;simp_all[shp,if_neg]
def jo(a b:Int):Bool:=if eqi b 0=true then eqi a 0 else if ge a 1=true then le a b else false
theorem Br(n most:Int):Gn (n,most,())=some (jo n most,()):=by show WK n most=_;grind[WK,jo]
def rO(a:TA)(s:Int×Int×Int×Bool×Bool):Bool:=(s.2.2.2.1 || eqi a.2.2.2.1 0) && (jo a.2.2.1 s.1 && (jo (zF a.2.2.2.2.2.length) s.2.1 && (jo (zF a.2.2.2.2.1.length) s.2.2.1 &&
 (!s.2.2.2.2 || eqi (zF a.2.2.2.2.2.length+zF a.2.2.2.2.1.length) a.2.2.1))))
def jd(a:TA):Bool:=match shp a.1 with
 | none=>false
 | some s=>rO a s
theorem asN(t:Bool)(a1 a2 a3 a4:Int)(a5:List Int)(a6:List Bool)(s1 s2 s3:Int)(s4 s5:Bool) :
  WU t a1 a2 a3 a4 a5 a6 s1 s2 s3 s4 s5=some (!t && (!s5 || eqi (add .i64 (zF a6.length) (zF a5.length)) (cvt .i64 a3)),()):=by
 unfold WU WS;cases t<;>cases s5<;>rfl
theorem asO(t:Bool)(a1 a2 a3 a4:Int)(a5:List Int)(a6:List Bool)(s1 s2 s3:Int)(s4 s5:Bool) :
  OO t a1 a2 a3 a4 a5 a6 s1 s2 s3 s4 s5=some (!t && (jo (cvt .i64 a3) s1 && (jo (zF a6.length) s2 && (jo (zF a5.length) s3 && (!s5 || eqi (add .i64 (zF a6.length) (zF a5.length)) (cvt .i64 a3))))),()):=by
 unfold OO WR;rw[Br,Br,Br];simp only[zD,asN];grind
theorem right_eq{a:TA}(h:OkA a):xJ (a,())=some (jd a,()):=by
 show WT OO a=_;unfold WT;have h1:=h.m0;have h2:=h.m1;have h3:=h.lw;have h4:=h.lb;rw[pR,zD];simp only[asO];rw[gM (by omega) (by omega),iF (by grind) (by grind)];unfold jd JO
 cases shp a.1 with
 | none=>rfl
 | some s =>
  obtain⟨s1,s2,s3,s4,s5⟩:=s;unfold rO;have e:nei a.2.2.2.1 0=!eqi a.2.2.2.1 0:=rfl;grind
theorem alb{y:Int}:([cvt .u8 (shr .u16 y 8),cvt .u8 y]:List Int)=two y:=by rw[jU,jU,ajH _ _ (by decide)];rfl
theorem sP{l out:List Int}(h:out.length+2*l.length≤1000000):nA (l,out,())=some (out++l.flatMap two,()):=by
 show WZ OQ l out=_;unfold WZ OQ;refine (nX (xs:=l) (mk:=fun i acc=>(l,zF l.length,(i:Int),acc)) (stp:=fun o y=>o++two y) (fin:=fun acc=>some (acc,())) (fun i acc=>acc.length≤out.length+2*i) ?_ ?_ ?_ l.length 0 out _ (by omega) (by omega) (by omega)).trans ?_
 ·intro self i acc x hx hI
  have hi:=(List.getElem?_eq_some_iff.1 hx).1;show OP _ l (zF l.length) (i:Int) acc=_;unfold OP;rw[if_pos (by grind[cr,bu]),d9 hx,zD,gZ (by omega),alb,gJ (by omega)]
 ·grind[two]
 ·simp_all[OP,zF,Int,if_neg,cr,bu]
 ·rw[List.drop_zero,kQ]
end Go.Proofs.Lx
end
noncomputable section
namespace Pl
open Go Ev Sx
theorem pU{σ R:Type}{F:(σ->Option R)->σ->Option R}{mk:Nat->σ}{N:Nat}{r:Option R}(hs:∀self i,i<N->F self (mk i)=self (mk (i+1)))(he:∀self,F self (mk N)=r) :
  ∀(k i n:Nat),i+k=N->k<n->ay F n (mk i)=r
 | _,_,0,_,h=>by omega
 | 0,i,n+1,h,_=>by simp_all[kP]
 | k+1,i,n+1,h,hn=>by rw[kP,hs _ _ (by omega),pU hs he k (i+1) n (by omega) (by omega)]
theorem lW{i d:Nat}(hi:i<4611686018427387904):quo .i64 (i:Int) (d:Int)=((i / d:Nat):Int):=by unfold quo;have h:=Nat.div_le_self i d;grind[Int,Nat,Int.ofNat_tdiv,w64]
theorem jK{i d:Nat}:rem (i:Int) (d:Int)=((i%d:Nat):Int):=by rfl
theorem Kn{α:Type}{f:Nat->α}{init:List α}{i:Nat}(hi:i<init.length):((List.range i).map f++init.drop i).set i (f i)=(List.range (i+1)).map f++init.drop (i+1):=by rw[List.drop_eq_getElem_cons hi,List.set_append_right _ _ (by simp)];simp only[List.length_map,List.length_range,Nat.sub_self,List.set_cons_zero,List.range_succ,List.map_append,List.map_cons,List.map_nil,List.append_assoc,List.singleton_append]
end Pl
namespace Go.Proofs.Lx
open Go Ev Sx Pl
set_option maxRecDepth 100000
def ji:List Bool->Int
 | []=>0
 | b::r=>(if b=true then 1 else 0)+2*ji r
theorem uO:∀t:List Bool,0≤ji t∧ji t<2 ^ t.length
 | []=>by simp[ji]
 | b::r=>by have:=uO r;grind[List.length_cons,Int.pow_succ,ji]
theorem Fh(b:Bool):∀t:List Bool,ji (t++[b])=ji t+(if b=true then 2 ^ t.length else 0)
 | []=>by cases b<;>rfl
 | a::r=>by rw[List.cons_append];unfold ji;rw[Fh b r,List.length_cons,Int.pow_succ];cases b<;>simp<;>omega
theorem Ko:∀(t:List Bool) (k:Nat),ji t / 2 ^ k%2=(if t.getD k false=true then 1 else 0)
 | [],k=>by simp[ji]
 | b::r,0=>by unfold ji;cases b<;>simp<;>omega
 | b::r,k+1=>by
  have:=Ko r k;rw[List.getD_cons_succ,<- this]
  have e:((if b=true then (1:Int) else 0)+2*ji r) / 2 ^ (k+1)=ji r / 2 ^ k:=by
   rw[Int.pow_succ,Int.mul_comm (2 ^ k) 2,<- Int.ediv_ediv_of_nonneg (by decide)]
   congr 1
   split<;>omega
  show ((if b=true then (1:Int) else 0)+2*ji r) / 2 ^ (k+1)%2=_;rw[e]
def gH(n:Nat):Nat:=(n+7) / 8
def nL(a:List Bool)(b:Nat):List Int:=(List.range (gH a.length)).map fun c=>ji (((a.take b).drop (8*c)).take 8)
def iL(a:List Bool):List Int:=(List.range (gH a.length)).map fun b=>ji ((a.drop (8*b)).take 8)
theorem pV(bits:List Bool):(iL bits).length=gH bits.length:=by simp[iL]
theorem alc(bits:List Bool):nL bits bits.length=iL bits:=by unfold nL iL;simp
theorem ajI(bits:List Bool):nL bits 0=zE (gH bits.length) 0:=by simp_all[nL,List.take_zero,List.drop_nil,List.take_nil,ji,List.map_const']
theorem ajJ{bits:List Bool}{i j:Nat}{y:Bool}(hy:bits[i]? = some y):((bits.take (i+1)).drop (8*j)).take 8=((bits.take i).drop (8*j)).take 8++(if j=i / 8 then [y] else []):=by
 have hi:=(List.getElem?_eq_some_iff.1 hy).1;have e:bits.take (i+1)=bits.take i++[y]:=by grind[List.take_add_one]
 have hl:(bits.take i).length=i:=by grind
 by_cases h:j=i / 8
 ·rw[if_pos h,e,List.drop_append_of_le_length (by omega)]
  grind[zY,List.length_drop,List.length_singleton,List.take_of_length_le]
 ·rw[if_neg h,List.append_nil]
  grind[List.drop_of_length_le]
theorem ajK{bits:List Bool}{i:Nat}{y:Bool}(hy:bits[i]? = some y) :
  ∃v,(nL bits i)[i / 8]? = some v∧0≤v∧v<2 ^ (i%8)∧nL bits (i+1)=(if y=true then (nL bits i).set (i / 8) (v+2 ^ (i%8)) else nL bits i):=by
 have hi:=(List.getElem?_eq_some_iff.1 hy).1;have hm:i / 8<gH bits.length:=by grind[gH]
 have hlen:((((bits.take i).drop (8*(i / 8))).take 8)).length=i%8:=by grind
 refine⟨ji (((bits.take i).drop (8*(i / 8))).take 8),?_,(uO _).1,?_,?_⟩
 ·simp_all[nL,List.getElem?_map,List.getElem?_range]
 ·have:=(uO (((bits.take i).drop (8*(i / 8))).take 8)).2
  simp_all
 ·apply List.ext_getElem?
  intro j;have hj:∀q,(nL bits q)[j]? = if j<gH bits.length then some (ji (((bits.take q).drop (8*j)).take 8)) else none:=by grind[nL,List.getElem?_range,List.getElem?_eq_none]
  rw[hj];by_cases hjm:j<gH bits.length
  ·rw[if_pos hjm,ajJ hy]
   by_cases hji:j=i / 8
   ·rw[if_pos hji,Fh]
    grind
   grind
  grind
theorem ayH{v:Int}{k:Nat}(h0:0≤v)(h1:v<2 ^ k)(hk:k<8):bor .u8 v (shl .u8 1 (k:Int))=v+2 ^ k:=by
 have key:∀(k:Fin 8) (v:Fin 128),v.1<2 ^ k.1->bor .u8 (v.1:Int) (shl .u8 1 (k.1:Int))=(v.1:Int)+2 ^ k.1:=by decide +kernel
 obtain⟨n,rfl⟩:=zN h0;have h2:n<2 ^ k:=by grind
 have h3:2 ^ k≤2 ^ 7:=Nat.pow_le_pow_right (by decide) (by omega);exact key ⟨k,hk⟩ ⟨n,by omega⟩ h2
theorem UK{bits:List Bool}(h:bits.length≤100000):Gr (bits,())=some (iL bits,()):=by
 show Lg OT bits=_
 have hK:OT bits (gH bits.length:Int)=some (iL bits,()):=by
  unfold OT Xd;have hN:gH bits.length≤100000:=by unfold gH;omega
  rw[gy (by rw[gU];omega),gy (oJ _),zP,gZ (by omega)];unfold Lh;rw[<- ajI,<- alc];refine pU (mk:=fun i=>(bits,zF bits.length,(i:Int),nL bits i)) (N:=bits.length) ?_ ?_ bits.length 0 _ (by omega) (by omega)
  ·intro self i hi
   have hy:bits[i]? = some (bits[i]'hi):=zU hi;obtain⟨v,hv,h0,h1,e⟩:=ajK hy;show Gq _ bits (zF bits.length) (i:Int) (nL bits i)=_;unfold Gq;have hq:quo .i64 (i:Int) 8=((i / 8:Nat):Int):=lW (d:=8) (by omega);have hr:rem (i:Int) 8=((i%8:Nat):Int):=jK (d:=8);rw[if_pos (by rw[cr,bu];omega),d9 hy,zD,hq,hr,d9 hv,gJ (by omega)];simp only[zD];rw[gy (by rw[gU];omega),ayH h0 h1 (Nat.mod_lt _ (by decide)),zP,e];split<;>rfl
  ·intro self
   show Gq _ bits (zF bits.length) (bits.length:Int) (nL bits bits.length)=_;unfold Gq;rw[if_neg (by rw[cr,bu];omega)]
 unfold Lg;have hq:quo .i64 (zF bits.length) 8=((bits.length / 8:Nat):Int):=lW (d:=8) (by omega);rw[hq];split
 ·rename_i h1
  rw[iD,bu,show rem (bits.length:Int) 8=((bits.length%8:Nat):Int) from jK (d:=8)]at h1;rw[gJ (by omega)];have:bits.length / 8+1=gH bits.length:=by unfold gH;omega
  rw[this];exact hK
 ·rename_i h1
  rw[iD,bu,show rem (bits.length:Int) 8=((bits.length%8:Nat):Int) from jK (d:=8)]at h1;have:bits.length / 8=gH bits.length:=by unfold gH;omega
  rw[this];exact hK
def kW(y:Int)(k:Nat):Bool:=eqi (kK .u8 (shr .u8 y (k:Int)) 1) 1
theorem UL{y:Int}{k:Nat}(h0:0≤y)(h1:y<256)(hk:k<8):kW y k=decide (y / 2 ^ k%2=1):=by
 have key:∀(k:Fin 8) (v:Fin 256),kW (v.1:Int) k.1=decide ((v.1:Int) / 2 ^ k.1%2=1):=by decide +kernel
 obtain⟨n,rfl⟩:=zN h0;exact key ⟨k,hk⟩ ⟨n,by omega⟩
def jM(b:List Int):List Bool:=(List.range (8*b.length)).map fun i=>kW (b.getD (i / 8) 0) (i%8)
theorem Kq{b:List Int}(h:b.length≤100000):Gv (b,())=some (jM b,()):=by
 show XQ O8 b=_;unfold XQ;have hm:mul .i64 8 (zF b.length)=((8*b.length:Nat):Int):=by grind[kZ,bu]
 rw[hm,gy (by rfl),gy (oJ _),zP,gZ (by omega),kC];unfold O8 jM;refine (pU (mk:=fun i=>(b,zF (8*b.length),(i:Int),(List.range i).map (fun i=>kW (b.getD (i / 8) 0) (i%8))++(zE (8*b.length) false).drop i)) (N:=8*b.length) ?_ ?_ (8*b.length) 0 _ (by omega) (by omega))
 ·intro self i hi
  show O7 _ b (zF (8*b.length)) (i:Int) _=_;unfold O7;have hq:quo .i64 (i:Int) 8=((i / 8:Nat):Int):=lW (d:=8) (by omega);have hr:rem (i:Int) 8=((i%8:Nat):Int):=jK (d:=8);have hlt:i / 8<b.length:=by omega
  have hb:b[i / 8]? = some (b[i / 8]'hlt):=zU hlt;have hlen:((List.range i).map (fun i=>kW (b.getD (i / 8) 0) (i%8))++(zE (8*b.length) false).drop i).length=8*b.length:=by grind
  have ho:((List.range i).map (fun i=>kW (b.getD (i / 8) 0) (i%8))++(zE (8*b.length) false).drop i)[i]? = some (((List.range i).map (fun i=>kW (b.getD (i / 8) 0) (i%8))++(zE (8*b.length) false).drop i)[i]'(by omega)):=zU (by omega);rw[if_pos (by grind[cr,bu]),hq,hr,d9 hb,zD,gy (by rfl),d9 ho,zD,zD,gJ (by omega),zP];grind[eqi,kK,u8,shr,Nat,Int,kW,Kn]
 simp_all[O7,zF,Nat,Int,if_neg,cr,bu,List.drop_of_length_le,List.append_nil]
end Go.Proofs.Lx
end
noncomputable section
namespace Go.Proofs.Lx
open Go Ev Sx Pl
set_option maxRecDepth 100000
inductive RA:TA->Prop where
 | bits (f p n:Int) (hf:f=1∨f=2) (h1:1≤n) (h2:n≤2000):RA (f,p,n,0,[],[])
 | words (f p n:Int) (hf:f=3∨f=4) (h1:1≤n) (h2:n≤125):RA (f,p,n,0,[],[])
 | coil (p:Int) (b:Bool):RA (5,p,0,0,[],[b])
 | word (p:Int) (x:Int):RA (6,p,0,0,[x],[])
 | coils (p:Int) (l:List Bool) (h1:1≤l.length) (h2:l.length≤1968):RA (15,p,(l.length:Int),0,[],l)
 | regs (p:Int) (l:List Int) (h1:1≤l.length) (h2:l.length≤123):RA (16,p,(l.length:Int),0,l,[])
 | swap (p n t:Int) (l:List Int) (h1:1≤l.length) (h2:l.length≤121) (h3:1≤n) (h4:n≤125):RA (23,p,n,t,l,[])
theorem lX{n:Int}(h:jo n 0=true):n=0:=au.1 h
theorem p8{n m:Int}(hm:0<m)(h:jo n m=true):1≤n∧n≤m:=by unfold jo at h;rw[if_neg (by grind[au])]at h;simp_all[gU,gT]
theorem uq{α:Type}{l:List α}(h:zF l.length=0):l=[]:=by simp_all
theorem len1{α:Type}{l:List α}(h:1≤zF l.length∧zF l.length≤1):∃x,l=[x]:=by grind[bu,List.length_eq_one_iff]
theorem kM{a:TA}(hr:jd a=true):RA a:=by
 obtain⟨f,p,n,t,ws,bs⟩:=a;unfold jd at hr;simp only at hr;rcases Bq f with ⟨hf,e⟩ | ⟨hf,e⟩ | ⟨hf,e⟩ | ⟨hf,e⟩ | ⟨hf,e⟩ | ⟨hf,e⟩ | ⟨hf,e⟩ | ⟨hf,e⟩<;>rw[e]at hr<;>simp only[rO,zO,Bool.false_or,Bool.true_or,Bool.not_false,Bool.not_true,true_and,and_true]at hr
 ·obtain⟨h1,h2,h3,h4⟩:=hr
  have h2:=p8 (by decide) h2;rw[au.1 h1,uq (lX h3),uq (lX h4)];exact .bits f p n hf h2.1 h2.2
 ·obtain⟨h1,h2,h3,h4⟩:=hr
  have h2:=p8 (by decide) h2;rw[au.1 h1,uq (lX h3),uq (lX h4)];exact .words f p n hf h2.1 h2.2
 ·obtain⟨h1,h2,h3,h4⟩:=hr
  obtain⟨b,rfl⟩:=len1 (p8 (by decide) h3);rw[au.1 h1,lX h2,uq (lX h4),hf];exact .coil p b
 ·obtain⟨h1,h2,h3,h4⟩:=hr
  obtain⟨b,rfl⟩:=len1 (p8 (by decide) h4);rw[au.1 h1,lX h2,uq (lX h3),hf];exact .word p b
 ·obtain⟨h1,h2,h3,h4,h5⟩:=hr
  have h3:=p8 (by decide) h3;have e4:=uq (lX h4);subst e4;rw[au.1 h1,<- au.1 h5,hf];rw[bu]at h3;exact .coils p bs (by omega) (by omega)
 ·obtain⟨h1,h2,h3,h4,h5⟩:=hr
  have h4:=p8 (by decide) h4;have e3:=uq (lX h3);subst e3;have e5:(ws.length:Int)=n:=by simp_all[au]
  rw[au.1 h1,<- e5,hf];rw[bu]at h4;exact .regs p ws (by omega) (by omega)
 ·obtain⟨h2,h3,h4⟩:=hr
  have h2:=p8 (by decide) h2;have h4:=p8 (by decide) h4;rw[uq (lX h3),hf];rw[bu]at h4;exact .swap p n t ws (by omega) (by omega) h2.1 h2.2
 grind
def jc(a:TA):List Int :=
 if a.1=5 then a.1::two a.2.1++two (if a.2.2.2.2.2.headD false=true then 65280 else 0)
 else if a.1=6 then a.1::two a.2.1++a.2.2.2.2.1.flatMap two
 else if a.1=15 then a.1::two a.2.1++two a.2.2.1++[(gH a.2.2.2.2.2.length:Int)]++iL a.2.2.2.2.2
 else if a.1=16 then a.1::two a.2.1++two a.2.2.1++[2*(a.2.2.2.2.1.length:Int)]++a.2.2.2.2.1.flatMap two
 else if a.1=23 then a.1::two a.2.1++two a.2.2.1++two a.2.2.2.1++two (a.2.2.2.2.1.length:Int)++[2*(a.2.2.2.2.1.length:Int)]++a.2.2.2.2.1.flatMap two
 else a.1::two a.2.1++two a.2.2.1
theorem yu(l:List Int):(l.flatMap two).length=2*l.length:=by
 induction l with
 | nil=>rfl
 | cons x r ih=>grind[zY,two]
theorem JQ(x:Int):(two x).length=2:=rfl
theorem Sy{a:TA}(h:RA a):5≤(jc a).length∧(jc a).length≤253:=by
 cases h with
 | bits f p n hf h1 h2=>rcases hf with rfl | rfl<;>exact⟨Nat.le.refl,(by decide:5≤253)⟩
 | words f p n hf h1 h2=>rcases hf with rfl | rfl<;>exact⟨Nat.le.refl,(by decide:5≤253)⟩
 | coil p b=>exact⟨Nat.le.refl,(by decide:5≤253)⟩
 | word p x=>exact⟨Nat.le.refl,(by decide:5≤253)⟩
 | coils p l h1 h2 =>
  show 5≤((15:Int)::two p++two _++[_]++iL l).length∧((15:Int)::two p++two _++[_]++iL l).length≤253;grind[zY,List.length_cons,List.length_nil,pV,JQ,gH]
 | regs p l h1 h2 =>
  show 5≤((16:Int)::two p++two _++[_]++l.flatMap two).length∧((16:Int)::two p++two _++[_]++l.flatMap two).length≤253;grind[zY,List.length_cons,List.length_nil,yu,JQ]
 | swap p n t l h1 h2 h3 h4 =>
  show 5≤((23:Int)::two p++two _++two _++two _++[_]++l.flatMap two).length∧((23:Int)::two p++two _++two _++two _++[_]++l.flatMap two).length≤253;grind[zY,List.length_cons,List.length_nil,yu,JQ]
abbrev BO:=Option bW
theorem bK5(p:Int)(b:Bool)(out:List Int):Aa 5 p 0 0 [] [b] 0 1 0 false false out=zC (nA ([if b=true then 65280 else 0],out,())) fun y=>(some (y.1,0,()):BO):=by cases b<;>rfl
theorem bK6(p x:Int)(out:List Int):Aa 6 p 0 0 [x] [] 0 0 1 false false out=zC (nA ([x],out,())) fun y=>(some (y.1,0,()):BO):=rfl
theorem aPx(p n:Int)(l:List Bool)(out:List Int):Aa 15 p n 0 [] l 1968 1968 0 false true out =
  zC (Gr (l,())) fun y=>need (small (out.length+1)) (need (small ((out++[zF (y.1.length%256)]).length+y.1.length)) (some (out++[zF (y.1.length%256)]++y.1,0,()):BO)):=rfl
theorem aPy(p n:Int)(l out:List Int):Aa 16 p n 0 l [] 123 0 123 false true out =
  need (small (out.length+1)) (zC (nA (l,out++[cvt .u8 (mul .i64 2 (zF l.length))],())) fun y=>(some (y.1,0,()):BO)):=rfl
theorem aPz(p n t:Int)(l out:List Int):Aa 23 p n t l [] 125 0 121 true false out =
  zC (nA ([t,zF (l.length%65536)],out,())) fun y=>need (small (y.1.length+1)) (zC (nA (l,y.1++[cvt .u8 (mul .i64 2 (zF l.length))],())) fun y=>(some (y.1,0,()):BO)):=rfl
theorem MQ(x:Int){out:List Int}(h:out.length≤900000):nA ([x],out,())=some (out++two x,()):=by grind[sP]
theorem ajL{a:TA}(h:OkA a):Ab (a,())=if jd a=true then some (jc a,0,()) else some ([],12,()):=by
 show Xl Aa a=_;unfold Xl;rw[right_eq h,zD]
 cases hr:jd a with
 | false=>rfl
 | true =>
  have hra:=kM hr;rw[if_neg (by decide),if_pos rfl,pR,zD];clear hr h;have hin:∀f p:Int,nA ([p],[f],())=some (f::two p,()):=fun f p=>MQ p (by simp);have hin2:∀f p n:Int,nA ([n],f::two p,())=some (f::two p++two n,()):=fun f p n=>MQ n (by simp[two])
  cases hra with
  | bits f p n hf h1 h2 =>
   rcases hf with rfl | rfl<;>rw[hin,zD,if_pos (by rfl),hin2,zD]
   ·rfl
   rfl
  | words f p n hf h1 h2 =>
   rcases hf with rfl | rfl<;>rw[hin,zD,if_pos (by rfl),hin2,zD]
   ·rfl
   rfl
  | coil p b =>
   rw[hin,zD,if_neg (by show ¬ gt 0 0=true;decide)];exact (bK5 p b _).trans (by rw[MQ _ (by simp[two]),zD];rfl)
  | word p x =>
   rw[hin,zD,if_neg (by show ¬ gt 0 0=true;decide)];exact (bK6 p x _).trans (by simp_all[MQ,two,zD,jc])
  | coils p l h1 h2 =>
   rw[hin,zD,if_pos (by rfl),hin2,zD];refine (aPx p _ l _).trans ?_;rw[UK (by omega),zD,gZ (by simp[two]),gZ (by grind[two,pV,gH])];refine congrArg (fun x=>some (x,0,())) ?_;have e:gH l.length%256=gH l.length:=by grind[gH]
   rw[pV,e];rfl
  | regs p l h1 h2 =>
   rw[hin,zD,if_pos (by rfl),hin2,zD];refine (aPy p _ l _).trans ?_;rw[gZ (by simp[two]),kZ (by grind) (by grind),jU,sP (by grind[two]),zD];refine congrArg (fun x=>some (x,0,())) ?_;have e:(2*zF l.length)%256=2*(l.length:Int):=by grind
   rw[e];rfl
  | swap p n t l h1 h2 h3 h4 =>
   rw[hin,zD,if_pos (by rfl),hin2,zD];refine (aPz p n t l _).trans ?_;rw[sP (by simp[two]),zD,gZ (by simp[two]),kZ (by grind) (by grind),jU,sP (by grind[two]),zD];refine congrArg (fun x=>some (x,0,())) ?_;have e:(2*zF l.length)%256=2*(l.length:Int):=by grind
   have e2:zF (l.length%65536)=(l.length:Int):=by grind
   simp_all[jc]
end Go.Proofs.Lx
end
noncomputable section
namespace Pl
open Go Ev Sx
theorem Bt{α β:Type}{s1:List α}{s2:List β}(h:s1.length=s2.length){i:Nat}{x:α×β}(hx:(s1.zip s2)[i]? = some x):s1[i]? = some x.1∧s2[i]? = some x.2:=by grind
theorem wo{α:Type}[DecidableEq α]{ne:α->α->Bool}(hne:∀a b,ne a b=!decide (a=b)):∀(s1 s2:List α),s1.length=s2.length ->
  goL (R:=Bool×Unit) (fun (_:Unit) (x:α×α) k=>if ne x.1 x.2=true then some (false,()) else k ()) (fun _=>some (true,())) (s1.zip s2) ()=some (decide (s1=s2),())
 | [],[],_=>rfl
 | a::r,b::q,h=>by
  rw[List.zip_cons_cons];show (if ne a b=true then some (false,()) else goL _ _ (r.zip q) ())=_;rw[hne];by_cases e:a=b
  ·subst e
   rw[if_neg (by simp),wo hne r q (by simp_all)];simp
  simp_all
end Pl
namespace Go.Proofs.Lx
open Go Ev Sx Pl
set_option maxRecDepth 100000
theorem uP{s1 s2:List Int}(h:s1.length≤1000000):Ad (s1,s2,())=some (decide (s1=s2),()):=by
 show Xw O1 s1 s2=_;unfold Xw;by_cases hl:s1.length=s2.length
 ·rw[if_neg (by simp_all[cu,bu])]
  unfold O1;have hz:(s1.zip s2).length=s1.length:=by simp_all
  rw[<- wo (ne:=nei) (fun a b=>by rfl) s1 s2 hl];refine oH (xs:=s1.zip s2) (mk:=fun i _=>(s1,s2,zF s1.length,(i:Int))) ?_ ?_ s1.length 0 () _ (by omega) (by omega)
  ·intro self i acc x hx
   have hi:=(List.getElem?_eq_some_iff.1 hx).1;obtain⟨h1,h2⟩:=Bt hl hx;show O0 _ s1 s2 (zF s1.length) (i:Int)=_;unfold O0;rw[if_pos (by grind[cr,bu]),d9 h1,zD,d9 h2,zD,gJ (by omega)]
  simp_all[O0,zF,Nat,Int,if_neg,cr,bu]
 ·rw[if_pos (by grind[cu,bu]),decide_eq_false (fun e=>hl (by rw[e]))]
theorem Kr{s1 s2:List Bool}(h:s1.length≤1000000):Qn (s1,s2,())=some (decide (s1=s2),()):=by
 show aa7 Qm s1 s2=_;unfold aa7;by_cases hl:s1.length=s2.length
 ·rw[if_neg (by simp_all[cu,bu])]
  unfold Qm;have hz:(s1.zip s2).length=s1.length:=by simp_all
  rw[<- wo (ne:=neb) (fun a b=>by rfl) s1 s2 hl];refine oH (xs:=s1.zip s2) (mk:=fun i _=>(s1,s2,zF s1.length,(i:Int))) ?_ ?_ s1.length 0 () _ (by omega) (by omega)
  ·intro self i acc x hx
   have hi:=(List.getElem?_eq_some_iff.1 hx).1;obtain⟨h1,h2⟩:=Bt hl hx;show Ql _ s1 s2 (zF s1.length) (i:Int)=_;unfold Ql;rw[if_pos (by grind[cr,bu]),d9 h1,zD,d9 h2,zD,gJ (by omega)]
  simp_all[Ql,zF,Nat,Int,if_neg,cr,bu]
 ·rw[if_pos (by grind[cu,bu]),decide_eq_false (fun e=>hl (by rw[e]))]
abbrev BB:=Option aD
theorem gY{p:Prop}[Decidable p]{b:Bool}{k:BB}{q:Bool}(h:b=true↔p)(hk:p->k=some (q,())):(if b=true then k else some (false,()))=some (decide p && q,()):=by grind
instance decA5:DecidableEq (Int×Int×Int×List Int×List Bool):=inferInstance
instance decA:DecidableEq TA:=inferInstance
abbrev TP:=Int×Int×Int×Int×Bool×TA×Int×Int×Int
instance decP1:DecidableEq (TA×Int×Int×Int):=inferInstance
instance decP2:DecidableEq (Int×Bool×TA×Int×Int×Int):=inferInstance
instance decP:DecidableEq TP:=inferInstance
theorem JR{a b:Bool}:eqb a b=true↔a=b:=by cases a<;>cases b<;>decide
theorem pW{s:List Int}(h:s.length≤1000000):oO (s,())=some (s,()):=by
 show ano s=_;unfold ano;split
 ·rename_i h0
  rw[uq (au.1 h0)];rfl
 grind[gZ]
theorem ald{s:List Bool}(h:s.length≤1000000):GZ (s,())=some (s,()):=by
 show aoQ s=_;unfold aoQ;split
 ·rename_i h0
  rw[uq (au.1 h0)];rfl
 grind[gZ]
def qB(b c:Int)(a:List Int):List Int:=[b / 256%256,b%256,0,0,0,(a.length+1:Nat)%256,c]++a
theorem aOo{tx unit:Int}{pdu:List Int}(h1:1≤pdu.length)(h2:pdu.length≤253):LY ((tx,unit,pdu),())=some (qB tx unit pdu,0,()):=by show acu acv (tx,unit,pdu)=_;unfold acu;rw[if_neg (by grind[cr,bu])];show acs (zF pdu.length) (gt (zF pdu.length) 253) (tx,unit,pdu)=_;unfold acs;dsimp only;have e:add .i64 7 (zF pdu.length)=((7+pdu.length:Nat):Int):=lg (n:=7) (by omega);rw[if_neg (by grind[iD,bu]),e,gy (UJ (by omega)),gy (by grind[Bl]),gZ (by omega),gZ (by omega),jU,jU,jU,ajH _ _ (by decide),bu,gJ (by omega)];rfl
theorem ayI{unit:Int}{pdu:List Int}(hu:1≤unit)(hu2:unit≤247)(h1:1≤pdu.length)(h2:pdu.length≤253):LV (unit,pdu,())=some (sF (unit::pdu),0,()):=by
 show abS abT unit pdu=_;unfold abS;have e:DU (unit,())=some (true,()):=by show Qy unit=_;simp_all[Qy,if_pos,gU,gT]
 rw[e,zD,if_neg (by decide),if_neg (by grind[cr,bu])];show abR unit pdu (gt (zF pdu.length) 253)=_;unfold abR;rw[if_neg (by grind[iD,bu]),gZ (by omega),put_eq (by grind),zD]
structure OkP(p:TP):Prop where
 u0:1≤p.1
 u1:p.1≤247
 l:p.2.1=1∨p.2.1=2
 t0:1≤p.2.2.1
 t1:p.2.2.1≤100000
 r0:0≤p.2.2.2.1
 r1:p.2.2.2.1≤1000
 a:OkA p.2.2.2.2.2.1
 x0:0≤p.2.2.2.2.2.2.1
 x1:p.2.2.2.2.2.2.1≤65535
def zA:TA:=(0,0,0,0,[],[])
end Go.Proofs.Lx
end
noncomputable section
namespace Pl
open Go Ev Sx
theorem aPA{y:Int}(h0:0≤y)(h1:y≤255):shl .u16 (cvt .u16 y) 8=256*y:=by
 rw[oI];unfold shl;have:min (8:Int).toNat IntKind.u16.bits=8:=by decide
 grind[yt]
theorem aAS{a b:Int}(ha:0≤a)(ha2:a≤255)(hb:0≤b)(hb':b≤255):bor .u16 (256*a) b=256*a+b:=by
 obtain⟨n,rfl⟩:=zN ha;obtain⟨m,rfl⟩:=zN hb;unfold bor;rw[yt]
 have e1:(BitVec.ofInt IntKind.u16.bits (256*(n:Int))).toNat=256*n:=by
  rw[BitVec.toNat_ofInt];have:((2 ^ IntKind.u16.bits:Nat):Int)=65536:=by decide
  grind
 have e2:(BitVec.ofInt IntKind.u16.bits (m:Int)).toNat=m:=by
  rw[BitVec.toNat_ofInt];have:((2 ^ IntKind.u16.bits:Nat):Int)=65536:=by decide
  grind
 rw[BitVec.toNat_or,e1,e2];have e3:256*n ||| m=256*n+m:=by have:=Nat.two_pow_add_eq_or_of_lt (i:=8) (b:=m) (by omega) n;simp_all
 omega
theorem asP{a b:Int}:bor .u16 a b=bor .u16 b a:=by grind[bor,BitVec.or_comm]
def iY(y z:Int):Int:=bor .u16 (shl .u16 (cvt .u16 y) 8) (cvt .u16 z)
theorem yw(y z:Int):0≤iY y z∧iY y z<65536:=UI _
theorem Ci{y z:Int}(h0:0≤y)(h1:y≤255)(h2:0≤z)(h3:z≤255):iY y z=256*y+z:=by unfold iY;rw[aPA h0 h1,oI];grind[aAS]
def iC(b:List Int):List Int:=(List.range (b.length / 2)).map fun i=>iY (b.getD (2*i) 0) (b.getD (2*i+1) 0)
end Pl
namespace Go.Proofs.Lx
open Go Ev Sx Pl
set_option maxRecDepth 100000
abbrev TR:=Int×Int×List Bool×List Int×Int×Int
instance decR5:DecidableEq (Int×List Bool×List Int×Int×Int):=inferInstance
instance decR:DecidableEq TR:=inferInstance
def zR:TR:=(0,0,[],[],0,0)
structure SmR(r:TR):Prop where
 b:r.2.2.1.length≤100000
 w:r.2.2.2.1.length≤100000
theorem qR{a b:TR}(h:SmR a):xV (a,b,())=some (decide (a=b),()):=by show aa8 a b=_;unfold aa8;have h1:=h.b;have h2:=h.w;rw[uP (by omega),zD,Kr (by omega),zD];obtain⟨a1,a2,a3,a4,a5,a6⟩:=a;obtain⟨b1,b2,b3,b4,b5,b6⟩:=b;rw[gY (au) fun _=>gY (au) fun _=>gY (au) fun _=>gY (au) fun _=>gY (p:=a3=b3) (by simp) fun _=>rfl];refine congrArg (fun x=>some (x,())) ?_;grind
def exR(r:TR):Bool:=decide (r.1<128) && (decide (1≤r.2.1) && (decide (r.2.1≤4) && decide (r=(rem r.1 128,r.2.1,[],[],0,0))))
def uw(r:TR):Bool:=decide (8≤r.2.2.1.length) && (decide (r.2.2.1.length≤2000) && (decide (r.2.2.1.length%8=0) && decide (r=(r.1,0,r.2.2.1,[],0,0))))
def pI(r:TR):Bool:=decide (1≤r.2.2.2.1.length) && (decide (r.2.2.2.1.length≤125) && decide (r=(r.1,0,[],r.2.2.2.1,0,0)))
def obR(r:TR):Bool:=decide (r.2.2.1.length=1) && decide (r=(r.1,0,r.2.2.1,[],r.2.2.2.2.1,0))
def owR(r:TR):Bool:=decide (r.2.2.2.1.length=1) && decide (r=(r.1,0,[],r.2.2.2.1,r.2.2.2.2.1,0))
def ctR(k:Int)(r:TR):Bool:=decide (1≤r.2.2.2.2.2) && (decide (r.2.2.2.2.2≤k) && decide (r=(r.1,0,[],[],r.2.2.2.2.1,r.2.2.2.2.2)))
theorem aAT{r:TR}(h:SmR r):Hq ((),r,())=some (exR r,()):=by show apH () r=_;unfold apH exR;have e:ko (r.1,r.2.1,())=some ((rem r.1 128,r.2.1,[],[],0,0),()):=rfl;rw[e,zD,qR h,zD];rw[gY (cr) fun _=>gY (gU) fun _=>gY (gT) fun _=>rfl]
theorem ayJ{r:TR}(h:SmR r):xW ((),r,())=some (uw r,()):=by show apI () r=_;unfold apI uw;rw[qR h,zD];rw[gY (p:=8≤r.2.2.1.length) (by grind[gU,bu]) fun _=>gY (p:=r.2.2.1.length≤2000) (by grind[gT,bu]) fun _=>gY (p:=r.2.2.1.length%8=0) (by grind[au,bu,rem,Int,Nat,jK]) fun _=>rfl]
theorem asQ{r:TR}(h:SmR r):sj ((),r,())=some (pI r,()):=by show apK () r=_;unfold apK pI;rw[qR h,zD];rw[gY (p:=1≤r.2.2.2.1.length) (by grind[gU,bu]) fun _=>gY (p:=r.2.2.2.1.length≤125) (by grind[gT,bu]) fun _=>rfl]
theorem aAU{r:TR}(h:SmR r):Hr ((),r,())=some (obR r,()):=by show apO () r=_;unfold apO obR;rw[qR h,zD];rw[gY (p:=r.2.2.1.length=1) (by grind[au,bu]) fun _=>rfl]
theorem aAV{r:TR}(h:SmR r):Ht ((),r,())=some (owR r,()):=by show apT () r=_;unfold apT owR;rw[qR h,zD];rw[gY (p:=r.2.2.2.1.length=1) (by grind[au,bu]) fun _=>rfl]
theorem ale{r:TR}{k:Int}(h:SmR r):xY (k,r,())=some (ctR k r,()):=by show apW k r=_;unfold apW ctR;rw[qR h,zD];rw[gY (gU) fun _=>gY (gT) fun _=>rfl]
def nY(r:TR):Bool:=if nei r.2.1 0=true then exR r else if eqi r.1 1=true then uw r else if eqi r.1 2=true then uw r else if eqi r.1 3=true then pI r else if eqi r.1 4=true then pI r else if eqi r.1 23=true then pI r else
 if eqi r.1 5=true then obR r else if eqi r.1 6=true then owR r else if eqi r.1 15=true then ctR 1968 r else if eqi r.1 16=true then ctR 123 r else false
def exB(r:TR):List Int:=[add .u8 r.1 128,r.2.1]
def ajM(r:TR):List Int:=r.1::(gH r.2.2.1.length:Int)%256::iL r.2.2.1
def Cj(r:TR):List Int:=[r.1,2*(r.2.2.2.1.length:Int)%256]++r.2.2.2.1.flatMap two
def obB(r:TR):List Int:=r.1::two r.2.2.2.2.1++two (if r.2.2.1.headD false=true then 65280 else 0)
def owB(r:TR):List Int:=r.1::two r.2.2.2.2.1++two (r.2.2.2.1.headD 0)
def ctB(r:TR):List Int:=r.1::two r.2.2.2.2.1++two r.2.2.2.2.2
theorem rC{l out:List Int}(h:out.length+2*l.length≤1000000):Az (l,out,())=some (out++l.flatMap two,()):=by
 show abb Qq l out=_;unfold abb Qq;refine (nX (xs:=l) (mk:=fun i acc=>(l,zF l.length,(i:Int),acc)) (stp:=fun o y=>o++two y) (fin:=fun acc=>some (acc,())) (fun i acc=>acc.length≤out.length+2*i) ?_ ?_ ?_ l.length 0 out _ (by omega) (by omega) (by omega)).trans ?_
 ·intro self i acc x hx hI
  have hi:=(List.getElem?_eq_some_iff.1 hx).1;show Qp _ l (zF l.length) (i:Int) acc=_;unfold Qp;rw[if_pos (by grind[cr,bu]),d9 hx,zD,gZ (by omega),alb,gJ (by omega)]
 ·grind[two]
 ·simp_all[Qp,zF,Int,if_neg,cr,bu]
 ·rw[List.drop_zero,kQ]
theorem aAW(r:TR):Qo ((),r,())=some (exB r,()):=rfl
theorem ayK{r:TR}(h:SmR r):DL ((),r,())=some (ajM r,()):=by show apJ () r=_;unfold apJ;have hb:=h.b;rw[UK hb,zD,gZ (by grind[pV,gH]),pV];rfl
theorem asR{r:TR}(h:SmR r):xX ((),r,())=some (Cj r,()):=by show apN () r=_;unfold apN;have hw:=h.w;rw[kZ (by grind) (by grind),jU,rC (by grind),zD];rfl
theorem aAX{r:TR}(h:obR r=true):Qr ((),r,())=some (obB r,()):=by
 unfold obR at h;rw[zO]at h;obtain⟨x,hx⟩:=List.length_eq_one_iff.1 (of_decide_eq_true h.1);show abf abg () r=_;unfold abf;rw[hx,kI,zD]
 have key:∀(v r2:Int)(r3:List Bool)(r4:List Int)(r6:Int),abg v r.1 r2 r3 r4 r.2.2.2.2.1 r6=some (r.1::two r.2.2.2.2.1++two v,()):=fun v r2 r3 r4 r6=>by
  unfold abg apS;rw[rC (by simp),zD];simp
 unfold obB;rw[hx]
 cases x with
 | true=>rw[if_pos rfl,key];rfl
 | false=>rw[if_neg (by decide),key];rfl
theorem Sz{R:Type}{eq:R->R->Bool}(h:∀x,eq x x=true)(o:R):amb eq [some o,some o]=some o:=by show (if eq o o=true then some o else none)=_;simp_all
theorem eqAs_refl:∀(rs:List Ty) (x:As rs),av rs x x=true
 | [],_=>rfl
 | t::r,x=>by simp_all[eqV,av,Sw,eqAs_refl]
theorem aAY{r:TR}(h:owR r=true):Qs ((),r,())=some (owB r,()):=by unfold owR at h;rw[zO]at h;obtain⟨x,hx⟩:=List.length_eq_one_iff.1 (of_decide_eq_true h.1);show apV () r=_;grind[apV,kI,rC,Sz,eqAs_refl,owB]
theorem alf(k:Int)(r:TR):DN (k,r,())=some (ctB r,()):=by show apX k r=_;grind[apX,rC,ctB]
end Go.Proofs.Lx
end
noncomputable section
namespace Go.Proofs.Lx
open Go Ev Sx Pl
set_option maxRecDepth 100000
theorem nZ(b:List Int):(iC b).length=b.length / 2:=by simp[iC]
theorem pq(b:List Int):(jM b).length=8*b.length:=by simp[jM]
theorem og{α:Type}(x:α)(r:List α):cut (x::r) 1 (zF (x::r).length)=some r:=JN x r
theorem at_one{α:Type}(p q:α)(r:List α):at? (p::q::r) 1=some q:=rfl
def cutV(b:List Int):List Int×Int :=
 if b.length<2 then ([],10) else
 if sD (b.take (b.length - 2))=iY (b.getD (b.length - 1) 0) (b.getD (b.length - 2) 0) then (b.take (b.length - 2),0) else ([],11)
theorem asS{α:Type}{z:α}{n:Nat}{y:List α}(h:y.length=n):List.take (zI (zF (zG (zE n z)))) y++List.drop (0+zG (List.take (zI (zF (zG (zE n z)))) y)) (zE n z)=y:=by grind
theorem alg{α:Type}{z:α}{n:Nat}{y:List α}(h:n≤y.length):List.take (zI (zF (zG (zE n z)))) y++List.drop (0+zG (List.take (zI (zF (zG (zE n z)))) y)) (zE n z)=y.take n:=by simp_all
theorem ayL{b:List Int}(h:b.length≤100000):LW (b,())=some ((cutV b).1,(cutV b).2,()):=by
 show abU b=_;unfold abU cutV;by_cases h2:b.length<2
 ·rw[if_pos (by grind[cr,bu]),if_pos h2]
 ·have e1:sub .i64 (zF b.length) 2=((b.length - 2:Nat):Int):=by grind[jO,bu]
  have g1:b[b.length - 2]? = some (b[b.length - 2]'(by omega)):=zU (by omega);have g2:b[b.length - 2+1]? = some (b[b.length - 2+1]'(by omega)):=zU (by omega);rw[if_neg (by grind[cr,bu]),if_neg h2,e1,Bp (by omega),zD,gJ (by omega),d9 g1,zD,d9 g2,zD,ala (by grind),zD]
  have e2:bor .u16 (cvt .u16 (b[b.length - 2]'(by omega))) (shl .u16 (cvt .u16 (b[b.length - 2+1]'(by omega))) 8)=iY (b.getD (b.length - 1) 0) (b.getD (b.length - 2) 0):=by
   rw[asP];have e3:b.length - 1=b.length - 2+1:=by omega
   rw[e3,zW,zW,g1,g2];rfl
  rw[e2];by_cases hs:sD (b.take (b.length - 2))=iY (b.getD (b.length - 1) 0) (b.getD (b.length - 2) 0)
  ·rw[if_neg (by simp_all[cu]),if_pos hs,gy (by rfl),gy (oJ _),zP,gZ (by omega),gy (by simp_all[gT,kC,bu]),alg (by omega)]
  simp_all[if_pos,cu,if_neg]
theorem alh(u:Int):DU (u,())=some (decide (1≤u) && decide (u≤247),()):=by show Qy u=_;unfold Qy;rw[gY (gU) fun _=>rfl];rfl
def gG(b:List Int):Int×List Int×Int :=
 if b.length<4∨256<b.length then (0,[],10) else
 if (cutV b).2≠0 then (0,[],(cutV b).2) else
 match (cutV b).1 with
 | []=>(0,[],10)
 | x::r=>if (decide (1≤x) && decide (x≤247))=true then (x,r,0) else (0,[],10)
theorem SA{b:List Int}(h:(cutV b).2=0):(cutV b).1.length=b.length - 2:=by unfold cutV at h ⊢;grind
theorem ayM(b:List Int):LX (b,())=some ((gG b).1,(gG b).2.1,(gG b).2.2,()):=by
 show ab0 ab1 b=_;have K:∀t,ab1 b t=abZ b t:=fun _=>rfl;unfold ab0 gG;rw[K,K];by_cases h:b.length<4
 ·rw[if_pos (by rw[cr,bu];omega),if_pos (.inl h)]
  rfl
 ·rw[if_neg (by rw[cr,bu];omega)]
  unfold abZ;by_cases h2:256<b.length
  ·rw[if_pos (by rw[iD,bu];omega),if_pos (.inr h2)]
  ·rw[if_neg (by rw[iD,bu];omega),if_neg (by omega),ayL (by omega),zD]
   dsimp only;by_cases h3:(cutV b).2=0
   ·rw[if_neg (by rw[cu];exact fun e=>e h3),if_neg (fun e=>e h3)]
    have hl:=SA h3
    match hc:(cutV b).1 with
    | []=>rw[hc]at hl;simp at hl;omega
    | x::r =>
     rw[kI,zD,alh,zD,zD];show _=some ((if (decide (1≤x) && decide (x≤247))=true then (x,r,0) else (0,[],10)).1,(if (decide (1≤x) && decide (x≤247))=true then (x,r,0) else (0,[],10)).2.1,(if (decide (1≤x) && decide (x≤247))=true then (x,r,0) else (0,[],10)).2.2,())
     cases decide (1≤x) && decide (x≤247) with
     | false=>rfl
     | true =>
      have e:cut (x::r) 1 (zF (x::r).length)=some r:=JN x r;rw[if_neg (by decide),e,zD,gy (by rw[gT];omega),gy (by rw[gT];omega),if_pos rfl]
   ·rw[if_pos (by rw[cu];exact h3),if_pos h3]
def aAZ:Option TR->Option (TR×Bool×Unit)
 | some r=>some (r,true,())
 | none=>some (zR,false,())
def lY(b c d a:Int):Bool:=!nei b 0 && (!nei c 0 && (!nei d 0 && (!lt a 2 && !gt (cvt .i64 a) 254)))
theorem ajN{self:List Int->Int->Option aD}{b:List Int}{i y:Int}(hi:i<5)(hl:i<zF b.length)(hy:at? b i=some y) :
  DW (DX self) self b i=if nei y 0=true then some (false,()) else self b (add .i64 i 1):=by
 have e5:eqi i 5=false:=by rw[<- Bool.not_eq_true,au];omega
 unfold DW;rw[if_pos (by grind[cr]),cr.2 hl];unfold DX ab5;rw[if_pos rfl,if_pos (cr.2 hi),hy,zD];unfold ab8 ab6
 cases nei y 0 with
 | true=>rfl
 | false =>
  simp only[e5,Bool.false_eq_true,if_false];rfl
theorem aA0{self:List Int->Int->Option aD}{b:List Int}{y:Int}(hl:5<zF b.length)(hy:at? b 5=some y) :
  DW (DX self) self b 5=if lt y 2=true then some (false,()) else if gt (cvt .i64 y) 254=true then some (false,()) else self b 6:=by
 unfold DW;rw[if_pos (by decide),cr.2 hl];unfold DX ab5;rw[if_pos rfl,if_neg (by decide)];unfold ab8 ab6;rw[if_neg (by decide),if_pos (by decide),hy,zD,zD];rfl
theorem ali(b0 b1 b2 b3 b4 b5 b6 b7:Int)(r:List Int):ab9 (b0::b1::b2::b3::b4::b5::b6::b7::r,())=some (lY b2 b3 b4 b5,()):=by
 show ab7 QB _=_;unfold ab7 QB lY;have hlen:(zF (b0::b1::b2::b3::b4::b5::b6::b7::r).length)=(r.length:Int)+8:=by rfl
 generalize hb:b0::b1::b2::b3::b4::b5::b6::b7::r=b at hlen ⊢;have h2:at? b 2=some b2:=by rw[<- hb];rfl
 have h3:at? b 3=some b3:=by rw[<- hb];rfl
 have h4:at? b 4=some b4:=by rw[<- hb];rfl
 have h5:at? b 5=some b5:=by rw[<- hb];rfl
 have key:∀n:Nat,ay (fun (self:(List Int)×(Int)->Option aD) (s:(List Int)×(Int))=>DW (DX (fun b i=>self (b,i))) (fun b i=>self (b,i)) s.1 s.2) (n+5) (b,2) =
   some (!nei b2 0 && (!nei b3 0 && (!nei b4 0 && (!lt b5 2 && !gt (cvt .i64 b5) 254))),()):=by
  intro n;rw[kP];refine (ajN (by decide) (by omega) h2).trans ?_
  cases nei b2 0 with
  | true=>rfl
  | false =>
   rw[if_neg (by decide),kP];refine (ajN (i:=3) (by decide) (by omega) h3).trans ?_
   cases nei b3 0 with
   | true=>rfl
   | false =>
    rw[if_neg (by decide),kP];refine (ajN (i:=4) (by decide) (by omega) h4).trans ?_
    cases nei b4 0 with
    | true=>rfl
    | false =>
     rw[if_neg (by decide),kP];refine (aA0 (by omega) h5).trans ?_
     cases lt b5 2 with
     | true=>rfl
     | false =>
      cases gt (cvt .i64 b5) 254 with
      | true=>rfl
      | false =>
       rfl
 simp_all
def zM:Int×Int×List Int:=(0,0,[])
def fZ:List Int->(Int×Int×List Int)×Int
 | b0::b1::b2::b3::b4::b5::b6::r =>
  if r=[] then (zM,10) else if lY b2 b3 b4 b5=true then if (r.length:Int)+1=b5 then ((iY b0 b1,b6,r),0) else (zM,10) else (zM,10)
 | _=>(zM,10)
theorem alj{b:List Int}(hl:b.length≤100000)(hb:∀x∈b,0≤x∧x≤255):acm (b,())=some ((fZ b).1,(fZ b).2,()):=by
 show acj ack b=_;unfold acj;have short:b.length≤7->QC (b,())=some (zM,0,()):=fun h=>by show Hz acg b=_;unfold Hz;rw[if_pos (by grind[gT,bu])];rfl
 have shortP:b.length≤7->fZ b=(zM,10):=fun h=>by
  match b with
  | [] | [_] | [_,_] | [_,_,_] | [_,_,_,_] | [_,_,_,_,_] | [_,_,_,_,_,_]=>rfl
  | [_,_,_,_,_,_,_]=>rfl
  | _::_::_::_::_::_::_::_::_=>simp_all
 by_cases hs:b.length≤7
 ·rw[short hs,shortP hs]
  rfl
 ·match b with
  | [] | [_] | [_,_] | [_,_,_] | [_,_,_,_] | [_,_,_,_,_] | [_,_,_,_,_,_]=>rfl
  | [_,_,_,_,_,_,_]=>rfl
  | b0::b1::b2::b3::b4::b5::b6::b7::r =>
   have h5:=hb b5 (by simp);have hlr:r.length≤100000:=by grind
   have e5:cvt .i64 b5=b5:=gM (by omega) (by omega)
   have hF:QC (b0::b1::b2::b3::b4::b5::b6::b7::r,())=if lY b2 b3 b4 b5=true then if (r.length:Int)+2<b5 then some (zM,0,()) else some ((iY b0 b1,b6,(b7::r).take (b5 - 1).toNat),6+b5,()) else some (zM,0,()):=by
    show Hz acg _=_;unfold Hz;rw[if_neg (by grind[gT,bu]),ali,zD]
    cases hbg:lY b2 b3 b4 b5 with
    | false=>rfl
    | true =>
     rw[if_pos rfl];have h52:2≤b5:=by unfold lY at hbg;simp only[zO,Bool.not_eq_true',<- Bool.not_eq_true]at hbg;simp_all[cr]
     show acf _ false 0 0=_;unfold acf;have g5:at? (b0::b1::b2::b3::b4::b5::b6::b7::r) 5=some b5:=rfl;have ea:add .i64 6 (cvt .i64 b5)=6+b5:=by grind[iF]
     rw[if_neg (by decide),g5,zD,ea];by_cases hlt:(r.length:Int)+2<b5
     ·rw[if_pos (by grind[cr,bu]),if_pos hlt]
      rfl
     ·have es:sub .i64 (6+b5) 7=(((b5 - 1).toNat:Nat):Int):=by grind[jO]
      have ec:cut (b0::b1::b2::b3::b4::b5::b6::b7::r) 7 (6+b5)=some ((b7::r).take (b5 - 1).toNat):=by
       have:=tH (xs:=b0::b1::b2::b3::b4::b5::b6::b7::r) (i:=7) (j:=7+(b5 - 1).toNat) (by omega) (by grind);have e:((7+(b5 - 1).toNat:Nat):Int)=6+b5:=by omega
       rw[e,Nat.add_comm 7 (b5 - 1).toNat]at this;exact this
      rw[if_neg (by grind[cr,bu]),if_neg hlt,es,gy (by rfl),gy (oJ _),zP,gZ (by omega),ec,zD,gy (by simp_all[gT,kC,bu])];have hlen:((b7::r).take (b5 - 1).toNat).length=(b5 - 1).toNat:=by grind
      rw[asS hlen];rfl
   rw[hF];have K:∀(t:Bool) (y1 y2:Int) (y3:List Int),ack t 0 0 (y1,y2,y3)=if t=true then some (zM,10,()) else some ((y1,y2,y3),0,()):=fun t y1 y2 y3=>rfl;show _=some ((fZ (b0::b1::b2::b3::b4::b5::b6::b7::r)).1,(fZ (b0::b1::b2::b3::b4::b5::b6::b7::r)).2,());unfold fZ;dsimp only;have hne:¬ (b7::r=[]):=by simp
   rw[if_neg hne]
   cases hbg:lY b2 b3 b4 b5 with
   | false=>rfl
   | true =>
    simp only[if_true];have h52:2≤b5:=by unfold lY at hbg;simp only[zO,Bool.not_eq_true',<- Bool.not_eq_true]at hbg;simp_all[cr]
    by_cases hlt:(r.length:Int)+2<b5
    ·have hq:¬ (((b7::r).length:Int)+1=b5):=by grind
     rw[if_pos hlt,if_neg hq];rfl
    ·rw[if_neg hlt,zD]
     dsimp only;rw[if_neg (by grind[au]),K];by_cases he:(r.length:Int)+2=b5
     ·have e1:nei (6+b5) (zF (b0::b1::b2::b3::b4::b5::b6::b7::r).length)=false:=by rw[<- Bool.not_eq_true,cu,bu];grind
      have hq:((b7::r).length:Int)+1=b5:=by grind
      rw[e1,if_pos hq];grind[List.take_of_length_le]
     ·have hq:¬ (((b7::r).length:Int)+1=b5):=by grind
      rw[if_neg hq,if_pos (by grind[cu,bu])]
def axD(a:TA):Option TR :=
 if a.1=5 then some (5,0,[a.2.2.2.2.2.headD false],[],a.2.1,0) else if a.1=6 then some (6,0,[],[a.2.2.2.2.1.headD 0],a.2.1,0) else
 if a.1=15∨a.1=16 then some (a.1,0,[],[],a.2.1,a.2.2.1) else none
theorem ayN{a:TA}(h:OkA a)(hr:jd a=true):xQ (a,())=aAZ (axD a):=by
 show GU PX Za a=_;unfold GU;rw[right_eq h,zD,hr];clear h;have hra:=kM hr;clear hr
 cases hra with
 | bits f p n hf h1 h2=>rcases hf with rfl | rfl<;>rfl
 | words f p n hf h1 h2=>rcases hf with rfl | rfl<;>rfl
 | coil p b=>rfl
 | word p x=>rfl
 | coils p l h1 h2=>rfl
 | regs p l h1 h2=>rfl
 | swap p n t l h1 h2 h3 h4=>rfl
theorem Ks(v:Bool):∀(s:List Bool) (n:Nat),∃k:Int,goL (R:=Int×Unit) (fun (_:Unit) (x:Bool×Nat) k=>if eqb v x.1=true then some ((x.2:Int),()) else k ()) (fun _=>some (-1,())) (s.zipIdx n) ()=some (k,())∧(0≤k↔v∈s)
 | [],n=>⟨-1,rfl,by simp⟩
 | a::r,n=>by
  rw[List.zipIdx_cons];obtain⟨k,h1,h2⟩:=Ks v r (n+1);by_cases e:v=a
  ·refine⟨(n:Int),?_,by simp[e]⟩
   show (if eqb v a=true then _ else _)=_;rw[if_pos (JR.2 e)]
  ·refine⟨k,?_,?_⟩
   ·show (if eqb v a=true then _ else _)=_
    simp_all[if_neg,JR]
   simp_all
theorem contains_eq{s:List Bool}(v:Bool)(h:s.length≤1000000):Dx (s,v,())=some (decide (v∈s),()):=by
 obtain⟨k,h1,h2⟩:=Ks v s 0
 have e:aoj (s,v,())=some (k,()):=by
  rw[<- h1];show YF PS s v=_;unfold YF PS;have hz:(s.zipIdx 0).length=s.length:=by simp
  refine oH (xs:=s.zipIdx 0) (mk:=fun i _=>(s,v,zF s.length,(i:Int))) ?_ ?_ s.length 0 () _ (by omega) (by omega)
  ·intro self i acc x hx
   have hi:=(List.getElem?_eq_some_iff.1 hx).1;rw[hz]at hi;have hx2:s[i]? = some x.1∧x.2=i:=by grind
   show PR _ s v (zF s.length) (i:Int)=_;unfold PR;rw[if_pos (by grind[cr,bu]),d9 hx2.1,zD,gJ (by omega),hx2.2]
  simp_all[PR,zF,Nat,Int,if_neg,cr,bu]
 show aol s v=_;simp_all[aol,zD,congrArg,ak7,decide_eq_true,decide_eq_false]

end Go.Proofs.Lx
end
