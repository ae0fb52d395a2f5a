/- Proved in the last of these 16 parts (this is part 6): TalkTrue. Conditions: those of the given statement, and no others. -/
import Derived.Test.YtljkanofaahagaaGreatBPartd
import Derived.Test.YtljkanofaahagaaGreatBParte
import Derived.Test.YtljkanofaahagaaGreatProg
set_option linter.unusedVariables false
set_option linter.unusedSimpArgs false
set_option linter.unusedSectionVars false
open Option renaming bind → zC, none → zH
open Int renaming ofNat → zF, toNat → zI
open List renaming length → zG
open Go.Value renaming slice → zK
noncomputable section
open Go Go.Proofs Ev Sx
set_option maxRecDepth 100000
namespace Go.Proofs.Lx
abbrev fZ:Type:=M5×Int×Int×List (Int×List Int)×Int×Int×Int×Int×Int
abbrev jv:Type:=Int×Int×jN×List Bool
@[reducible] def afw:Sh:=⟨[.d aJ],[],aI,[.d (.int .u32)],[],0,[.int .u32]⟩
def afx:Env:=(cts [(298,(⟨Vu,KR⟩:Ct))])
def afy:List (Nat×Hint):=[(7,⟨[],[3]⟩),(58,⟨[],[0,3,6,7]⟩)]
def Vy(b:List Int)(sum t6 t7:Int):St:=⟨[(0,dL b),(3,d2 sum),(6,dI t6),(7,dI t7)],19,[],[],0,[],0⟩
def afz(sum:Int):St:=⟨[(3,d2 sum)],19,[],[],0,[],0⟩
def Hu(j2:Int->Option aQ)(self1:List Int->Int->Int->Int->Option aQ)(b:List Int)(sum t6 t7:Int):Option aQ :=
 if lt t7 t6=true then zC (at? b t7) fun y=>zC (KR (sum,y,())) fun y=>self1 b y.1 t6 (add .i64 t7 1) else j2 sum
def Vz(sum:Int):Option aQ :=
 some (zF (BitVec.toNat { toFin:=⟨4294967295 ^^^ BitVec.toNat { toFin:=⟨zI (sum%4294967296),BitVec.ofInt._proof_1 (Go.IntKind.bits .u32) sum⟩ },BitVec.xor._proof_1 (BitVec.ofInt (Go.IntKind.bits .u32) (if Go.IntKind.signed .u32=true then -1 else Go.IntKind.max .u32)) (BitVec.ofInt (Go.IntKind.bits .u32) sum)⟩ } % 4294967296),())
def aoc(j1:List Int->Int->Int->Int->Option aQ)(b:List Int):Option aQ :=
 j1 b 4294967295 (zF (zG b)) 0
def aod:=Vz
def Nt(b:List Int)(sum t6 t7:Int):Option aQ :=
 cu (fun self s=>Hu (aod) (fun b sum t6 t7=>self (b,sum,t6,t7)) s.1 s.2.1 s.2.2.1 s.2.2.2) 18446744073709551616 (b,sum,t6,t7)
def VA(x:As aI):Option aQ:=aoc Nt x.1
abbrev pEd:=zp afx afy 286 afw
theorem avB{J a}:pEd J 7 [] (afz a)=Vz a:=by kernel_rfl
theorem avC{J w1 a b c d}:pEd J 58 [w1] (Vy a b c d)=Hu (C (J 7 []) afz) (C w1 Vy) a b c d:=by kernel_rfl
abbrev pEc:=zj afx afy 286 afw
theorem avD:C (pEc 7 []) afz=aod:=gNC (by decide) fun _=>avB
theorem avE:C (pEc 58 []) Vy=Nt:=gLC (by decide) (by kernel_rfl) (fun _=>by unfold Nt;rfl) fun _ _=>avC.trans (by rw[avD]<;>kernel_rfl)
theorem avF:ak Tryz.prog (fun _=>True) 286 ⟨afw,VA⟩:=zcc (env:=afx) (d:=6) (hs:=Ev.get afy) (aj avA av) (fun J x=>aoc (C (J 58 []) Vy) x.1) (fun _ _=>by kernel_rfl) fun _=>by rw[avE]<;>rfl
@[reducible] def afA:Sh:=⟨[.d aB],[],aK,[.d aJ],[],0,aI⟩
def afB:Env:=(cts [])
def afC:List (Nat×Hint):=[(58,⟨[],[0,3,10,11]⟩)]
def VB(l:List Int)(t10 t11:Int)(b:List Int):St:=⟨[(0,dW l),(3,.row 0),(10,dI t10),(11,dI t11)],36,[],[(0,.row (.int .u8) 5 b)],1,[],0⟩
@[reducible] def zF0:Type:=List Int->Int->Int->List Int->Option bU
def Nu(self1:zF0)(l:List Int)(t10 t11:Int)(b:List Int):Option bU :=
 if lt t11 t10=true then zC (at? l t11) fun y=>zC (at? l t11) fun y_1=>zC (at? b (mul .i64 2 t11)) fun x=>zC (at? b (mul .i64 2 t11)) fun x=>zC (at? (List.set b (zI (mul .i64 2 t11)) (cvt .u8 (Sx.shr .u16 y 8))) (add .i64 (mul .i64 2 t11) 1)) fun x=>zC (at? (List.set b (zI (mul .i64 2 t11)) (cvt .u8 (Sx.shr .u16 y 8))) (add .i64 (mul .i64 2 t11) 1)) fun x=>self1 l t10 (add .i64 t11 1) (List.set (List.set b (zI (mul .i64 2 t11)) (cvt .u8 (Sx.shr .u16 y 8))) (zI (add .i64 (mul .i64 2 t11) 1)) (cvt .u8 y_1)) else some (b,())
def VC(j1:zF0)(l:List Int):Option bU :=
 need (ge (mul .i64 2 (zF (zG l))) 0) (need (Ev.jC (mul .i64 2 (zF (zG l))) (mul .i64 2 (zF (zG l)))) (need (small (zI (mul .i64 2 (zF (zG l))))) (j1 l (zF (zG l)) 0 (List.replicate (zI (mul .i64 2 (zF (zG l)))) 0))))
def Nv(l:List Int)(t10 t11:Int)(b:List Int):Option bU :=
 cu (fun self s=>Nu (fun l t10 t11 b=>self (l,t10,t11,b)) s.1 s.2.1 s.2.2.1 s.2.2.2) 18446744073709551616 (l,t10,t11,b)
def afD(x:As aK):Option bU:=VC Nv x.1
abbrev pE7:=zp afB afC 287 afA
theorem avG{J w1 a b c d}:pE7 J 58 [w1] (VB a b c d)=Nu (C w1 VB) a b c d:=by kernel_rfl
abbrev pE6:=zj afB afC 287 afA
theorem avH:C (pE6 58 []) VB=Nv:=gLC (by decide) (by kernel_rfl) (fun _=>by unfold Nv;rfl) fun _ _=>avG.trans (by kernel_rfl)
theorem avI:ak Tryz.prog (fun _=>True) 287 ⟨afA,afD⟩:=zcc (env:=afB) (d:=6) (hs:=Ev.get afC) av (fun J x=>VC (C (J 58 []) VB) x.1) (fun _ _=>by kernel_rfl) fun _=>by rw[avH]<;>rfl
@[reducible] def aoe:Sh:=⟨[.d aB],[],aK,[.d (.int .u32)],[],0,[.int .u32]⟩
def afE(l:List Int):Option aQ :=
 zC (afD (l,())) fun y=>zC (VA (y.1,())) fun y=>some (y.1,())
def KS(x:As aK):Option aQ:=afE x.1
theorem avJ:ak Tryz.prog (fun _=>True) 268 ⟨aoe,KS⟩:=ctn (aj avF (aj avI av)) 6 fun J x=>by kernel_rfl
@[reducible] def Nw:Sh:=⟨[.d (.sl bq)],[],[.sl bq],[.d (.int .u32)],[],0,[.int .u32]⟩
def afF:Env:=(cts [(267,(⟨Nn,Ej⟩:Ct)),(268,(⟨aoe,KS⟩:Ct))])
def afG:List (Nat×Hint):=[(7,⟨[],[3]⟩),(58,⟨[.row 3 25],[3,6,7,8]⟩)]
@[reducible] def zF1:Type:=List (Int×List Int)
def VD(t6:zF1)(t7 t8:Int)(all:List Int):St:=⟨[(3,.row 0),(6,.d (.sl bq) t6),(7,dI t7),(8,dI t8)],19,[],[(0,.row (.int .u16) 25 all)],1,[],0⟩
def afH(all:List Int):St:=⟨[(3,.row 0)],19,[],[(0,.row (.int .u16) 25 all)],1,[],0⟩
@[reducible] def zF2:Type:=List (Int×List Int)->Int->Int->List Int->Option aQ
def Hw(j2:List Int->Option aQ)(self1:zF2)(t6:zF1)(t7 t8:Int)(all:List Int):Option aQ :=
 if lt t8 t7=true then zC (at? t6 t8) fun y=>zC (Ej (y,())) fun y=>need (small (zG all+zG y.1)) (self1 t6 t7 (add .i64 t8 1) (all++y.1)) else j2 all
def VE(all:List Int):Option aQ :=
 zC (KS (all,())) fun y=>some (y.1,())
def aof(j1:zF2)(l:zF1):Option aQ :=
 j1 l (zF (zG l)) 0 []
def afI:=VE
def Ny(t6:zF1)(t7 t8:Int)(all:List Int):Option aQ :=
 cu (fun self s=>Hw (afI) (fun t6 t7 t8 all=>self (t6,t7,t8,all)) s.1 s.2.1 s.2.2.1 s.2.2.2) 18446744073709551616 (t6,t7,t8,all)
def Hy(x:As [.sl bq]):Option aQ:=aof Ny x.1
abbrev pD5:=zp afF afG 242 Nw
theorem avK{J a}:pD5 J 7 [] (afH a)=VE a:=by kernel_rfl
theorem avL{J w1 a b c d}:pD5 J 58 [w1] (VD a b c d)=Hw (C (J 7 []) afH) (C w1 VD) a b c d:=by kernel_rfl
abbrev pD4:=zj afF afG 242 Nw
theorem avM:C (pD4 7 []) afH=afI:=gNC (by decide) fun _=>avK
theorem avN:C (pD4 58 []) VD=Ny:=gLC (by decide) (by kernel_rfl) (fun _=>by unfold Ny;rfl) fun _ _=>avL.trans (by rw[avM]<;>kernel_rfl)
theorem aog:ak Tryz.prog (fun _=>True) 242 ⟨Nw,Hy⟩:=zcc (env:=afF) (d:=6) (hs:=Ev.get afG) (aj afu (aj avJ av)) (fun J x=>aof (C (J 58 []) VD) x.1) (fun _ _=>by kernel_rfl) fun _=>by rw[avN]<;>rfl
@[reducible] def fD:List Ty:=[.int .u16,.int .u16]
@[reducible] def aoh:Sh:=⟨[.d (.int .u32)],[],[.int .u32],[.d (.int .u16),.d (.int .u16)],[],0,fD⟩
def afJ(x:Int):Option (As fD) :=
 some (cvt .u16 (Sx.shr .u32 x 16),cvt .u16 x,())
def Bd(x:As [.int .u32]):Option (As fD):=afJ x.1
theorem afK:ak Tryz.prog (fun _=>True) 269 ⟨aoh,Bd⟩:=ctn av 6 fun J x=>by kernel_rfl
@[reducible] def cL:Ty:=.pr (.int .u16) C5
@[reducible] def aoi:Sh:=⟨[.d cL],[],[.pr (.int .u16) C5],[.d aB],[],0,aK⟩
def afL(c:Int×Int×Int×Int×Int):Option bM :=
 zC (Bd (c.2.2.1,())) fun y=>zC (Bd (c.2.2.2.2,())) fun y_1=>some ([c.1,cvt .u16 c.2.1,y.1,y.2.1,c.2.2.2.1,y_1.1,y_1.2.1,0],())
def VF(x:As [.pr (.int .u16) C5]):Option bM:=afL x.1
theorem avO:ak Tryz.prog (fun _=>True) 243 ⟨aoi,VF⟩:=ctn (aj afK av) 6 fun J x=>by kernel_rfl
@[reducible] def dE:List Ty:=[.pr aC mR,.int .u8]
@[reducible] def Nz:Sh:=⟨[.d aX,.d (.int .u8)],[],dE,[.d bA],[],0,aW⟩
def afM:Env:=(cts [(242,(⟨Nw,Hy⟩:Ct)),(243,(⟨aoi,VF⟩:Ct))])
def afN:List (Nat×Hint):=[(7,⟨[],[4,5]⟩)]
@[reducible] def zF3:Type:=Int×Int×Int×Int×Unit×Unit
def afO(t4:zF3)(c:Int×Int×Int×Int×Int):St:=⟨[(4,.pb 0 0),(5,.pb 1 0)],26,[],[(0,.box 27 [d8 t4.1,d6 t4.2.1,d6 t4.2.2.1,d6 t4.2.2.2.1,.k (zK zH 0 0),.k (zK zH 0 0)]),(1,.box 104 [d6 c.1,d8 c.2.1,d2 c.2.2.1,d6 c.2.2.2.1,d2 c.2.2.2.2])],2,[],0⟩
def VG(t4:zF3)(c:Int×Int×Int×Int×Int):Option dT :=
 zC (VF (c,())) fun y=>some ((23,256,8,272,y.1,[]),())
def VH(j1:Int×Int×Int×Int×Unit×Unit->Int×Int×Int×Int×Int->Option dT)(t:fZ)(v:Int):Option dT :=
 if eqi v 2=true then zC (Hy (t.2.2.2.1,())) fun y=>j1 (0,0,0,0,(),()) (t.2.1,v,t.2.2.1,cvt .u16 (zF (zG t.2.2.2.1)),y.1) else j1 (0,0,0,0,(),()) (t.2.1,v,t.2.2.1,0,0)
def VI:=VG
def Be(x:As dE):Option dT:=VH VI x.1 x.2.1
abbrev pE5:=zp afM afN 204 Nz
theorem avP{J a b}:pE5 J 7 [] (afO a b)=VG a b:=by kernel_rfl
abbrev pE4:=zj afM afN 204 Nz
theorem avQ:C (pE4 7 []) afO=VI:=gNC (by decide) fun _=>avP
theorem aoj:ak Tryz.prog (fun _=>True) 204 ⟨Nz,Be⟩:=zcc (env:=afM) (d:=6) (hs:=Ev.get afN) (aj aog (aj avO av)) (fun J x=>VH (C (J 7 []) afO) x.1 x.2.1) (fun _ _=>by kernel_rfl) fun _=>by rw[avQ]<;>rfl
@[reducible] def zF4:Type:=Int×Int×Int×Int×Bool×vY×Int×Int×Int
@[reducible] def VJ:Sh:=⟨[.d aC],[],cA,[.d aC],[],0,cA⟩
def avR(p:zF4):Option (As cA) :=
 some ((p.1,p.2.1,p.2.2.1,p.2.2.2.1,false,(0,0,0,0,[],[]),p.2.2.2.2.2.2.1,0,0),())
def Bf(x:As cA):Option (As cA):=avR x.1
theorem VK:ak Tryz.prog (fun _=>True) 64 ⟨VJ,Bf⟩:=ctn av 6 fun J x=>by kernel_rfl
@[reducible] def NA:Sh:=⟨[.d aX,.d (.int .u8)],[],dE,[.d aX],[],0,aN⟩
def avS(t:fZ)(said:Int):Option bR :=
 zC (Bf (t.1,())) fun y=>some ((y.1,t.2.1,t.2.2.1,t.2.2.2.1,t.2.2.2.2.1,0,t.2.2.2.2.2.2.1,t.2.2.2.2.2.2.2.1,said),())
def mU(x:As dE):Option bR:=avS x.1 x.2.1
theorem yZ:ak Tryz.prog (fun _=>True) 56 ⟨NA,mU⟩:=ctn (aj VK av) 6 fun J x=>by kernel_rfl
@[reducible] def VL:Sh:=⟨[.d (.int .u16),.d (.int .u16)],[],fD,[.d (.int .u32)],[],0,[.int .u32]⟩
def afP(high low:Int):Option aQ :=
 some (Sx.bor .u32 (Sx.shl .u32 (cvt .u32 high) 16) (cvt .u32 low),())
def qL(x:As fD):Option aQ:=afP x.1 x.2.1
theorem afQ:ak Tryz.prog (fun _=>True) 270 ⟨VL,qL⟩:=ctn av 6 fun J x=>by kernel_rfl
@[reducible] def aP:Ty:=.pr (.int .u8) nC
@[reducible] def aS:List Ty:=[.pr (.int .u8) nC]
@[reducible] def eG:List Ty:=[.pr (.int .u16) FM,.bool]
@[reducible] def Hz:Sh:=⟨[.d aP],[],aS,[.d (.pr (.int .u16) FM),.d (.bool)],[],0,eG⟩
def afR:Env:=(cts [(270,(⟨VL,qL⟩:Ct))])
def afS:List (Nat×Hint):=[(6,⟨[],[1,2,13]⟩)]
@[reducible] def zF5:Type:=Int×Int×List Bool×List Int×Int×Int
@[reducible] def zF6:Type:=Int×Int×Int×Int
def afT(t13:Bool)(r:zF5)(t2:zF6):St:=⟨[(1,.pb 0 0),(2,.pb 1 0),(13,dB t13)],38,[],[(0,.box 109 [d8 r.1,d8 r.2.1,.d (.sl .bool) r.2.2.1,dW r.2.2.2.1,d6 r.2.2.2.2.1,d6 r.2.2.2.2.2]),(1,.box 301 [d6 t2.1,d6 t2.2.1,d2 t2.2.2.1,d2 t2.2.2.2])],2,[],0⟩
def aok(t13:Bool)(r:zF5)(t2:zF6):Option (As eG) :=
 if t13=true then some ((0,0,0,0),false,()) else zC (at? r.2.2.2.1 0) fun y=>zC (at? r.2.2.2.1 1) fun y_1=>zC (at? r.2.2.2.1 2) fun y_2=>zC (at? r.2.2.2.1 3) fun y_3=>zC (at? r.2.2.2.1 4) fun y_4=>zC (at? r.2.2.2.1 5) fun y_5=>zC (qL (y_2,y_3,())) fun y_6=>zC (qL (y_4,y_5,())) fun y_7=>some ((y,y_1,y_6.1,y_7.1),true,())
def VM(j1:Bool->Int×Int×List Bool×List Int×Int×Int->Int×Int×Int×Int->Option (As eG))(r:zF5):Option (As eG) :=
 if nei r.2.1 0=true then j1 true r (0,0,0,0) else j1 (nei (zF (zG r.2.2.2.1)) 8) r (0,0,0,0)
def afU:=aok
def wY(x:As aS):Option (As eG):=VM afU x.1
abbrev pEz:=zp afR afS 244 Hz
theorem avT{J a b c}:pEz J 6 [] (afT a b c)=aok a b c:=by kernel_rfl
abbrev pEy:=zj afR afS 244 Hz
theorem avU:C (pEy 6 []) afT=afU:=gNC (by decide) fun _=>avT
theorem NB:ak Tryz.prog (fun _=>True) 244 ⟨Hz,wY⟩:=zcc (env:=afR) (d:=6) (hs:=Ev.get afS) (aj afQ av) (fun J x=>VM (C (J 6 []) afT) x.1) (fun _ _=>by kernel_rfl) fun _=>by rw[avU]<;>rfl
@[reducible] def VN:Sh:=⟨[.d (.pr (.int .u16) FM),.d aX],[],[.pr (.int .u16) FM,.pr aC mR],[.d (.bool)],[],0,[.bool]⟩
def afV(s:zF6)(t:fZ):Option aE :=
 if eqi s.1 t.2.1=true then some (eqi s.2.2.1 t.2.2.1,()) else some (false,())
def qM(x:As [.pr (.int .u16) FM,.pr aC mR]):Option aE:=afV x.1 x.2.1
theorem VO:ak Tryz.prog (fun _=>True) 245 ⟨VN,qM⟩:=ctn av 6 fun J x=>by kernel_rfl
@[reducible] def aol:Sh:=⟨[.d aX,.d (.int .u8)],[],dE,[.d aX],[],0,aN⟩
def avV(t:fZ)(at':Int):Option bR :=
 some ((t.1,t.2.1,t.2.2.1,t.2.2.2.1,t.2.2.2.2.1,at',t.2.2.2.2.2.2),())
def qc(x:As dE):Option bR:=avV x.1 x.2.1
theorem HV:ak Tryz.prog (fun _=>True) 249 ⟨aol,qc⟩:=ctn av 6 fun J x=>by kernel_rfl
@[reducible] def VP:Sh:=⟨[.d aX],[],aN,[.d aX],[],0,aN⟩
def afW(t:fZ):Option bR :=
 if ge t.2.2.2.2.2.2.1 (zF (zG t.2.2.2.1))=true then zC (qc (t,4,())) fun y=>some (y.1,()) else zC (qc (t,2,())) fun y=>some (y.1,())
def Bg(x:As aN):Option bR:=afW x.1
theorem aom:ak Tryz.prog (fun _=>True) 246 ⟨VP,Bg⟩:=ctn (aj HV av) 6 fun J x=>by kernel_rfl
@[reducible] def VQ:Sh:=⟨[.d aX,.d (.int .u8)],[],dE,[.d aX],[],0,aN⟩
def afX(t:fZ)(at':Int):Option bR :=
 if gt (add .i64 t.2.2.2.2.2.2.2.1 1) 8=true then zC (mU ((t.1,t.2.1,t.2.2.1,t.2.2.2.1,t.2.2.2.2.1,t.2.2.2.2.2.1,t.2.2.2.2.2.2.1,add .i64 t.2.2.2.2.2.2.2.1 1,t.2.2.2.2.2.2.2.2),2,())) fun y=>some (y.1,()) else zC (qc ((t.1,t.2.1,t.2.2.1,t.2.2.2.1,t.2.2.2.2.1,t.2.2.2.2.2.1,t.2.2.2.2.2.2.1,add .i64 t.2.2.2.2.2.2.2.1 1,t.2.2.2.2.2.2.2.2),at',())) fun y=>some (y.1,())
def vk(x:As dE):Option bR:=afX x.1 x.2.1
theorem afY:ak Tryz.prog (fun _=>True) 247 ⟨VQ,vk⟩:=ctn (aj yZ (aj HV av)) 6 fun J x=>by kernel_rfl
@[reducible] def aY:List Ty:=[.pr aC mR,.pr (.int .u8) nC]
@[reducible] def NC:Sh:=⟨[.d aX,.d aP],[],aY,[.d aX],[],0,aN⟩
def afZ:Env:=(cts [(56,(⟨NA,mU⟩:Ct)),(244,(⟨Hz,wY⟩:Ct)),(245,(⟨VN,qM⟩:Ct)),(246,(⟨VP,Bg⟩:Ct)),(247,(⟨VQ,vk⟩:Ct))])
def af0:List (Nat×Hint):=[(115,⟨[],[2,4,5,17,33,34,35]⟩),(463,⟨[],[2,4,28]⟩)]
@[reducible] def zF7:Type:=kU×Int×Int×Unit×Int×Int×Int×Int×Int
def af2(t17:Bool)(t:fZ)(t4:zF7)(s:zF6):St:=⟨[(2,.pb 0 0),(4,.pb 1 0),(5,.pb 2 0),(17,dB t17)],42,[],[(0,.box 33 (fJ t [])),(1,.box 33 [d8 t4.1.1,d8 t4.1.2.1,dI t4.1.2.2.1,dI t4.1.2.2.2.1,dB t4.1.2.2.2.2.1,d8 t4.1.2.2.2.2.2.1.1,d6 t4.1.2.2.2.2.2.1.2.1,d6 t4.1.2.2.2.2.2.1.2.2.1,d6 t4.1.2.2.2.2.2.1.2.2.2.1,.k (zK zH 0 0),.k (zK zH 0 0),d6 t4.1.2.2.2.2.2.2.1,dI t4.1.2.2.2.2.2.2.2.1,dI t4.1.2.2.2.2.2.2.2.2,d6 t4.2.1,d2 t4.2.2.1,.k (zK zH 0 0),d8 t4.2.2.2.2.1,d8 t4.2.2.2.2.2.1,dI t4.2.2.2.2.2.2.1,dI t4.2.2.2.2.2.2.2.1,d8 t4.2.2.2.2.2.2.2.2]),(2,.box 301 [d6 s.1,d6 s.2.1,d2 s.2.2.1,d2 s.2.2.2])],3,[],0⟩
def af3(t28:Bool)(t:fZ)(t4:zF7):St:=⟨[(2,.pb 0 0),(4,.pb 1 0),(28,dB t28)],42,[],[(0,.box 33 (fJ t [])),(1,.box 33 [d8 t4.1.1,d8 t4.1.2.1,dI t4.1.2.2.1,dI t4.1.2.2.2.1,dB t4.1.2.2.2.2.1,d8 t4.1.2.2.2.2.2.1.1,d6 t4.1.2.2.2.2.2.1.2.1,d6 t4.1.2.2.2.2.2.1.2.2.1,d6 t4.1.2.2.2.2.2.1.2.2.2.1,.k (zK zH 0 0),.k (zK zH 0 0),d6 t4.1.2.2.2.2.2.2.1,dI t4.1.2.2.2.2.2.2.2.1,dI t4.1.2.2.2.2.2.2.2.2,d6 t4.2.1,d2 t4.2.2.1,.k (zK zH 0 0),d8 t4.2.2.2.2.1,d8 t4.2.2.2.2.2.1,dI t4.2.2.2.2.2.2.1,dI t4.2.2.2.2.2.2.2.1,d8 t4.2.2.2.2.2.2.2.2])],2,[],0⟩
def VR(j2:Bool->fZ->kU×Int×Int×Unit×Int×Int×Int×Int×Int->Option bR)(t17:Bool)(t:fZ)(t4:zF7)(s:zF6):Option bR :=
 if t17=true then zC (mU (t,1,())) fun y=>some (y.1,()) else zC (qM (s,t,())) fun y=>if y.1=true then j2 (eqi s.2.1 1) t ((t4.1.1,t4.1.2.1,t4.1.2.2.1,t4.1.2.2.2.1,t4.1.2.2.2.2.1,(t4.1.2.2.2.2.2.1.1,t4.1.2.2.2.2.2.1.2.1,t4.1.2.2.2.2.2.1.2.2.1,t4.1.2.2.2.2.2.1.2.2.2.1,(),()),t4.1.2.2.2.2.2.2),t4.2) else j2 false t ((t4.1.1,t4.1.2.1,t4.1.2.2.1,t4.1.2.2.2.1,t4.1.2.2.2.2.1,(t4.1.2.2.2.2.2.1.1,t4.1.2.2.2.2.2.1.2.1,t4.1.2.2.2.2.2.1.2.2.1,t4.1.2.2.2.2.2.1.2.2.2.1,(),()),t4.1.2.2.2.2.2.2),t4.2)
def aon(t28:Bool)(t:fZ)(t4:zF7):Option bR :=
 if t28=true then zC (Bg ((t.1,t.2.1,t.2.2.1,t.2.2.2.1,t.2.2.2.2.1,t.2.2.2.2.2.1,0,t.2.2.2.2.2.2.2),())) fun y=>some (y.1,()) else zC (vk (t,1,())) fun y=>some (y.1,())
def VT(j1:Bool->fZ->kU×Int×Int×Unit×Int×Int×Int×Int×Int->Int×Int×Int×Int->Option bR)(t:fZ)(r:zF5):Option bR :=
 zC (wY (r,())) fun y=>if (!y.2.1)=true then zC (mU (t,2,())) fun y=>some (y.1,()) else zC (qM (y.1,t,())) fun y_1=>if y_1.1=true then j1 (eqi y.1.2.1 2) t ((0,0,0,0,false,(0,0,0,0,(),()),0,0,0),0,0,(),0,0,0,0,0) y.1 else j1 false t ((0,0,0,0,false,(0,0,0,0,(),()),0,0,0),0,0,(),0,0,0,0,0) y.1
def ND:=aon
def Em:=VR (ND)
def NF(x:As aY):Option bR:=VT Em x.1 x.2.1
abbrev pEl:=zp afZ af0 205 NC
theorem avW{J a b c}:pEl J 463 [] (af3 a b c)=aon a b c:=by kernel_rfl
theorem avX{J a b c d}:pEl J 115 [] (af2 a b c d)=VR (C (J 463 []) af3) a b c d:=by kernel_rfl
abbrev pEk:=zj afZ af0 205 NC
theorem avY:C (pEk 463 []) af3=ND:=gNC (by decide) fun _=>avW
theorem avZ:C (pEk 115 []) af2=Em:=gNC (by decide) fun _=>avX.trans (by rw[avY]<;>kernel_rfl)
theorem asq:ak Tryz.prog (fun _=>True) 205 ⟨NC,NF⟩:=zcc (env:=afZ) (d:=6) (hs:=Ev.get af0) (aj yZ (aj NB (aj VO (aj aom (aj afY av))))) (fun J x=>VT (C (J 115 []) af2) x.1 x.2.1) (fun _ _=>by kernel_rfl) fun _=>by rw[avZ]<;>rfl
@[reducible] def af4:Sh:=⟨[.d (.int .i64)],[],[.int .i64],[.d (.bool)],[],0,[.bool]⟩
def af5(n:Int):Option aE :=
 if ge n 0=true then some (lt n 8,()) else some (false,())
def En(x:As [.int .i64]):Option aE:=af5 x.1
theorem af6:ak Tryz.prog (fun _=>True) 283 ⟨af4,En⟩:=ctn av 6 fun J x=>by kernel_rfl
@[reducible] def dF:List Ty:=[.int .u16,.int .u32,.int .i64,.pr (.int .i64) aB]
@[reducible] def aoo:Sh:=⟨[.d (.int .u16),.d (.int .u32),.d (.int .i64),.d bq],[],dF,[.d aB],[],0,aK⟩
def af7(owner tx n:Int)(x:Int×List Int):Option bM :=
 zC (Bd (tx,())) fun y=>need (small (0+Nat.succ (Nat.succ (Nat.succ (Nat.succ 0))))) (zC (Ej (x,())) fun y_1=>need (small (Nat.succ (Nat.succ (Nat.succ (Nat.succ 0)))+zG y_1.1)) (some (owner::y.1::y.2.1::cvt .u16 n::y_1.1,())))
def NG(x:As dF):Option bM:=af7 x.1 x.2.1 x.2.2.1 x.2.2.2.1
theorem aop:ak Tryz.prog (fun _=>True) 284 ⟨aoo,NG⟩:=ctn (aj afu (aj afK av)) 6 fun J x=>by kernel_rfl
@[reducible] def aoq:Sh:=⟨[.d (.int .u16),.d (.int .u32),.d (.int .i64),.d bq],[],dF,[.d aB,.d (.int .i64)],[],0,bS⟩
def af8(owner tx n:Int)(x:Int×List Int):Option (As bS) :=
 zC (En (n,())) fun y=>if (!y.1)=true then some ([],2,()) else zC (qK (x,())) fun y=>if (!y.1)=true then some ([],20,()) else zC (NG (owner,tx,n,x,())) fun y=>some (y.1,0,())
def VU(x:As dF):Option (As bS):=af8 x.1 x.2.1 x.2.2.1 x.2.2.2.1
theorem av0:ak Tryz.prog (fun _=>True) 271 ⟨aoq,VU⟩:=ctn (aj Ei (aj af6 (aj aop av))) 6 fun J x=>by kernel_rfl
@[reducible] def eY:List Ty:=[.sl (.int .u16),.bool]
@[reducible] def VW:Sh:=⟨[.d aX],[],aN,[.d aB,.d (.bool)],[],0,eY⟩
def af9:Env:=(cts [(271,(⟨aoq,VU⟩:Ct))])
def aga:List (Nat×Hint):=[(6,⟨[],[1,16]⟩)]
def agb(t16:Bool)(t:fZ):St:=⟨[(1,.pb 0 0),(16,dB t16)],36,[],[(0,.box 33 (fJ t []))],1,[],0⟩
def VX(t16:Bool)(t:fZ):Option (As eY) :=
 if t16=true then some ([],false,()) else zC (at? t.2.2.2.1 t.2.2.2.2.2.2.1) fun y=>zC (VU (t.2.1,t.2.2.1,t.2.2.2.2.2.2.1,y,())) fun y=>some (y.1,eqi y.2.1 0,())
def VY(j1:Bool->fZ->Option (As eY))(t:fZ):Option (As eY) :=
 if lt t.2.2.2.2.2.2.1 0=true then j1 true t else j1 (ge t.2.2.2.2.2.2.1 (zF (zG t.2.2.2.1))) t
def agc:=VX
def NH(x:As aN):Option (As eY):=VY agc x.1
abbrev pEj:=zp af9 aga 248 VW
theorem av1{J a b}:pEj J 6 [] (agb a b)=VX a b:=by kernel_rfl
abbrev pEi:=zj af9 aga 248 VW
theorem av2:C (pEi 6 []) agb=agc:=gNC (by decide) fun _=>av1
theorem aor:ak Tryz.prog (fun _=>True) 248 ⟨VW,NH⟩:=zcc (env:=af9) (d:=6) (hs:=Ev.get aga) (aj av0 av) (fun J x=>VY (C (J 6 []) agb) x.1) (fun _ _=>by kernel_rfl) fun _=>by rw[av2]<;>rfl
@[reducible] def age:Sh:=⟨[.d aX],[],aN,[.d bA],[],0,aW⟩
def agf(t:fZ):Option dT :=
 zC (NH (t,())) fun y=>if (!y.2.1)=true then some ((0,0,0,0,[],[]),()) else some ((16,288,cvt .u16 (zF (zG y.1)),0,y.1,[]),())
def VZ(x:As aN):Option dT:=agf x.1
theorem aos:ak Tryz.prog (fun _=>True) 206 ⟨age,VZ⟩:=ctn (aj aor av) 6 fun J x=>by kernel_rfl
@[reducible] def agh:Sh:=⟨[.d aX,.d aP],[],aY,[.d aX],[],0,aN⟩
def agi(t:fZ)(r:zF5):Option bR :=
 if nei r.2.1 0=true then zC (mU (t,2,())) fun y=>some (y.1,()) else zC (qc (t,3,())) fun y=>some (y.1,())
def NI(x:As aY):Option bR:=agi x.1 x.2.1
theorem aot:ak Tryz.prog (fun _=>True) 207 ⟨agh,NI⟩:=ctn (aj yZ (aj HV av)) 6 fun J x=>by kernel_rfl
@[reducible] def V2:Sh:=⟨[.d aX],[],aN,[.d bA],[],0,aW⟩
def agj(t:fZ):Option dT :=
 some ((3,cvt .u16 (add .i64 512 (mul .i64 32 t.2.2.2.2.2.2.1)),20,0,[],[]),())
def KT(x:As aN):Option dT:=agj x.1
theorem aou:ak Tryz.prog (fun _=>True) 208 ⟨V2,KT⟩:=ctn av 6 fun J x=>by kernel_rfl
@[reducible] def eO:List Ty:=[.sl (.int .u16),.sl (.int .u16)]
@[reducible] def NJ:Sh:=⟨[.d aB,.d aB],[],eO,[.d (.bool)],[],0,[.bool]⟩
def agk:Env:=(cts [])
def agl:List (Nat×Hint):=[(58,⟨[],[0,1,12,13]⟩)]
def V3(s1 s2:List Int)(t12 t13:Int):St:=⟨[(0,dW s1),(1,dW s2),(12,dI t12),(13,dI t13)],26,[],[],0,[],0⟩
def NK(self1:List Int->List Int->Int->Int->Option aE)(s1 s2:List Int)(t12 t13:Int):Option aE :=
 if lt t13 t12=true then zC (at? s1 t13) fun y=>zC (at? s2 t13) fun y_1=>if nei y y_1=true then some (false,()) else self1 s1 s2 t12 (add .i64 t13 1) else some (true,())
def V4(j1:List Int->List Int->Int->Int->Option aE)(s1 s2:List Int):Option aE :=
 if nei (zF (zG s1)) (zF (zG s2))=true then some (false,()) else j1 s1 s2 (zF (zG s1)) 0
def NL(s1 s2:List Int)(t12 t13:Int):Option aE :=
 cu (fun self s=>NK (fun s1 s2 t12 t13=>self (s1,s2,t12,t13)) s.1 s.2.1 s.2.2.1 s.2.2.2) 18446744073709551616 (s1,s2,t12,t13)
def wZ(x:As eO):Option aE:=V4 NL x.1 x.2.1
abbrev pDr:=zp agk agl 90 NJ
theorem aDA{J w1 a b c d}:pDr J 58 [w1] (V3 a b c d)=NK (C w1 V3) a b c d:=by kernel_rfl
abbrev pDq:=zj agk agl 90 NJ
theorem aDB:C (pDq 58 []) V3=NL:=gLC (by decide) (by kernel_rfl) (fun _=>by unfold NL;rfl) fun _ _=>aDA.trans (by kernel_rfl)
theorem V5:ak Tryz.prog (fun _=>True) 90 ⟨NJ,wZ⟩:=zcc (env:=agk) (d:=6) (hs:=Ev.get agl) av (fun J x=>V4 (C (J 58 []) V3) x.1 x.2.1) (fun _ _=>by kernel_rfl) fun _=>by rw[aDB]<;>rfl
@[reducible] def NM:Sh:=⟨[.d aX,.d aP],[],aY,[.d aX],[],0,aN⟩
def agm:Env:=(cts [(90,(⟨NJ,wZ⟩:Ct)),(246,(⟨VP,Bg⟩:Ct)),(247,(⟨VQ,vk⟩:Ct)),(248,(⟨VW,NH⟩:Ct))])
def agn:List (Nat×Hint):=[(14,⟨[],[2,4,25]⟩)]
def agq(t25:Bool)(t:fZ)(t4:zF7):St:=⟨[(2,.pb 0 0),(4,.pb 1 0),(25,dB t25)],34,[],[(0,.box 33 (fJ t [])),(1,.box 33 [d8 t4.1.1,d8 t4.1.2.1,dI t4.1.2.2.1,dI t4.1.2.2.2.1,dB t4.1.2.2.2.2.1,d8 t4.1.2.2.2.2.2.1.1,d6 t4.1.2.2.2.2.2.1.2.1,d6 t4.1.2.2.2.2.2.1.2.2.1,d6 t4.1.2.2.2.2.2.1.2.2.2.1,.k (zK zH 0 0),.k (zK zH 0 0),d6 t4.1.2.2.2.2.2.2.1,dI t4.1.2.2.2.2.2.2.2.1,dI t4.1.2.2.2.2.2.2.2.2,d6 t4.2.1,d2 t4.2.2.1,.k (zK zH 0 0),d8 t4.2.2.2.2.1,d8 t4.2.2.2.2.2.1,dI t4.2.2.2.2.2.2.1,dI t4.2.2.2.2.2.2.2.1,d8 t4.2.2.2.2.2.2.2.2])],2,[],0⟩
def asr(t25:Bool)(t:fZ)(t4:zF7):Option bR :=
 if t25=true then zC (vk (t,2,())) fun y=>some (y.1,()) else zC (Bg ((t.1,t.2.1,t.2.2.1,t.2.2.2.1,t.2.2.2.2.1,t.2.2.2.2.2.1,add .i64 t.2.2.2.2.2.2.1 1,t.2.2.2.2.2.2.2),())) fun y=>some (y.1,())
def V6(j1:Bool->fZ->kU×Int×Int×Unit×Int×Int×Int×Int×Int->Option bR)(t:fZ)(r:zF5):Option bR :=
 zC (NH (t,())) fun y=>if (!y.2.1)=true then j1 true t ((0,0,0,0,false,(0,0,0,0,(),()),0,0,0),0,0,(),0,0,0,0,0) else if nei r.2.1 0=true then j1 true t ((0,0,0,0,false,(0,0,0,0,(),()),0,0,0),0,0,(),0,0,0,0,0) else zC (wZ (r.2.2.2.1,y.1,())) fun y=>j1 (!y.1) t ((0,0,0,0,false,(0,0,0,0,(),()),0,0,0),0,0,(),0,0,0,0,0)
def NN:=asr
def NP(x:As aY):Option bR:=V6 NN x.1 x.2.1
abbrev pEx:=zp agm agn 209 NM
theorem av3{J a b c}:pEx J 14 [] (agq a b c)=asr a b c:=by kernel_rfl
abbrev pEw:=zj agm agn 209 NM
theorem av4:C (pEw 14 []) agq=NN:=gNC (by decide) fun _=>av3
theorem ast:ak Tryz.prog (fun _=>True) 209 ⟨NM,NP⟩:=zcc (env:=agm) (d:=6) (hs:=Ev.get agn) (aj V5 (aj aom (aj afY (aj aor av)))) (fun J x=>V6 (C (J 14 []) agq) x.1 x.2.1) (fun _ _=>by kernel_rfl) fun _=>by rw[av4]<;>rfl
@[reducible] def NQ:Sh:=⟨[.d aX,.d aP],[],aY,[.d aX],[],0,aN⟩
def agr:Env:=(cts [(56,(⟨NA,mU⟩:Ct)),(244,(⟨Hz,wY⟩:Ct)),(245,(⟨VN,qM⟩:Ct)),(247,(⟨VQ,vk⟩:Ct))])
def ags:List (Nat×Hint):=[(115,⟨[],[2,4,17]⟩)]
def agt(t17:Bool)(t:fZ)(t4:zF7):St:=⟨[(2,.pb 0 0),(4,.pb 1 0),(17,dB t17)],30,[],[(0,.box 33 (fJ t [])),(1,.box 33 [d8 t4.1.1,d8 t4.1.2.1,dI t4.1.2.2.1,dI t4.1.2.2.2.1,dB t4.1.2.2.2.2.1,d8 t4.1.2.2.2.2.2.1.1,d6 t4.1.2.2.2.2.2.1.2.1,d6 t4.1.2.2.2.2.2.1.2.2.1,d6 t4.1.2.2.2.2.2.1.2.2.2.1,.k (zK zH 0 0),.k (zK zH 0 0),d6 t4.1.2.2.2.2.2.2.1,dI t4.1.2.2.2.2.2.2.2.1,dI t4.1.2.2.2.2.2.2.2.2,d6 t4.2.1,d2 t4.2.2.1,.k (zK zH 0 0),d8 t4.2.2.2.2.1,d8 t4.2.2.2.2.2.1,dI t4.2.2.2.2.2.2.1,dI t4.2.2.2.2.2.2.2.1,d8 t4.2.2.2.2.2.2.2.2])],2,[],0⟩
def asu(t17:Bool)(t:fZ)(t4:zF7):Option bR :=
 if t17=true then zC (mU (t,1,())) fun y=>some (y.1,()) else zC (vk (t,4,())) fun y=>some (y.1,())
def V7(j1:Bool->fZ->kU×Int×Int×Unit×Int×Int×Int×Int×Int->Option bR)(t:fZ)(r:zF5):Option bR :=
 zC (wY (r,())) fun y=>if (!y.2.1)=true then zC (mU (t,2,())) fun y=>some (y.1,()) else zC (qM (y.1,t,())) fun y_1=>if y_1.1=true then j1 (eqi y.1.2.1 2) t ((0,0,0,0,false,(0,0,0,0,(),()),0,0,0),0,0,(),0,0,0,0,0) else j1 false t ((0,0,0,0,false,(0,0,0,0,(),()),0,0,0),0,0,(),0,0,0,0,0)
def Eo:=asu
def NR(x:As aY):Option bR:=V7 Eo x.1 x.2.1
abbrev pEv:=zp agr ags 211 NQ
theorem av5{J a b c}:pEv J 115 [] (agt a b c)=asu a b c:=by kernel_rfl
abbrev pEu:=zj agr ags 211 NQ
theorem av6:C (pEu 115 []) agt=Eo:=gNC (by decide) fun _=>av5
theorem asv:ak Tryz.prog (fun _=>True) 211 ⟨NQ,NR⟩:=zcc (env:=agr) (d:=6) (hs:=Ev.get ags) (aj yZ (aj NB (aj VO (aj afY av)))) (fun J x=>V7 (C (J 115 []) agt) x.1 x.2.1) (fun _ _=>by kernel_rfl) fun _=>by rw[av6]<;>rfl
@[reducible] def agu:Sh:=⟨[.d aX,.d aP],[],aY,[.d aX],[],0,aN⟩
def agv(t:fZ)(r:zF5):Option bR :=
 zC (wY (r,())) fun y=>if (!y.2.1)=true then zC (qc (t,7,())) fun y=>some (y.1,()) else if ge y.1.2.2.2 t.2.2.1=true then zC (mU (t,1,())) fun y=>some (y.1,()) else zC (qc (t,5,())) fun y=>some (y.1,())
def NS(x:As aY):Option bR:=agv x.1 x.2.1
theorem asw:ak Tryz.prog (fun _=>True) 213 ⟨agu,NS⟩:=ctn (aj yZ (aj NB (aj HV av))) 6 fun J x=>by kernel_rfl
@[reducible] def agw:Sh:=⟨[.d aX,.d aP],[],aY,[.d aX],[],0,aN⟩
def agx(t:fZ)(r:zF5):Option bR :=
 zC (wY (r,())) fun y=>if (!y.2.1)=true then zC (qc (t,7,())) fun y=>some (y.1,()) else zC (qM (y.1,t,())) fun y=>if (!y.1)=true then zC (mU (t,1,())) fun y=>some (y.1,()) else zC (qc (t,6,())) fun y=>some (y.1,())
def NT(x:As aY):Option bR:=agx x.1 x.2.1
theorem asx:ak Tryz.prog (fun _=>True) 215 ⟨agw,NT⟩:=ctn (aj yZ (aj NB (aj VO (aj HV av)))) 6 fun J x=>by kernel_rfl
@[reducible] def V8:Sh:=⟨[.d aX],[],aN,[.d bA],[],0,aW⟩
def av7(v:fZ):Option dT :=
 some ((3,256,8,0,[],[]),())
def V9(x:As aN):Option dT:=av7 x.1
theorem aov:ak Tryz.prog (fun _=>True) 216 ⟨V8,V9⟩:=ctn av 6 fun J x=>by kernel_rfl
@[reducible] def NU:Sh:=⟨[.d aX,.d aP],[],aY,[.d aX],[],0,aN⟩
def agy:Env:=(cts [(56,(⟨NA,mU⟩:Ct)),(244,(⟨Hz,wY⟩:Ct)),(245,(⟨VN,qM⟩:Ct)),(249,(⟨aol,qc⟩:Ct))])
def agz:List (Nat×Hint):=[(30,⟨[],[2,4,33]⟩),(116,⟨[],[2,4,22]⟩)]
def agA(t22:Bool)(t:fZ)(t4:zF7):St:=⟨[(2,.pb 0 0),(4,.pb 1 0),(22,dB t22)],38,[],[(0,.box 33 (fJ t [])),(1,.box 33 [d8 t4.1.1,d8 t4.1.2.1,dI t4.1.2.2.1,dI t4.1.2.2.2.1,dB t4.1.2.2.2.2.1,d8 t4.1.2.2.2.2.2.1.1,d6 t4.1.2.2.2.2.2.1.2.1,d6 t4.1.2.2.2.2.2.1.2.2.1,d6 t4.1.2.2.2.2.2.1.2.2.2.1,.k (zK zH 0 0),.k (zK zH 0 0),d6 t4.1.2.2.2.2.2.2.1,dI t4.1.2.2.2.2.2.2.2.1,dI t4.1.2.2.2.2.2.2.2.2,d6 t4.2.1,d2 t4.2.2.1,.k (zK zH 0 0),d8 t4.2.2.2.2.1,d8 t4.2.2.2.2.2.1,dI t4.2.2.2.2.2.2.1,dI t4.2.2.2.2.2.2.2.1,d8 t4.2.2.2.2.2.2.2.2])],2,[],0⟩
def agB(t33:Bool)(t:fZ)(t4:zF7):St:=⟨[(2,.pb 0 0),(4,.pb 1 0),(33,dB t33)],38,[],[(0,.box 33 (fJ t [])),(1,.box 33 [d8 t4.1.1,d8 t4.1.2.1,dI t4.1.2.2.1,dI t4.1.2.2.2.1,dB t4.1.2.2.2.2.1,d8 t4.1.2.2.2.2.2.1.1,d6 t4.1.2.2.2.2.2.1.2.1,d6 t4.1.2.2.2.2.2.1.2.2.1,d6 t4.1.2.2.2.2.2.1.2.2.2.1,.k (zK zH 0 0),.k (zK zH 0 0),d6 t4.1.2.2.2.2.2.2.1,dI t4.1.2.2.2.2.2.2.2.1,dI t4.1.2.2.2.2.2.2.2.2,d6 t4.2.1,d2 t4.2.2.1,.k (zK zH 0 0),d8 t4.2.2.2.2.1,d8 t4.2.2.2.2.2.1,dI t4.2.2.2.2.2.2.1,dI t4.2.2.2.2.2.2.2.1,d8 t4.2.2.2.2.2.2.2.2])],2,[],0⟩
def aow(t22:Bool)(t:fZ)(t4:zF7):Option bR :=
 if t22=true then zC (mU (t,1,())) fun y=>some (y.1,()) else zC (qc (t,5,())) fun y=>some (y.1,())
def aox(t33:Bool)(t:fZ)(t4:zF7):Option bR :=
 if t33=true then zC (mU (t,1,())) fun y=>some (y.1,()) else zC (qc (t,6,())) fun y=>some (y.1,())
def Wd(j1 j2:Bool->fZ->kU×Int×Int×Unit×Int×Int×Int×Int×Int->Option bR)(t:fZ)(r:zF5):Option bR :=
 zC (wY (r,())) fun y=>if eqi t.2.2.2.2.1 2=true then if y.2.1=true then j1 (ge y.1.2.2.2 t.2.2.1) t ((0,0,0,0,false,(0,0,0,0,(),()),0,0,0),0,0,(),0,0,0,0,0) else j1 false t ((0,0,0,0,false,(0,0,0,0,(),()),0,0,0),0,0,(),0,0,0,0,0) else if y.2.1=true then zC (qM (y.1,t,())) fun y=>j2 (!y.1) t ((0,0,0,0,false,(0,0,0,0,(),()),0,0,0),0,0,(),0,0,0,0,0) else j2 false t ((0,0,0,0,false,(0,0,0,0,(),()),0,0,0),0,0,(),0,0,0,0,0)
def NV:=aow
def NW:=aox
def NY(x:As aY):Option bR:=Wd NV NW x.1 x.2.1
abbrev pEt:=zp agy agz 217 NU
theorem av8{J a b c}:pEt J 116 [] (agA a b c)=aow a b c:=by kernel_rfl
theorem av9{J a b c}:pEt J 30 [] (agB a b c)=aox a b c:=by kernel_rfl
abbrev pEs:=zj agy agz 217 NU
theorem awc:C (pEs 116 []) agA=NV:=gNC (by decide) fun _=>av8
theorem awd:C (pEs 30 []) agB=NW:=gNC (by decide) fun _=>av9
theorem aoy:ak Tryz.prog (fun _=>True) 217 ⟨NU,NY⟩:=zcc (env:=agy) (d:=6) (hs:=Ev.get agz) (aj yZ (aj NB (aj VO (aj HV av)))) (fun J x=>Wd (C (J 116 []) agA) (C (J 30 []) agB) x.1 x.2.1) (fun _ _=>by kernel_rfl) fun _=>by rw[awc,awd]<;>rfl
@[reducible] def Wh:Sh:=⟨[.d aX],[],aN,[.d bA],[],0,aW⟩
def agC:Env:=(cts [(1000211,Ev.gU),(204,(⟨Nz,Be⟩:Ct)),(205,(⟨NC,NF⟩:Ct)),(206,(⟨age,VZ⟩:Ct)),(207,(⟨agh,NI⟩:Ct)),(208,(⟨V2,KT⟩:Ct)),(209,(⟨NM,NP⟩:Ct)),(211,(⟨NQ,NR⟩:Ct)),(213,(⟨agu,NS⟩:Ct)),(215,(⟨agw,NT⟩:Ct)),(216,(⟨V8,V9⟩:Ct)),(217,(⟨NU,NY⟩:Ct))])
def agD:List (Nat×Hint):=[(14,⟨[],[1,2,3,13]⟩)]
def agE(t13:Bool)(t:fZ)(t2:zF3):St:=⟨[(1,.pb 0 0),(2,.pb 1 0),(3,.pb 2 0),(13,dB t13)],22,[],[(0,.box 33 (fJ t [])),(1,.box 27 [d8 t2.1,d6 t2.2.1,d6 t2.2.2.1,d6 t2.2.2.2.1,.k (zK zH 0 0),.k (zK zH 0 0)]),(2,.box 211 [.k Go.Value.nilFunc,.k Go.Value.nilFunc,.fn (.func 203) [] [],.fn (.func 205) [] [],.fn (.func 206) [] [],.fn (.func 207) [] [],.fn (.func 208) [] [],.fn (.func 209) [] [],.fn (.func 210) [] [],.fn (.func 211) [] [],.fn (.func 212) [] [],.fn (.func 213) [] [],.fn (.func 214) [] [],.fn (.func 215) [] [],.fn (.func 216) [] [],.fn (.func 217) [] []])],3,[],0⟩
def Wi(t13:Bool)(t:fZ)(t2:zF3):Option dT :=
 if t13=true then some ((0,0,0,0,[],[]),()) else if eqi t.2.2.2.2.2.1 7=true then zC (V9 (t,())) fun y=>some (y.1,()) else if eqi t.2.2.2.2.2.1 6=true then zC (Be (t,4,())) fun y=>some (y.1,()) else if eqi t.2.2.2.2.2.1 5=true then zC (Be (t,3,())) fun y=>some (y.1,()) else if eqi t.2.2.2.2.2.1 4=true then zC (Be (t,2,())) fun y=>some (y.1,()) else if eqi t.2.2.2.2.2.1 3=true then zC (KT (t,())) fun y=>some (y.1,()) else if eqi t.2.2.2.2.2.1 2=true then zC (VZ (t,())) fun y=>some (y.1,()) else if eqi t.2.2.2.2.2.1 1=true then zC (Be (t,1,())) fun y=>some (y.1,()) else if eqi t.2.2.2.2.2.1 0=true then zH else zH
def Wj(j1:Bool->fZ->Int×Int×Int×Int×Unit×Unit->Option dT)(t:fZ):Option dT :=
 if ge (cvt .i64 t.2.2.2.2.2.1) 8=true then j1 true t (0,0,0,0,(),()) else j1 (eqi t.2.2.2.2.2.1 0) t (0,0,0,0,(),())
def agF:=Wi
def NZ(x:As aN):Option dT:=Wj agF x.1
abbrev pE1:=zp agC agD 117 Wh
theorem awe{J a b c}:pE1 J 14 [] (agE a b c)=Wi a b c:=by kernel_rfl
abbrev pE0:=zj agC agD 117 Wh
theorem awf:C (pE0 14 []) agE=agF:=gNC (by decide) fun _=>awe
theorem awg:ak Tryz.prog (fun _=>True) 117 ⟨Wh,NZ⟩:=zcc (env:=agC) (d:=6) (hs:=Ev.get agD) (aj Ev.gq (aj aoj (aj asq (aj aos (aj aot (aj aou (aj ast (aj asv (aj asw (aj asx (aj aov (aj aoy av)))))))))))) (fun J x=>Wj (C (J 14 []) agE) x.1) (fun _ _=>by kernel_rfl) fun _=>by rw[awf]<;>rfl
@[reducible] def bN:List Ty:=[.pr aC mR,.sl (.int .u8)]
@[reducible] def HY:Sh:=⟨[.d aX],[],aN,[.d aX,.d aJ],[],0,bN⟩
def agG:Env:=(cts [(116,(⟨an9,Hr⟩:Ct)),(117,(⟨Wh,NZ⟩:Ct))])
def agH:List (Nat×Hint):=[(3,⟨[],[1,2,4,5,6]⟩)]
def agI(frame:List Int)(err:Int)(t:fZ)(t2:zF7)(p:zF4):St:=⟨[(1,.pb 0 0),(2,.pb 1 0),(4,.pb 2 0),(5,dL frame),(6,dI err)],23,[],[(0,.box 33 (fJ t [])),(1,.box 33 [d8 t2.1.1,d8 t2.1.2.1,dI t2.1.2.2.1,dI t2.1.2.2.2.1,dB t2.1.2.2.2.2.1,d8 t2.1.2.2.2.2.2.1.1,d6 t2.1.2.2.2.2.2.1.2.1,d6 t2.1.2.2.2.2.2.1.2.2.1,d6 t2.1.2.2.2.2.2.1.2.2.2.1,.k (zK zH 0 0),.k (zK zH 0 0),d6 t2.1.2.2.2.2.2.2.1,dI t2.1.2.2.2.2.2.2.2.1,dI t2.1.2.2.2.2.2.2.2.2,d6 t2.2.1,d2 t2.2.2.1,.k (zK zH 0 0),d8 t2.2.2.2.2.1,d8 t2.2.2.2.2.2.1,dI t2.2.2.2.2.2.2.1,dI t2.2.2.2.2.2.2.2.1,d8 t2.2.2.2.2.2.2.2.2]),(2,.box 29 [d8 p.1,d8 p.2.1,dI p.2.2.1,dI p.2.2.2.1,dB p.2.2.2.2.1,d8 p.2.2.2.2.2.1.1,d6 p.2.2.2.2.2.1.2.1,d6 p.2.2.2.2.2.1.2.2.1,d6 p.2.2.2.2.2.1.2.2.2.1,dW p.2.2.2.2.2.1.2.2.2.2.1,.d (.sl .bool) p.2.2.2.2.2.1.2.2.2.2.2,d6 p.2.2.2.2.2.2.1,dI p.2.2.2.2.2.2.2.1,dI p.2.2.2.2.2.2.2.2])],3,[],0⟩
def aoz(frame:List Int)(err:Int)(t:fZ)(t2:zF7)(p:zF4):Option (As bN) :=
 if nei err 0=true then some (t,[],()) else some ((p,t.2),frame,())
def Wk(j1:List Int->Int->fZ->kU×Int×Int×Unit×Int×Int×Int×Int×Int->Int×Int×Int×Int×Bool×vY×Int×Int×Int->Option (As bN))(t:fZ):Option (As bN) :=
 amb (au HY.rs) [zC (NZ (t,())) fun y=>amb (au HY.rs) [zC (Hr (t.1,y.1,())) fun y=>j1 y.2.1 y.2.2.1 t ((0,0,0,0,false,(0,0,0,0,(),()),0,0,0),0,0,(),0,0,0,0,0) y.1,zC (Hr (t.1,y.1,())) fun y=>j1 y.2.1 y.2.2.1 t ((0,0,0,0,false,(0,0,0,0,(),()),0,0,0),0,0,(),0,0,0,0,0) y.1],zC (NZ (t,())) fun y=>zC (Hr (t.1,y.1,())) fun y=>j1 y.2.1 y.2.2.1 t ((0,0,0,0,false,(0,0,0,0,(),()),0,0,0),0,0,(),0,0,0,0,0) y.1]
def agJ:=aoz
def y5(x:As aN):Option (As bN):=Wk agJ x.1
abbrev pE3:=zp agG agH 57 HY
theorem awh{J a b c d e}:pE3 J 3 [] (agI a b c d e)=aoz a b c d e:=by kernel_rfl
abbrev pE2:=zj agG agH 57 HY
theorem awi:C (pE2 3 []) agI=agJ:=gNC (by decide) fun _=>awh
theorem agK:ak Tryz.prog (fun _=>True) 57 ⟨HY,y5⟩:=zcc (env:=agG) (d:=6) (hs:=Ev.get agH) (aj avs (aj awg av)) (fun J x=>Wk (C (J 3 []) agI) x.1) (fun _ _=>by kernel_rfl) fun _=>by rw[awi]<;>rfl
@[reducible] def aoA:Sh:=⟨[.d (.int .u8)],[],[.int .u8],[.d (.int .u8),.d (.bool)],[],0,[.int .u8,.bool]⟩
def agL(goal:Int):Option (As [.int .u8,.bool]) :=
 if eqi goal 1=true then some (1,true,()) else if eqi goal 2=true then some (5,true,()) else if eqi goal 3=true then some (6,true,()) else some (0,false,())
def Wl(x:As [.int .u8]):Option (As [.int .u8,.bool]):=agL x.1
theorem awj:ak Tryz.prog (fun _=>True) 62 ⟨aoA,Wl⟩:=ctn av 6 fun J x=>by kernel_rfl
@[reducible] def Wm:Sh:=⟨[.d (.sl bq)],[],[.sl bq],[.d (.bool)],[],0,[.bool]⟩
def agM:Env:=(cts [(26,(⟨Ht,qK⟩:Ct))])
def agN:List (Nat×Hint):=[(58,⟨[],[8,9,10]⟩)]
def Wo(t8:zF1)(t9 t10:Int):St:=⟨[(8,.d (.sl bq) t8),(9,dI t9),(10,dI t10)],18,[],[],0,[],0⟩
@[reducible] def zF8:Type:=List (Int×List Int)->Int->Int->Option aE
def HZ(self1:zF8)(t8:zF1)(t9 t10:Int):Option aE :=
 if lt t10 t9=true then zC (at? t8 t10) fun y=>zC (qK (y,())) fun y=>if (!y.1)=true then some (false,()) else self1 t8 t9 (add .i64 t10 1) else some (true,())
def Wp(j1:zF8)(l:zF1):Option aE :=
 if gt (zF (zG l)) 8=true then some (false,()) else j1 l (zF (zG l)) 0
def Wq(t8:zF1)(t9 t10:Int):Option aE :=
 cu (fun self s=>HZ (fun t8 t9 t10=>self (t8,t9,t10)) s.1 s.2.1 s.2.2) 18446744073709551616 (t8,t9,t10)
def Ws(x:As [.sl bq]):Option aE:=Wp Wq x.1
abbrev pEr:=zp agM agN 63 Wm
theorem awk{J w1 a b c}:pEr J 58 [w1] (Wo a b c)=HZ (C w1 Wo) a b c:=by kernel_rfl
abbrev pEq:=zj agM agN 63 Wm
theorem awl:C (pEq 58 []) Wo=Wq:=gLC (by decide) (by kernel_rfl) (fun _=>by unfold Wq;rfl) fun _ _=>awk.trans (by kernel_rfl)
theorem awm:ak Tryz.prog (fun _=>True) 63 ⟨Wm,Ws⟩:=zcc (env:=agM) (d:=6) (hs:=Ev.get agN) (aj Ei av) (fun J x=>Wp (C (J 58 []) Wo) x.1) (fun _ _=>by kernel_rfl) fun _=>by rw[awl]<;>rfl
@[reducible] def cE:List Ty:=[.pr aC mR,.sl (.int .u8),.int .i64]
@[reducible] def N5:Sh:=⟨[.d aX,.d (.int .u8),.d (.int .u32),.d (.sl bq)],[],[.pr aC mR,.int .u8,.int .u32,.sl bq],[.d aX,.d aJ,.d (.int .i64)],[],0,cE⟩
def agO:Env:=(cts [(54,(⟨anL,Ed⟩:Ct)),(57,(⟨HY,y5⟩:Ct)),(62,(⟨aoA,Wl⟩:Ct)),(63,(⟨Wm,Ws⟩:Ct)),(64,(⟨VJ,Bf⟩:Ct)),(65,(⟨UH,Nb⟩:Ct))])
def agP:List (Nat×Hint):=[(15,⟨[.agd 3 (.sl bq)],[1,2,3,4,8,11]⟩),(14,⟨[],[1,2,3,4,8,11,24]⟩)]
def agQ(goal tx:Int)(l:zF1)(at':Int)(t24:Bool)(t:fZ)(t8:zF7):St:=⟨[(1,d8 goal),(2,d2 tx),(3,.d (.sl bq) l),(4,.pb 0 0),(8,.pb 1 0),(11,d8 at'),(24,dB t24)],57,[],[(0,.box 33 (fJ t [])),(1,.box 33 [d8 t8.1.1,d8 t8.1.2.1,dI t8.1.2.2.1,dI t8.1.2.2.2.1,dB t8.1.2.2.2.2.1,d8 t8.1.2.2.2.2.2.1.1,d6 t8.1.2.2.2.2.2.1.2.1,d6 t8.1.2.2.2.2.2.1.2.2.1,d6 t8.1.2.2.2.2.2.1.2.2.2.1,.k (zK zH 0 0),.k (zK zH 0 0),d6 t8.1.2.2.2.2.2.2.1,dI t8.1.2.2.2.2.2.2.2.1,dI t8.1.2.2.2.2.2.2.2.2,d6 t8.2.1,d2 t8.2.2.1,.k (zK zH 0 0),d8 t8.2.2.2.2.1,d8 t8.2.2.2.2.2.1,dI t8.2.2.2.2.2.2.1,dI t8.2.2.2.2.2.2.2.1,d8 t8.2.2.2.2.2.2.2.2])],2,[],0⟩
def agR(goal tx:Int)(l:zF1)(at':Int)(t:fZ)(t8:zF7):St:=⟨[(1,d8 goal),(2,d2 tx),(3,.d (.sl bq) l),(4,.pb 0 0),(8,.pb 1 0),(11,d8 at')],57,[],[(0,.box 33 (fJ t [])),(1,.box 33 [d8 t8.1.1,d8 t8.1.2.1,dI t8.1.2.2.1,dI t8.1.2.2.2.1,dB t8.1.2.2.2.2.1,d8 t8.1.2.2.2.2.2.1.1,d6 t8.1.2.2.2.2.2.1.2.1,d6 t8.1.2.2.2.2.2.1.2.2.1,d6 t8.1.2.2.2.2.2.1.2.2.2.1,.k (zK zH 0 0),.k (zK zH 0 0),d6 t8.1.2.2.2.2.2.2.1,dI t8.1.2.2.2.2.2.2.2.1,dI t8.1.2.2.2.2.2.2.2.2,d6 t8.2.1,d2 t8.2.2.1,.k (zK zH 0 0),d8 t8.2.2.2.2.1,d8 t8.2.2.2.2.2.1,dI t8.2.2.2.2.2.2.1,dI t8.2.2.2.2.2.2.2.1,d8 t8.2.2.2.2.2.2.2.2])],2,[],0⟩
def H6(j2:Int->Int->List (Int×List Int)->Int->fZ->kU×Int×Int×Unit×Int×Int×Int×Int×Int->Option (As cE))(goal tx:Int)(l:zF1)(at':Int)(t24:Bool)(t:fZ)(t8:zF7):Option (As cE) :=
 if t24=true then zC (Ed (t,())) fun y=>some (y.1,[],2,()) else if nei goal 1=true then j2 goal tx [] at' t ((t8.1.1,t8.1.2.1,t8.1.2.2.1,t8.1.2.2.2.1,t8.1.2.2.2.2.1,(t8.1.2.2.2.2.2.1.1,t8.1.2.2.2.2.2.1.2.1,t8.1.2.2.2.2.2.1.2.2.1,t8.1.2.2.2.2.2.1.2.2.2.1,(),()),t8.1.2.2.2.2.2.2),t8.2) else j2 goal tx l at' t ((t8.1.1,t8.1.2.1,t8.1.2.2.1,t8.1.2.2.2.1,t8.1.2.2.2.2.1,(t8.1.2.2.2.2.2.1.1,t8.1.2.2.2.2.2.1.2.1,t8.1.2.2.2.2.2.1.2.2.1,t8.1.2.2.2.2.2.1.2.2.2.1,(),()),t8.1.2.2.2.2.2.2),t8.2)
def Wt(goal tx:Int)(l:zF1)(at':Int)(t:fZ)(t8:zF7):Option (As cE) :=
 zC (Ws (l,())) fun y=>if (!y.1)=true then zC (Ed (t,())) fun y=>some (y.1,[],20,()) else zC (Bf (t.1,())) fun y=>zC (Nb (l,())) fun y_1=>zC (y5 ((y.1,t.2.1,tx,y_1.1,goal,at',0,0,0),())) fun y=>some (y.1,y.2.1,0,())
def Wu(j1:Int->Int->List (Int×List Int)->Int->Bool->fZ->kU×Int×Int×Unit×Int×Int×Int×Int×Int->Option (As cE))(t:fZ)(goal tx:Int)(l:zF1):Option (As cE) :=
 zC (Wl (goal,())) fun y=>if (!y.2.1)=true then j1 goal tx l y.1 true t ((0,0,0,0,false,(0,0,0,0,(),()),0,0,0),0,0,(),0,0,0,0,0) else j1 goal tx l y.1 (eqi tx 0) t ((0,0,0,0,false,(0,0,0,0,(),()),0,0,0),0,0,(),0,0,0,0,0)
def N6:=Wt
def Wv:=H6 (N6)
def sV(x:As [.pr aC mR,.int .u8,.int .u32,.sl bq]):Option (As cE):=Wu Wv x.1 x.2.1 x.2.2.1 x.2.2.2.1
abbrev pEh:=zp agO agP 25 N5
theorem awn{J a b c d e f}:pEh J 15 [] (agR a b c d e f)=Wt a b c d e f:=by kernel_rfl
theorem awo{J a b c d e f g}:pEh J 14 [] (agQ a b c d e f g)=H6 (C (J 15 []) agR) a b c d e f g:=by kernel_rfl
abbrev pEg:=zj agO agP 25 N5
theorem awp:C (pEg 15 []) agR=N6:=gNC (by decide) fun _=>awn
theorem awq:C (pEg 14 []) agQ=Wv:=gNC (by decide) fun _=>awo.trans (by rw[awp]<;>kernel_rfl)
theorem aoB:ak Tryz.prog (fun _=>True) 25 ⟨N5,sV⟩:=zcc (env:=agO) (d:=6) (hs:=Ev.get agP) (aj UL (aj agK (aj awj (aj awm (aj VK (aj anK av)))))) (fun J x=>Wu (C (J 14 []) agQ) x.1 x.2.1 x.2.2.1 x.2.2.2.1) (fun _ _=>by kernel_rfl) fun _=>by rw[awq]<;>rfl
@[reducible] def aF:List Ty:=[.bool,.pr aC mR,.pr (.int .u8) aA,.int .u32,.int .u32,.sl (.sl bq),.sl gX]
@[reducible] def Bh:Sh:=⟨[.pb 0 0,.d (.bool)],[(prG 1),.que gX 63],aF,[.d (.bool)],[(0,(prG 2)),(2,.que gX 63)],1,aF⟩
def agS:Env:=(cts [(1000048,Ev.gU),(9000046,Ev.gU),(9999999,Ev.gU),(20,(⟨G7,A8⟩:Ct)),(25,(⟨N5,sV⟩:Ct))])
def agT:List (Nat×Hint):=[(7,⟨[],[0,5,6]⟩),(15,⟨[],[0,5,6]⟩),(31,⟨[],[0,6,7,8,9]⟩),(28,⟨[],[0,1,5,6,15,46,47,48,49,50,51,52,53,54,68,69,70,71,72,73]⟩),(115,⟨[],[0,5,6,38,68,69,70,71,72,73]⟩),(463,⟨[],[0,5,6,60]⟩)]
@[reducible] def zF9:Type:=List (Bool×List Int)
def agU(alt:Bool)(goal tx:Int)(t15:Bool)(p:(fZ)×(jv)×Unit×Int×Int×List aG)(o:zF9):St:=⟨[(0,.pb 0 0),(1,dB alt),(5,d8 goal),(6,d2 tx),(15,dB t15)],108,[],[(0,.box 48 (fJ p.1 (slC p.2.1 [.row 1,d2 p.2.2.2.1,d2 p.2.2.2.2.1,.d cC p.2.2.2.2.2]))),(1,.que gX 63 o)],2,[],2⟩
def N7(goal tx:Int)(p:(fZ)×(jv)×Unit×Int×Int×List aG)(o:zF9):St:=⟨[(0,.pb 0 0),(5,d8 goal),(6,d2 tx)],108,[],[(0,.box 48 (fJ p.1 (slC p.2.1 [.row 1,d2 p.2.2.2.1,d2 p.2.2.2.2.1,.d cC p.2.2.2.2.2]))),(1,.que gX 63 o)],2,[],2⟩
def agV(goal tx:Int)(t38:Bool)(p:(fZ)×(jv)×Unit×Int×Int×List aG)(o:zF9):St:=⟨[(0,.pb 0 0),(5,d8 goal),(6,d2 tx),(38,dB t38)],108,[],[(0,.box 48 (fJ p.1 (slC p.2.1 [.row 1,d2 p.2.2.2.1,d2 p.2.2.2.2.1,.d cC p.2.2.2.2.2]))),(1,.que gX 63 o)],2,[],2⟩
def agW(goal tx:Int)(p:(fZ)×(jv)×Unit×Int×Int×List aG)(o:zF9):St:=⟨[(0,.pb 0 0),(5,d8 goal),(6,d2 tx)],108,[],[(0,.box 48 (fJ p.1 (slC p.2.1 [.row 1,d2 p.2.2.2.1,d2 p.2.2.2.2.1,.d cC p.2.2.2.2.2]))),(1,.que gX 63 o)],2,[],2⟩
def agX(goal tx:Int)(t60:Bool)(p:(fZ)×(jv)×Unit×Int×Int×List aG)(o:zF9):St:=⟨[(0,.pb 0 0),(5,d8 goal),(6,d2 tx),(60,dB t60)],108,[],[(0,.box 48 (fJ p.1 (slC p.2.1 [.row 1,d2 p.2.2.2.1,d2 p.2.2.2.2.1,.d cC p.2.2.2.2.2]))),(1,.que gX 63 o)],2,[],2⟩
def agY(tx:Int)(b:List Int)(e:Int)(p:(fZ)×(jv)×Unit×Int×Int×List aG)(o:zF9)(t:fZ):St:=⟨[(0,.pb 0 0),(6,d2 tx),(7,.pb 2 0),(8,dL b),(9,dI e)],108,[],[(0,.box 48 (fJ p.1 (slC p.2.1 [.row 1,d2 p.2.2.2.1,d2 p.2.2.2.2.1,.d cC p.2.2.2.2.2]))),(1,.que gX 63 o),(2,.box 33 (fJ t []))],3,[],2⟩
@[reducible] def cT:Type:=As aF
def asy(j2:Int->Int->(fZ)×(jv)×Unit×Int×Int×List aG->List (Bool×List Int)->Option cT)(j3:Int->Int->Bool->(fZ)×(jv)×Unit×Int×Int×List aG->List (Bool×List Int)->Option cT)(alt:Bool)(goal tx:Int)(t15:Bool)(p:(fZ)×(jv)×Unit×Int×Int×List aG)(o:zF9):Option cT :=
 if t15=true then j2 2 p.2.2.2.1 p o else if eqi p.1.2.2.2.2.1 1=true then if alt=true then j3 goal tx true p o else j3 goal tx (eqi p.1.2.2.2.2.2.2.2.2 2) p o else j3 goal tx false p o
def Ww(j4:Int->Int->(fZ)×(jv)×Unit×Int×Int×List aG->List (Bool×List Int)->Option cT)(goal tx:Int)(p:(fZ)×(jv)×Unit×Int×Int×List aG)(o:zF9):Option cT :=
 if eqi goal 2=true then j4 goal tx (p.1,p.2.1,(),p.2.2.2.1,tx,p.2.2.2.2.2) o else j4 goal tx p o
def asz(j2:Int->Int->(fZ)×(jv)×Unit×Int×Int×List aG->List (Bool×List Int)->Option cT)(j5:Int->Int->Bool->(fZ)×(jv)×Unit×Int×Int×List aG->List (Bool×List Int)->Option cT)(goal tx:Int)(t38:Bool)(p:(fZ)×(jv)×Unit×Int×Int×List aG)(o:zF9):Option cT :=
 if t38=true then j2 3 p.2.2.2.1 p o else if nei p.1.2.2.2.2.1 0=true then j5 goal tx (eqi p.1.2.2.2.2.2.2.2.2 0) p o else j5 goal tx false p o
def Wx(j6:Int->List Int->Int->(fZ)×(jv)×Unit×Int×Int×List aG->List (Bool×List Int)->fZ->Option cT)(goal tx:Int)(p:(fZ)×(jv)×Unit×Int×Int×List aG)(o:zF9):Option cT :=
 amb (au Bh.rs) [if eqi (zF (zG p.2.2.2.2.2)) 0=true then amb (au Bh.rs) [zC (sV (p.1,goal,tx,[],())) fun y=>j6 tx y.2.1 y.2.2.1 p o y.1,zC (sV (p.1,goal,tx,[],())) fun y=>j6 tx y.2.1 y.2.2.1 p o y.1] else need (nei (zF (zG p.2.2.2.2.2)) 0) (zC (at? p.2.2.2.2.2 (rem (cvt .i64 tx) (zF (zG p.2.2.2.2.2)))) fun y=>amb (au Bh.rs) [zC (sV (p.1,goal,tx,y,())) fun y=>j6 tx y.2.1 y.2.2.1 p o y.1,zC (sV (p.1,goal,tx,y,())) fun y=>j6 tx y.2.1 y.2.2.1 p o y.1]),if eqi (zF (zG p.2.2.2.2.2)) 0=true then zC (sV (p.1,goal,tx,[],())) fun y=>j6 tx y.2.1 y.2.2.1 p o y.1 else need (nei (zF (zG p.2.2.2.2.2)) 0) (zC (at? p.2.2.2.2.2 (rem (cvt .i64 tx) (zF (zG p.2.2.2.2.2)))) fun y=>zC (sV (p.1,goal,tx,y,())) fun y=>j6 tx y.2.1 y.2.2.1 p o y.1)]
def Wy(j2:Int->Int->(fZ)×(jv)×Unit×Int×Int×List aG->List (Bool×List Int)->Option cT)(goal tx:Int)(t60:Bool)(p:(fZ)×(jv)×Unit×Int×Int×List aG)(o:zF9):Option cT :=
 if t60=true then some (true,p.1,(iE p.2.1),p.2.2.2.1,p.2.2.2.2.1,p.2.2.2.2.2,o,()) else j2 goal tx p o
def Wz(tx:Int)(b:List Int)(e:Int)(p:(fZ)×(jv)×Unit×Int×Int×List aG)(o:zF9)(t:fZ):Option cT :=
 zC (A8 (b,t,(iE p.2.1),tx,p.2.2.2.2.1,p.2.2.2.2.2,o,())) fun y=>some (eqi e 0,y.1,(iE y.2.1),y.2.2.1,y.2.2.2.1,y.2.2.2.2.1,y.2.2.2.2.2.1,())
def WA(j1:Bool->Int->Int->Bool->(fZ)×(jv)×Unit×Int×Int×List aG->List (Bool×List Int)->Option cT)(p:Bool)(alt:fZ)(p_2:jv)(alt_2 v:Int)(goal:List aG)(tx:zF9):Option cT :=
 if eqi alt.2.2.2.2.1 1=true then if eqi alt.2.2.2.2.2.2.2.2 1=true then j1 p 1 (add .u32 alt_2 1) (!p) (alt,p_2,(),alt_2,v,goal) tx else j1 p 1 (add .u32 alt_2 1) false (alt,p_2,(),alt_2,v,goal) tx else j1 p 1 (add .u32 alt_2 1) false (alt,p_2,(),alt_2,v,goal) tx
def N8:=Wz
def WB:=Wx (N8)
def y7:=Ww (WB)
def N9:=Wy (y7)
def H7:=asz (y7) (N9)
def WC:=asy (y7) (H7)
def H8(x:As aF):Option cT:=WA WC x.1 x.2.1 x.2.2.1 x.2.2.2.1 x.2.2.2.2.1 x.2.2.2.2.2.1 x.2.2.2.2.2.2.1
abbrev pBh:=zp agS agT 10 Bh
theorem awr{J a b c d e f}:pBh J 31 [] (agY a b c d e f)=Wz a b c d e f:=by kernel_rfl
theorem aws{J a b c d}:pBh J 15 [] (agW a b c d)=Wx (C (J 31 []) agY) a b c d:=by kernel_rfl
theorem awt{J a b c d}:pBh J 7 [] (N7 a b c d)=Ww (C (J 15 []) agW) a b c d:=by kernel_rfl
theorem awu{J a b c d e}:pBh J 463 [] (agX a b c d e)=Wy (C (J 7 []) N7) a b c d e:=by kernel_rfl
theorem awv{J a b c d e}:pBh J 115 [] (agV a b c d e)=asz (C (J 7 []) N7) (C (J 463 []) agX) a b c d e:=by kernel_rfl
theorem aww{J a b c d e f}:pBh J 28 [] (agU a b c d e f)=asy (C (J 7 []) N7) (C (J 115 []) agV) a b c d e f:=by kernel_rfl
abbrev pBg:=zj agS agT 10 Bh
theorem awx:C (pBg 31 []) agY=N8:=gNC (by decide) fun _=>awr
theorem awy:C (pBg 15 []) agW=WB:=gNC (by decide) fun _=>aws.trans (by rw[awx]<;>kernel_rfl)
theorem agZ:C (pBg 7 []) N7=y7:=gNC (by decide) fun _=>awt.trans (by rw[awy]<;>kernel_rfl)
theorem awz:C (pBg 463 []) agX=N9:=gNC (by decide) fun _=>awu.trans (by rw[agZ]<;>kernel_rfl)
theorem awC:C (pBg 115 []) agV=H7:=gNC (by decide) fun _=>awv.trans (by rw[agZ,awz]<;>kernel_rfl)
theorem awD:C (pBg 28 []) agU=WC:=gNC (by decide) fun _=>aww.trans (by rw[agZ,awC]<;>kernel_rfl)
theorem asA:ak Tryz.prog (fun _=>True) 10 ⟨Bh,H8⟩:=zcc (env:=agS) (d:=6) (hs:=Ev.get agT) (aj Ev.gq (aj Ev.gq (aj Ev.gq (aj aeC (aj aoB av))))) (fun J x=>WA (C (J 28 []) agU) x.1 x.2.1 x.2.2.1 x.2.2.2.1 x.2.2.2.2.1 x.2.2.2.2.2.1 x.2.2.2.2.2.2.1) (fun _ _=>by kernel_rfl) fun _=>by rw[awD]<;>rfl
end Go.Proofs.Lx
end
