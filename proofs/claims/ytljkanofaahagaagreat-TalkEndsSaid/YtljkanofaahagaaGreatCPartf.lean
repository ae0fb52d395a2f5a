/- Proved in the last of these 15 parts (this is part 6): TalkEnds. Conditions: those of the given statement, and no others. -/
import Derived.Test.YtljkanofaahagaaGreatCPartd
import Derived.Test.YtljkanofaahagaaGreatCParte
import Derived.Test.YtljkanofaahagaaGreatProg
set_option linter.unusedVariables false
set_option linter.unusedSimpArgs false
set_option linter.unusedSectionVars false
open Option renaming bind → zC, none → zH
open Int renaming ofNat → zF, toNat → zI
open List renaming length → zG
open Go.Value renaming slice → zK
noncomputable section
open Go Go.Proofs Ev Sx
set_option maxRecDepth 100000
namespace Go.Proofs.Lx
abbrev fq:Type:=Lv×Int×Int×List (Int×List Int)×Int×Int×Int×Int×Int
abbrev iQ:Type:=Int×Int×jq×List Bool
@[reducible] def adL:Sh:=⟨[.d aJ],[],aI,[.d (.int .u32)],[],0,[.int .u32]⟩
def adM:Env:=(cts [(298,(⟨T8,Ua⟩:Ct))])
def adN:List (Nat×Hint):=[(7,⟨[],[3]⟩),(58,⟨[],[0,3,6,7]⟩)]
def Ub(b:List Int)(sum t6 t7:Int):St:=⟨[(0,dL b),(3,d2 sum),(6,dI t6),(7,dI t7)],19,[],[],0,[],0⟩
def adO(sum:Int):St:=⟨[(3,d2 sum)],19,[],[],0,[],0⟩
def Gb(j2:Int->Option aQ)(self1:List Int->Int->Int->Int->Option aQ)(b:List Int)(sum t6 t7:Int):Option aQ :=
 if lt t7 t6=true then zC (at? b t7) fun y=>zC (Ua (sum,y,())) fun y=>self1 b y.1 t6 (add .i64 t7 1) else j2 sum
def Uc(sum:Int):Option aQ :=
 some (zF (BitVec.toNat { toFin:=⟨4294967295 ^^^ BitVec.toNat { toFin:=⟨zI (sum%4294967296),BitVec.ofInt._proof_1 (Go.IntKind.bits .u32) sum⟩ },BitVec.xor._proof_1 (BitVec.ofInt (Go.IntKind.bits .u32) (if Go.IntKind.signed .u32=true then -1 else Go.IntKind.max .u32)) (BitVec.ofInt (Go.IntKind.bits .u32) sum)⟩ } % 4294967296),())
def alU(j1:List Int->Int->Int->Int->Option aQ)(b:List Int):Option aQ :=
 j1 b 4294967295 (zF (zG b)) 0
def alV:=Uc
def L8(b:List Int)(sum t6 t7:Int):Option aQ :=
 bu (fun self s=>Gb (alV) (fun b sum t6 t7=>self (b,sum,t6,t7)) s.1 s.2.1 s.2.2.1 s.2.2.2) 18446744073709551616 (b,sum,t6,t7)
def adP(x:As aI):Option aQ:=alU L8 x.1
abbrev pD5:=zp adM adN 286 adL
theorem asY{J a}:pD5 J 7 [] (adO a)=Uc a:=by kernel_rfl
theorem asZ{J w1 a b c d}:pD5 J 58 [w1] (Ub a b c d)=Gb (C (J 7 []) adO) (C w1 Ub) a b c d:=by kernel_rfl
abbrev pD4:=zj adM adN 286 adL
theorem as0:C (pD4 7 []) adO=alV:=gNC (by decide) fun _=>asY
theorem as1:C (pD4 58 []) Ub=L8:=gLC (by decide) (by kernel_rfl) (fun _=>by unfold L8;rfl) fun _ _=>asZ.trans (by rw[as0]<;>kernel_rfl)
theorem as2:ak Tryz.prog (fun _=>True) 286 ⟨adL,adP⟩:=zcc (env:=adM) (d:=6) (hs:=Ev.get adN) (aj asX av) (fun J x=>alU (C (J 58 []) Ub) x.1) (fun _ _=>by kernel_rfl) fun _=>by rw[as1]<;>rfl
@[reducible] def adR:Sh:=⟨[.d aC],[],aK,[.d aJ],[],0,aI⟩
def adS:Env:=(cts [])
def adT:List (Nat×Hint):=[(58,⟨[],[0,3,10,11]⟩)]
def Ud(l:List Int)(t10 t11:Int)(b:List Int):St:=⟨[(0,dW l),(3,.row 0),(10,dI t10),(11,dI t11)],36,[],[(0,.row (.int .u8) 5 b)],1,[],0⟩
@[reducible] def zF0:Type:=List Int->Int->Int->List Int->Option bT
def L9(self1:zF0)(l:List Int)(t10 t11:Int)(b:List Int):Option bT :=
 if lt t11 t10=true then zC (at? l t11) fun y=>zC (at? l t11) fun y_1=>zC (at? b (mul .i64 2 t11)) fun x=>zC (at? b (mul .i64 2 t11)) fun x=>zC (at? (List.set b (zI (mul .i64 2 t11)) (cvt .u8 (Sx.shr .u16 y 8))) (add .i64 (mul .i64 2 t11) 1)) fun x=>zC (at? (List.set b (zI (mul .i64 2 t11)) (cvt .u8 (Sx.shr .u16 y 8))) (add .i64 (mul .i64 2 t11) 1)) fun x=>self1 l t10 (add .i64 t11 1) (List.set (List.set b (zI (mul .i64 2 t11)) (cvt .u8 (Sx.shr .u16 y 8))) (zI (add .i64 (mul .i64 2 t11) 1)) (cvt .u8 y_1)) else some (b,())
def Ue(j1:zF0)(l:List Int):Option bT :=
 need (ge (mul .i64 2 (zF (zG l))) 0) (need (Ev.iX (mul .i64 2 (zF (zG l))) (mul .i64 2 (zF (zG l)))) (need (small (zI (mul .i64 2 (zF (zG l))))) (j1 l (zF (zG l)) 0 (List.replicate (zI (mul .i64 2 (zF (zG l)))) 0))))
def Ma(l:List Int)(t10 t11:Int)(b:List Int):Option bT :=
 bu (fun self s=>L9 (fun l t10 t11 b=>self (l,t10,t11,b)) s.1 s.2.1 s.2.2.1 s.2.2.2) 18446744073709551616 (l,t10,t11,b)
def adU(x:As aK):Option bT:=Ue Ma x.1
abbrev pEz:=zp adS adT 287 adR
theorem as3{J w1 a b c d}:pEz J 58 [w1] (Ud a b c d)=L9 (C w1 Ud) a b c d:=by kernel_rfl
abbrev pEy:=zj adS adT 287 adR
theorem as4:C (pEy 58 []) Ud=Ma:=gLC (by decide) (by kernel_rfl) (fun _=>by unfold Ma;rfl) fun _ _=>as3.trans (by kernel_rfl)
theorem as5:ak Tryz.prog (fun _=>True) 287 ⟨adR,adU⟩:=zcc (env:=adS) (d:=6) (hs:=Ev.get adT) av (fun J x=>Ue (C (J 58 []) Ud) x.1) (fun _ _=>by kernel_rfl) fun _=>by rw[as4]<;>rfl
@[reducible] def alW:Sh:=⟨[.d aC],[],aK,[.d (.int .u32)],[],0,[.int .u32]⟩
def adV(l:List Int):Option aQ :=
 zC (adU (l,())) fun y=>zC (adP (y.1,())) fun y=>some (y.1,())
def Uf(x:As aK):Option aQ:=adV x.1
theorem as6:ak Tryz.prog (fun _=>True) 268 ⟨alW,Uf⟩:=ctn (aj as2 (aj as5 av)) 6 fun J x=>by kernel_rfl
@[reducible] def Mb:Sh:=⟨[.d (.sl cr)],[],[.sl cr],[.d (.int .u32)],[],0,[.int .u32]⟩
def adW:Env:=(cts [(267,(⟨LX,Da⟩:Ct)),(268,(⟨alW,Uf⟩:Ct))])
def adX:List (Nat×Hint):=[(7,⟨[],[3]⟩),(58,⟨[.row 3 25],[3,6,7,8]⟩)]
@[reducible] def zF1:Type:=List (Int×List Int)
def Ug(t6:zF1)(t7 t8:Int)(all:List Int):St:=⟨[(3,.row 0),(6,.d (.sl cr) t6),(7,dI t7),(8,dI t8)],19,[],[(0,.row (.int .u16) 25 all)],1,[],0⟩
def adY(all:List Int):St:=⟨[(3,.row 0)],19,[],[(0,.row (.int .u16) 25 all)],1,[],0⟩
@[reducible] def zF2:Type:=List (Int×List Int)->Int->Int->List Int->Option aQ
def Gc(j2:List Int->Option aQ)(self1:zF2)(t6:zF1)(t7 t8:Int)(all:List Int):Option aQ :=
 if lt t8 t7=true then zC (at? t6 t8) fun y=>zC (Da (y,())) fun y=>need (small (zG all+zG y.1)) (self1 t6 t7 (add .i64 t8 1) (all++y.1)) else j2 all
def Uh(all:List Int):Option aQ :=
 zC (Uf (all,())) fun y=>some (y.1,())
def alX(j1:zF2)(l:zF1):Option aQ :=
 j1 l (zF (zG l)) 0 []
def adZ:=Uh
def Mc(t6:zF1)(t7 t8:Int)(all:List Int):Option aQ :=
 bu (fun self s=>Gc (adZ) (fun t6 t7 t8 all=>self (t6,t7,t8,all)) s.1 s.2.1 s.2.2.1 s.2.2.2) 18446744073709551616 (t6,t7,t8,all)
def Gd(x:As [.sl cr]):Option aQ:=alX Mc x.1
abbrev pDx:=zp adW adX 242 Mb
theorem as7{J a}:pDx J 7 [] (adY a)=Uh a:=by kernel_rfl
theorem as8{J w1 a b c d}:pDx J 58 [w1] (Ug a b c d)=Gc (C (J 7 []) adY) (C w1 Ug) a b c d:=by kernel_rfl
abbrev pDw:=zj adW adX 242 Mb
theorem as9:C (pDw 7 []) adY=adZ:=gNC (by decide) fun _=>as7
theorem ata:C (pDw 58 []) Ug=Mc:=gLC (by decide) (by kernel_rfl) (fun _=>by unfold Mc;rfl) fun _ _=>as8.trans (by rw[as9]<;>kernel_rfl)
theorem alY:ak Tryz.prog (fun _=>True) 242 ⟨Mb,Gd⟩:=zcc (env:=adW) (d:=6) (hs:=Ev.get adX) (aj adH (aj as6 av)) (fun J x=>alX (C (J 58 []) Ug) x.1) (fun _ _=>by kernel_rfl) fun _=>by rw[ata]<;>rfl
@[reducible] def eN:List Ty:=[.int .u16,.int .u16]
@[reducible] def alZ:Sh:=⟨[.d (.int .u32)],[],[.int .u32],[.d (.int .u16),.d (.int .u16)],[],0,eN⟩
def ad1(x:Int):Option (As eN) :=
 some (cvt .u16 (Sx.shr .u32 x 16),cvt .u16 x,())
def Ac(x:As [.int .u32]):Option (As eN):=ad1 x.1
theorem ad2:ak Tryz.prog (fun _=>True) 269 ⟨alZ,Ac⟩:=ctn av 6 fun J x=>by kernel_rfl
@[reducible] def cI:Ty:=.pr (.int .u16) BR
@[reducible] def al0:Sh:=⟨[.d cI],[],[.pr (.int .u16) BR],[.d aC],[],0,aK⟩
def ad3(c:Int×Int×Int×Int×Int):Option bK :=
 zC (Ac (c.2.2.1,())) fun y=>zC (Ac (c.2.2.2.2,())) fun y_1=>some ([c.1,cvt .u16 c.2.1,y.1,y.2.1,c.2.2.2.1,y_1.1,y_1.2.1,0],())
def Ui(x:As [.pr (.int .u16) BR]):Option bK:=ad3 x.1
theorem atb:ak Tryz.prog (fun _=>True) 243 ⟨al0,Ui⟩:=ctn (aj ad2 av) 6 fun J x=>by kernel_rfl
@[reducible] def cU:List Ty:=[.pr aD lK,.int .u8]
@[reducible] def Md:Sh:=⟨[.d aX,.d (.int .u8)],[],cU,[.d bA],[],0,aW⟩
def ad4:Env:=(cts [(242,(⟨Mb,Gd⟩:Ct)),(243,(⟨al0,Ui⟩:Ct))])
def ad5:List (Nat×Hint):=[(7,⟨[],[4,5]⟩)]
@[reducible] def zF3:Type:=Int×Int×Int×Int×Unit×Unit
def ad6(t4:zF3)(c:Int×Int×Int×Int×Int):St:=⟨[(4,.pb 0 0),(5,.pb 1 0)],26,[],[(0,.box 27 [d8 t4.1,d6 t4.2.1,d6 t4.2.2.1,d6 t4.2.2.2.1,.k (zK zH 0 0),.k (zK zH 0 0)]),(1,.box 104 [d6 c.1,d8 c.2.1,d2 c.2.2.1,d6 c.2.2.2.1,d2 c.2.2.2.2])],2,[],0⟩
def Uj(t4:zF3)(c:Int×Int×Int×Int×Int):Option dD :=
 zC (Ui (c,())) fun y=>some ((23,256,8,272,y.1,[]),())
def Uk(j1:Int×Int×Int×Int×Unit×Unit->Int×Int×Int×Int×Int->Option dD)(t:fq)(v:Int):Option dD :=
 if eqi v 2=true then zC (Gd (t.2.2.2.1,())) fun y=>j1 (0,0,0,0,(),()) (t.2.1,v,t.2.2.1,cvt .u16 (zF (zG t.2.2.2.1)),y.1) else j1 (0,0,0,0,(),()) (t.2.1,v,t.2.2.1,0,0)
def Ul:=Uj
def Ad(x:As cU):Option dD:=Uk Ul x.1 x.2.1
abbrev pEx:=zp ad4 ad5 204 Md
theorem atc{J a b}:pEx J 7 [] (ad6 a b)=Uj a b:=by kernel_rfl
abbrev pEw:=zj ad4 ad5 204 Md
theorem atd:C (pEw 7 []) ad6=Ul:=gNC (by decide) fun _=>atc
theorem al1:ak Tryz.prog (fun _=>True) 204 ⟨Md,Ad⟩:=zcc (env:=ad4) (d:=6) (hs:=Ev.get ad5) (aj alY (aj atb av)) (fun J x=>Uk (C (J 7 []) ad6) x.1 x.2.1) (fun _ _=>by kernel_rfl) fun _=>by rw[atd]<;>rfl
@[reducible] def zF4:Type:=Int×Int×Int×Int×Bool×uS×Int×Int×Int
@[reducible] def ad7:Sh:=⟨[.d aD],[],cB,[.d aD],[],0,cB⟩
def ate(p:zF4):Option (As cB) :=
 some ((p.1,p.2.1,p.2.2.1,p.2.2.2.1,false,(0,0,0,0,[],[]),p.2.2.2.2.2.2.1,0,0),())
def Ae(x:As cB):Option (As cB):=ate x.1
theorem Um:ak Tryz.prog (fun _=>True) 64 ⟨ad7,Ae⟩:=ctn av 6 fun J x=>by kernel_rfl
@[reducible] def Me:Sh:=⟨[.d aX,.d (.int .u8)],[],cU,[.d aX],[],0,aN⟩
def atf(t:fq)(said:Int):Option bP :=
 zC (Ae (t.1,())) fun y=>some ((y.1,t.2.1,t.2.2.1,t.2.2.2.1,t.2.2.2.2.1,0,t.2.2.2.2.2.2.1,t.2.2.2.2.2.2.2.1,said),())
def lM(x:As cU):Option bP:=atf x.1 x.2.1
theorem xR:ak Tryz.prog (fun _=>True) 56 ⟨Me,lM⟩:=ctn (aj Um av) 6 fun J x=>by kernel_rfl
@[reducible] def Un:Sh:=⟨[.d (.int .u16),.d (.int .u16)],[],eN,[.d (.int .u32)],[],0,[.int .u32]⟩
def ad8(high low:Int):Option aQ :=
 some (Sx.bor .u32 (Sx.shl .u32 (cvt .u32 high) 16) (cvt .u32 low),())
def pO(x:As eN):Option aQ:=ad8 x.1 x.2.1
theorem ad9:ak Tryz.prog (fun _=>True) 270 ⟨Un,pO⟩:=ctn av 6 fun J x=>by kernel_rfl
@[reducible] def aP:Ty:=.pr (.int .u8) mg
@[reducible] def aS:List Ty:=[.pr (.int .u8) mg]
@[reducible] def dM:List Ty:=[.pr (.int .u16) ED,.bool]
@[reducible] def Gf:Sh:=⟨[.d aP],[],aS,[.d (.pr (.int .u16) ED),.d (.bool)],[],0,dM⟩
def aea:Env:=(cts [(270,(⟨Un,pO⟩:Ct))])
def aeb:List (Nat×Hint):=[(6,⟨[],[1,2,13]⟩)]
@[reducible] def zF5:Type:=Int×Int×List Bool×List Int×Int×Int
@[reducible] def zF6:Type:=Int×Int×Int×Int
def aec(t13:Bool)(r:zF5)(t2:zF6):St:=⟨[(1,.pb 0 0),(2,.pb 1 0),(13,dB t13)],38,[],[(0,.box 109 [d8 r.1,d8 r.2.1,.d (.sl .bool) r.2.2.1,dW r.2.2.2.1,d6 r.2.2.2.2.1,d6 r.2.2.2.2.2]),(1,.box 301 [d6 t2.1,d6 t2.2.1,d2 t2.2.2.1,d2 t2.2.2.2])],2,[],0⟩
def al2(t13:Bool)(r:zF5)(t2:zF6):Option (As dM) :=
 if t13=true then some ((0,0,0,0),false,()) else zC (at? r.2.2.2.1 0) fun y=>zC (at? r.2.2.2.1 1) fun y_1=>zC (at? r.2.2.2.1 2) fun y_2=>zC (at? r.2.2.2.1 3) fun y_3=>zC (at? r.2.2.2.1 4) fun y_4=>zC (at? r.2.2.2.1 5) fun y_5=>zC (pO (y_2,y_3,())) fun y_6=>zC (pO (y_4,y_5,())) fun y_7=>some ((y,y_1,y_6.1,y_7.1),true,())
def Uo(j1:Bool->Int×Int×List Bool×List Int×Int×Int->Int×Int×Int×Int->Option (As dM))(r:zF5):Option (As dM) :=
 if nei r.2.1 0=true then j1 true r (0,0,0,0) else j1 (nei (zF (zG r.2.2.2.1)) 8) r (0,0,0,0)
def aed:=al2
def vI(x:As aS):Option (As dM):=Uo aed x.1
abbrev pEr:=zp aea aeb 244 Gf
theorem atg{J a b c}:pEr J 6 [] (aec a b c)=al2 a b c:=by kernel_rfl
abbrev pEq:=zj aea aeb 244 Gf
theorem ath:C (pEq 6 []) aec=aed:=gNC (by decide) fun _=>atg
theorem Mf:ak Tryz.prog (fun _=>True) 244 ⟨Gf,vI⟩:=zcc (env:=aea) (d:=6) (hs:=Ev.get aeb) (aj ad9 av) (fun J x=>Uo (C (J 6 []) aec) x.1) (fun _ _=>by kernel_rfl) fun _=>by rw[ath]<;>rfl
@[reducible] def Up:Sh:=⟨[.d (.pr (.int .u16) ED),.d aX],[],[.pr (.int .u16) ED,.pr aD lK],[.d (.bool)],[],0,[.bool]⟩
def aee(s:zF6)(t:fq):Option aF :=
 if eqi s.1 t.2.1=true then some (eqi s.2.2.1 t.2.2.1,()) else some (false,())
def pP(x:As [.pr (.int .u16) ED,.pr aD lK]):Option aF:=aee x.1 x.2.1
theorem Uq:ak Tryz.prog (fun _=>True) 245 ⟨Up,pP⟩:=ctn av 6 fun J x=>by kernel_rfl
@[reducible] def al3:Sh:=⟨[.d aX,.d (.int .u8)],[],cU,[.d aX],[],0,aN⟩
def ati(t:fq)(at':Int):Option bP :=
 some ((t.1,t.2.1,t.2.2.1,t.2.2.2.1,t.2.2.2.2.1,at',t.2.2.2.2.2.2),())
def oM(x:As cU):Option bP:=ati x.1 x.2.1
theorem Gg:ak Tryz.prog (fun _=>True) 249 ⟨al3,oM⟩:=ctn av 6 fun J x=>by kernel_rfl
@[reducible] def aef:Sh:=⟨[.d aX],[],aN,[.d aX],[],0,aN⟩
def aeg(t:fq):Option bP :=
 if ge t.2.2.2.2.2.2.1 (zF (zG t.2.2.2.1))=true then zC (oM (t,4,())) fun y=>some (y.1,()) else zC (oM (t,2,())) fun y=>some (y.1,())
def Af(x:As aN):Option bP:=aeg x.1
theorem al4:ak Tryz.prog (fun _=>True) 246 ⟨aef,Af⟩:=ctn (aj Gg av) 6 fun J x=>by kernel_rfl
@[reducible] def Ur:Sh:=⟨[.d aX,.d (.int .u8)],[],cU,[.d aX],[],0,aN⟩
def aeh(t:fq)(at':Int):Option bP :=
 if gt (add .i64 t.2.2.2.2.2.2.2.1 1) 8=true then zC (lM ((t.1,t.2.1,t.2.2.1,t.2.2.2.1,t.2.2.2.2.1,t.2.2.2.2.2.1,t.2.2.2.2.2.2.1,add .i64 t.2.2.2.2.2.2.2.1 1,t.2.2.2.2.2.2.2.2),2,())) fun y=>some (y.1,()) else zC (oM ((t.1,t.2.1,t.2.2.1,t.2.2.2.1,t.2.2.2.2.1,t.2.2.2.2.2.1,t.2.2.2.2.2.2.1,add .i64 t.2.2.2.2.2.2.2.1 1,t.2.2.2.2.2.2.2.2),at',())) fun y=>some (y.1,())
def tY(x:As cU):Option bP:=aeh x.1 x.2.1
theorem aei:ak Tryz.prog (fun _=>True) 247 ⟨Ur,tY⟩:=ctn (aj xR (aj Gg av)) 6 fun J x=>by kernel_rfl
@[reducible] def aY:List Ty:=[.pr aD lK,.pr (.int .u8) mg]
@[reducible] def Mg:Sh:=⟨[.d aX,.d aP],[],aY,[.d aX],[],0,aN⟩
def aej:Env:=(cts [(56,(⟨Me,lM⟩:Ct)),(244,(⟨Gf,vI⟩:Ct)),(245,(⟨Up,pP⟩:Ct)),(246,(⟨aef,Af⟩:Ct)),(247,(⟨Ur,tY⟩:Ct))])
def aek:List (Nat×Hint):=[(115,⟨[],[2,4,5,17,33,34,35]⟩),(463,⟨[],[2,4,28]⟩)]
@[reducible] def zF7:Type:=jS×Int×Int×Unit×Int×Int×Int×Int×Int
def ael(t17:Bool)(t:fq)(t4:zF7)(s:zF6):St:=⟨[(2,.pb 0 0),(4,.pb 1 0),(5,.pb 2 0),(17,dB t17)],42,[],[(0,.box 33 (eY t [])),(1,.box 33 [d8 t4.1.1,d8 t4.1.2.1,dI t4.1.2.2.1,dI t4.1.2.2.2.1,dB t4.1.2.2.2.2.1,d8 t4.1.2.2.2.2.2.1.1,d6 t4.1.2.2.2.2.2.1.2.1,d6 t4.1.2.2.2.2.2.1.2.2.1,d6 t4.1.2.2.2.2.2.1.2.2.2.1,.k (zK zH 0 0),.k (zK zH 0 0),d6 t4.1.2.2.2.2.2.2.1,dI t4.1.2.2.2.2.2.2.2.1,dI t4.1.2.2.2.2.2.2.2.2,d6 t4.2.1,d2 t4.2.2.1,.k (zK zH 0 0),d8 t4.2.2.2.2.1,d8 t4.2.2.2.2.2.1,dI t4.2.2.2.2.2.2.1,dI t4.2.2.2.2.2.2.2.1,d8 t4.2.2.2.2.2.2.2.2]),(2,.box 301 [d6 s.1,d6 s.2.1,d2 s.2.2.1,d2 s.2.2.2])],3,[],0⟩
def aem(t28:Bool)(t:fq)(t4:zF7):St:=⟨[(2,.pb 0 0),(4,.pb 1 0),(28,dB t28)],42,[],[(0,.box 33 (eY t [])),(1,.box 33 [d8 t4.1.1,d8 t4.1.2.1,dI t4.1.2.2.1,dI t4.1.2.2.2.1,dB t4.1.2.2.2.2.1,d8 t4.1.2.2.2.2.2.1.1,d6 t4.1.2.2.2.2.2.1.2.1,d6 t4.1.2.2.2.2.2.1.2.2.1,d6 t4.1.2.2.2.2.2.1.2.2.2.1,.k (zK zH 0 0),.k (zK zH 0 0),d6 t4.1.2.2.2.2.2.2.1,dI t4.1.2.2.2.2.2.2.2.1,dI t4.1.2.2.2.2.2.2.2.2,d6 t4.2.1,d2 t4.2.2.1,.k (zK zH 0 0),d8 t4.2.2.2.2.1,d8 t4.2.2.2.2.2.1,dI t4.2.2.2.2.2.2.1,dI t4.2.2.2.2.2.2.2.1,d8 t4.2.2.2.2.2.2.2.2])],2,[],0⟩
def Ut(j2:Bool->fq->jS×Int×Int×Unit×Int×Int×Int×Int×Int->Option bP)(t17:Bool)(t:fq)(t4:zF7)(s:zF6):Option bP :=
 if t17=true then zC (lM (t,1,())) fun y=>some (y.1,()) else zC (pP (s,t,())) fun y=>if y.1=true then j2 (eqi s.2.1 1) t ((t4.1.1,t4.1.2.1,t4.1.2.2.1,t4.1.2.2.2.1,t4.1.2.2.2.2.1,(t4.1.2.2.2.2.2.1.1,t4.1.2.2.2.2.2.1.2.1,t4.1.2.2.2.2.2.1.2.2.1,t4.1.2.2.2.2.2.1.2.2.2.1,(),()),t4.1.2.2.2.2.2.2),t4.2) else j2 false t ((t4.1.1,t4.1.2.1,t4.1.2.2.1,t4.1.2.2.2.1,t4.1.2.2.2.2.1,(t4.1.2.2.2.2.2.1.1,t4.1.2.2.2.2.2.1.2.1,t4.1.2.2.2.2.2.1.2.2.1,t4.1.2.2.2.2.2.1.2.2.2.1,(),()),t4.1.2.2.2.2.2.2),t4.2)
def apv(t28:Bool)(t:fq)(t4:zF7):Option bP :=
 if t28=true then zC (Af ((t.1,t.2.1,t.2.2.1,t.2.2.2.1,t.2.2.2.2.1,t.2.2.2.2.2.1,0,t.2.2.2.2.2.2.2),())) fun y=>some (y.1,()) else zC (tY (t,1,())) fun y=>some (y.1,())
def Uu(j1:Bool->fq->jS×Int×Int×Unit×Int×Int×Int×Int×Int->Int×Int×Int×Int->Option bP)(t:fq)(r:zF5):Option bP :=
 zC (vI (r,())) fun y=>if (!y.2.1)=true then zC (lM (t,2,())) fun y=>some (y.1,()) else zC (pP (y.1,t,())) fun y_1=>if y_1.1=true then j1 (eqi y.1.2.1 2) t ((0,0,0,0,false,(0,0,0,0,(),()),0,0,0),0,0,(),0,0,0,0,0) y.1 else j1 false t ((0,0,0,0,false,(0,0,0,0,(),()),0,0,0),0,0,(),0,0,0,0,0) y.1
def Mh:=apv
def Db:=Ut (Mh)
def Mi(x:As aY):Option bP:=Uu Db x.1 x.2.1
abbrev pEd:=zp aej aek 205 Mg
theorem atj{J a b c}:pEd J 463 [] (aem a b c)=apv a b c:=by kernel_rfl
theorem atl{J a b c d}:pEd J 115 [] (ael a b c d)=Ut (C (J 463 []) aem) a b c d:=by kernel_rfl
abbrev pEc:=zj aej aek 205 Mg
theorem atm:C (pEc 463 []) aem=Mh:=gNC (by decide) fun _=>atj
theorem atn:C (pEc 115 []) ael=Db:=gNC (by decide) fun _=>atl.trans (by rw[atm]<;>kernel_rfl)
theorem apw:ak Tryz.prog (fun _=>True) 205 ⟨Mg,Mi⟩:=zcc (env:=aej) (d:=6) (hs:=Ev.get aek) (aj xR (aj Mf (aj Uq (aj al4 (aj aei av))))) (fun J x=>Uu (C (J 115 []) ael) x.1 x.2.1) (fun _ _=>by kernel_rfl) fun _=>by rw[atn]<;>rfl
@[reducible] def aen:Sh:=⟨[.d (.int .i64)],[],[.int .i64],[.d (.bool)],[],0,[.bool]⟩
def aeo(n:Int):Option aF :=
 if ge n 0=true then some (lt n 8,()) else some (false,())
def Dc(x:As [.int .i64]):Option aF:=aeo x.1
theorem aep:ak Tryz.prog (fun _=>True) 283 ⟨aen,Dc⟩:=ctn av 6 fun J x=>by kernel_rfl
@[reducible] def cV:List Ty:=[.int .u16,.int .u32,.int .i64,.pr (.int .i64) aC]
@[reducible] def apx:Sh:=⟨[.d (.int .u16),.d (.int .u32),.d (.int .i64),.d cr],[],cV,[.d aC],[],0,aK⟩
def aer(owner tx n:Int)(x:Int×List Int):Option bK :=
 zC (Ac (tx,())) fun y=>need (small (0+Nat.succ (Nat.succ (Nat.succ (Nat.succ 0))))) (zC (Da (x,())) fun y_1=>need (small (Nat.succ (Nat.succ (Nat.succ (Nat.succ 0)))+zG y_1.1)) (some (owner::y.1::y.2.1::cvt .u16 n::y_1.1,())))
def Mj(x:As cV):Option bK:=aer x.1 x.2.1 x.2.2.1 x.2.2.2.1
theorem apy:ak Tryz.prog (fun _=>True) 284 ⟨apx,Mj⟩:=ctn (aj adH (aj ad2 av)) 6 fun J x=>by kernel_rfl
@[reducible] def al5:Sh:=⟨[.d (.int .u16),.d (.int .u32),.d (.int .i64),.d cr],[],cV,[.d aC,.d (.int .i64)],[],0,bQ⟩
def aes(owner tx n:Int)(x:Int×List Int):Option (As bQ) :=
 zC (Dc (n,())) fun y=>if (!y.1)=true then some ([],2,()) else zC (rH (x,())) fun y=>if (!y.1)=true then some ([],20,()) else zC (Mj (owner,tx,n,x,())) fun y=>some (y.1,0,())
def Uv(x:As cV):Option (As bQ):=aes x.1 x.2.1 x.2.2.1 x.2.2.2.1
theorem ato:ak Tryz.prog (fun _=>True) 271 ⟨al5,Uv⟩:=ctn (aj Ga (aj aep (aj apy av))) 6 fun J x=>by kernel_rfl
@[reducible] def eH:List Ty:=[.sl (.int .u16),.bool]
@[reducible] def Uw:Sh:=⟨[.d aX],[],aN,[.d aC,.d (.bool)],[],0,eH⟩
def aet:Env:=(cts [(271,(⟨al5,Uv⟩:Ct))])
def aeu:List (Nat×Hint):=[(6,⟨[],[1,16]⟩)]
def aev(t16:Bool)(t:fq):St:=⟨[(1,.pb 0 0),(16,dB t16)],36,[],[(0,.box 33 (eY t []))],1,[],0⟩
def Ux(t16:Bool)(t:fq):Option (As eH) :=
 if t16=true then some ([],false,()) else zC (at? t.2.2.2.1 t.2.2.2.2.2.2.1) fun y=>zC (Uv (t.2.1,t.2.2.1,t.2.2.2.2.2.2.1,y,())) fun y=>some (y.1,eqi y.2.1 0,())
def Uy(j1:Bool->fq->Option (As eH))(t:fq):Option (As eH) :=
 if lt t.2.2.2.2.2.2.1 0=true then j1 true t else j1 (ge t.2.2.2.2.2.2.1 (zF (zG t.2.2.2.1))) t
def aew:=Ux
def Mk(x:As aN):Option (As eH):=Uy aew x.1
abbrev pEb:=zp aet aeu 248 Uw
theorem atp{J a b}:pEb J 6 [] (aev a b)=Ux a b:=by kernel_rfl
abbrev pEa:=zj aet aeu 248 Uw
theorem atq:C (pEa 6 []) aev=aew:=gNC (by decide) fun _=>atp
theorem al6:ak Tryz.prog (fun _=>True) 248 ⟨Uw,Mk⟩:=zcc (env:=aet) (d:=6) (hs:=Ev.get aeu) (aj ato av) (fun J x=>Uy (C (J 6 []) aev) x.1) (fun _ _=>by kernel_rfl) fun _=>by rw[atq]<;>rfl
@[reducible] def aex:Sh:=⟨[.d aX],[],aN,[.d bA],[],0,aW⟩
def aey(t:fq):Option dD :=
 zC (Mk (t,())) fun y=>if (!y.2.1)=true then some ((0,0,0,0,[],[]),()) else some ((16,288,cvt .u16 (zF (zG y.1)),0,y.1,[]),())
def Uz(x:As aN):Option dD:=aey x.1
theorem apz:ak Tryz.prog (fun _=>True) 206 ⟨aex,Uz⟩:=ctn (aj al6 av) 6 fun J x=>by kernel_rfl
@[reducible] def aez:Sh:=⟨[.d aX,.d aP],[],aY,[.d aX],[],0,aN⟩
def aeA(t:fq)(r:zF5):Option bP :=
 if nei r.2.1 0=true then zC (lM (t,2,())) fun y=>some (y.1,()) else zC (oM (t,3,())) fun y=>some (y.1,())
def Ml(x:As aY):Option bP:=aeA x.1 x.2.1
theorem apA:ak Tryz.prog (fun _=>True) 207 ⟨aez,Ml⟩:=ctn (aj xR (aj Gg av)) 6 fun J x=>by kernel_rfl
@[reducible] def aeB:Sh:=⟨[.d aX],[],aN,[.d bA],[],0,aW⟩
def aeC(t:fq):Option dD :=
 some ((3,cvt .u16 (add .i64 512 (mul .i64 32 t.2.2.2.2.2.2.1)),20,0,[],[]),())
def UA(x:As aN):Option dD:=aeC x.1
theorem al7:ak Tryz.prog (fun _=>True) 208 ⟨aeB,UA⟩:=ctn av 6 fun J x=>by kernel_rfl
@[reducible] def dU:List Ty:=[.sl (.int .u16),.sl (.int .u16)]
@[reducible] def Mm:Sh:=⟨[.d aC,.d aC],[],dU,[.d (.bool)],[],0,[.bool]⟩
def aeD:Env:=(cts [])
def aeE:List (Nat×Hint):=[(58,⟨[],[0,1,12,13]⟩)]
def UB(s1 s2:List Int)(t12 t13:Int):St:=⟨[(0,dW s1),(1,dW s2),(12,dI t12),(13,dI t13)],26,[],[],0,[],0⟩
def Mq(self1:List Int->List Int->Int->Int->Option aF)(s1 s2:List Int)(t12 t13:Int):Option aF :=
 if lt t13 t12=true then zC (at? s1 t13) fun y=>zC (at? s2 t13) fun y_1=>if nei y y_1=true then some (false,()) else self1 s1 s2 t12 (add .i64 t13 1) else some (true,())
def UC(j1:List Int->List Int->Int->Int->Option aF)(s1 s2:List Int):Option aF :=
 if nei (zF (zG s1)) (zF (zG s2))=true then some (false,()) else j1 s1 s2 (zF (zG s1)) 0
def Mr(s1 s2:List Int)(t12 t13:Int):Option aF :=
 bu (fun self s=>Mq (fun s1 s2 t12 t13=>self (s1,s2,t12,t13)) s.1 s.2.1 s.2.2.1 s.2.2.2) 18446744073709551616 (s1,s2,t12,t13)
def vJ(x:As dU):Option aF:=UC Mr x.1 x.2.1
abbrev pDj:=zp aeD aeE 90 Mm
theorem aAn{J w1 a b c d}:pDj J 58 [w1] (UB a b c d)=Mq (C w1 UB) a b c d:=by kernel_rfl
abbrev pDi:=zj aeD aeE 90 Mm
theorem aAo:C (pDi 58 []) UB=Mr:=gLC (by decide) (by kernel_rfl) (fun _=>by unfold Mr;rfl) fun _ _=>aAn.trans (by kernel_rfl)
theorem aeF:ak Tryz.prog (fun _=>True) 90 ⟨Mm,vJ⟩:=zcc (env:=aeD) (d:=6) (hs:=Ev.get aeE) av (fun J x=>UC (C (J 58 []) UB) x.1 x.2.1) (fun _ _=>by kernel_rfl) fun _=>by rw[aAo]<;>rfl
@[reducible] def Ms:Sh:=⟨[.d aX,.d aP],[],aY,[.d aX],[],0,aN⟩
def aeG:Env:=(cts [(90,(⟨Mm,vJ⟩:Ct)),(246,(⟨aef,Af⟩:Ct)),(247,(⟨Ur,tY⟩:Ct)),(248,(⟨Uw,Mk⟩:Ct))])
def aeH:List (Nat×Hint):=[(14,⟨[],[2,4,25]⟩)]
def aeI(t25:Bool)(t:fq)(t4:zF7):St:=⟨[(2,.pb 0 0),(4,.pb 1 0),(25,dB t25)],34,[],[(0,.box 33 (eY t [])),(1,.box 33 [d8 t4.1.1,d8 t4.1.2.1,dI t4.1.2.2.1,dI t4.1.2.2.2.1,dB t4.1.2.2.2.2.1,d8 t4.1.2.2.2.2.2.1.1,d6 t4.1.2.2.2.2.2.1.2.1,d6 t4.1.2.2.2.2.2.1.2.2.1,d6 t4.1.2.2.2.2.2.1.2.2.2.1,.k (zK zH 0 0),.k (zK zH 0 0),d6 t4.1.2.2.2.2.2.2.1,dI t4.1.2.2.2.2.2.2.2.1,dI t4.1.2.2.2.2.2.2.2.2,d6 t4.2.1,d2 t4.2.2.1,.k (zK zH 0 0),d8 t4.2.2.2.2.1,d8 t4.2.2.2.2.2.1,dI t4.2.2.2.2.2.2.1,dI t4.2.2.2.2.2.2.2.1,d8 t4.2.2.2.2.2.2.2.2])],2,[],0⟩
def apB(t25:Bool)(t:fq)(t4:zF7):Option bP :=
 if t25=true then zC (tY (t,2,())) fun y=>some (y.1,()) else zC (Af ((t.1,t.2.1,t.2.2.1,t.2.2.2.1,t.2.2.2.2.1,t.2.2.2.2.2.1,add .i64 t.2.2.2.2.2.2.1 1,t.2.2.2.2.2.2.2),())) fun y=>some (y.1,())
def UD(j1:Bool->fq->jS×Int×Int×Unit×Int×Int×Int×Int×Int->Option bP)(t:fq)(r:zF5):Option bP :=
 zC (Mk (t,())) fun y=>if (!y.2.1)=true then j1 true t ((0,0,0,0,false,(0,0,0,0,(),()),0,0,0),0,0,(),0,0,0,0,0) else if nei r.2.1 0=true then j1 true t ((0,0,0,0,false,(0,0,0,0,(),()),0,0,0),0,0,(),0,0,0,0,0) else zC (vJ (r.2.2.2.1,y.1,())) fun y=>j1 (!y.1) t ((0,0,0,0,false,(0,0,0,0,(),()),0,0,0),0,0,(),0,0,0,0,0)
def Mv:=apB
def Mw(x:As aY):Option bP:=UD Mv x.1 x.2.1
abbrev pEp:=zp aeG aeH 209 Ms
theorem atr{J a b c}:pEp J 14 [] (aeI a b c)=apB a b c:=by kernel_rfl
abbrev pEo:=zj aeG aeH 209 Ms
theorem att:C (pEo 14 []) aeI=Mv:=gNC (by decide) fun _=>atr
theorem apC:ak Tryz.prog (fun _=>True) 209 ⟨Ms,Mw⟩:=zcc (env:=aeG) (d:=6) (hs:=Ev.get aeH) (aj aeF (aj al4 (aj aei (aj al6 av)))) (fun J x=>UD (C (J 14 []) aeI) x.1 x.2.1) (fun _ _=>by kernel_rfl) fun _=>by rw[att]<;>rfl
@[reducible] def Mx:Sh:=⟨[.d aX,.d aP],[],aY,[.d aX],[],0,aN⟩
def aeJ:Env:=(cts [(56,(⟨Me,lM⟩:Ct)),(244,(⟨Gf,vI⟩:Ct)),(245,(⟨Up,pP⟩:Ct)),(247,(⟨Ur,tY⟩:Ct))])
def aeK:List (Nat×Hint):=[(115,⟨[],[2,4,17]⟩)]
def aeL(t17:Bool)(t:fq)(t4:zF7):St:=⟨[(2,.pb 0 0),(4,.pb 1 0),(17,dB t17)],30,[],[(0,.box 33 (eY t [])),(1,.box 33 [d8 t4.1.1,d8 t4.1.2.1,dI t4.1.2.2.1,dI t4.1.2.2.2.1,dB t4.1.2.2.2.2.1,d8 t4.1.2.2.2.2.2.1.1,d6 t4.1.2.2.2.2.2.1.2.1,d6 t4.1.2.2.2.2.2.1.2.2.1,d6 t4.1.2.2.2.2.2.1.2.2.2.1,.k (zK zH 0 0),.k (zK zH 0 0),d6 t4.1.2.2.2.2.2.2.1,dI t4.1.2.2.2.2.2.2.2.1,dI t4.1.2.2.2.2.2.2.2.2,d6 t4.2.1,d2 t4.2.2.1,.k (zK zH 0 0),d8 t4.2.2.2.2.1,d8 t4.2.2.2.2.2.1,dI t4.2.2.2.2.2.2.1,dI t4.2.2.2.2.2.2.2.1,d8 t4.2.2.2.2.2.2.2.2])],2,[],0⟩
def apD(t17:Bool)(t:fq)(t4:zF7):Option bP :=
 if t17=true then zC (lM (t,1,())) fun y=>some (y.1,()) else zC (tY (t,4,())) fun y=>some (y.1,())
def UE(j1:Bool->fq->jS×Int×Int×Unit×Int×Int×Int×Int×Int->Option bP)(t:fq)(r:zF5):Option bP :=
 zC (vI (r,())) fun y=>if (!y.2.1)=true then zC (lM (t,2,())) fun y=>some (y.1,()) else zC (pP (y.1,t,())) fun y_1=>if y_1.1=true then j1 (eqi y.1.2.1 2) t ((0,0,0,0,false,(0,0,0,0,(),()),0,0,0),0,0,(),0,0,0,0,0) else j1 false t ((0,0,0,0,false,(0,0,0,0,(),()),0,0,0),0,0,(),0,0,0,0,0)
def De:=apD
def My(x:As aY):Option bP:=UE De x.1 x.2.1
abbrev pEn:=zp aeJ aeK 211 Mx
theorem atu{J a b c}:pEn J 115 [] (aeL a b c)=apD a b c:=by kernel_rfl
abbrev pEm:=zj aeJ aeK 211 Mx
theorem atv:C (pEm 115 []) aeL=De:=gNC (by decide) fun _=>atu
theorem apE:ak Tryz.prog (fun _=>True) 211 ⟨Mx,My⟩:=zcc (env:=aeJ) (d:=6) (hs:=Ev.get aeK) (aj xR (aj Mf (aj Uq (aj aei av)))) (fun J x=>UE (C (J 115 []) aeL) x.1 x.2.1) (fun _ _=>by kernel_rfl) fun _=>by rw[atv]<;>rfl
@[reducible] def aeM:Sh:=⟨[.d aX,.d aP],[],aY,[.d aX],[],0,aN⟩
def aeN(t:fq)(r:zF5):Option bP :=
 zC (vI (r,())) fun y=>if (!y.2.1)=true then zC (oM (t,7,())) fun y=>some (y.1,()) else if ge y.1.2.2.2 t.2.2.1=true then zC (lM (t,1,())) fun y=>some (y.1,()) else zC (oM (t,5,())) fun y=>some (y.1,())
def MB(x:As aY):Option bP:=aeN x.1 x.2.1
theorem apF:ak Tryz.prog (fun _=>True) 213 ⟨aeM,MB⟩:=ctn (aj xR (aj Mf (aj Gg av))) 6 fun J x=>by kernel_rfl
@[reducible] def aeO:Sh:=⟨[.d aX,.d aP],[],aY,[.d aX],[],0,aN⟩
def aeP(t:fq)(r:zF5):Option bP :=
 zC (vI (r,())) fun y=>if (!y.2.1)=true then zC (oM (t,7,())) fun y=>some (y.1,()) else zC (pP (y.1,t,())) fun y=>if (!y.1)=true then zC (lM (t,1,())) fun y=>some (y.1,()) else zC (oM (t,6,())) fun y=>some (y.1,())
def MC(x:As aY):Option bP:=aeP x.1 x.2.1
theorem apG:ak Tryz.prog (fun _=>True) 215 ⟨aeO,MC⟩:=ctn (aj xR (aj Mf (aj Uq (aj Gg av)))) 6 fun J x=>by kernel_rfl
@[reducible] def aeQ:Sh:=⟨[.d aX],[],aN,[.d bA],[],0,aW⟩
def atw(v:fq):Option dD :=
 some ((3,256,8,0,[],[]),())
def UF(x:As aN):Option dD:=atw x.1
theorem al8:ak Tryz.prog (fun _=>True) 216 ⟨aeQ,UF⟩:=ctn av 6 fun J x=>by kernel_rfl
@[reducible] def ME:Sh:=⟨[.d aX,.d aP],[],aY,[.d aX],[],0,aN⟩
def aeR:Env:=(cts [(56,(⟨Me,lM⟩:Ct)),(244,(⟨Gf,vI⟩:Ct)),(245,(⟨Up,pP⟩:Ct)),(249,(⟨al3,oM⟩:Ct))])
def aeS:List (Nat×Hint):=[(30,⟨[],[2,4,33]⟩),(116,⟨[],[2,4,22]⟩)]
def aeT(t22:Bool)(t:fq)(t4:zF7):St:=⟨[(2,.pb 0 0),(4,.pb 1 0),(22,dB t22)],38,[],[(0,.box 33 (eY t [])),(1,.box 33 [d8 t4.1.1,d8 t4.1.2.1,dI t4.1.2.2.1,dI t4.1.2.2.2.1,dB t4.1.2.2.2.2.1,d8 t4.1.2.2.2.2.2.1.1,d6 t4.1.2.2.2.2.2.1.2.1,d6 t4.1.2.2.2.2.2.1.2.2.1,d6 t4.1.2.2.2.2.2.1.2.2.2.1,.k (zK zH 0 0),.k (zK zH 0 0),d6 t4.1.2.2.2.2.2.2.1,dI t4.1.2.2.2.2.2.2.2.1,dI t4.1.2.2.2.2.2.2.2.2,d6 t4.2.1,d2 t4.2.2.1,.k (zK zH 0 0),d8 t4.2.2.2.2.1,d8 t4.2.2.2.2.2.1,dI t4.2.2.2.2.2.2.1,dI t4.2.2.2.2.2.2.2.1,d8 t4.2.2.2.2.2.2.2.2])],2,[],0⟩
def aeU(t33:Bool)(t:fq)(t4:zF7):St:=⟨[(2,.pb 0 0),(4,.pb 1 0),(33,dB t33)],38,[],[(0,.box 33 (eY t [])),(1,.box 33 [d8 t4.1.1,d8 t4.1.2.1,dI t4.1.2.2.1,dI t4.1.2.2.2.1,dB t4.1.2.2.2.2.1,d8 t4.1.2.2.2.2.2.1.1,d6 t4.1.2.2.2.2.2.1.2.1,d6 t4.1.2.2.2.2.2.1.2.2.1,d6 t4.1.2.2.2.2.2.1.2.2.2.1,.k (zK zH 0 0),.k (zK zH 0 0),d6 t4.1.2.2.2.2.2.2.1,dI t4.1.2.2.2.2.2.2.2.1,dI t4.1.2.2.2.2.2.2.2.2,d6 t4.2.1,d2 t4.2.2.1,.k (zK zH 0 0),d8 t4.2.2.2.2.1,d8 t4.2.2.2.2.2.1,dI t4.2.2.2.2.2.2.1,dI t4.2.2.2.2.2.2.2.1,d8 t4.2.2.2.2.2.2.2.2])],2,[],0⟩
def apH(t22:Bool)(t:fq)(t4:zF7):Option bP :=
 if t22=true then zC (lM (t,1,())) fun y=>some (y.1,()) else zC (oM (t,5,())) fun y=>some (y.1,())
def apI(t33:Bool)(t:fq)(t4:zF7):Option bP :=
 if t33=true then zC (lM (t,1,())) fun y=>some (y.1,()) else zC (oM (t,6,())) fun y=>some (y.1,())
def UG(j1 j2:Bool->fq->jS×Int×Int×Unit×Int×Int×Int×Int×Int->Option bP)(t:fq)(r:zF5):Option bP :=
 zC (vI (r,())) fun y=>if eqi t.2.2.2.2.1 2=true then if y.2.1=true then j1 (ge y.1.2.2.2 t.2.2.1) t ((0,0,0,0,false,(0,0,0,0,(),()),0,0,0),0,0,(),0,0,0,0,0) else j1 false t ((0,0,0,0,false,(0,0,0,0,(),()),0,0,0),0,0,(),0,0,0,0,0) else if y.2.1=true then zC (pP (y.1,t,())) fun y=>j2 (!y.1) t ((0,0,0,0,false,(0,0,0,0,(),()),0,0,0),0,0,(),0,0,0,0,0) else j2 false t ((0,0,0,0,false,(0,0,0,0,(),()),0,0,0),0,0,(),0,0,0,0,0)
def MF:=apH
def MG:=apI
def MH(x:As aY):Option bP:=UG MF MG x.1 x.2.1
abbrev pEl:=zp aeR aeS 217 ME
theorem atx{J a b c}:pEl J 116 [] (aeT a b c)=apH a b c:=by kernel_rfl
theorem aty{J a b c}:pEl J 30 [] (aeU a b c)=apI a b c:=by kernel_rfl
abbrev pEk:=zj aeR aeS 217 ME
theorem atz:C (pEk 116 []) aeT=MF:=gNC (by decide) fun _=>atx
theorem atA:C (pEk 30 []) aeU=MG:=gNC (by decide) fun _=>aty
theorem al9:ak Tryz.prog (fun _=>True) 217 ⟨ME,MH⟩:=zcc (env:=aeR) (d:=6) (hs:=Ev.get aeS) (aj xR (aj Mf (aj Uq (aj Gg av)))) (fun J x=>UG (C (J 116 []) aeT) (C (J 30 []) aeU) x.1 x.2.1) (fun _ _=>by kernel_rfl) fun _=>by rw[atz,atA]<;>rfl
@[reducible] def UH:Sh:=⟨[.d aX],[],aN,[.d bA],[],0,aW⟩
def aeV:Env:=(cts [(1000211,Ev.gu),(204,(⟨Md,Ad⟩:Ct)),(205,(⟨Mg,Mi⟩:Ct)),(206,(⟨aex,Uz⟩:Ct)),(207,(⟨aez,Ml⟩:Ct)),(208,(⟨aeB,UA⟩:Ct)),(209,(⟨Ms,Mw⟩:Ct)),(211,(⟨Mx,My⟩:Ct)),(213,(⟨aeM,MB⟩:Ct)),(215,(⟨aeO,MC⟩:Ct)),(216,(⟨aeQ,UF⟩:Ct)),(217,(⟨ME,MH⟩:Ct))])
def aeW:List (Nat×Hint):=[(14,⟨[],[1,2,3,13]⟩)]
def aeX(t13:Bool)(t:fq)(t2:zF3):St:=⟨[(1,.pb 0 0),(2,.pb 1 0),(3,.pb 2 0),(13,dB t13)],22,[],[(0,.box 33 (eY t [])),(1,.box 27 [d8 t2.1,d6 t2.2.1,d6 t2.2.2.1,d6 t2.2.2.2.1,.k (zK zH 0 0),.k (zK zH 0 0)]),(2,.box 211 [.k Go.Value.nilFunc,.k Go.Value.nilFunc,.fn (.func 203) [] [],.fn (.func 205) [] [],.fn (.func 206) [] [],.fn (.func 207) [] [],.fn (.func 208) [] [],.fn (.func 209) [] [],.fn (.func 210) [] [],.fn (.func 211) [] [],.fn (.func 212) [] [],.fn (.func 213) [] [],.fn (.func 214) [] [],.fn (.func 215) [] [],.fn (.func 216) [] [],.fn (.func 217) [] []])],3,[],0⟩
def UI(t13:Bool)(t:fq)(t2:zF3):Option dD :=
 if t13=true then some ((0,0,0,0,[],[]),()) else if eqi t.2.2.2.2.2.1 7=true then zC (UF (t,())) fun y=>some (y.1,()) else if eqi t.2.2.2.2.2.1 6=true then zC (Ad (t,4,())) fun y=>some (y.1,()) else if eqi t.2.2.2.2.2.1 5=true then zC (Ad (t,3,())) fun y=>some (y.1,()) else if eqi t.2.2.2.2.2.1 4=true then zC (Ad (t,2,())) fun y=>some (y.1,()) else if eqi t.2.2.2.2.2.1 3=true then zC (UA (t,())) fun y=>some (y.1,()) else if eqi t.2.2.2.2.2.1 2=true then zC (Uz (t,())) fun y=>some (y.1,()) else if eqi t.2.2.2.2.2.1 1=true then zC (Ad (t,1,())) fun y=>some (y.1,()) else if eqi t.2.2.2.2.2.1 0=true then zH else zH
def UJ(j1:Bool->fq->Int×Int×Int×Int×Unit×Unit->Option dD)(t:fq):Option dD :=
 if ge (cvt .i64 t.2.2.2.2.2.1) 8=true then j1 true t (0,0,0,0,(),()) else j1 (eqi t.2.2.2.2.2.1 0) t (0,0,0,0,(),())
def aeY:=UI
def MI(x:As aN):Option dD:=UJ aeY x.1
abbrev pEt:=zp aeV aeW 117 UH
theorem atB{J a b c}:pEt J 14 [] (aeX a b c)=UI a b c:=by kernel_rfl
abbrev pEs:=zj aeV aeW 117 UH
theorem atC:C (pEs 14 []) aeX=aeY:=gNC (by decide) fun _=>atB
theorem atD:ak Tryz.prog (fun _=>True) 117 ⟨UH,MI⟩:=zcc (env:=aeV) (d:=6) (hs:=Ev.get aeW) (aj Ev.fF (aj al1 (aj apw (aj apz (aj apA (aj al7 (aj apC (aj apE (aj apF (aj apG (aj al8 (aj al9 av)))))))))))) (fun J x=>UJ (C (J 14 []) aeX) x.1) (fun _ _=>by kernel_rfl) fun _=>by rw[atC]<;>rfl
@[reducible] def bL:List Ty:=[.pr aD lK,.sl (.int .u8)]
@[reducible] def Gh:Sh:=⟨[.d aX],[],aN,[.d aX,.d aJ],[],0,bL⟩
def aeZ:Env:=(cts [(116,(⟨alR,F9⟩:Ct)),(117,(⟨UH,MI⟩:Ct))])
def ae0:List (Nat×Hint):=[(3,⟨[],[1,2,4,5,6]⟩)]
def ae1(frame:List Int)(err:Int)(t:fq)(t2:zF7)(p:zF4):St:=⟨[(1,.pb 0 0),(2,.pb 1 0),(4,.pb 2 0),(5,dL frame),(6,dI err)],23,[],[(0,.box 33 (eY t [])),(1,.box 33 [d8 t2.1.1,d8 t2.1.2.1,dI t2.1.2.2.1,dI t2.1.2.2.2.1,dB t2.1.2.2.2.2.1,d8 t2.1.2.2.2.2.2.1.1,d6 t2.1.2.2.2.2.2.1.2.1,d6 t2.1.2.2.2.2.2.1.2.2.1,d6 t2.1.2.2.2.2.2.1.2.2.2.1,.k (zK zH 0 0),.k (zK zH 0 0),d6 t2.1.2.2.2.2.2.2.1,dI t2.1.2.2.2.2.2.2.2.1,dI t2.1.2.2.2.2.2.2.2.2,d6 t2.2.1,d2 t2.2.2.1,.k (zK zH 0 0),d8 t2.2.2.2.2.1,d8 t2.2.2.2.2.2.1,dI t2.2.2.2.2.2.2.1,dI t2.2.2.2.2.2.2.2.1,d8 t2.2.2.2.2.2.2.2.2]),(2,.box 29 [d8 p.1,d8 p.2.1,dI p.2.2.1,dI p.2.2.2.1,dB p.2.2.2.2.1,d8 p.2.2.2.2.2.1.1,d6 p.2.2.2.2.2.1.2.1,d6 p.2.2.2.2.2.1.2.2.1,d6 p.2.2.2.2.2.1.2.2.2.1,dW p.2.2.2.2.2.1.2.2.2.2.1,.d (.sl .bool) p.2.2.2.2.2.1.2.2.2.2.2,d6 p.2.2.2.2.2.2.1,dI p.2.2.2.2.2.2.2.1,dI p.2.2.2.2.2.2.2.2])],3,[],0⟩
def ama(frame:List Int)(err:Int)(t:fq)(t2:zF7)(p:zF4):Option (As bL) :=
 if nei err 0=true then some (t,[],()) else some ((p,t.2),frame,())
def UK(j1:List Int->Int->fq->jS×Int×Int×Unit×Int×Int×Int×Int×Int->Int×Int×Int×Int×Bool×uS×Int×Int×Int->Option (As bL))(t:fq):Option (As bL) :=
 amb (au Gh.rs) [zC (MI (t,())) fun y=>amb (au Gh.rs) [zC (F9 (t.1,y.1,())) fun y=>j1 y.2.1 y.2.2.1 t ((0,0,0,0,false,(0,0,0,0,(),()),0,0,0),0,0,(),0,0,0,0,0) y.1,zC (F9 (t.1,y.1,())) fun y=>j1 y.2.1 y.2.2.1 t ((0,0,0,0,false,(0,0,0,0,(),()),0,0,0),0,0,(),0,0,0,0,0) y.1],zC (MI (t,())) fun y=>zC (F9 (t.1,y.1,())) fun y=>j1 y.2.1 y.2.2.1 t ((0,0,0,0,false,(0,0,0,0,(),()),0,0,0),0,0,(),0,0,0,0,0) y.1]
def ae2:=ama
def xS(x:As aN):Option (As bL):=UK ae2 x.1
abbrev pEv:=zp aeZ ae0 57 Gh
theorem atE{J a b c d e}:pEv J 3 [] (ae1 a b c d e)=ama a b c d e:=by kernel_rfl
abbrev pEu:=zj aeZ ae0 57 Gh
theorem atF:C (pEu 3 []) ae1=ae2:=gNC (by decide) fun _=>atE
theorem ae3:ak Tryz.prog (fun _=>True) 57 ⟨Gh,xS⟩:=zcc (env:=aeZ) (d:=6) (hs:=Ev.get ae0) (aj asP (aj atD av)) (fun J x=>UK (C (J 3 []) ae1) x.1) (fun _ _=>by kernel_rfl) fun _=>by rw[atF]<;>rfl
@[reducible] def amc:Sh:=⟨[.d (.int .u8)],[],[.int .u8],[.d (.int .u8),.d (.bool)],[],0,[.int .u8,.bool]⟩
def ae4(goal:Int):Option (As [.int .u8,.bool]) :=
 if eqi goal 1=true then some (1,true,()) else if eqi goal 2=true then some (5,true,()) else if eqi goal 3=true then some (6,true,()) else some (0,false,())
def UL(x:As [.int .u8]):Option (As [.int .u8,.bool]):=ae4 x.1
theorem atG:ak Tryz.prog (fun _=>True) 62 ⟨amc,UL⟩:=ctn av 6 fun J x=>by kernel_rfl
@[reducible] def UM:Sh:=⟨[.d (.sl cr)],[],[.sl cr],[.d (.bool)],[],0,[.bool]⟩
def ae5:Env:=(cts [(26,(⟨LW,rH⟩:Ct))])
def ae6:List (Nat×Hint):=[(58,⟨[],[8,9,10]⟩)]
def UN(t8:zF1)(t9 t10:Int):St:=⟨[(8,.d (.sl cr) t8),(9,dI t9),(10,dI t10)],18,[],[],0,[],0⟩
@[reducible] def zF8:Type:=List (Int×List Int)->Int->Int->Option aF
def Gi(self1:zF8)(t8:zF1)(t9 t10:Int):Option aF :=
 if lt t10 t9=true then zC (at? t8 t10) fun y=>zC (rH (y,())) fun y=>if (!y.1)=true then some (false,()) else self1 t8 t9 (add .i64 t10 1) else some (true,())
def UO(j1:zF8)(l:zF1):Option aF :=
 if gt (zF (zG l)) 8=true then some (false,()) else j1 l (zF (zG l)) 0
def UQ(t8:zF1)(t9 t10:Int):Option aF :=
 bu (fun self s=>Gi (fun t8 t9 t10=>self (t8,t9,t10)) s.1 s.2.1 s.2.2) 18446744073709551616 (t8,t9,t10)
def UR(x:As [.sl cr]):Option aF:=UO UQ x.1
abbrev pEj:=zp ae5 ae6 63 UM
theorem atH{J w1 a b c}:pEj J 58 [w1] (UN a b c)=Gi (C w1 UN) a b c:=by kernel_rfl
abbrev pEi:=zj ae5 ae6 63 UM
theorem atI:C (pEi 58 []) UN=UQ:=gLC (by decide) (by kernel_rfl) (fun _=>by unfold UQ;rfl) fun _ _=>atH.trans (by kernel_rfl)
theorem atJ:ak Tryz.prog (fun _=>True) 63 ⟨UM,UR⟩:=zcc (env:=ae5) (d:=6) (hs:=Ev.get ae6) (aj Ga av) (fun J x=>UO (C (J 58 []) UN) x.1) (fun _ _=>by kernel_rfl) fun _=>by rw[atI]<;>rfl
@[reducible] def cE:List Ty:=[.pr aD lK,.sl (.int .u8),.int .i64]
@[reducible] def MJ:Sh:=⟨[.d aX,.d (.int .u8),.d (.int .u32),.d (.sl cr)],[],[.pr aD lK,.int .u8,.int .u32,.sl cr],[.d aX,.d aJ,.d (.int .i64)],[],0,cE⟩
def ae7:Env:=(cts [(54,(⟨als,C5⟩:Ct)),(57,(⟨Gh,xS⟩:Ct)),(62,(⟨amc,UL⟩:Ct)),(63,(⟨UM,UR⟩:Ct)),(64,(⟨ad7,Ae⟩:Ct)),(65,(⟨Ta,LG⟩:Ct))])
def ae8:List (Nat×Hint):=[(15,⟨[.agd 3 (.sl cr)],[1,2,3,4,8,11]⟩),(14,⟨[],[1,2,3,4,8,11,24]⟩)]
def ae9(goal tx:Int)(l:zF1)(at':Int)(t24:Bool)(t:fq)(t8:zF7):St:=⟨[(1,d8 goal),(2,d2 tx),(3,.d (.sl cr) l),(4,.pb 0 0),(8,.pb 1 0),(11,d8 at'),(24,dB t24)],57,[],[(0,.box 33 (eY t [])),(1,.box 33 [d8 t8.1.1,d8 t8.1.2.1,dI t8.1.2.2.1,dI t8.1.2.2.2.1,dB t8.1.2.2.2.2.1,d8 t8.1.2.2.2.2.2.1.1,d6 t8.1.2.2.2.2.2.1.2.1,d6 t8.1.2.2.2.2.2.1.2.2.1,d6 t8.1.2.2.2.2.2.1.2.2.2.1,.k (zK zH 0 0),.k (zK zH 0 0),d6 t8.1.2.2.2.2.2.2.1,dI t8.1.2.2.2.2.2.2.2.1,dI t8.1.2.2.2.2.2.2.2.2,d6 t8.2.1,d2 t8.2.2.1,.k (zK zH 0 0),d8 t8.2.2.2.2.1,d8 t8.2.2.2.2.2.1,dI t8.2.2.2.2.2.2.1,dI t8.2.2.2.2.2.2.2.1,d8 t8.2.2.2.2.2.2.2.2])],2,[],0⟩
def afa(goal tx:Int)(l:zF1)(at':Int)(t:fq)(t8:zF7):St:=⟨[(1,d8 goal),(2,d2 tx),(3,.d (.sl cr) l),(4,.pb 0 0),(8,.pb 1 0),(11,d8 at')],57,[],[(0,.box 33 (eY t [])),(1,.box 33 [d8 t8.1.1,d8 t8.1.2.1,dI t8.1.2.2.1,dI t8.1.2.2.2.1,dB t8.1.2.2.2.2.1,d8 t8.1.2.2.2.2.2.1.1,d6 t8.1.2.2.2.2.2.1.2.1,d6 t8.1.2.2.2.2.2.1.2.2.1,d6 t8.1.2.2.2.2.2.1.2.2.2.1,.k (zK zH 0 0),.k (zK zH 0 0),d6 t8.1.2.2.2.2.2.2.1,dI t8.1.2.2.2.2.2.2.2.1,dI t8.1.2.2.2.2.2.2.2.2,d6 t8.2.1,d2 t8.2.2.1,.k (zK zH 0 0),d8 t8.2.2.2.2.1,d8 t8.2.2.2.2.2.1,dI t8.2.2.2.2.2.2.1,dI t8.2.2.2.2.2.2.2.1,d8 t8.2.2.2.2.2.2.2.2])],2,[],0⟩
def Gj(j2:Int->Int->List (Int×List Int)->Int->fq->jS×Int×Int×Unit×Int×Int×Int×Int×Int->Option (As cE))(goal tx:Int)(l:zF1)(at':Int)(t24:Bool)(t:fq)(t8:zF7):Option (As cE) :=
 if t24=true then zC (C5 (t,())) fun y=>some (y.1,[],2,()) else if nei goal 1=true then j2 goal tx [] at' t ((t8.1.1,t8.1.2.1,t8.1.2.2.1,t8.1.2.2.2.1,t8.1.2.2.2.2.1,(t8.1.2.2.2.2.2.1.1,t8.1.2.2.2.2.2.1.2.1,t8.1.2.2.2.2.2.1.2.2.1,t8.1.2.2.2.2.2.1.2.2.2.1,(),()),t8.1.2.2.2.2.2.2),t8.2) else j2 goal tx l at' t ((t8.1.1,t8.1.2.1,t8.1.2.2.1,t8.1.2.2.2.1,t8.1.2.2.2.2.1,(t8.1.2.2.2.2.2.1.1,t8.1.2.2.2.2.2.1.2.1,t8.1.2.2.2.2.2.1.2.2.1,t8.1.2.2.2.2.2.1.2.2.2.1,(),()),t8.1.2.2.2.2.2.2),t8.2)
def US(goal tx:Int)(l:zF1)(at':Int)(t:fq)(t8:zF7):Option (As cE) :=
 zC (UR (l,())) fun y=>if (!y.1)=true then zC (C5 (t,())) fun y=>some (y.1,[],20,()) else zC (Ae (t.1,())) fun y=>zC (LG (l,())) fun y_1=>zC (xS ((y.1,t.2.1,tx,y_1.1,goal,at',0,0,0),())) fun y=>some (y.1,y.2.1,0,())
def UT(j1:Int->Int->List (Int×List Int)->Int->Bool->fq->jS×Int×Int×Unit×Int×Int×Int×Int×Int->Option (As cE))(t:fq)(goal tx:Int)(l:zF1):Option (As cE) :=
 zC (UL (goal,())) fun y=>if (!y.2.1)=true then j1 goal tx l y.1 true t ((0,0,0,0,false,(0,0,0,0,(),()),0,0,0),0,0,(),0,0,0,0,0) else j1 goal tx l y.1 (eqi tx 0) t ((0,0,0,0,false,(0,0,0,0,(),()),0,0,0),0,0,(),0,0,0,0,0)
def MK:=US
def UU:=Gj (MK)
def rJ(x:As [.pr aD lK,.int .u8,.int .u32,.sl cr]):Option (As cE):=UT UU x.1 x.2.1 x.2.2.1 x.2.2.2.1
abbrev pD9:=zp ae7 ae8 25 MJ
theorem atK{J a b c d e f}:pD9 J 15 [] (afa a b c d e f)=US a b c d e f:=by kernel_rfl
theorem atL{J a b c d e f g}:pD9 J 14 [] (ae9 a b c d e f g)=Gj (C (J 15 []) afa) a b c d e f g:=by kernel_rfl
abbrev pD8:=zj ae7 ae8 25 MJ
theorem atM:C (pD8 15 []) afa=MK:=gNC (by decide) fun _=>atK
theorem atN:C (pD8 14 []) ae9=UU:=gNC (by decide) fun _=>atL.trans (by rw[atM]<;>kernel_rfl)
theorem amd:ak Tryz.prog (fun _=>True) 25 ⟨MJ,rJ⟩:=zcc (env:=ae7) (d:=6) (hs:=Ev.get ae8) (aj acL (aj ae3 (aj atG (aj atJ (aj Um (aj alr av)))))) (fun J x=>UT (C (J 14 []) ae9) x.1 x.2.1 x.2.2.1 x.2.2.2.1) (fun _ _=>by kernel_rfl) fun _=>by rw[atN]<;>rfl
@[reducible] def aE:List Ty:=[.bool,.pr aD lK,.pr (.int .u8) aA,.int .u32,.int .u32,.sl (.sl cr),.sl fK]
@[reducible] def Ag:Sh:=⟨[.pb 0 0,.d (.bool)],[(prG 1),.que fK 63],aE,[.d (.bool)],[(0,(prG 2)),(2,.que fK 63)],1,aE⟩
def afb:Env:=(cts [(1000048,Ev.gu),(9000046,Ev.gu),(9999999,Ev.gu),(20,(⟨LC,FY⟩:Ct)),(25,(⟨MJ,rJ⟩:Ct))])
def afc:List (Nat×Hint):=[(7,⟨[],[0,5,6]⟩),(15,⟨[],[0,5,6]⟩),(31,⟨[],[0,6,7,8,9]⟩),(28,⟨[],[0,1,5,6,15,46,47,48,49,50,51,52,53,54,68,69,70,71,72,73]⟩),(115,⟨[],[0,5,6,38,68,69,70,71,72,73]⟩),(463,⟨[],[0,5,6,60]⟩)]
@[reducible] def zF9:Type:=List (Bool×List Int)
def afd(alt:Bool)(goal tx:Int)(t15:Bool)(p:(fq)×(iQ)×Unit×Int×Int×List aH)(o:zF9):St:=⟨[(0,.pb 0 0),(1,dB alt),(5,d8 goal),(6,d2 tx),(15,dB t15)],108,[],[(0,.box 48 (eY p.1 (slC p.2.1 [.row 1,d2 p.2.2.2.1,d2 p.2.2.2.2.1,.d bY p.2.2.2.2.2]))),(1,.que fK 63 o)],2,[],2⟩
def ML(goal tx:Int)(p:(fq)×(iQ)×Unit×Int×Int×List aH)(o:zF9):St:=⟨[(0,.pb 0 0),(5,d8 goal),(6,d2 tx)],108,[],[(0,.box 48 (eY p.1 (slC p.2.1 [.row 1,d2 p.2.2.2.1,d2 p.2.2.2.2.1,.d bY p.2.2.2.2.2]))),(1,.que fK 63 o)],2,[],2⟩
def afe(goal tx:Int)(t38:Bool)(p:(fq)×(iQ)×Unit×Int×Int×List aH)(o:zF9):St:=⟨[(0,.pb 0 0),(5,d8 goal),(6,d2 tx),(38,dB t38)],108,[],[(0,.box 48 (eY p.1 (slC p.2.1 [.row 1,d2 p.2.2.2.1,d2 p.2.2.2.2.1,.d bY p.2.2.2.2.2]))),(1,.que fK 63 o)],2,[],2⟩
def aff(goal tx:Int)(p:(fq)×(iQ)×Unit×Int×Int×List aH)(o:zF9):St:=⟨[(0,.pb 0 0),(5,d8 goal),(6,d2 tx)],108,[],[(0,.box 48 (eY p.1 (slC p.2.1 [.row 1,d2 p.2.2.2.1,d2 p.2.2.2.2.1,.d bY p.2.2.2.2.2]))),(1,.que fK 63 o)],2,[],2⟩
def afg(goal tx:Int)(t60:Bool)(p:(fq)×(iQ)×Unit×Int×Int×List aH)(o:zF9):St:=⟨[(0,.pb 0 0),(5,d8 goal),(6,d2 tx),(60,dB t60)],108,[],[(0,.box 48 (eY p.1 (slC p.2.1 [.row 1,d2 p.2.2.2.1,d2 p.2.2.2.2.1,.d bY p.2.2.2.2.2]))),(1,.que fK 63 o)],2,[],2⟩
def afh(tx:Int)(b:List Int)(e:Int)(p:(fq)×(iQ)×Unit×Int×Int×List aH)(o:zF9)(t:fq):St:=⟨[(0,.pb 0 0),(6,d2 tx),(7,.pb 2 0),(8,dL b),(9,dI e)],108,[],[(0,.box 48 (eY p.1 (slC p.2.1 [.row 1,d2 p.2.2.2.1,d2 p.2.2.2.2.1,.d bY p.2.2.2.2.2]))),(1,.que fK 63 o),(2,.box 33 (eY t []))],3,[],2⟩
@[reducible] def cN:Type:=As aE
def apJ(j2:Int->Int->(fq)×(iQ)×Unit×Int×Int×List aH->List (Bool×List Int)->Option cN)(j3:Int->Int->Bool->(fq)×(iQ)×Unit×Int×Int×List aH->List (Bool×List Int)->Option cN)(alt:Bool)(goal tx:Int)(t15:Bool)(p:(fq)×(iQ)×Unit×Int×Int×List aH)(o:zF9):Option cN :=
 if t15=true then j2 2 p.2.2.2.1 p o else if eqi p.1.2.2.2.2.1 1=true then if alt=true then j3 goal tx true p o else j3 goal tx (eqi p.1.2.2.2.2.2.2.2.2 2) p o else j3 goal tx false p o
def UW(j4:Int->Int->(fq)×(iQ)×Unit×Int×Int×List aH->List (Bool×List Int)->Option cN)(goal tx:Int)(p:(fq)×(iQ)×Unit×Int×Int×List aH)(o:zF9):Option cN :=
 if eqi goal 2=true then j4 goal tx (p.1,p.2.1,(),p.2.2.2.1,tx,p.2.2.2.2.2) o else j4 goal tx p o
def apK(j2:Int->Int->(fq)×(iQ)×Unit×Int×Int×List aH->List (Bool×List Int)->Option cN)(j5:Int->Int->Bool->(fq)×(iQ)×Unit×Int×Int×List aH->List (Bool×List Int)->Option cN)(goal tx:Int)(t38:Bool)(p:(fq)×(iQ)×Unit×Int×Int×List aH)(o:zF9):Option cN :=
 if t38=true then j2 3 p.2.2.2.1 p o else if nei p.1.2.2.2.2.1 0=true then j5 goal tx (eqi p.1.2.2.2.2.2.2.2.2 0) p o else j5 goal tx false p o
def UX(j6:Int->List Int->Int->(fq)×(iQ)×Unit×Int×Int×List aH->List (Bool×List Int)->fq->Option cN)(goal tx:Int)(p:(fq)×(iQ)×Unit×Int×Int×List aH)(o:zF9):Option cN :=
 amb (au Ag.rs) [if eqi (zF (zG p.2.2.2.2.2)) 0=true then amb (au Ag.rs) [zC (rJ (p.1,goal,tx,[],())) fun y=>j6 tx y.2.1 y.2.2.1 p o y.1,zC (rJ (p.1,goal,tx,[],())) fun y=>j6 tx y.2.1 y.2.2.1 p o y.1] else need (nei (zF (zG p.2.2.2.2.2)) 0) (zC (at? p.2.2.2.2.2 (rem (cvt .i64 tx) (zF (zG p.2.2.2.2.2)))) fun y=>amb (au Ag.rs) [zC (rJ (p.1,goal,tx,y,())) fun y=>j6 tx y.2.1 y.2.2.1 p o y.1,zC (rJ (p.1,goal,tx,y,())) fun y=>j6 tx y.2.1 y.2.2.1 p o y.1]),if eqi (zF (zG p.2.2.2.2.2)) 0=true then zC (rJ (p.1,goal,tx,[],())) fun y=>j6 tx y.2.1 y.2.2.1 p o y.1 else need (nei (zF (zG p.2.2.2.2.2)) 0) (zC (at? p.2.2.2.2.2 (rem (cvt .i64 tx) (zF (zG p.2.2.2.2.2)))) fun y=>zC (rJ (p.1,goal,tx,y,())) fun y=>j6 tx y.2.1 y.2.2.1 p o y.1)]
def UY(j2:Int->Int->(fq)×(iQ)×Unit×Int×Int×List aH->List (Bool×List Int)->Option cN)(goal tx:Int)(t60:Bool)(p:(fq)×(iQ)×Unit×Int×Int×List aH)(o:zF9):Option cN :=
 if t60=true then some (true,p.1,(iZ p.2.1),p.2.2.2.1,p.2.2.2.2.1,p.2.2.2.2.2,o,()) else j2 goal tx p o
def UZ(tx:Int)(b:List Int)(e:Int)(p:(fq)×(iQ)×Unit×Int×Int×List aH)(o:zF9)(t:fq):Option cN :=
 zC (FY (b,t,(iZ p.2.1),tx,p.2.2.2.2.1,p.2.2.2.2.2,o,())) fun y=>some (eqi e 0,y.1,(iZ y.2.1),y.2.2.1,y.2.2.2.1,y.2.2.2.2.1,y.2.2.2.2.2.1,())
def U0(j1:Bool->Int->Int->Bool->(fq)×(iQ)×Unit×Int×Int×List aH->List (Bool×List Int)->Option cN)(p:Bool)(alt:fq)(p_2:iQ)(alt_2 v:Int)(goal:List aH)(tx:zF9):Option cN :=
 if eqi alt.2.2.2.2.1 1=true then if eqi alt.2.2.2.2.2.2.2.2 1=true then j1 p 1 (add .u32 alt_2 1) (!p) (alt,p_2,(),alt_2,v,goal) tx else j1 p 1 (add .u32 alt_2 1) false (alt,p_2,(),alt_2,v,goal) tx else j1 p 1 (add .u32 alt_2 1) false (alt,p_2,(),alt_2,v,goal) tx
def MN:=UZ
def U1:=UX (MN)
def xU:=UW (U1)
def MO:=UY (xU)
def Gl:=apK (xU) (MO)
def U2:=apJ (xU) (Gl)
def vK(x:As aE):Option cN:=U0 U2 x.1 x.2.1 x.2.2.1 x.2.2.2.1 x.2.2.2.2.1 x.2.2.2.2.2.1 x.2.2.2.2.2.2.1
abbrev pBd:=zp afb afc 10 Ag
theorem atO{J a b c d e f}:pBd J 31 [] (afh a b c d e f)=UZ a b c d e f:=by kernel_rfl
theorem atP{J a b c d}:pBd J 15 [] (aff a b c d)=UX (C (J 31 []) afh) a b c d:=by kernel_rfl
theorem atQ{J a b c d}:pBd J 7 [] (ML a b c d)=UW (C (J 15 []) aff) a b c d:=by kernel_rfl
theorem atS{J a b c d e}:pBd J 463 [] (afg a b c d e)=UY (C (J 7 []) ML) a b c d e:=by kernel_rfl
theorem atT{J a b c d e}:pBd J 115 [] (afe a b c d e)=apK (C (J 7 []) ML) (C (J 463 []) afg) a b c d e:=by kernel_rfl
theorem atU{J a b c d e f}:pBd J 28 [] (afd a b c d e f)=apJ (C (J 7 []) ML) (C (J 115 []) afe) a b c d e f:=by kernel_rfl
abbrev pBc:=zj afb afc 10 Ag
theorem atV:C (pBc 31 []) afh=MN:=gNC (by decide) fun _=>atO
theorem atX:C (pBc 15 []) aff=U1:=gNC (by decide) fun _=>atP.trans (by rw[atV]<;>kernel_rfl)
theorem afi:C (pBc 7 []) ML=xU:=gNC (by decide) fun _=>atQ.trans (by rw[atX]<;>kernel_rfl)
theorem atY:C (pBc 463 []) afg=MO:=gNC (by decide) fun _=>atS.trans (by rw[afi]<;>kernel_rfl)
theorem atZ:C (pBc 115 []) afe=Gl:=gNC (by decide) fun _=>atT.trans (by rw[afi,atY]<;>kernel_rfl)
theorem at5:C (pBc 28 []) afd=U2:=gNC (by decide) fun _=>atU.trans (by rw[afi,atZ]<;>kernel_rfl)
theorem apL:ak Tryz.prog (fun _=>True) 10 ⟨Ag,vK⟩:=zcc (env:=afb) (d:=6) (hs:=Ev.get afc) (aj Ev.fF (aj Ev.fF (aj Ev.fF (aj apm (aj amd av))))) (fun J x=>U0 (C (J 28 []) afd) x.1 x.2.1 x.2.2.1 x.2.2.2.1 x.2.2.2.2.1 x.2.2.2.2.2.1 x.2.2.2.2.2.2.1) (fun _ _=>by kernel_rfl) fun _=>by rw[at5]<;>rfl
end Go.Proofs.Lx
end
