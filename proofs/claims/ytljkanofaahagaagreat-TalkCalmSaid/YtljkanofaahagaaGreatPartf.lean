/- Proved in the last of these 16 parts (this is part 6): TalkCalm. Conditions: those of the given statement, and no others. -/
import Derived.Test.YtljkanofaahagaaGreatPartd
import Derived.Test.YtljkanofaahagaaGreatParte
import Derived.Test.YtljkanofaahagaaGreatProg
set_option linter.unusedVariables false
set_option linter.unusedSimpArgs false
set_option linter.unusedSectionVars false
open Option renaming bind → zC, none → zH
open Int renaming ofNat → zF, toNat → zI
open List renaming length → zG
open Go.Value renaming slice → zK
noncomputable section
open Go Go.Proofs Ev Sx
set_option maxRecDepth 100000
namespace Go.Proofs.Lx
abbrev gM:Type:=Oi×Int×Int×List (Int×List Int)×Int×Int×Int×Int×Int
abbrev jI:Type:=Int×Int×kL×List Bool
@[reducible] def ag4:Sh:=⟨[.d aL],[],aI,[.d (.int .u32)],[],0,[.int .u32]⟩
def ag5:Env:=(cts [(298,(⟨Xj,Mk⟩:Ct))])
def ag6:List (Nat×Hint):=[(7,⟨[],[3]⟩),(58,⟨[],[0,3,6,7]⟩)]
def Xm(b:List Int)(sum t6 t7:Int):St:=⟨[(0,dL b),(3,d2 sum),(6,dI t6),(7,dI t7)],19,[],[],0,[],0⟩
def ag7(sum:Int):St:=⟨[(3,d2 sum)],19,[],[],0,[],0⟩
def Jg(j2:Int->Option aQ)(self1:List Int->Int->Int->Int->Option aQ)(b:List Int)(sum t6 t7:Int):Option aQ :=
 if lt t7 t6=true then zC (at? b t7) fun y=>zC (Mk (sum,y,())) fun y=>self1 b y.1 t6 (add .i64 t7 1) else j2 sum
def Xn(sum:Int):Option aQ :=
 some (zF (BitVec.toNat { toFin:=⟨4294967295 ^^^ BitVec.toNat { toFin:=⟨zI (sum%4294967296),BitVec.ofInt._proof_1 (Go.IntKind.bits .u32) sum⟩ },BitVec.xor._proof_1 (BitVec.ofInt (Go.IntKind.bits .u32) (if Go.IntKind.signed .u32=true then -1 else Go.IntKind.max .u32)) (BitVec.ofInt (Go.IntKind.bits .u32) sum)⟩ } % 4294967296),())
def apD(j1:List Int->Int->Int->Int->Option aQ)(b:List Int):Option aQ :=
 j1 b 4294967295 (zF (zG b)) 0
def apE:=Xn
def OL(b:List Int)(sum t6 t7:Int):Option aQ :=
 cu (fun self s=>Jg (apE) (fun b sum t6 t7=>self (b,sum,t6,t7)) s.1 s.2.1 s.2.2.1 s.2.2.2) 18446744073709551616 (b,sum,t6,t7)
def ag8(x:As aI):Option aQ:=apD OL x.1
abbrev pEb:=zp ag5 ag6 286 ag4
theorem aw8{J a}:pEb J 7 [] (ag7 a)=Xn a:=by kernel_rfl
theorem aw9{J w1 a b c d}:pEb J 58 [w1] (Xm a b c d)=Jg (C (J 7 []) ag7) (C w1 Xm) a b c d:=by kernel_rfl
abbrev pEa:=zj ag5 ag6 286 ag4
theorem axa:C (pEa 7 []) ag7=apE:=gNC (by decide) fun _=>aw8
theorem axb:C (pEa 58 []) Xm=OL:=gLC (by decide) (by kernel_rfl) (fun _=>by unfold OL;rfl) fun _ _=>aw9.trans (by rw[axa]<;>kernel_rfl)
theorem axc:au Tryz.prog (fun _=>True) 286 ⟨ag4,ag8⟩:=zcc (env:=ag5) (d:=6) (hs:=Ev.get ag6) (aj aw7 bq) (fun J x=>apD (C (J 58 []) Xm) x.1) (fun _ _=>by kernel_rfl) fun _=>by rw[axb]<;>rfl
@[reducible] def ag9:Sh:=⟨[.d aB],[],aJ,[.d aL],[],0,aI⟩
def aha:Env:=(cts [])
def ahb:List (Nat×Hint):=[(58,⟨[],[0,3,10,11]⟩)]
def Xo(l:List Int)(t10 t11:Int)(b:List Int):St:=⟨[(0,dW l),(3,.row 0),(10,dI t10),(11,dI t11)],36,[],[(0,.row (.int .u8) 5 b)],1,[],0⟩
@[reducible] def zF0:Type:=List Int->Int->Int->List Int->Option cA
def OM(self1:zF0)(l:List Int)(t10 t11:Int)(b:List Int):Option cA :=
 if lt t11 t10=true then zC (at? l t11) fun y=>zC (at? l t11) fun y_1=>zC (at? b (mul .i64 2 t11)) fun x=>zC (at? b (mul .i64 2 t11)) fun x=>zC (at? (List.set b (zI (mul .i64 2 t11)) (cvt .u8 (Sx.shr .u16 y 8))) (add .i64 (mul .i64 2 t11) 1)) fun x=>zC (at? (List.set b (zI (mul .i64 2 t11)) (cvt .u8 (Sx.shr .u16 y 8))) (add .i64 (mul .i64 2 t11) 1)) fun x=>self1 l t10 (add .i64 t11 1) (List.set (List.set b (zI (mul .i64 2 t11)) (cvt .u8 (Sx.shr .u16 y 8))) (zI (add .i64 (mul .i64 2 t11) 1)) (cvt .u8 y_1)) else some (b,())
def Xp(j1:zF0)(l:List Int):Option cA :=
 need (ge (mul .i64 2 (zF (zG l))) 0) (need (Ev.jR (mul .i64 2 (zF (zG l))) (mul .i64 2 (zF (zG l)))) (need (small (zI (mul .i64 2 (zF (zG l))))) (j1 l (zF (zG l)) 0 (List.replicate (zI (mul .i64 2 (zF (zG l)))) 0))))
def OO(l:List Int)(t10 t11:Int)(b:List Int):Option cA :=
 cu (fun self s=>OM (fun l t10 t11 b=>self (l,t10,t11,b)) s.1 s.2.1 s.2.2.1 s.2.2.2) 18446744073709551616 (l,t10,t11,b)
def ahc(x:As aJ):Option cA:=Xp OO x.1
abbrev pE5:=zp aha ahb 287 ag9
theorem axd{J w1 a b c d}:pE5 J 58 [w1] (Xo a b c d)=OM (C w1 Xo) a b c d:=by kernel_rfl
abbrev pE4:=zj aha ahb 287 ag9
theorem axe:C (pE4 58 []) Xo=OO:=gLC (by decide) (by kernel_rfl) (fun _=>by unfold OO;rfl) fun _ _=>axd.trans (by kernel_rfl)
theorem axf:au Tryz.prog (fun _=>True) 287 ⟨ag9,ahc⟩:=zcc (env:=aha) (d:=6) (hs:=Ev.get ahb) bq (fun J x=>Xp (C (J 58 []) Xo) x.1) (fun _ _=>by kernel_rfl) fun _=>by rw[axe]<;>rfl
@[reducible] def apF:Sh:=⟨[.d aB],[],aJ,[.d (.int .u32)],[],0,[.int .u32]⟩
def ahd(l:List Int):Option aQ :=
 zC (ahc (l,())) fun y=>zC (ag8 (y.1,())) fun y=>some (y.1,())
def Xq(x:As aJ):Option aQ:=ahd x.1
theorem axg:au Tryz.prog (fun _=>True) 268 ⟨apF,Xq⟩:=ctn (aj axc (aj axf bq)) 6 fun J x=>by kernel_rfl
@[reducible] def OP:Sh:=⟨[.d (.sl d9)],[],[.sl d9],[.d (.int .u32)],[],0,[.int .u32]⟩
def ahe:Env:=(cts [(267,(⟨OE,Fq⟩:Ct)),(268,(⟨apF,Xq⟩:Ct))])
def ahf:List (Nat×Hint):=[(7,⟨[],[3]⟩),(58,⟨[.row 3 25],[3,6,7,8]⟩)]
@[reducible] def zF1:Type:=List (Int×List Int)
def Xr(t6:zF1)(t7 t8:Int)(all:List Int):St:=⟨[(3,.row 0),(6,.d (.sl d9) t6),(7,dI t7),(8,dI t8)],19,[],[(0,.row (.int .u16) 25 all)],1,[],0⟩
def ahg(all:List Int):St:=⟨[(3,.row 0)],19,[],[(0,.row (.int .u16) 25 all)],1,[],0⟩
@[reducible] def zF2:Type:=List (Int×List Int)->Int->Int->List Int->Option aQ
def Jh(j2:List Int->Option aQ)(self1:zF2)(t6:zF1)(t7 t8:Int)(all:List Int):Option aQ :=
 if lt t8 t7=true then zC (at? t6 t8) fun y=>zC (Fq (y,())) fun y=>need (small (zG all+zG y.1)) (self1 t6 t7 (add .i64 t8 1) (all++y.1)) else j2 all
def Xt(all:List Int):Option aQ :=
 zC (Xq (all,())) fun y=>some (y.1,())
def apG(j1:zF2)(l:zF1):Option aQ :=
 j1 l (zF (zG l)) 0 []
def ahh:=Xt
def OQ(t6:zF1)(t7 t8:Int)(all:List Int):Option aQ :=
 cu (fun self s=>Jh (ahh) (fun t6 t7 t8 all=>self (t6,t7,t8,all)) s.1 s.2.1 s.2.2.1 s.2.2.2) 18446744073709551616 (t6,t7,t8,all)
def Ji(x:As [.sl d9]):Option aQ:=apG OQ x.1
abbrev pD3:=zp ahe ahf 242 OP
theorem axh{J a}:pD3 J 7 [] (ahg a)=Xt a:=by kernel_rfl
theorem axi{J w1 a b c d}:pD3 J 58 [w1] (Xr a b c d)=Jh (C (J 7 []) ahg) (C w1 Xr) a b c d:=by kernel_rfl
abbrev pD2:=zj ahe ahf 242 OP
theorem axj:C (pD2 7 []) ahg=ahh:=gNC (by decide) fun _=>axh
theorem axk:C (pD2 58 []) Xr=OQ:=gLC (by decide) (by kernel_rfl) (fun _=>by unfold OQ;rfl) fun _ _=>axi.trans (by rw[axj]<;>kernel_rfl)
theorem apH:au Tryz.prog (fun _=>True) 242 ⟨OP,Ji⟩:=zcc (env:=ahe) (d:=6) (hs:=Ev.get ahf) (aj ag0 (aj axg bq)) (fun J x=>apG (C (J 58 []) Xr) x.1) (fun _ _=>by kernel_rfl) fun _=>by rw[axk]<;>rfl
@[reducible] def fI:List Ty:=[.int .u16,.int .u16]
@[reducible] def apI:Sh:=⟨[.d (.int .u32)],[],[.int .u32],[.d (.int .u16),.d (.int .u16)],[],0,fI⟩
def ahi(x:Int):Option (As fI) :=
 some (cvt .u16 (Sx.shr .u32 x 16),cvt .u16 x,())
def B5(x:As [.int .u32]):Option (As fI):=ahi x.1
theorem ahj:au Tryz.prog (fun _=>True) 269 ⟨apI,B5⟩:=ctn bq 6 fun J x=>by kernel_rfl
@[reducible] def cR:Ty:=.pr (.int .u16) D6
@[reducible] def apJ:Sh:=⟨[.d cR],[],[.pr (.int .u16) D6],[.d aB],[],0,aJ⟩
def ahk(c:Int×Int×Int×Int×Int):Option bY :=
 zC (B5 (c.2.2.1,())) fun y=>zC (B5 (c.2.2.2.2,())) fun y_1=>some ([c.1,cvt .u16 c.2.1,y.1,y.2.1,c.2.2.2.1,y_1.1,y_1.2.1,0],())
def Xu(x:As [.pr (.int .u16) D6]):Option bY:=ahk x.1
theorem axl:au Tryz.prog (fun _=>True) 243 ⟨apJ,Xu⟩:=ctn (aj ahj bq) 6 fun J x=>by kernel_rfl
@[reducible] def dJ:List Ty:=[.pr aC nE,.int .u8]
@[reducible] def OT:Sh:=⟨[.d aX,.d (.int .u8)],[],dJ,[.d bA],[],0,aW⟩
def ahl:Env:=(cts [(242,(⟨OP,Ji⟩:Ct)),(243,(⟨apJ,Xu⟩:Ct))])
def ahm:List (Nat×Hint):=[(7,⟨[],[4,5]⟩)]
@[reducible] def zF3:Type:=Int×Int×Int×Int×Unit×Unit
def ahn(t4:zF3)(c:Int×Int×Int×Int×Int):St:=⟨[(4,.pb 0 0),(5,.pb 1 0)],26,[],[(0,.box 27 [d8 t4.1,d6 t4.2.1,d6 t4.2.2.1,d6 t4.2.2.2.1,.k (zK zH 0 0),.k (zK zH 0 0)]),(1,.box 104 [d6 c.1,d8 c.2.1,d2 c.2.2.1,d6 c.2.2.2.1,d2 c.2.2.2.2])],2,[],0⟩
def Xv(t4:zF3)(c:Int×Int×Int×Int×Int):Option dZ :=
 zC (Xu (c,())) fun y=>some ((23,256,8,272,y.1,[]),())
def Xw(j1:Int×Int×Int×Int×Unit×Unit->Int×Int×Int×Int×Int->Option dZ)(t:gM)(v:Int):Option dZ :=
 if eqi v 2=true then zC (Ji (t.2.2.2.1,())) fun y=>j1 (0,0,0,0,(),()) (t.2.1,v,t.2.2.1,cvt .u16 (zF (zG t.2.2.2.1)),y.1) else j1 (0,0,0,0,(),()) (t.2.1,v,t.2.2.1,0,0)
def Xx:=Xv
def B6(x:As dJ):Option dZ:=Xw Xx x.1 x.2.1
abbrev pE3:=zp ahl ahm 204 OT
theorem axm{J a b}:pE3 J 7 [] (ahn a b)=Xv a b:=by kernel_rfl
abbrev pE2:=zj ahl ahm 204 OT
theorem axn:C (pE2 7 []) ahn=Xx:=gNC (by decide) fun _=>axm
theorem apK:au Tryz.prog (fun _=>True) 204 ⟨OT,B6⟩:=zcc (env:=ahl) (d:=6) (hs:=Ev.get ahm) (aj apH (aj axl bq)) (fun J x=>Xw (C (J 7 []) ahn) x.1 x.2.1) (fun _ _=>by kernel_rfl) fun _=>by rw[axn]<;>rfl
@[reducible] def zF4:Type:=Int×Int×Int×Int×Bool×xC×Int×Int×Int
@[reducible] def Xy:Sh:=⟨[.d aC],[],cH,[.d aC],[],0,cH⟩
def axo(p:zF4):Option (As cH) :=
 some ((p.1,p.2.1,p.2.2.1,p.2.2.2.1,false,(0,0,0,0,[],[]),p.2.2.2.2.2.2.1,0,0),())
def Ca(x:As cH):Option (As cH):=axo x.1
theorem Xz:au Tryz.prog (fun _=>True) 64 ⟨Xy,Ca⟩:=ctn bq 6 fun J x=>by kernel_rfl
@[reducible] def OU:Sh:=⟨[.d aX,.d (.int .u8)],[],dJ,[.d aX],[],0,aN⟩
def axp(t:gM)(said:Int):Option bV :=
 zC (Ca (t.1,())) fun y=>some ((y.1,t.2.1,t.2.2.1,t.2.2.2.1,t.2.2.2.2.1,0,t.2.2.2.2.2.2.1,t.2.2.2.2.2.2.2.1,said),())
def nG(x:As dJ):Option bV:=axp x.1 x.2.1
theorem Ao:au Tryz.prog (fun _=>True) 56 ⟨OU,nG⟩:=ctn (aj Xz bq) 6 fun J x=>by kernel_rfl
@[reducible] def XA:Sh:=⟨[.d (.int .u16),.d (.int .u16)],[],fI,[.d (.int .u32)],[],0,[.int .u32]⟩
def aho(high low:Int):Option aQ :=
 some (Sx.bor .u32 (Sx.shl .u32 (cvt .u32 high) 16) (cvt .u32 low),())
def rT(x:As fI):Option aQ:=aho x.1 x.2.1
theorem ahp:au Tryz.prog (fun _=>True) 270 ⟨XA,rT⟩:=ctn bq 6 fun J x=>by kernel_rfl
@[reducible] def aP:Ty:=.pr (.int .u8) og
@[reducible] def aS:List Ty:=[.pr (.int .u8) og]
@[reducible] def eJ:List Ty:=[.pr (.int .u16) GY,.bool]
@[reducible] def Jj:Sh:=⟨[.d aP],[],aS,[.d (.pr (.int .u16) GY),.d (.bool)],[],0,eJ⟩
def ahq:Env:=(cts [(270,(⟨XA,rT⟩:Ct))])
def ahr:List (Nat×Hint):=[(6,⟨[],[1,2,13]⟩)]
@[reducible] def zF5:Type:=Int×Int×List Bool×List Int×Int×Int
@[reducible] def zF6:Type:=Int×Int×Int×Int
def ahs(t13:Bool)(r:zF5)(t2:zF6):St:=⟨[(1,.pb 0 0),(2,.pb 1 0),(13,dB t13)],38,[],[(0,.box 109 [d8 r.1,d8 r.2.1,.d (.sl .bool) r.2.2.1,dW r.2.2.2.1,d6 r.2.2.2.2.1,d6 r.2.2.2.2.2]),(1,.box 301 [d6 t2.1,d6 t2.2.1,d2 t2.2.2.1,d2 t2.2.2.2])],2,[],0⟩
def apL(t13:Bool)(r:zF5)(t2:zF6):Option (As eJ) :=
 if t13=true then some ((0,0,0,0),false,()) else zC (at? r.2.2.2.1 0) fun y=>zC (at? r.2.2.2.1 1) fun y_1=>zC (at? r.2.2.2.1 2) fun y_2=>zC (at? r.2.2.2.1 3) fun y_3=>zC (at? r.2.2.2.1 4) fun y_4=>zC (at? r.2.2.2.1 5) fun y_5=>zC (rT (y_2,y_3,())) fun y_6=>zC (rT (y_4,y_5,())) fun y_7=>some ((y,y_1,y_6.1,y_7.1),true,())
def XB(j1:Bool->Int×Int×List Bool×List Int×Int×Int->Int×Int×Int×Int->Option (As eJ))(r:zF5):Option (As eJ) :=
 if nei r.2.1 0=true then j1 true r (0,0,0,0) else j1 (nei (zF (zG r.2.2.2.1)) 8) r (0,0,0,0)
def aht:=apL
def yh(x:As aS):Option (As eJ):=XB aht x.1
abbrev pEx:=zp ahq ahr 244 Jj
theorem axq{J a b c}:pEx J 6 [] (ahs a b c)=apL a b c:=by kernel_rfl
abbrev pEw:=zj ahq ahr 244 Jj
theorem axr:C (pEw 6 []) ahs=aht:=gNC (by decide) fun _=>axq
theorem OV:au Tryz.prog (fun _=>True) 244 ⟨Jj,yh⟩:=zcc (env:=ahq) (d:=6) (hs:=Ev.get ahr) (aj ahp bq) (fun J x=>XB (C (J 6 []) ahs) x.1) (fun _ _=>by kernel_rfl) fun _=>by rw[axr]<;>rfl
@[reducible] def XC:Sh:=⟨[.d (.pr (.int .u16) GY),.d aX],[],[.pr (.int .u16) GY,.pr aC nE],[.d (.bool)],[],0,[.bool]⟩
def ahu(s:zF6)(t:gM):Option aF :=
 if eqi s.1 t.2.1=true then some (eqi s.2.2.1 t.2.2.1,()) else some (false,())
def rU(x:As [.pr (.int .u16) GY,.pr aC nE]):Option aF:=ahu x.1 x.2.1
theorem XD:au Tryz.prog (fun _=>True) 245 ⟨XC,rU⟩:=ctn bq 6 fun J x=>by kernel_rfl
@[reducible] def apM:Sh:=⟨[.d aX,.d (.int .u8)],[],dJ,[.d aX],[],0,aN⟩
def axt(t:gM)(at':Int):Option bV :=
 some ((t.1,t.2.1,t.2.2.1,t.2.2.2.1,t.2.2.2.2.1,at',t.2.2.2.2.2.2),())
def qT(x:As dJ):Option bV:=axt x.1 x.2.1
theorem Jk:au Tryz.prog (fun _=>True) 249 ⟨apM,qT⟩:=ctn bq 6 fun J x=>by kernel_rfl
@[reducible] def ahv:Sh:=⟨[.d aX],[],aN,[.d aX],[],0,aN⟩
def ahw(t:gM):Option bV :=
 if ge t.2.2.2.2.2.2.1 (zF (zG t.2.2.2.1))=true then zC (qT (t,4,())) fun y=>some (y.1,()) else zC (qT (t,2,())) fun y=>some (y.1,())
def Cb(x:As aN):Option bV:=ahw x.1
theorem apN:au Tryz.prog (fun _=>True) 246 ⟨ahv,Cb⟩:=ctn (aj Jk bq) 6 fun J x=>by kernel_rfl
@[reducible] def XE:Sh:=⟨[.d aX,.d (.int .u8)],[],dJ,[.d aX],[],0,aN⟩
def ahx(t:gM)(at':Int):Option bV :=
 if gt (add .i64 t.2.2.2.2.2.2.2.1 1) 8=true then zC (nG ((t.1,t.2.1,t.2.2.1,t.2.2.2.1,t.2.2.2.2.1,t.2.2.2.2.2.1,t.2.2.2.2.2.2.1,add .i64 t.2.2.2.2.2.2.2.1 1,t.2.2.2.2.2.2.2.2),2,())) fun y=>some (y.1,()) else zC (qT ((t.1,t.2.1,t.2.2.1,t.2.2.2.1,t.2.2.2.2.1,t.2.2.2.2.2.1,t.2.2.2.2.2.2.1,add .i64 t.2.2.2.2.2.2.2.1 1,t.2.2.2.2.2.2.2.2),at',())) fun y=>some (y.1,())
def wF(x:As dJ):Option bV:=ahx x.1 x.2.1
theorem ahy:au Tryz.prog (fun _=>True) 247 ⟨XE,wF⟩:=ctn (aj Ao (aj Jk bq)) 6 fun J x=>by kernel_rfl
@[reducible] def aY:List Ty:=[.pr aC nE,.pr (.int .u8) og]
@[reducible] def OX:Sh:=⟨[.d aX,.d aP],[],aY,[.d aX],[],0,aN⟩
def ahz:Env:=(cts [(56,(⟨OU,nG⟩:Ct)),(244,(⟨Jj,yh⟩:Ct)),(245,(⟨XC,rU⟩:Ct)),(246,(⟨ahv,Cb⟩:Ct)),(247,(⟨XE,wF⟩:Ct))])
def ahA:List (Nat×Hint):=[(115,⟨[],[2,4,5,17,33,34,35]⟩),(463,⟨[],[2,4,28]⟩)]
@[reducible] def zF7:Type:=lN×Int×Int×Unit×Int×Int×Int×Int×Int
def ahB(t17:Bool)(t:gM)(t4:zF7)(s:zF6):St:=⟨[(2,.pb 0 0),(4,.pb 1 0),(5,.pb 2 0),(17,dB t17)],42,[],[(0,.box 33 (gD t [])),(1,.box 33 [d8 t4.1.1,d8 t4.1.2.1,dI t4.1.2.2.1,dI t4.1.2.2.2.1,dB t4.1.2.2.2.2.1,d8 t4.1.2.2.2.2.2.1.1,d6 t4.1.2.2.2.2.2.1.2.1,d6 t4.1.2.2.2.2.2.1.2.2.1,d6 t4.1.2.2.2.2.2.1.2.2.2.1,.k (zK zH 0 0),.k (zK zH 0 0),d6 t4.1.2.2.2.2.2.2.1,dI t4.1.2.2.2.2.2.2.2.1,dI t4.1.2.2.2.2.2.2.2.2,d6 t4.2.1,d2 t4.2.2.1,.k (zK zH 0 0),d8 t4.2.2.2.2.1,d8 t4.2.2.2.2.2.1,dI t4.2.2.2.2.2.2.1,dI t4.2.2.2.2.2.2.2.1,d8 t4.2.2.2.2.2.2.2.2]),(2,.box 301 [d6 s.1,d6 s.2.1,d2 s.2.2.1,d2 s.2.2.2])],3,[],0⟩
def ahC(t28:Bool)(t:gM)(t4:zF7):St:=⟨[(2,.pb 0 0),(4,.pb 1 0),(28,dB t28)],42,[],[(0,.box 33 (gD t [])),(1,.box 33 [d8 t4.1.1,d8 t4.1.2.1,dI t4.1.2.2.1,dI t4.1.2.2.2.1,dB t4.1.2.2.2.2.1,d8 t4.1.2.2.2.2.2.1.1,d6 t4.1.2.2.2.2.2.1.2.1,d6 t4.1.2.2.2.2.2.1.2.2.1,d6 t4.1.2.2.2.2.2.1.2.2.2.1,.k (zK zH 0 0),.k (zK zH 0 0),d6 t4.1.2.2.2.2.2.2.1,dI t4.1.2.2.2.2.2.2.2.1,dI t4.1.2.2.2.2.2.2.2.2,d6 t4.2.1,d2 t4.2.2.1,.k (zK zH 0 0),d8 t4.2.2.2.2.1,d8 t4.2.2.2.2.2.1,dI t4.2.2.2.2.2.2.1,dI t4.2.2.2.2.2.2.2.1,d8 t4.2.2.2.2.2.2.2.2])],2,[],0⟩
def XF(j2:Bool->gM->lN×Int×Int×Unit×Int×Int×Int×Int×Int->Option bV)(t17:Bool)(t:gM)(t4:zF7)(s:zF6):Option bV :=
 if t17=true then zC (nG (t,1,())) fun y=>some (y.1,()) else zC (rU (s,t,())) fun y=>if y.1=true then j2 (eqi s.2.1 1) t ((t4.1.1,t4.1.2.1,t4.1.2.2.1,t4.1.2.2.2.1,t4.1.2.2.2.2.1,(t4.1.2.2.2.2.2.1.1,t4.1.2.2.2.2.2.1.2.1,t4.1.2.2.2.2.2.1.2.2.1,t4.1.2.2.2.2.2.1.2.2.2.1,(),()),t4.1.2.2.2.2.2.2),t4.2) else j2 false t ((t4.1.1,t4.1.2.1,t4.1.2.2.1,t4.1.2.2.2.1,t4.1.2.2.2.2.1,(t4.1.2.2.2.2.2.1.1,t4.1.2.2.2.2.2.1.2.1,t4.1.2.2.2.2.2.1.2.2.1,t4.1.2.2.2.2.2.1.2.2.2.1,(),()),t4.1.2.2.2.2.2.2),t4.2)
def atP(t28:Bool)(t:gM)(t4:zF7):Option bV :=
 if t28=true then zC (Cb ((t.1,t.2.1,t.2.2.1,t.2.2.2.1,t.2.2.2.2.1,t.2.2.2.2.2.1,0,t.2.2.2.2.2.2.2),())) fun y=>some (y.1,()) else zC (wF (t,1,())) fun y=>some (y.1,())
def XG(j1:Bool->gM->lN×Int×Int×Unit×Int×Int×Int×Int×Int->Int×Int×Int×Int->Option bV)(t:gM)(r:zF5):Option bV :=
 zC (yh (r,())) fun y=>if (!y.2.1)=true then zC (nG (t,2,())) fun y=>some (y.1,()) else zC (rU (y.1,t,())) fun y_1=>if y_1.1=true then j1 (eqi y.1.2.1 2) t ((0,0,0,0,false,(0,0,0,0,(),()),0,0,0),0,0,(),0,0,0,0,0) y.1 else j1 false t ((0,0,0,0,false,(0,0,0,0,(),()),0,0,0),0,0,(),0,0,0,0,0) y.1
def OY:=atP
def Fu:=XF (OY)
def OZ(x:As aY):Option bV:=XG Fu x.1 x.2.1
abbrev pEj:=zp ahz ahA 205 OX
theorem axu{J a b c}:pEj J 463 [] (ahC a b c)=atP a b c:=by kernel_rfl
theorem axv{J a b c d}:pEj J 115 [] (ahB a b c d)=XF (C (J 463 []) ahC) a b c d:=by kernel_rfl
abbrev pEi:=zj ahz ahA 205 OX
theorem axw:C (pEi 463 []) ahC=OY:=gNC (by decide) fun _=>axu
theorem axx:C (pEi 115 []) ahB=Fu:=gNC (by decide) fun _=>axv.trans (by rw[axw]<;>kernel_rfl)
theorem atQ:au Tryz.prog (fun _=>True) 205 ⟨OX,OZ⟩:=zcc (env:=ahz) (d:=6) (hs:=Ev.get ahA) (aj Ao (aj OV (aj XD (aj apN (aj ahy bq))))) (fun J x=>XG (C (J 115 []) ahB) x.1 x.2.1) (fun _ _=>by kernel_rfl) fun _=>by rw[axx]<;>rfl
@[reducible] def ahD:Sh:=⟨[.d (.int .i64)],[],[.int .i64],[.d (.bool)],[],0,[.bool]⟩
def ahE(n:Int):Option aF :=
 if ge n 0=true then some (lt n 8,()) else some (false,())
def Fv(x:As [.int .i64]):Option aF:=ahE x.1
theorem ahF:au Tryz.prog (fun _=>True) 283 ⟨ahD,Fv⟩:=ctn bq 6 fun J x=>by kernel_rfl
@[reducible] def dK:List Ty:=[.int .u16,.int .u32,.int .i64,.pr (.int .i64) aB]
@[reducible] def apO:Sh:=⟨[.d (.int .u16),.d (.int .u32),.d (.int .i64),.d d9],[],dK,[.d aB],[],0,aJ⟩
def ahG(owner tx n:Int)(x:Int×List Int):Option bY :=
 zC (B5 (tx,())) fun y=>need (small (0+Nat.succ (Nat.succ (Nat.succ (Nat.succ 0))))) (zC (Fq (x,())) fun y_1=>need (small (Nat.succ (Nat.succ (Nat.succ (Nat.succ 0)))+zG y_1.1)) (some (owner::y.1::y.2.1::cvt .u16 n::y_1.1,())))
def O0(x:As dK):Option bY:=ahG x.1 x.2.1 x.2.2.1 x.2.2.2.1
theorem atS:au Tryz.prog (fun _=>True) 284 ⟨apO,O0⟩:=ctn (aj ag0 (aj ahj bq)) 6 fun J x=>by kernel_rfl
@[reducible] def apP:Sh:=⟨[.d (.int .u16),.d (.int .u32),.d (.int .i64),.d d9],[],dK,[.d aB,.d (.int .i64)],[],0,bW⟩
def ahH(owner tx n:Int)(x:Int×List Int):Option (As bW) :=
 zC (Fv (n,())) fun y=>if (!y.1)=true then some ([],2,()) else zC (sZ (x,())) fun y=>if (!y.1)=true then some ([],20,()) else zC (O0 (owner,tx,n,x,())) fun y=>some (y.1,0,())
def XH(x:As dK):Option (As bW):=ahH x.1 x.2.1 x.2.2.1 x.2.2.2.1
theorem axy:au Tryz.prog (fun _=>True) 271 ⟨apP,XH⟩:=ctn (aj Jf (aj ahF (aj atS bq))) 6 fun J x=>by kernel_rfl
@[reducible] def fB:List Ty:=[.sl (.int .u16),.bool]
@[reducible] def XI:Sh:=⟨[.d aX],[],aN,[.d aB,.d (.bool)],[],0,fB⟩
def ahI:Env:=(cts [(271,(⟨apP,XH⟩:Ct))])
def ahJ:List (Nat×Hint):=[(6,⟨[],[1,16]⟩)]
def ahK(t16:Bool)(t:gM):St:=⟨[(1,.pb 0 0),(16,dB t16)],36,[],[(0,.box 33 (gD t []))],1,[],0⟩
def XJ(t16:Bool)(t:gM):Option (As fB) :=
 if t16=true then some ([],false,()) else zC (at? t.2.2.2.1 t.2.2.2.2.2.2.1) fun y=>zC (XH (t.2.1,t.2.2.1,t.2.2.2.2.2.2.1,y,())) fun y=>some (y.1,eqi y.2.1 0,())
def XK(j1:Bool->gM->Option (As fB))(t:gM):Option (As fB) :=
 if lt t.2.2.2.2.2.2.1 0=true then j1 true t else j1 (ge t.2.2.2.2.2.2.1 (zF (zG t.2.2.2.1))) t
def ahL:=XJ
def O1(x:As aN):Option (As fB):=XK ahL x.1
abbrev pEh:=zp ahI ahJ 248 XI
theorem axz{J a b}:pEh J 6 [] (ahK a b)=XJ a b:=by kernel_rfl
abbrev pEg:=zj ahI ahJ 248 XI
theorem axA:C (pEg 6 []) ahK=ahL:=gNC (by decide) fun _=>axz
theorem apQ:au Tryz.prog (fun _=>True) 248 ⟨XI,O1⟩:=zcc (env:=ahI) (d:=6) (hs:=Ev.get ahJ) (aj axy bq) (fun J x=>XK (C (J 6 []) ahK) x.1) (fun _ _=>by kernel_rfl) fun _=>by rw[axA]<;>rfl
@[reducible] def ahM:Sh:=⟨[.d aX],[],aN,[.d bA],[],0,aW⟩
def ahN(t:gM):Option dZ :=
 zC (O1 (t,())) fun y=>if (!y.2.1)=true then some ((0,0,0,0,[],[]),()) else some ((16,288,cvt .u16 (zF (zG y.1)),0,y.1,[]),())
def XL(x:As aN):Option dZ:=ahN x.1
theorem apR:au Tryz.prog (fun _=>True) 206 ⟨ahM,XL⟩:=ctn (aj apQ bq) 6 fun J x=>by kernel_rfl
@[reducible] def ahO:Sh:=⟨[.d aX,.d aP],[],aY,[.d aX],[],0,aN⟩
def ahP(t:gM)(r:zF5):Option bV :=
 if nei r.2.1 0=true then zC (nG (t,2,())) fun y=>some (y.1,()) else zC (qT (t,3,())) fun y=>some (y.1,())
def O3(x:As aY):Option bV:=ahP x.1 x.2.1
theorem apS:au Tryz.prog (fun _=>True) 207 ⟨ahO,O3⟩:=ctn (aj Ao (aj Jk bq)) 6 fun J x=>by kernel_rfl
@[reducible] def XM:Sh:=⟨[.d aX],[],aN,[.d bA],[],0,aW⟩
def ahQ(t:gM):Option dZ :=
 some ((3,cvt .u16 (add .i64 512 (mul .i64 32 t.2.2.2.2.2.2.1)),20,0,[],[]),())
def XN(x:As aN):Option dZ:=ahQ x.1
theorem apT:au Tryz.prog (fun _=>True) 208 ⟨XM,XN⟩:=ctn bq 6 fun J x=>by kernel_rfl
@[reducible] def O4:Sh:=⟨[.d aB,.d aB],[],[.sl (.int .u16),.sl (.int .u16)],[.d (.bool)],[],0,[.bool]⟩
def ahR:Env:=(cts [])
def ahS:List (Nat×Hint):=[(58,⟨[],[0,1,12,13]⟩)]
def XO(s1 s2:List Int)(t12 t13:Int):St:=⟨[(0,dW s1),(1,dW s2),(12,dI t12),(13,dI t13)],26,[],[],0,[],0⟩
def O5(self1:List Int->List Int->Int->Int->Option aF)(s1 s2:List Int)(t12 t13:Int):Option aF :=
 if lt t13 t12=true then zC (at? s1 t13) fun y=>zC (at? s2 t13) fun y_1=>if nei y y_1=true then some (false,()) else self1 s1 s2 t12 (add .i64 t13 1) else some (true,())
def XP(j1:List Int->List Int->Int->Int->Option aF)(s1 s2:List Int):Option aF :=
 if nei (zF (zG s1)) (zF (zG s2))=true then some (false,()) else j1 s1 s2 (zF (zG s1)) 0
def O6(s1 s2:List Int)(t12 t13:Int):Option aF :=
 cu (fun self s=>O5 (fun s1 s2 t12 t13=>self (s1,s2,t12,t13)) s.1 s.2.1 s.2.2.1 s.2.2.2) 18446744073709551616 (s1,s2,t12,t13)
def yj(x:As [.sl (.int .u16),.sl (.int .u16)]):Option aF:=XP O6 x.1 x.2.1
abbrev pDp:=zp ahR ahS 90 O4
theorem aFd{J w1 a b c d}:pDp J 58 [w1] (XO a b c d)=O5 (C w1 XO) a b c d:=by kernel_rfl
abbrev pDo:=zj ahR ahS 90 O4
theorem aFe:C (pDo 58 []) XO=O6:=gLC (by decide) (by kernel_rfl) (fun _=>by unfold O6;rfl) fun _ _=>aFd.trans (by kernel_rfl)
theorem ahT:au Tryz.prog (fun _=>True) 90 ⟨O4,yj⟩:=zcc (env:=ahR) (d:=6) (hs:=Ev.get ahS) bq (fun J x=>XP (C (J 58 []) XO) x.1 x.2.1) (fun _ _=>by kernel_rfl) fun _=>by rw[aFe]<;>rfl
@[reducible] def O7:Sh:=⟨[.d aX,.d aP],[],aY,[.d aX],[],0,aN⟩
def ahU:Env:=(cts [(90,(⟨O4,yj⟩:Ct)),(246,(⟨ahv,Cb⟩:Ct)),(247,(⟨XE,wF⟩:Ct)),(248,(⟨XI,O1⟩:Ct))])
def ahV:List (Nat×Hint):=[(14,⟨[],[2,4,25]⟩)]
def ahW(t25:Bool)(t:gM)(t4:zF7):St:=⟨[(2,.pb 0 0),(4,.pb 1 0),(25,dB t25)],34,[],[(0,.box 33 (gD t [])),(1,.box 33 [d8 t4.1.1,d8 t4.1.2.1,dI t4.1.2.2.1,dI t4.1.2.2.2.1,dB t4.1.2.2.2.2.1,d8 t4.1.2.2.2.2.2.1.1,d6 t4.1.2.2.2.2.2.1.2.1,d6 t4.1.2.2.2.2.2.1.2.2.1,d6 t4.1.2.2.2.2.2.1.2.2.2.1,.k (zK zH 0 0),.k (zK zH 0 0),d6 t4.1.2.2.2.2.2.2.1,dI t4.1.2.2.2.2.2.2.2.1,dI t4.1.2.2.2.2.2.2.2.2,d6 t4.2.1,d2 t4.2.2.1,.k (zK zH 0 0),d8 t4.2.2.2.2.1,d8 t4.2.2.2.2.2.1,dI t4.2.2.2.2.2.2.1,dI t4.2.2.2.2.2.2.2.1,d8 t4.2.2.2.2.2.2.2.2])],2,[],0⟩
def atU(t25:Bool)(t:gM)(t4:zF7):Option bV :=
 if t25=true then zC (wF (t,2,())) fun y=>some (y.1,()) else zC (Cb ((t.1,t.2.1,t.2.2.1,t.2.2.2.1,t.2.2.2.2.1,t.2.2.2.2.2.1,add .i64 t.2.2.2.2.2.2.1 1,t.2.2.2.2.2.2.2),())) fun y=>some (y.1,())
def XQ(j1:Bool->gM->lN×Int×Int×Unit×Int×Int×Int×Int×Int->Option bV)(t:gM)(r:zF5):Option bV :=
 zC (O1 (t,())) fun y=>if (!y.2.1)=true then j1 true t ((0,0,0,0,false,(0,0,0,0,(),()),0,0,0),0,0,(),0,0,0,0,0) else if nei r.2.1 0=true then j1 true t ((0,0,0,0,false,(0,0,0,0,(),()),0,0,0),0,0,(),0,0,0,0,0) else zC (yj (r.2.2.2.1,y.1,())) fun y=>j1 (!y.1) t ((0,0,0,0,false,(0,0,0,0,(),()),0,0,0),0,0,(),0,0,0,0,0)
def O8:=atU
def O9(x:As aY):Option bV:=XQ O8 x.1 x.2.1
abbrev pEv:=zp ahU ahV 209 O7
theorem axB{J a b c}:pEv J 14 [] (ahW a b c)=atU a b c:=by kernel_rfl
abbrev pEu:=zj ahU ahV 209 O7
theorem axC:C (pEu 14 []) ahW=O8:=gNC (by decide) fun _=>axB
theorem atV:au Tryz.prog (fun _=>True) 209 ⟨O7,O9⟩:=zcc (env:=ahU) (d:=6) (hs:=Ev.get ahV) (aj ahT (aj apN (aj ahy (aj apQ bq)))) (fun J x=>XQ (C (J 14 []) ahW) x.1 x.2.1) (fun _ _=>by kernel_rfl) fun _=>by rw[axC]<;>rfl
@[reducible] def Pb:Sh:=⟨[.d aX,.d aP],[],aY,[.d aX],[],0,aN⟩
def ahX:Env:=(cts [(56,(⟨OU,nG⟩:Ct)),(244,(⟨Jj,yh⟩:Ct)),(245,(⟨XC,rU⟩:Ct)),(247,(⟨XE,wF⟩:Ct))])
def ahY:List (Nat×Hint):=[(115,⟨[],[2,4,17]⟩)]
def ahZ(t17:Bool)(t:gM)(t4:zF7):St:=⟨[(2,.pb 0 0),(4,.pb 1 0),(17,dB t17)],30,[],[(0,.box 33 (gD t [])),(1,.box 33 [d8 t4.1.1,d8 t4.1.2.1,dI t4.1.2.2.1,dI t4.1.2.2.2.1,dB t4.1.2.2.2.2.1,d8 t4.1.2.2.2.2.2.1.1,d6 t4.1.2.2.2.2.2.1.2.1,d6 t4.1.2.2.2.2.2.1.2.2.1,d6 t4.1.2.2.2.2.2.1.2.2.2.1,.k (zK zH 0 0),.k (zK zH 0 0),d6 t4.1.2.2.2.2.2.2.1,dI t4.1.2.2.2.2.2.2.2.1,dI t4.1.2.2.2.2.2.2.2.2,d6 t4.2.1,d2 t4.2.2.1,.k (zK zH 0 0),d8 t4.2.2.2.2.1,d8 t4.2.2.2.2.2.1,dI t4.2.2.2.2.2.2.1,dI t4.2.2.2.2.2.2.2.1,d8 t4.2.2.2.2.2.2.2.2])],2,[],0⟩
def atX(t17:Bool)(t:gM)(t4:zF7):Option bV :=
 if t17=true then zC (nG (t,1,())) fun y=>some (y.1,()) else zC (wF (t,4,())) fun y=>some (y.1,())
def XR(j1:Bool->gM->lN×Int×Int×Unit×Int×Int×Int×Int×Int->Option bV)(t:gM)(r:zF5):Option bV :=
 zC (yh (r,())) fun y=>if (!y.2.1)=true then zC (nG (t,2,())) fun y=>some (y.1,()) else zC (rU (y.1,t,())) fun y_1=>if y_1.1=true then j1 (eqi y.1.2.1 2) t ((0,0,0,0,false,(0,0,0,0,(),()),0,0,0),0,0,(),0,0,0,0,0) else j1 false t ((0,0,0,0,false,(0,0,0,0,(),()),0,0,0),0,0,(),0,0,0,0,0)
def Fw:=atX
def Pd(x:As aY):Option bV:=XR Fw x.1 x.2.1
abbrev pEt:=zp ahX ahY 211 Pb
theorem axD{J a b c}:pEt J 115 [] (ahZ a b c)=atX a b c:=by kernel_rfl
abbrev pEs:=zj ahX ahY 211 Pb
theorem axE:C (pEs 115 []) ahZ=Fw:=gNC (by decide) fun _=>axD
theorem atY:au Tryz.prog (fun _=>True) 211 ⟨Pb,Pd⟩:=zcc (env:=ahX) (d:=6) (hs:=Ev.get ahY) (aj Ao (aj OV (aj XD (aj ahy bq)))) (fun J x=>XR (C (J 115 []) ahZ) x.1 x.2.1) (fun _ _=>by kernel_rfl) fun _=>by rw[axE]<;>rfl
@[reducible] def ah0:Sh:=⟨[.d aX,.d aP],[],aY,[.d aX],[],0,aN⟩
def ah1(t:gM)(r:zF5):Option bV :=
 zC (yh (r,())) fun y=>if (!y.2.1)=true then zC (qT (t,7,())) fun y=>some (y.1,()) else if ge y.1.2.2.2 t.2.2.1=true then zC (nG (t,1,())) fun y=>some (y.1,()) else zC (qT (t,5,())) fun y=>some (y.1,())
def Pe(x:As aY):Option bV:=ah1 x.1 x.2.1
theorem atZ:au Tryz.prog (fun _=>True) 213 ⟨ah0,Pe⟩:=ctn (aj Ao (aj OV (aj Jk bq))) 6 fun J x=>by kernel_rfl
@[reducible] def ah2:Sh:=⟨[.d aX,.d aP],[],aY,[.d aX],[],0,aN⟩
def ah3(t:gM)(r:zF5):Option bV :=
 zC (yh (r,())) fun y=>if (!y.2.1)=true then zC (qT (t,7,())) fun y=>some (y.1,()) else zC (rU (y.1,t,())) fun y=>if (!y.1)=true then zC (nG (t,1,())) fun y=>some (y.1,()) else zC (qT (t,6,())) fun y=>some (y.1,())
def Pf(x:As aY):Option bV:=ah3 x.1 x.2.1
theorem at5:au Tryz.prog (fun _=>True) 215 ⟨ah2,Pf⟩:=ctn (aj Ao (aj OV (aj XD (aj Jk bq)))) 6 fun J x=>by kernel_rfl
@[reducible] def XT:Sh:=⟨[.d aX],[],aN,[.d bA],[],0,aW⟩
def axF(v:gM):Option dZ :=
 some ((3,256,8,0,[],[]),())
def XU(x:As aN):Option dZ:=axF x.1
theorem apU:au Tryz.prog (fun _=>True) 216 ⟨XT,XU⟩:=ctn bq 6 fun J x=>by kernel_rfl
@[reducible] def Pg:Sh:=⟨[.d aX,.d aP],[],aY,[.d aX],[],0,aN⟩
def ah4:Env:=(cts [(56,(⟨OU,nG⟩:Ct)),(244,(⟨Jj,yh⟩:Ct)),(245,(⟨XC,rU⟩:Ct)),(249,(⟨apM,qT⟩:Ct))])
def ah5:List (Nat×Hint):=[(30,⟨[],[2,4,33]⟩),(116,⟨[],[2,4,22]⟩)]
def ah6(t22:Bool)(t:gM)(t4:zF7):St:=⟨[(2,.pb 0 0),(4,.pb 1 0),(22,dB t22)],38,[],[(0,.box 33 (gD t [])),(1,.box 33 [d8 t4.1.1,d8 t4.1.2.1,dI t4.1.2.2.1,dI t4.1.2.2.2.1,dB t4.1.2.2.2.2.1,d8 t4.1.2.2.2.2.2.1.1,d6 t4.1.2.2.2.2.2.1.2.1,d6 t4.1.2.2.2.2.2.1.2.2.1,d6 t4.1.2.2.2.2.2.1.2.2.2.1,.k (zK zH 0 0),.k (zK zH 0 0),d6 t4.1.2.2.2.2.2.2.1,dI t4.1.2.2.2.2.2.2.2.1,dI t4.1.2.2.2.2.2.2.2.2,d6 t4.2.1,d2 t4.2.2.1,.k (zK zH 0 0),d8 t4.2.2.2.2.1,d8 t4.2.2.2.2.2.1,dI t4.2.2.2.2.2.2.1,dI t4.2.2.2.2.2.2.2.1,d8 t4.2.2.2.2.2.2.2.2])],2,[],0⟩
def ah7(t33:Bool)(t:gM)(t4:zF7):St:=⟨[(2,.pb 0 0),(4,.pb 1 0),(33,dB t33)],38,[],[(0,.box 33 (gD t [])),(1,.box 33 [d8 t4.1.1,d8 t4.1.2.1,dI t4.1.2.2.1,dI t4.1.2.2.2.1,dB t4.1.2.2.2.2.1,d8 t4.1.2.2.2.2.2.1.1,d6 t4.1.2.2.2.2.2.1.2.1,d6 t4.1.2.2.2.2.2.1.2.2.1,d6 t4.1.2.2.2.2.2.1.2.2.2.1,.k (zK zH 0 0),.k (zK zH 0 0),d6 t4.1.2.2.2.2.2.2.1,dI t4.1.2.2.2.2.2.2.2.1,dI t4.1.2.2.2.2.2.2.2.2,d6 t4.2.1,d2 t4.2.2.1,.k (zK zH 0 0),d8 t4.2.2.2.2.1,d8 t4.2.2.2.2.2.1,dI t4.2.2.2.2.2.2.1,dI t4.2.2.2.2.2.2.2.1,d8 t4.2.2.2.2.2.2.2.2])],2,[],0⟩
def apV(t22:Bool)(t:gM)(t4:zF7):Option bV :=
 if t22=true then zC (nG (t,1,())) fun y=>some (y.1,()) else zC (qT (t,5,())) fun y=>some (y.1,())
def apW(t33:Bool)(t:gM)(t4:zF7):Option bV :=
 if t33=true then zC (nG (t,1,())) fun y=>some (y.1,()) else zC (qT (t,6,())) fun y=>some (y.1,())
def XW(j1 j2:Bool->gM->lN×Int×Int×Unit×Int×Int×Int×Int×Int->Option bV)(t:gM)(r:zF5):Option bV :=
 zC (yh (r,())) fun y=>if eqi t.2.2.2.2.1 2=true then if y.2.1=true then j1 (ge y.1.2.2.2 t.2.2.1) t ((0,0,0,0,false,(0,0,0,0,(),()),0,0,0),0,0,(),0,0,0,0,0) else j1 false t ((0,0,0,0,false,(0,0,0,0,(),()),0,0,0),0,0,(),0,0,0,0,0) else if y.2.1=true then zC (rU (y.1,t,())) fun y=>j2 (!y.1) t ((0,0,0,0,false,(0,0,0,0,(),()),0,0,0),0,0,(),0,0,0,0,0) else j2 false t ((0,0,0,0,false,(0,0,0,0,(),()),0,0,0),0,0,(),0,0,0,0,0)
def Ph:=apV
def Pj:=apW
def Pk(x:As aY):Option bV:=XW Ph Pj x.1 x.2.1
abbrev pEr:=zp ah4 ah5 217 Pg
theorem axG{J a b c}:pEr J 116 [] (ah6 a b c)=apV a b c:=by kernel_rfl
theorem axH{J a b c}:pEr J 30 [] (ah7 a b c)=apW a b c:=by kernel_rfl
abbrev pEq:=zj ah4 ah5 217 Pg
theorem axI:C (pEq 116 []) ah6=Ph:=gNC (by decide) fun _=>axG
theorem axJ:C (pEq 30 []) ah7=Pj:=gNC (by decide) fun _=>axH
theorem apX:au Tryz.prog (fun _=>True) 217 ⟨Pg,Pk⟩:=zcc (env:=ah4) (d:=6) (hs:=Ev.get ah5) (aj Ao (aj OV (aj XD (aj Jk bq)))) (fun J x=>XW (C (J 116 []) ah6) (C (J 30 []) ah7) x.1 x.2.1) (fun _ _=>by kernel_rfl) fun _=>by rw[axI,axJ]<;>rfl
@[reducible] def XX:Sh:=⟨[.d aX],[],aN,[.d bA],[],0,aW⟩
def ah8:Env:=(cts [(1000211,Ev.iw),(204,(⟨OT,B6⟩:Ct)),(205,(⟨OX,OZ⟩:Ct)),(206,(⟨ahM,XL⟩:Ct)),(207,(⟨ahO,O3⟩:Ct)),(208,(⟨XM,XN⟩:Ct)),(209,(⟨O7,O9⟩:Ct)),(211,(⟨Pb,Pd⟩:Ct)),(213,(⟨ah0,Pe⟩:Ct)),(215,(⟨ah2,Pf⟩:Ct)),(216,(⟨XT,XU⟩:Ct)),(217,(⟨Pg,Pk⟩:Ct))])
def ah9:List (Nat×Hint):=[(14,⟨[],[1,2,3,13]⟩)]
def aia(t13:Bool)(t:gM)(t2:zF3):St:=⟨[(1,.pb 0 0),(2,.pb 1 0),(3,.pb 2 0),(13,dB t13)],22,[],[(0,.box 33 (gD t [])),(1,.box 27 [d8 t2.1,d6 t2.2.1,d6 t2.2.2.1,d6 t2.2.2.2.1,.k (zK zH 0 0),.k (zK zH 0 0)]),(2,.box 211 [.k Go.Value.nilFunc,.k Go.Value.nilFunc,.fn (.func 203) [] [],.fn (.func 205) [] [],.fn (.func 206) [] [],.fn (.func 207) [] [],.fn (.func 208) [] [],.fn (.func 209) [] [],.fn (.func 210) [] [],.fn (.func 211) [] [],.fn (.func 212) [] [],.fn (.func 213) [] [],.fn (.func 214) [] [],.fn (.func 215) [] [],.fn (.func 216) [] [],.fn (.func 217) [] []])],3,[],0⟩
def XY(t13:Bool)(t:gM)(t2:zF3):Option dZ :=
 if t13=true then some ((0,0,0,0,[],[]),()) else if eqi t.2.2.2.2.2.1 7=true then zC (XU (t,())) fun y=>some (y.1,()) else if eqi t.2.2.2.2.2.1 6=true then zC (B6 (t,4,())) fun y=>some (y.1,()) else if eqi t.2.2.2.2.2.1 5=true then zC (B6 (t,3,())) fun y=>some (y.1,()) else if eqi t.2.2.2.2.2.1 4=true then zC (B6 (t,2,())) fun y=>some (y.1,()) else if eqi t.2.2.2.2.2.1 3=true then zC (XN (t,())) fun y=>some (y.1,()) else if eqi t.2.2.2.2.2.1 2=true then zC (XL (t,())) fun y=>some (y.1,()) else if eqi t.2.2.2.2.2.1 1=true then zC (B6 (t,1,())) fun y=>some (y.1,()) else if eqi t.2.2.2.2.2.1 0=true then zH else zH
def XZ(j1:Bool->gM->Int×Int×Int×Int×Unit×Unit->Option dZ)(t:gM):Option dZ :=
 if ge (cvt .i64 t.2.2.2.2.2.1) 8=true then j1 true t (0,0,0,0,(),()) else j1 (eqi t.2.2.2.2.2.1 0) t (0,0,0,0,(),())
def aib:=XY
def Pm(x:As aN):Option dZ:=XZ aib x.1
abbrev pEz:=zp ah8 ah9 117 XX
theorem axK{J a b c}:pEz J 14 [] (aia a b c)=XY a b c:=by kernel_rfl
abbrev pEy:=zj ah8 ah9 117 XX
theorem axL:C (pEy 14 []) aia=aib:=gNC (by decide) fun _=>axK
theorem axM:au Tryz.prog (fun _=>True) 117 ⟨XX,Pm⟩:=zcc (env:=ah8) (d:=6) (hs:=Ev.get ah9) (aj Ev.gJ (aj apK (aj atQ (aj apR (aj apS (aj apT (aj atV (aj atY (aj atZ (aj at5 (aj apU (aj apX bq)))))))))))) (fun J x=>XZ (C (J 14 []) aia) x.1) (fun _ _=>by kernel_rfl) fun _=>by rw[axL]<;>rfl
@[reducible] def bQ:List Ty:=[.pr aC nE,.sl (.int .u8)]
@[reducible] def Jl:Sh:=⟨[.d aX],[],aN,[.d aX,.d aL],[],0,bQ⟩
def aic:Env:=(cts [(116,(⟨apA,Je⟩:Ct)),(117,(⟨XX,Pm⟩:Ct))])
def aid:List (Nat×Hint):=[(3,⟨[],[1,2,4,5,6]⟩)]
def aie(frame:List Int)(err:Int)(t:gM)(t2:zF7)(p:zF4):St:=⟨[(1,.pb 0 0),(2,.pb 1 0),(4,.pb 2 0),(5,dL frame),(6,dI err)],23,[],[(0,.box 33 (gD t [])),(1,.box 33 [d8 t2.1.1,d8 t2.1.2.1,dI t2.1.2.2.1,dI t2.1.2.2.2.1,dB t2.1.2.2.2.2.1,d8 t2.1.2.2.2.2.2.1.1,d6 t2.1.2.2.2.2.2.1.2.1,d6 t2.1.2.2.2.2.2.1.2.2.1,d6 t2.1.2.2.2.2.2.1.2.2.2.1,.k (zK zH 0 0),.k (zK zH 0 0),d6 t2.1.2.2.2.2.2.2.1,dI t2.1.2.2.2.2.2.2.2.1,dI t2.1.2.2.2.2.2.2.2.2,d6 t2.2.1,d2 t2.2.2.1,.k (zK zH 0 0),d8 t2.2.2.2.2.1,d8 t2.2.2.2.2.2.1,dI t2.2.2.2.2.2.2.1,dI t2.2.2.2.2.2.2.2.1,d8 t2.2.2.2.2.2.2.2.2]),(2,.box 29 [d8 p.1,d8 p.2.1,dI p.2.2.1,dI p.2.2.2.1,dB p.2.2.2.2.1,d8 p.2.2.2.2.2.1.1,d6 p.2.2.2.2.2.1.2.1,d6 p.2.2.2.2.2.1.2.2.1,d6 p.2.2.2.2.2.1.2.2.2.1,dW p.2.2.2.2.2.1.2.2.2.2.1,.d (.sl .bool) p.2.2.2.2.2.1.2.2.2.2.2,d6 p.2.2.2.2.2.2.1,dI p.2.2.2.2.2.2.2.1,dI p.2.2.2.2.2.2.2.2])],3,[],0⟩
def apY(frame:List Int)(err:Int)(t:gM)(t2:zF7)(p:zF4):Option (As bQ) :=
 if nei err 0=true then some (t,[],()) else some ((p,t.2),frame,())
def X0(j1:List Int->Int->gM->lN×Int×Int×Unit×Int×Int×Int×Int×Int->Int×Int×Int×Int×Bool×xC×Int×Int×Int->Option (As bQ))(t:gM):Option (As bQ) :=
 amb (ay Jl.rs) [zC (Pm (t,())) fun y=>amb (ay Jl.rs) [zC (Je (t.1,y.1,())) fun y=>j1 y.2.1 y.2.2.1 t ((0,0,0,0,false,(0,0,0,0,(),()),0,0,0),0,0,(),0,0,0,0,0) y.1,zC (Je (t.1,y.1,())) fun y=>j1 y.2.1 y.2.2.1 t ((0,0,0,0,false,(0,0,0,0,(),()),0,0,0),0,0,(),0,0,0,0,0) y.1],zC (Pm (t,())) fun y=>zC (Je (t.1,y.1,())) fun y=>j1 y.2.1 y.2.2.1 t ((0,0,0,0,false,(0,0,0,0,(),()),0,0,0),0,0,(),0,0,0,0,0) y.1]
def aif:=apY
def Ap(x:As aN):Option (As bQ):=X0 aif x.1
abbrev pE1:=zp aic aid 57 Jl
theorem axN{J a b c d e}:pE1 J 3 [] (aie a b c d e)=apY a b c d e:=by kernel_rfl
abbrev pE0:=zj aic aid 57 Jl
theorem axO:C (pE0 3 []) aie=aif:=gNC (by decide) fun _=>axN
theorem aii:au Tryz.prog (fun _=>True) 57 ⟨Jl,Ap⟩:=zcc (env:=aic) (d:=6) (hs:=Ev.get aid) (aj awZ (aj axM bq)) (fun J x=>X0 (C (J 3 []) aie) x.1) (fun _ _=>by kernel_rfl) fun _=>by rw[axO]<;>rfl
@[reducible] def apZ:Sh:=⟨[.d (.int .u8)],[],[.int .u8],[.d (.int .u8),.d (.bool)],[],0,[.int .u8,.bool]⟩
def aij(goal:Int):Option (As [.int .u8,.bool]) :=
 if eqi goal 1=true then some (1,true,()) else if eqi goal 2=true then some (5,true,()) else if eqi goal 3=true then some (6,true,()) else some (0,false,())
def X3(x:As [.int .u8]):Option (As [.int .u8,.bool]):=aij x.1
theorem axP:au Tryz.prog (fun _=>True) 62 ⟨apZ,X3⟩:=ctn bq 6 fun J x=>by kernel_rfl
@[reducible] def X4:Sh:=⟨[.d (.sl d9)],[],[.sl d9],[.d (.bool)],[],0,[.bool]⟩
def aik:Env:=(cts [(26,(⟨OD,sZ⟩:Ct))])
def ail:List (Nat×Hint):=[(58,⟨[],[8,9,10]⟩)]
def X5(t8:zF1)(t9 t10:Int):St:=⟨[(8,.d (.sl d9) t8),(9,dI t9),(10,dI t10)],18,[],[],0,[],0⟩
@[reducible] def zF8:Type:=List (Int×List Int)->Int->Int->Option aF
def Jm(self1:zF8)(t8:zF1)(t9 t10:Int):Option aF :=
 if lt t10 t9=true then zC (at? t8 t10) fun y=>zC (sZ (y,())) fun y=>if (!y.1)=true then some (false,()) else self1 t8 t9 (add .i64 t10 1) else some (true,())
def X6(j1:zF8)(l:zF1):Option aF :=
 if gt (zF (zG l)) 8=true then some (false,()) else j1 l (zF (zG l)) 0
def X7(t8:zF1)(t9 t10:Int):Option aF :=
 cu (fun self s=>Jm (fun t8 t9 t10=>self (t8,t9,t10)) s.1 s.2.1 s.2.2) 18446744073709551616 (t8,t9,t10)
def X8(x:As [.sl d9]):Option aF:=X6 X7 x.1
abbrev pEp:=zp aik ail 63 X4
theorem axQ{J w1 a b c}:pEp J 58 [w1] (X5 a b c)=Jm (C w1 X5) a b c:=by kernel_rfl
abbrev pEo:=zj aik ail 63 X4
theorem axR:C (pEo 58 []) X5=X7:=gLC (by decide) (by kernel_rfl) (fun _=>by unfold X7;rfl) fun _ _=>axQ.trans (by kernel_rfl)
theorem axS:au Tryz.prog (fun _=>True) 63 ⟨X4,X8⟩:=zcc (env:=aik) (d:=6) (hs:=Ev.get ail) (aj Jf bq) (fun J x=>X6 (C (J 58 []) X5) x.1) (fun _ _=>by kernel_rfl) fun _=>by rw[axR]<;>rfl
@[reducible] def cL:List Ty:=[.pr aC nE,.sl (.int .u8),.int .i64]
@[reducible] def Pn:Sh:=⟨[.d aX,.d (.int .u8),.d (.int .u32),.d (.sl d9)],[],[.pr aC nE,.int .u8,.int .u32,.sl d9],[.d aX,.d aL,.d (.int .i64)],[],0,cL⟩
def aim:Env:=(cts [(54,(⟨apa,Fg⟩:Ct)),(57,(⟨Jl,Ap⟩:Ct)),(62,(⟨apZ,X3⟩:Ct)),(63,(⟨X4,X8⟩:Ct)),(64,(⟨Xy,Ca⟩:Ct)),(65,(⟨Wl,Ot⟩:Ct))])
def ain:List (Nat×Hint):=[(15,⟨[.agd 3 (.sl d9)],[1,2,3,4,8,11]⟩),(14,⟨[],[1,2,3,4,8,11,24]⟩)]
def aio(goal tx:Int)(l:zF1)(at':Int)(t24:Bool)(t:gM)(t8:zF7):St:=⟨[(1,d8 goal),(2,d2 tx),(3,.d (.sl d9) l),(4,.pb 0 0),(8,.pb 1 0),(11,d8 at'),(24,dB t24)],57,[],[(0,.box 33 (gD t [])),(1,.box 33 [d8 t8.1.1,d8 t8.1.2.1,dI t8.1.2.2.1,dI t8.1.2.2.2.1,dB t8.1.2.2.2.2.1,d8 t8.1.2.2.2.2.2.1.1,d6 t8.1.2.2.2.2.2.1.2.1,d6 t8.1.2.2.2.2.2.1.2.2.1,d6 t8.1.2.2.2.2.2.1.2.2.2.1,.k (zK zH 0 0),.k (zK zH 0 0),d6 t8.1.2.2.2.2.2.2.1,dI t8.1.2.2.2.2.2.2.2.1,dI t8.1.2.2.2.2.2.2.2.2,d6 t8.2.1,d2 t8.2.2.1,.k (zK zH 0 0),d8 t8.2.2.2.2.1,d8 t8.2.2.2.2.2.1,dI t8.2.2.2.2.2.2.1,dI t8.2.2.2.2.2.2.2.1,d8 t8.2.2.2.2.2.2.2.2])],2,[],0⟩
def aip(goal tx:Int)(l:zF1)(at':Int)(t:gM)(t8:zF7):St:=⟨[(1,d8 goal),(2,d2 tx),(3,.d (.sl d9) l),(4,.pb 0 0),(8,.pb 1 0),(11,d8 at')],57,[],[(0,.box 33 (gD t [])),(1,.box 33 [d8 t8.1.1,d8 t8.1.2.1,dI t8.1.2.2.1,dI t8.1.2.2.2.1,dB t8.1.2.2.2.2.1,d8 t8.1.2.2.2.2.2.1.1,d6 t8.1.2.2.2.2.2.1.2.1,d6 t8.1.2.2.2.2.2.1.2.2.1,d6 t8.1.2.2.2.2.2.1.2.2.2.1,.k (zK zH 0 0),.k (zK zH 0 0),d6 t8.1.2.2.2.2.2.2.1,dI t8.1.2.2.2.2.2.2.2.1,dI t8.1.2.2.2.2.2.2.2.2,d6 t8.2.1,d2 t8.2.2.1,.k (zK zH 0 0),d8 t8.2.2.2.2.1,d8 t8.2.2.2.2.2.1,dI t8.2.2.2.2.2.2.1,dI t8.2.2.2.2.2.2.2.1,d8 t8.2.2.2.2.2.2.2.2])],2,[],0⟩
def Jn(j2:Int->Int->List (Int×List Int)->Int->gM->lN×Int×Int×Unit×Int×Int×Int×Int×Int->Option (As cL))(goal tx:Int)(l:zF1)(at':Int)(t24:Bool)(t:gM)(t8:zF7):Option (As cL) :=
 if t24=true then zC (Fg (t,())) fun y=>some (y.1,[],2,()) else if nei goal 1=true then j2 goal tx [] at' t ((t8.1.1,t8.1.2.1,t8.1.2.2.1,t8.1.2.2.2.1,t8.1.2.2.2.2.1,(t8.1.2.2.2.2.2.1.1,t8.1.2.2.2.2.2.1.2.1,t8.1.2.2.2.2.2.1.2.2.1,t8.1.2.2.2.2.2.1.2.2.2.1,(),()),t8.1.2.2.2.2.2.2),t8.2) else j2 goal tx l at' t ((t8.1.1,t8.1.2.1,t8.1.2.2.1,t8.1.2.2.2.1,t8.1.2.2.2.2.1,(t8.1.2.2.2.2.2.1.1,t8.1.2.2.2.2.2.1.2.1,t8.1.2.2.2.2.2.1.2.2.1,t8.1.2.2.2.2.2.1.2.2.2.1,(),()),t8.1.2.2.2.2.2.2),t8.2)
def X9(goal tx:Int)(l:zF1)(at':Int)(t:gM)(t8:zF7):Option (As cL) :=
 zC (X8 (l,())) fun y=>if (!y.1)=true then zC (Fg (t,())) fun y=>some (y.1,[],20,()) else zC (Ca (t.1,())) fun y=>zC (Ot (l,())) fun y_1=>zC (Ap ((y.1,t.2.1,tx,y_1.1,goal,at',0,0,0),())) fun y=>some (y.1,y.2.1,0,())
def Ya(j1:Int->Int->List (Int×List Int)->Int->Bool->gM->lN×Int×Int×Unit×Int×Int×Int×Int×Int->Option (As cL))(t:gM)(goal tx:Int)(l:zF1):Option (As cL) :=
 zC (X3 (goal,())) fun y=>if (!y.2.1)=true then j1 goal tx l y.1 true t ((0,0,0,0,false,(0,0,0,0,(),()),0,0,0),0,0,(),0,0,0,0,0) else j1 goal tx l y.1 (eqi tx 0) t ((0,0,0,0,false,(0,0,0,0,(),()),0,0,0),0,0,(),0,0,0,0,0)
def Po:=X9
def Yb:=Jn (Po)
def uQ(x:As [.pr aC nE,.int .u8,.int .u32,.sl d9]):Option (As cL):=Ya Yb x.1 x.2.1 x.2.2.1 x.2.2.2.1
abbrev pEf:=zp aim ain 25 Pn
theorem axT{J a b c d e f}:pEf J 15 [] (aip a b c d e f)=X9 a b c d e f:=by kernel_rfl
theorem axU{J a b c d e f g}:pEf J 14 [] (aio a b c d e f g)=Jn (C (J 15 []) aip) a b c d e f g:=by kernel_rfl
abbrev pEe:=zj aim ain 25 Pn
theorem axV:C (pEe 15 []) aip=Po:=gNC (by decide) fun _=>axT
theorem axW:C (pEe 14 []) aio=Yb:=gNC (by decide) fun _=>axU.trans (by rw[axV]<;>kernel_rfl)
theorem ap0:au Tryz.prog (fun _=>True) 25 ⟨Pn,uQ⟩:=zcc (env:=aim) (d:=6) (hs:=Ev.get ain) (aj Wq (aj aii (aj axP (aj axS (aj Xz (aj ao9 bq)))))) (fun J x=>Ya (C (J 14 []) aio) x.1 x.2.1 x.2.2.1 x.2.2.2.1) (fun _ _=>by kernel_rfl) fun _=>by rw[axW]<;>rfl
@[reducible] def aE:List Ty:=[.bool,.pr aC nE,.pr (.int .u8) aA,.int .u32,.int .u32,.sl (.sl d9),.sl iy]
@[reducible] def Aq:Sh:=⟨[.pb 0 0,.d (.bool)],[(prG 1),.que iy 63],aE,[.d (.bool)],[(0,(prG 2)),(2,.que iy 63)],1,aE⟩
def aiq:Env:=(cts [(1000048,Ev.iw),(9000046,Ev.iw),(9999999,Ev.iw),(20,(⟨Fb,yc⟩:Ct)),(25,(⟨Pn,uQ⟩:Ct))])
def air:List (Nat×Hint):=[(7,⟨[],[0,5,6]⟩),(15,⟨[],[0,5,6]⟩),(31,⟨[],[0,6,7,8,9]⟩),(28,⟨[],[0,1,5,6,15,46,47,48,49,50,51,52,53,54,68,69,70,71,72,73]⟩),(115,⟨[],[0,5,6,38,68,69,70,71,72,73]⟩),(463,⟨[],[0,5,6,60]⟩)]
@[reducible] def zF9:Type:=List (Bool×List Int)
def ais(alt:Bool)(goal tx:Int)(t15:Bool)(p:(gM)×(jI)×Unit×Int×Int×List aG)(o:zF9):St:=⟨[(0,.pb 0 0),(1,dB alt),(5,d8 goal),(6,d2 tx),(15,dB t15)],108,[],[(0,.box 48 (gD p.1 (slC p.2.1 [.row 1,d2 p.2.2.2.1,d2 p.2.2.2.2.1,.d cE p.2.2.2.2.2]))),(1,.que iy 63 o)],2,[],2⟩
def Pp(goal tx:Int)(p:(gM)×(jI)×Unit×Int×Int×List aG)(o:zF9):St:=⟨[(0,.pb 0 0),(5,d8 goal),(6,d2 tx)],108,[],[(0,.box 48 (gD p.1 (slC p.2.1 [.row 1,d2 p.2.2.2.1,d2 p.2.2.2.2.1,.d cE p.2.2.2.2.2]))),(1,.que iy 63 o)],2,[],2⟩
def ait(goal tx:Int)(t38:Bool)(p:(gM)×(jI)×Unit×Int×Int×List aG)(o:zF9):St:=⟨[(0,.pb 0 0),(5,d8 goal),(6,d2 tx),(38,dB t38)],108,[],[(0,.box 48 (gD p.1 (slC p.2.1 [.row 1,d2 p.2.2.2.1,d2 p.2.2.2.2.1,.d cE p.2.2.2.2.2]))),(1,.que iy 63 o)],2,[],2⟩
def aiu(goal tx:Int)(p:(gM)×(jI)×Unit×Int×Int×List aG)(o:zF9):St:=⟨[(0,.pb 0 0),(5,d8 goal),(6,d2 tx)],108,[],[(0,.box 48 (gD p.1 (slC p.2.1 [.row 1,d2 p.2.2.2.1,d2 p.2.2.2.2.1,.d cE p.2.2.2.2.2]))),(1,.que iy 63 o)],2,[],2⟩
def aiv(goal tx:Int)(t60:Bool)(p:(gM)×(jI)×Unit×Int×Int×List aG)(o:zF9):St:=⟨[(0,.pb 0 0),(5,d8 goal),(6,d2 tx),(60,dB t60)],108,[],[(0,.box 48 (gD p.1 (slC p.2.1 [.row 1,d2 p.2.2.2.1,d2 p.2.2.2.2.1,.d cE p.2.2.2.2.2]))),(1,.que iy 63 o)],2,[],2⟩
def aiw(tx:Int)(b:List Int)(e:Int)(p:(gM)×(jI)×Unit×Int×Int×List aG)(o:zF9)(t:gM):St:=⟨[(0,.pb 0 0),(6,d2 tx),(7,.pb 2 0),(8,dL b),(9,dI e)],108,[],[(0,.box 48 (gD p.1 (slC p.2.1 [.row 1,d2 p.2.2.2.1,d2 p.2.2.2.2.1,.d cE p.2.2.2.2.2]))),(1,.que iy 63 o),(2,.box 33 (gD t []))],3,[],2⟩
@[reducible] def cY:Type:=As aE
def at6(j2:Int->Int->(gM)×(jI)×Unit×Int×Int×List aG->List (Bool×List Int)->Option cY)(j3:Int->Int->Bool->(gM)×(jI)×Unit×Int×Int×List aG->List (Bool×List Int)->Option cY)(alt:Bool)(goal tx:Int)(t15:Bool)(p:(gM)×(jI)×Unit×Int×Int×List aG)(o:zF9):Option cY :=
 if t15=true then j2 2 p.2.2.2.1 p o else if eqi p.1.2.2.2.2.1 1=true then if alt=true then j3 goal tx true p o else j3 goal tx (eqi p.1.2.2.2.2.2.2.2.2 2) p o else j3 goal tx false p o
def Yc(j4:Int->Int->(gM)×(jI)×Unit×Int×Int×List aG->List (Bool×List Int)->Option cY)(goal tx:Int)(p:(gM)×(jI)×Unit×Int×Int×List aG)(o:zF9):Option cY :=
 if eqi goal 2=true then j4 goal tx (p.1,p.2.1,(),p.2.2.2.1,tx,p.2.2.2.2.2) o else j4 goal tx p o
def at7(j2:Int->Int->(gM)×(jI)×Unit×Int×Int×List aG->List (Bool×List Int)->Option cY)(j5:Int->Int->Bool->(gM)×(jI)×Unit×Int×Int×List aG->List (Bool×List Int)->Option cY)(goal tx:Int)(t38:Bool)(p:(gM)×(jI)×Unit×Int×Int×List aG)(o:zF9):Option cY :=
 if t38=true then j2 3 p.2.2.2.1 p o else if nei p.1.2.2.2.2.1 0=true then j5 goal tx (eqi p.1.2.2.2.2.2.2.2.2 0) p o else j5 goal tx false p o
def Yd(j6:Int->List Int->Int->(gM)×(jI)×Unit×Int×Int×List aG->List (Bool×List Int)->gM->Option cY)(goal tx:Int)(p:(gM)×(jI)×Unit×Int×Int×List aG)(o:zF9):Option cY :=
 amb (ay Aq.rs) [if eqi (zF (zG p.2.2.2.2.2)) 0=true then amb (ay Aq.rs) [zC (uQ (p.1,goal,tx,[],())) fun y=>j6 tx y.2.1 y.2.2.1 p o y.1,zC (uQ (p.1,goal,tx,[],())) fun y=>j6 tx y.2.1 y.2.2.1 p o y.1] else need (nei (zF (zG p.2.2.2.2.2)) 0) (zC (at? p.2.2.2.2.2 (rem (cvt .i64 tx) (zF (zG p.2.2.2.2.2)))) fun y=>amb (ay Aq.rs) [zC (uQ (p.1,goal,tx,y,())) fun y=>j6 tx y.2.1 y.2.2.1 p o y.1,zC (uQ (p.1,goal,tx,y,())) fun y=>j6 tx y.2.1 y.2.2.1 p o y.1]),if eqi (zF (zG p.2.2.2.2.2)) 0=true then zC (uQ (p.1,goal,tx,[],())) fun y=>j6 tx y.2.1 y.2.2.1 p o y.1 else need (nei (zF (zG p.2.2.2.2.2)) 0) (zC (at? p.2.2.2.2.2 (rem (cvt .i64 tx) (zF (zG p.2.2.2.2.2)))) fun y=>zC (uQ (p.1,goal,tx,y,())) fun y=>j6 tx y.2.1 y.2.2.1 p o y.1)]
def Ye(j2:Int->Int->(gM)×(jI)×Unit×Int×Int×List aG->List (Bool×List Int)->Option cY)(goal tx:Int)(t60:Bool)(p:(gM)×(jI)×Unit×Int×Int×List aG)(o:zF9):Option cY :=
 if t60=true then some (true,p.1,(gW p.2.1),p.2.2.2.1,p.2.2.2.2.1,p.2.2.2.2.2,o,()) else j2 goal tx p o
def Yf(tx:Int)(b:List Int)(e:Int)(p:(gM)×(jI)×Unit×Int×Int×List aG)(o:zF9)(t:gM):Option cY :=
 zC (yc (b,t,(gW p.2.1),tx,p.2.2.2.2.1,p.2.2.2.2.2,o,())) fun y=>some (eqi e 0,y.1,(gW y.2.1),y.2.2.1,y.2.2.2.1,y.2.2.2.2.1,y.2.2.2.2.2.1,())
def Yg(j1:Bool->Int->Int->Bool->(gM)×(jI)×Unit×Int×Int×List aG->List (Bool×List Int)->Option cY)(p:Bool)(alt:gM)(p_2:jI)(alt_2 v:Int)(goal:List aG)(tx:zF9):Option cY :=
 if eqi alt.2.2.2.2.1 1=true then if eqi alt.2.2.2.2.2.2.2.2 1=true then j1 p 1 (add .u32 alt_2 1) (!p) (alt,p_2,(),alt_2,v,goal) tx else j1 p 1 (add .u32 alt_2 1) false (alt,p_2,(),alt_2,v,goal) tx else j1 p 1 (add .u32 alt_2 1) false (alt,p_2,(),alt_2,v,goal) tx
def Pq:=Yf
def Yh:=Yd (Pq)
def Ar:=Yc (Yh)
def Pt:=Ye (Ar)
def Jo:=at7 (Ar) (Pt)
def Yi:=at6 (Ar) (Jo)
def yt(x:As aE):Option cY:=Yg Yi x.1 x.2.1 x.2.2.1 x.2.2.2.1 x.2.2.2.2.1 x.2.2.2.2.2.1 x.2.2.2.2.2.2.1
abbrev pBf:=zp aiq air 10 Aq
theorem axX{J a b c d e f}:pBf J 31 [] (aiw a b c d e f)=Yf a b c d e f:=by kernel_rfl
theorem axY{J a b c d}:pBf J 15 [] (aiu a b c d)=Yd (C (J 31 []) aiw) a b c d:=by kernel_rfl
theorem axZ{J a b c d}:pBf J 7 [] (Pp a b c d)=Yc (C (J 15 []) aiu) a b c d:=by kernel_rfl
theorem ax0{J a b c d e}:pBf J 463 [] (aiv a b c d e)=Ye (C (J 7 []) Pp) a b c d e:=by kernel_rfl
theorem ax1{J a b c d e}:pBf J 115 [] (ait a b c d e)=at7 (C (J 7 []) Pp) (C (J 463 []) aiv) a b c d e:=by kernel_rfl
theorem ax2{J a b c d e f}:pBf J 28 [] (ais a b c d e f)=at6 (C (J 7 []) Pp) (C (J 115 []) ait) a b c d e f:=by kernel_rfl
abbrev pBe:=zj aiq air 10 Aq
theorem ax3:C (pBe 31 []) aiw=Pq:=gNC (by decide) fun _=>axX
theorem ax4:C (pBe 15 []) aiu=Yh:=gNC (by decide) fun _=>axY.trans (by rw[ax3]<;>kernel_rfl)
theorem aix:C (pBe 7 []) Pp=Ar:=gNC (by decide) fun _=>axZ.trans (by rw[ax4]<;>kernel_rfl)
theorem ax5:C (pBe 463 []) aiv=Pt:=gNC (by decide) fun _=>ax0.trans (by rw[aix]<;>kernel_rfl)
theorem ax6:C (pBe 115 []) ait=Jo:=gNC (by decide) fun _=>ax1.trans (by rw[aix,ax5]<;>kernel_rfl)
theorem ax7:C (pBe 28 []) ais=Yi:=gNC (by decide) fun _=>ax2.trans (by rw[aix,ax6]<;>kernel_rfl)
theorem aiy:au Tryz.prog (fun _=>True) 10 ⟨Aq,yt⟩:=zcc (env:=aiq) (d:=6) (hs:=Ev.get air) (aj Ev.gJ (aj Ev.gJ (aj Ev.gJ (aj Wk (aj ap0 bq))))) (fun J x=>Yg (C (J 28 []) ais) x.1 x.2.1 x.2.2.1 x.2.2.2.1 x.2.2.2.2.1 x.2.2.2.2.2.1 x.2.2.2.2.2.2.1) (fun _ _=>by kernel_rfl) fun _=>by rw[ax7]<;>rfl
end Go.Proofs.Lx
end
