/- Proved in the last of these 15 parts (this is part 6): PlanText. Conditions: those of the given statement, and no others. -/
import Derived.Test.YtnamnibaedolaaaGreatDoorParte
import Derived.Test.YtnamnibaedolaaaGreatDoorProg
set_option linter.unusedVariables false
set_option linter.unusedSimpArgs false
set_option linter.unusedSectionVars false
open Option renaming bind → zA, none → zF
open Int renaming ofNat → zD
open List renaming length → zE
noncomputable section
open Go Go.Proofs Ev Sx
set_option maxRecDepth 100000
namespace Go.Proofs.Lx
abbrev dU:Type:=(List UInt8×Int×Int×Bool×(Int×Int)×(Int×Int)×List UInt8)
abbrev fO:Type:=(List UInt8×(Int×Int)×List UInt8×Int)
abbrev bO:Type:=(List UInt8×Int×List fO)
@[reducible] def aF:Ty:=.pr (.int .i64) (.int .u8)
abbrev cu:Ty:=(.pr (.int .i64) (.pr (.int .i64) (.pr .bool (.pr aF (.pr aF .str)))))
abbrev pO:Ty:=(.pr aF (.pr .str (.int .i64)))
abbrev jf:Ty:=(.sl (.pr .str (.pr (.int .i64) (.sl (.pr .str pO)))))
@[reducible] def aW:Ty:=.pr (.int .i64) (.int .i64)
abbrev iM:Ty:=(.pr .str aW)
abbrev lg:Type:=List UInt8×Int×Int×Bool×(Int×Int)×(Int×Int)×List UInt8
@[reducible] def aV:List Ty:=[.int .i64,.bool]
@[reducible] def E6:Sh:=shD [.sl (.pr .str (.sl (.pr .str cu))),.str] aV
def abR:Env:=(cts [])
def abS:List (Nat×Hint):=[(26,⟨[],[1,8,9,10]⟩)]
@[reducible] def zF0:Type:=List (List UInt8×List dU)
def U2(a:List UInt8)(c:zF0)(d b:Int):St:=⟨[(1,dS a),(8,.d (.sl (.pr .str (.sl (.pr .str cu)))) c),(9,dI d),(10,dI b)],21,[],[],0,[],0⟩
@[reducible] def zF1:Type:=List UInt8->List (List UInt8×List dU)->Int->Int->Option (As aV)
def IW(e:zF1)(b:List UInt8)(c:zF0)(d a:Int):Option (As aV) :=
 if lt a d=true then zA (at? c a) fun f=>if eqs f.1 b=true then some (a,true,()) else e b c d (add .i64 a 1) else some (0,false,())
def aiS(b:zF1)(a:zF0)(c:List UInt8):Option (As aV) :=
 b c a (zD (zE a)) 0
def OD(b:List UInt8)(d:zF0)(e c:Int):Option (As aV) :=
 aj (fun f a=>IW (fun b d e c=>f (b,d,e,c)) a.1 a.2.1 a.2.2.1 a.2.2.2) 18446744073709551616 (b,d,e,c)
def lq(x:As [.sl (.pr .str (.sl (.pr .str cu))),.str]):Option (As aV):=aiS OD x.1 x.2.1
@[reducible] def zp(e:Env)(h:List (Nat×Hint))(n:Nat)(s:Sh):=pfn Tryz.prog e 6 18446744073709551616 (Ev.get h) n s
@[reducible] def zj(e:Env)(h:List (Nat×Hint))(n:Nat)(s:Sh):=jfn Tryz.prog e 6 18446744073709551616 (Ev.get h) n s
abbrev pCb:=zp abR abS 15 E6
theorem amM{J w1 a b c d}:pCb J 26 [w1] (U2 a b c d)=IW (C w1 U2) a b c d:=by kernel_rfl
abbrev pCa:=zj abR abS 15 E6
theorem amN:C (pCa 26 []) U2=OD:=gLC (by decide) (by kernel_rfl) (fun _=>by unfold OD;rfl) fun _ _=>amM.trans (by kernel_rfl)
theorem IX:au Tryz.prog (fun _=>True) 15 ⟨E6,lq⟩:=zcc (env:=abR) (d:=6) (hs:=Ev.get abS) bN (fun J x=>aiS (C (J 26 []) U2) x.1 x.2.1) (fun _ _=>by kernel_rfl) fun _=>by rw[amN]<;>rfl
@[reducible] def abT:Sh:=shD [.int .u8] [.bool]
@[reducible] def aA:Type:=As [.bool]
def amO(c:Int):Option aA :=
 if ge c 97=true then some (le c 122,()) else some (false,())
def Cj(x:As [.int .u8]):Option aA:=amO x.1
theorem aiT:au Tryz.prog (fun _=>True) 78 ⟨abT,Cj⟩:=ctn bN 6 fun J x=>by kernel_rfl
@[reducible] def abU:Sh:=shD [.int .u8] [.bool]
def amP(c:Int):Option aA :=
 if ge c 48=true then some (le c 57,()) else some (false,())
def E7(x:As [.int .u8]):Option aA:=amP x.1
theorem aiU:au Tryz.prog (fun _=>True) 79 ⟨abU,E7⟩:=ctn bN 6 fun J x=>by kernel_rfl
@[reducible] def OE:Sh:=shD [.str] [.bool]
def abV:Env:=(cts [(78,(⟨abT,Cj⟩:Ct)),(79,(⟨abU,E7⟩:Ct))])
def abW:List (Nat×Hint):=[(7,⟨[],[0,44,45,48,49]⟩),(58,⟨[],[0,18,19,28,29,30,31,32,35,36,37,38,44,45,48,49]⟩),(3737,⟨[.agd 35 .str,.agd 36 (.int .i64),.agd 37 (.int .u8),.agd 38 .bool,.agd 28 .str,.agd 29 (.int .i64),.agd 30 (.int .u8),.agd 31 .bool,.agd 32 .bool],[0,18,19,39]⟩),(6,⟨[],[0,16,28,29,30,31,32,35,36,37,38,44,45,48,49]⟩)]
def abX(a:List UInt8)(b:Bool):St:=⟨[(0,dS a),(16,dB b)],51,[],[],0,[],0⟩
def IY(a:List UInt8)(b c:Int):St:=⟨[(0,dS a),(18,dI b),(19,dI c)],51,[],[],0,[],0⟩
def abY(a:List UInt8)(b c:Int)(d:Bool):St:=⟨[(0,dS a),(18,dI b),(19,dI c),(39,dB d)],51,[],[],0,[],0⟩
def abZ(s:List UInt8):St:=⟨[(0,dS s)],51,[],[],0,[],0⟩
@[reducible] def zF2:Type:=List UInt8->Int->Int->Option aA
def aiV(b:zF2)(a:List UInt8)(c:Bool):Option aA :=
 if c=true then some (false,()) else b a (zD (zE a)) 0
def IZ(e:List UInt8->Int->Int->Bool->Option aA)(g:List UInt8->Option aA)(h:zF2)(a:List UInt8)(d b:Int):Option aA :=
 if lt b d=true then zA (at? a b) fun c=>zA (Cj (zD (UInt8.toNat c),())) fun f=>if (!f.1)=true then zA (at? a b) fun c=>zA (E7 (zD (UInt8.toNat c),())) fun f=>if (!f.1)=true then zA (at? a b) fun c=>e a d b (nei (zD (UInt8.toNat c)) 95) else e a d b false else e a d b false else g a
def U3(b:zF2)(a:List UInt8)(c d:Int)(e:Bool):Option aA :=
 if e=true then some (false,()) else b a c (add .i64 d 1)
def U4(s:List UInt8):Option aA :=
 if nes s [114,101,99,105,112,101]=true then if nes s [115,108,97,118,101]=true then some (nes s [101,110,100],()) else some (false,()) else some (false,())
def U5(b:List UInt8->Bool->Option aA)(a:List UInt8):Option aA :=
 if eqs a []=true then b a true else if gt (zD (zE a)) 20=true then b a true else zA (at? a 0) fun c=>zA (Cj (zD (UInt8.toNat c),())) fun d=>b a !d.1
def OG(a:zF2):=U3 a
def OH:=U4
def OI(a:List UInt8)(b c:Int):Option aA :=
 aj (fun d a=>IZ (OG (fun a b c=>d (a,b,c))) (OH) (fun a b c=>d (a,b,c)) a.1 a.2.1 a.2.2) 18446744073709551616 (a,b,c)
def U6:=aiV (OI)
def mZ(x:As [.str]):Option aA:=U5 U6 x.1
abbrev pBd:=zp abV abW 51 OE
theorem amQ{J w2 a b c d}:pBd J 3737 [w2] (abY a b c d)=U3 (C w2 IY) a b c d:=by kernel_rfl
theorem amR{J a}:pBd J 7 [] (abZ a)=U4 a:=by kernel_rfl
theorem amS{J w2 a b c}:pBd J 58 [w2] (IY a b c)=IZ (C (J 3737 [w2]) abY) (C (J 7 []) abZ) (C w2 IY) a b c:=by kernel_rfl
theorem amT{J a b}:pBd J 6 [] (abX a b)=aiV (C (J 58 []) IY) a b:=by kernel_rfl
abbrev pBc:=zj abV abW 51 OE
theorem amU{w2}:C (pBc 3737 [w2]) abY=OG (C w2 IY):=gNC (by decide) fun _=>amQ
theorem amV:C (pBc 7 []) abZ=OH:=gNC (by decide) fun _=>amR
theorem amW:C (pBc 58 []) IY=OI:=gLC (by decide) (by kernel_rfl) (fun _=>by unfold OI;rfl) fun _ _=>amS.trans (by rw[amU,amV]<;>kernel_rfl)
theorem amX:C (pBc 6 []) abX=U6:=gNC (by decide) fun _=>amT.trans (by rw[amW]<;>kernel_rfl)
theorem ab0:au Tryz.prog (fun _=>True) 51 ⟨OE,mZ⟩:=zcc (env:=abV) (d:=6) (hs:=Ev.get abW) (av aiT (av aiU bN)) (fun J x=>U5 (C (J 6 []) abX) x.1) (fun _ _=>by kernel_rfl) fun _=>by rw[amX]<;>rfl
@[reducible] def aU:List Ty:=[.pr (.int .i64) (.int .u8)]
@[reducible] def E8:Sh:=shD aU [.bool]
def OJ(d:Int×Int):Option aA :=
 if ge d.1 (-1000000000000)=true then if le d.1 1000000000000=true then if le d.2 6=true then if eqi d.2 0=true then some (true,()) else some (nei (rem d.1 10) 0,()) else some (false,()) else some (false,()) else some (false,())
def pP(x:As aU):Option aA:=OJ x.1
theorem I1:au Tryz.prog (fun _=>True) 52 ⟨E8,pP⟩:=ctn bN 6 fun J x=>by kernel_rfl
@[reducible] def U7:Sh:=shD [.str] [.bool]
def ab1:Env:=(cts [(78,(⟨abT,Cj⟩:Ct)),(79,(⟨abU,E7⟩:Ct))])
def ab2:List (Nat×Hint):=[(58,⟨[],[0,10,11,20,21,22,23,24,25,28,29,34,35,36,37,38,39,40,41,42,43,44]⟩),(7475,⟨[.agd 20 (.int .u8),.agd 21 .bool,.agd 22 .bool,.agd 23 (.int .u8),.agd 24 .bool,.agd 25 .bool,.agd 28 (.int .u8),.agd 29 .bool],[0,3,4,5,10,11]⟩),(14951,⟨[.agd 37 (.int .u8),.agd 38 .bool,.agd 39 .bool,.agd 40 .bool,.agd 41 (.int .u8),.agd 42 .bool,.agd 43 .bool,.agd 34 (.int .i64),.agd 35 .bool,.agd 36 .bool,.agd 44 .bool],[0,10,11,45]⟩)]
def Ck(a:List UInt8)(b c:Int):St:=⟨[(0,dS a),(10,dI b),(11,dI c)],47,[],[],0,[],0⟩
def ab3(d:List UInt8)(b a:Int)(c:Bool)(e f:Int):St:=⟨[(0,dS d),(3,dI b),(4,d8 a),(5,dB c),(10,dI e),(11,dI f)],47,[],[],0,[],0⟩
def ab4(a:List UInt8)(b c:Int)(d:Bool):St:=⟨[(0,dS a),(10,dI b),(11,dI c),(45,dB d)],47,[],[],0,[],0⟩
def I4(e:List UInt8->Int->Int->Bool->Int->Int->Option aA)(g:zF2)(c:List UInt8)(d a:Int):Option aA :=
 if lt a d=true then zA (at? c a) fun b=>zA (Cj (zD (UInt8.toNat b),())) fun f=>if f.1=true then e c a (zD (UInt8.toNat b)) true d a else if ge (zD (UInt8.toNat b)) 65=true then if le (zD (UInt8.toNat b)) 90=true then e c a (zD (UInt8.toNat b)) true d a else e c a (zD (UInt8.toNat b)) (eqi (zD (UInt8.toNat b)) 37) d a else e c a (zD (UInt8.toNat b)) (eqi (zD (UInt8.toNat b)) 37) d a else some (true,())
def U8(a:List UInt8->Int->Int->Bool->Option aA)(i:zF2)(b:List UInt8)(f e:Int)(g:Bool)(c d:Int):Option aA :=
 if (!g)=true then if eqi f 0=true then a b c d true else zA (E7 (e,())) fun h=>if (!h.1)=true then a b c d (nei e 95) else a b c d false else a b c d false
def U9(b:zF2)(a:List UInt8)(c d:Int)(e:Bool):Option aA :=
 if e=true then some (false,()) else b a c (add .i64 d 1)
def Va(b:zF2)(a:List UInt8):Option aA :=
 if gt (zD (zE a)) 20=true then some (false,()) else b a (zD (zE a)) 0
def Vb(a:zF2):=U9 a
def OL(a:zF2):=U8 (Vb a) a
def I5(a:List UInt8)(b c:Int):Option aA :=
 aj (fun d a=>I4 (OL (fun a b c=>d (a,b,c))) (fun a b c=>d (a,b,c)) a.1 a.2.1 a.2.2) 18446744073709551616 (a,b,c)
def Vd(x:As [.str]):Option aA:=Va I5 x.1
abbrev pBf:=zp ab1 ab2 53 U7
theorem amY{J w1 a b c d}:pBf J 14951 [w1] (ab4 a b c d)=U9 (C w1 Ck) a b c d:=by kernel_rfl
theorem amZ{J w1 a b c d e f}:pBf J 7475 [w1] (ab3 a b c d e f)=U8 (C (J 14951 [w1]) ab4) (C w1 Ck) a b c d e f:=by kernel_rfl
theorem am0{J w1 a b c}:pBf J 58 [w1] (Ck a b c)=I4 (C (J 7475 [w1]) ab3) (C w1 Ck) a b c:=by kernel_rfl
abbrev pBe:=zj ab1 ab2 53 U7
theorem am1{w1}:C (pBe 14951 [w1]) ab4=Vb (C w1 Ck):=gNC (by decide) fun _=>amY
theorem am2{w1}:C (pBe 7475 [w1]) ab3=OL (C w1 Ck):=gNC (by decide) fun _=>amZ.trans (by rw[am1]<;>kernel_rfl)
theorem am3:C (pBe 58 []) Ck=I5:=gLC (by decide) (by kernel_rfl) (fun _=>by unfold I5;rfl) fun _ _=>am0.trans (by rw[am2]<;>kernel_rfl)
theorem am4:au Tryz.prog (fun _=>True) 53 ⟨U7,Vd⟩:=zcc (env:=ab1) (d:=6) (hs:=Ev.get ab2) (av aiT (av aiU bN)) (fun J x=>Va (C (J 58 []) Ck) x.1) (fun _ _=>by kernel_rfl) fun _=>by rw[am3]<;>rfl
@[reducible] def OM:Sh:=shD [.pr .str jf] [.bool]
def ab5:Env:=(cts [(51,(⟨OE,mZ⟩:Ct)),(52,(⟨E8,pP⟩:Ct)),(53,(⟨U7,Vd⟩:Ct))])
def ab6:List (Nat×Hint):=[(58,⟨[],[18,19,20,29,30,31,32,46,47,48,49,52,53,54,55]⟩),(29902,⟨[],[18,19,20,29,30,31,32,35,36,37,46,47,48,49,52,53,54,55]⟩),(1913753,⟨[.agd 47 aF,.agd 48 .bool,.agd 49 .bool,.agd 53 .str,.agd 54 .bool,.agd 55 .bool],[18,19,20,35,36,37,56]⟩),(7474,⟨[.agd 30 (.sl (.pr .str pO)),.agd 31 (.int .i64),.agd 32 .bool],[4,18,19,20,33]⟩),(6,⟨[],[1,16,29,30,31,32,46,47,48,49,52,53,54,55]⟩)]
def ab7(b:Bool)(a:List UInt8×List bO):St:=⟨[(1,.pb 0 0),(16,dB b)],59,[],[(0,.box 26 [dS a.1,.d jf a.2])],1,[],0⟩
def x9(a:List bO)(b c:Int):St:=⟨[(18,.d jf a),(19,dI b),(20,dI c)],59,[],[],0,[],0⟩
def ab8(b:List bO)(c d:Int)(e:Bool)(a:List UInt8×Int×List fO):St:=⟨[(4,.pb 0 0),(18,.d jf b),(19,dI c),(20,dI d),(33,dB e)],59,[],[(0,.box 43 [dS a.1,dI a.2.1,.d (.sl (.pr .str pO)) a.2.2])],1,[],0⟩
def I6(a:List bO)(b c:Int)(d:List fO)(e f:Int):St:=⟨[(18,.d jf a),(19,dI b),(20,dI c),(35,.d (.sl (.pr .str pO)) d),(36,dI e),(37,dI f)],59,[],[],0,[],0⟩
def ab9(a:List bO)(b c:Int)(d:List fO)(e f:Int)(g:Bool):St:=⟨[(18,.d jf a),(19,dI b),(20,dI c),(35,.d (.sl (.pr .str pO)) d),(36,dI e),(37,dI f),(56,dB g)],59,[],[],0,[],0⟩
@[reducible] def zF3:Type:=List bO->Int->Int->Option aA
def aiW(b:zF3)(c:Bool)(a:List UInt8×List bO):Option aA :=
 if c=true then some (false,()) else b a.2 (zD (zE a.2)) 0
def I7(e:List bO->Int->Int->Bool->List UInt8×Int×List fO->Option aA)(g:zF3)(c:List bO)(d a:Int):Option aA :=
 if lt a d=true then zA (at? c a) fun b=>zA (mZ (b.1,())) fun f=>if (!f.1)=true then e c d a true b else e c d a (gt (zD (zE b.2.2)) 64) b else some (true,())
@[reducible] def zF4:Type:=List bO->Int->Int->List fO->Int->Int->Option aA
def Ve(b:zF4)(g:zF3)(c:List bO)(d e:Int)(f:Bool)(a:List UInt8×Int×List fO):Option aA :=
 if f=true then some (false,()) else b c d e a.2.2 (zD (zE a.2.2)) 0
def I8(h:List bO->Int->Int->List fO->Int->Int->Bool->Option aA)(i:zF3)(l:zF4)(c:List bO)(d e:Int)(f:List fO)(g a:Int):Option aA :=
 if lt a g=true then zA (at? f a) fun b=>zA (mZ (b.1,())) fun j=>if (!j.1)=true then h c d e f g a true else zA (pP (b.2.1,())) fun k=>if (!k.1)=true then h c d e f g a true else zA (Vd (b.2.2.1,())) fun b=>h c d e f g a !b.1 else i c d (add .i64 e 1)
def Vg(i:zF3)(a:zF4)(b:List bO)(c d:Int)(e:List fO)(f g:Int)(h:Bool):Option aA :=
 if h=true then some (false,()) else a b c d e f (add .i64 g 1)
def Vh(b:Bool->List UInt8×List bO->Option aA)(a:List UInt8×List bO):Option aA :=
 zA (mZ (a.1,())) fun c=>if (!c.1)=true then b true a else b (gt (zD (zE a.2)) 8) a
def Vi(a:zF3)(b:zF4):=Vg a b
def I9(i:zF3)(b:List bO)(c d:Int)(e:List fO)(f g:Int):Option aA :=
 aj (fun h a=>I8 (Vi i (fun b c d e f g=>h (b,c,d,e,f,g))) i (fun b c d e f g=>h (b,c,d,e,f,g)) a.1 a.2.1 a.2.2.1 a.2.2.2.1 a.2.2.2.2.1 a.2.2.2.2.2) 18446744073709551616 (b,c,d,e,f,g)
def Vj(a:zF3):=Ve (I9 a) a
def Ja(a:List bO)(b c:Int):Option aA :=
 aj (fun e d=>I7 (Vj (fun a b c=>e (a,b,c))) (fun a b c=>e (a,b,c)) d.1 d.2.1 d.2.2) 18446744073709551616 (a,b,c)
def Vk:=aiW (Ja)
def AA(x:As [.pr .str jf]):Option aA:=Vh Vk x.1
abbrev pBb:=zp ab5 ab6 21 OM
theorem am5{J w2 w4 a b c d e f g}:pBb J 1913753 [w2,w4] (ab9 a b c d e f g)=Vg (C w2 x9) (C w4 I6) a b c d e f g:=by kernel_rfl
theorem am6{J w2 w4 a b c d e f}:pBb J 29902 [w2,w4] (I6 a b c d e f)=I8 (C (J 1913753 [w2,w4]) ab9) (C w2 x9) (C w4 I6) a b c d e f:=by kernel_rfl
theorem am7{J w2 a b c d e}:pBb J 7474 [w2] (ab8 a b c d e)=Ve (C (J 29902 [w2]) I6) (C w2 x9) a b c d e:=by kernel_rfl
theorem am8{J w2 a b c}:pBb J 58 [w2] (x9 a b c)=I7 (C (J 7474 [w2]) ab8) (C w2 x9) a b c:=by kernel_rfl
theorem am9{J a b}:pBb J 6 [] (ab7 a b)=aiW (C (J 58 []) x9) a b:=by kernel_rfl
abbrev pBa:=zj ab5 ab6 21 OM
theorem ana{w2 w4}:C (pBa 1913753 [w2,w4]) ab9=Vi (C w2 x9) (C w4 I6):=gNC (by decide) fun _=>am5
theorem anb{w2}:C (pBa 29902 [w2]) I6=I9 (C w2 x9):=gLC (by decide) (by kernel_rfl) (fun _=>by unfold I9;rfl) fun _ _=>am6.trans (by rw[ana]<;>kernel_rfl)
theorem anc{w2}:C (pBa 7474 [w2]) ab8=Vj (C w2 x9):=gNC (by decide) fun _=>am7.trans (by rw[anb]<;>kernel_rfl)
theorem ane:C (pBa 58 []) x9=Ja:=gLC (by decide) (by kernel_rfl) (fun _=>by unfold Ja;rfl) fun _ _=>am8.trans (by rw[anc]<;>kernel_rfl)
theorem anf:C (pBa 6 []) ab7=Vk:=gNC (by decide) fun _=>am9.trans (by rw[ane]<;>kernel_rfl)
theorem acd:au Tryz.prog (fun _=>True) 21 ⟨OM,AA⟩:=zcc (env:=ab5) (d:=6) (hs:=Ev.get ab6) (av ab0 (av I1 (av am4 bN))) (fun J x=>Vh (C (J 6 []) ab7) x.1) (fun _ _=>by kernel_rfl) fun _=>by rw[anf]<;>rfl
@[reducible] def E9:Sh:=shD [.int .i64] [.int .i64]
def ace:Env:=(cts [])
def acf:List (Nat×Hint):=[(58,⟨[],[3,4,5]⟩)]
def Vm(a b c:Int):St:=⟨[(3,dI a),(4,dI b),(5,dI c)],11,[],[],0,[],0⟩
@[reducible] def aP:Type:=As [.int .i64]
def aiX(d:Int->Int->Int->Option aP)(a b c:Int):Option aP :=
 if lt c b=true then d (mul .i64 a 10) b (add .i64 c 1) else some (a,())
def aiY(a:Int->Int->Int->Option aP)(b:Int):Option aP :=
 a 1 b 0
def acg(a c d:Int):Option aP :=
 aj (fun e b=>aiX (fun a c d=>e (a,c,d)) b.1 b.2.1 b.2.2) 18446744073709551616 (a,c,d)
def vI(x:As [.int .i64]):Option aP:=aiY acg x.1
abbrev pB7:=zp ace acf 68 E9
theorem ang{J w1 a b c}:pB7 J 58 [w1] (Vm a b c)=aiX (C w1 Vm) a b c:=by kernel_rfl
abbrev pB6:=zj ace acf 68 E9
theorem anh:C (pB6 58 []) Vm=acg:=gLC (by decide) (by kernel_rfl) (fun _=>by unfold acg;rfl) fun _ _=>ang.trans (by kernel_rfl)
theorem Vn:au Tryz.prog (fun _=>True) 68 ⟨E9,vI⟩:=zcc (env:=ace) (d:=6) (hs:=Ev.get acf) bN (fun J x=>aiY (C (J 58 []) Vm) x.1) (fun _ _=>by kernel_rfl) fun _=>by rw[anh]<;>rfl
@[reducible] def aI:List Ty:=[.int .u64,.int .u64]
@[reducible] def Cm:Sh:=shD aI aI
def rO(x y:Int):Option (As aI) :=
 some (add .u64 (add .u64 (mul .u64 (Sx.shr .u64 x 32) (Sx.shr .u64 y 32)) (Sx.shr .u64 (add .u64 (mul .u64 (Sx.shr .u64 x 32) (Sx.mV .u64 y 4294967295)) (Sx.shr .u64 (mul .u64 (Sx.mV .u64 x 4294967295) (Sx.mV .u64 y 4294967295)) 32)) 32)) (Sx.shr .u64 (add .u64 (Sx.mV .u64 (add .u64 (mul .u64 (Sx.shr .u64 x 32) (Sx.mV .u64 y 4294967295)) (Sx.shr .u64 (mul .u64 (Sx.mV .u64 x 4294967295) (Sx.mV .u64 y 4294967295)) 32)) 4294967295) (mul .u64 (Sx.mV .u64 x 4294967295) (Sx.shr .u64 y 32))) 32),mul .u64 x y,())
def bits_Mul64(x:As aI):Option (As aI):=rO x.1 x.2.1
theorem Bu:au Tryz.prog (fun _=>True) 86 ⟨Cm,bits_Mul64⟩:=ctn bN 6 fun J x=>by kernel_rfl
@[reducible] def oQ:Sh:=shD [.int .u64] [.int .i64]
def ach(x:Int):Option aP :=
 if ge x 4294967296=true then if ge (Sx.shr .u64 x 32) 65536=true then if ge (Sx.shr .u64 (Sx.shr .u64 x 32) 16) 256=true then zA (at? [0,1,2,2,3,3,3,3,4,4,4,4,4,4,4,4,5,5,5,5,5,5,5,5,5,5,5,5,5,5,5,5,6,6,6,6,6,6,6,6,6,6,6,6,6,6,6,6,6,6,6,6,6,6,6,6,6,6,6,6,6,6,6,6,7,7,7,7,7,7,7,7,7,7,7,7,7,7,7,7,7,7,7,7,7,7,7,7,7,7,7,7,7,7,7,7,7,7,7,7,7,7,7,7,7,7,7,7,7,7,7,7,7,7,7,7,7,7,7,7,7,7,7,7,7,7,7,7,8,8,8,8,8,8,8,8,8,8,8,8,8,8,8,8,8,8,8,8,8,8,8,8,8,8,8,8,8,8,8,8,8,8,8,8,8,8,8,8,8,8,8,8,8,8,8,8,8,8,8,8,8,8,8,8,8,8,8,8,8,8,8,8,8,8,8,8,8,8,8,8,8,8,8,8,8,8,8,8,8,8,8,8,8,8,8,8,8,8,8,8,8,8,8,8,8,8,8,8,8,8,8,8,8,8,8,8,8,8,8,8,8,8,8,8,8,8,8,8,8,8,8,8,8,8,8,8] (cvt .u8 (Sx.shr .u64 (Sx.shr .u64 (Sx.shr .u64 x 32) 16) 8))) fun c=>some (Sx.sub .i64 64 (add .i64 56 (cvt .i64 (zD (UInt8.toNat c)))),()) else zA (at? [0,1,2,2,3,3,3,3,4,4,4,4,4,4,4,4,5,5,5,5,5,5,5,5,5,5,5,5,5,5,5,5,6,6,6,6,6,6,6,6,6,6,6,6,6,6,6,6,6,6,6,6,6,6,6,6,6,6,6,6,6,6,6,6,7,7,7,7,7,7,7,7,7,7,7,7,7,7,7,7,7,7,7,7,7,7,7,7,7,7,7,7,7,7,7,7,7,7,7,7,7,7,7,7,7,7,7,7,7,7,7,7,7,7,7,7,7,7,7,7,7,7,7,7,7,7,7,7,8,8,8,8,8,8,8,8,8,8,8,8,8,8,8,8,8,8,8,8,8,8,8,8,8,8,8,8,8,8,8,8,8,8,8,8,8,8,8,8,8,8,8,8,8,8,8,8,8,8,8,8,8,8,8,8,8,8,8,8,8,8,8,8,8,8,8,8,8,8,8,8,8,8,8,8,8,8,8,8,8,8,8,8,8,8,8,8,8,8,8,8,8,8,8,8,8,8,8,8,8,8,8,8,8,8,8,8,8,8,8,8,8,8,8,8,8,8,8,8,8,8,8,8,8,8,8,8] (cvt .u8 (Sx.shr .u64 (Sx.shr .u64 x 32) 16))) fun c=>some (Sx.sub .i64 64 (add .i64 48 (cvt .i64 (zD (UInt8.toNat c)))),()) else if ge (Sx.shr .u64 x 32) 256=true then zA (at? [0,1,2,2,3,3,3,3,4,4,4,4,4,4,4,4,5,5,5,5,5,5,5,5,5,5,5,5,5,5,5,5,6,6,6,6,6,6,6,6,6,6,6,6,6,6,6,6,6,6,6,6,6,6,6,6,6,6,6,6,6,6,6,6,7,7,7,7,7,7,7,7,7,7,7,7,7,7,7,7,7,7,7,7,7,7,7,7,7,7,7,7,7,7,7,7,7,7,7,7,7,7,7,7,7,7,7,7,7,7,7,7,7,7,7,7,7,7,7,7,7,7,7,7,7,7,7,7,8,8,8,8,8,8,8,8,8,8,8,8,8,8,8,8,8,8,8,8,8,8,8,8,8,8,8,8,8,8,8,8,8,8,8,8,8,8,8,8,8,8,8,8,8,8,8,8,8,8,8,8,8,8,8,8,8,8,8,8,8,8,8,8,8,8,8,8,8,8,8,8,8,8,8,8,8,8,8,8,8,8,8,8,8,8,8,8,8,8,8,8,8,8,8,8,8,8,8,8,8,8,8,8,8,8,8,8,8,8,8,8,8,8,8,8,8,8,8,8,8,8,8,8,8,8,8,8] (cvt .u8 (Sx.shr .u64 (Sx.shr .u64 x 32) 8))) fun c=>some (Sx.sub .i64 64 (add .i64 40 (cvt .i64 (zD (UInt8.toNat c)))),()) else zA (at? [0,1,2,2,3,3,3,3,4,4,4,4,4,4,4,4,5,5,5,5,5,5,5,5,5,5,5,5,5,5,5,5,6,6,6,6,6,6,6,6,6,6,6,6,6,6,6,6,6,6,6,6,6,6,6,6,6,6,6,6,6,6,6,6,7,7,7,7,7,7,7,7,7,7,7,7,7,7,7,7,7,7,7,7,7,7,7,7,7,7,7,7,7,7,7,7,7,7,7,7,7,7,7,7,7,7,7,7,7,7,7,7,7,7,7,7,7,7,7,7,7,7,7,7,7,7,7,7,8,8,8,8,8,8,8,8,8,8,8,8,8,8,8,8,8,8,8,8,8,8,8,8,8,8,8,8,8,8,8,8,8,8,8,8,8,8,8,8,8,8,8,8,8,8,8,8,8,8,8,8,8,8,8,8,8,8,8,8,8,8,8,8,8,8,8,8,8,8,8,8,8,8,8,8,8,8,8,8,8,8,8,8,8,8,8,8,8,8,8,8,8,8,8,8,8,8,8,8,8,8,8,8,8,8,8,8,8,8,8,8,8,8,8,8,8,8,8,8,8,8,8,8,8,8,8,8] (cvt .u8 (Sx.shr .u64 x 32))) fun c=>some (Sx.sub .i64 64 (add .i64 32 (cvt .i64 (zD (UInt8.toNat c)))),()) else if ge x 65536=true then if ge (Sx.shr .u64 x 16) 256=true then zA (at? [0,1,2,2,3,3,3,3,4,4,4,4,4,4,4,4,5,5,5,5,5,5,5,5,5,5,5,5,5,5,5,5,6,6,6,6,6,6,6,6,6,6,6,6,6,6,6,6,6,6,6,6,6,6,6,6,6,6,6,6,6,6,6,6,7,7,7,7,7,7,7,7,7,7,7,7,7,7,7,7,7,7,7,7,7,7,7,7,7,7,7,7,7,7,7,7,7,7,7,7,7,7,7,7,7,7,7,7,7,7,7,7,7,7,7,7,7,7,7,7,7,7,7,7,7,7,7,7,8,8,8,8,8,8,8,8,8,8,8,8,8,8,8,8,8,8,8,8,8,8,8,8,8,8,8,8,8,8,8,8,8,8,8,8,8,8,8,8,8,8,8,8,8,8,8,8,8,8,8,8,8,8,8,8,8,8,8,8,8,8,8,8,8,8,8,8,8,8,8,8,8,8,8,8,8,8,8,8,8,8,8,8,8,8,8,8,8,8,8,8,8,8,8,8,8,8,8,8,8,8,8,8,8,8,8,8,8,8,8,8,8,8,8,8,8,8,8,8,8,8,8,8,8,8,8,8] (cvt .u8 (Sx.shr .u64 (Sx.shr .u64 x 16) 8))) fun c=>some (Sx.sub .i64 64 (add .i64 24 (cvt .i64 (zD (UInt8.toNat c)))),()) else zA (at? [0,1,2,2,3,3,3,3,4,4,4,4,4,4,4,4,5,5,5,5,5,5,5,5,5,5,5,5,5,5,5,5,6,6,6,6,6,6,6,6,6,6,6,6,6,6,6,6,6,6,6,6,6,6,6,6,6,6,6,6,6,6,6,6,7,7,7,7,7,7,7,7,7,7,7,7,7,7,7,7,7,7,7,7,7,7,7,7,7,7,7,7,7,7,7,7,7,7,7,7,7,7,7,7,7,7,7,7,7,7,7,7,7,7,7,7,7,7,7,7,7,7,7,7,7,7,7,7,8,8,8,8,8,8,8,8,8,8,8,8,8,8,8,8,8,8,8,8,8,8,8,8,8,8,8,8,8,8,8,8,8,8,8,8,8,8,8,8,8,8,8,8,8,8,8,8,8,8,8,8,8,8,8,8,8,8,8,8,8,8,8,8,8,8,8,8,8,8,8,8,8,8,8,8,8,8,8,8,8,8,8,8,8,8,8,8,8,8,8,8,8,8,8,8,8,8,8,8,8,8,8,8,8,8,8,8,8,8,8,8,8,8,8,8,8,8,8,8,8,8,8,8,8,8,8,8] (cvt .u8 (Sx.shr .u64 x 16))) fun c=>some (Sx.sub .i64 64 (add .i64 16 (cvt .i64 (zD (UInt8.toNat c)))),()) else if ge x 256=true then zA (at? [0,1,2,2,3,3,3,3,4,4,4,4,4,4,4,4,5,5,5,5,5,5,5,5,5,5,5,5,5,5,5,5,6,6,6,6,6,6,6,6,6,6,6,6,6,6,6,6,6,6,6,6,6,6,6,6,6,6,6,6,6,6,6,6,7,7,7,7,7,7,7,7,7,7,7,7,7,7,7,7,7,7,7,7,7,7,7,7,7,7,7,7,7,7,7,7,7,7,7,7,7,7,7,7,7,7,7,7,7,7,7,7,7,7,7,7,7,7,7,7,7,7,7,7,7,7,7,7,8,8,8,8,8,8,8,8,8,8,8,8,8,8,8,8,8,8,8,8,8,8,8,8,8,8,8,8,8,8,8,8,8,8,8,8,8,8,8,8,8,8,8,8,8,8,8,8,8,8,8,8,8,8,8,8,8,8,8,8,8,8,8,8,8,8,8,8,8,8,8,8,8,8,8,8,8,8,8,8,8,8,8,8,8,8,8,8,8,8,8,8,8,8,8,8,8,8,8,8,8,8,8,8,8,8,8,8,8,8,8,8,8,8,8,8,8,8,8,8,8,8,8,8,8,8,8,8] (cvt .u8 (Sx.shr .u64 x 8))) fun c=>some (Sx.sub .i64 64 (add .i64 8 (cvt .i64 (zD (UInt8.toNat c)))),()) else zA (at? [0,1,2,2,3,3,3,3,4,4,4,4,4,4,4,4,5,5,5,5,5,5,5,5,5,5,5,5,5,5,5,5,6,6,6,6,6,6,6,6,6,6,6,6,6,6,6,6,6,6,6,6,6,6,6,6,6,6,6,6,6,6,6,6,7,7,7,7,7,7,7,7,7,7,7,7,7,7,7,7,7,7,7,7,7,7,7,7,7,7,7,7,7,7,7,7,7,7,7,7,7,7,7,7,7,7,7,7,7,7,7,7,7,7,7,7,7,7,7,7,7,7,7,7,7,7,7,7,8,8,8,8,8,8,8,8,8,8,8,8,8,8,8,8,8,8,8,8,8,8,8,8,8,8,8,8,8,8,8,8,8,8,8,8,8,8,8,8,8,8,8,8,8,8,8,8,8,8,8,8,8,8,8,8,8,8,8,8,8,8,8,8,8,8,8,8,8,8,8,8,8,8,8,8,8,8,8,8,8,8,8,8,8,8,8,8,8,8,8,8,8,8,8,8,8,8,8,8,8,8,8,8,8,8,8,8,8,8,8,8,8,8,8,8,8,8,8,8,8,8,8,8,8,8,8,8] (cvt .u8 x)) fun c=>some (Sx.sub .i64 64 (add .i64 0 (cvt .i64 (zD (UInt8.toNat c)))),())
def Vo(x:As [.int .u64]):Option aP:=ach x.1
theorem yc:au Tryz.prog (fun _=>True) 173 ⟨oQ,Vo⟩:=ctn bN 6 fun J x=>by kernel_rfl
@[reducible] def aY:List Ty:=[.int .u64,.int .u64,.int .u64]
@[reducible] def jM:Sh:=shD aY aI
abbrev bn:=Option (As aI)
def pQ:Env:=(cts [(173,(⟨oQ,Vo⟩:Ct))])
def pU:List (Nat×Hint):=[(3,⟨[],[0,1,2,70,71,72,73,74,75,76,77,105,106,107,108,109,110,111,112]⟩),(7,⟨[],[0,1,2,70,71,72,73,74,75,76,77,105,106,107,108,109,110,111,112]⟩),(32767,⟨[],[2,8,9,10,11,13,14,15,105,106,107,108,109,110,111,112]⟩),(524287,⟨[],[2,8,14,15,17,18]⟩),(2097148,⟨[],[2,8,9,10,14,15,16,17,18,105,106,107,108,109,110,111,112]⟩),(8388592,⟨[.agd 105 (.int .u64),.agd 106 (.int .u64),.agd 107 (.int .u64),.agd 108 (.int .u64),.agd 109 (.int .u64),.agd 110 (.int .u64),.agd 111 (.int .u64),.agd 112 .bool],[2,8,9,10,14,15,16,17,18,113]⟩),(131068,⟨[],[2,8,9,10,11,13,14,15,16,70,71,72,73,74,75,76,77,105,106,107,108,109,110,111,112]⟩),(524272,⟨[.agd 70 (.int .u64),.agd 71 (.int .u64),.agd 72 (.int .u64),.agd 73 (.int .u64),.agd 74 (.int .u64),.agd 75 (.int .u64),.agd 76 (.int .u64),.agd 77 .bool],[2,8,9,10,11,13,14,15,16,78]⟩)]
def rP(a b c:Int):St:=⟨[(0,.d (.int .u64) a),(1,.d (.int .u64) b),(2,.d (.int .u64) c)],135,[],[],0,[],0⟩
def rQ(a b c:Int):St:=⟨[(0,.d (.int .u64) a),(1,.d (.int .u64) b),(2,.d (.int .u64) c)],135,[],[],0,[],0⟩
def Jb(g c i h f e d a b:Int):St:=⟨[(2,.d (.int .u64) g),(8,.d (.int .u64) c),(9,.d (.int .u64) i),(10,.d (.int .u64) h),(11,.d (.int .u64) f),(13,.d (.int .u64) e),(14,.d (.int .u64) d),(15,.d (.int .u64) a),(16,.d (.int .u64) b)],135,[],[],0,[],0⟩
def rR(h c j i g f e a b:Int)(d:Bool):St:=⟨[(2,.d (.int .u64) h),(8,.d (.int .u64) c),(9,.d (.int .u64) j),(10,.d (.int .u64) i),(11,.d (.int .u64) g),(13,.d (.int .u64) f),(14,.d (.int .u64) e),(15,.d (.int .u64) a),(16,.d (.int .u64) b),(78,dB d)],135,[],[],0,[],0⟩
def rT(f b h g e d c a:Int):St:=⟨[(2,.d (.int .u64) f),(8,.d (.int .u64) b),(9,.d (.int .u64) h),(10,.d (.int .u64) g),(11,.d (.int .u64) e),(13,.d (.int .u64) d),(14,.d (.int .u64) c),(15,.d (.int .u64) a)],135,[],[],0,[],0⟩
def Jc(g d i h e b c f a:Int):St:=⟨[(2,.d (.int .u64) g),(8,.d (.int .u64) d),(9,.d (.int .u64) i),(10,.d (.int .u64) h),(14,.d (.int .u64) e),(15,.d (.int .u64) b),(16,.d (.int .u64) c),(17,.d (.int .u64) f),(18,.d (.int .u64) a)],135,[],[],0,[],0⟩
def rU(h d j i f b c g a:Int)(e:Bool):St:=⟨[(2,.d (.int .u64) h),(8,.d (.int .u64) d),(9,.d (.int .u64) j),(10,.d (.int .u64) i),(14,.d (.int .u64) f),(15,.d (.int .u64) b),(16,.d (.int .u64) c),(17,.d (.int .u64) g),(18,.d (.int .u64) a),(113,dB e)],135,[],[],0,[],0⟩
def rV(f c d b e a:Int):St:=⟨[(2,.d (.int .u64) f),(8,.d (.int .u64) c),(14,.d (.int .u64) d),(15,.d (.int .u64) b),(17,.d (.int .u64) e),(18,.d (.int .u64) a)],135,[],[],0,[],0⟩
def rW(c:Int->Int->Int->bn)(a d b:Int):bn :=
 if le b a=true then zF else c a d b
def rX(e:Int->Int->Int->Int->Int->Int->Int->Int->Int->bn)(d c b:Int):bn :=
 if eqi d 0=true then need (nei b 0) (need (nei b 0) (some (quo .u64 c b,rem c b,()))) else zA (Vo (b,())) fun a=>need (ge (cvt .u64 a.1) 0) (need (ge (cvt .u64 a.1) 0) (need (ge (Sx.sub .u64 64 (cvt .u64 a.1)) 0) (need (ge (cvt .u64 a.1) 0) (need (nei (Sx.shr .u64 (Sx.shl .u64 b (cvt .u64 a.1)) 32) 0) (e (Sx.shl .u64 b (cvt .u64 a.1)) (cvt .u64 a.1) (Sx.shr .u64 (Sx.shl .u64 b (cvt .u64 a.1)) 32) (Sx.mV .u64 (Sx.shl .u64 b (cvt .u64 a.1)) 4294967295) (Sx.bor .u64 (Sx.shl .u64 d (cvt .u64 a.1)) (Sx.shr .u64 c (Sx.sub .u64 64 (cvt .u64 a.1)))) (Sx.shr .u64 (Sx.shl .u64 c (cvt .u64 a.1)) 32) (Sx.mV .u64 (Sx.shl .u64 c (cvt .u64 a.1)) 4294967295) (quo .u64 (Sx.bor .u64 (Sx.shl .u64 d (cvt .u64 a.1)) (Sx.shr .u64 c (Sx.sub .u64 64 (cvt .u64 a.1)))) (Sx.shr .u64 (Sx.shl .u64 b (cvt .u64 a.1)) 32)) (Sx.sub .u64 (Sx.bor .u64 (Sx.shl .u64 d (cvt .u64 a.1)) (Sx.shr .u64 c (Sx.sub .u64 64 (cvt .u64 a.1)))) (mul .u64 (quo .u64 (Sx.bor .u64 (Sx.shl .u64 d (cvt .u64 a.1)) (Sx.shr .u64 c (Sx.sub .u64 64 (cvt .u64 a.1)))) (Sx.shr .u64 (Sx.shl .u64 b (cvt .u64 a.1)) 32)) (Sx.shr .u64 (Sx.shl .u64 b (cvt .u64 a.1)) 32))))))))
def rY(e:Int->Int->Int->Int->Int->Int->Int->Int->Int->Bool->bn)(k:Int->Int->Int->Int->Int->Int->Int->Int->Int->bn)(i f j d h c g a b:Int):bn :=
 if ge a 4294967296=true then e i f j d h c g a b true else e i f j d h c g a b (gt (mul .u64 a d) (add .u64 (mul .u64 4294967296 b) c))
def rZ(i:Int->Int->Int->Int->Int->Int->Int->Int->bn)(k:Int->Int->Int->Int->Int->Int->Int->Int->Int->bn)(g c a h f e d b j:Int)(l:Bool):bn :=
 if l=true then if ge (add .u64 j a) 4294967296=true then i g c a h f e d (Sx.sub .u64 b 1) else k g c a h f e d (Sx.sub .u64 b 1) (add .u64 j a) else i g c a h f e d b
def r9(f:Int->Int->Int->Int->Int->Int->Int->Int->Int->bn)(b g c i e d h a:Int):bn :=
 need (nei c 0) (f b g c i h a (Sx.sub .u64 (Sx.sub .u64 (add .u64 (mul .u64 e 4294967296) d) (mul .u64 a b)) (mul .u64 (quo .u64 (Sx.sub .u64 (add .u64 (mul .u64 e 4294967296) d) (mul .u64 a b)) c) c)) (Sx.sub .u64 (add .u64 (mul .u64 e 4294967296) d) (mul .u64 a b)) (quo .u64 (Sx.sub .u64 (add .u64 (mul .u64 e 4294967296) d) (mul .u64 a b)) c))
def sj(e:Int->Int->Int->Int->Int->Int->Int->Int->Int->Bool->bn)(k:Int->Int->Int->Int->Int->Int->Int->Int->Int->bn)(i g j d c f b h a:Int):bn :=
 if ge a 4294967296=true then e i g j d c f b h a true else e i g j d c f b h a (gt (mul .u64 a d) (add .u64 (mul .u64 4294967296 b) c))
def su(h:Int->Int->Int->Int->Int->Int->bn)(j:Int->Int->Int->Int->Int->Int->Int->Int->Int->bn)(f c g l d b i e a:Int)(k:Bool):bn :=
 if k=true then if ge (add .u64 i g) 4294967296=true then h f c d b e (Sx.sub .u64 a 1) else j f c g l d b (add .u64 i g) e (Sx.sub .u64 a 1) else h f c d b e a
def sw(f b d c e a:Int):bn :=
 need (ge b 0) (some (add .u64 (mul .u64 c 4294967296) a,Sx.shr .u64 (Sx.sub .u64 (add .u64 (mul .u64 e 4294967296) d) (mul .u64 a f)) b,()))
def nT(c:Int->Int->Int->bn)(b d a:Int):bn :=
 if eqi a 0=true then zF else c b d a
def sD:=sw
def sF(a:Int->Int->Int->Int->Int->Int->Int->Int->Int->bn):=su (sD) a
def nU(g a i h e c d f b:Int):bn :=
 aj (fun j a=>sj (sF (fun g a i h e c d f b=>j (g,a,i,h,e,c,d,f,b))) (fun g a i h e c d f b=>j (g,a,i,h,e,c,d,f,b)) a.1 a.2.1 a.2.2.1 a.2.2.2.1 a.2.2.2.2.1 a.2.2.2.2.2.1 a.2.2.2.2.2.2.1 a.2.2.2.2.2.2.2.1 a.2.2.2.2.2.2.2.2) 18446744073709551616 (g,a,i,h,e,c,d,f,b)
def sG:=r9 (nU)
def sH(a:Int->Int->Int->Int->Int->Int->Int->Int->Int->bn):=rZ (sG) a
def nV(g a i h f e d b c:Int):bn :=
 aj (fun j a=>rY (sH (fun g a i h f e d b c=>j (g,a,i,h,f,e,d,b,c))) (fun g a i h f e d b c=>j (g,a,i,h,f,e,d,b,c)) a.1 a.2.1 a.2.2.1 a.2.2.2.1 a.2.2.2.2.1 a.2.2.2.2.2.1 a.2.2.2.2.2.2.1 a.2.2.2.2.2.2.2.1 a.2.2.2.2.2.2.2.2) 18446744073709551616 (g,a,i,h,f,e,d,b,c)
def sI:=rX (nV)
def nW:=rW (sI)
def pV(x:As aY):bn:=nT nW x.1 x.2.1 x.2.2.1
abbrev pAb:=zp pQ pU 148 jM
theorem L5{J a b c d e f}:pAb J 524287 [] (rV a b c d e f)=sw a b c d e f:=by kernel_rfl
theorem L6{J w6 a b c d e f g h i j}:pAb J 8388592 [w6] (rU a b c d e f g h i j)=su (C (J 524287 []) rV) (C w6 Jc) a b c d e f g h i j:=by kernel_rfl
theorem L8{J w6 a b c d e f g h i}:pAb J 2097148 [w6] (Jc a b c d e f g h i)=sj (C (J 8388592 [w6]) rU) (C w6 Jc) a b c d e f g h i:=by kernel_rfl
theorem L9{J a b c d e f g h}:pAb J 32767 [] (rT a b c d e f g h)=r9 (C (J 2097148 []) Jc) a b c d e f g h:=by kernel_rfl
theorem Ma{J w3 a b c d e f g h i j}:pAb J 524272 [w3] (rR a b c d e f g h i j)=rZ (C (J 32767 []) rT) (C w3 Jb) a b c d e f g h i j:=by kernel_rfl
theorem Mb{J w3 a b c d e f g h i}:pAb J 131068 [w3] (Jb a b c d e f g h i)=rY (C (J 524272 [w3]) rR) (C w3 Jb) a b c d e f g h i:=by kernel_rfl
theorem Mc{J a b c}:pAb J 7 [] (rQ a b c)=rX (C (J 131068 []) Jb) a b c:=by kernel_rfl
theorem Md{J a b c}:pAb J 3 [] (rP a b c)=rW (C (J 7 []) rQ) a b c:=by kernel_rfl
theorem Me(J:Orc (As aI))(x:As aY):rfn Tryz.prog pQ 6 18446744073709551616 (Ev.get pU) 148 jM J x=nT (C (J 3 []) rP) x.1 x.2.1 x.2.2.1:=by kernel_rfl
abbrev pAa:=zj pQ pU 148 jM
theorem Mf:C (pAa 524287 []) rV=sD:=gNC (by decide) fun _=>L5
theorem Mg{w6}:C (pAa 8388592 [w6]) rU=sF (C w6 Jc):=gNC (by decide) fun _=>L6.trans (by rw[Mf]<;>kernel_rfl)
theorem Mh:C (pAa 2097148 []) Jc=nU:=gLC (by decide) (by kernel_rfl) (fun _=>by unfold nU;rfl) fun _ _=>L8.trans (by rw[Mg]<;>kernel_rfl)
theorem Mi:C (pAa 32767 []) rT=sG:=gNC (by decide) fun _=>L9.trans (by rw[Mh]<;>kernel_rfl)
theorem Mj{w3}:C (pAa 524272 [w3]) rR=sH (C w3 Jb):=gNC (by decide) fun _=>Ma.trans (by rw[Mi]<;>kernel_rfl)
theorem Mk:C (pAa 131068 []) Jb=nV:=gLC (by decide) (by kernel_rfl) (fun _=>by unfold nV;rfl) fun _ _=>Mb.trans (by rw[Mj]<;>kernel_rfl)
theorem Ml:C (pAa 7 []) rQ=sI:=gNC (by decide) fun _=>Mc.trans (by rw[Mk]<;>kernel_rfl)
theorem Mm:C (pAa 3 []) rP=nW:=gNC (by decide) fun _=>Md.trans (by rw[Ml]<;>kernel_rfl)
theorem OO(x:As aY):evT Tryz.prog pQ 6 18446744073709551616 (Ev.get pU) 148 jM x=pV x:=by rw[Ch,Me,Mm]<;>rfl
theorem Mq:au Tryz.prog (fun _=>True) 148 ⟨jM,pV⟩:=Cg (av yc bN) OO
@[reducible] def aC:List Ty:=[.pr (.int .i64) (.int .u8),.bool]
@[reducible] def Vp:Sh:=shD [.pr (.int .i64) (.int .u8),.int .i64,.int .i64] aC
def aci:Env:=(cts [(52,(⟨E8,pP⟩:Ct)),(68,(⟨E9,vI⟩:Ct)),(86,(⟨Cm,bits_Mul64⟩:Ct)),(148,(⟨jM,pV⟩:Ct))])
def acj:List (Nat×Hint):=[(15,⟨[],[1,2,3,6,8,73,74,75]⟩),(1023,⟨[],[3,6,11,13]⟩),(8191,⟨[],[6,8,13]⟩),(4092,⟨[],[3,6,11,13,73,74,75]⟩),(16368,⟨[.agd 73 (.int .u64),.agd 74 (.int .u64),.agd 75 .bool],[3,6,11,13,76]⟩),(6,⟨[],[1,2,3,6,32,73,74,75]⟩)]
def ack(d c:Int)(e:Bool)(a b f g:Int):St:=⟨[(1,dI d),(2,dI c),(3,.pb 0 0),(6,.pb 1 0),(32,dB e)],94,[],[(0,.box 45 [dI a,d8 b]),(1,.box 45 [dI f,d8 g])],2,[],0⟩
def acm(e c d a b f g:Int):St:=⟨[(1,dI e),(2,dI c),(3,.pb 0 0),(6,.pb 1 0),(8,dI d)],94,[],[(0,.box 45 [dI a,d8 b]),(1,.box 45 [dI f,d8 g])],2,[],0⟩
def Jd(d c a b e f:Int):St:=⟨[(3,.pb 0 0),(6,.pb 1 0),(11,.d (.int .u64) d),(13,d8 c)],94,[],[(0,.box 45 [dI a,d8 b]),(1,.box 45 [dI e,d8 f])],2,[],0⟩
def acn(d c:Int)(g:Bool)(a b e f:Int):St:=⟨[(3,.pb 0 0),(6,.pb 1 0),(11,.d (.int .u64) d),(13,d8 c),(76,dB g)],94,[],[(0,.box 45 [dI a,d8 b]),(1,.box 45 [dI e,d8 f])],2,[],0⟩
def aco(d c a b e f:Int):St:=⟨[(3,.pb 0 0),(6,.pb 1 0),(11,.d (.int .u64) d),(13,d8 c)],94,[],[(0,.box 45 [dI a,d8 b]),(1,.box 45 [dI e,d8 f])],2,[],0⟩
def acp(a b c d:Int):St:=⟨[(6,.pb 0 0),(8,dI a),(13,d8 b)],94,[],[(0,.box 45 [dI c,d8 d])],1,[],0⟩
@[reducible] def aB:Type:=As aC
def acr(d:Int->Int->Int->Int->Int->Int->Int->Option aB)(e c:Int)(h:Bool)(a b f g:Int):Option aB :=
 if h=true then some ((0,0),false,()) else if lt a 0=true then d e c (Sx.neg .i64 a) a b f g else d e c a a b f g
@[reducible] def zF5:Type:=Int->Int->Int->Int->Int->Int->Option aB
def acs(e:zF5)(g c f d b h i:Int):Option aB :=
 zA (vI (Sx.sub .i64 6 (cvt .i64 b),())) fun a=>zA (bits_Mul64 (cvt .u64 (mul .i64 f a.1),cvt .u64 g,())) fun a=>if ge a.1 (cvt .u64 c)=true then some ((0,0),false,()) else zA (pV (a.1,a.2.1,cvt .u64 c,())) fun a=>if nei a.2.1 0=true then some ((0,0),false,()) else e a.1 6 d b h i
@[reducible] def zF6:Type:=Int->Int->Bool->Int->Int->Int->Int->Option aB
def Je(e:zF6)(h:zF5)(b a c d f g:Int):Option aB :=
 if gt a 0=true then e b a (eqi (rem b 10) 0) c d f g else e b a false c d f g
def Vq(g h:zF5)(d c:Int)(i:Bool)(a b e f:Int):Option aB :=
 if i=true then h (quo .u64 d 10) (Sx.sub .u8 c 1) a b e f else g d c a b e f
def acu(b:Int->Int->Int->Int->Option aB)(a c f g d e:Int):Option aB :=
 if gt a 1000000000000=true then some ((0,0),false,()) else if lt f 0=true then b (Sx.neg .i64 (cvt .i64 a)) c d e else b (cvt .i64 a) c d e
def aiZ(a b c d:Int):Option aB :=
 some ((a,b),true,())
def Jf(d:zF6)(a:Int×Int)(c b:Int):Option aB :=
 zA (pP (a,())) fun e=>if (!e.1)=true then d c b true a.1 a.2 0 0 else if lt c 1=true then d c b true a.1 a.2 0 0 else if gt c 1000000000=true then d c b true a.1 a.2 0 0 else if lt b 1=true then d c b true a.1 a.2 0 0 else d c b (gt b 1000000000) a.1 a.2 0 0
def ai0:=aiZ
def OP:=acu (ai0)
def Jg(a:zF5):=Vq (OP) a
def Vr(e d b c f g:Int):Option aB :=
 aj (fun h a=>Je (Jg (fun e d b c f g=>h (e,d,b,c,f,g))) (fun e d b c f g=>h (e,d,b,c,f,g)) a.1 a.2.1 a.2.2.1 a.2.2.2.1 a.2.2.2.2.1 a.2.2.2.2.2) 18446744073709551616 (e,d,b,c,f,g)
def Vs:=acs (Vr)
def Fa:=acr (Vs)
def Fb(x:As [.pr (.int .i64) (.int .u8),.int .i64,.int .i64]):Option aB:=Jf Fa x.1 x.2.1 x.2.2.1
abbrev pBz:=zp aci acj 126 Vp
theorem ani{J a b c d}:pBz J 8191 [] (acp a b c d)=aiZ a b c d:=by kernel_rfl
theorem anj{J a b c d e f}:pBz J 1023 [] (aco a b c d e f)=acu (C (J 8191 []) acp) a b c d e f:=by kernel_rfl
theorem ank{J w3 a b c d e f g}:pBz J 16368 [w3] (acn a b c d e f g)=Vq (C (J 1023 []) aco) (C w3 Jd) a b c d e f g:=by kernel_rfl
theorem anl{J w3 a b c d e f}:pBz J 4092 [w3] (Jd a b c d e f)=Je (C (J 16368 [w3]) acn) (C w3 Jd) a b c d e f:=by kernel_rfl
theorem anm{J a b c d e f g}:pBz J 15 [] (acm a b c d e f g)=acs (C (J 4092 []) Jd) a b c d e f g:=by kernel_rfl
theorem ano{J a b c d e f g}:pBz J 6 [] (ack a b c d e f g)=acr (C (J 15 []) acm) a b c d e f g:=by kernel_rfl
abbrev pBy:=zj aci acj 126 Vp
theorem anp:C (pBy 8191 []) acp=ai0:=gNC (by decide) fun _=>ani
theorem anq:C (pBy 1023 []) aco=OP:=gNC (by decide) fun _=>anj.trans (by rw[anp]<;>kernel_rfl)
theorem anr{w3}:C (pBy 16368 [w3]) acn=Jg (C w3 Jd):=gNC (by decide) fun _=>ank.trans (by rw[anq]<;>kernel_rfl)
theorem ant:C (pBy 4092 []) Jd=Vr:=gLC (by decide) (by kernel_rfl) (fun _=>by unfold Vr;rfl) fun _ _=>anl.trans (by rw[anr]<;>kernel_rfl)
theorem anu:C (pBy 15 []) acm=Vs:=gNC (by decide) fun _=>anm.trans (by rw[ant]<;>kernel_rfl)
theorem anv:C (pBy 6 []) ack=Fa:=gNC (by decide) fun _=>ano.trans (by rw[anu]<;>kernel_rfl)
theorem anw:au Tryz.prog (fun _=>True) 126 ⟨Vp,Fb⟩:=zcc (env:=aci) (d:=6) (hs:=Ev.get acj) (av I1 (av Vn (av Bu (av Mq bN)))) (fun J x=>Jf (C (J 6 []) ack) x.1 x.2.1 x.2.2.1) (fun _ _=>by kernel_rfl) fun _=>by rw[anv]<;>rfl
@[reducible] def Vt:Sh:=shD [.pr (.int .i64) (.int .u8),.str,.str] aC
def acv:Env:=(cts [(126,(⟨Vp,Fb⟩:Ct))])
def acw:List (Nat×Hint):=[(62,⟨[],[3,6,9,11,38]⟩)]
def acy(i:Bool)(g h j k:Int)(a:List UInt8)(b c:Int)(d:List UInt8)(e f:Int):St:=⟨[(3,.pb 0 0),(6,.pb 1 0),(9,.pb 2 0),(11,.pb 3 0),(38,dB i)],54,[],[(0,.box 45 [dI g,d8 h]),(1,.box 45 [dI j,d8 k]),(2,.box 185 [dS a,dI b,dI c]),(3,.box 185 [dS d,dI e,dI f])],4,[],0⟩
def Vu(h:Bool)(f g k l:Int)(i:List UInt8)(b c:Int)(j:List UInt8)(d e:Int):Option aB :=
 if h=true then some ((0,0),false,()) else zA (Fb ((f,g),mul .i64 b e,mul .i64 c d,())) fun a=>some (a.1,a.2.1,())
def ai1(d:Bool->Int->Int->Int->Int->List UInt8->Int->Int->List UInt8->Int->Int->Option aB)(c:Int×Int)(a b:List UInt8):Option aB :=
 if (!Ev.isV iM (if eqs [] a=true then some ([],1,1) else if eqs [37] a=true then some ([],1,1) else if eqs [109] a=true then some ([109],1,1) else if eqs [99,109] a=true then some ([109],1,100) else if eqs [109,109] a=true then some ([109],1,1000) else if eqs [115] a=true then some ([115],1,1) else if eqs [109,115] a=true then some ([115],1,1000) else if eqs [109,105,110] a=true then some ([115],60,1) else if eqs [104] a=true then some ([115],3600,1) else if eqs [98,97,114] a=true then some ([98,97,114],1,1) else if eqs [109,98,97,114] a=true then some ([98,97,114],1,1000) else if eqs [107,80,97] a=true then some ([98,97,114],1,100) else if eqs [107,103] a=true then some ([107,103],1,1) else if eqs [103] a=true then some ([107,103],1,1000) else if eqs [116] a=true then some ([107,103],1000,1) else if eqs [108] a=true then some ([108],1,1) else if eqs [109,108] a=true then some ([108],1,1000) else if eqs [67] a=true then some ([67],1,1) else zF))=true then d true c.1 c.2 0 0 (Ev.gdV iM (if eqs [] a=true then some ([],1,1) else if eqs [37] a=true then some ([],1,1) else if eqs [109] a=true then some ([109],1,1) else if eqs [99,109] a=true then some ([109],1,100) else if eqs [109,109] a=true then some ([109],1,1000) else if eqs [115] a=true then some ([115],1,1) else if eqs [109,115] a=true then some ([115],1,1000) else if eqs [109,105,110] a=true then some ([115],60,1) else if eqs [104] a=true then some ([115],3600,1) else if eqs [98,97,114] a=true then some ([98,97,114],1,1) else if eqs [109,98,97,114] a=true then some ([98,97,114],1,1000) else if eqs [107,80,97] a=true then some ([98,97,114],1,100) else if eqs [107,103] a=true then some ([107,103],1,1) else if eqs [103] a=true then some ([107,103],1,1000) else if eqs [116] a=true then some ([107,103],1000,1) else if eqs [108] a=true then some ([108],1,1) else if eqs [109,108] a=true then some ([108],1,1000) else if eqs [67] a=true then some ([67],1,1) else zF) ([],0,0)).1 (Ev.gdV iM (if eqs [] a=true then some ([],1,1) else if eqs [37] a=true then some ([],1,1) else if eqs [109] a=true then some ([109],1,1) else if eqs [99,109] a=true then some ([109],1,100) else if eqs [109,109] a=true then some ([109],1,1000) else if eqs [115] a=true then some ([115],1,1) else if eqs [109,115] a=true then some ([115],1,1000) else if eqs [109,105,110] a=true then some ([115],60,1) else if eqs [104] a=true then some ([115],3600,1) else if eqs [98,97,114] a=true then some ([98,97,114],1,1) else if eqs [109,98,97,114] a=true then some ([98,97,114],1,1000) else if eqs [107,80,97] a=true then some ([98,97,114],1,100) else if eqs [107,103] a=true then some ([107,103],1,1) else if eqs [103] a=true then some ([107,103],1,1000) else if eqs [116] a=true then some ([107,103],1000,1) else if eqs [108] a=true then some ([108],1,1) else if eqs [109,108] a=true then some ([108],1,1000) else if eqs [67] a=true then some ([67],1,1) else zF) ([],0,0)).2.1 (Ev.gdV iM (if eqs [] a=true then some ([],1,1) else if eqs [37] a=true then some ([],1,1) else if eqs [109] a=true then some ([109],1,1) else if eqs [99,109] a=true then some ([109],1,100) else if eqs [109,109] a=true then some ([109],1,1000) else if eqs [115] a=true then some ([115],1,1) else if eqs [109,115] a=true then some ([115],1,1000) else if eqs [109,105,110] a=true then some ([115],60,1) else if eqs [104] a=true then some ([115],3600,1) else if eqs [98,97,114] a=true then some ([98,97,114],1,1) else if eqs [109,98,97,114] a=true then some ([98,97,114],1,1000) else if eqs [107,80,97] a=true then some ([98,97,114],1,100) else if eqs [107,103] a=true then some ([107,103],1,1) else if eqs [103] a=true then some ([107,103],1,1000) else if eqs [116] a=true then some ([107,103],1000,1) else if eqs [108] a=true then some ([108],1,1) else if eqs [109,108] a=true then some ([108],1,1000) else if eqs [67] a=true then some ([67],1,1) else zF) ([],0,0)).2.2 (Ev.gdV iM (if eqs [] b=true then some ([],1,1) else if eqs [37] b=true then some ([],1,1) else if eqs [109] b=true then some ([109],1,1) else if eqs [99,109] b=true then some ([109],1,100) else if eqs [109,109] b=true then some ([109],1,1000) else if eqs [115] b=true then some ([115],1,1) else if eqs [109,115] b=true then some ([115],1,1000) else if eqs [109,105,110] b=true then some ([115],60,1) else if eqs [104] b=true then some ([115],3600,1) else if eqs [98,97,114] b=true then some ([98,97,114],1,1) else if eqs [109,98,97,114] b=true then some ([98,97,114],1,1000) else if eqs [107,80,97] b=true then some ([98,97,114],1,100) else if eqs [107,103] b=true then some ([107,103],1,1) else if eqs [103] b=true then some ([107,103],1,1000) else if eqs [116] b=true then some ([107,103],1000,1) else if eqs [108] b=true then some ([108],1,1) else if eqs [109,108] b=true then some ([108],1,1000) else if eqs [67] b=true then some ([67],1,1) else zF) ([],0,0)).1 (Ev.gdV iM (if eqs [] b=true then some ([],1,1) else if eqs [37] b=true then some ([],1,1) else if eqs [109] b=true then some ([109],1,1) else if eqs [99,109] b=true then some ([109],1,100) else if eqs [109,109] b=true then some ([109],1,1000) else if eqs [115] b=true then some ([115],1,1) else if eqs [109,115] b=true then some ([115],1,1000) else if eqs [109,105,110] b=true then some ([115],60,1) else if eqs [104] b=true then some ([115],3600,1) else if eqs [98,97,114] b=true then some ([98,97,114],1,1) else if eqs [109,98,97,114] b=true then some ([98,97,114],1,1000) else if eqs [107,80,97] b=true then some ([98,97,114],1,100) else if eqs [107,103] b=true then some ([107,103],1,1) else if eqs [103] b=true then some ([107,103],1,1000) else if eqs [116] b=true then some ([107,103],1000,1) else if eqs [108] b=true then some ([108],1,1) else if eqs [109,108] b=true then some ([108],1,1000) else if eqs [67] b=true then some ([67],1,1) else zF) ([],0,0)).2.1 (Ev.gdV iM (if eqs [] b=true then some ([],1,1) else if eqs [37] b=true then some ([],1,1) else if eqs [109] b=true then some ([109],1,1) else if eqs [99,109] b=true then some ([109],1,100) else if eqs [109,109] b=true then some ([109],1,1000) else if eqs [115] b=true then some ([115],1,1) else if eqs [109,115] b=true then some ([115],1,1000) else if eqs [109,105,110] b=true then some ([115],60,1) else if eqs [104] b=true then some ([115],3600,1) else if eqs [98,97,114] b=true then some ([98,97,114],1,1) else if eqs [109,98,97,114] b=true then some ([98,97,114],1,1000) else if eqs [107,80,97] b=true then some ([98,97,114],1,100) else if eqs [107,103] b=true then some ([107,103],1,1) else if eqs [103] b=true then some ([107,103],1,1000) else if eqs [116] b=true then some ([107,103],1000,1) else if eqs [108] b=true then some ([108],1,1) else if eqs [109,108] b=true then some ([108],1,1000) else if eqs [67] b=true then some ([67],1,1) else zF) ([],0,0)).2.2 else if (!Ev.isV iM (if eqs [] b=true then some ([],1,1) else if eqs [37] b=true then some ([],1,1) else if eqs [109] b=true then some ([109],1,1) else if eqs [99,109] b=true then some ([109],1,100) else if eqs [109,109] b=true then some ([109],1,1000) else if eqs [115] b=true then some ([115],1,1) else if eqs [109,115] b=true then some ([115],1,1000) else if eqs [109,105,110] b=true then some ([115],60,1) else if eqs [104] b=true then some ([115],3600,1) else if eqs [98,97,114] b=true then some ([98,97,114],1,1) else if eqs [109,98,97,114] b=true then some ([98,97,114],1,1000) else if eqs [107,80,97] b=true then some ([98,97,114],1,100) else if eqs [107,103] b=true then some ([107,103],1,1) else if eqs [103] b=true then some ([107,103],1,1000) else if eqs [116] b=true then some ([107,103],1000,1) else if eqs [108] b=true then some ([108],1,1) else if eqs [109,108] b=true then some ([108],1,1000) else if eqs [67] b=true then some ([67],1,1) else zF))=true then d true c.1 c.2 0 0 (Ev.gdV iM (if eqs [] a=true then some ([],1,1) else if eqs [37] a=true then some ([],1,1) else if eqs [109] a=true then some ([109],1,1) else if eqs [99,109] a=true then some ([109],1,100) else if eqs [109,109] a=true then some ([109],1,1000) else if eqs [115] a=true then some ([115],1,1) else if eqs [109,115] a=true then some ([115],1,1000) else if eqs [109,105,110] a=true then some ([115],60,1) else if eqs [104] a=true then some ([115],3600,1) else if eqs [98,97,114] a=true then some ([98,97,114],1,1) else if eqs [109,98,97,114] a=true then some ([98,97,114],1,1000) else if eqs [107,80,97] a=true then some ([98,97,114],1,100) else if eqs [107,103] a=true then some ([107,103],1,1) else if eqs [103] a=true then some ([107,103],1,1000) else if eqs [116] a=true then some ([107,103],1000,1) else if eqs [108] a=true then some ([108],1,1) else if eqs [109,108] a=true then some ([108],1,1000) else if eqs [67] a=true then some ([67],1,1) else zF) ([],0,0)).1 (Ev.gdV iM (if eqs [] a=true then some ([],1,1) else if eqs [37] a=true then some ([],1,1) else if eqs [109] a=true then some ([109],1,1) else if eqs [99,109] a=true then some ([109],1,100) else if eqs [109,109] a=true then some ([109],1,1000) else if eqs [115] a=true then some ([115],1,1) else if eqs [109,115] a=true then some ([115],1,1000) else if eqs [109,105,110] a=true then some ([115],60,1) else if eqs [104] a=true then some ([115],3600,1) else if eqs [98,97,114] a=true then some ([98,97,114],1,1) else if eqs [109,98,97,114] a=true then some ([98,97,114],1,1000) else if eqs [107,80,97] a=true then some ([98,97,114],1,100) else if eqs [107,103] a=true then some ([107,103],1,1) else if eqs [103] a=true then some ([107,103],1,1000) else if eqs [116] a=true then some ([107,103],1000,1) else if eqs [108] a=true then some ([108],1,1) else if eqs [109,108] a=true then some ([108],1,1000) else if eqs [67] a=true then some ([67],1,1) else zF) ([],0,0)).2.1 (Ev.gdV iM (if eqs [] a=true then some ([],1,1) else if eqs [37] a=true then some ([],1,1) else if eqs [109] a=true then some ([109],1,1) else if eqs [99,109] a=true then some ([109],1,100) else if eqs [109,109] a=true then some ([109],1,1000) else if eqs [115] a=true then some ([115],1,1) else if eqs [109,115] a=true then some ([115],1,1000) else if eqs [109,105,110] a=true then some ([115],60,1) else if eqs [104] a=true then some ([115],3600,1) else if eqs [98,97,114] a=true then some ([98,97,114],1,1) else if eqs [109,98,97,114] a=true then some ([98,97,114],1,1000) else if eqs [107,80,97] a=true then some ([98,97,114],1,100) else if eqs [107,103] a=true then some ([107,103],1,1) else if eqs [103] a=true then some ([107,103],1,1000) else if eqs [116] a=true then some ([107,103],1000,1) else if eqs [108] a=true then some ([108],1,1) else if eqs [109,108] a=true then some ([108],1,1000) else if eqs [67] a=true then some ([67],1,1) else zF) ([],0,0)).2.2 (Ev.gdV iM (if eqs [] b=true then some ([],1,1) else if eqs [37] b=true then some ([],1,1) else if eqs [109] b=true then some ([109],1,1) else if eqs [99,109] b=true then some ([109],1,100) else if eqs [109,109] b=true then some ([109],1,1000) else if eqs [115] b=true then some ([115],1,1) else if eqs [109,115] b=true then some ([115],1,1000) else if eqs [109,105,110] b=true then some ([115],60,1) else if eqs [104] b=true then some ([115],3600,1) else if eqs [98,97,114] b=true then some ([98,97,114],1,1) else if eqs [109,98,97,114] b=true then some ([98,97,114],1,1000) else if eqs [107,80,97] b=true then some ([98,97,114],1,100) else if eqs [107,103] b=true then some ([107,103],1,1) else if eqs [103] b=true then some ([107,103],1,1000) else if eqs [116] b=true then some ([107,103],1000,1) else if eqs [108] b=true then some ([108],1,1) else if eqs [109,108] b=true then some ([108],1,1000) else if eqs [67] b=true then some ([67],1,1) else zF) ([],0,0)).1 (Ev.gdV iM (if eqs [] b=true then some ([],1,1) else if eqs [37] b=true then some ([],1,1) else if eqs [109] b=true then some ([109],1,1) else if eqs [99,109] b=true then some ([109],1,100) else if eqs [109,109] b=true then some ([109],1,1000) else if eqs [115] b=true then some ([115],1,1) else if eqs [109,115] b=true then some ([115],1,1000) else if eqs [109,105,110] b=true then some ([115],60,1) else if eqs [104] b=true then some ([115],3600,1) else if eqs [98,97,114] b=true then some ([98,97,114],1,1) else if eqs [109,98,97,114] b=true then some ([98,97,114],1,1000) else if eqs [107,80,97] b=true then some ([98,97,114],1,100) else if eqs [107,103] b=true then some ([107,103],1,1) else if eqs [103] b=true then some ([107,103],1,1000) else if eqs [116] b=true then some ([107,103],1000,1) else if eqs [108] b=true then some ([108],1,1) else if eqs [109,108] b=true then some ([108],1,1000) else if eqs [67] b=true then some ([67],1,1) else zF) ([],0,0)).2.1 (Ev.gdV iM (if eqs [] b=true then some ([],1,1) else if eqs [37] b=true then some ([],1,1) else if eqs [109] b=true then some ([109],1,1) else if eqs [99,109] b=true then some ([109],1,100) else if eqs [109,109] b=true then some ([109],1,1000) else if eqs [115] b=true then some ([115],1,1) else if eqs [109,115] b=true then some ([115],1,1000) else if eqs [109,105,110] b=true then some ([115],60,1) else if eqs [104] b=true then some ([115],3600,1) else if eqs [98,97,114] b=true then some ([98,97,114],1,1) else if eqs [109,98,97,114] b=true then some ([98,97,114],1,1000) else if eqs [107,80,97] b=true then some ([98,97,114],1,100) else if eqs [107,103] b=true then some ([107,103],1,1) else if eqs [103] b=true then some ([107,103],1,1000) else if eqs [116] b=true then some ([107,103],1000,1) else if eqs [108] b=true then some ([108],1,1) else if eqs [109,108] b=true then some ([108],1,1000) else if eqs [67] b=true then some ([67],1,1) else zF) ([],0,0)).2.2 else d (nes (Ev.gdV iM (if eqs [] a=true then some ([],1,1) else if eqs [37] a=true then some ([],1,1) else if eqs [109] a=true then some ([109],1,1) else if eqs [99,109] a=true then some ([109],1,100) else if eqs [109,109] a=true then some ([109],1,1000) else if eqs [115] a=true then some ([115],1,1) else if eqs [109,115] a=true then some ([115],1,1000) else if eqs [109,105,110] a=true then some ([115],60,1) else if eqs [104] a=true then some ([115],3600,1) else if eqs [98,97,114] a=true then some ([98,97,114],1,1) else if eqs [109,98,97,114] a=true then some ([98,97,114],1,1000) else if eqs [107,80,97] a=true then some ([98,97,114],1,100) else if eqs [107,103] a=true then some ([107,103],1,1) else if eqs [103] a=true then some ([107,103],1,1000) else if eqs [116] a=true then some ([107,103],1000,1) else if eqs [108] a=true then some ([108],1,1) else if eqs [109,108] a=true then some ([108],1,1000) else if eqs [67] a=true then some ([67],1,1) else zF) ([],0,0)).1 (Ev.gdV iM (if eqs [] b=true then some ([],1,1) else if eqs [37] b=true then some ([],1,1) else if eqs [109] b=true then some ([109],1,1) else if eqs [99,109] b=true then some ([109],1,100) else if eqs [109,109] b=true then some ([109],1,1000) else if eqs [115] b=true then some ([115],1,1) else if eqs [109,115] b=true then some ([115],1,1000) else if eqs [109,105,110] b=true then some ([115],60,1) else if eqs [104] b=true then some ([115],3600,1) else if eqs [98,97,114] b=true then some ([98,97,114],1,1) else if eqs [109,98,97,114] b=true then some ([98,97,114],1,1000) else if eqs [107,80,97] b=true then some ([98,97,114],1,100) else if eqs [107,103] b=true then some ([107,103],1,1) else if eqs [103] b=true then some ([107,103],1,1000) else if eqs [116] b=true then some ([107,103],1000,1) else if eqs [108] b=true then some ([108],1,1) else if eqs [109,108] b=true then some ([108],1,1000) else if eqs [67] b=true then some ([67],1,1) else zF) ([],0,0)).1) c.1 c.2 0 0 (Ev.gdV iM (if eqs [] a=true then some ([],1,1) else if eqs [37] a=true then some ([],1,1) else if eqs [109] a=true then some ([109],1,1) else if eqs [99,109] a=true then some ([109],1,100) else if eqs [109,109] a=true then some ([109],1,1000) else if eqs [115] a=true then some ([115],1,1) else if eqs [109,115] a=true then some ([115],1,1000) else if eqs [109,105,110] a=true then some ([115],60,1) else if eqs [104] a=true then some ([115],3600,1) else if eqs [98,97,114] a=true then some ([98,97,114],1,1) else if eqs [109,98,97,114] a=true then some ([98,97,114],1,1000) else if eqs [107,80,97] a=true then some ([98,97,114],1,100) else if eqs [107,103] a=true then some ([107,103],1,1) else if eqs [103] a=true then some ([107,103],1,1000) else if eqs [116] a=true then some ([107,103],1000,1) else if eqs [108] a=true then some ([108],1,1) else if eqs [109,108] a=true then some ([108],1,1000) else if eqs [67] a=true then some ([67],1,1) else zF) ([],0,0)).1 (Ev.gdV iM (if eqs [] a=true then some ([],1,1) else if eqs [37] a=true then some ([],1,1) else if eqs [109] a=true then some ([109],1,1) else if eqs [99,109] a=true then some ([109],1,100) else if eqs [109,109] a=true then some ([109],1,1000) else if eqs [115] a=true then some ([115],1,1) else if eqs [109,115] a=true then some ([115],1,1000) else if eqs [109,105,110] a=true then some ([115],60,1) else if eqs [104] a=true then some ([115],3600,1) else if eqs [98,97,114] a=true then some ([98,97,114],1,1) else if eqs [109,98,97,114] a=true then some ([98,97,114],1,1000) else if eqs [107,80,97] a=true then some ([98,97,114],1,100) else if eqs [107,103] a=true then some ([107,103],1,1) else if eqs [103] a=true then some ([107,103],1,1000) else if eqs [116] a=true then some ([107,103],1000,1) else if eqs [108] a=true then some ([108],1,1) else if eqs [109,108] a=true then some ([108],1,1000) else if eqs [67] a=true then some ([67],1,1) else zF) ([],0,0)).2.1 (Ev.gdV iM (if eqs [] a=true then some ([],1,1) else if eqs [37] a=true then some ([],1,1) else if eqs [109] a=true then some ([109],1,1) else if eqs [99,109] a=true then some ([109],1,100) else if eqs [109,109] a=true then some ([109],1,1000) else if eqs [115] a=true then some ([115],1,1) else if eqs [109,115] a=true then some ([115],1,1000) else if eqs [109,105,110] a=true then some ([115],60,1) else if eqs [104] a=true then some ([115],3600,1) else if eqs [98,97,114] a=true then some ([98,97,114],1,1) else if eqs [109,98,97,114] a=true then some ([98,97,114],1,1000) else if eqs [107,80,97] a=true then some ([98,97,114],1,100) else if eqs [107,103] a=true then some ([107,103],1,1) else if eqs [103] a=true then some ([107,103],1,1000) else if eqs [116] a=true then some ([107,103],1000,1) else if eqs [108] a=true then some ([108],1,1) else if eqs [109,108] a=true then some ([108],1,1000) else if eqs [67] a=true then some ([67],1,1) else zF) ([],0,0)).2.2 (Ev.gdV iM (if eqs [] b=true then some ([],1,1) else if eqs [37] b=true then some ([],1,1) else if eqs [109] b=true then some ([109],1,1) else if eqs [99,109] b=true then some ([109],1,100) else if eqs [109,109] b=true then some ([109],1,1000) else if eqs [115] b=true then some ([115],1,1) else if eqs [109,115] b=true then some ([115],1,1000) else if eqs [109,105,110] b=true then some ([115],60,1) else if eqs [104] b=true then some ([115],3600,1) else if eqs [98,97,114] b=true then some ([98,97,114],1,1) else if eqs [109,98,97,114] b=true then some ([98,97,114],1,1000) else if eqs [107,80,97] b=true then some ([98,97,114],1,100) else if eqs [107,103] b=true then some ([107,103],1,1) else if eqs [103] b=true then some ([107,103],1,1000) else if eqs [116] b=true then some ([107,103],1000,1) else if eqs [108] b=true then some ([108],1,1) else if eqs [109,108] b=true then some ([108],1,1000) else if eqs [67] b=true then some ([67],1,1) else zF) ([],0,0)).1 (Ev.gdV iM (if eqs [] b=true then some ([],1,1) else if eqs [37] b=true then some ([],1,1) else if eqs [109] b=true then some ([109],1,1) else if eqs [99,109] b=true then some ([109],1,100) else if eqs [109,109] b=true then some ([109],1,1000) else if eqs [115] b=true then some ([115],1,1) else if eqs [109,115] b=true then some ([115],1,1000) else if eqs [109,105,110] b=true then some ([115],60,1) else if eqs [104] b=true then some ([115],3600,1) else if eqs [98,97,114] b=true then some ([98,97,114],1,1) else if eqs [109,98,97,114] b=true then some ([98,97,114],1,1000) else if eqs [107,80,97] b=true then some ([98,97,114],1,100) else if eqs [107,103] b=true then some ([107,103],1,1) else if eqs [103] b=true then some ([107,103],1,1000) else if eqs [116] b=true then some ([107,103],1000,1) else if eqs [108] b=true then some ([108],1,1) else if eqs [109,108] b=true then some ([108],1,1000) else if eqs [67] b=true then some ([67],1,1) else zF) ([],0,0)).2.1 (Ev.gdV iM (if eqs [] b=true then some ([],1,1) else if eqs [37] b=true then some ([],1,1) else if eqs [109] b=true then some ([109],1,1) else if eqs [99,109] b=true then some ([109],1,100) else if eqs [109,109] b=true then some ([109],1,1000) else if eqs [115] b=true then some ([115],1,1) else if eqs [109,115] b=true then some ([115],1,1000) else if eqs [109,105,110] b=true then some ([115],60,1) else if eqs [104] b=true then some ([115],3600,1) else if eqs [98,97,114] b=true then some ([98,97,114],1,1) else if eqs [109,98,97,114] b=true then some ([98,97,114],1,1000) else if eqs [107,80,97] b=true then some ([98,97,114],1,100) else if eqs [107,103] b=true then some ([107,103],1,1) else if eqs [103] b=true then some ([107,103],1,1000) else if eqs [116] b=true then some ([107,103],1000,1) else if eqs [108] b=true then some ([108],1,1) else if eqs [109,108] b=true then some ([108],1,1000) else if eqs [67] b=true then some ([67],1,1) else zF) ([],0,0)).2.2
def sJ:=Vu
def yg(x:As [.pr (.int .i64) (.int .u8),.str,.str]):Option aB:=ai1 sJ x.1 x.2.1 x.2.2.1
abbrev pB1:=zp acv acw 95 Vt
theorem anx{J a b c d e f g h i j k}:pB1 J 62 [] (acy a b c d e f g h i j k)=Vu a b c d e f g h i j k:=by kernel_rfl
abbrev pB0:=zj acv acw 95 Vt
theorem anz:C (pB0 62 []) acy=sJ:=gNC (by decide) fun _=>anx
theorem anA:au Tryz.prog (fun _=>True) 95 ⟨Vt,yg⟩:=zcc (env:=acv) (d:=6) (hs:=Ev.get acw) (av anw bN) (fun J x=>ai1 (C (J 62 []) acy) x.1 x.2.1 x.2.2.1) (fun _ _=>by kernel_rfl) fun _=>by rw[anz]<;>rfl
@[reducible] def OQ:Sh:=shD [.pr (.int .i64) (.int .u8),.pr (.int .i64) (.int .u8)] [.int .i64]
def acz:Env:=(cts [(52,(⟨E8,pP⟩:Ct)),(68,(⟨E9,vI⟩:Ct))])
def acA:List (Nat×Hint):=[(6,⟨[],[2,3,14]⟩)]
def acB(c:Bool)(a b:Int×Int):St:=⟨[(2,.pb 0 0),(3,.pb 1 0),(14,dB c)],39,[],[(0,.box 45 [dI a.1,d8 a.2]),(1,.box 45 [dI b.1,d8 b.2])],2,[],0⟩
def acC(e:Bool)(a b:Int×Int):Option aP :=
 if e=true then some (0,()) else zA (vI (Sx.sub .i64 6 (cvt .i64 a.2),())) fun c=>zA (vI (Sx.sub .i64 6 (cvt .i64 b.2),())) fun d=>if lt (mul .i64 a.1 c.1) (mul .i64 b.1 d.1)=true then some (-1,()) else if gt (mul .i64 a.1 c.1) (mul .i64 b.1 d.1)=true then some (1,()) else some (0,())
def Vv(d:Bool->Int×Int->Int×Int->Option aP)(a b:Int×Int):Option aP :=
 zA (pP (a,())) fun c=>if (!c.1)=true then d true a b else zA (pP (b,())) fun c=>d (!c.1) a b
def Vx:=acC
def yh(x:As [.pr (.int .i64) (.int .u8),.pr (.int .i64) (.int .u8)]):Option aP:=Vv Vx x.1 x.2.1
abbrev pBt:=zp acz acA 96 OQ
theorem anB{J a b c}:pBt J 6 [] (acB a b c)=acC a b c:=by kernel_rfl
abbrev pBs:=zj acz acA 96 OQ
theorem anC:C (pBs 6 []) acB=Vx:=gNC (by decide) fun _=>anB
theorem ai2:au Tryz.prog (fun _=>True) 96 ⟨OQ,yh⟩:=zcc (env:=acz) (d:=6) (hs:=Ev.get acA) (av I1 (av Vn bN)) (fun J x=>Vv (C (J 6 []) acB) x.1 x.2.1) (fun _ _=>by kernel_rfl) fun _=>by rw[anC]<;>rfl
@[reducible] def aL:List Ty:=[.int .u16,.bool]
@[reducible] def Jh:Sh:=shD [.int .i64] aL
def Vy:Env:=(cts [])
def Vz:List (Nat×Hint):=[(6,⟨[],[0,9]⟩)]
def acD(b:Int)(a:Bool):St:=⟨[(0,dI b),(9,dB a)],12,[],[],0,[],0⟩
@[reducible] def aJ:Type:=As aL
def acE(b:Int)(a:Bool):Option aJ :=
 if a=true then some (0,false,()) else some (cvt .u16 b,true,())
def VA(b:Int->Bool->Option aJ)(a:Int):Option aJ :=
 if lt a (-32768)=true then b a true else b a (ge a 32768)
def VB:=acE
def VC(x:As [.int .i64]):Option aJ:=VA VB x.1
abbrev pCn:=zp Vy Vz 127 Jh
theorem anD{J x t9}:pCn J 6 [] (acD x t9)=acE x t9:=by kernel_rfl
theorem anE(J:Orc aJ)(x:As [.int .i64]):rfn Tryz.prog Vy 6 18446744073709551616 (Ev.get Vz) 127 Jh J x=VA (fun x t9=>J 6 [] (acD x t9)) x.1:=by kernel_rfl
abbrev pCm:=zj Vy Vz 127 Jh
theorem anF(x:Int)(t9:Bool):pCm 6 [] (acD x t9)=VB x t9:=gN (by decide) anD
theorem anG(x:As [.int .i64]):evT Tryz.prog Vy 6 18446744073709551616 (Ev.get Vz) 127 Jh x=VC x:=by rw[Ch,anE];simp only[anF];rfl
theorem anH:au Tryz.prog (fun _=>True) 127 ⟨Jh,VC⟩:=Cg bN anG
@[reducible] def VD:Sh:=shD [.pr (.int .i64) (.int .u8),.int .i64,.bool] aL
def acF:Env:=(cts [(52,(⟨E8,pP⟩:Ct)),(68,(⟨E9,vI⟩:Ct)),(127,(⟨Jh,VC⟩:Ct))])
def acG:List (Nat×Hint):=[(30,⟨[],[2,8,37]⟩),(6,⟨[],[1,2,3,22,35,36]⟩)]
def acH(b:Int)(c d:Bool)(a:Int×Int):St:=⟨[(1,dI b),(2,dB c),(3,.pb 0 0),(22,dB d)],47,[],[(0,.box 45 [dI a.1,d8 a.2])],1,[],0⟩
def acI(b:Bool)(a:Int)(c:Bool):St:=⟨[(2,dB b),(8,dI a),(37,dB c)],47,[],[],0,[],0⟩
def acJ(c:Bool->Int->Bool->Option aJ)(e:Int)(d f:Bool)(a:Int×Int):Option aJ :=
 if f=true then some (0,false,()) else zA (vI (Sx.sub .i64 e (cvt .i64 a.2),())) fun b=>if lt (mul .i64 a.1 b.1) (-32768)=true then c d (mul .i64 a.1 b.1) true else c d (mul .i64 a.1 b.1) (ge (mul .i64 a.1 b.1) 65536)
def acK(c:Bool)(a:Int)(d:Bool):Option aJ :=
 if d=true then some (0,false,()) else if c=true then zA (VC (a,())) fun b=>some (b.1,b.2.1,()) else if lt a 0=true then some (0,false,()) else some (cvt .u16 a,true,())
def VE(c:Int->Bool->Bool->Int×Int->Option aJ)(a:Int×Int)(b:Int)(d:Bool):Option aJ :=
 zA (pP (a,())) fun e=>if (!e.1)=true then c b d true a else if lt b (cvt .i64 a.2)=true then c b d true a else c b d (gt b 6) a
def VF:=acK
def OT:=acJ (VF)
def Fe(x:As [.pr (.int .i64) (.int .u8),.int .i64,.bool]):Option aJ:=VE OT x.1 x.2.1 x.2.2.1
abbrev pB3:=zp acF acG 97 VD
theorem anI{J a b c}:pB3 J 30 [] (acI a b c)=acK a b c:=by kernel_rfl
theorem anJ{J a b c d}:pB3 J 6 [] (acH a b c d)=acJ (C (J 30 []) acI) a b c d:=by kernel_rfl
abbrev pB2:=zj acF acG 97 VD
theorem anK:C (pB2 30 []) acI=VF:=gNC (by decide) fun _=>anI
theorem anL:C (pB2 6 []) acH=OT:=gNC (by decide) fun _=>anJ.trans (by rw[anK]<;>kernel_rfl)
theorem anM:au Tryz.prog (fun _=>True) 97 ⟨VD,Fe⟩:=zcc (env:=acF) (d:=6) (hs:=Ev.get acG) (av I1 (av Vn (av anH bN))) (fun J x=>VE (C (J 6 []) acH) x.1 x.2.1 x.2.2.1) (fun _ _=>by kernel_rfl) fun _=>by rw[anL]<;>rfl
@[reducible] def aX:List Ty:=[.int .u16,.int .i64]
@[reducible] def VG:Sh:=shD [.pr .str cu,.pr .str pO] aX
def acL:Env:=(cts [(95,(⟨Vt,yg⟩:Ct)),(96,(⟨OQ,yh⟩:Ct)),(97,(⟨VD,Fe⟩:Ct))])
def acM:List (Nat×Hint):=[(30,⟨[],[2,6,32]⟩)]
def acN(c:Bool)(a:lg)(b:Int×Int):St:=⟨[(2,.pb 0 0),(6,.pb 1 0),(32,dB c)],45,[],[(0,.box 70 [dS a.1,dI a.2.1,dI a.2.2.1,dB a.2.2.2.1,dI a.2.2.2.2.1.1,d8 a.2.2.2.2.1.2,dI a.2.2.2.2.2.1.1,d8 a.2.2.2.2.2.1.2,dS a.2.2.2.2.2.2]),(1,.box 45 [dI b.1,d8 b.2])],2,[],0⟩
def VH(d:Bool)(a:lg)(c:Int×Int):Option (As aX) :=
 if d=true then some (0,153,()) else zA (Fe (c,a.2.2.1,a.2.2.2.1,())) fun b=>if (!b.2.1)=true then some (0,153,()) else some (b.1,0,())
def VI(c:Bool->lg->Int×Int->Option (As aX))(a:lg)(d:List UInt8×(Int×Int)×List UInt8×Int):Option (As aX) :=
 zA (yg (d.2.1,d.2.2.1,a.2.2.2.2.2.2,())) fun b=>if (!b.2.1)=true then some (0,152,()) else zA (yh (b.1,a.2.2.2.2.1,())) fun e=>if lt e.1 0=true then c true a b.1 else zA (yh (b.1,a.2.2.2.2.2.1,())) fun f=>c (gt f.1 0) a b.1
def VJ:=VH
def lu(x:As [.pr .str cu,.pr .str pO]):Option (As aX):=VI VJ x.1 x.2.1
abbrev pCf:=zp acL acM 66 VG
theorem anN{J a b c}:pCf J 30 [] (acN a b c)=VH a b c:=by kernel_rfl
abbrev pCe:=zj acL acM 66 VG
theorem anO:C (pCe 30 []) acN=VJ:=gNC (by decide) fun _=>anN
theorem acO:au Tryz.prog (fun _=>True) 66 ⟨VG,lu⟩:=zcc (env:=acL) (d:=6) (hs:=Ev.get acM) (av anA (av ai2 (av anM bN))) (fun J x=>VI (C (J 30 []) acN) x.1 x.2.1) (fun _ _=>by kernel_rfl) fun _=>by rw[anO]<;>rfl
@[reducible] def acP:Sh:=shD [.str] [.bool]
def anP(s:List UInt8):Option aA :=
 zA (AA ((s,[]),())) fun y=>some (y.1,())
def Ji(x:As [.str]):Option aA:=anP x.1
theorem ai3:au Tryz.prog (fun _=>True) 145 ⟨acP,Ji⟩:=ctn (av acd bN) 6 fun J x=>by kernel_rfl
@[reducible] def ai4:Sh:=⟨[.d (.str)],[],[.str],[.d iM,.d (.bool)],[],0,[.pr .str aW,.bool]⟩
def anQ(a:List UInt8):Option (As [.pr .str aW,.bool]) :=
 some (Ev.gdV iM (if eqs [] a=true then some ([],1,1) else if eqs [37] a=true then some ([],1,1) else if eqs [109] a=true then some ([109],1,1) else if eqs [99,109] a=true then some ([109],1,100) else if eqs [109,109] a=true then some ([109],1,1000) else if eqs [115] a=true then some ([115],1,1) else if eqs [109,115] a=true then some ([115],1,1000) else if eqs [109,105,110] a=true then some ([115],60,1) else if eqs [104] a=true then some ([115],3600,1) else if eqs [98,97,114] a=true then some ([98,97,114],1,1) else if eqs [109,98,97,114] a=true then some ([98,97,114],1,1000) else if eqs [107,80,97] a=true then some ([98,97,114],1,100) else if eqs [107,103] a=true then some ([107,103],1,1) else if eqs [103] a=true then some ([107,103],1,1000) else if eqs [116] a=true then some ([107,103],1000,1) else if eqs [108] a=true then some ([108],1,1) else if eqs [109,108] a=true then some ([108],1,1000) else if eqs [67] a=true then some ([67],1,1) else zF) ([],0,0),Ev.isV iM (if eqs [] a=true then some ([],1,1) else if eqs [37] a=true then some ([],1,1) else if eqs [109] a=true then some ([109],1,1) else if eqs [99,109] a=true then some ([109],1,100) else if eqs [109,109] a=true then some ([109],1,1000) else if eqs [115] a=true then some ([115],1,1) else if eqs [109,115] a=true then some ([115],1,1000) else if eqs [109,105,110] a=true then some ([115],60,1) else if eqs [104] a=true then some ([115],3600,1) else if eqs [98,97,114] a=true then some ([98,97,114],1,1) else if eqs [109,98,97,114] a=true then some ([98,97,114],1,1000) else if eqs [107,80,97] a=true then some ([98,97,114],1,100) else if eqs [107,103] a=true then some ([107,103],1,1) else if eqs [103] a=true then some ([107,103],1,1000) else if eqs [116] a=true then some ([107,103],1000,1) else if eqs [108] a=true then some ([108],1,1) else if eqs [109,108] a=true then some ([108],1,1000) else if eqs [67] a=true then some ([67],1,1) else zF),())
def VK(x:As [.str]):Option (As [.pr .str aW,.bool]):=anQ x.1
theorem anR:au Tryz.prog (fun _=>True) 172 ⟨ai4,VK⟩:=ctn bN 6 fun J x=>by kernel_rfl
@[reducible] def VL:Sh:=shD [.pr .str cu] [.bool]
def acQ:Env:=(cts [(52,(⟨E8,pP⟩:Ct)),(96,(⟨OQ,yh⟩:Ct)),(145,(⟨acP,Ji⟩:Ct)),(172,(⟨ai4,VK⟩:Ct))])
def acR:List (Nat×Hint):=[(14,⟨[],[1,46]⟩),(6,⟨[],[1,28,34,35,36,37,40,41,42,43,44,45]⟩)]
def acS(b:Bool)(a:lg):St:=⟨[(1,.pb 0 0),(28,dB b)],54,[],[(0,.box 70 [dS a.1,dI a.2.1,dI a.2.2.1,dB a.2.2.2.1,dI a.2.2.2.2.1.1,d8 a.2.2.2.2.1.2,dI a.2.2.2.2.2.1.1,d8 a.2.2.2.2.2.1.2,dS a.2.2.2.2.2.2])],1,[],0⟩
def acT(b:Bool)(a:lg):St:=⟨[(1,.pb 0 0),(46,dB b)],54,[],[(0,.box 70 [dS a.1,dI a.2.1,dI a.2.2.1,dB a.2.2.2.1,dI a.2.2.2.2.1.1,d8 a.2.2.2.2.1.2,dI a.2.2.2.2.2.1.1,d8 a.2.2.2.2.2.1.2,dS a.2.2.2.2.2.2])],1,[],0⟩
def VM(c:Bool->lg->Option aA)(d:Bool)(a:lg):Option aA :=
 if d=true then some (false,()) else zA (pP (a.2.2.2.2.1,())) fun b=>if (!b.1)=true then c true a else zA (pP (a.2.2.2.2.2.1,())) fun b=>if (!b.1)=true then c true a else zA (yh (a.2.2.2.2.1,a.2.2.2.2.2.1,())) fun b=>c (gt b.1 0) a
def VN(b:Bool)(a:lg):Option aA :=
 if b=true then some (false,()) else zA (VK (a.2.2.2.2.2.2,())) fun c=>some (c.2.1,())
def VO(b:Bool->lg->Option aA)(a:lg):Option aA :=
 zA (Ji (a.1,())) fun c=>if (!c.1)=true then b true a else if lt a.2.1 0=true then b true a else if ge a.2.1 64=true then b true a else if lt a.2.2.1 0=true then b true a else b (gt a.2.2.1 6) a
def VP:=VN
def OU:=VM (VP)
def Fg(x:As [.pr .str cu]):Option aA:=VO OU x.1
abbrev pCl:=zp acQ acR 147 VL
theorem anS{J a b}:pCl J 14 [] (acT a b)=VN a b:=by kernel_rfl
theorem anT{J a b}:pCl J 6 [] (acS a b)=VM (C (J 14 []) acT) a b:=by kernel_rfl
abbrev pCk:=zj acQ acR 147 VL
theorem anU:C (pCk 14 []) acT=VP:=gNC (by decide) fun _=>anS
theorem anV:C (pCk 6 []) acS=OU:=gNC (by decide) fun _=>anT.trans (by rw[anU]<;>kernel_rfl)
theorem anW:au Tryz.prog (fun _=>True) 147 ⟨VL,Fg⟩:=zcc (env:=acQ) (d:=6) (hs:=Ev.get acR) (av I1 (av ai2 (av ai3 (av anR bN)))) (fun J x=>VO (C (J 6 []) acS) x.1) (fun _ _=>by kernel_rfl) fun _=>by rw[anV]<;>rfl
end Go.Proofs.Lx
end
