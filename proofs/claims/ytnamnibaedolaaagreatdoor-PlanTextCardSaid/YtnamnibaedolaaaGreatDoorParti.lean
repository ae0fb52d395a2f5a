/- Proved in the last of these 15 parts (this is part 9): PlanText. Conditions: those of the given statement, and no others. -/
import Derived.Test.YtnamnibaedolaaaGreatDoorParte
import Derived.Test.YtnamnibaedolaaaGreatDoorParth
import Derived.Test.YtnamnibaedolaaaGreatDoorProg
import Derived.Test.YtnamnibaedolaaaGreatDoorPartg
set_option linter.unusedVariables false
set_option linter.unusedSimpArgs false
set_option linter.unusedSectionVars false
open Option renaming bind → zA, bind_some → zB, none → zF
open Int renaming ofNat → zD, toNat_natCast → zM
open List renaming length → zE, mem_cons_of_mem → zO, getElem?_eq_getElem → zQ
open Go.Value renaming slice → zI
noncomputable section
open Go Go.Proofs Ev Sx
set_option maxRecDepth 100000
namespace Go.Proofs.Lx
@[reducible] def zI0:Type:=Int->List UInt8×List dw->Option aA
@[reducible] def zI1:Type:=List UInt8×List dw
def aq6(a:zI0)(c:Bool)(b:zI1):Option aA :=
 if c=true then some (false,()) else a 0 b
def aq7(d:Int->Bool->List UInt8×List dw->List UInt8×Int×List gM->Option aA)(f:zI0)(a:Int)(b:zI1):Option aA :=
 if lt a (zD (zE b.2))=true then zA (at? b.2 a) fun c=>zA (Py (c.1,())) fun e=>if (!e.1)=true then d a true b c else d a (gt (zD (zE c.2.2)) 64) b c else some (true,())
@[reducible] def zI2:Type:=Int->Int->List UInt8×List dw->List UInt8×Int×List gM->Option aA
@[reducible] def zI3:Type:=List UInt8×Int×List gM
def aq8(b:zI2)(f:zI0)(a:Int)(e:Bool)(d:zI1)(c:zI3):Option aA :=
 if e=true then some (false,()) else b a 0 d c
def aq9(f:Int->Int->Bool->List UInt8×List dw->List UInt8×Int×List gM->Option aA)(g j:zI0)(k:zI2)(d a:Int)(e:zI1)(b:zI3):Option aA :=
 if lt a (zD (zE b.2.2))=true then zA (at? b.2.2 a) fun c=>zA (Py (c.1,())) fun h=>if (!h.1)=true then f d a true e b else zA (aq3 (c.2.1,())) fun i=>if (!i.1)=true then f d a true e b else if nes c.2.2.1 []=true then zA (aq5 (c.2.2.1,())) fun c=>f d a (!c.1) e b else f d a false e b else g d e
def ara(g:zI0)(e:zI2)(a b:Int)(f:Bool)(d:zI1)(c:zI3):Option aA :=
 if f=true then some (false,()) else e a (add .i64 b 1) d c
def arb(c:zI0)(a:Int)(b:zI1):Option aA :=
 c (add .i64 a 1) b
def arc(b:Bool->List UInt8×List dw->Option aA)(a:zI1):Option aA :=
 zA (Py (a.1,())) fun c=>if (!c.1)=true then b true a else b (gt (zD (zE a.2)) 8) a
def ard(a:zI0)(b:zI2):=ara a b
def arf(a:zI0):=arb a
def arh(f:zI0)(a b:Int)(d:zI1)(c:zI3):Option aA :=
 aj (fun g e=>aq9 (ard f (fun a b d c=>g (a,b,d,c))) (arf f) f (fun a b d c=>g (a,b,d,c)) e.1 e.2.1 e.2.2.1 e.2.2.2) 18446744073709551616 (a,b,d,c)
def ari(a:zI0):=aq8 (arh a) a
def arj(a:Int)(b:zI1):Option aA :=
 aj (fun d c=>aq7 (ari (fun a b=>d (a,b))) (fun a b=>d (a,b)) c.1 c.2) 18446744073709551616 (a,b)
def ark:=aq6 (arj)
def ajO(x:As [.pr .str (.sl kK)]):Option aA:=arc ark x.1
@[reducible] def zI4:Type:=List gM->List gM->Int->Int->Option aA
def arl(g:zI4)(d e:List gM)(f a:Int):Option aA :=
 if lt a f=true then zA (at? e a) fun b=>zA (at? d a) fun c=>if eqs b.1 c.1=true then if (eqi b.2.1.1 c.2.1.1 && (eqi b.2.1.2 c.2.1.2 && true))=true then if (!eqs b.2.2.1 c.2.2.1)=true then some (false,()) else g d e f (add .i64 a 1) else some (false,()) else some (false,()) else some (true,())
def arn(c:zI4)(a b:List gM):Option aA :=
 if nei (zD (zE a)) (zD (zE b))=true then some (false,()) else c b a (zD (zE a)) 0
def aro(b c:List gM)(d e:Int):Option aA :=
 aj (fun f a=>arl (fun b c d e=>f (b,c,d,e)) a.1 a.2.1 a.2.2.1 a.2.2.2) 18446744073709551616 (b,c,d,e)
def arp(x:As [.sl Pe,.sl Pe]):Option aA:=arn aro x.1 x.2.1
@[reducible] def zI5:Type:=List dw->List dw->Int->Int->Option aA
def arq(g:zI5)(c d:List dw)(e a:Int):Option aA :=
 if lt a e=true then zA (at? d a) fun b=>zA (at? c a) fun f=>if eqs b.1 f.1=true then zA (arp (b.2.2,f.2.2,())) fun b=>if (!b.1)=true then some (false,()) else g c d e (add .i64 a 1) else some (false,()) else some (true,())
def ars(c:zI5)(a b:List dw):Option aA :=
 if nei (zD (zE a)) (zD (zE b))=true then some (false,()) else c b a (zD (zE a)) 0
def art(b c:List dw)(d e:Int):Option aA :=
 aj (fun f a=>arq (fun b c d e=>f (b,c,d,e)) a.1 a.2.1 a.2.2.1 a.2.2.2) 18446744073709551616 (b,c,d,e)
def aru(x:As [.sl kK,.sl kK]):Option aA:=ars art x.1 x.2.1
def arv(a b:zI1):Option aA :=
 if eqs a.1 b.1=true then zA (aru (a.2,b.2,())) fun y=>some (y.1,()) else some (false,())
def arw(x:As [.pr .str (.sl kK),.pr .str (.sl kK)]):Option aA:=arv x.1 x.2.1
@[reducible] def bE:List Ty:=[.int .u32,.int .u32]
@[reducible] def Pz:Sh:=shD bE bE
def Mr(x y:Int):Option (As bE) :=
 some (cvt .u32 (Sx.shr .u64 (mul .u64 (cvt .u64 x) (cvt .u64 y)) 32),cvt .u32 (mul .u64 (cvt .u64 x) (cvt .u64 y)),())
def XE(x:As bE):Option (As bE):=Mr x.1 x.2.1
theorem Ms:au Tryz.prog I0 85 ⟨Pz,XE⟩:=ctn bN 6 fun J x=>by kernel_rfl
@[reducible] def G4:Sh:=shD aI aI
def Rn(x y:Int):Option (As aI) :=
 zA (bits_Mul64 (x,y,())) fun y=>some (y.1,y.2.1,())
def bits_Mul(x:As aI):Option (As aI):=Rn x.1 x.2.1
theorem Ro:au Tryz.prog I0 59 ⟨G4,bits_Mul⟩:=ctn (av Ms (av (jN Bu) bN)) 6 fun J x=>by kernel_rfl
@[reducible] def qA:Sh:=shD [.str,.str] [.bool]
def AQ(b a:List UInt8):Option aA :=
 zA (Pj (b,a,())) fun c=>some (c.1,())
def FE(x:As [.str,.str]):Option aA:=AQ x.1 x.2.1
theorem AR:au Tryz.prog I0 60 ⟨qA,FE⟩:=ctn (av ajm bN) 6 fun J x=>by kernel_rfl
@[reducible] def iy:Sh:=shD [.str,.int .i64] [.str]
def jZ:Env:=(cts [(59,(⟨G4,bits_Mul⟩:Ct)),(60,(⟨qA,FE⟩:Ct))])
def kg:List (Nat×Hint):=[(7,⟨[],[0,1,32,33,53,54,62,63,71,72,80,81,89,90]⟩),(31,⟨[],[0,6,53,54,62,63,71,72,80,81,89,90]⟩),(255,⟨[],[0,7]⟩),(1023,⟨[],[0,7,8]⟩),(65532,⟨[],[7,8,9]⟩),(2042,⟨[],[0,7,43,53,54,62,63,71,72,80,81,89,90]⟩),(16340,⟨[],[0,7,49,62,63,71,72,80,81,89,90]⟩),(65363,⟨[],[0,7,58,71,72,80,81,89,90]⟩),(261455,⟨[],[0,7,67,80,81,89,90]⟩),(1045823,⟨[],[0,7,76,89,90]⟩),(4183295,⟨[],[0,7,85]⟩),(62,⟨[],[0,6,34,53,54,62,63,71,72,80,81,89,90]⟩)]
def ng(b:List UInt8)(a:Int):St:=⟨[(0,dS b),(1,dI a)],125,[],[],0,[],0⟩
def ni(b:List UInt8)(a:Int)(c:Bool):St:=⟨[(0,dS b),(6,.d (.int .u64) a),(34,dB c)],125,[],[],0,[],0⟩
def nk(b:List UInt8)(a:Int):St:=⟨[(0,dS b),(6,.d (.int .u64) a)],125,[],[],0,[],0⟩
def nu(b:List UInt8)(a:Int)(c:Bool):St:=⟨[(0,dS b),(7,dI a),(43,dB c)],125,[],[],0,[],0⟩
def ny(b:List UInt8)(a:Int)(c:Bool):St:=⟨[(0,dS b),(7,dI a),(49,dB c)],125,[],[],0,[],0⟩
def XF(s:List UInt8)(n:Int):St:=⟨[(0,dS s),(7,dI n)],125,[],[],0,[],0⟩
def nA(b:List UInt8)(a:Int)(c:Bool):St:=⟨[(0,dS b),(7,dI a),(58,dB c)],125,[],[],0,[],0⟩
def nC(c:List UInt8)(b a:Int):St:=⟨[(0,dS c),(7,dI b),(8,dI a)],125,[],[],0,[],0⟩
def nD(b:List UInt8)(a:Int)(c:Bool):St:=⟨[(0,dS b),(7,dI a),(67,dB c)],125,[],[],0,[],0⟩
def lG(b:List UInt8)(a:Int)(c:Bool):St:=⟨[(0,dS b),(7,dI a),(76,dB c)],125,[],[],0,[],0⟩
def lH(b:List UInt8)(a:Int)(c:Bool):St:=⟨[(0,dS b),(7,dI a),(85,dB c)],125,[],[],0,[],0⟩
@[reducible] def zI6:Type:=List UInt8->Int->Bool->Option (As [.str])
def tC(c:zI6)(b:List UInt8)(d:Int):Option (As [.str]) :=
 zA (bits_Mul (cvt .u64 (zD (zE b)),cvt .u64 d,())) fun a=>if gt a.1 0=true then c b a.2.1 true else c b a.2.1 (gt a.2.1 9223372036854775807)
@[reducible] def zI7:Type:=List UInt8->Int->Option (As [.str])
def tF(a:zI7)(c:List UInt8)(b:Int)(d:Bool):Option (As [.str]) :=
 if d=true then zF else a c b
def tH(c:zI6)(a:List UInt8)(d:Int):Option (As [.str]) :=
 if eqi (zD (zE a)) 0=true then some ([],()) else zA (at? a 0) fun b=>if eqi (zD (UInt8.toNat b)) 32=true then c a (cvt .i64 d) true else if eqi (zD (UInt8.toNat b)) 45=true then c a (cvt .i64 d) true else if eqi (zD (UInt8.toNat b)) 48=true then c a (cvt .i64 d) true else if eqi (zD (UInt8.toNat b)) 61=true then c a (cvt .i64 d) true else c a (cvt .i64 d) (eqi (zD (UInt8.toNat b)) 9)
def tJ(c:zI6)(d:zI7)(b:List UInt8)(a:Int)(e:Bool):Option (As [.str]) :=
 if e=true then if le a 128=true then zA (FE ([32,32,32,32,32,32,32,32,32,32,32,32,32,32,32,32,32,32,32,32,32,32,32,32,32,32,32,32,32,32,32,32,32,32,32,32,32,32,32,32,32,32,32,32,32,32,32,32,32,32,32,32,32,32,32,32,32,32,32,32,32,32,32,32,32,32,32,32,32,32,32,32,32,32,32,32,32,32,32,32,32,32,32,32,32,32,32,32,32,32,32,32,32,32,32,32,32,32,32,32,32,32,32,32,32,32,32,32,32,32,32,32,32,32,32,32,32,32,32,32,32,32,32,32,32,32,32,32],b,())) fun f=>c b a f.1 else c b a false else d b a
def tK(d:zI6)(b:List UInt8)(a:Int)(e:Bool):Option (As [.str]) :=
 if e=true then zA (cut [32,32,32,32,32,32,32,32,32,32,32,32,32,32,32,32,32,32,32,32,32,32,32,32,32,32,32,32,32,32,32,32,32,32,32,32,32,32,32,32,32,32,32,32,32,32,32,32,32,32,32,32,32,32,32,32,32,32,32,32,32,32,32,32,32,32,32,32,32,32,32,32,32,32,32,32,32,32,32,32,32,32,32,32,32,32,32,32,32,32,32,32,32,32,32,32,32,32,32,32,32,32,32,32,32,32,32,32,32,32,32,32,32,32,32,32,32,32,32,32,32,32,32,32,32,32,32,32] 0 a) fun c=>some (c,()) else if le a 128=true then zA (FE ([45,45,45,45,45,45,45,45,45,45,45,45,45,45,45,45,45,45,45,45,45,45,45,45,45,45,45,45,45,45,45,45,45,45,45,45,45,45,45,45,45,45,45,45,45,45,45,45,45,45,45,45,45,45,45,45,45,45,45,45,45,45,45,45,45,45,45,45,45,45,45,45,45,45,45,45,45,45,45,45,45,45,45,45,45,45,45,45,45,45,45,45,45,45,45,45,45,45,45,45,45,45,45,45,45,45,45,45,45,45,45,45,45,45,45,45,45,45,45,45,45,45,45,45,45,45,45,45],b,())) fun c=>d b a c.1 else d b a false
def tL(c:List UInt8->Int->Int->Option (As [.str]))(a:List UInt8)(b:Int):Option (As [.str]) :=
 if gt b 8192=true then need (nei (zD (zE a)) 0) (if eqi (mul .i64 (quo .i64 8192 (zD (zE a))) (zD (zE a))) 0=true then c a b (zD (zE a)) else c a b (mul .i64 (quo .i64 8192 (zD (zE a))) (zD (zE a)))) else c a b b
def tN(d:zI6)(b:List UInt8)(a:Int)(e:Bool):Option (As [.str]) :=
 if e=true then zA (cut [45,45,45,45,45,45,45,45,45,45,45,45,45,45,45,45,45,45,45,45,45,45,45,45,45,45,45,45,45,45,45,45,45,45,45,45,45,45,45,45,45,45,45,45,45,45,45,45,45,45,45,45,45,45,45,45,45,45,45,45,45,45,45,45,45,45,45,45,45,45,45,45,45,45,45,45,45,45,45,45,45,45,45,45,45,45,45,45,45,45,45,45,45,45,45,45,45,45,45,45,45,45,45,45,45,45,45,45,45,45,45,45,45,45,45,45,45,45,45,45,45,45,45,45,45,45,45,45] 0 a) fun c=>some (c,()) else if le a 64=true then zA (FE ([48,48,48,48,48,48,48,48,48,48,48,48,48,48,48,48,48,48,48,48,48,48,48,48,48,48,48,48,48,48,48,48,48,48,48,48,48,48,48,48,48,48,48,48,48,48,48,48,48,48,48,48,48,48,48,48,48,48,48,48,48,48,48,48],b,())) fun c=>d b a c.1 else d b a false
def tO(c:List UInt8)(a b:Int):Option (As [.str]) :=
 if lt a 0=true then zF else zF
def tQ(d:zI6)(b:List UInt8)(a:Int)(e:Bool):Option (As [.str]) :=
 if e=true then zA (cut [48,48,48,48,48,48,48,48,48,48,48,48,48,48,48,48,48,48,48,48,48,48,48,48,48,48,48,48,48,48,48,48,48,48,48,48,48,48,48,48,48,48,48,48,48,48,48,48,48,48,48,48,48,48,48,48,48,48,48,48,48,48,48,48] 0 a) fun c=>some (c,()) else if le a 128=true then zA (FE ([61,61,61,61,61,61,61,61,61,61,61,61,61,61,61,61,61,61,61,61,61,61,61,61,61,61,61,61,61,61,61,61,61,61,61,61,61,61,61,61,61,61,61,61,61,61,61,61,61,61,61,61,61,61,61,61,61,61,61,61,61,61,61,61,61,61,61,61,61,61,61,61,61,61,61,61,61,61,61,61,61,61,61,61,61,61,61,61,61,61,61,61,61,61,61,61,61,61,61,61,61,61,61,61,61,61,61,61,61,61,61,61,61,61,61,61,61,61,61,61,61,61,61,61,61,61,61,61],b,())) fun c=>d b a c.1 else d b a false
def rA(d:zI6)(b:List UInt8)(a:Int)(e:Bool):Option (As [.str]) :=
 if e=true then zA (cut [61,61,61,61,61,61,61,61,61,61,61,61,61,61,61,61,61,61,61,61,61,61,61,61,61,61,61,61,61,61,61,61,61,61,61,61,61,61,61,61,61,61,61,61,61,61,61,61,61,61,61,61,61,61,61,61,61,61,61,61,61,61,61,61,61,61,61,61,61,61,61,61,61,61,61,61,61,61,61,61,61,61,61,61,61,61,61,61,61,61,61,61,61,61,61,61,61,61,61,61,61,61,61,61,61,61,61,61,61,61,61,61,61,61,61,61,61,61,61,61,61,61,61,61,61,61,61,61] 0 a) fun c=>some (c,()) else if le a 64=true then zA (FE ([9,9,9,9,9,9,9,9,9,9,9,9,9,9,9,9,9,9,9,9,9,9,9,9,9,9,9,9,9,9,9,9,9,9,9,9,9,9,9,9,9,9,9,9,9,9,9,9,9,9,9,9,9,9,9,9,9,9,9,9,9,9,9,9],b,())) fun c=>d b a c.1 else d b a false
def rC(b:zI7)(c:List UInt8)(a:Int)(d:Bool):Option (As [.str]) :=
 if d=true then zA (cut [9,9,9,9,9,9,9,9,9,9,9,9,9,9,9,9,9,9,9,9,9,9,9,9,9,9,9,9,9,9,9,9,9,9,9,9,9,9,9,9,9,9,9,9,9,9,9,9,9,9,9,9,9,9,9,9,9,9,9,9,9,9,9,9] 0 a) fun e=>some (e,()) else b c a
def tT(c:zI7)(b:List UInt8)(a:Int):Option (As [.str]) :=
 if eqi a 0=true then some ([],()) else if eqi a 1=true then some (b,()) else if lt a 0=true then zF else c b a
def tV:=tO
def nE:=tL (tV)
def rD:=rC (nE)
def rE:=rA (rD)
def tX:=tQ (rE)
def tY:=tN (tX)
def tZ:=tK (tY)
def uf:=tJ (tZ) (nE)
def ug:=tH (uf)
def uh:=tF (ug)
def uj:=tC (uh)
def strings_Repeat(x:As [.str,.int .i64]):Option (As [.str]):=tT uj x.1 x.2.1
abbrev pBh:=zp jZ kg 27 iy
theorem D4{J a b c}:pBh J 1023 [] (nC a b c)=tO a b c:=by kernel_rfl
theorem D5{J a b}:pBh J 255 [] (XF a b)=tL (C (J 1023 []) nC) a b:=by kernel_rfl
theorem Cy{J a b c}:pBh J 4183295 [] (lH a b c)=rC (C (J 255 []) XF) a b c:=by kernel_rfl
theorem Cz{J a b c}:pBh J 1045823 [] (lG a b c)=rA (C (J 4183295 []) lH) a b c:=by kernel_rfl
theorem D6{J a b c}:pBh J 261455 [] (nD a b c)=tQ (C (J 1045823 []) lG) a b c:=by kernel_rfl
theorem D7{J a b c}:pBh J 65363 [] (nA a b c)=tN (C (J 261455 []) nD) a b c:=by kernel_rfl
theorem D8{J a b c}:pBh J 16340 [] (ny a b c)=tK (C (J 65363 []) nA) a b c:=by kernel_rfl
theorem D9{J a b c}:pBh J 2042 [] (nu a b c)=tJ (C (J 16340 []) ny) (C (J 255 []) XF) a b c:=by kernel_rfl
theorem Ea{J a b}:pBh J 31 [] (nk a b)=tH (C (J 2042 []) nu) a b:=by kernel_rfl
theorem Eb{J a b c}:pBh J 62 [] (ni a b c)=tF (C (J 31 []) nk) a b c:=by kernel_rfl
theorem Ec{J a b}:pBh J 7 [] (ng a b)=tC (C (J 62 []) ni) a b:=by kernel_rfl
theorem Ed(J:Orc (As [.str]))(x:As [.str,.int .i64]):rfn Tryz.prog jZ 6 18446744073709551616 (Ev.get kg) 27 iy J x=tT (C (J 7 []) ng) x.1 x.2.1:=by kernel_rfl
abbrev pBg:=zj jZ kg 27 iy
theorem Ee:C (pBg 1023 []) nC=tV:=gNC (by decide) fun _=>D4
theorem uk:C (pBg 255 []) XF=nE:=gNC (by decide) fun _=>D5.trans (by rw[Ee]<;>kernel_rfl)
theorem CB:C (pBg 4183295 []) lH=rD:=gNC (by decide) fun _=>Cy.trans (by rw[uk]<;>kernel_rfl)
theorem CF:C (pBg 1045823 []) lG=rE:=gNC (by decide) fun _=>Cz.trans (by rw[CB]<;>kernel_rfl)
theorem Ef:C (pBg 261455 []) nD=tX:=gNC (by decide) fun _=>D6.trans (by rw[CF]<;>kernel_rfl)
theorem Eg:C (pBg 65363 []) nA=tY:=gNC (by decide) fun _=>D7.trans (by rw[Ef]<;>kernel_rfl)
theorem Eh:C (pBg 16340 []) ny=tZ:=gNC (by decide) fun _=>D8.trans (by rw[Eg]<;>kernel_rfl)
theorem Ei:C (pBg 2042 []) nu=uf:=gNC (by decide) fun _=>D9.trans (by rw[Eh,uk]<;>kernel_rfl)
theorem Ej:C (pBg 31 []) nk=ug:=gNC (by decide) fun _=>Ea.trans (by rw[Ei]<;>kernel_rfl)
theorem Em:C (pBg 62 []) ni=uh:=gNC (by decide) fun _=>Eb.trans (by rw[Ej]<;>kernel_rfl)
theorem En:C (pBg 7 []) ng=uj:=gNC (by decide) fun _=>Ec.trans (by rw[Em]<;>kernel_rfl)
theorem FH(x:As [.str,.int .i64]):evT Tryz.prog jZ 6 18446744073709551616 (Ev.get kg) 27 iy x=strings_Repeat x:=by rw[Ch,Ed,En]<;>rfl
theorem Eo:au Tryz.prog I0 27 ⟨iy,strings_Repeat⟩:=Cg (av Ro (av AR bN)) FH
@[reducible] def qB:Sh:=shD aZ [.str]
def AU(b a:Int):Option (As [.str]) :=
 zA (Wx (b,a,())) fun c=>some (c.1,())
def PD(x:As aZ):Option (As [.str]):=AU x.1 x.2.1
theorem AV:au Tryz.prog I0 69 ⟨qB,PD⟩:=ctn (av ze bN) 6 fun J x=>by kernel_rfl
@[reducible] def XG:Sh:=shD aU [.str]
def aes:Env:=(cts [(27,(⟨iy,strings_Repeat⟩:Ct)),(52,(⟨E8,pP⟩:Ct)),(68,(⟨E9,vI⟩:Ct)),(69,(⟨qB,PD⟩:Ct))])
def aet:List (Nat×Hint):=[(15,⟨[],[1,3,4]⟩)]
def aeu(b:Int)(c:List UInt8)(a:Int×Int):St:=⟨[(1,.pb 0 0),(3,dI b),(4,dS c)],47,[],[(0,.box 45 [dI a.1,d8 a.2])],1,[],0⟩
def aev(f:Int)(b:List UInt8)(d:Int×Int):Option (As [.str]) :=
 zA (vI (cvt .i64 d.2,())) fun a=>need (nei a.1 0) (zA (PD (quo .i64 f a.1,10,())) fun c=>need (small (zE b+zE c.1)) (if eqi d.2 0=true then some (b++c.1,()) else need (nei a.1 0) (zA (PD (rem f a.1,10,())) fun a=>need (small (zE (b++c.1)+1)) (zA (strings_Repeat ([48],Sx.sub .i64 (cvt .i64 d.2) (zD (zE a.1)),())) fun e=>need (small (zE (b++c.1++[46])+zE e.1)) (need (small (zE (b++c.1++[46]++e.1)+zE a.1)) (some (b++c.1++[46]++e.1++a.1,())))))))
def XH(b:Int->List UInt8->Int×Int->Option (As [.str]))(a:Int×Int):Option (As [.str]) :=
 zA (pP (a,())) fun c=>if (!c.1)=true then some ([],()) else if lt a.1 0=true then b (Sx.neg .i64 a.1) [45] a else b a.1 [] a
def PE:=aev
def JV(x:As aU):Option (As [.str]):=XH PE x.1
abbrev pBx:=zp aes aet 37 XG
theorem arx{J a b c}:pBx J 15 [] (aeu a b c)=aev a b c:=by kernel_rfl
abbrev pBw:=zj aes aet 37 XG
theorem ary:C (pBw 15 []) aeu=PE:=gNC (by decide) fun _=>arx
theorem arz:au Tryz.prog I0 37 ⟨XG,JV⟩:=zcc (env:=aes) (d:=6) (hs:=Ev.get aet) (av Eo (av (jN I1) (av (jN Vn) (av AV bN)))) (fun J x=>XH (C (J 15 []) aeu) x.1) (fun _ _=>by kernel_rfl) fun _=>by rw[ary]<;>rfl
@[reducible] def XI:Sh:=shD [.pr .str (.sl kK)] [.str,.bool]
def aew:Env:=(cts [(21,(⟨OM,AA⟩:Ct)),(25,(⟨zf,strings_Join⟩:Ct)),(37,(⟨XG,JV⟩:Ct))])
def aex:List (Nat×Hint):=[(63,⟨[],[4]⟩),(506,⟨[],[4,5,21,22,23]⟩),(64819,⟨[],[4,5,21,22,23]⟩),(518554,⟨[],[4,5,21,22,23,33,34,35]⟩),(66374963,⟨[],[4,5,10,21,22,23,33,34,35]⟩)]
def yB(b:List dw)(c d:Int)(a:List Int):St:=⟨[(4,.pb 0 0),(5,.fn (.func 34) [] [.pb 0 0]),(21,.d (.sl kK) b),(22,dI c),(23,dI d)],63,[],[(0,.box 87 [.pb 0 0,.row 1]),(1,.row (.int .u8) 5 a)],2,[],0⟩
def JX(b:List dw)(c d:Int)(e:List gM)(f g:Int)(a:List Int):St:=⟨[(4,.pb 0 0),(5,.fn (.func 34) [] [.pb 0 0]),(21,.d (.sl kK) b),(22,dI c),(23,dI d),(33,.d (.sl Pe) e),(34,dI f),(35,dI g)],63,[],[(0,.box 87 [.pb 0 0,.row 1]),(1,.row (.int .u8) 5 a)],2,[],0⟩
def aey(o:List Int):St:=⟨[(4,.pb 0 0)],63,[],[(0,.box 87 [.pb 0 0,.row 1]),(1,.row (.int .u8) 5 o)],2,[],0⟩
def aez(b:List dw)(c d:Int)(e:List gM)(f g:Int)(a:List Int)(h:List (List UInt8)):St:=⟨[(4,.pb 0 0),(5,.fn (.func 34) [] [.pb 0 0]),(10,.row 2),(21,.d (.sl kK) b),(22,dI c),(23,dI d),(33,.d (.sl Pe) e),(34,dI f),(35,dI g)],63,[],[(0,.box 87 [.pb 0 0,.row 1]),(1,.row (.int .u8) 5 a),(2,.row .str 9 h)],3,[],0⟩
def aeA(b:List dw)(c d:Int)(a:List Int):St:=⟨[(4,.pb 0 0),(5,.fn (.func 34) [] [.pb 0 0]),(21,.d (.sl kK) b),(22,dI c),(23,dI d)],63,[],[(0,.box 87 [.pb 0 0,.row 1]),(1,.row (.int .u8) 5 a)],2,[],0⟩
@[reducible] def zI8:Type:=List dw->Int->Int->List gM->Int->Int->List Int->Option (As [.str,.bool])
@[reducible] def zI9:Type:=List dw->Int->Int->List Int->Option (As [.str,.bool])
def JY(h:zI8)(i:List Int->Option (As [.str,.bool]))(j:zI9)(f:List dw)(g c:Int)(a:List Int):Option (As [.str,.bool]) :=
 if lt c g=true then zA (at? f c) fun d=>zA (strings_Join ([[115,108,97,118,101],d.1],[32],())) fun e=>need (small (zE a+zE e.1)) (need (small (zE (a++List.map (fun (b:UInt8)=>zD (UInt8.toNat b)) e.1)+1)) (h f g c d.2.2 (zD (zE d.2.2)) 0 (a++List.map (fun (b:UInt8)=>zD (UInt8.toNat b)) e.1++[10]))) else i a
def JZ(i:List dw->Int->Int->List gM->Int->Int->List Int->List (List UInt8)->Option (As [.str,.bool]))(k l:zI9)(m:zI8)(d:List dw)(e f:Int)(g:List gM)(h b:Int)(c:List Int):Option (As [.str,.bool]) :=
 if lt b h=true then zA (at? g b) fun a=>need (small (2+zE a.1)) (zA (JV (a.2.1,())) fun j=>if nes a.2.2.1 []=true then need (small (Nat.succ (Nat.succ (Nat.succ 0))+Nat.succ 0)) (i d e f g h b c [32::32::a.1,[61],j.1,a.2.2.1]) else i d e f g h b c [32::32::a.1,[61],j.1]) else k d e f c
def aeB(o:List Int):Option (As [.str,.bool]) :=
 need (eqi (zD (zE o)) (zD (zE o))) (need (small (zE o)) (need (Ev.u8s o) (some (Sx.toS o,true,()))))
def aeC(l:zI9)(d:zI8)(e:List dw)(f g:Int)(h:List gM)(i j:Int)(a:List Int)(k:List (List UInt8)):Option (As [.str,.bool]) :=
 zA (strings_Join (k,[32],())) fun c=>need (small (zE a+zE c.1)) (need (small (zE (a++List.map (fun (b:UInt8)=>zD (UInt8.toNat b)) c.1)+1)) (d e f g h i (add .i64 j 1) (a++List.map (fun (b:UInt8)=>zD (UInt8.toNat b)) c.1++[10])))
def aeD(d:zI9)(e:List dw)(f g:Int)(a:List Int):Option (As [.str,.bool]) :=
 zA (strings_Join ([[101,110,100]],[32],())) fun c=>need (small (zE a+zE c.1)) (need (small (zE (a++List.map (fun (b:UInt8)=>zD (UInt8.toNat b)) c.1)+1)) (d e f (add .i64 g 1) (a++List.map (fun (b:UInt8)=>zD (UInt8.toNat b)) c.1++[10])))
def J2(d:zI9)(c:zI1):Option (As [.str,.bool]) :=
 zA (AA (c,())) fun a=>if (!a.1)=true then some ([],false,()) else zA (strings_Join ([[114,101,99,105,112,101],c.1],[32],())) fun a=>need (small (0+zE a.1)) (need (small (zE (List.map (fun (b:UInt8)=>zD (UInt8.toNat b)) a.1)+1)) (d c.2 (zD (zE c.2)) 0 (List.map (fun (b:UInt8)=>zD (UInt8.toNat b)) a.1++[10])))
def PG(a:zI9)(b:zI8):=aeC a b
def XJ(a:zI9):=aeD a
def FI(i:zI9)(c:List dw)(d e:Int)(f:List gM)(g h:Int)(b:List Int):Option (As [.str,.bool]) :=
 aj (fun j a=>JZ (PG i (fun c d e f g h b=>j (c,d,e,f,g,h,b))) (XJ i) i (fun c d e f g h b=>j (c,d,e,f,g,h,b)) a.1 a.2.1 a.2.2.1 a.2.2.2.1 a.2.2.2.2.1 a.2.2.2.2.2.1 a.2.2.2.2.2.2) 18446744073709551616 (c,d,e,f,g,h,b)
def XK:=aeB
def FJ(b:List dw)(c d:Int)(a:List Int):Option (As [.str,.bool]) :=
 aj (fun f e=>JY (FI (fun b c d a=>f (b,c,d,a))) (XK) (fun b c d a=>f (b,c,d,a)) e.1 e.2.1 e.2.2.1 e.2.2.2) 18446744073709551616 (b,c,d,a)
def FK(x:As [.pr .str (.sl kK)]):Option (As [.str,.bool]):=J2 FJ x.1
abbrev pA9:=zp aew aex 12 XI
theorem arA{J w1 w2 a b c d e f g h}:pA9 J 66374963 [w1,w2] (aez a b c d e f g h)=aeC (C w1 yB) (C w2 JX) a b c d e f g h:=by kernel_rfl
theorem arB{J w1 a b c d}:pA9 J 64819 [w1] (aeA a b c d)=aeD (C w1 yB) a b c d:=by kernel_rfl
theorem arC{J w1 w2 a b c d e f g}:pA9 J 518554 [w1,w2] (JX a b c d e f g)=JZ (C (J 66374963 [w1,w2]) aez) (C (J 64819 [w1]) aeA) (C w1 yB) (C w2 JX) a b c d e f g:=by kernel_rfl
theorem arD{J a}:pA9 J 63 [] (aey a)=aeB a:=by kernel_rfl
theorem arE{J w1 a b c d}:pA9 J 506 [w1] (yB a b c d)=JY (C (J 518554 [w1]) JX) (C (J 63 []) aey) (C w1 yB) a b c d:=by kernel_rfl
abbrev pA8:=zj aew aex 12 XI
theorem arF{w1 w2}:C (pA8 66374963 [w1,w2]) aez=PG (C w1 yB) (C w2 JX):=gNC (by decide) fun _=>arA
theorem arG{w1}:C (pA8 64819 [w1]) aeA=XJ (C w1 yB):=gNC (by decide) fun _=>arB
theorem arH{w1}:C (pA8 518554 [w1]) JX=FI (C w1 yB):=gLC (by decide) (by kernel_rfl) (fun _=>by unfold FI;rfl) fun _ _=>arC.trans (by rw[arF,arG]<;>kernel_rfl)
theorem arI:C (pA8 63 []) aey=XK:=gNC (by decide) fun _=>arD
theorem arJ:C (pA8 506 []) yB=FJ:=gLC (by decide) (by kernel_rfl) (fun _=>by unfold FJ;rfl) fun _ _=>arE.trans (by rw[arH,arI]<;>kernel_rfl)
theorem arK:au Tryz.prog I0 12 ⟨XI,FK⟩:=zcc (env:=aew) (d:=6) (hs:=Ev.get aex) (av (jN acd) (av GZ (av arz bN))) (fun J x=>J2 (C (J 506 []) yB) x.1) (fun _ _=>by kernel_rfl) fun _=>by rw[arJ]<;>rfl
@[reducible] def ajP:Type:=List UInt8->List UInt8->Int×Int->Option (As [.str])
def ajQ(d:ajP)(e:Int)(a:List UInt8)(c:Int×Int):Option (As [.str]) :=
 zA (ajg (e,())) fun b=>if eqi c.2 0=true then need (small (zE a+zE b.1)) (some (a++b.1,())) else d a b.1 c
def PI(d e:ajP)(c a:List UInt8)(b:Int×Int):Option (As [.str]) :=
 if le (zD (zE a)) (cvt .i64 b.2)=true then need (small (1+zE a)) (e c (48::a) b) else d c a b
def ajR(b a:List UInt8)(d:Int×Int):Option (As [.str]) :=
 zA (cut a 0 (Sx.sub .i64 (zD (zE a)) (cvt .i64 d.2))) fun c=>need (small (zE b+zE c)) (need (small (zE (b++c)+1)) (zA (cut a (Sx.sub .i64 (zD (zE a)) (cvt .i64 d.2)) (zD (zE a))) fun e=>need (small (zE (b++c++[46])+zE e)) (some (b++c++[46]++e,()))))
def XL(b:Int->List UInt8->Int×Int->Option (As [.str]))(a:Int×Int):Option (As [.str]) :=
 if lt a.1 0=true then b (Sx.neg .i64 a.1) [45] a else b a.1 [] a
def J3:=ajR
def ajS(c a:List UInt8)(b:Int×Int):Option (As [.str]) :=
 aj (fun d a=>PI (J3) (fun c a b=>d (c,a,b)) a.1 a.2.1 a.2.2) 18446744073709551616 (c,a,b)
def PK:=ajQ (ajS)
def aeE(x:As aU):Option (As [.str]):=XL PK x.1
@[reducible] def PL:Type:=List UInt8->Int->Int->List UInt8×List dw->List UInt8×Int×List gM->Option (As [.str])
@[reducible] def yC:Type:=List UInt8->Int->List UInt8×List dw->Option (As [.str])
def arL(e:PL)(f:yC)(a:List UInt8)(c:Int)(d:zI1):Option (As [.str]) :=
 if lt c (zD (zE d.2))=true then zA (at? d.2 c) fun b=>need (small (zE a+6)) (need (small (zE (a++[115,108,97,118,101,32])+zE b.1)) (need (small (zE (a++[115,108,97,118,101,32]++b.1)+1)) (e (a++[115,108,97,118,101,32]++b.1++[10]) c 0 d b))) else some (a,())
def arM(h:PL)(i j:yC)(k:PL)(b:List UInt8)(f d:Int)(g:zI1)(e:zI3):Option (As [.str]) :=
 if lt d (zD (zE e.2.2))=true then zA (at? e.2.2 d) fun a=>need (small (zE b+2)) (need (small (zE (b++[32,32])+zE a.1)) (need (small (zE (b++[32,32]++a.1)+3)) (zA (aeE (a.2.1,())) fun c=>need (small (zE (b++[32,32]++a.1++[32,61,32])+zE c.1)) (if nes a.2.2.1 []=true then need (small (zE (b++[32,32]++a.1++[32,61,32]++c.1)+1)) (need (small (zE (b++[32,32]++a.1++[32,61,32]++c.1++[32])+zE a.2.2.1)) (h (b++[32,32]++a.1++[32,61,32]++c.1++[32]++a.2.2.1) f d g e)) else h (b++[32,32]++a.1++[32,61,32]++c.1) f d g e)))) else i b f g
def arN(g:yC)(f:PL)(a:List UInt8)(b c:Int)(e:zI1)(d:zI3):Option (As [.str]) :=
 need (small (zE a+1)) (f (a++[10]) b (add .i64 c 1) e d)
def arO(c e:yC)(a:List UInt8)(b:Int)(d:zI1):Option (As [.str]) :=
 need (small (zE a+4)) (c (a++[101,110,100,10]) b d)
def arP(d:yC)(c:List UInt8)(a:Int)(b:zI1):Option (As [.str]) :=
 d c (add .i64 a 1) b
def arQ(b:yC)(a:zI1):Option (As [.str]) :=
 need (small (7+zE a.1)) (need (small (Nat.succ (Nat.succ (Nat.succ (Nat.succ (Nat.succ (Nat.succ (Nat.succ (zE a.1)))))))+1)) (b (114::101::99::105::112::101::32::(a.1++[10])) 0 a))
def arR(a:yC)(b:PL):=arN a b
def arS(a:yC):=arP a
def arT(a:yC):=arO (arS a) a
def arU(f:yC)(a:List UInt8)(b c:Int)(e:zI1)(d:zI3):Option (As [.str]) :=
 aj (fun g a=>arM (arR f (fun a b c e d=>g (a,b,c,e,d))) (arT f) f (fun a b c e d=>g (a,b,c,e,d)) a.1 a.2.1 a.2.2.1 a.2.2.2.1 a.2.2.2.2) 18446744073709551616 (a,b,c,e,d)
def arV(a:List UInt8)(b:Int)(c:zI1):Option (As [.str]) :=
 aj (fun d a=>arL (arU (fun a b c=>d (a,b,c))) (fun a b c=>d (a,b,c)) a.1 a.2.1 a.2.2) 18446744073709551616 (a,b,c)
def arW(x:As [.pr .str (.sl kK)]):Option (As [.str]):=arQ arV x.1
@[reducible] def p9:Type:=Int->List UInt8×List dw->List UInt8×List dw->Option aA
@[reducible] def ajT:Sh:=shD [.pr .str (.sl kK),.pr .str (.sl kK)] [.bool]
def arX(c:p9)(d:Bool)(a b:zI1):Option aA :=
 if d=true then some (false,()) else c 0 a b
def arY(d:Int->List UInt8×List dw->List UInt8×List dw->List UInt8×Int×List gM->List UInt8×Int×List gM->Option aA)(g:p9)(a:Int)(b c:zI1):Option aA :=
 if lt a (zD (zE b.2))=true then zA (at? b.2 a) fun e=>zA (at? c.2 a) fun f=>amb (iw ajT.rs) [d a b c e f,d a b c e f] else some (true,())
def arZ(f:Int->Bool->List UInt8×List dw->List UInt8×List dw->List UInt8×Int×List gM->List UInt8×Int×List gM->Option aA)(g:p9)(e:Int)(c d:zI1)(a b:zI3):Option aA :=
 if nes a.1 b.1=true then f e true c d a b else f e (nei (zD (zE a.2.2)) (zD (zE b.2.2))) c d a b
@[reducible] def J4:Type:=Int->Int->List UInt8×List dw->List UInt8×List dw->List UInt8×Int×List gM->List UInt8×Int×List gM->Option aA
def ar0(d:J4)(h:p9)(c:Int)(g:Bool)(a b:zI1)(e f:zI3):Option aA :=
 if g=true then some (false,()) else d c 0 a b e f
def ar1(g:Int->Int->List UInt8×List dw->List UInt8×List dw->List UInt8×Int×List gM->List UInt8×Int×List gM->List UInt8×(Int×Int)×List UInt8×Int->List UInt8×(Int×Int)×List UInt8×Int->Option aA)(j k:p9)(l:J4)(e a:Int)(c d:zI1)(b f:zI3):Option aA :=
 if lt a (zD (zE b.2.2))=true then zA (at? b.2.2 a) fun h=>zA (at? f.2.2 a) fun i=>amb (iw ajT.rs) [g e a c d b f h i,g e a c d b f h i] else j e c d
def ar2(f:Int->Int->Bool->List UInt8×List dw->List UInt8×List dw->List UInt8×Int×List gM->List UInt8×Int×List gM->Option aA)(j:p9)(k:J4)(e g:Int)(c d:zI1)(h i:zI3)(a b:List UInt8×(Int×Int)×List UInt8×Int):Option aA :=
 if nes a.1 b.1=true then f e g true c d h i else if (!(eqi a.2.1.1 b.2.1.1 && (eqi a.2.1.2 b.2.1.2 && true)))=true then f e g true c d h i else f e g (nes a.2.2.1 b.2.2.1) c d h i
def ar3(d:p9)(c:Int)(a b:zI1):Option aA :=
 d (add .i64 c 1) a b
def ar4(i:p9)(g:J4)(c d:Int)(h:Bool)(a b:zI1)(e f:zI3):Option aA :=
 if h=true then some (false,()) else g c (add .i64 d 1) a b e f
def ar5(c:Bool->List UInt8×List dw->List UInt8×List dw->Option aA)(a b:zI1):Option aA :=
 if nes a.1 b.1=true then c true a b else c (nei (zD (zE a.2)) (zD (zE b.2))) a b
def ar6(a:p9)(b:J4):=ar4 a b
def ar7(a:p9)(b:J4):=ar2 (ar6 a b) a b
def ar8(a:p9):=ar3 a
def ar9(h:p9)(d e:Int)(b c:zI1)(f g:zI3):Option aA :=
 aj (fun i a=>ar1 (ar7 h (fun d e b c f g=>i (d,e,b,c,f,g))) (ar8 h) h (fun d e b c f g=>i (d,e,b,c,f,g)) a.1 a.2.1 a.2.2.1 a.2.2.2.1 a.2.2.2.2.1 a.2.2.2.2.2) 18446744073709551616 (d,e,b,c,f,g)
def asa(a:p9):=ar0 (ar9 a) a
def asb(a:p9):=arZ (asa a) a
def ase(c:Int)(a b:zI1):Option aA :=
 aj (fun e d=>arY (asb (fun c a b=>e (c,a,b))) (fun c a b=>e (c,a,b)) d.1 d.2.1 d.2.2) 18446744073709551616 (c,a,b)
def asf:=arX (ase)
def ajU(x:As [.pr .str (.sl kK),.pr .str (.sl kK)]):Option aA:=ar5 asf x.1 x.2.1
def ash(b:List bL)(c:List UInt8):Option aA :=
 if eqi (zD (zE b)) 2=true then zA (at? b 0) fun a=>if eqi a.1 1=true then zA (at? b 0) fun a=>if eqs a.2.1 c=true then zA (at? b 1) fun a=>if eqi a.1 1=true then zA (at? b 1) fun a=>zA (Py (a.2.1,())) fun a=>some (a.1,()) else some (false,()) else some (false,()) else some (false,()) else some (false,())
def ajV(x:As [.sl bu,.str]):Option aA:=ash x.1 x.2.1
@[reducible] def XM:Type:=List bL->Int->Int->List (List bL)->Option (As [.sl (.sl bu)])
def asi(f g:XM)(b:List bL)(e a:Int)(c:List (List bL)):Option (As [.sl (.sl bu)]) :=
 if lt a (zD (zE b))=true then zA (at? b a) fun d=>if eqi d.1 4=true then zA (cut b e a) fun d=>need (small (zE c+Nat.succ 0)) (f b (add .i64 a 1) a (c++[d])) else f b e a c else some (c,())
def asj(e:XM)(c:List bL)(a b:Int)(d:List (List bL)):Option (As [.sl (.sl bu)]) :=
 e c a (add .i64 b 1) d
def asl(a:XM)(b:List bL):Option (As [.sl (.sl bu)]) :=
 a b 0 0 []
def asn(a:XM):=asj a
def aso(c:List bL)(a b:Int)(d:List (List bL)):Option (As [.sl (.sl bu)]) :=
 aj (fun f e=>asi (asn (fun c a b d=>f (c,a,b,d))) (fun c a b d=>f (c,a,b,d)) e.1 e.2.1 e.2.2.1 e.2.2.2) 18446744073709551616 (c,a,b,d)
def asq(x:As [.sl bu]):Option (As [.sl (.sl bu)]):=asl aso x.1
end Go.Proofs.Lx
end
noncomputable section
open Go Go.Proofs Ev Sx
set_option maxRecDepth 100000
namespace Go.Proofs.Lx
@[reducible] def ajW:Type:=Int->Int->Int->Int->Int->List UInt8×List dw->List UInt8×List dw->Option aA
@[reducible] def XN:Type:=Int->Int->List UInt8×List dw->List UInt8×List dw->Option aA
def asr(f:ajW)(h:XN)(e a:Int)(b d:zI1):Option aA :=
 if lt a e=true then zA (at? b.2 a) fun c=>zA (at? d.2 a) fun g=>if nei c.2.1 g.2.1=true then some (false,()) else zA (at? b.2 a) fun c=>f a e a (zD (zE c.2.2)) 0 b d else some (true,())
def ast(i:XN)(j:ajW)(d f g h a:Int)(b c:zI1):Option aA :=
 if lt a h=true then zA (at? b.2 d) fun e=>zA (at? e.2.2 a) fun e=>zA (at? c.2 d) fun k=>zA (at? k.2.2 a) fun l=>if nei e.2.2.2 l.2.2.2=true then some (false,()) else j d f g h (add .i64 a 1) b c else i f (add .i64 g 1) b c
def asu(c:XN)(a b:zI1):Option aA :=
 zA (ajU (a,b,())) fun d=>if (!d.1)=true then some (false,()) else c (zD (zE a.2)) 0 a b
def asv(j:XN)(d e f g h:Int)(b c:zI1):Option aA :=
 aj (fun i a=>ast j (fun d e f g h b c=>i (d,e,f,g,h,b,c)) a.1 a.2.1 a.2.2.1 a.2.2.2.1 a.2.2.2.2.1 a.2.2.2.2.2.1 a.2.2.2.2.2.2) 18446744073709551616 (d,e,f,g,h,b,c)
def asw(c d:Int)(a b:zI1):Option aA :=
 aj (fun f e=>asr (asv (fun c d a b=>f (c,d,a,b))) (fun c d a b=>f (c,d,a,b)) e.1 e.2.1 e.2.2.1 e.2.2.2) 18446744073709551616 (c,d,a,b)
def ajX(x:As [.pr .str (.sl kK),.pr .str (.sl kK)]):Option aA:=asu asw x.1 x.2.1
@[reducible] def ajY:Sh:=shD [.sl bu,.str] [.bool]
def aeF(b:List bL)(c:List UInt8):Option aA :=
 if eqi (zD (zE b)) 2=true then zA (at? b 0) fun a=>if eqi a.1 1=true then zA (at? b 0) fun a=>if eqs a.2.1 c=true then zA (at? b 1) fun a=>if eqi a.1 1=true then zA (at? b 1) fun a=>zA (mZ (a.2.1,())) fun a=>some (a.1,()) else some (false,()) else some (false,()) else some (false,()) else some (false,())
def PN(x:As [.sl bu,.str]):Option aA:=aeF x.1 x.2.1
theorem asx:au Tryz.prog I0 73 ⟨ajY,PN⟩:=ctn (av (jN ab0) bN) 6 fun J x=>by kernel_rfl
end Go.Proofs.Lx
end
noncomputable section
open Go Go.Proofs Ev Sx
set_option maxRecDepth 100000
namespace Go.Proofs.Lx
abbrev aeG:Ty:=(.pr .str (.pr aF (.pr .str (.int .i64))))
abbrev gD:Ty:=(.pr .str (.pr (.int .i64) (.sl aeG)))
abbrev eB:Type:=(List UInt8×(Int×Int)×List UInt8×Int)
abbrev iH:Type:=(Int×List UInt8×(Int×Int)×Int)
abbrev ajZ:Ty:=(.sl (.pr (.int .u8) (.pr .str (.pr aF (.int .i64)))))
abbrev auS:Type:=Int×List UInt8×(Int×Int)×Int
@[reducible] def XO:Sh:=shD [.str] [.pr .str (.sl gD),.pr (.int .i64) (.int .i64)]
def aeH:Env:=(cts [(3000024,Ev.UY),(39,(⟨Xx,XB⟩:Ct)),(51,(⟨OE,mZ⟩:Ct)),(73,(⟨ajY,PN⟩:Ct))])
def aeI:List (Nat×Hint):=[(127,⟨[],[2,3,7]⟩),(1018,⟨[.rwb 7 2 43,.opc 7 2 [(2,47)]],[2,3,4,6,7,8,23,24,25]⟩)]
@[reducible] def sO:Type:=List (List UInt8×Int×List eB)
def XP(n:List iH)(b:Int)(k:List iH)(l m:Int)(j:List UInt8)(a:Int×Int)(h:Int)(i:List UInt8)(g:Bool)(c:sO)(e:List UInt8)(f:Int)(d:List eB):St:=⟨[(2,.pb 0 0),(3,.pb 1 0),(4,.d ajZ n),(6,.pb 2 0),(7,.pb 3 0),(8,dI b),(23,.d ajZ k),(24,dI l),(25,dI m)],60,[],[(0,.box 26 [dS j,.k (zI zF 0 0)]),(1,.box 33 [dI a.1,dI a.2]),(2,.box 102 [.fn (.func 40) [] [],.fn (.func 41) [] [],.fn (.func 42) [] []]),(3,.box 104 [dI h,dS i,.row 4]),(4,.rowo gD 43 g c [dS e,dI f,.row 5]),(5,.row aeG 47 d)],6,[],0⟩
def aeJ(i:List UInt8)(a:Int×Int)(g:Int)(h:List UInt8)(f:Bool)(b:sO)(d:List UInt8)(e:Int)(c:List eB):St:=⟨[(2,.pb 0 0),(3,.pb 1 0),(7,.pb 2 0)],60,[],[(0,.box 26 [dS i,.k (zI zF 0 0)]),(1,.box 33 [dI a.1,dI a.2]),(2,.box 104 [dI g,dS h,.row 3]),(3,.rowo gD 43 f b [dS d,dI e,.row 4]),(4,.row aeG 47 c)],5,[],0⟩
@[reducible] def aj0:Type:=List iH->Int->List iH->Int->Int->List UInt8->Int×Int->Int->List UInt8->Bool->List (List UInt8×Int×List eB)->List UInt8->Int->List eB->Option (As [.pr .str (.sl gD),.pr (.int .i64) (.int .i64)])
def zh(ad:List UInt8->Int×Int->Int->List UInt8->Bool->List (List UInt8×Int×List eB)->List UInt8->Int->List eB->Option (As [.pr .str (.sl gD),.pr (.int .i64) (.int .i64)]))(q:aj0)(g:List iH)(ab:Int)(l:List iH)(m f:Int)(k:List UInt8)(n:Int×Int)(j:Int)(p:List UInt8)(b:Bool)(a:sO)(h:List UInt8)(i:Int)(e:List eB):Option (As [.pr .str (.sl gD),.pr (.int .i64) (.int .i64)]) :=
 if lt f m=true then zA (at? l f) fun d=>if nei d.1 4=true then q g ab l m (add .i64 f 1) k n j p b a h i e else if eqi j 2=true then zA (cut g ab f) fun c=>if eqi (zD (zE c)) 1=true then zA (at? c 0) fun z=>if eqi z.1 1=true then zA (at? c 0) fun v=>if eqs v.2.1 [101,110,100]=true then q g (add .i64 f 1) l m (add .i64 f 1) k n 1 p b a h i e else if nei (zD (zE c)) 3=true then if nei (zD (zE c)) 4=true then some (([],[]),(140,d.2.2.2),()) else zA (at? c 0) fun w=>if nei w.1 1=true then some (([],[]),(140,d.2.2.2),()) else zA (at? c 0) fun x=>zA (mZ (x.2.1,())) fun y=>if (!y.1)=true then some (([],[]),(140,d.2.2.2),()) else zA (at? c 1) fun u=>if nei u.1 3=true then some (([],[]),(140,d.2.2.2),()) else zA (at? c 2) fun s=>if nei s.1 2=true then some (([],[]),(140,d.2.2.2),()) else zA (at? c 0) fun o=>zA (at? c 2) fun r=>zA (at? c 0) fun t=>if eqi (zD (zE c)) 4=true then zA (at? c 3) fun aa=>if nei aa.1 1=true then some (([],[]),(140,d.2.2.2),()) else zA (at? c 3) fun ac=>need b (need (eqi (Sx.sub .i64 (if b=true then zD (zE a+1) else zD (zE a)) 1) (zD (zE a))) (need b (need (eqi (Sx.sub .i64 (if b=true then zD (zE a+1) else zD (zE a)) 1) (zD (zE a))) (if eqi (zD (zE e)) 64=true then some (([],[]),(130,d.2.2.2),()) else need b (need (eqi (Sx.sub .i64 (if b=true then zD (zE a+1) else zD (zE a)) 1) (zD (zE a))) (need (small (zE e+Nat.succ 0)) (need b (need (eqi (Sx.sub .i64 (if b=true then zD (zE a+1) else zD (zE a)) 1) (zD (zE a))) (q g (add .i64 f 1) l m (add .i64 f 1) k n j p true a h i (e++[(o.2.1,r.2.2.1,ac.2.1,t.2.2.2)])))))))))) else need b (need (eqi (Sx.sub .i64 (if b=true then zD (zE a+1) else zD (zE a)) 1) (zD (zE a))) (need b (need (eqi (Sx.sub .i64 (if b=true then zD (zE a+1) else zD (zE a)) 1) (zD (zE a))) (if eqi (zD (zE e)) 64=true then some (([],[]),(130,d.2.2.2),()) else need b (need (eqi (Sx.sub .i64 (if b=true then zD (zE a+1) else zD (zE a)) 1) (zD (zE a))) (need (small (zE e+Nat.succ 0)) (need b (need (eqi (Sx.sub .i64 (if b=true then zD (zE a+1) else zD (zE a)) 1) (zD (zE a))) (q g (add .i64 f 1) l m (add .i64 f 1) k n j p true a h i (e++[(o.2.1,r.2.2.1,[],t.2.2.2)])))))))))) else zA (at? c 0) fun w=>if nei w.1 1=true then some (([],[]),(140,d.2.2.2),()) else zA (at? c 0) fun x=>zA (mZ (x.2.1,())) fun y=>if (!y.1)=true then some (([],[]),(140,d.2.2.2),()) else zA (at? c 1) fun u=>if nei u.1 3=true then some (([],[]),(140,d.2.2.2),()) else zA (at? c 2) fun s=>if nei s.1 2=true then some (([],[]),(140,d.2.2.2),()) else zA (at? c 0) fun o=>zA (at? c 2) fun r=>zA (at? c 0) fun t=>if eqi (zD (zE c)) 4=true then zA (at? c 3) fun aa=>if nei aa.1 1=true then some (([],[]),(140,d.2.2.2),()) else zA (at? c 3) fun ac=>need b (need (eqi (Sx.sub .i64 (if b=true then zD (zE a+1) else zD (zE a)) 1) (zD (zE a))) (need b (need (eqi (Sx.sub .i64 (if b=true then zD (zE a+1) else zD (zE a)) 1) (zD (zE a))) (if eqi (zD (zE e)) 64=true then some (([],[]),(130,d.2.2.2),()) else need b (need (eqi (Sx.sub .i64 (if b=true then zD (zE a+1) else zD (zE a)) 1) (zD (zE a))) (need (small (zE e+Nat.succ 0)) (need b (need (eqi (Sx.sub .i64 (if b=true then zD (zE a+1) else zD (zE a)) 1) (zD (zE a))) (q g (add .i64 f 1) l m (add .i64 f 1) k n j p true a h i (e++[(o.2.1,r.2.2.1,ac.2.1,t.2.2.2)])))))))))) else need b (need (eqi (Sx.sub .i64 (if b=true then zD (zE a+1) else zD (zE a)) 1) (zD (zE a))) (need b (need (eqi (Sx.sub .i64 (if b=true then zD (zE a+1) else zD (zE a)) 1) (zD (zE a))) (if eqi (zD (zE e)) 64=true then some (([],[]),(130,d.2.2.2),()) else need b (need (eqi (Sx.sub .i64 (if b=true then zD (zE a+1) else zD (zE a)) 1) (zD (zE a))) (need (small (zE e+Nat.succ 0)) (need b (need (eqi (Sx.sub .i64 (if b=true then zD (zE a+1) else zD (zE a)) 1) (zD (zE a))) (q g (add .i64 f 1) l m (add .i64 f 1) k n j p true a h i (e++[(o.2.1,r.2.2.1,[],t.2.2.2)])))))))))) else if nei (zD (zE c)) 3=true then if nei (zD (zE c)) 4=true then some (([],[]),(140,d.2.2.2),()) else zA (at? c 0) fun v=>if nei v.1 1=true then some (([],[]),(140,d.2.2.2),()) else zA (at? c 0) fun w=>zA (mZ (w.2.1,())) fun x=>if (!x.1)=true then some (([],[]),(140,d.2.2.2),()) else zA (at? c 1) fun y=>if nei y.1 3=true then some (([],[]),(140,d.2.2.2),()) else zA (at? c 2) fun u=>if nei u.1 2=true then some (([],[]),(140,d.2.2.2),()) else zA (at? c 0) fun s=>zA (at? c 2) fun o=>zA (at? c 0) fun r=>if eqi (zD (zE c)) 4=true then zA (at? c 3) fun t=>if nei t.1 1=true then some (([],[]),(140,d.2.2.2),()) else zA (at? c 3) fun aa=>need b (need (eqi (Sx.sub .i64 (if b=true then zD (zE a+1) else zD (zE a)) 1) (zD (zE a))) (need b (need (eqi (Sx.sub .i64 (if b=true then zD (zE a+1) else zD (zE a)) 1) (zD (zE a))) (if eqi (zD (zE e)) 64=true then some (([],[]),(130,d.2.2.2),()) else need b (need (eqi (Sx.sub .i64 (if b=true then zD (zE a+1) else zD (zE a)) 1) (zD (zE a))) (need (small (zE e+Nat.succ 0)) (need b (need (eqi (Sx.sub .i64 (if b=true then zD (zE a+1) else zD (zE a)) 1) (zD (zE a))) (q g (add .i64 f 1) l m (add .i64 f 1) k n j p true a h i (e++[(s.2.1,o.2.2.1,aa.2.1,r.2.2.2)])))))))))) else need b (need (eqi (Sx.sub .i64 (if b=true then zD (zE a+1) else zD (zE a)) 1) (zD (zE a))) (need b (need (eqi (Sx.sub .i64 (if b=true then zD (zE a+1) else zD (zE a)) 1) (zD (zE a))) (if eqi (zD (zE e)) 64=true then some (([],[]),(130,d.2.2.2),()) else need b (need (eqi (Sx.sub .i64 (if b=true then zD (zE a+1) else zD (zE a)) 1) (zD (zE a))) (need (small (zE e+Nat.succ 0)) (need b (need (eqi (Sx.sub .i64 (if b=true then zD (zE a+1) else zD (zE a)) 1) (zD (zE a))) (q g (add .i64 f 1) l m (add .i64 f 1) k n j p true a h i (e++[(s.2.1,o.2.2.1,[],r.2.2.2)])))))))))) else zA (at? c 0) fun v=>if nei v.1 1=true then some (([],[]),(140,d.2.2.2),()) else zA (at? c 0) fun w=>zA (mZ (w.2.1,())) fun x=>if (!x.1)=true then some (([],[]),(140,d.2.2.2),()) else zA (at? c 1) fun y=>if nei y.1 3=true then some (([],[]),(140,d.2.2.2),()) else zA (at? c 2) fun u=>if nei u.1 2=true then some (([],[]),(140,d.2.2.2),()) else zA (at? c 0) fun s=>zA (at? c 2) fun o=>zA (at? c 0) fun r=>if eqi (zD (zE c)) 4=true then zA (at? c 3) fun t=>if nei t.1 1=true then some (([],[]),(140,d.2.2.2),()) else zA (at? c 3) fun aa=>need b (need (eqi (Sx.sub .i64 (if b=true then zD (zE a+1) else zD (zE a)) 1) (zD (zE a))) (need b (need (eqi (Sx.sub .i64 (if b=true then zD (zE a+1) else zD (zE a)) 1) (zD (zE a))) (if eqi (zD (zE e)) 64=true then some (([],[]),(130,d.2.2.2),()) else need b (need (eqi (Sx.sub .i64 (if b=true then zD (zE a+1) else zD (zE a)) 1) (zD (zE a))) (need (small (zE e+Nat.succ 0)) (need b (need (eqi (Sx.sub .i64 (if b=true then zD (zE a+1) else zD (zE a)) 1) (zD (zE a))) (q g (add .i64 f 1) l m (add .i64 f 1) k n j p true a h i (e++[(s.2.1,o.2.2.1,aa.2.1,r.2.2.2)])))))))))) else need b (need (eqi (Sx.sub .i64 (if b=true then zD (zE a+1) else zD (zE a)) 1) (zD (zE a))) (need b (need (eqi (Sx.sub .i64 (if b=true then zD (zE a+1) else zD (zE a)) 1) (zD (zE a))) (if eqi (zD (zE e)) 64=true then some (([],[]),(130,d.2.2.2),()) else need b (need (eqi (Sx.sub .i64 (if b=true then zD (zE a+1) else zD (zE a)) 1) (zD (zE a))) (need (small (zE e+Nat.succ 0)) (need b (need (eqi (Sx.sub .i64 (if b=true then zD (zE a+1) else zD (zE a)) 1) (zD (zE a))) (q g (add .i64 f 1) l m (add .i64 f 1) k n j p true a h i (e++[(s.2.1,o.2.2.1,[],r.2.2.2)])))))))))) else if nei (zD (zE c)) 3=true then if nei (zD (zE c)) 4=true then some (([],[]),(140,d.2.2.2),()) else zA (at? c 0) fun z=>if nei z.1 1=true then some (([],[]),(140,d.2.2.2),()) else zA (at? c 0) fun v=>zA (mZ (v.2.1,())) fun w=>if (!w.1)=true then some (([],[]),(140,d.2.2.2),()) else zA (at? c 1) fun x=>if nei x.1 3=true then some (([],[]),(140,d.2.2.2),()) else zA (at? c 2) fun y=>if nei y.1 2=true then some (([],[]),(140,d.2.2.2),()) else zA (at? c 0) fun u=>zA (at? c 2) fun s=>zA (at? c 0) fun o=>if eqi (zD (zE c)) 4=true then zA (at? c 3) fun r=>if nei r.1 1=true then some (([],[]),(140,d.2.2.2),()) else zA (at? c 3) fun t=>need b (need (eqi (Sx.sub .i64 (if b=true then zD (zE a+1) else zD (zE a)) 1) (zD (zE a))) (need b (need (eqi (Sx.sub .i64 (if b=true then zD (zE a+1) else zD (zE a)) 1) (zD (zE a))) (if eqi (zD (zE e)) 64=true then some (([],[]),(130,d.2.2.2),()) else need b (need (eqi (Sx.sub .i64 (if b=true then zD (zE a+1) else zD (zE a)) 1) (zD (zE a))) (need (small (zE e+Nat.succ 0)) (need b (need (eqi (Sx.sub .i64 (if b=true then zD (zE a+1) else zD (zE a)) 1) (zD (zE a))) (q g (add .i64 f 1) l m (add .i64 f 1) k n j p true a h i (e++[(u.2.1,s.2.2.1,t.2.1,o.2.2.2)])))))))))) else need b (need (eqi (Sx.sub .i64 (if b=true then zD (zE a+1) else zD (zE a)) 1) (zD (zE a))) (need b (need (eqi (Sx.sub .i64 (if b=true then zD (zE a+1) else zD (zE a)) 1) (zD (zE a))) (if eqi (zD (zE e)) 64=true then some (([],[]),(130,d.2.2.2),()) else need b (need (eqi (Sx.sub .i64 (if b=true then zD (zE a+1) else zD (zE a)) 1) (zD (zE a))) (need (small (zE e+Nat.succ 0)) (need b (need (eqi (Sx.sub .i64 (if b=true then zD (zE a+1) else zD (zE a)) 1) (zD (zE a))) (q g (add .i64 f 1) l m (add .i64 f 1) k n j p true a h i (e++[(u.2.1,s.2.2.1,[],o.2.2.2)])))))))))) else zA (at? c 0) fun z=>if nei z.1 1=true then some (([],[]),(140,d.2.2.2),()) else zA (at? c 0) fun v=>zA (mZ (v.2.1,())) fun w=>if (!w.1)=true then some (([],[]),(140,d.2.2.2),()) else zA (at? c 1) fun x=>if nei x.1 3=true then some (([],[]),(140,d.2.2.2),()) else zA (at? c 2) fun y=>if nei y.1 2=true then some (([],[]),(140,d.2.2.2),()) else zA (at? c 0) fun u=>zA (at? c 2) fun s=>zA (at? c 0) fun o=>if eqi (zD (zE c)) 4=true then zA (at? c 3) fun r=>if nei r.1 1=true then some (([],[]),(140,d.2.2.2),()) else zA (at? c 3) fun t=>need b (need (eqi (Sx.sub .i64 (if b=true then zD (zE a+1) else zD (zE a)) 1) (zD (zE a))) (need b (need (eqi (Sx.sub .i64 (if b=true then zD (zE a+1) else zD (zE a)) 1) (zD (zE a))) (if eqi (zD (zE e)) 64=true then some (([],[]),(130,d.2.2.2),()) else need b (need (eqi (Sx.sub .i64 (if b=true then zD (zE a+1) else zD (zE a)) 1) (zD (zE a))) (need (small (zE e+Nat.succ 0)) (need b (need (eqi (Sx.sub .i64 (if b=true then zD (zE a+1) else zD (zE a)) 1) (zD (zE a))) (q g (add .i64 f 1) l m (add .i64 f 1) k n j p true a h i (e++[(u.2.1,s.2.2.1,t.2.1,o.2.2.2)])))))))))) else need b (need (eqi (Sx.sub .i64 (if b=true then zD (zE a+1) else zD (zE a)) 1) (zD (zE a))) (need b (need (eqi (Sx.sub .i64 (if b=true then zD (zE a+1) else zD (zE a)) 1) (zD (zE a))) (if eqi (zD (zE e)) 64=true then some (([],[]),(130,d.2.2.2),()) else need b (need (eqi (Sx.sub .i64 (if b=true then zD (zE a+1) else zD (zE a)) 1) (zD (zE a))) (need (small (zE e+Nat.succ 0)) (need b (need (eqi (Sx.sub .i64 (if b=true then zD (zE a+1) else zD (zE a)) 1) (zD (zE a))) (q g (add .i64 f 1) l m (add .i64 f 1) k n j p true a h i (e++[(u.2.1,s.2.2.1,[],o.2.2.2)])))))))))) else if eqi j 1=true then zA (cut g ab f) fun c=>zA (PN (c,[115,108,97,118,101],())) fun z=>if (!z.1)=true then some (([],[]),(140,d.2.2.2),()) else if eqi (if b=true then zD (zE a+1) else zD (zE a)) 8=true then some (([],[]),(130,d.2.2.2),()) else zA (at? c 1) fun d=>zA (at? c 1) fun v=>need (small (zE (if b=true then a++[(h,i,e)] else a)+1)) (q g (add .i64 f 1) l m (add .i64 f 1) k n 2 p true (if b=true then a++[(h,i,e)] else a) d.2.1 v.2.2.2 []) else if eqi j 0=true then zA (cut g ab f) fun c=>zA (PN (c,[114,101,99,105,112,101],())) fun z=>if (!z.1)=true then some (([],[]),(140,d.2.2.2),()) else zA (at? c 1) fun d=>q g (add .i64 f 1) l m (add .i64 f 1) k n 1 d.2.1 b a h i e else zF else ad k n j p b a h i e
def XQ(h:List UInt8)(i:Int×Int)(f:Int)(g:List UInt8)(e:Bool)(a:sO)(c:List UInt8)(d:Int)(b:List eB):Option (As [.pr .str (.sl gD),.pr (.int .i64) (.int .i64)]) :=
 if nei f 1=true then some (([],[]),(140,0),()) else some ((g,if e=true then a++[(c,d,b)] else a),(0,0),())
def XR(b:aj0)(c:List UInt8):Option (As [.pr .str (.sl gD),.pr (.int .i64) (.int .i64)]) :=
 zA (XB (c,())) fun a=>if (!(eqi a.2.1.1 0 && (eqi a.2.1.2 0 && true)))=true then some (([],[]),a.2.1,()) else b a.1 0 a.1 (zD (zE a.1)) 0 [] (0,0) 0 [] false [] [] 0 []
def XT:=XQ
def PO(o:List iH)(b:Int)(k:List iH)(l m:Int)(j:List UInt8)(n:Int×Int)(h:Int)(i:List UInt8)(g:Bool)(c:sO)(e:List UInt8)(f:Int)(d:List eB):Option (As [.pr .str (.sl gD),.pr (.int .i64) (.int .i64)]) :=
 aj (fun p a=>zh (XT) (fun o b k l m j n h i g c e f d=>p (o,b,k,l,m,j,n,h,i,g,c,e,f,d)) a.1 a.2.1 a.2.2.1 a.2.2.2.1 a.2.2.2.2.1 a.2.2.2.2.2.1 a.2.2.2.2.2.2.1 a.2.2.2.2.2.2.2.1 a.2.2.2.2.2.2.2.2.1 a.2.2.2.2.2.2.2.2.2.1 a.2.2.2.2.2.2.2.2.2.2.1 a.2.2.2.2.2.2.2.2.2.2.2.1 a.2.2.2.2.2.2.2.2.2.2.2.2.1 a.2.2.2.2.2.2.2.2.2.2.2.2.2) 18446744073709551616 (o,b,k,l,m,j,n,h,i,g,c,e,f,d)
def AX(x:As [.str]):Option (As [.pr .str (.sl gD),.pr (.int .i64) (.int .i64)]):=XR PO x.1
abbrev pA7:=zp aeH aeI 13 XO
theorem asy{J a b c d e f g h i}:pA7 J 127 [] (aeJ a b c d e f g h i)=XQ a b c d e f g h i:=by kernel_rfl
theorem asz{J w1 a b c d e f g h i j k l m n}:pA7 J 1018 [w1] (XP a b c d e f g h i j k l m n)=zh (C (J 127 []) aeJ) (C w1 XP) a b c d e f g h i j k l m n:=by kernel_rfl
abbrev pA6:=zj aeH aeI 13 XO
theorem asA:C (pA6 127 []) aeJ=XT:=gNC (by decide) fun _=>asy
theorem asB:C (pA6 1018 []) XP=PO:=gLC (by decide) (by kernel_rfl) (fun _=>by unfold PO;rfl) fun _ _=>asz.trans (by rw[asA]<;>kernel_rfl)
theorem asC:au Tryz.prog I0 13 ⟨XO,AX⟩:=zcc (env:=aeH) (d:=6) (hs:=Ev.get aeI) (av Ev.UZ (av apR (av (jN ab0) (av asx bN)))) (fun J x=>XR (C (J 1018 []) XP) x.1) (fun _ _=>by kernel_rfl) fun _=>by rw[asB]<;>rfl
def asD(d:List UInt8)(b c:Int):Option aA :=
 zA (AX (d,())) fun a=>if eqi (zD (zE a.1.2)) 0=true then if eqs a.1.1 []=true then some (eqi a.2.1.1 b && (eqi a.2.1.2 c && true),()) else some (false,()) else some (false,())
def aeK(x:As [.str,.int .i64,.int .i64]):Option aA:=asD x.1 x.2.1 x.2.2.1
def asE:Option aA :=
 zA (AX ([114,101,99,105,112,101,32,97,10,115,108,97,118,101,32,98,10,32,32,99,32,61,32,49,46,53,32,98,97,114,10,101,110,100,10],())) fun a=>zA (FK (a.1,())) fun b=>zA (AX ([114,101,99,105,112,101,32,97],())) fun c=>if eqi a.2.1.1 0=true then zA (ajX (a.1,([97],[([98],2,[([99],(15,1),[98,97,114],3)])]),())) fun a=>if a.1=true then if b.2.1=true then if eqs b.1 [114,101,99,105,112,101,32,97,10,115,108,97,118,101,32,98,10,32,32,99,32,61,32,49,46,53,32,98,97,114,10,101,110,100,10]=true then zA (aeK ([114,101,99,105,112,101,32,97,10,101,110,100],140,2,())) fun a=>if a.1=true then zA (aeK ([114,101,99,105,112,101,32,97,10,115,108,97,118,101,32,98],140,0,())) fun a=>if a.1=true then zA (aeK ([114,101,99,105,112,101,32,115,108,97,118,101],140,1,())) fun a=>if a.1=true then if eqi c.2.1.1 0=true then some (eqi (zD (zE c.1.2)) 0,()) else some (false,()) else some (false,()) else some (false,()) else some (false,()) else some (false,()) else some (false,()) else some (false,()) else some (false,())
def aeL(x:As []):Option aA:=asE
@[reducible] def sP:Type:=List (List iH)->Bool->Int->List UInt8->Int×Int->List UInt8->Bool->List (List UInt8×Int×List eB)->List UInt8->Int->List eB->Option (As [.pr .str (.sl gD),.pr (.int .i64) (.int .i64)])
@[reducible] def aj1:Type:=List (List iH)->Bool->Int->List iH->Int->Bool->List UInt8->Int×Int->List UInt8->Bool->List (List UInt8×Int×List eB)->List UInt8->Int->List eB->Option (As [.pr .str (.sl gD),.pr (.int .i64) (.int .i64)])
def asF(p:sP)(n:aj1)(q:Bool->List UInt8->Int×Int->List UInt8->Bool->List (List UInt8×Int×List eB)->List UInt8->Int->List eB->Option (As [.pr .str (.sl gD),.pr (.int .i64) (.int .i64)]))(s:sP)(d:List (List iH))(j:Bool)(e:Int)(l:List UInt8)(m:Int×Int)(k:List UInt8)(c:Bool)(b:sO)(g:List UInt8)(h:Int)(f:List eB):Option (As [.pr .str (.sl gD),.pr (.int .i64) (.int .i64)]) :=
 if lt e (zD (zE d))=true then zA (at? d e) fun a=>zA (at? a 0) fun i=>if (!j)=true then zA (ajV (a,[115,108,97,118,101],())) fun o=>if (!o.1)=true then some (([],[]),(140,i.2.2.2),()) else if eqi (if c=true then zD (zE b+1) else zD (zE b)) 8=true then some (([],[]),(130,i.2.2.2),()) else zA (at? a 1) fun a=>need (small (zE (if c=true then b++[(g,h,f)] else b)+1)) (p d true e l m k true (if c=true then b++[(g,h,f)] else b) a.2.1 i.2.2.2 []) else if eqi (zD (zE a)) 1=true then zA (at? a 0) fun o=>if eqi o.1 1=true then zA (at? a 0) fun r=>n d j e a i.2.2.2 (eqs r.2.1 [101,110,100]) l m k c b g h f else n d j e a i.2.2.2 false l m k c b g h f else n d j e a i.2.2.2 false l m k c b g h f else q j l m k c b g h f
def asG(j:sP)(a:List (List iH))(h:Bool)(b:Int)(k:List UInt8)(l:Int×Int)(i:List UInt8)(g:Bool)(c:sO)(e:List UInt8)(f:Int)(d:List eB):Option (As [.pr .str (.sl gD),.pr (.int .i64) (.int .i64)]) :=
 j a h (add .i64 b 1) k l i g c e f d
def asH(p:sP)(m:aj1)(r:sP)(c:List (List iH))(o:Bool)(d:Int)(a:List iH)(n:Int)(q:Bool)(k:List UInt8)(l:Int×Int)(j:List UInt8)(i:Bool)(e:sO)(g:List UInt8)(h:Int)(f:List eB):Option (As [.pr .str (.sl gD),.pr (.int .i64) (.int .i64)]) :=
 if q=true then p c false d k l j i e g h f else if lt (zD (zE a)) 3=true then m c o d a n true k l j i e g h f else if gt (zD (zE a)) 4=true then m c o d a n true k l j i e g h f else zA (at? a 0) fun b=>if nei b.1 1=true then m c o d a n true k l j i e g h f else zA (at? a 0) fun b=>zA (Py (b.2.1,())) fun b=>if (!b.1)=true then m c o d a n true k l j i e g h f else zA (at? a 1) fun b=>if nei b.1 3=true then m c o d a n true k l j i e g h f else zA (at? a 2) fun b=>if nei b.1 2=true then m c o d a n true k l j i e g h f else if eqi (zD (zE a)) 4=true then zA (at? a 3) fun b=>m c o d a n (nei b.1 1) k l j i e g h f else m c o d a n false k l j i e g h f
def asI(f:Bool)(h:List UInt8)(i:Int×Int)(g:List UInt8)(e:Bool)(a:sO)(c:List UInt8)(d:Int)(b:List eB):Option (As [.pr .str (.sl gD),.pr (.int .i64) (.int .i64)]) :=
 if f=true then some (([],[]),(140,0),()) else some ((g,if e=true then a++[(c,d,b)] else a),(0,0),())
def asJ(h:List (List iH)->Bool->Int->Int->List UInt8->Int×Int->List UInt8->Bool->List (List UInt8×Int×List eB)->List UInt8->Int->List eB->List UInt8×(Int×Int)×List UInt8×Int->Option (As [.pr .str (.sl gD),.pr (.int .i64) (.int .i64)]))(s:sP)(f:List (List iH))(k:Bool)(g:Int)(d:List iH)(c:Int)(q:Bool)(m:List UInt8)(n:Int×Int)(l:List UInt8)(b:Bool)(a:sO)(i:List UInt8)(j:Int)(e:List eB):Option (As [.pr .str (.sl gD),.pr (.int .i64) (.int .i64)]) :=
 if q=true then some (([],[]),(140,c),()) else need b (need (eqi (Sx.sub .i64 (if b=true then zD (zE a+1) else zD (zE a)) 1) (zD (zE a))) (need b (need (eqi (Sx.sub .i64 (if b=true then zD (zE a+1) else zD (zE a)) 1) (zD (zE a))) (if eqi (zD (zE e)) 64=true then some (([],[]),(130,c),()) else zA (at? d 0) fun o=>zA (at? d 2) fun p=>if eqi (zD (zE d)) 4=true then zA (at? d 3) fun r=>h f k g (Sx.sub .i64 (if b=true then zD (zE a+1) else zD (zE a)) 1) m n l b a i j e (o.2.1,p.2.2.1,r.2.1,c) else h f k g (Sx.sub .i64 (if b=true then zD (zE a+1) else zD (zE a)) 1) m n l b a i j e (o.2.1,p.2.2.1,[],c)))))
def asK(g o:sP)(e:List (List iH))(j:Bool)(f c:Int)(m:List UInt8)(n:Int×Int)(k:List UInt8)(b:Bool)(a:sO)(h:List UInt8)(i:Int)(d:List eB)(l:List UInt8×(Int×Int)×List UInt8×Int):Option (As [.pr .str (.sl gD),.pr (.int .i64) (.int .i64)]) :=
 need b (need (eqi c (zD (zE a))) (need b (need (eqi c (zD (zE a))) (need (small (zE d+Nat.succ 0)) (need b (need (eqi c (zD (zE a))) (need b (need (eqi c (zD (zE a))) (g e j f m n k true a h i (d++[l]))))))))))
def asL(b:sP)(c:List UInt8):Option (As [.pr .str (.sl gD),.pr (.int .i64) (.int .i64)]) :=
 zA (ajN (c,())) fun a=>if nei a.2.1.1 0=true then some (([],[]),a.2.1,()) else zA (asq (a.1,())) fun a=>if eqi (zD (zE a.1)) 0=true then some (([],[]),(140,0),()) else zA (at? a.1 0) fun d=>zA (ajV (d,[114,101,99,105,112,101],())) fun e=>if (!e.1)=true then zA (at? a.1 0) fun a=>zA (at? a 0) fun a=>some (([],[]),(140,a.2.2.2),()) else zA (at? a.1 0) fun f=>zA (at? f 1) fun g=>b a.1 false 1 [] (0,0) g.2.1 false [] [] 0 []
def aeM(a:sP):=asG a
def asM(a:sP):=asK (aeM a) a
def asN(a:sP):=asJ (asM a) a
def asO(a:sP):=asH (aeM a) (asN a) a
def asP:=asI
def asQ(b:List (List iH))(i:Bool)(c:Int)(k:List UInt8)(l:Int×Int)(j:List UInt8)(h:Bool)(d:sO)(f:List UInt8)(g:Int)(e:List eB):Option (As [.pr .str (.sl gD),.pr (.int .i64) (.int .i64)]) :=
 aj (fun m a=>asF (aeM (fun b i c k l j h d f g e=>m (b,i,c,k,l,j,h,d,f,g,e))) (asO (fun b i c k l j h d f g e=>m (b,i,c,k,l,j,h,d,f,g,e))) (asP) (fun b i c k l j h d f g e=>m (b,i,c,k,l,j,h,d,f,g,e)) a.1 a.2.1 a.2.2.1 a.2.2.2.1 a.2.2.2.2.1 a.2.2.2.2.2.1 a.2.2.2.2.2.2.1 a.2.2.2.2.2.2.2.1 a.2.2.2.2.2.2.2.2.1 a.2.2.2.2.2.2.2.2.2.1 a.2.2.2.2.2.2.2.2.2.2) 18446744073709551616 (b,i,c,k,l,j,h,d,f,g,e)
def asR(x:As [.str]):Option (As [.pr .str (.sl gD),.pr (.int .i64) (.int .i64)]):=asL asQ x.1
@[reducible] def aeN:Type:=List UInt8×List (List UInt8×Int×List eB)
def asS(c:Bool->List UInt8×List (List UInt8×Int×List eB)->Option aA)(f:List UInt8)(g:Bool)(b e:aeN):Option aA :=
 if g=true then zA (aeL ()) fun a=>some (a.1,()) else zA (AX (f,())) fun a=>zA (asR (f,())) fun d=>if (!(eqi a.2.1.1 d.2.1.1 && (eqi a.2.1.2 d.2.1.2 && true)))=true then c true b else zA (ajX (a.1,d.1,())) fun a=>if (!a.1)=true then c true b else zA (arw (b,e,())) fun a=>zA (ajU (b,e,())) fun h=>if Sx.neb a.1 h.1=true then c true b else zA (AA (b,())) fun a=>zA (ajO (b,())) fun i=>c (Sx.neb a.1 i.1) b
def asT(c:Bool)(b:aeN):Option aA :=
 if c=true then some (false,()) else zA (FK (b,())) fun a=>zA (ajO (b,())) fun d=>if (!d.1)=true then if (!a.2.1)=true then if eqs a.1 []=true then zA (aeL ()) fun a=>some (a.1,()) else some (false,()) else some (false,()) else if a.2.1=true then zA (arW (b,())) fun e=>if eqs a.1 e.1=true then zA (aeL ()) fun a=>some (a.1,()) else some (false,()) else some (false,())
def asU(d:List UInt8->Bool->List UInt8×List (List UInt8×Int×List eB)->List UInt8×List (List UInt8×Int×List eB)->Option aA)(c:List UInt8)(a b:aeN):Option aA :=
 if gt (zD (zE c)) 9000=true then d c true a b else zA (JB (a,())) fun e=>if (!e.1)=true then d c true a b else zA (JB (b,())) fun e=>d c (!e.1) a b
def asV:=asT
def asW:=asS (asV)
def auT(x:As [.str,.pr .str (.sl gD),.pr .str (.sl gD)]):Option aA:=asU asW x.1 x.2.1 x.2.2.1
end Go.Proofs.Lx
end
noncomputable section
namespace Pl
open Go Ev Sx
theorem AY{σ R α β:Type}{F:(σ->Option R)->σ->Option R}{mk:Nat->β->σ}{xs:List α}{stp:β->α->β}{fin:β->Option R}(Inv:Nat->β->Prop)
  (hs:∀self i acc x,xs[i]? = some x->Inv i acc->F self (mk i acc)=self (mk (i+1) (stp acc x)))
  (hi:∀i acc x,xs[i]? = some x->Inv i acc->Inv (i+1) (stp acc x))
  (he:∀self acc,Inv xs.length acc->F self (mk xs.length acc)=fin acc) :
  ∀(k i:Nat) (acc:β) (n:Nat),i+k=xs.length->k<n->Inv i acc->aj F n (mk i acc)=fin ((xs.drop i).foldl stp acc)
 | _,_,_,0,_,hn,_=>by omega
 | 0,i,acc,n+1,h,_,hI=>by simp_all[gB,List.drop_length]
 | k+1,i,acc,n+1,h,hn,hI=>by have hx:xs[i]? = some (xs[i]'(by omega)):=zQ (by omega);rw[gB,hs _ _ _ _ hx hI,AY Inv hs hi he k (i+1) _ n (by omega) (by omega) (hi _ _ _ hx hI),List.drop_eq_getElem_cons (show i<xs.length by omega)];rfl
def goL{α β R:Type}(a:β->α->(β->Option R)->Option R)(b:β->Option R):List α->β->Option R
 | [],acc=>b acc
 | x::r,acc=>a acc x (goL a b r)
theorem l8{σ R α β:Type}{F:(σ->Option R)->σ->Option R}{mk:Nat->β->σ}{xs:List α}{body:β->α->(β->Option R)->Option R}{fin:β->Option R}
  (hs:∀self i acc x,xs[i]? = some x->F self (mk i acc)=body acc x fun a=>self (mk (i+1) a))
  (he:∀self acc,F self (mk xs.length acc)=fin acc) :
  ∀(k i:Nat) (acc:β) (n:Nat),i+k=xs.length->k<n->aj F n (mk i acc)=goL body fin (xs.drop i) acc
 | _,_,_,0,_,hn=>by omega
 | 0,i,acc,n+1,h,_=>by
  have:i=xs.length:=by omega
  subst this;rw[gB,he,List.drop_length];rfl
 | k+1,i,acc,n+1,h,hn=>by
  have hx:xs[i]? = some (xs[i]'(by omega)):=zQ (by omega);rw[gB,hs _ _ _ _ hx,List.drop_eq_getElem_cons (show i<xs.length by omega)];show _=body acc _ (goL body fin (xs.drop (i+1)))
  congr 1
  funext a;exact l8 hs he k (i+1) a n (by omega) (by omega)
theorem CG{α β:Type}(f:α->List β):∀(xs:List α) (out:List β),xs.foldl (fun o x=>o++f x) out=out++xs.flatMap f
 | [],out=>by simp
 | x::r,out=>by simp[CG f r]
end Pl
end
noncomputable section
namespace Go.Proofs.Lx
open Go Ev Sx Pl
set_option maxRecDepth 10000
def isL(n:Nat):Bool:=(decide (97≤n) && decide (n≤122)) || (decide (65≤n) && decide (n≤90))
def isD(n:Nat):Bool:=decide (48≤n) && decide (n≤57)
def isB(n:Nat):Bool:=n == 9 || n == 13 || n == 32
def w1(n:Nat):Bool:=isL n || n == 37
def n1(n:Nat):Bool:=isD n || n == 45
def e1(n:Nat):Bool:=n == 61
def wm(n:Nat):Bool:=isL n || isD n || n == 95 || n == 37
def nm(n:Nat):Bool:=isD n || n == 46 || n == 45
theorem tab{f:Int×Unit->Option (Bool×Unit)}{g:Nat->Bool}(h:((List.range 256).all fun n=>match f (zD n,()) with
  | some y=>y.1 == g n
  | none=>false)=true) (c:UInt8):f (zD c.toNat,())=some (g c.toNat,()):=by
 have:=Wv h c;split at this
 ·rename_i y hy
  rw[hy];have:y.1=g c.toNat:=by simpa using this
  rw[<- this]
 ·cases this
theorem asX(c:UInt8):pX (zD c.toNat,())=some (w1 c.toNat,()):=tab (f:=pX) (g:=w1) (by kernel_rfl) c
theorem asY(c:UInt8):pY (zD c.toNat,())=some (n1 c.toNat,()):=tab (f:=pY) (g:=n1) (by kernel_rfl) c
theorem asZ(c:UInt8):pZ (zD c.toNat,())=some (e1 c.toNat,()):=tab (f:=pZ) (g:=e1) (by kernel_rfl) c
theorem as0(c:UInt8):yu (zD c.toNat,())=some (wm c.toNat,()):=tab (f:=yu) (g:=wm) (by kernel_rfl) c
theorem as1(c:UInt8):yw (zD c.toNat,())=some (nm c.toNat,()):=tab (f:=yw) (g:=nm) (by kernel_rfl) c
theorem excl(c:UInt8):(w1 c.toNat=true->n1 c.toNat=false∧e1 c.toNat=false∧isB c.toNat=false∧c.toNat≠35∧c.toNat≠10):=by have:=Wv (p:=fun n=>!(w1 n) || (!(n1 n) && !(e1 n) && !(isB n) && n != 35 && n != 10)) (by kernel_rfl) c;intro h;simp[h]at this;exact⟨this.1.1.1.1,this.1.1.1.2,this.1.1.2,this.1.2,this.2⟩
def asc:List Bool:=(List.range 256).map isB
theorem wX:Fx ([9,13,32],())=some (asc,true,()):=by kernel_rfl
theorem aj2(c:UInt8):at? asc (zD c.toNat)=some (isB c.toNat):=by have:=Wv (p:=fun n=>asc[n]? == some (isB n)) (by kernel_rfl) c;unfold at?;rw[if_pos (by simp)];simpa using this
theorem aj3:∀(s:List UInt8) (n:Nat),s.length<n->aj (fun (self:(List UInt8)×(List Bool)->Option (As [.str,.sl .bool])) (s:(List UInt8)×(List Bool))=>Xp (fun s as'=>self (s,as')) s.1 s.2) n (s,asc)=some (s.dropWhile (fun c=>isB c.toNat),asc,())
 | s,0,h=>by omega
 | [],n+1,h=>rfl
 | c::q,n+1,h=>by
  have ih:=aj3 q n (by simp at h;omega);have h1:gt (zD (c::q).length) 0=true:=by simp[gt];try omega
  have h2:lt (zD c.toNat) 256=true:=by have:=c.toNat_lt;simp[lt];omega
  rw[aj];unfold Xp;simp only[h1,if_true,uV,zB,need,h2,aj2,Se,List.dropWhile_cons];cases hb:isB c.toNat
  ·rfl
  ·simp only[Bool.not_true,Bool.false_eq_true,if_false,if_true]
   exact ih
theorem zi(s:List UInt8):strings_TrimLeft (s,[9,13,32],())=if eqs s []=true then some (s,()) else (Fx ([9,13,32],())).bind fun y=>need (eqi 256 (zD y.1.length)) (need (eqi 256 (zD (y.1.length*1))) (if y.2.1=true then (JR (s,y.1,())).bind fun y=>some (y.1,()) else (Xq (s,[9,13,32],())).bind fun y=>some (y.1,()))):=rfl
theorem qC{s:List UInt8}(h:s.length<1000000):strings_TrimLeft (s,[9,13,32],())=some (s.dropWhile (fun c=>isB c.toNat),()):=by
 have h63:JR (s,asc,())=some (s.dropWhile (fun c=>isB c.toNat),asc,()):=aj3 s _ (by omega);rw[zi];by_cases hs:s=[]
 ·subst hs;rfl
 ·have e1:eqs s []=false:=by simp[eqs,hs]
  have e5:eqi 256 (zD asc.length)=true:=by kernel_rfl
  have e6:eqi 256 (zD (asc.length*1))=true:=by kernel_rfl
  rw[e1,wX,zB];simp only[Bool.false_eq_true,if_false,need,e5,e6,if_true];rw[h63];rfl
@[reducible] def aeO:Type:=Int->List UInt8->Option (As [.str,.str])
theorem aj4(g:aeO)(n:Int)(t:List UInt8):WX (WZ g) g n t=if lt n (zD t.length)=true then (at? t n).bind fun c=>(yu (zD c.toNat,())).bind fun y=>if y.1=true then g (add .i64 n 1) t else JL n t else JL n t:=rfl
theorem ZN(p q:List UInt8):JL (p.length:Int) (p++q)=some (p,q,()):=by unfold JL;rw[lC,zB,Fu,zB]
theorem aj5:∀(q p:List UInt8) (n:Nat),q.length<n->p.length+q.length<1000000 ->
  aj (fun (self:Int×List UInt8->Option (As [.str,.str])) (s:Int×List UInt8)=>WX (WZ (fun n t1=>self (n,t1))) (fun n t1=>self (n,t1)) s.1 s.2) n ((p.length:Int),p++q) =
   some (p++q.takeWhile (fun c=>wm c.toNat),q.dropWhile (fun c=>wm c.toNat),())
 | q,p,0,h,_=>by omega
 | [],p,n+1,h,hl=>by
  have h1:lt (p.length:Int) (zD (p++[]).length)=false:=by simp[lt]
  refine (aj4 _ _ _).trans ?_;rw[if_neg (by rw[h1];decide),ZN];simp
 | c::q,p,n+1,h,hl=>by
  have h1:lt (p.length:Int) (zD (p++c::q).length)=true:=by simp[lt];omega
  have ih:=aj5 q (p++[c]) n (by simp at h;omega) (by simp at hl ⊢;omega);refine (aj4 _ _ _).trans ?_;rw[if_pos h1,Pb,zB,as0,zB];cases hb:wm c.toNat
  ·simp only[Bool.false_eq_true,if_false,ZN,List.takeWhile_cons,List.dropWhile_cons,hb,List.append_nil]
  ·have ha:add .i64 (p.length:Int) 1=((p++[c]).length:Int):=by unfold add;rw[w64 (by omega) (by simp at hl;omega)];simp
   have e:p++c::q=(p++[c])++q:=by simp
   simp only[if_true,ha,List.takeWhile_cons,List.dropWhile_cons,hb];rw[e,ih];simp
theorem as2(c:UInt8)(q:List UInt8)(h:q.length<100000):W9 (c::q,())=some (c::q.takeWhile (fun c=>wm c.toNat),q.dropWhile (fun c=>wm c.toNat),()) :=
 aj5 q [c] 18446744073709551616 (by omega) (by simp;omega)
end Go.Proofs.Lx
end
noncomputable section
namespace Go.Proofs.Lx
open Go Ev Sx Pl
set_option maxRecDepth 10000
abbrev TL:=List (Int×List UInt8×(Int×Int)×Int)
abbrev RL:=As [.sl (.pr (.int .u8) (.pr .str (.pr aF (.int .i64)))),.int .i64]
abbrev agB(self:Int×List UInt8×TL->Option RL)(s:Int×List UInt8×TL):Option RL :=
 FC (Xv) (Xw (fun at' text l=>self (at',text,l))) (fun at' text l=>self (at',text,l)) s.1 s.2.1 s.2.2
structure Word(w:List UInt8):Prop where
 all:∀b∈w,wm b.toNat=true
 first:∃c q,w=c::q∧w1 c.toNat=true
 len:w.length<1000
theorem Word.strings_TrimLeft{w r:List UInt8}(h:Word w)(hr:r.length<2000):∃c q,w=c::q∧w1 c.toNat=true∧Lx.strings_TrimLeft (w++r,[9,13,32],())=some (c::(q++r),())∧(∀b∈q,wm b.toNat=true):=by obtain⟨c,q,rfl,hc⟩:=h.first;obtain⟨_,_,hb,_⟩:=excl c hc;refine⟨c,q,rfl,hc,?_,fun b hb=>h.all b (zO _ hb)⟩;rw[qC (by have:=h.len;simp at this ⊢;omega)];simp[hb]
theorem Word.no{w:List UInt8}(h:Word w):(∀b∈w,b≠35)∧(∀b∈w,b≠10):=by
 constructor
 ·intro b hb e
  subst e;exact absurd (h.all _ hb) (by decide)
 ·intro b hb e
  subst e;exact absurd (h.all _ hb) (by decide)
end Go.Proofs.Lx
end
noncomputable section
namespace Go.Proofs.Lx
open Go Ev Sx Pl
set_option maxRecDepth 10000
def dg(c:UInt8):Bool:=isD c.toNat
def ko(s:List UInt8):Bool:=s.all dg && s != []
def dvn(n:Int)(q:List UInt8):Int:=q.foldl (fun n c=>10*n+((c.toNat:Int) - 48)) n
theorem ahA(n:Int):dvn n []=n:=rfl
theorem PS(n:Int)(c:UInt8)(q:List UInt8):dvn n (c::q)=dvn (10*n+((c.toNat:Int) - 48)) q:=rfl
theorem Sf(n:Int)(p q:List UInt8):dvn n (p++q)=dvn (dvn n p) q:=List.foldl_append ..
theorem nO{c:UInt8}:dg c=true↔48≤c.toNat∧c.toNat≤57:=by simp[dg,isD]
theorem G5:∀{q:List UInt8} {n:Int},(∀c∈q,dg c=true)->0≤n->n≤dvn n q
 | [],n,_,_=>Int.le_refl _
 | c::q,n,h,hn=>by have hc:=nO.1 (h c (List.mem_cons_self ..));have:=G5 (q:=q) (n:=10*n+((c.toNat:Int) - 48)) (fun x hx=>h x (zO _ hx)) (by omega);rw[PS];omega
theorem vW{s:List UInt8}(h:s.length<1000000):vL (s,())=some (ko s,()):=by
 have key:∀(n:Nat) (st:List UInt8×Int×Int),(∃i:Nat,st=(s,zD s.length,(i:Int))∧i≤s.length)->(s.length - st.2.2.toNat<n) ->
   aj (fun (self:(List UInt8)×Int×Int->Option aA) (s:(List UInt8)×Int×Int)=>WJ (Fy (fun a b c=>self (a,b,c))) WM (fun a b c=>self (a,b,c)) s.1 s.2.1 s.2.2) n st=some ((s.drop st.2.2.toNat).all dg && s != [],()):=by
  refine qL (σ:=List UInt8×Int×Int) (μ:=fun st=>s.length - st.2.2.toNat) (G:=fun st=>some ((s.drop st.2.2.toNat).all dg && s != [],())) ?_;rintro self st ⟨i,rfl,hi⟩ ih;simp only[zM]at ih ⊢;unfold WJ
  cases hd:s.drop i with
  | nil =>
   have:=drop_nil hd;rw[if_neg (by rw[bg,ay];omega)];unfold WM adz;rfl
  | cons c r =>
   obtain⟨h1,h2,h3⟩:=xA hd;rw[if_pos (by rw[bg,ay];omega),za hd];simp only[zB];have hgo:dg c=true->Fy (fun a b c=>self (a,b,c)) s (zD s.length) (i:Int) false=some ((c::r).all dg && s != [],()):=fun hc=>by unfold Fy WK;rw[if_neg (by decide),iO (by omega)];have:=ih (s,zD s.length,((i+1:Nat):Int)) ⟨i+1,rfl,by omega⟩ (by simp;omega);refine this.trans ?_;simp[h1,hc]
   have hno:dg c=false->Fy (fun a b c=>self (a,b,c)) s (zD s.length) (i:Int) true=some ((c::r).all dg && s != [],()):=fun hc=>by unfold Fy WK;rw[if_pos rfl];simp[hc]
   by_cases hc:dg c=true
   ·have:=nO.1 hc
    rw[if_neg (by rw[bg,ay];omega)];have e:gt (zD c.toNat) 57=false:=by simp[gt];omega
    rw[e];exact hgo hc
   ·have hc':dg c=false:=by simpa using hc
    have h4:¬ (48≤c.toNat∧c.toNat≤57):=fun h=>hc (nO.2 h);by_cases h5:c.toNat<48
    ·rw[if_pos (by rw[bg,ay];omega)]
     exact hno hc'
    ·rw[if_neg (by rw[bg,ay];omega)]
     have e:gt (zD c.toNat) 57=true:=by simp[gt];omega
     rw[e];exact hno hc'
 have:=key 18446744073709551616 (s,zD s.length,0) ⟨0,rfl,by omega⟩ (by simp;omega);refine this.trans ?_;simp[ko]
def fF:List UInt8->List UInt8
 | []=>[]
 | c::q=>match fF q with
  | []=>if c=48 then [] else [c]
  | r=>c::r
theorem CJ(q:List UInt8):fF (q++[48])=fF q:=by
 induction q with
 | nil=>rfl
 | cons c q ih=>show (match fF (q++[48]) with | []=>_ | r=>_)=_;rw[ih];rfl
theorem Eu{c:UInt8}(q:List UInt8)(h:c≠48):fF (q++[c])=q++[c]:=by
 induction q with
 | nil=>show (if c=48 then [] else [c])=_;rw[if_neg h];rfl
 | cons a q ih =>
  show (match fF (q++[c]) with | []=>_ | r=>_)=_;rw[ih];cases q<;>rfl
theorem XU{α:Type}(q:List α):q=[]∨∃p c,q=p++[c]:=by
 rcases List.eq_nil_or_concat q with h | ⟨p,c,h⟩
 ·exact .inl h
 ·exact .inr ⟨p,c,by simpa using h⟩
theorem PT{s:List UInt8}(h:s.length<1000000):Pk (s,48,())=some (fF s,()):=by
 have key:∀(n:Nat) (st:List UInt8×Int),(st.2=48∧st.1.length<1000000)->st.1.length<n ->
   aj (fun (self:(List UInt8)×Int->Option (As [.str])) (s:(List UInt8)×Int)=>WQ (WR (fun a b=>self (a,b))) (fun a b=>self (a,b)) s.1 s.2) n st=some (fF st.1,()):=by
  refine qL (σ:=List UInt8×Int) (μ:=fun st=>st.1.length) (G:=fun st=>some (fF st.1,())) ?_;rintro self ⟨s,c⟩ ⟨rfl,hl⟩ ih;unfold WQ;rcases XU s with rfl | ⟨p,c,rfl⟩
  ·rfl
  ·simp at hl
   have hn:zD (p++[c]).length=((p.length+1:Nat):Int):=by simp
   rw[if_pos (by rw[fC,hn];omega)];have h1:sub .i64 (zD (p++[c]).length) 1=(p.length:Int):=by rw[hn,iR (by omega) (by omega)];omega
   simp only[h1,Pb,zB];unfold WR adC;by_cases hc:c=48
   ·subst hc
    rw[if_pos (show eqi (zD (UInt8.toNat 48)) 48=true from rfl),h1,lC];have:=ih (p,48) ⟨rfl,by show p.length<_;omega⟩ (by simp);refine Eq.trans this ?_;simp[CJ]
   ·have:eqi (zD c.toNat) 48=false:=by simp[eqi];intro e;apply hc;apply UInt8.toNat_inj.1;have:(48:UInt8).toNat=48:=rfl;omega
    rw[this,if_neg (by decide)];simp[Eu p hc]
 exact key 18446744073709551616 (s,48) ⟨rfl,h⟩ (by show s.length<_;omega)
abbrev PR:=(Int×Int)×Bool
def sQ(c:Bool)(b a:List UInt8)(d:Bool):PR :=
 if ko b=false∨(1<b.length∧b[0]? = some 48) then ((0,0),false)
 else if d=true∧(ko a=false∨6<a.length) then ((0,0),false)
 else if 1000000000000<dvn (dvn 0 b) (fF a) then ((0,0),false)
 else ((if c then -(dvn (dvn 0 b) (fF a)) else dvn (dvn 0 b) (fF a),((fF a).length:Int)),true)
theorem aeP{c:UInt8}(h:dg c=true):cvt .i64 (sub .u8 (zD c.toNat) 48)=(c.toNat:Int) - 48:=by
 have:=nO.1 h;have e:sub .u8 (zD c.toNat) 48=(c.toNat:Int) - 48:=by unfold sub;rw[ay,wu8 (by omega) (by omega)]
 rw[e,lY (by omega) (by omega)]
abbrev P4:=Bool×List UInt8×Int×List UInt8×List UInt8×List UInt8×Int×Int×Int×Int×Int
theorem PU(u3:Bool->List UInt8->Int->List UInt8->List UInt8->Int->Int->Int->Option aB)(neg:Bool)(rest part a b:List UInt8)(n t:Int)(hd:∀c∈part,dg c=true)(hl:part.length<1000000)(hn0:0≤n)(hn1:n≤1000000000000) :
  AO u3 neg rest n part a b t (zD part.length) 0 0 0=if 1000000000000<dvn n part then some ((0,0),false,()) else u3 neg rest (dvn n part) a b (add .i64 t 1) 0 0:=by
 have key:∀(n:Nat) (st:P4),(∃(i:Nat) (m:Int),st=(neg,rest,m,part,a,b,t,zD part.length,(i:Int),0,0)∧i≤part.length∧0≤m∧m≤1000000000000)->part.length - st.2.2.2.2.2.2.2.2.1.toNat<n ->
   aj (fun (self:P4->Option aB) (s:P4)=>WT u3 (fun negative rest n part t54 t54_2 t55 t59 t60 t2 t2_2=>self (negative,rest,n,part,t54,t54_2,t55,t59,t60,t2,t2_2)) s.1 s.2.1 s.2.2.1 s.2.2.2.1 s.2.2.2.2.1 s.2.2.2.2.2.1 s.2.2.2.2.2.2.1 s.2.2.2.2.2.2.2.1 s.2.2.2.2.2.2.2.2.1 s.2.2.2.2.2.2.2.2.2.1 s.2.2.2.2.2.2.2.2.2.2) n st =
    if 1000000000000<dvn st.2.2.1 (part.drop st.2.2.2.2.2.2.2.2.1.toNat) then some ((0,0),false,()) else u3 neg rest (dvn st.2.2.1 (part.drop st.2.2.2.2.2.2.2.2.1.toNat)) a b (add .i64 t 1) 0 0:=by
  refine qL (σ:=P4) (μ:=fun st=>part.length - st.2.2.2.2.2.2.2.2.1.toNat) (G:=fun st=>if 1000000000000<dvn st.2.2.1 (part.drop st.2.2.2.2.2.2.2.2.1.toNat) then some ((0,0),false,()) else u3 neg rest (dvn st.2.2.1 (part.drop st.2.2.2.2.2.2.2.2.1.toNat)) a b (add .i64 t 1) 0 0) ?_;rintro self st ⟨i,m,rfl,hi,hm0,hm1⟩ ih;simp only[zM]at ih ⊢;unfold WT
  cases hdr:part.drop i with
  | nil =>
   have:=drop_nil hdr;rw[if_neg (by rw[bg,ay];omega),ahA,if_neg (by omega)]
  | cons c r =>
   obtain⟨h1,h2,h3⟩:=xA hdr;have hc:dg c=true:=hd c (List.mem_of_mem_drop (by rw[hdr];exact List.mem_cons_self ..));have hcv:=nO.1 hc;rw[if_pos (by rw[bg,ay];omega),za hdr,zB,aeP hc,MJ (by omega) (by omega),lX (by omega) (by omega),PS,iO (by omega)];have hr:∀x∈r,dg x=true:=fun x hx=>hd x (List.mem_of_mem_drop (by rw[hdr];exact zO _ hx));have hge:=G5 (q:=r) (n:=10*m+((c.toNat:Int) - 48)) hr (by omega);by_cases hgt:1000000000000<10*m+((c.toNat:Int) - 48)
   ·rw[if_pos (by rw[fC];omega),if_pos (by omega)]
   ·rw[if_neg (by rw[fC];omega)]
    have:=ih (neg,rest,10*m+((c.toNat:Int) - 48),part,a,b,t,zD part.length,((i+1:Nat):Int),0,0) ⟨i+1,_,rfl,by omega,by omega,by omega⟩ (by simp;omega);refine this.trans ?_;simp only[zM,h1]
 have:=key 18446744073709551616 (neg,rest,n,part,a,b,t,zD part.length,0,0,0) ⟨0,n,rfl,by omega,hn0,hn1⟩ (by simp;omega);refine this.trans ?_;simp
@[reducible] def aeQ:Type:=(Bool)×(List UInt8)×(Int)×(List UInt8)×(List UInt8)×(Int)×(Int)×(Int)->Option aB
@[reducible] def aeR:Type:=(Bool)×(List UInt8)×(Int)×(List UInt8)×(List UInt8)×(Int)×(Int)×(Int)
theorem J5(n:Nat)(neg:Bool)(rest:List UInt8)(m:Int)(a b:List UInt8)(t:Int) : 
  aj (fun (self:aeQ) (s:aeR)=>Pm (AO (fun negative rest n t54 t54_2 t55 t2 t2_2=>self (negative,rest,n,t54,t54_2,t55,t2,t2_2))) (FB) (fun negative rest n t54 t54_2 t55 t2 t2_2=>self (negative,rest,n,t54,t54_2,t55,t2,t2_2)) s.1 s.2.1 s.2.2.1 s.2.2.2.1 s.2.2.2.2.1 s.2.2.2.2.2.1 s.2.2.2.2.2.2.1 s.2.2.2.2.2.2.2) (n+1) (neg,rest,m,a,b,t,0,0) =
  if lt t 2=true then if eqi t 1=true then AO (fun neg rest m a b t x y=>aj (fun (self:aeQ) (s:aeR)=>Pm (AO (fun negative rest n t54 t54_2 t55 t2 t2_2=>self (negative,rest,n,t54,t54_2,t55,t2,t2_2))) (FB) (fun negative rest n t54 t54_2 t55 t2 t2_2=>self (negative,rest,n,t54,t54_2,t55,t2,t2_2)) s.1 s.2.1 s.2.2.1 s.2.2.2.1 s.2.2.2.2.1 s.2.2.2.2.2.1 s.2.2.2.2.2.2.1 s.2.2.2.2.2.2.2) n (neg,rest,m,a,b,t,x,y)) neg rest m b a b t (zD b.length) 0 0 0 else if eqi t 0=true then AO (fun neg rest m a b t x y=>aj (fun (self:aeQ) (s:aeR)=>Pm (AO (fun negative rest n t54 t54_2 t55 t2 t2_2=>self (negative,rest,n,t54,t54_2,t55,t2,t2_2))) (FB) (fun negative rest n t54 t54_2 t55 t2 t2_2=>self (negative,rest,n,t54,t54_2,t55,t2,t2_2)) s.1 s.2.1 s.2.2.1 s.2.2.2.1 s.2.2.2.2.1 s.2.2.2.2.2.1 s.2.2.2.2.2.2.1 s.2.2.2.2.2.2.2) n (neg,rest,m,a,b,t,x,y)) neg rest m a a b t (zD a.length) 0 0 0 else none else FB neg rest m 0 0:=rfl
theorem aeS(neg:Bool)(w r:List UInt8)(hw:∀c∈w,dg c=true)(hr:∀c∈r,dg c=true)(hwl:w.length<1000000)(hrl:r.length<256) :
  Pn neg r 0 w r 0 0 0=if 1000000000000<dvn (dvn 0 w) r then some ((0,0),false,()) else some ((if neg then -(dvn (dvn 0 w) r) else dvn (dvn 0 w) r,(r.length:Int)),true,()):=by
 have h0:(0:Int)≤dvn 0 w:=G5 hw (Int.le_refl _);have h1:dvn 0 w≤dvn (dvn 0 w) r:=G5 hr h0;refine (J5 18446744073709551615 neg r 0 w r 0).trans ?_;rw[if_pos (by decide),if_neg (by decide),if_pos (by decide),PU _ _ _ _ _ _ _ _ hw hwl (by decide) (by decide)];by_cases hb:1000000000000<dvn 0 w
 ·rw[if_pos hb,if_pos (by omega)]
 ·rw[if_neg hb,show add .i64 0 1=1 from rfl]
  refine (J5 18446744073709551614 neg r _ w r 1).trans ?_;rw[if_pos (by decide),if_pos (by decide),PU _ _ _ _ _ _ _ _ hr (by omega) h0 (by omega)];by_cases hb2:1000000000000<dvn (dvn 0 w) r
  ·rw[if_pos hb2,if_pos hb2]
  ·rw[if_neg hb2,if_neg hb2,show add .i64 1 1=2 from rfl]
   refine (J5 18446744073709551613 neg r _ w r 2).trans ?_;rw[if_neg (by decide)];unfold FB adN adP adO;have e:cvt .u8 (zD r.length)=(r.length:Int):=wu8 (by rw[ay];omega) (by rw[ay];omega);rw[e];cases neg
   ·rfl
   ·rw[if_pos rfl,GX (by omega) (by omega)]
    rfl
theorem G6:∀r:List UInt8,(fF r).length≤r.length
 | []=>Nat.le_refl _
 | c::q=>by
  have ih:=G6 q;show (match fF q with | []=>_ | r=>_:List UInt8).length≤_
  cases h:fF q with
  | nil=>dsimp only;split<;>simp
  | cons a b=>rw[h]at ih;simp at ih ⊢;omega
theorem G7:∀{r:List UInt8} {c:UInt8},c∈fF r->c∈r
 | a::q,c,h=>by
  have ih:=@G7 q c;change c∈(match fF q with | []=>_ | r=>_:List UInt8) at h
  cases hq:fF q with
  | nil =>
   rw[hq]at h;dsimp only at h;split at h
   ·cases h
   ·simp at h;simp[h]
  | cons x y =>
   rw[hq]at h ih;rcases List.mem_cons.1 h with h | h
   ·simp[h]
   ·exact zO _ (ih h)
theorem FL{s:List UInt8}:ko s=true↔(∀c∈s,dg c=true)∧s ≠ []:=by simp[ko,List.all_eq_true]
theorem AZ(neg:Bool)(w r:List UInt8)(pt bad:Bool)(hwl:w.length<1000000)(hrl:r.length<1000000)(hpt:pt=false->r=[])
  (hbad:bad=true↔(ko w=false∨(1<w.length∧w[0]? = some 48))):tq neg w r pt bad 0 0=some ((sQ neg w r pt).1,(sQ neg w r pt).2,()):=by
 unfold tq adL sQ;by_cases hb:bad=true
 ·rw[if_pos hb,if_pos (hbad.1 hb)]
 ·rw[if_neg hb,if_neg (fun h=>hb (hbad.2 h))]
  have hw:ko w=true:=by
   cases h:ko w
   ·exact absurd (hbad.2 (.inl h)) hb
   ·rfl
  have hwd:=FL.1 hw
  have fin:(∀c∈r,dg c=true)->r.length≤6->WV neg w r false 0 0=some ((if 1000000000000<dvn (dvn 0 w) (fF r) then ((0,0),false) else ((if neg then -(dvn (dvn 0 w) (fF r)) else dvn (dvn 0 w) (fF r),((fF r).length:Int)),true):PR).1,(if 1000000000000<dvn (dvn 0 w) (fF r) then ((0,0),false) else ((if neg then -(dvn (dvn 0 w) (fF r)) else dvn (dvn 0 w) (fF r),((fF r).length:Int)),true):PR).2,()):=fun hr h6=>by
   unfold WV adM;rw[if_neg (by decide)];have go:Pn neg (fF r) 0 w (fF r) 0 0 0=some ((if 1000000000000<dvn (dvn 0 w) (fF r) then ((0,0),false) else ((if neg then -(dvn (dvn 0 w) (fF r)) else dvn (dvn 0 w) (fF r),((fF r).length:Int)),true):PR).1,(if 1000000000000<dvn (dvn 0 w) (fF r) then ((0,0),false) else ((if neg then -(dvn (dvn 0 w) (fF r)) else dvn (dvn 0 w) (fF r),((fF r).length:Int)),true):PR).2,()):=by rw[aeS neg w (fF r) hwd.1 (fun c hc=>hr c (G7 hc)) hwl (by have:=G6 r;omega)];split<;>rfl
   by_cases hre:r=[]
   ·subst hre
    rw[if_pos (by decide)];exact go
   ·rw[if_neg (by rw[lZ];exact hre),PT hrl,zB]
    exact go
  cases pt
  ·rw[if_neg (by decide),if_neg (by simp)]
   rw[hpt rfl]at fin ⊢;exact fin (fun c h=>by cases h) (by simp)
  ·rw[if_pos rfl,vW hrl,zB]
   by_cases hr:ko r=true
   ·rw[if_neg (by simp[hr])]
    by_cases h6:6<r.length
    ·have e:gt (zD r.length) 6=true:=by rw[fC,ay];omega
     rw[e,if_pos ⟨rfl,.inr h6⟩];rfl
    ·have e:gt (zD r.length) 6=false:=by simp[gt];omega
     rw[e,if_neg (by simp[hr];omega)];exact fin (FL.1 hr).1 (by omega)
   ·have hr':ko r=false:=by simpa using hr
    rw[if_pos (by simp[hr']),if_pos ⟨rfl,.inl hr'⟩];rfl
def lI(b:Bool)(a:List UInt8):PR:=sQ b (a.takeWhile (·!= 46)) ((a.dropWhile (·!= 46)).drop 1) (a.contains 46)
def jw(s:List UInt8):PR:=if s.head? = some 45 then lI true (s.drop 1) else lI false s
theorem MK{c:UInt8}{s:List UInt8}(h:c ∉ s):s.takeWhile (·!= c)=s∧s.dropWhile (·!= c)=[]∧s.contains c=false:=by
 induction s with
 | nil=>exact⟨rfl,rfl,rfl⟩
 | cons b q ih =>
  have hb:b≠c:=fun e=>h (by simp[e]);obtain⟨h1,h2,h3⟩:=ih (fun hm=>h (zO _ hm));have hb':(b != c)=true:=by simp[hb]
  refine⟨by simp[hb',h1],by simp[hb',h2],?_⟩;simp only[List.contains_cons,h3,Bool.or_false];simp;exact fun e=>hb e.symm
theorem G8{c:UInt8}{p q:List UInt8}(h:c ∉ p):(p++c::q).takeWhile (·!= c)=p∧(p++c::q).dropWhile (·!= c)=c::q∧(p++c::q).contains c=true:=by
 induction p with
 | nil=>simp
 | cons b r ih =>
  have hb:b≠c:=fun e=>h (by simp[e]);obtain⟨h1,h2,h3⟩:=ih (fun hm=>h (zO _ hm));have hb':(b != c)=true:=by simp[hb]
  refine⟨by simp[hb',h1],by simp[hb',h2],?_⟩;simp
theorem Lg{neg:Bool}{t:List UInt8}(h:(46:UInt8) ∉ t):lI neg t=sQ neg t [] false:=by obtain⟨h1,h2,h3⟩:=MK h;unfold lI;rw[h1,h2,h3];rfl
theorem G9{neg:Bool}{p q:List UInt8}(h:(46:UInt8) ∉ p):lI neg (p++46::q)=sQ neg p q true:=by obtain⟨h1,h2,h3⟩:=G8 (q:=q) h;simp only[lI,h1,h2,h3];simp
theorem ahB{w:List UInt8}(c:UInt8)(q:List UInt8)(e:w=c::q)(h:ko w=true)(hl:1<w.length):eqi (zD c.toNat) 48=true↔(ko w=false∨(1<w.length∧w[0]? = some 48)):=by
 subst e;simp[h,eqi]at hl ⊢;constructor
 ·intro h2
  refine⟨hl,UInt8.toNat_inj.1 ?_⟩;have:(48:UInt8).toNat=48:=rfl;omega
 ·rintro⟨_,rfl⟩;rfl
theorem PV{s p:List UInt8}:Pj (s,p,())=some (decide (p <+: s),()):=by
 show (if ge (zD s.length) (zD p.length)=true then _ else _)=_;by_cases h:p.length≤s.length
 ·rw[if_pos (by rw[dN,ay,ay];omega),ay,ZL h,zB]
  congr 2
  rw[Bool.eq_iff_iff,lZ,decide_eq_true_iff,List.prefix_iff_eq_take];exact⟨fun h=>h.symm,fun h=>h.symm⟩
 ·rw[if_neg (by rw[dN,ay,ay];omega)]
  congr 2
  symm;rw[decide_eq_false_iff_not];intro hp;exact h hp.length_le
theorem PW{s p:List UInt8}:WH (s,p,())=some (if p <+: s then (s.drop p.length,true,()) else (s,false,())):=by
 show (WG (s,p,())).bind _=_
 have:WG (s,p,())=some (if p <+: s then (s.drop p.length,true,()) else (s,false,())):=by
  show (Pj (s,p,())).bind _=_;rw[PV,zB];by_cases h:p <+: s
  ·rw[if_neg (by simp[h]),if_pos h,ay,qM h.length_le,zB]
  ·rw[if_pos (by simp[h]),if_neg h]
 rw[this,zB]
theorem aeT{s:List UInt8}(hl:s.length<1000000):adR (s,())=some ((jw s).1,(jw s).2,()):=by
 show WU tq s=_
 have go:∀(neg:Bool) (t:List UInt8),t.length<1000000 ->
   (if eqs [46] t=true then (cut t 1 (zD t.length)).bind fun y_1=>(vL ([],())).bind fun y_2=>if (!y_2.1)=true then tq neg [] y_1 true true 0 0 else tq neg [] y_1 true false 0 0
    else if ge (Go.Lib.indexByte t 46) 0=true then (cut t 0 (Go.Lib.indexByte t 46)).bind fun y_1=>(cut t (add .i64 (Go.Lib.indexByte t 46) 1) (zD t.length)).bind fun y_2=>(vL (y_1,())).bind fun y_3=>if (!y_3.1)=true then tq neg y_1 y_2 true true 0 0 else if gt (zD y_1.length) 1=true then (at? y_1 0).bind fun c=>tq neg y_1 y_2 true (eqi (zD c.toNat) 48) 0 0 else tq neg y_1 y_2 true false 0 0
    else (vL (t,())).bind fun y_1=>if (!y_1.1)=true then tq neg t [] false true 0 0 else if gt (zD t.length) 1=true then (at? t 0).bind fun c=>tq neg t [] false (eqi (zD c.toNat) 48) 0 0 else tq neg t [] false false 0 0)=some ((lI neg t).1,(lI neg t).2,()):=by
  intro neg t ht
  have side:∀(w r:List UInt8) (pt:Bool),w.length<1000000->r.length<1000000->(pt=false->r=[])->((vL (w,())).bind fun y_1=>if (!y_1.1)=true then tq neg w r pt true 0 0 else if gt (zD w.length) 1=true then (at? w 0).bind fun c=>tq neg w r pt (eqi (zD c.toNat) 48) 0 0 else tq neg w r pt false 0 0)=some ((sQ neg w r pt).1,(sQ neg w r pt).2,()):=by
   intro w r pt hw hr hp;rw[vW hw,zB];by_cases hd:ko w=true
   ·rw[if_neg (by simp[hd])]
    by_cases h1:1<w.length
    ·rw[if_pos (by rw[fC,ay];omega)]
     cases w with
     | nil=>simp at h1
     | cons c q=>exact AZ neg (c::q) r pt _ hw hr hp (ahB c q rfl hd h1)
    ·rw[if_neg (by rw[fC,ay];omega)]
     exact AZ neg w r pt false hw hr hp (by simp[hd];omega)
   ·have hd':ko w=false:=by simpa using hd
    rw[if_pos (by simp[hd'])];exact AZ neg w r pt true hw hr hp (by simp[hd'])
  by_cases he:t=[46]
  ·subst he
   rw[if_pos (by decide),show cut ([46]:List UInt8) 1 (zD [(46:UInt8)].length)=some [] from rfl,zB,vW (by simp),zB,if_pos (by decide)];exact AZ neg [] [] true true (by simp) (by simp) (by simp) (by simp[ko])
  ·rw[if_neg (by rw[lZ];exact fun h=>he h.symm)]
   rcases Fv 46 t with h46 | ⟨p,q,rfl,h46⟩
   ·rw[AB 46 t h46,if_neg (by decide),Lg h46]
    exact side t [] false ht (by simp) (fun _=>rfl)
   ·simp at ht
    rw[xB 46 p q h46,if_pos (by rw[dN];omega),lC,zB,iO (by omega),qM (by simp),zB,G9 h46];have:(p++46::q).drop (p.length+1)=q:=by simp
    rw[this];exact side p q true (by omega) (by omega) (by simp)
 unfold WU;rw[PW]
 cases s with
 | nil =>
  rw[if_neg (by simp),zB];exact go false [] (by simp)
 | cons a q =>
  by_cases ha:a=45
  ·subst ha
   have:jw (45::q)=lI true q:=by simp[jw]
   rw[this,if_pos (by simp),zB];exact go true q (by simp at hl;omega)
  ·have:jw (a::q)=lI false (a::q):=by simp[jw,ha]
   rw[this,if_neg (by simp;intro e;exact ha e.symm),zB];exact go false (a::q) hl
end Go.Proofs.Lx
end
noncomputable section
namespace Go.Proofs.Lx
open Go Ev Sx Pl
set_option maxRecDepth 10000
end Go.Proofs.Lx
end
noncomputable section
namespace Go.Proofs.Lx
open Go Ev Sx Pl
set_option maxRecDepth 10000
def st0:Nat->Int->Int×Nat
 | 0,n=>(n,0)
 | d+1,n=>if n.tmod 10=0 then st0 d (n.tdiv 10) else (n,d+1)
end Go.Proofs.Lx
end
noncomputable section
namespace Go.Proofs.Lx
open Go Ev Sx Pl
set_option maxRecDepth 10000
abbrev Tk1:=Int×List UInt8×(Int×Int)×Int
def kd(c:UInt8):Int:=if w1 c.toNat then 1 else if n1 c.toNat then 2 else if e1 c.toNat then 3 else 0
theorem alZ(c:UInt8):(w1 c.toNat=true->n1 c.toNat=false∧e1 c.toNat=false)∧(n1 c.toNat=true->e1 c.toNat=false):=by
 have:=Wv (p:=fun n=>(!(w1 n) || (!(n1 n) && !(e1 n))) && (!(n1 n) || !(e1 n))) (by kernel_rfl) c;constructor
 ·intro h;simp[h]at this;exact this.1
 ·intro h;simp[h]at this;exact this.2
theorem aeU(j2:Int->TL->Option RL)(j3:Int->List UInt8->TL->Int->List UInt8->Int->Int->Int->Option RL)(self1:Int->List UInt8->TL->Option RL)(a:Int)(t:List UInt8)(c:UInt8)(q:List UInt8)(l:TL)
  (ht:strings_TrimLeft (t,[9,13,32],())=some (c::q,())):FC j2 j3 self1 a t l=j3 a (c::q) l (kd c) [] 0 0 a:=by
 have e4:eqs (c::q) []=false:=rfl;have hr:∀x,iw sN.rs x x=true:=xC _;obtain⟨x1,x2⟩:=alZ c;unfold FC kd;rw[ht,zB];have e1:pX (zD c.toNat,())=some (w1 c.toNat,()):=asX c;have e2:pY (zD c.toNat,())=some (n1 c.toNat,()):=asY c;have e3:pZ (zD c.toNat,())=some (Lx.e1 c.toNat,()):=asZ c;simp only[e4,Bool.false_eq_true,if_false,uV,zB];rw[e1,e2,e3];simp only[zB];cases hw:w1 c.toNat
 ·cases hn:n1 c.toNat
  ·cases he:Lx.e1 c.toNat
   ·simp only[Bool.false_eq_true,if_false,if_true]
    rw[JD hr];exact Ww hr _
   ·simp only[Bool.false_eq_true,if_false,if_true]
    rw[JD hr];exact Ww hr _
  ·have he:=x2 hn
   rw[he];simp only[Bool.false_eq_true,if_false,if_true];rw[JD hr];exact Ww hr _
 ·obtain⟨hn,he⟩:=x1 hw
  rw[hn,he];simp only[Bool.false_eq_true,if_false,if_true];rw[JD hr];exact Ww hr _
theorem PX(g:aeO)(n:Int)(t:List UInt8):Xb (Xc g) g n t=if lt n (zD t.length)=true then (at? t n).bind fun c=>(yw (zD c.toNat,())).bind fun y=>if y.1=true then g (add .i64 n 1) t else JN n t else JN n t:=rfl
theorem Si(p q:List UInt8):JN (p.length:Int) (p++q)=some (p,q,()):=by unfold JN;rw[lC,zB,Fu,zB]
theorem PY:∀(q p:List UInt8) (n:Nat),q.length<n->p.length+q.length<1000000 ->
  aj (fun (self:Int×List UInt8->Option (As [.str,.str])) (s:Int×List UInt8)=>Xb (Xc (fun n t1=>self (n,t1))) (fun n t1=>self (n,t1)) s.1 s.2) n ((p.length:Int),p++q) =
   some (p++q.takeWhile (fun c=>nm c.toNat),q.dropWhile (fun c=>nm c.toNat),())
 | q,p,0,h,_=>by omega
 | [],p,n+1,h,hl=>by
  have h1:lt (p.length:Int) (zD (p++[]).length)=false:=by simp[lt]
  refine (PX _ _ _).trans ?_;rw[if_neg (by rw[h1];decide),Si];simp
 | c::q,p,n+1,h,hl=>by
  have h1:lt (p.length:Int) (zD (p++c::q).length)=true:=by simp[lt];omega
  have ih:=PY q (p++[c]) n (by simp at h;omega) (by simp at hl ⊢;omega);refine (PX _ _ _).trans ?_;rw[if_pos h1,Pb,zB,as1,zB];cases hb:nm c.toNat
  ·simp only[Bool.false_eq_true,if_false,Si,List.takeWhile_cons,List.dropWhile_cons,hb,List.append_nil]
  ·have ha:add .i64 (p.length:Int) 1=((p++[c]).length:Int):=by unfold add;rw[w64 (by omega) (by simp at hl;omega)];simp
   have e:p++c::q=(p++[c])++q:=by simp
   simp only[if_true,ha,List.takeWhile_cons,List.dropWhile_cons,hb];rw[e,ih];simp
theorem aj6(c:UInt8)(q:List UInt8)(h:q.length<100000):Xd (c::q,())=some (c::q.takeWhile (fun c=>nm c.toNat),q.dropWhile (fun c=>nm c.toNat),()) :=
 PY q [c] 18446744073709551616 (by omega) (by simp;omega)
theorem aj7(c:UInt8)(q:List UInt8):Xh (c::q,())=some ([c],q,()):=by
 have hm3:Xg 1 (c::q)=some ([c],q,()):=by unfold Xg;have h1:cut (c::q) 0 1=some [c]:=lC [c] q;rw[h1,zB,Se,zB]
 have step:∀(g:aeO),Xf (Pt g) g 1 (c::q)=some ([c],q,()):=fun g=>by
  unfold Xf;have hK:Pt g 1 false (c::q)=some ([c],q,()):=by unfold Pt aea;rw[if_neg (by decide)];exact hm3
  have hf:∀x,Cv (x,())=some (false,()):=fun x=>rfl
  cases q with
  | nil=>rw[if_neg (by simp[lt])];exact hK
  | cons d r =>
   rw[if_pos (by rw[bg,ay];simp;omega),show at? (c::d::r) 1=some d from rfl,zB,hf,zB];exact hK
 exact step _
def jg(a:Int)(c:UInt8)(q:List UInt8):Int ⊕ (Tk1×List UInt8) :=
 if w1 c.toNat then (if 20<(c::q.takeWhile (fun c=>wm c.toNat)).length then .inl 133 else .inr ((1,c::q.takeWhile (fun c=>wm c.toNat),(0,0),a),q.dropWhile (fun c=>wm c.toNat)))
 else if n1 c.toNat then (if (jw (c::q.takeWhile (fun c=>nm c.toNat))).2=true then .inr ((2,c::q.takeWhile (fun c=>nm c.toNat),(jw (c::q.takeWhile (fun c=>nm c.toNat))).1,a),q.dropWhile (fun c=>nm c.toNat)) else .inl 132)
 else if e1 c.toNat then .inr ((3,[c],(0,0),a),q)
 else .inl 131
theorem qN{a:Int}{c:UInt8}{q:List UInt8}{t:Tk1}{r:List UInt8}(h:jg a c q = .inr (t,r)):r.length≤q.length:=by
 have hd:∀p:UInt8->Bool,(q.dropWhile p).length≤q.length:=fun p=>(List.dropWhile_suffix p).length_le;unfold jg at h;split at h
 ·split at h
  ·cases h
  ·cases h;exact hd _
 ·split at h
  ·split at h
   ·cases h;exact hd _
   ·cases h
  ·split at h
   ·cases h;exact Nat.le_refl _
   ·cases h
theorem aeV(self:Int×List UInt8×TL->Option RL)(a:Int)(t:List UInt8)(c:UInt8)(q:List UInt8)(l:TL)(ht:strings_TrimLeft (t,[9,13,32],())=some (c::q,()))(hq:q.length<100000)(hl:l.length<1000000) :
  agB self (a,t,l)=match jg a c q with
   | .inl e=>some ([],e,())
   | .inr (tk,r)=>self (a,r,l++[tk]):=by
 refine (aeU _ _ _ a t c q l ht).trans ?_;have hs:small (l.length+1)=true:=oU.2 (by omega);unfold Xw ael kd jg;cases hw:w1 c.toNat
 ·cases hn:n1 c.toNat
  ·cases he:Lx.e1 c.toNat
   ·rfl
   ·simp only[Bool.false_eq_true,if_false,if_true]
    rw[if_neg (by decide),if_neg (by decide),if_pos (by decide),aj7,zB];unfold Pq ajr;simp only[zB];rw[if_neg (by decide),gW hs]
  ·simp only[Bool.false_eq_true,if_false,if_true]
   rw[if_neg (by decide),if_pos (by decide),aj6 c q hq,zB];have hlen:(c::q.takeWhile (fun c=>nm c.toNat)).length<1000000:=by have:=(List.takeWhile_prefix (l:=q) (fun c=>nm c.toNat)).length_le;simp;omega
   generalize c::q.takeWhile (fun c=>nm c.toNat)=u at hlen ⊢;unfold Po ajo;simp only;rw[aeT hlen,zB];cases hp:(jw u).2
   ·simp only[Bool.not_false,if_true,zB,Bool.false_eq_true,if_false]
    rw[if_pos (by decide)]
   ·simp only[Bool.not_true,if_true,zB,Bool.false_eq_true,if_false]
    rw[if_neg (by decide),gW hs]
 ·simp only[if_true]
  rw[if_pos (by decide),as2 c q hq,zB];generalize c::q.takeWhile (fun c=>wm c.toNat)=u;unfold Pg ajj;by_cases h:20<u.length
  ·have h2:gt (zD u.length) 20=true:=by simp[gt];omega
   simp only[h2,if_true,zB,if_pos h];rw[if_pos (by decide)]
  ·have h2:gt (zD u.length) 20=false:=by simp[gt];omega
   simp only[h2,Bool.false_eq_true,if_false,zB,if_neg h];rw[if_neg (by decide),gW hs]
def bR(a:Int)(s:List UInt8)(l:TL):TL×Int :=
 match h:s.dropWhile (fun c=>isB c.toNat) with
 | []=>(if l=[] then [] else l++[(4,[],(0,0),a)],0)
 | c::q=>match h2:jg a c q with
  | .inl e=>([],e)
  | .inr (t,r)=>bR a r (l++[t])
termination_by s.length
decreasing_by
 have h1:=qN h2;have h3:=(List.dropWhile_suffix (l:=s) (fun c=>isB c.toNat)).length_le;rw[h]at h3;simp at h3;omega
theorem xD{a:Int}{s:List UInt8}{l:TL}(h:s.dropWhile (fun c=>isB c.toNat)=[]):bR a s l=(if l=[] then [] else l++[(4,[],(0,0),a)],0):=by
 rw[bR];split
 ·rfl
 ·rename_i h2;rw[h]at h2;cases h2
theorem CK{a:Int}{s:List UInt8}{l:TL}{c:UInt8}{q:List UInt8}{e:Int}(h:s.dropWhile (fun c=>isB c.toNat)=c::q)(h2:jg a c q = .inl e):bR a s l=([],e):=by
 rw[bR];split
 ·rename_i h3;rw[h]at h3;cases h3
 ·rename_i c' q' h3
  rw[h]at h3;cases h3;split
  ·rename_i e' h4;rw[h2]at h4;cases h4;rfl
  ·rename_i h4;rw[h2]at h4;cases h4
theorem CO{a:Int}{s:List UInt8}{l:TL}{c:UInt8}{q:List UInt8}{t:Tk1}{r:List UInt8}(h:s.dropWhile (fun c=>isB c.toNat)=c::q)(h2:jg a c q = .inr (t,r)):bR a s l=bR a r (l++[t]):=by
 rw[bR];split
 ·rename_i h3;rw[h]at h3;cases h3
 ·rename_i c' q' h3
  rw[h]at h3;cases h3;split
  ·rename_i e' h4;rw[h2]at h4;cases h4
  ·rename_i t' r' h4;rw[h2]at h4;cases h4;rfl
theorem ZO:∀(n:Nat) (st:Int×List UInt8×TL),(st.2.1.length<90000∧st.2.2.length+st.2.1.length<100000)->st.2.1.length<n->aj agB n st=some ((bR st.1 st.2.1 st.2.2).1,(bR st.1 st.2.1 st.2.2).2,()):=by
 refine qL (σ:=Int×List UInt8×TL) (μ:=fun st=>st.2.1.length) (G:=fun st=>some ((bR st.1 st.2.1 st.2.2).1,(bR st.1 st.2.1 st.2.2).2,())) ?_;rintro self ⟨a,s,l⟩ ⟨h1,h2⟩ ih;simp only at h1 h2 ih ⊢;have h3:=(List.dropWhile_suffix (l:=s) (fun c=>isB c.toNat)).length_le;have ht:=qC (s:=s) (by omega)
 cases hd:s.dropWhile (fun c=>isB c.toNat) with
 | nil =>
  rw[xD hd];rw[hd]at ht;show FC _ _ _ a s l=_;unfold FC;rw[ht,zB,if_pos (by decide)];unfold Xv aek
  cases l with
  | nil=>rfl
  | cons x y =>
   rw[if_pos (by rw[fC,ay];simp),jU (by simp at h2 ⊢;omega)];rfl
 | cons c q =>
  rw[hd]at ht h3;simp at h3;rw[aeV self a s c q l ht (by omega) (by omega)]
  cases h4:jg a c q with
  | inl e=>rw[CK hd h4]
  | inr p =>
   obtain⟨t,r⟩:=p;rw[CO hd h4];have h5:=qN h4;exact ih (a,r,l++[t]) ⟨by show r.length<_;omega,by show (l++[t]).length+r.length<_;simp;omega⟩ (by show r.length<_;omega)
def dO(s:List UInt8):List UInt8:=s.takeWhile (·!= 35)
theorem ahC(s:List UInt8)(n:Int)(h:s.length<80000):FD (s,n,())=some ((bR n (dO s) []).1,(bR n (dO s) []).2,()):=by
 show Xu Pv s n=_;unfold Xu;have go:∀t:List UInt8,t.length<80000->Pv n t []=some ((bR n t []).1,(bR n t []).2,()):=fun t ht=>ZO 18446744073709551616 (n,t,[]) ⟨by show t.length<_;omega,by show ([]:TL).length+t.length<_;simp;omega⟩ (by show t.length<_;omega);by_cases he:s=[35]
 ·subst he
  rw[if_pos (by decide),show cut ([35]:List UInt8) 1 (zD [(35:UInt8)].length)=some [] from rfl,zB];exact go [] (by simp)
 ·rw[if_neg (by rw[lZ];exact fun h=>he h.symm)]
  rcases Fv 35 s with h35 | ⟨p,q,rfl,h35⟩
  ·rw[AB 35 s h35,if_neg (by decide)]
   have:dO s=s:=(MK h35).1;rw[this];exact go s h
  ·simp at h
   rw[xB 35 p q h35,if_pos (by rw[dN];omega),lC,zB,iO (by omega),qM (by simp),zB];have:dO (p++35::q)=p:=(G8 h35).1;rw[this];exact go p (by omega)
end Go.Proofs.Lx
end
