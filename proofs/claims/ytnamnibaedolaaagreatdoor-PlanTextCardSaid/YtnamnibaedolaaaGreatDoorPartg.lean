/- Proved in the last of these 15 parts (this is part 7): PlanText. Conditions: those of the given statement, and no others. -/
import Derived.Test.YtnamnibaedolaaaGreatDoorParte
import Derived.Test.YtnamnibaedolaaaGreatDoorPartf
import Derived.Test.YtnamnibaedolaaaGreatDoorProg
import Derived.Shelf.Strconv.Itoa1
import Derived.Shelf.LaysM
import Derived.Shelf.Strconv.Itoa3
import Derived.Shelf.Strings.Builder1
import Derived.Shelf.Strings.Builder2
import Derived.Shelf.Strings.OnBuilder
import Derived.Lib.AppendIntMem
import Derived.WalkKit
import Derived.BigCall
import Derived.BigGuard
import Derived.Lib.Walk
import Derived.Test.YtnamnibaedolaaaGreatDoorRows
set_option linter.unusedVariables false
set_option linter.unusedSimpArgs false
set_option linter.unusedSectionVars false
open Option renaming bind → zA
open Int renaming ofNat → zD
open List renaming length → zE, mem_cons_of_mem → zO
noncomputable section
open Go Go.Proofs Ev Sx
set_option maxRecDepth 100000
namespace Go.Proofs.Lx
abbrev kQ:Type:=List UInt8×Int×Int×Bool×(Int×Int)×(Int×Int)×List UInt8
@[reducible] def VQ:Sh:=shD [.pr .str (.sl (.pr .str cu))] [.bool]
def acU:Env:=(cts [(145,(⟨acP,Ji⟩:Ct)),(147,(⟨VL,Fg⟩:Ct))])
def acV:List (Nat×Hint):=[(122,⟨[],[3,4,20,21,22,30,31,32,33,34,37,38,39,40,41]⟩),(7833,⟨[.agd 32 .str,.agd 33 .bool,.agd 34 .bool,.agd 39 (.int .i64),.agd 40 .bool,.agd 41 .bool],[3,4,20,21,22,42]⟩),(6,⟨[],[1,16,30,31,32,33,34,37,38,39,40,41]⟩)]
@[reducible] def zG0:Type:=List UInt8×List dU
def acW(b:Bool)(a:zG0):St:=⟨[(1,.pb 0 0),(16,dB b)],44,[],[(0,.box 68 [dS a.1,.d (.sl (.pr .str cu)) a.2])],1,[],0⟩
@[reducible] def zG1:Type:=List (List UInt8×Unit)
def Jj(c:List dU)(d e:Int)(a:zG1)(b:List (Int×Unit)):St:=⟨[(3,.fn (.func 124) [] [.pb 0 0]),(4,.fn (.func 171) [] [.pb 2 0]),(20,.d (.sl (.pr .str cu)) c),(21,dI d),(22,dI e)],44,[],[(0,.box 179 [.mp 1]),(1,.dm .str .un a),(2,.box 229 [.mp 3]),(3,.dm (.int .i64) .un b)],4,[],0⟩
def acX(c:List dU)(d e:Int)(f:Bool)(a:zG1)(b:List (Int×Unit)):St:=⟨[(3,.fn (.func 124) [] [.pb 0 0]),(4,.fn (.func 171) [] [.pb 2 0]),(20,.d (.sl (.pr .str cu)) c),(21,dI d),(22,dI e),(42,dB f)],44,[],[(0,.box 179 [.mp 1]),(1,.dm .str .un a),(2,.box 229 [.mp 3]),(3,.dm (.int .i64) .un b)],4,[],0⟩
@[reducible] def zG2:Type:=List dU->Int->Int->List (List UInt8×Unit)->List (Int×Unit)->Option aA
def ai5(b:zG2)(c:Bool)(a:zG0):Option aA :=
 if c=true then some (false,()) else b a.2 (zD (zE a.2)) 0 [] []
def Jk(g:List dU->Int->Int->Bool->List (List UInt8×Unit)->List (Int×Unit)->Option aA)(i:zG2)(e:List dU)(f b:Int)(c:zG1)(d:List (Int×Unit)):Option aA :=
 if lt b f=true then zA (at? e b) fun a=>zA (Fg (a,())) fun h=>if (!h.1)=true then g e f b true c d else if (!!Ev.isV .un (Ev.bq .str c a.1))=true then g e f b true (Ev.dh .str c a.1 ()) d else g e f b (!!Ev.isV .un (Ev.bq (.int .i64) d a.2.1)) (Ev.dh .str c a.1 ()) (Ev.dh (.int .i64) d a.2.1 ()) else some (true,())
def VR(c:zG2)(d:List dU)(e f:Int)(g:Bool)(a:zG1)(b:List (Int×Unit)):Option aA :=
 if g=true then some (false,()) else c d e (add .i64 f 1) a b
def VT(b:Bool->List UInt8×List dU->Option aA)(a:zG0):Option aA :=
 zA (Ji (a.1,())) fun c=>if (!c.1)=true then b true a else b (gt (zD (zE a.2)) 64) a
def OV(a:zG2):=VR a
def OX(d:List dU)(e f:Int)(a:zG1)(b:List (Int×Unit)):Option aA :=
 aj (fun g c=>Jk (OV (fun d e f a b=>g (d,e,f,a,b))) (fun d e f a b=>g (d,e,f,a,b)) c.1 c.2.1 c.2.2.1 c.2.2.2.1 c.2.2.2.2) 18446744073709551616 (d,e,f,a,b)
def Fh:=ai5 (OX)
def Fj(x:As [.pr .str (.sl (.pr .str cu))]):Option aA:=VT Fh x.1
abbrev pCj:=zp acU acV 123 VQ
theorem anX{J w2 a b c d e f}:pCj J 7833 [w2] (acX a b c d e f)=VR (C w2 Jj) a b c d e f:=by kernel_rfl
theorem anY{J w2 a b c d e}:pCj J 122 [w2] (Jj a b c d e)=Jk (C (J 7833 [w2]) acX) (C w2 Jj) a b c d e:=by kernel_rfl
theorem anZ{J a b}:pCj J 6 [] (acW a b)=ai5 (C (J 122 []) Jj) a b:=by kernel_rfl
abbrev pCi:=zj acU acV 123 VQ
theorem an0{w2}:C (pCi 7833 [w2]) acX=OV (C w2 Jj):=gNC (by decide) fun _=>anX
theorem an1:C (pCi 122 []) Jj=OX:=gLC (by decide) (by kernel_rfl) (fun _=>by unfold OX;rfl) fun _ _=>anY.trans (by rw[an0]<;>kernel_rfl)
theorem an2:C (pCi 6 []) acW=Fh:=gNC (by decide) fun _=>anZ.trans (by rw[an1]<;>kernel_rfl)
theorem an3:au Tryz.prog (fun _=>True) 123 ⟨VQ,Fj⟩:=zcc (env:=acU) (d:=6) (hs:=Ev.get acV) (av ai3 (av anW bN)) (fun J x=>VT (C (J 6 []) acW) x.1) (fun _ _=>by kernel_rfl) fun _=>by rw[an2]<;>rfl
@[reducible] def VU:Sh:=shD [.sl (.pr .str (.sl (.pr .str cu)))] [.bool]
def acY:Env:=(cts [(123,(⟨VQ,Fj⟩:Ct))])
def acZ:List (Nat×Hint):=[(122,⟨[],[3,15,16,17,25,26,27,28,29]⟩),(7833,⟨[.agd 27 .str,.agd 28 .bool,.agd 29 .bool],[3,15,16,17,30]⟩),(6,⟨[],[0,13,25,26,27,28,29]⟩)]
@[reducible] def zG3:Type:=List (List UInt8×List dU)
def ac0(a:zG3)(b:Bool):St:=⟨[(0,.d (.sl (.pr .str (.sl (.pr .str cu)))) a),(13,dB b)],32,[],[],0,[],0⟩
def Jl(b:zG3)(c d:Int)(a:zG1):St:=⟨[(3,.fn (.func 124) [] [.pb 0 0]),(15,.d (.sl (.pr .str (.sl (.pr .str cu)))) b),(16,dI c),(17,dI d)],32,[],[(0,.box 179 [.mp 1]),(1,.dm .str .un a)],2,[],0⟩
def ac1(b:zG3)(c d:Int)(e:Bool)(a:zG1):St:=⟨[(3,.fn (.func 124) [] [.pb 0 0]),(15,.d (.sl (.pr .str (.sl (.pr .str cu)))) b),(16,dI c),(17,dI d),(30,dB e)],32,[],[(0,.box 179 [.mp 1]),(1,.dm .str .un a)],2,[],0⟩
@[reducible] def zG4:Type:=List (List UInt8×List dU)->Int->Int->List (List UInt8×Unit)->Option aA
def ai6(b:zG4)(a:zG3)(c:Bool):Option aA :=
 if c=true then some (false,()) else b a (zD (zE a)) 0 []
def Jm(f:List (List UInt8×List dU)->Int->Int->Bool->List (List UInt8×Unit)->Option aA)(h:zG4)(c:zG3)(d a:Int)(b:zG1):Option aA :=
 if lt a d=true then zA (at? c a) fun e=>zA (Fj (e,())) fun g=>if (!g.1)=true then f c d a true b else f c d a (!!Ev.isV .un (Ev.bq .str b e.1)) (Ev.dh .str b e.1 ()) else some (true,())
def VW(b:zG4)(c:zG3)(d e:Int)(f:Bool)(a:zG1):Option aA :=
 if f=true then some (false,()) else b c d (add .i64 e 1) a
def VX(b:List (List UInt8×List dU)->Bool->Option aA)(a:zG3):Option aA :=
 if lt (zD (zE a)) 1=true then b a true else b a (gt (zD (zE a)) 8)
def OY(a:zG4):=VW a
def OZ(b:zG3)(c d:Int)(a:zG1):Option aA :=
 aj (fun f e=>Jm (OY (fun b c d a=>f (b,c,d,a))) (fun b c d a=>f (b,c,d,a)) e.1 e.2.1 e.2.2.1 e.2.2.2) 18446744073709551616 (b,c,d,a)
def Fp:=ai6 (OZ)
def VY(x:As [.sl (.pr .str (.sl (.pr .str cu)))]):Option aA:=VX Fp x.1
abbrev pCd:=zp acY acZ 92 VU
theorem an4{J w2 a b c d e}:pCd J 7833 [w2] (ac1 a b c d e)=VW (C w2 Jl) a b c d e:=by kernel_rfl
theorem an5{J w2 a b c d}:pCd J 122 [w2] (Jl a b c d)=Jm (C (J 7833 [w2]) ac1) (C w2 Jl) a b c d:=by kernel_rfl
theorem an6{J a b}:pCd J 6 [] (ac0 a b)=ai6 (C (J 122 []) Jl) a b:=by kernel_rfl
abbrev pCc:=zj acY acZ 92 VU
theorem an7{w2}:C (pCc 7833 [w2]) ac1=OY (C w2 Jl):=gNC (by decide) fun _=>an4
theorem an8:C (pCc 122 []) Jl=OZ:=gLC (by decide) (by kernel_rfl) (fun _=>by unfold OZ;rfl) fun _ _=>an5.trans (by rw[an7]<;>kernel_rfl)
theorem an9:C (pCc 6 []) ac0=Fp:=gNC (by decide) fun _=>an6.trans (by rw[an8]<;>kernel_rfl)
theorem aoa:au Tryz.prog (fun _=>True) 92 ⟨VU,VY⟩:=zcc (env:=acY) (d:=6) (hs:=Ev.get acZ) (av an3 bN) (fun J x=>VX (C (J 6 []) ac0) x.1) (fun _ _=>by kernel_rfl) fun _=>by rw[an9]<;>rfl
@[reducible] def O0:Sh:=shD [.pr .str (.sl (.pr .str cu)),.str] [.pr .str cu,.bool]
def ac2:Env:=(cts [])
def ac3:List (Nat×Hint):=[(3,⟨[],[4]⟩),(26,⟨[],[1,4,9,10,11]⟩)]
def VZ(b:List UInt8)(e:List dU)(c d:Int)(a:kQ):St:=⟨[(1,dS b),(4,.pb 0 0),(9,.d (.sl (.pr .str cu)) e),(10,dI c),(11,dI d)],22,[],[(0,.box 70 [dS a.1,dI a.2.1,dI a.2.2.1,dB a.2.2.2.1,dI a.2.2.2.2.1.1,d8 a.2.2.2.2.1.2,dI a.2.2.2.2.2.1.1,d8 a.2.2.2.2.2.1.2,dS a.2.2.2.2.2.2])],1,[],0⟩
def ac4(a:kQ):St:=⟨[(4,.pb 0 0)],22,[],[(0,.box 70 [dS a.1,dI a.2.1,dI a.2.2.1,dB a.2.2.2.1,dI a.2.2.2.2.1.1,d8 a.2.2.2.2.1.2,dI a.2.2.2.2.2.1.1,d8 a.2.2.2.2.2.1.2,dS a.2.2.2.2.2.2])],1,[],0⟩
def Jn(g:kQ->Option (As [.pr .str cu,.bool]))(h:List UInt8->List dU->Int->Int->kQ->Option (As [.pr .str cu,.bool]))(b:List UInt8)(e:List dU)(c a:Int)(d:kQ):Option (As [.pr .str cu,.bool]) :=
 if lt a c=true then zA (at? e a) fun f=>if eqs f.1 b=true then some (f,true,()) else h b e c (add .i64 a 1) d else g d
def ai7(a:kQ):Option (As [.pr .str cu,.bool]) :=
 some (([],0,0,false,(0,0),(0,0),[]),false,())
def ai8(b:List UInt8->List dU->Int->Int->kQ->Option (As [.pr .str cu,.bool]))(a:zG0)(c:List UInt8):Option (As [.pr .str cu,.bool]) :=
 b c a.2 (zD (zE a.2)) 0 ([],0,0,false,(0,0),(0,0),[])
def V2:=ai7
def O1(b:List UInt8)(f:List dU)(c d:Int)(e:kQ):Option (As [.pr .str cu,.bool]) :=
 aj (fun g a=>Jn (V2) (fun b f c d e=>g (b,f,c,d,e)) a.1 a.2.1 a.2.2.1 a.2.2.2.1 a.2.2.2.2) 18446744073709551616 (b,f,c,d,e)
def Cn(x:As [.pr .str (.sl (.pr .str cu)),.str]):Option (As [.pr .str cu,.bool]):=ai8 O1 x.1 x.2.1
abbrev pCh:=zp ac2 ac3 94 O0
theorem aob{J a}:pCh J 3 [] (ac4 a)=ai7 a:=by kernel_rfl
theorem aoc{J w1 a b c d e}:pCh J 26 [w1] (VZ a b c d e)=Jn (C (J 3 []) ac4) (C w1 VZ) a b c d e:=by kernel_rfl
abbrev pCg:=zj ac2 ac3 94 O0
theorem aod:C (pCg 3 []) ac4=V2:=gNC (by decide) fun _=>aob
theorem aoe:C (pCg 26 []) VZ=O1:=gLC (by decide) (by kernel_rfl) (fun _=>by unfold O1;rfl) fun _ _=>aoc.trans (by rw[aod]<;>kernel_rfl)
theorem aof:au Tryz.prog (fun _=>True) 94 ⟨O0,Cn⟩:=zcc (env:=ac2) (d:=6) (hs:=Ev.get ac3) bN (fun J x=>ai8 (C (J 26 []) VZ) x.1 x.2.1) (fun _ _=>by kernel_rfl) fun _=>by rw[aoe]<;>rfl
@[reducible] def aE:List Ty:=[.pr (.int .i64) (.int .i64)]
@[reducible] def V3:Sh:=shD [.sl (.pr .str (.sl (.pr .str cu))),.pr .str jf] aE
def ac5:Env:=(cts [(15,(⟨E6,lq⟩:Ct)),(21,(⟨OM,AA⟩:Ct)),(66,(⟨VG,lu⟩:Ct)),(92,(⟨VU,VY⟩:Ct)),(94,(⟨O0,Cn⟩:Ct))])
def ac6:List (Nat×Hint):=[(122,⟨[],[0,4,5,28,29,30,44,45,46,47,48,74,75,76,77,78]⟩),(250686,⟨[],[0,4,5,8,10,28,29,30,44,45,46,47,48,55,56,57,74,75,76,77,78]⟩),(16043929,⟨[],[0,4,5,8,10,12,13,14,28,29,30,44,45,46,47,48,55,56,57,74,75,76,77,78]⟩),(64175718,⟨[.agd 76 .str,.agd 77 .bool,.agd 78 .bool],[0,4,5,8,10,12,13,28,29,30,55,56,57,79]⟩),(31334,⟨[.agd 46 .str,.agd 47 .bool,.agd 48 .bool],[0,4,5,7,8,28,29,30,49]⟩),(6,⟨[],[0,3,4,24,44,45,46,47,48,74,75,76,77,78]⟩)]
@[reducible] def zG5:Type:=List UInt8×List bO
def ac7(c:zG3)(d:Bool)(a:zG5)(b:Int×Int):St:=⟨[(0,.d (.sl (.pr .str (.sl (.pr .str cu)))) c),(3,.pb 0 0),(4,.pb 1 0),(24,dB d)],98,[],[(0,.box 26 [dS a.1,.d jf a.2]),(1,.box 33 [dI b.1,dI b.2])],2,[],0⟩
def sK(c:zG3)(d:List bO)(e f:Int)(a:Int×Int)(b:zG1):St:=⟨[(0,.d (.sl (.pr .str (.sl (.pr .str cu)))) c),(4,.pb 0 0),(5,.fn (.func 124) [] [.pb 1 0]),(28,.d jf d),(29,dI e),(30,dI f)],98,[],[(0,.box 33 [dI a.1,dI a.2]),(1,.box 179 [.mp 2]),(2,.dm .str .un b)],3,[],0⟩
@[reducible] def zG6:Type:=List UInt8×Int×List fO
def ac8(e:zG3)(c:Int)(f:List bO)(g h:Int)(i:Bool)(b:Int×Int)(d:zG1)(a:zG6):St:=⟨[(0,.d (.sl (.pr .str (.sl (.pr .str cu)))) e),(4,.pb 0 0),(5,.fn (.func 124) [] [.pb 1 0]),(7,.pb 3 0),(8,dI c),(28,.d jf f),(29,dI g),(30,dI h),(49,dB i)],98,[],[(0,.box 33 [dI b.1,dI b.2]),(1,.box 179 [.mp 2]),(2,.dm .str .un d),(3,.box 43 [dS a.1,dI a.2.1,.d (.sl (.pr .str pO)) a.2.2])],4,[],0⟩
def Cq(e:zG3)(b:Int)(f:List bO)(g h:Int)(i:List fO)(j k:Int)(a:Int×Int)(c d:zG1):St:=⟨[(0,.d (.sl (.pr .str (.sl (.pr .str cu)))) e),(4,.pb 0 0),(5,.fn (.func 124) [] [.pb 1 0]),(8,dI b),(10,.fn (.func 124) [] [.pb 3 0]),(28,.d jf f),(29,dI g),(30,dI h),(55,.d (.sl (.pr .str pO)) i),(56,dI j),(57,dI k)],98,[],[(0,.box 33 [dI a.1,dI a.2]),(1,.box 179 [.mp 2]),(2,.dm .str .un c),(3,.box 179 [.mp 4]),(4,.dm .str .un d)],5,[],0⟩
@[reducible] def zG7:Type:=List UInt8×(Int×Int)×List UInt8×Int
def ac9(h:zG3)(d:Int)(g:Bool)(i:List bO)(j k:Int)(l:List fO)(m n:Int)(c:Int×Int)(e f:zG1)(b:zG7)(a:kQ):St:=⟨[(0,.d (.sl (.pr .str (.sl (.pr .str cu)))) h),(4,.pb 0 0),(5,.fn (.func 124) [] [.pb 1 0]),(8,dI d),(10,.fn (.func 124) [] [.pb 3 0]),(12,.pb 5 0),(13,.pb 6 0),(14,dB g),(28,.d jf i),(29,dI j),(30,dI k),(55,.d (.sl (.pr .str pO)) l),(56,dI m),(57,dI n)],98,[],[(0,.box 33 [dI c.1,dI c.2]),(1,.box 179 [.mp 2]),(2,.dm .str .un e),(3,.box 179 [.mp 4]),(4,.dm .str .un f),(5,.box 47 [dS b.1,dI b.2.1.1,d8 b.2.1.2,dS b.2.2.1,dI b.2.2.2]),(6,.box 70 [dS a.1,dI a.2.1,dI a.2.2.1,dB a.2.2.2.1,dI a.2.2.2.2.1.1,d8 a.2.2.2.2.1.2,dI a.2.2.2.2.2.1.1,d8 a.2.2.2.2.2.1.2,dS a.2.2.2.2.2.2])],7,[],0⟩
def ada(g:zG3)(d:Int)(h:List bO)(i j:Int)(k:List fO)(l m:Int)(n:Bool)(c:Int×Int)(e f:zG1)(b:zG7)(a:kQ):St:=⟨[(0,.d (.sl (.pr .str (.sl (.pr .str cu)))) g),(4,.pb 0 0),(5,.fn (.func 124) [] [.pb 1 0]),(8,dI d),(10,.fn (.func 124) [] [.pb 3 0]),(12,.pb 5 0),(13,.pb 6 0),(28,.d jf h),(29,dI i),(30,dI j),(55,.d (.sl (.pr .str pO)) k),(56,dI l),(57,dI m),(79,dB n)],98,[],[(0,.box 33 [dI c.1,dI c.2]),(1,.box 179 [.mp 2]),(2,.dm .str .un e),(3,.box 179 [.mp 4]),(4,.dm .str .un f),(5,.box 47 [dS b.1,dI b.2.1.1,d8 b.2.1.2,dS b.2.2.1,dI b.2.2.2]),(6,.box 70 [dS a.1,dI a.2.1,dI a.2.2.1,dB a.2.2.2.1,dI a.2.2.2.2.1.1,d8 a.2.2.2.2.1.2,dI a.2.2.2.2.2.1.1,d8 a.2.2.2.2.2.1.2,dS a.2.2.2.2.2.2])],7,[],0⟩
@[reducible] def aD:Type:=As aE
@[reducible] def zG8:Type:=List (List UInt8×List dU)->List bO->Int->Int->Int×Int->List (List UInt8×Unit)->Option aD
def ai9(b:zG8)(c:zG3)(d:Bool)(a:zG5)(e:Int×Int):Option aD :=
 if d=true then some ((2,0),()) else b c a.2 (zD (zE a.2)) 0 e []
def Jo(h:List (List UInt8×List dU)->Int->List bO->Int->Int->Bool->Int×Int->List (List UInt8×Unit)->List UInt8×Int×List fO->Option aD)(j:zG8)(d:zG3)(e:List bO)(f b:Int)(i:Int×Int)(c:zG1):Option aD :=
 if lt b f=true then zA (at? e b) fun a=>zA (lq (d,a.1,())) fun g=>if (!g.2.1)=true then h d g.1 e f b true i c a else h d g.1 e f b (!!Ev.isV .un (Ev.bq .str c a.1)) i (Ev.dh .str c a.1 ()) a else some ((0,0),())
@[reducible] def zG9:Type:=List (List UInt8×List dU)->Int->List bO->Int->Int->List fO->Int->Int->Int×Int->List (List UInt8×Unit)->List (List UInt8×Unit)->Option aD
def V4(c:zG9)(k:zG8)(e:zG3)(b:Int)(f:List bO)(g h:Int)(j:Bool)(i:Int×Int)(d:zG1)(a:zG6):Option aD :=
 if j=true then some ((150,a.2.1),()) else c e b f g h a.2.2 (zD (zE a.2.2)) 0 i d []
def Jp(m:List (List UInt8×List dU)->Int->Bool->List bO->Int->Int->List fO->Int->Int->Int×Int->List (List UInt8×Unit)->List (List UInt8×Unit)->List UInt8×(Int×Int)×List UInt8×Int->kQ->Option aD)(p:zG8)(q:zG9)(b:zG3)(e:Int)(g:List bO)(h i:Int)(k:List fO)(l c:Int)(j:Int×Int)(f n:zG1):Option aD :=
 if lt c l=true then zA (at? k c) fun d=>zA (at? b e) fun o=>amb (iw V3.rs) [zA (Cn (o,d.1,())) fun a=>m b e a.2.1 g h i k l c j f n d a.1,zA (Cn (o,d.1,())) fun a=>m b e a.2.1 g h i k l c j f n d a.1] else p b g h (add .i64 i 1) j f
def V5(d:List (List UInt8×List dU)->Int->List bO->Int->Int->List fO->Int->Int->Bool->Int×Int->List (List UInt8×Unit)->List (List UInt8×Unit)->List UInt8×(Int×Int)×List UInt8×Int->kQ->Option aD)(p:zG8)(q:zG9)(g:zG3)(c:Int)(o:Bool)(h:List bO)(i j:Int)(l:List fO)(m n:Int)(k:Int×Int)(e b:zG1)(a:zG7)(f:kQ):Option aD :=
 if (!o)=true then d g c h i j l m n true k e b a f else d g c h i j l m n (!!Ev.isV .un (Ev.bq .str b a.1)) k e (Ev.dh .str b a.1 ()) a f
def V6(q:zG8)(g:zG9)(h:zG3)(c:Int)(i:List bO)(j k:Int)(m:List fO)(n o:Int)(p:Bool)(l:Int×Int)(d e:zG1)(a:zG7)(f:kQ):Option aD :=
 if p=true then some ((151,a.2.2.2),()) else zA (lu (f,a,())) fun b=>if nei b.2.1 0=true then some ((b.2.1,a.2.2.2),()) else g h c i j k m n (add .i64 o 1) l d e
def V7(d:List (List UInt8×List dU)->Bool->List UInt8×List bO->Int×Int->Option aD)(b:zG3)(a:zG5):Option aD :=
 zA (VY (b,())) fun c=>if (!c.1)=true then d b true a (0,0) else zA (AA (a,())) fun c=>d b (!c.1) a (0,0)
def V8(a:zG8)(b:zG9):=V6 a b
def O3(a:zG8)(b:zG9):=V5 (V8 a b) a b
def Jq(n:zG8)(e:zG3)(b:Int)(f:List bO)(g h:Int)(j:List fO)(k l:Int)(i:Int×Int)(c d:zG1):Option aD :=
 aj (fun m a=>Jp (O3 n (fun e b f g h j k l i c d=>m (e,b,f,g,h,j,k,l,i,c,d))) n (fun e b f g h j k l i c d=>m (e,b,f,g,h,j,k,l,i,c,d)) a.1 a.2.1 a.2.2.1 a.2.2.2.1 a.2.2.2.2.1 a.2.2.2.2.2.1 a.2.2.2.2.2.2.1 a.2.2.2.2.2.2.2.1 a.2.2.2.2.2.2.2.2.1 a.2.2.2.2.2.2.2.2.2.1 a.2.2.2.2.2.2.2.2.2.2) 18446744073709551616 (e,b,f,g,h,j,k,l,i,c,d)
def V9(a:zG8):=V4 (Jq a) a
def O4(c:zG3)(d:List bO)(e f:Int)(g:Int×Int)(b:zG1):Option aD :=
 aj (fun h a=>Jo (V9 (fun c d e f g b=>h (c,d,e,f,g,b))) (fun c d e f g b=>h (c,d,e,f,g,b)) a.1 a.2.1 a.2.2.1 a.2.2.2.1 a.2.2.2.2.1 a.2.2.2.2.2) 18446744073709551616 (c,d,e,f,g,b)
def Fq:=ai9 (O4)
def O5(x:As [.sl (.pr .str (.sl (.pr .str cu))),.pr .str jf]):Option aD:=V7 Fq x.1 x.2.1
abbrev pB9:=zp ac5 ac6 65 V3
theorem aog{J w2 w4 a b c d e f g h i j k l m n}:pB9 J 64175718 [w2,w4] (ada a b c d e f g h i j k l m n)=V6 (C w2 sK) (C w4 Cq) a b c d e f g h i j k l m n:=by kernel_rfl
theorem aoh{J w2 w4 a b c d e f g h i j k l m n}:pB9 J 16043929 [w2,w4] (ac9 a b c d e f g h i j k l m n)=V5 (C (J 64175718 [w2,w4]) ada) (C w2 sK) (C w4 Cq) a b c d e f g h i j k l m n:=by kernel_rfl
theorem aoi{J w2 w4 a b c d e f g h i j k}:pB9 J 250686 [w2,w4] (Cq a b c d e f g h i j k)=Jp (C (J 16043929 [w2,w4]) ac9) (C w2 sK) (C w4 Cq) a b c d e f g h i j k:=by kernel_rfl
theorem aoj{J w2 a b c d e f g h i}:pB9 J 31334 [w2] (ac8 a b c d e f g h i)=V4 (C (J 250686 [w2]) Cq) (C w2 sK) a b c d e f g h i:=by kernel_rfl
theorem aok{J w2 a b c d e f}:pB9 J 122 [w2] (sK a b c d e f)=Jo (C (J 31334 [w2]) ac8) (C w2 sK) a b c d e f:=by kernel_rfl
theorem aol{J a b c d}:pB9 J 6 [] (ac7 a b c d)=ai9 (C (J 122 []) sK) a b c d:=by kernel_rfl
abbrev pB8:=zj ac5 ac6 65 V3
theorem aom{w2 w4}:C (pB8 64175718 [w2,w4]) ada=V8 (C w2 sK) (C w4 Cq):=gNC (by decide) fun _=>aog
theorem aon{w2 w4}:C (pB8 16043929 [w2,w4]) ac9=O3 (C w2 sK) (C w4 Cq):=gNC (by decide) fun _=>aoh.trans (by rw[aom]<;>kernel_rfl)
theorem aoo{w2}:C (pB8 250686 [w2]) Cq=Jq (C w2 sK):=gLC (by decide) (by kernel_rfl) (fun _=>by unfold Jq;rfl) fun _ _=>aoi.trans (by rw[aon]<;>kernel_rfl)
theorem aop{w2}:C (pB8 31334 [w2]) ac8=V9 (C w2 sK):=gNC (by decide) fun _=>aoj.trans (by rw[aoo]<;>kernel_rfl)
theorem aoq:C (pB8 122 []) sK=O4:=gLC (by decide) (by kernel_rfl) (fun _=>by unfold O4;rfl) fun _ _=>aok.trans (by rw[aop]<;>kernel_rfl)
theorem aor:C (pB8 6 []) ac7=Fq:=gNC (by decide) fun _=>aol.trans (by rw[aoq]<;>kernel_rfl)
theorem aja:au Tryz.prog (fun _=>True) 65 ⟨V3,O5⟩:=zcc (env:=ac5) (d:=6) (hs:=Ev.get ac6) (av IX (av acd (av acO (av aoa (av aof bN))))) (fun J x=>V7 (C (J 6 []) ac7) x.1 x.2.1) (fun _ _=>by kernel_rfl) fun _=>by rw[aor]<;>rfl
@[reducible] def Wh:Sh:=shD [.sl (.pr .str (.sl (.pr .str cu)))] [.bool]
def adb:Env:=(cts [])
def ade:List (Nat×Hint):=[(58,⟨[],[10,11,12,21,22,23,24,38,39,40,41]⟩),(29902,⟨[],[10,11,12,21,22,23,24,27,28,29,38,39,40,41]⟩),(1913753,⟨[.agd 39 .str,.agd 40 (.int .i64),.agd 41 .bool],[10,11,12,27,28,29,42]⟩),(7474,⟨[.agd 22 .str,.agd 23 (.int .i64),.agd 24 .bool],[4,10,11,12,25]⟩)]
def yj(a:zG3)(b c:Int):St:=⟨[(10,.d (.sl (.pr .str (.sl (.pr .str cu)))) a),(11,dI b),(12,dI c)],45,[],[],0,[],0⟩
def adf(b:zG3)(c d:Int)(e:Bool)(a:zG0):St:=⟨[(4,.pb 0 0),(10,.d (.sl (.pr .str (.sl (.pr .str cu)))) b),(11,dI c),(12,dI d),(25,dB e)],45,[],[(0,.box 68 [dS a.1,.d (.sl (.pr .str cu)) a.2])],1,[],0⟩
def Jr(a:zG3)(b c:Int)(d:List dU)(e f:Int):St:=⟨[(10,.d (.sl (.pr .str (.sl (.pr .str cu)))) a),(11,dI b),(12,dI c),(27,.d (.sl (.pr .str cu)) d),(28,dI e),(29,dI f)],45,[],[],0,[],0⟩
def adg(a:zG3)(b c:Int)(d:List dU)(e f:Int)(g:Bool):St:=⟨[(10,.d (.sl (.pr .str (.sl (.pr .str cu)))) a),(11,dI b),(12,dI c),(27,.d (.sl (.pr .str cu)) d),(28,dI e),(29,dI f),(42,dB g)],45,[],[],0,[],0⟩
@[reducible] def Cr:Type:=List (List UInt8×List dU)->Int->Int->Option aA
def Js(e:List (List UInt8×List dU)->Int->Int->Bool->List UInt8×List dU->Option aA)(f:Cr)(c:zG3)(d a:Int):Option aA :=
 if lt a d=true then zA (at? c a) fun b=>if gt (zD (zE b.2)) 40=true then e c d a true b else e c d a (gt (zD (zE b.1)) 40) b else some (true,())
@[reducible] def Wi:Type:=List (List UInt8×List dU)->Int->Int->List dU->Int->Int->Option aA
def ajb(b:Wi)(g:Cr)(c:zG3)(d e:Int)(f:Bool)(a:zG0):Option aA :=
 if f=true then some (false,()) else b c d e a.2 (zD (zE a.2)) 0
def Jt(g:List (List UInt8×List dU)->Int->Int->List dU->Int->Int->Bool->Option aA)(i:Cr)(j:Wi)(b:zG3)(c d:Int)(e:List dU)(f a:Int):Option aA :=
 if lt a f=true then zA (at? e a) fun h=>if gt (zD (zE h.1)) 40=true then g b c d e f a true else g b c d e f a (gt (zD (zE h.2.2.2.2.2.2)) 40) else i b c (add .i64 d 1)
def Wj(i:Cr)(a:Wi)(b:zG3)(c d:Int)(e:List dU)(f g:Int)(h:Bool):Option aA :=
 if h=true then some (false,()) else a b c d e f (add .i64 g 1)
def Wk(b:Cr)(a:zG3):Option aA :=
 if gt (zD (zE a)) 10=true then some (false,()) else b a (zD (zE a)) 0
def O6(a:Cr)(b:Wi):=Wj a b
def Ju(i:Cr)(b:zG3)(c d:Int)(e:List dU)(f g:Int):Option aA :=
 aj (fun h a=>Jt (O6 i (fun b c d e f g=>h (b,c,d,e,f,g))) i (fun b c d e f g=>h (b,c,d,e,f,g)) a.1 a.2.1 a.2.2.1 a.2.2.2.1 a.2.2.2.2.1 a.2.2.2.2.2) 18446744073709551616 (b,c,d,e,f,g)
def O7(a:Cr):=ajb (Ju a) a
def O8(a:zG3)(b c:Int):Option aA :=
 aj (fun e d=>Js (O7 (fun a b c=>e (a,b,c))) (fun a b c=>e (a,b,c)) d.1 d.2.1 d.2.2) 18446744073709551616 (a,b,c)
def Wl(x:As [.sl (.pr .str (.sl (.pr .str cu)))]):Option aA:=Wk O8 x.1
abbrev pAh:=zp adb ade 8 Wh
theorem aos{J w1 w3 a b c d e f g}:pAh J 1913753 [w1,w3] (adg a b c d e f g)=Wj (C w1 yj) (C w3 Jr) a b c d e f g:=by kernel_rfl
theorem aot{J w1 w3 a b c d e f}:pAh J 29902 [w1,w3] (Jr a b c d e f)=Jt (C (J 1913753 [w1,w3]) adg) (C w1 yj) (C w3 Jr) a b c d e f:=by kernel_rfl
theorem aou{J w1 a b c d e}:pAh J 7474 [w1] (adf a b c d e)=ajb (C (J 29902 [w1]) Jr) (C w1 yj) a b c d e:=by kernel_rfl
theorem aov{J w1 a b c}:pAh J 58 [w1] (yj a b c)=Js (C (J 7474 [w1]) adf) (C w1 yj) a b c:=by kernel_rfl
abbrev pAg:=zj adb ade 8 Wh
theorem aow{w1 w3}:C (pAg 1913753 [w1,w3]) adg=O6 (C w1 yj) (C w3 Jr):=gNC (by decide) fun _=>aos
theorem aox{w1}:C (pAg 29902 [w1]) Jr=Ju (C w1 yj):=gLC (by decide) (by kernel_rfl) (fun _=>by unfold Ju;rfl) fun _ _=>aot.trans (by rw[aow]<;>kernel_rfl)
theorem aoy{w1}:C (pAg 7474 [w1]) adf=O7 (C w1 yj):=gNC (by decide) fun _=>aou.trans (by rw[aox]<;>kernel_rfl)
theorem aoz:C (pAg 58 []) yj=O8:=gLC (by decide) (by kernel_rfl) (fun _=>by unfold O8;rfl) fun _ _=>aov.trans (by rw[aoy]<;>kernel_rfl)
theorem aoA:au Tryz.prog (fun _=>True) 8 ⟨Wh,Wl⟩:=zcc (env:=adb) (d:=6) (hs:=Ev.get ade) bN (fun J x=>Wk (C (J 58 []) yj) x.1) (fun _ _=>by kernel_rfl) fun _=>by rw[aoz]<;>rfl
@[reducible] def Wm:Sh:=shD [.pr .str jf] [.bool]
def adh:Env:=(cts [])
def adi:List (Nat×Hint):=[(58,⟨[],[18,19,20,29,30,31,32,46,47,48,49]⟩),(29902,⟨[],[18,19,20,29,30,31,32,35,36,37,46,47,48,49]⟩),(1913753,⟨[.agd 47 .str,.agd 48 (.int .i64),.agd 49 .bool],[18,19,20,35,36,37,50]⟩),(7474,⟨[.agd 30 .str,.agd 31 (.int .i64),.agd 32 .bool],[4,18,19,20,33]⟩),(6,⟨[],[1,16,29,30,31,32,46,47,48,49]⟩)]
def adj(b:Bool)(a:zG5):St:=⟨[(1,.pb 0 0),(16,dB b)],53,[],[(0,.box 26 [dS a.1,.d jf a.2])],1,[],0⟩
def yt(a:List bO)(b c:Int):St:=⟨[(18,.d jf a),(19,dI b),(20,dI c)],53,[],[],0,[],0⟩
def adk(b:List bO)(c d:Int)(e:Bool)(a:zG6):St:=⟨[(4,.pb 0 0),(18,.d jf b),(19,dI c),(20,dI d),(33,dB e)],53,[],[(0,.box 43 [dS a.1,dI a.2.1,.d (.sl (.pr .str pO)) a.2.2])],1,[],0⟩
def Jv(a:List bO)(b c:Int)(d:List fO)(e f:Int):St:=⟨[(18,.d jf a),(19,dI b),(20,dI c),(35,.d (.sl (.pr .str pO)) d),(36,dI e),(37,dI f)],53,[],[],0,[],0⟩
def adl(a:List bO)(b c:Int)(d:List fO)(e f:Int)(g:Bool):St:=⟨[(18,.d jf a),(19,dI b),(20,dI c),(35,.d (.sl (.pr .str pO)) d),(36,dI e),(37,dI f),(50,dB g)],53,[],[],0,[],0⟩
@[reducible] def Cu:Type:=List bO->Int->Int->Option aA
def ajc(b:Cu)(c:Bool)(a:zG5):Option aA :=
 if c=true then some (false,()) else b a.2 (zD (zE a.2)) 0
def Jw(e:List bO->Int->Int->Bool->List UInt8×Int×List fO->Option aA)(f:Cu)(c:List bO)(d a:Int):Option aA :=
 if lt a d=true then zA (at? c a) fun b=>if gt (zD (zE b.2.2)) 70=true then e c d a true b else e c d a (gt (zD (zE b.1)) 40) b else some (true,())
@[reducible] def Wo:Type:=List bO->Int->Int->List fO->Int->Int->Option aA
def ajd(b:Wo)(g:Cu)(c:List bO)(d e:Int)(f:Bool)(a:zG6):Option aA :=
 if f=true then some (false,()) else b c d e a.2.2 (zD (zE a.2.2)) 0
def Jy(g:List bO->Int->Int->List fO->Int->Int->Bool->Option aA)(i:Cu)(j:Wo)(b:List bO)(c d:Int)(e:List fO)(f a:Int):Option aA :=
 if lt a f=true then zA (at? e a) fun h=>if gt (zD (zE h.1)) 40=true then g b c d e f a true else g b c d e f a (gt (zD (zE h.2.2.1)) 40) else i b c (add .i64 d 1)
def Wp(i:Cu)(a:Wo)(b:List bO)(c d:Int)(e:List fO)(f g:Int)(h:Bool):Option aA :=
 if h=true then some (false,()) else a b c d e f (add .i64 g 1)
def Wq(b:Bool->List UInt8×List bO->Option aA)(a:zG5):Option aA :=
 if gt (zD (zE a.2)) 12=true then b true a else b (gt (zD (zE a.1)) 40) a
def Ws(a:Cu)(b:Wo):=Wp a b
def Jz(i:Cu)(b:List bO)(c d:Int)(e:List fO)(f g:Int):Option aA :=
 aj (fun h a=>Jy (Ws i (fun b c d e f g=>h (b,c,d,e,f,g))) i (fun b c d e f g=>h (b,c,d,e,f,g)) a.1 a.2.1 a.2.2.1 a.2.2.2.1 a.2.2.2.2.1 a.2.2.2.2.2) 18446744073709551616 (b,c,d,e,f,g)
def Wt(a:Cu):=ajd (Jz a) a
def JA(a:List bO)(b c:Int):Option aA :=
 aj (fun e d=>Jw (Wt (fun a b c=>e (a,b,c))) (fun a b c=>e (a,b,c)) d.1 d.2.1 d.2.2) 18446744073709551616 (a,b,c)
def Wu:=ajc (JA)
def JB(x:As [.pr .str jf]):Option aA:=Wq Wu x.1
abbrev pAf:=zp adh adi 9 Wm
theorem aoB{J w2 w4 a b c d e f g}:pAf J 1913753 [w2,w4] (adl a b c d e f g)=Wp (C w2 yt) (C w4 Jv) a b c d e f g:=by kernel_rfl
theorem aoC{J w2 w4 a b c d e f}:pAf J 29902 [w2,w4] (Jv a b c d e f)=Jy (C (J 1913753 [w2,w4]) adl) (C w2 yt) (C w4 Jv) a b c d e f:=by kernel_rfl
theorem aoD{J w2 a b c d e}:pAf J 7474 [w2] (adk a b c d e)=ajd (C (J 29902 [w2]) Jv) (C w2 yt) a b c d e:=by kernel_rfl
theorem aoE{J w2 a b c}:pAf J 58 [w2] (yt a b c)=Jw (C (J 7474 [w2]) adk) (C w2 yt) a b c:=by kernel_rfl
theorem aoF{J a b}:pAf J 6 [] (adj a b)=ajc (C (J 58 []) yt) a b:=by kernel_rfl
abbrev pAe:=zj adh adi 9 Wm
theorem aoG{w2 w4}:C (pAe 1913753 [w2,w4]) adl=Ws (C w2 yt) (C w4 Jv):=gNC (by decide) fun _=>aoB
theorem aoH{w2}:C (pAe 29902 [w2]) Jv=Jz (C w2 yt):=gLC (by decide) (by kernel_rfl) (fun _=>by unfold Jz;rfl) fun _ _=>aoC.trans (by rw[aoG]<;>kernel_rfl)
theorem aoI{w2}:C (pAe 7474 [w2]) adk=Wt (C w2 yt):=gNC (by decide) fun _=>aoD.trans (by rw[aoH]<;>kernel_rfl)
theorem aoJ:C (pAe 58 []) yt=JA:=gLC (by decide) (by kernel_rfl) (fun _=>by unfold JA;rfl) fun _ _=>aoE.trans (by rw[aoI]<;>kernel_rfl)
theorem aoK:C (pAe 6 []) adj=Wu:=gNC (by decide) fun _=>aoF.trans (by rw[aoJ]<;>kernel_rfl)
theorem aoL:au Tryz.prog (fun _=>True) 9 ⟨Wm,JB⟩:=zcc (env:=adh) (d:=6) (hs:=Ev.get adi) bN (fun J x=>Wq (C (J 6 []) adj) x.1) (fun _ _=>by kernel_rfl) fun _=>by rw[aoK]<;>rfl
end Go.Proofs.Lx
end
noncomputable section
namespace Pl
open Go Ev Sx
set_option maxRecDepth 10000
theorem gB{σ R:Type}(F:(σ->Option R)->σ->Option R)(n:Nat)(s:σ):aj F (n+1) s=F (aj F n) s:=rfl
theorem qL{σ R:Type}{F:(σ->Option R)->σ->Option R}{Inv:σ->Prop}{μ:σ->Nat}{G:σ->Option R}
  (step:∀self s,Inv s->(∀s',Inv s'->μ s'<μ s->self s'=G s')->F self s=G s):∀(n:Nat) (s:σ),Inv s->μ s<n->aj F n s=G s
 | 0,s,_,h=>by omega
 | n+1,s,hs,h=>by rw[gB];exact step _ s hs fun s' hs' hlt=>qL step n s' hs' (by omega)
theorem w64{x:Int}(h1:-9223372036854775808≤x)(h2:x≤9223372036854775807):IntKind.i64.wrap x=x:=by grind[IntKind.wrap,IntKind.signed,IntKind.bits]
theorem wu8{x:Int}(h1:0≤x)(h2:x≤255):IntKind.u8.wrap x=x:=by grind[IntKind.wrap,IntKind.signed,IntKind.bits]
theorem lX{a b:Int}(h1:-9223372036854775808≤a+b)(h2:a+b≤9223372036854775807):add .i64 a b=a+b:=w64 h1 h2
theorem iR{a b:Int}(h1:-9223372036854775808≤a - b)(h2:a - b≤9223372036854775807):sub .i64 a b=a - b:=w64 h1 h2
theorem MJ{a b:Int}(h1:-9223372036854775808≤a*b)(h2:a*b≤9223372036854775807):mul .i64 a b=a*b:=w64 h1 h2
theorem GX{a:Int}(h1:-9223372036854775808≤-a)(h2:-a≤9223372036854775807):neg .i64 a=-a:=w64 h1 h2
theorem lY{a:Int}(h1:-9223372036854775808≤a)(h2:a≤9223372036854775807):cvt .i64 a=a:=w64 h1 h2
theorem iO{n:Nat}(h:n<4611686018427387904):add .i64 (n:Int) 1=((n+1:Nat):Int):=by grind[lX]
theorem ay(n:Nat):zD n=(n:Int):=rfl
theorem bg{a b:Int}:lt a b=true↔a<b:=by simp[lt]
theorem le_iff{a b:Int}:le a b=true↔a≤b:=by simp[le]
theorem fC{a b:Int}:gt a b=true↔b<a:=by simp[gt]
theorem dN{a b:Int}:ge a b=true↔b≤a:=by simp[ge]
theorem fQ{a b:Int}:eqi a b=true↔a=b:=by simp[eqi]
theorem dK{a b:Int}:nei a b=true↔a≠b:=by simp[nei]
theorem lZ{a b:List UInt8}:eqs a b=true↔a=b:=by simp[eqs]
theorem nes_iff{a b:List UInt8}:nes a b=true↔a≠b:=by simp[nes]
theorem oU{n:Nat}:small n=true↔n≤1073741824:=by simp[small]
theorem O9(a b:Int):gt a b=decide (b<a):=rfl
theorem gW{b:Bool}{β:Type}{k:Option β}(h:b=true):need b k=k:=by unfold need;simp_all
theorem jU{n:Nat}{β:Type}{k:Option β}(h:n≤1073741824):need (small n) k=k:=gW (oU.2 h)
theorem gK{α:Type}{s:List α}{i:Nat}{c:α}(h:s[i]? = some c):at? s (i:Int)=some c:=by simp_all[at?]
theorem uV{α:Type}(c:α)(q:List α):at? (c::q) 0=some c:=rfl
theorem za{α:Type}{s:List α}{i:Nat}{c:α}{r:List α}(h:s.drop i=c::r):at? s (i:Int)=some c:=by apply gK;have:=congrArg (·[0]?) h;grind
theorem Pb{α:Type}(p:List α)(c:α)(q:List α):at? (p++c::q) (p.length:Int)=some c:=gK (by simp)
theorem xA{α:Type}{s:List α}{i:Nat}{c:α}{r:List α}(h:s.drop i=c::r):s.drop (i+1)=r∧i<s.length∧s.length - i=r.length+1:=by have hl:=congrArg zE h;simp at hl;refine⟨?_,by omega,by omega⟩;rw[<- List.drop_drop,h];rfl
theorem drop_nil{α:Type}{s:List α}{i:Nat}(h:s.drop i=[]):s.length≤i:=by simp_all
theorem JC{α:Type}{xs:List α}{i j:Nat}(h1:i≤j)(h2:j≤xs.length):cut xs (i:Int) (j:Int)=some ((xs.take j).drop i):=by simp_all[cut,if_pos]
theorem qM{α:Type}{xs:List α}{i:Nat}(h:i≤xs.length):cut xs (i:Int) (zD xs.length)=some (xs.drop i):=by simp_all[ay,JC,Nat.le_refl]
theorem ZL{α:Type}{xs:List α}{j:Nat}(h:j≤xs.length):cut xs 0 (j:Int)=some (xs.take j):=by have:=JC (xs:=xs) (Nat.zero_le j) h;simp_all
theorem Se{α:Type}(c:α)(q:List α):cut (c::q) 1 (zD (c::q).length)=some q:=by have:=qM (xs:=c::q) (i:=1) (by simp);simp_all
theorem lC{α:Type}(p q:List α):cut (p++q) 0 (p.length:Int)=some p:=by simp_all[ZL]
theorem Fu{α:Type}(p q:List α):cut (p++q) (p.length:Int) (zD (p++q).length)=some q:=by grind[qM]
theorem AB(c:UInt8):∀s:List UInt8,c ∉ s->Go.Lib.indexByte s c=-1
 | [],_=>rfl
 | b::q,h=>by
  have hb:(b == c)=false:=by rw[beq_eq_false_iff_ne];exact fun e=>h (by simp[e])
  have ih:=AB c q (fun hx=>h (zO _ hx));unfold Go.Lib.indexByte;rw[hb,ih];rfl
theorem xB(c:UInt8):∀(p q:List UInt8),c ∉ p->Go.Lib.indexByte (p++c::q) c=(p.length:Int)
 | [],q,_=>by unfold Go.Lib.indexByte;simp
 | b::p,q,h=>by
  have hb:(b == c)=false:=by rw[beq_eq_false_iff_ne];exact fun e=>h (by simp[e])
  have ih:=xB c p q (fun hx=>h (zO _ hx));show Go.Lib.indexByte (b::(p++c::q)) c=_;unfold Go.Lib.indexByte;rw[hb,ih];have:((p.length:Int) == -1)=false:=by simp
  rw[this];simp
theorem Fv(c:UInt8)(s:List UInt8):(c ∉ s)∨∃p q,s=p++c::q∧c ∉ p:=by
 induction s with
 | nil=>simp
 | cons b r ih =>
  by_cases hb:b=c
  ·exact .inr ⟨[],r,by grind,by simp⟩
  grind
theorem Wv{p:Nat->Bool}(h:(List.range 256).all p=true)(c:UInt8):p c.toNat=true:=List.all_eq_true.1 h _ (List.mem_range.2 c.toNat_lt)
theorem adn:∀(t:Ty) (x:Vl t),eqV t x x=true:=by
 have hl:∀{α:Type} {f:α->α->Bool},(∀a,f a a=true)->∀x:List α,eqL f x x=true:=fun h x=>by
  induction x with
  | nil=>rfl
  | cons a q ih=>grind[eqL]
 intro t
 induction t with
 | int k=>simp_all[eqV,eqi]
 | bool=>simp_all[eqV,eqb]
 | str=>simp_all[eqV,eqs]
 | sl t ih=>intro x;exact hl ih x
 | pr a b iha ihb=>simp_all[eqV]
 | wr a ih=>intro x;exact ih x
 | cl a ih=>intro x;exact ih x
 | un=>intro x;rfl
 | ar n t ih=>intro x;exact hl ih x
 | mp k v ihk ihv=>intro x;exact hl (fun a=>by simp_all) x
theorem xC:∀(rs:List Ty) (x:As rs),iw rs x x=true
 | [],_=>rfl
 | t::r,x=>by simp[iw,adn,xC r]
theorem JD{R:Type}{eq:R->R->Bool}(h:∀x,eq x x=true)(a:Option R):amb eq [a,a]=a:=by cases a<;>simp[amb,EV,h]
theorem Ww{R:Type}{eq:R->R->Bool}(h:∀x,eq x x=true)(a:Option R):amb eq [a,a,a]=a:=by cases a<;>simp[amb,EV,h]
end Pl
end
noncomputable section
namespace Go.Proofs
open Go.Shelf
def Tryz.laysM246_ren:Go.Shelf.Ren:=⟨fun | 246=>99 | 283=>128 | 284=>129 | 285=>130 | 286=>131 | 129=>150 | 317=>149 | 318=>151 | 319=>152 | 320=>153 | 337=>174 | 338=>175 | n=>n,fun | 2=>2 | 3=>3 | 9=>9 | 4=>4 | 171=>190 | 0=>0 | 53=>150 | 37=>85 | 5=>5 | 173=>193 | 212=>210 | 51=>147 | 20=>20 | 213=>211 | 46=>118 | 232=>238 | 233=>239 | n=>n,fun | 17=>1 | 18=>6 | 19=>7 | n=>n⟩
theorem Tryz.laysM246:Go.Proofs.LaysM.n246 Tryz.prog Tryz.laysM246_ren:={
 mixed:=by kernel_rfl
 f129:=Tryz.func150.trans (congrArg some (by kernel_rfl))
 f246:=Tryz.func99.trans (congrArg some (by kernel_rfl))
 f283:=Tryz.func128.trans (congrArg some (by kernel_rfl))
 f284:=Tryz.func129.trans (congrArg some (by kernel_rfl))
 f285:=Tryz.func130.trans (congrArg some (by kernel_rfl))
 f286:=Tryz.func131.trans (congrArg some (by kernel_rfl))
 f317:=Tryz.func149.trans (congrArg some (by kernel_rfl))
 f318:=Tryz.func151.trans (congrArg some (by kernel_rfl))
 f319:=Tryz.func152.trans (congrArg some (by kernel_rfl))
 f320:=Tryz.func153.trans (congrArg some (by kernel_rfl))
 f337:=Tryz.func174.trans (congrArg some (by kernel_rfl))
 f338:=Tryz.func175.trans (congrArg some (by kernel_rfl))
 t0:=Tryz.underlying0
 a0:=Tryz.isAgg0
 z0:=Tryz.sizeOf0
 v0:=Tryz.zeroValue0
 t2:=Tryz.underlying2
 a2:=Tryz.isAgg2
 z2:=Tryz.sizeOf2
 v2:=Tryz.zeroValue2
 t3:=Tryz.underlying3
 a3:=Tryz.isAgg3
 z3:=Tryz.sizeOf3
 v3:=Tryz.zeroValue3
 t4:=Tryz.underlying4
 a4:=Tryz.isAgg4
 z4:=Tryz.sizeOf4
 v4:=Tryz.zeroValue4
 t5:=Tryz.underlying5
 a5:=Tryz.isAgg5
 z5:=Tryz.sizeOf5
 v5:=Tryz.zeroValue5
 t9:=Tryz.underlying9
 a9:=Tryz.isAgg9
 z9:=Tryz.sizeOf9
 v9:=Tryz.zeroValue9
 t20:=Tryz.underlying20
 a20:=Tryz.isAgg20
 z20:=Tryz.sizeOf20
 v20:=Tryz.zeroValue20
 t37:=Tryz.underlying85
 a37:=Tryz.isAgg85
 z37:=Tryz.sizeOf85
 v37:=Tryz.zeroValue85
 t46:=Tryz.underlying118
 a46:=Tryz.isAgg118
 z46:=Tryz.sizeOf118
 v46:=Tryz.zeroValue118
 t51:=Tryz.underlying147
 a51:=Tryz.isAgg147
 z51:=Tryz.sizeOf147
 v51:=Tryz.zeroValue147
 t53:=Tryz.underlying150
 a53:=Tryz.isAgg150
 z53:=Tryz.sizeOf150
 v53:=Tryz.zeroValue150
 t171:=Tryz.underlying190
 a171:=Tryz.isAgg190
 z171:=Tryz.sizeOf190
 v171:=Tryz.zeroValue190
 t173:=Tryz.underlying193
 a173:=Tryz.isAgg193
 z173:=Tryz.sizeOf193
 v173:=Tryz.zeroValue193
 t212:=Tryz.underlying210
 a212:=Tryz.isAgg210
 z212:=Tryz.sizeOf210
 v212:=Tryz.zeroValue210
 t213:=Tryz.underlying211
 a213:=Tryz.isAgg211
 z213:=Tryz.sizeOf211
 t232:=Tryz.underlying238
 a232:=Tryz.isAgg238
 z232:=Tryz.sizeOf238
 v232:=Tryz.zeroValue238
 t233:=Tryz.underlying239
 a233:=Tryz.isAgg239
 z233:=Tryz.sizeOf239
 v233:=Tryz.zeroValue239
 g17:=by kernel_rfl
 g18:=by kernel_rfl
 g19:=by kernel_rfl
 i0:=by kernel_rfl
 i2:=by kernel_rfl
 i3:=by kernel_rfl
 i4:=by kernel_rfl
 i5:=by kernel_rfl
 i9:=by kernel_rfl
 i20:=by kernel_rfl
 i37:=by kernel_rfl
 i46:=by kernel_rfl
 i51:=by kernel_rfl
 i53:=by kernel_rfl
 i171:=by kernel_rfl
 i173:=by kernel_rfl
 i212:=by kernel_rfl
 i232:=by kernel_rfl
 i233:=by kernel_rfl
 m17:=by kernel_rfl
 m18:=by kernel_rfl
 m19:=by kernel_rfl }
def Tryz.lays156_ren:Go.Shelf.Ren:=⟨fun | 156=>25 | 165=>58 | 166=>35 | 169=>38 | 240=>67 | 241=>84 | 276=>98 | 277=>119 | n=>n,fun | 31=>58 | 9=>9 | 3=>3 | 4=>4 | 0=>0 | 20=>20 | 72=>87 | 76=>90 | 70=>84 | 37=>85 | 75=>89 | 127=>132 | 164=>163 | 5=>5 | 80=>95 | n=>n,fun | n=>n⟩
theorem Tryz.lays156:Go.Proofs.Lays.n156 Tryz.prog Tryz.lays156_ren:={
 mixed:=by kernel_rfl
 f156:=Tryz.func25.trans (congrArg some (by kernel_rfl))
 f165:=Tryz.func58.trans (congrArg some (by kernel_rfl))
 f166:=Tryz.func35.trans (congrArg some (by kernel_rfl))
 f169:=Tryz.func38.trans (congrArg some (by kernel_rfl))
 f240:=Tryz.func67.trans (congrArg some (by kernel_rfl))
 f241:=Tryz.func84.trans (congrArg some (by kernel_rfl))
 f276:=Tryz.func98.trans (congrArg some (by kernel_rfl))
 f277:=Tryz.func119.trans (congrArg some (by kernel_rfl))
 t0:=Tryz.underlying0
 a0:=Tryz.isAgg0
 z0:=Tryz.sizeOf0
 v0:=Tryz.zeroValue0
 t3:=Tryz.underlying3
 a3:=Tryz.isAgg3
 z3:=Tryz.sizeOf3
 v3:=Tryz.zeroValue3
 t4:=Tryz.underlying4
 a4:=Tryz.isAgg4
 z4:=Tryz.sizeOf4
 v4:=Tryz.zeroValue4
 t9:=Tryz.underlying9
 a9:=Tryz.isAgg9
 z9:=Tryz.sizeOf9
 v9:=Tryz.zeroValue9
 t20:=Tryz.underlying20
 a20:=Tryz.isAgg20
 z20:=Tryz.sizeOf20
 v20:=Tryz.zeroValue20
 t31:=Tryz.underlying58
 a31:=Tryz.isAgg58
 z31:=Tryz.sizeOf58
 v31:=Tryz.zeroValue58
 t37:=Tryz.underlying85
 a37:=Tryz.isAgg85
 z37:=Tryz.sizeOf85
 v37:=Tryz.zeroValue85
 t70:=Tryz.underlying84
 a70:=Tryz.isAgg84
 z70:=Tryz.sizeOf84
 v70:=Tryz.zeroValue84
 t72:=Tryz.underlying87
 a72:=Tryz.isAgg87
 z72:=Tryz.sizeOf87
 v72:=Tryz.zeroValue87
 t75:=Tryz.underlying89
 a75:=Tryz.isAgg89
 z75:=Tryz.sizeOf89
 v75:=Tryz.zeroValue89
 t76:=Tryz.underlying90
 a76:=Tryz.isAgg90
 z76:=Tryz.sizeOf90
 v76:=Tryz.zeroValue90
 t127:=Tryz.underlying132
 a127:=Tryz.isAgg132
 z127:=Tryz.sizeOf132
 v127:=Tryz.zeroValue132
 t164:=Tryz.underlying163
 a164:=Tryz.isAgg163
 z164:=Tryz.sizeOf163
 v164:=Tryz.zeroValue163 }
theorem Tryz.Builder_Extra_156:Builder.Extra Tryz.prog Tryz.lays156_ren:={
 sizeBuilder:=by kernel_rfl
 liesBuilder:=by kernel_rfl
 t5:=Tryz.underlying5
 a5:=Tryz.isAgg5
 z5:=Tryz.sizeOf5
 v5:=Tryz.zeroValue5
 infoByte:=by kernel_rfl
 cellsByte:=by kernel_rfl
 sizeByte:=by kernel_rfl
 neB5:=by decide }
end Go.Proofs
end
noncomputable section
namespace Go.Proofs.Lx
open Go Go.RowKit Go.Proofs Go.Proofs.YtnamnibaedolaaaGreatDoor
def p10:String:=match Rows.recipeTellsRow.laid with
 | _::_::x::_=>x.1
 | _ => ""
def I0(w:World):Prop:=Lib.TabIs Tryz.prog w p10 .u64 Lib.pow10Tab
noncomputable section
open Ev Sx
theorem aje{pl:List Ev.Place}{L:Lx}{w:World}{k:IntKind}{x:Int}{v:Value}(h:Den pl L w (.d (.int k) x) v):v = .int k x:=by obtain⟨cs,h1,rfl⟩:=h;have h1:cs=[.int k x]:=h1;subst h1;rfl
theorem aoM{pl:List Ev.Place}{L:Lx}{w:World}{x:List UInt8}{v:Value}(h:Den pl L w (.d .str x) v):v = .string ⟨⟨x⟩⟩:=by obtain⟨cs,h1,rfl⟩:=h;have h1:cs=[.string ⟨⟨x⟩⟩]:=h1;subst h1;rfl
theorem Pd{B:Nat->Prop}{F:Lx}{w w':World}(h:LOk B [] F w)(hs:w.heap.size≤w'.heap.size):LOk B [] F w':=⟨.nil,fun k hk=>(by cases hk),fun k hk=>(by cases hk),h.baseS hs,h.farS hs⟩
theorem Lf{pl:List Ev.Place}{w w':World}(h:Below w.heap.size w w'):Blw (Bo pl [] w) w w':=⟨h.os,h.tape,h.output,h.size,fun k hk _=>h.block k hk⟩
end
def dF:Nat->Nat->List UInt8
 | 0,u=>[UInt8.ofNat (48+u%10)]
 | k+1,u=>if u<10 then [UInt8.ofNat (48+u)] else dF k (u / 10)++[UInt8.ofNat (48+u%10)]
theorem GY:∀(k u:Nat),u<10 ^ (k+1)->dF k u=Lib.decDigits u
 | 0,u,h=>by
  have h:u<10:=by simpa using h
  rw[Lib.decDigits,dif_pos h,dF,Nat.mod_eq_of_lt h]
 | k+1,u,h=>by
  rw[Lib.decDigits,dF];by_cases h1:u<10
  ·rw[if_pos h1,dif_pos h1]
  ·rw[if_neg h1,dif_neg h1,GY k (u / 10) (by rw[Nat.pow_succ]at h;omega)]
open Ev Sx in
theorem ZM{pl:List Ev.Place}{L:Lx}{w:World}{x:List UInt8}:Den pl L w (.d .str x) (.string ⟨⟨x⟩⟩):=⟨[.string ⟨⟨x⟩⟩],rfl,rfl⟩
def itF(n:Int):List UInt8:=if n<0 then 45::dF 19 n.natAbs else dF 19 n.toNat
theorem ajf{n:Int}(h0:-9223372036854775808≤n)(h1:n≤9223372036854775807):itF n=Lib.itoa n:=by
 unfold itF Lib.itoa;by_cases h:n<0
 ·rw[if_pos h,if_pos h,GY 19 _ (by omega)]
 ·rw[if_neg h,if_neg h,GY 19 _ (by omega)]
open Ev Sx in
@[reducible] def aZ:List Ty:=[.int .i64,.int .i64]
open Ev Sx in
@[reducible] def AF:Sh:=shD aZ [.str]
open Ev Sx in
def Wx(x:As aZ):Option (As [.str]):=if (-9223372036854775808≤x.1∧x.1≤9223372036854775807)∧x.2.1=10 then some (itF x.1,()) else none
theorem Wy{X:Int}(h:-9223372036854775808≤X∧X≤9223372036854775807){w:World}(hI:I0 w):Calls Tryz.prog 99 #[.int .i64 X,.int .i64 10] w fun e w'=>e = .returned (.string ⟨⟨itF X⟩⟩)∧Below w.heap.size w w':=by rw[ajf h.1 h.2];refine (Any.internal_strconv_FormatInt_10 Tryz.laysM246 X h.1 h.2 w hI).mono fun e w' he=>?_;obtain⟨rfl,k,os,rfl⟩:=he;exact⟨rfl,Lib.below_grow w.heap.size w (Nat.le_refl _) k os⟩
open Ev Sx in
theorem ze:au Tryz.prog I0 99 ⟨AF,Wx⟩:=by
 intro F w0 pl x y ss own vs hx hA hpl hI hL hE hD;have hA:some ([SV.d (.int .i64) x.1,SV.d (.int .i64) x.2.1],([]:List (Nat×Ent)))=some (ss,own):=hA;cases hA;obtain⟨v1,q1,rfl,hv1,v2,q2,rfl,hv2,hq⟩:=hD;have hq:q2=[]:=hq;subst hq;rw[aje hv1,aje hv2];have hx:(if (-9223372036854775808≤x.1∧x.1≤9223372036854775807)∧x.2.1=10 then some (itF x.1,()) else none)=some y:=hx;by_cases hc:(-9223372036854775808≤x.1∧x.1≤9223372036854775807)∧x.2.1=10
 ·rw[if_pos hc]at hx
  cases hx
  rw[hc.2];refine (Wy hc.1 (hI w0 (Blw.refl _ _))).mono fun e w' he=>?_;obtain⟨rfl,hb⟩:=he;exact⟨[_],rfl,pl,[SV.d .str (itF x.1)],[],rfl,fun _ _ h=>h,hpl,Lf hb,Pd hL hb.size,fun e he=>(by cases he),_,[],rfl,ZM,rfl⟩
 ·rw[if_neg hc]at hx
  cases hx
end Go.Proofs.Lx
end
noncomputable section
open Go Go.Proofs Ev Sx Pl
set_option maxRecDepth 100000
namespace Go.Proofs.Lx
def ajg(x:As [Ty.int .i64]):Option (As [Ty.str]):=if 0≤x.1∧x.1≤9223372036854775807 then some (dF 19 x.1.toNat,()) else none
end Go.Proofs.Lx
end
noncomputable section
namespace Go.Proofs.Lx
open Go Go.RowKit Go.Proofs Go.Shelf
def bI(a:List UInt8):List (List UInt8)->List UInt8
 | []=>[]
 | [x]=>x
 | x::b::r=>x++a++bI a (b::r)
theorem Fw(sep:List UInt8):∀xs:List (List UInt8),bI sep xs=Lib.join xs sep
 | []=>rfl
 | [x]=>by simp[bI,Lib.join]
 | x::y::r=>by have:=Fw sep (y::r);unfold Lib.join at this ⊢;rw[bI,this];cases r<;>simp[List.intercalate,List.intersperse]
open Ev Sx in
@[reducible] def zf:Sh:=shD [.sl .str,.str] [.str]
open Ev Sx in
def strings_Join(x:As [.sl .str,.str]):Option (As [.str]):=if x.1.length≤1000000∧(bI x.2.1 x.1).length≤140737488355328 then some (bI x.2.1 x.1,()) else none
def bts(l:List UInt8):ByteArray:=⟨⟨l⟩⟩
open Ev Sx in
theorem Wz{pl:List Ev.Place}{L:Lx}{w:World}{xs:List (List UInt8)}{sep:List UInt8}{v:Value}(hv:Den pl L w (.d (.sl .str) xs) v)(h1:xs.length≤1000000)(h2:(bI sep xs).length≤140737488355328) :
  Calls Tryz.prog 25 #[v,.string ⟨⟨sep⟩⟩] w fun e w'=>e = .returned (.string ⟨⟨bI sep xs⟩⟩)∧Below w.heap.size w w':=by
 have hr:=jI hv;obtain⟨a,cap,hsh,hcap,hel⟩:=hr;simp at hsh;subst hsh;by_cases hx:xs=[]
 ·subst hx
  refine (Any.strings_Join_none Tryz.lays156 Tryz.Builder_Extra_156 a cap (bts sep) w).mono fun e w' he=>?_;obtain⟨rfl,rfl⟩:=he;exact⟨rfl,Below.refl _ _⟩
 ·obtain⟨b,o,rfl,he⟩:=hel hx
  have e1:(xs.map bts).map (·.data.toList)=xs:=by rw[List.map_map];exact (List.map_congr_left (fun x _=>rfl)).trans (List.map_id xs)
  have e2:(bts sep).data.toList=sep:=rfl;have hl:(xs.map bts).length=xs.length:=List.length_map ..
  have hb:b<w.heap.size:=by
   cases xs with
   | nil=>exact absurd rfl hx
   | cons x q=>exact (he 0 x rfl).1
  have hj:=Any.strings_Join Tryz.lays156 Tryz.Builder_Extra_156 b o cap (xs.map bts) (bts sep) w (fun j x hj=>by
   rw[List.getElem?_map]at hj;obtain⟨z,hz,rfl⟩:=Option.map_eq_some_iff.1 hj;obtain⟨_,_,cs,h3,h4⟩:=he j z hz;have h3:cs=[.string ⟨⟨z⟩⟩]:=h3;subst h3;have:=h4 0 _ rfl;have e:o+j*(rp .str).size+0=o+j:=by show o+j*1+0=o+j;omega
   rw[e]at this
   exact this) hb (by rw[hl];omega) (by rw[hl];exact hcap) (by rw[e1,e2,<- Fw];exact h2)
  rw[e1,e2,<- Fw,hl]at hj;exact hj
open Ev Sx in
theorem GZ:au Tryz.prog I0 25 ⟨zf,strings_Join⟩:=by
 intro F w0 pl x y ss own vs hx hA hpl hI hL hE hD;have hA:some ([SV.d (.sl .str) x.1,SV.d .str x.2.1],([]:List (Nat×Ent)))=some (ss,own):=hA;cases hA;obtain⟨v1,q1,rfl,hv1,v2,q2,rfl,hv2,hq⟩:=hD;have hq:q2=[]:=hq;subst hq;rw[aoM hv2];have hx:(if x.1.length≤1000000∧(bI x.2.1 x.1).length≤140737488355328 then some (bI x.2.1 x.1,()) else none)=some y:=hx;by_cases hc:x.1.length≤1000000∧(bI x.2.1 x.1).length≤140737488355328
 ·rw[if_pos hc]at hx
  cases hx
  refine (Wz hv1 hc.1 hc.2).mono fun e w' he=>?_;obtain⟨rfl,hb⟩:=he;exact⟨[_],rfl,pl,[SV.d .str (bI x.2.1 x.1)],[],rfl,fun _ _ h=>h,hpl,Lf hb,Pd hL hb.size,fun e he=>(by cases he),_,[],rfl,ZM,rfl⟩
 ·rw[if_neg hc]at hx
  cases hx
end Go.Proofs.Lx
end
noncomputable section
namespace Go.Proofs.Lx
open Go Go.Proofs Ev
theorem jN{P:Program}{I:World->Prop}{f:FuncId}{ct:Ct}(h:au P (fun _=>True) f ct):au P I f ct :=
 fun F w0 pl x y ss own vs hx hA hpl _ hL hE hD=>h F w0 pl x y ss own vs hx hA hpl (fun _ _=>trivial) hL hE hD
end Go.Proofs.Lx
end
