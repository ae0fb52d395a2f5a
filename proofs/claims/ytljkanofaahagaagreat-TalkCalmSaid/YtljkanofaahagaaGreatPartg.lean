/- Proved in the last of these 16 parts (this is part 7): TalkCalm. Conditions: those of the given statement, and no others. -/
import Derived.Test.YtljkanofaahagaaGreatPartd
import Derived.Test.YtljkanofaahagaaGreatPartf
import Derived.Test.YtljkanofaahagaaGreatProg
import Derived.Test.YtljkanofaahagaaGreatParte
set_option linter.unusedVariables false
set_option linter.unusedSimpArgs false
set_option linter.unusedSectionVars false
open Option renaming bind → zC, none → zH
open List renaming replicate → zE, length → zG
open Int renaming ofNat → zF, toNat → zI
open Go.Value renaming slice → zK
noncomputable section
open Go Go.Proofs Ev Sx
set_option maxRecDepth 100000
namespace Go.Proofs.Lx
abbrev Cc:Type:=Oi×Int×Int×List (Int×List Int)×Int×Int×Int×Int×Int
abbrev kg:Type:=Int×Int×List Bool×List Int×Int×Int
@[reducible] def aiz:Sh:=⟨[.d (.sl .bool),.d (.bool)],[],[.sl .bool,.bool],[.d (.int .i64)],[],0,[.int .i64]⟩
def aiA:Env:=(cts [])
def aiB:List (Nat×Hint):=[(26,⟨[],[0,1,7,8]⟩)]
def Yj(s:List Bool)(v:Bool)(t7 t8:Int):St:=⟨[(0,.d (.sl .bool) s),(1,dB v),(7,dI t7),(8,dI t8)],19,[],[],0,[],0⟩
@[reducible] def cO:Type:=As [.int .i64]
def Jp(self1:List Bool->Bool->Int->Int->Option cO)(s:List Bool)(v:Bool)(t7 t8:Int):Option cO :=
 if lt t8 t7=true then zC (at? s t8) fun y=>if Sx.eqb v y=true then some (t8,()) else self1 s v t7 (add .i64 t8 1) else some (-1,())
def Yk(j1:List Bool->Bool->Int->Int->Option cO)(s:List Bool)(v:Bool):Option cO :=
 j1 s v (zF (zG s)) 0
def Pv(s:List Bool)(v:Bool)(t7 t8:Int):Option cO :=
 cu (fun self s=>Jp (fun s v t7 t8=>self (s,v,t7,t8)) s.1 s.2.1 s.2.2.1 s.2.2.2) 18446744073709551616 (s,v,t7,t8)
def aiC(x:As [.sl .bool,.bool]):Option cO:=Yk Pv x.1 x.2.1
abbrev pDt:=zp aiA aiB 241 aiz
theorem ax8{J w1 a b c d}:pDt J 26 [w1] (Yj a b c d)=Jp (C w1 Yj) a b c d:=by kernel_rfl
abbrev pDs:=zj aiA aiB 241 aiz
theorem ax9:C (pDs 26 []) Yj=Pv:=gLC (by decide) (by kernel_rfl) (fun _=>by unfold Pv;rfl) fun _ _=>ax8.trans (by kernel_rfl)
theorem aya:au Tryz.prog (fun _=>True) 241 ⟨aiz,aiC⟩:=zcc (env:=aiA) (d:=6) (hs:=Ev.get aiB) bq (fun J x=>Yk (C (J 26 []) Yj) x.1 x.2.1) (fun _ _=>by kernel_rfl) fun _=>by rw[ax9]<;>rfl
@[reducible] def aiD:Sh:=⟨[.d (.sl .bool),.d (.bool)],[],[.sl .bool,.bool],[.d (.bool)],[],0,[.bool]⟩
def aiE(s:List Bool)(v:Bool):Option aF :=
 zC (aiC (s,v,())) fun y=>some (ge y.1 0,())
def Fx(x:As [.sl .bool,.bool]):Option aF:=aiE x.1 x.2.1
theorem aua:au Tryz.prog (fun _=>True) 199 ⟨aiD,Fx⟩:=ctn (aj aya bq) 6 fun J x=>by kernel_rfl
@[reducible] def aiF:Sh:=⟨[.d (.int .u8),.d (.int .u8)],[],[.int .u8,.int .u8],[.d aP],[],0,aS⟩
@[reducible] def dD:Type:=As aS
def ayb(f except:Int):Option dD :=
 some ((rem f 128,except,[],[],0,0),())
def lF(x:As [.int .u8,.int .u8]):Option dD:=ayb x.1 x.2.1
theorem Yl:au Tryz.prog (fun _=>True) 166 ⟨aiF,lF⟩:=ctn bq 6 fun J x=>by kernel_rfl
@[reducible] def aiG:Sh:=⟨[.d (.sl .bool),.d (.sl .bool)],[],[.sl .bool,.sl .bool],[.d (.bool)],[],0,[.bool]⟩
def aiH:Env:=(cts [])
def aiI:List (Nat×Hint):=[(58,⟨[],[0,1,12,13]⟩)]
def Ym(s1 s2:List Bool)(t12 t13:Int):St:=⟨[(0,.d (.sl .bool) s1),(1,.d (.sl .bool) s2),(12,dI t12),(13,dI t13)],26,[],[],0,[],0⟩
@[reducible] def zG0:Type:=List Bool->List Bool->Int->Int->Option aF
def Pw(self1:zG0)(s1 s2:List Bool)(t12 t13:Int):Option aF :=
 if lt t13 t12=true then zC (at? s1 t13) fun y=>zC (at? s2 t13) fun y_1=>if Sx.neb y y_1=true then some (false,()) else self1 s1 s2 t12 (add .i64 t13 1) else some (true,())
def Yn(j1:zG0)(s1 s2:List Bool):Option aF :=
 if nei (zF (zG s1)) (zF (zG s2))=true then some (false,()) else j1 s1 s2 (zF (zG s1)) 0
def Px(s1 s2:List Bool)(t12 t13:Int):Option aF :=
 cu (fun self s=>Pw (fun s1 s2 t12 t13=>self (s1,s2,t12,t13)) s.1 s.2.1 s.2.2.1 s.2.2.2) 18446744073709551616 (s1,s2,t12,t13)
def Py(x:As [.sl .bool,.sl .bool]):Option aF:=Yn Px x.1 x.2.1
abbrev pDn:=zp aiH aiI 59 aiG
theorem ayc{J w1 a b c d}:pDn J 58 [w1] (Ym a b c d)=Pw (C w1 Ym) a b c d:=by kernel_rfl
abbrev pDm:=zj aiH aiI 59 aiG
theorem ayd:C (pDm 58 []) Ym=Px:=gLC (by decide) (by kernel_rfl) (fun _=>by unfold Px;rfl) fun _ _=>ayc.trans (by kernel_rfl)
theorem aye:au Tryz.prog (fun _=>True) 59 ⟨aiG,Py⟩:=zcc (env:=aiH) (d:=6) (hs:=Ev.get aiI) bq (fun J x=>Yn (C (J 58 []) Ym) x.1 x.2.1) (fun _ _=>by kernel_rfl) fun _=>by rw[ayd]<;>rfl
@[reducible] def ap1:Sh:=⟨[.d aP,.d aP],[],[.pr (.int .u8) og,.pr (.int .u8) og],[.d (.bool)],[],0,[.bool]⟩
def aiJ(a b:kg):Option aF :=
 if eqi a.1 b.1=true then if eqi a.2.1 b.2.1=true then if eqi a.2.2.2.2.1 b.2.2.2.2.1=true then if eqi a.2.2.2.2.2 b.2.2.2.2.2=true then zC (Py (a.2.2.1,b.2.2.1,())) fun y=>if y.1=true then zC (yj (a.2.2.2.1,b.2.2.2.1,())) fun y=>some (y.1,()) else some (false,()) else some (false,()) else some (false,()) else some (false,()) else some (false,())
def wH(x:As [.pr (.int .u8) og,.pr (.int .u8) og]):Option aF:=aiJ x.1 x.2.1
theorem Fy:au Tryz.prog (fun _=>True) 202 ⟨ap1,wH⟩:=ctn (aj aye (aj ahT bq)) 6 fun J x=>by kernel_rfl
@[reducible] def bE:List Ty:=[.un,.pr (.int .u8) og]
@[reducible] def aub:Sh:=⟨[.d (.un),.d aP],[],bE,[.d (.bool)],[],0,[.bool]⟩
def aiK(v:Unit)(r:kg):Option aF :=
 if lt r.1 128=true then if ge r.2.1 1=true then if le r.2.1 4=true then zC (lF (r.1,r.2.1,())) fun y=>zC (wH (r,y.1,())) fun y=>some (y.1,()) else some (false,()) else some (false,()) else some (false,())
def FB(x:As bE):Option aF:=aiK x.1 x.2.1
theorem aiL:au Tryz.prog (fun _=>True) 318 ⟨aub,FB⟩:=ctn (aj Yl (aj Fy bq)) 6 fun J x=>by kernel_rfl
@[reducible] def auc:Sh:=⟨[.d (.un),.d aP],[],bE,[.d (.bool)],[],0,[.bool]⟩
def aiM(v:Unit)(r:kg):Option aF :=
 if ge (zF (zG r.2.2.1)) 8=true then if le (zF (zG r.2.2.1)) 2000=true then if eqi (rem (zF (zG r.2.2.1)) 8) 0=true then zC (wH (r,(r.1,0,r.2.2.1,[],0,0),())) fun y=>some (y.1,()) else some (false,()) else some (false,()) else some (false,())
def yu(x:As bE):Option aF:=aiM x.1 x.2.1
theorem aiN:au Tryz.prog (fun _=>True) 321 ⟨auc,yu⟩:=ctn (aj Fy bq) 6 fun J x=>by kernel_rfl
@[reducible] def aud:Sh:=⟨[.d (.un),.d aP],[],bE,[.d (.bool)],[],0,[.bool]⟩
def aiO(v:Unit)(r:kg):Option aF :=
 if ge (zF (zG r.2.2.2.1)) 1=true then if le (zF (zG r.2.2.2.1)) 125=true then zC (wH (r,(r.1,0,[],r.2.2.2.1,0,0),())) fun y=>some (y.1,()) else some (false,()) else some (false,())
def yX(x:As bE):Option aF:=aiO x.1 x.2.1
theorem aiP:au Tryz.prog (fun _=>True) 324 ⟨aud,yX⟩:=ctn (aj Fy bq) 6 fun J x=>by kernel_rfl
@[reducible] def aue:Sh:=⟨[.d (.un),.d aP],[],bE,[.d (.bool)],[],0,[.bool]⟩
def aiQ(v:Unit)(r:kg):Option aF :=
 if eqi (zF (zG r.2.2.1)) 1=true then zC (wH (r,(r.1,0,r.2.2.1,[],r.2.2.2.2.1,0),())) fun y=>some (y.1,()) else some (false,())
def FC(x:As bE):Option aF:=aiQ x.1 x.2.1
theorem aiR:au Tryz.prog (fun _=>True) 329 ⟨aue,FC⟩:=ctn (aj Fy bq) 6 fun J x=>by kernel_rfl
@[reducible] def auf:Sh:=⟨[.d (.un),.d aP],[],bE,[.d (.bool)],[],0,[.bool]⟩
def aiS(v:Unit)(r:kg):Option aF :=
 if eqi (zF (zG r.2.2.2.1)) 1=true then zC (wH (r,(r.1,0,[],r.2.2.2.1,r.2.2.2.2.1,0),())) fun y=>some (y.1,()) else some (false,())
def FD(x:As bE):Option aF:=aiS x.1 x.2.1
theorem aiT:au Tryz.prog (fun _=>True) 332 ⟨auf,FD⟩:=ctn (aj Fy bq) 6 fun J x=>by kernel_rfl
@[reducible] def aug:Sh:=⟨[.d (.wr (.int .u16)),.d aP],[],[.wr (.int .u16),.pr (.int .u8) og],[.d (.bool)],[],0,[.bool]⟩
def aiU(k:Int)(r:kg):Option aF :=
 if ge r.2.2.2.2.2 1=true then if le r.2.2.2.2.2 k=true then zC (wH (r,(r.1,0,[],[],r.2.2.2.2),())) fun y=>some (y.1,()) else some (false,()) else some (false,())
def yw(x:As [.wr (.int .u16),.pr (.int .u8) og]):Option aF:=aiU x.1 x.2.1
theorem aiV:au Tryz.prog (fun _=>True) 335 ⟨aug,yw⟩:=ctn (aj Fy bq) 6 fun J x=>by kernel_rfl
@[reducible] def ap2:Sh:=⟨[.d aP],[],aS,[.d (.bool)],[],0,[.bool]⟩
def aiW(r:kg):Option aF :=
 if nei r.2.1 0=true then zC (FB ((),r,())) fun y=>some (y.1,()) else if eqi r.1 1=true then zC (yu ((),r,())) fun y=>some (y.1,()) else if eqi r.1 2=true then zC (yu ((),r,())) fun y=>some (y.1,()) else if eqi r.1 3=true then zC (yX ((),r,())) fun y=>some (y.1,()) else if eqi r.1 4=true then zC (yX ((),r,())) fun y=>some (y.1,()) else if eqi r.1 23=true then zC (yX ((),r,())) fun y=>some (y.1,()) else if eqi r.1 5=true then zC (FC ((),r,())) fun y=>some (y.1,()) else if eqi r.1 6=true then zC (FD ((),r,())) fun y=>some (y.1,()) else if eqi r.1 15=true then zC (yw (1968,r,())) fun y=>some (y.1,()) else if eqi r.1 16=true then zC (yw (123,r,())) fun y=>some (y.1,()) else some (false,())
def Yo(x:As aS):Option aF:=aiW x.1
theorem ayf:au Tryz.prog (fun _=>True) 200 ⟨ap2,Yo⟩:=ctn (aj aiL (aj aiN (aj aiP (aj aiR (aj aiT (aj aiV bq)))))) 6 fun J x=>by kernel_rfl
@[reducible] def bO:List Ty:=[.pr (.int .u8) og,.bool]
@[reducible] def Jq:Sh:=⟨[.d bA],[],aW,[.d aP,.d (.bool)],[],0,bO⟩
def aiX:Env:=(cts [(105,(⟨Fh,wD⟩:Ct))])
def aiY:List (Nat×Hint):=[(15,⟨[.rwb 4 2 4,.rwb 4 3 25],[2,4]⟩),(1967,⟨[],[1,2,4,33]⟩)]
def Yp(t2 t2_2 t2_3 t2_4 r r_2 r_3 r_4:Int)(o:List Bool)(o_2:List Int):St:=⟨[(2,.pb 0 0),(4,.pb 1 0)],40,[],[(0,.box 109 [d8 t2,d8 t2_2,.k (zK zH 0 0),.k (zK zH 0 0),d6 t2_3,d6 t2_4]),(1,.box 109 [d8 r,d8 r_2,.row 2,.row 3,d6 r_3,d6 r_4]),(2,.row .bool 4 o),(3,.row (.int .u16) 25 o_2)],4,[],0⟩
def aiZ(t33:Bool)(a a_2 a_3 a_4:Int)(a_5:List Int)(a_6:List Bool)(t2 t2_2 t2_3 t2_4 r r_2 r_3 r_4:Int):St:=⟨[(1,.pb 0 0),(2,.pb 1 0),(4,.pb 2 0),(33,dB t33)],40,[],[(0,.box 27 [d8 a,d6 a_2,d6 a_3,d6 a_4,dW a_5,.d (.sl .bool) a_6]),(1,.box 109 [d8 t2,d8 t2_2,.k (zK zH 0 0),.k (zK zH 0 0),d6 t2_3,d6 t2_4]),(2,.box 109 [d8 r,d8 r_2,.k (zK zH 0 0),.k (zK zH 0 0),d6 r_3,d6 r_4])],3,[],0⟩
@[reducible] def eX:Type:=As bO
def ap3(t2 t2_2 t2_3 t2_4 r r_2 r_3 r_4:Int)(o:List Bool)(o_2:List Int):Option eX :=
 some ((r,r_2,o,o_2,r_3,r_4),true,())
@[reducible] def zG1:Type:=Int->Int->Int->Int->Int->Int->Int->Int->List Bool->List Int->Option eX
def ap4(j1:zG1)(t33:Bool)(a a_2 a_3 a_4:Int)(a_5:List Int)(a_6:List Bool)(t2 t2_2 t2_3 t2_4 r r_2 r_3 r_4:Int):Option eX :=
 if t33=true then j1 t2 t2_2 t2_3 t2_4 r r_2 r_3 a_3 [] [] else some ((0,0,[],[],0,0),false,())
def Jr(j1:zG1)(j2:Bool->Int->Int->Int->Int->List Int->List Bool->Int->Int->Int->Int->Int->Int->Int->Int->Option eX)(a:Int×Int×Int×Int×List Int×List Bool):Option eX :=
 zC (wD (a,())) fun y=>if (!y.1)=true then some ((0,0,[],[],0,0),false,()) else if eqi a.1 5=true then zC (at? a.2.2.2.2.2 0) fun y=>j1 0 0 0 0 a.1 0 a.2.1 0 [y] [] else if eqi a.1 6=true then zC (at? a.2.2.2.2.1 0) fun y=>j1 0 0 0 0 a.1 0 a.2.1 0 [] [y] else if eqi a.1 15=true then j2 true a.1 a.2.1 a.2.2.1 a.2.2.2.1 a.2.2.2.2.1 a.2.2.2.2.2 0 0 0 0 a.1 0 a.2.1 0 else j2 (eqi a.1 16) a.1 a.2.1 a.2.2.1 a.2.2.2.1 a.2.2.2.2.1 a.2.2.2.2.2 0 0 0 0 a.1 0 a.2.1 0
def Pz:=ap3
def Yq:=ap4 (Pz)
def wI(x:As aW):Option eX:=Jr Pz Yq x.1
abbrev pCv:=zp aiX aiY 201 Jq
theorem ayg{J a b c d e f g h i j}:pCv J 15 [] (Yp a b c d e f g h i j)=ap3 a b c d e f g h i j:=by kernel_rfl
theorem ayh{J a b c d e f g h i j k l m n o}:pCv J 1967 [] (aiZ a b c d e f g h i j k l m n o)=ap4 (C (J 15 []) Yp) a b c d e f g h i j k l m n o:=by kernel_rfl
abbrev pCu:=zj aiX aiY 201 Jq
theorem ap5:C (pCu 15 []) Yp=Pz:=gNC (by decide) fun _=>ayg
theorem ayi:C (pCu 1967 []) aiZ=Yq:=gNC (by decide) fun _=>ayh.trans (by rw[ap5]<;>kernel_rfl)
theorem ai0:au Tryz.prog (fun _=>True) 201 ⟨Jq,wI⟩:=zcc (env:=aiX) (d:=6) (hs:=Ev.get aiY) (aj Ov bq) (fun J x=>Jr (C (J 15 []) Yp) (C (J 1967 []) aiZ) x.1) (fun _ _=>by kernel_rfl) fun _=>by rw[ap5,ayi]<;>rfl
@[reducible] def Yr:Sh:=⟨[.d bA,.d aP],[],[.pr (.int .u8) lC,.pr (.int .u8) og],[.d (.bool)],[],0,[.bool]⟩
def ai1:Env:=(cts [(105,(⟨Fh,wD⟩:Ct)),(199,(⟨aiD,Fx⟩:Ct)),(200,(⟨ap2,Yo⟩:Ct)),(201,(⟨Jq,wI⟩:Ct)),(202,(⟨ap1,wH⟩:Ct))])
def ai2:List (Nat×Hint):=[(6,⟨[],[2,3,22,51,52,53,54,55,56]⟩)]
def ai3(t22:Bool)(a a_2 a_3 a_4:Int)(a_5:List Int)(a_6:List Bool)(r r_2:Int)(r_3:List Bool)(r_4:List Int)(r_5 r_6:Int):St:=⟨[(2,.pb 0 0),(3,.pb 1 0),(22,dB t22)],63,[],[(0,.box 27 [d8 a,d6 a_2,d6 a_3,d6 a_4,dW a_5,.d (.sl .bool) a_6]),(1,.box 109 [d8 r,d8 r_2,.d (.sl .bool) r_3,dW r_4,d6 r_5,d6 r_6])],2,[],0⟩
def ai4(t22:Bool)(a a_2 a_3 a_4:Int)(a_5:List Int)(a_6:List Bool)(r r_2:Int)(r_3:List Bool)(r_4:List Int)(r_5 r_6:Int):Option aF :=
 if t22=true then some (false,()) else if nei r_2 0=true then some (true,()) else zC (wI ((a,a_2,a_3,a_4,a_5,a_6),())) fun y=>if y.2.1=true then zC (wH (y.1,(r,r_2,r_3,r_4,r_5,r_6),())) fun y=>some (y.1,()) else if gt (zF (zG r_3)) 0=true then if eqi (zF (zG r_3)) (mul .i64 (quo .i64 (add .i64 (cvt .i64 a_3) 7) 8) 8)=true then zC (cut r_3 (cvt .i64 a_3) (zF (zG r_3))) fun y=>zC (Fx (y,true,())) fun y=>some (!y.1,()) else some (false,()) else some (eqi (zF (zG r_4)) (cvt .i64 a_3),())
def Yt(j1:Bool->Int->Int->Int->Int->List Int->List Bool->Int->Int->List Bool->List Int->Int->Int->Option aF)(a:Int×Int×Int×Int×List Int×List Bool)(r:kg):Option aF :=
 zC (wD (a,())) fun y=>if (!y.1)=true then j1 true a.1 a.2.1 a.2.2.1 a.2.2.2.1 a.2.2.2.2.1 a.2.2.2.2.2 r.1 r.2.1 r.2.2.1 r.2.2.2.1 r.2.2.2.2.1 r.2.2.2.2.2 else zC (Yo (r,())) fun y=>if (!y.1)=true then j1 true a.1 a.2.1 a.2.2.1 a.2.2.2.1 a.2.2.2.2.1 a.2.2.2.2.2 r.1 r.2.1 r.2.2.1 r.2.2.2.1 r.2.2.2.2.1 r.2.2.2.2.2 else j1 (nei a.1 r.1) a.1 a.2.1 a.2.2.1 a.2.2.2.1 a.2.2.2.2.1 a.2.2.2.2.2 r.1 r.2.1 r.2.2.1 r.2.2.2.1 r.2.2.2.2.1 r.2.2.2.2.2
def PD:=ai4
def PE(x:As [.pr (.int .u8) lC,.pr (.int .u8) og]):Option aF:=Yt PD x.1 x.2.1
abbrev pCx:=zp ai1 ai2 154 Yr
theorem ayj{J a b c d e f g h i j k l m}:pCx J 6 [] (ai3 a b c d e f g h i j k l m)=ai4 a b c d e f g h i j k l m:=by kernel_rfl
abbrev pCw:=zj ai1 ai2 154 Yr
theorem ayk:C (pCw 6 []) ai3=PD:=gNC (by decide) fun _=>ayj
theorem ayl:au Tryz.prog (fun _=>True) 154 ⟨Yr,PE⟩:=zcc (env:=ai1) (d:=6) (hs:=Ev.get ai2) (aj Ov (aj aua (aj ayf (aj ai0 (aj Fy bq))))) (fun J x=>Yt (C (J 6 []) ai3) x.1 x.2.1) (fun _ _=>by kernel_rfl) fun _=>by rw[ayk]<;>rfl
@[reducible] def ai5:Sh:=⟨[.d aL,.d aL],[],[.sl (.int .u8),.sl (.int .u8)],[.d (.bool)],[],0,[.bool]⟩
def aym(a b:List Int):Option aF :=
 some (eqs (Sx.toS a) (Sx.toS b),())
def pU(x:As [.sl (.int .u8),.sl (.int .u8)]):Option aF:=aym x.1 x.2.1
theorem ap6:au Tryz.prog (fun _=>True) 112 ⟨ai5,pU⟩:=ctn bq 6 fun J x=>by kernel_rfl
@[reducible] def dF:List Ty:=[.un,.sl (.int .u8)]
@[reducible] def auh:Sh:=⟨[.d (.un),.d aL],[],dF,[.d aP],[],0,aS⟩
def aFf(v:Unit)(b:List Int):Option dD :=
 zC (at? b 0) fun y=>zC (at? b 1) fun y_1=>zC (lF (y,y_1,())) fun y=>some (y.1,())
def Yu(x:As dF):Option dD:=aFf x.1 x.2.1
theorem aFg:au Tryz.prog (fun _=>True) 317 ⟨auh,Yu⟩:=ctn (aj Yl bq) 6 fun J x=>by kernel_rfl
@[reducible] def aui:Sh:=⟨[.d (.un),.d aP],[],bE,[.d aL],[],0,aI⟩
def aFh(v:Unit)(r:kg):Option cA :=
 some ([add .u8 r.1 128,r.2.1],())
def Js(x:As bE):Option cA:=aFh x.1 x.2.1
theorem auj:au Tryz.prog (fun _=>True) 319 ⟨aui,Js⟩:=ctn bq 6 fun J x=>by kernel_rfl
@[reducible] def Yw:Sh:=⟨[.d aL],[],aI,[.d (.sl .bool)],[],0,[.sl .bool]⟩
def ai6:Env:=(cts [])
def ai7:List (Nat×Hint):=[(58,⟨[],[0,3,10,11]⟩)]
def Yx(b:List Int)(t10 t11:Int)(out:List Bool):St:=⟨[(0,dL b),(3,.row 0),(10,dI t10),(11,dI t11)],29,[],[(0,.row .bool 4 out)],1,[],0⟩
@[reducible] def zG2:Type:=List Int->Int->Int->List Bool->Option dN
def PG(self1:zG2)(b:List Int)(t10 t11:Int)(out:List Bool):Option dN :=
 if lt t11 t10=true then zC (at? b (quo .i64 t11 8)) fun y=>need (ge (rem t11 8) 0) (zC (at? out t11) fun x=>zC (at? out t11) fun x=>self1 b t10 (add .i64 t11 1) (List.set out (zI t11) (eqi (Sx.lW .u8 (Sx.shr .u8 y (rem t11 8)) 1) 1))) else some (out,())
def Yy(j1:zG2)(b:List Int):Option dN :=
 need (ge (mul .i64 8 (zF (zG b))) 0) (need (Ev.jR (mul .i64 8 (zF (zG b))) (mul .i64 8 (zF (zG b)))) (need (small (zI (mul .i64 8 (zF (zG b))))) (j1 b (zF (zG (zE (zI (mul .i64 8 (zF (zG b)))) false))) 0 (zE (zI (mul .i64 8 (zF (zG b)))) false))))
def PK(b:List Int)(t10 t11:Int)(out:List Bool):Option dN :=
 cu (fun self s=>PG (fun b t10 t11 out=>self (b,t10,t11,out)) s.1 s.2.1 s.2.2.1 s.2.2.2) 18446744073709551616 (b,t10,t11,out)
def Jt(x:As aI):Option dN:=Yy PK x.1
abbrev pAv:=zp ai6 ai7 288 Yw
theorem ayn{J w1 a b c d}:pAv J 58 [w1] (Yx a b c d)=PG (C w1 Yx) a b c d:=by kernel_rfl
abbrev pAu:=zj ai6 ai7 288 Yw
theorem ayo:C (pAu 58 []) Yx=PK:=gLC (by decide) (by kernel_rfl) (fun _=>by unfold PK;rfl) fun _ _=>ayn.trans (by kernel_rfl)
theorem ap7:au Tryz.prog (fun _=>True) 288 ⟨Yw,Jt⟩:=zcc (env:=ai6) (d:=6) (hs:=Ev.get ai7) bq (fun J x=>Yy (C (J 58 []) Yx) x.1) (fun _ _=>by kernel_rfl) fun _=>by rw[ayo]<;>rfl
@[reducible] def auk:Sh:=⟨[.d (.un),.d aL],[],dF,[.d aP],[],0,aS⟩
def ai8(v:Unit)(b:List Int):Option dD :=
 zC (at? b 0) fun y=>zC (cut b 2 (zF (zG b))) fun y_1=>zC (Jt (y_1,())) fun y_2=>some ((y,0,y_2.1,[],0,0),())
def PL(x:As dF):Option dD:=ai8 x.1 x.2.1
theorem ayp:au Tryz.prog (fun _=>True) 320 ⟨auk,PL⟩:=ctn (aj ap7 bq) 6 fun J x=>by kernel_rfl
@[reducible] def aul:Sh:=⟨[.d (.un),.d aP],[],bE,[.d aL],[],0,aI⟩
def ai9(v:Unit)(r:kg):Option cA :=
 zC (Jb (r.2.2.1,())) fun y=>need (small (Nat.succ (Nat.succ 0)+zG y.1)) (some (r.1::cvt .u8 (zF (zG y.1))::y.1,()))
def Ce(x:As bE):Option cA:=ai9 x.1 x.2.1
theorem aum:au Tryz.prog (fun _=>True) 322 ⟨aul,Ce⟩:=ctn (aj ape bq) 6 fun J x=>by kernel_rfl
@[reducible] def aja:Sh:=⟨[.d aL],[],aI,[.d aB],[],0,aJ⟩
def ajb:Env:=(cts [])
def ajc:List (Nat×Hint):=[(58,⟨[],[0,3,10,11]⟩)]
def Yz(b:List Int)(t10 t11:Int)(l:List Int):St:=⟨[(0,dL b),(3,.row 0),(10,dI t10),(11,dI t11)],34,[],[(0,.row (.int .u16) 25 l)],1,[],0⟩
@[reducible] def zG3:Type:=List Int->Int->Int->List Int->Option bY
def PN(self1:zG3)(b:List Int)(t10 t11:Int)(l:List Int):Option bY :=
 if lt t11 t10=true then zC (at? b (mul .i64 2 t11)) fun y=>zC (at? b (add .i64 (mul .i64 2 t11) 1)) fun y_1=>zC (at? l t11) fun x=>zC (at? l t11) fun x=>self1 b t10 (add .i64 t11 1) (List.set l (zI t11) (Sx.bor .u16 (Sx.shl .u16 (cvt .u16 y) 8) (cvt .u16 y_1))) else some (l,())
def YA(j1:zG3)(b:List Int):Option bY :=
 need (ge (quo .i64 (zF (zG b)) 2) 0) (need (Ev.jR (quo .i64 (zF (zG b)) 2) (quo .i64 (zF (zG b)) 2)) (need (small (zI (quo .i64 (zF (zG b)) 2))) (j1 b (zF (zG (zE (α:=Int) (zI (quo .i64 (zF (zG b)) 2)) 0))) 0 (zE (zI (quo .i64 (zF (zG b)) 2)) 0))))
def PO(b:List Int)(t10 t11:Int)(l:List Int):Option bY :=
 cu (fun self s=>PN (fun b t10 t11 l=>self (b,t10,t11,l)) s.1 s.2.1 s.2.2.1 s.2.2.2) 18446744073709551616 (b,t10,t11,l)
def Ju(x:As aI):Option bY:=YA PO x.1
abbrev pC1:=zp ajb ajc 326 aja
theorem ayq{J w1 a b c d}:pC1 J 58 [w1] (Yz a b c d)=PN (C w1 Yz) a b c d:=by kernel_rfl
abbrev pC0:=zj ajb ajc 326 aja
theorem ayr:C (pC0 58 []) Yz=PO:=gLC (by decide) (by kernel_rfl) (fun _=>by unfold PO;rfl) fun _ _=>ayq.trans (by kernel_rfl)
theorem YB:au Tryz.prog (fun _=>True) 326 ⟨aja,Ju⟩:=zcc (env:=ajb) (d:=6) (hs:=Ev.get ajc) bq (fun J x=>YA (C (J 58 []) Yz) x.1) (fun _ _=>by kernel_rfl) fun _=>by rw[ayr]<;>rfl
@[reducible] def aun:Sh:=⟨[.d (.un),.d aL],[],dF,[.d aP],[],0,aS⟩
def ajd(v:Unit)(b:List Int):Option dD :=
 zC (at? b 0) fun y=>zC (cut b 2 (zF (zG b))) fun y_1=>zC (Ju (y_1,())) fun y_2=>some ((y,0,[],y_2.1,0,0),())
def Jv(x:As dF):Option dD:=ajd x.1 x.2.1
theorem ays:au Tryz.prog (fun _=>True) 323 ⟨aun,Jv⟩:=ctn (aj YB bq) 6 fun J x=>by kernel_rfl
@[reducible] def YC:Sh:=⟨[.row 0,.d aB],[.row (.int .u8) 5],eT,[.row 1],[(1,.row (.int .u8) 5)],1,aI⟩
def aje:Env:=(cts [])
def ajf:List (Nat×Hint):=[(26,⟨[.unl 0],[0,7,8,9]⟩)]
def YD(t7:List Int)(t8 t9:Int)(out:List Int):St:=⟨[(0,.row 1),(7,dW t7),(8,dI t8),(9,dI t9)],23,[],[(1,.row (.int .u8) 5 out)],2,[],1⟩
@[reducible] def zG4:Type:=List Int->Int->Int->List Int->Option cA
def PR(self1:zG4)(t7:List Int)(t8 t9:Int)(out:List Int):Option cA :=
 if lt t9 t8=true then zC (at? t7 t9) fun y=>need (small (zG out+Nat.succ (Nat.succ 0))) (self1 t7 t8 (add .i64 t9 1) (out++[cvt .u8 (Sx.shr .u16 y 8),cvt .u8 y])) else some (out,())
def YE(j1:zG4)(out l:List Int):Option cA :=
 j1 out (zF (zG out)) 0 l
def PS(t7:List Int)(t8 t9:Int)(out:List Int):Option cA :=
 cu (fun self s=>PR (fun t7 t8 t9 out=>self (t7,t8,t9,out)) s.1 s.2.1 s.2.2.1 s.2.2.2) 18446744073709551616 (t7,t8,t9,out)
def Cf(x:As eT):Option cA:=YE PS x.1 x.2.1
abbrev pC3:=zp aje ajf 327 YC
theorem ayt{J w1 a b c d}:pC3 J 26 [w1] (YD a b c d)=PR (C w1 YD) a b c d:=by kernel_rfl
abbrev pC2:=zj aje ajf 327 YC
theorem ayu:C (pC2 26 []) YD=PS:=gLC (by decide) (by kernel_rfl) (fun _=>by unfold PS;rfl) fun _ _=>ayt.trans (by kernel_rfl)
theorem YF:au Tryz.prog (fun _=>True) 327 ⟨YC,Cf⟩:=zcc (env:=aje) (d:=6) (hs:=Ev.get ajf) bq (fun J x=>YE (C (J 26 []) YD) x.1 x.2.1) (fun _ _=>by kernel_rfl) fun _=>by rw[ayu]<;>rfl
@[reducible] def auo:Sh:=⟨[.d (.un),.d aP],[],bE,[.d aL],[],0,aI⟩
def ajg(v:Unit)(r:kg):Option cA :=
 zC (Cf (r.2.2.2.1,[r.1,cvt .u8 (mul .i64 2 (zF (zG r.2.2.2.1)))],())) fun y=>some (y.1,())
def yx(x:As bE):Option cA:=ajg x.1 x.2.1
theorem aup:au Tryz.prog (fun _=>True) 325 ⟨auo,yx⟩:=ctn (aj YF bq) 6 fun J x=>by kernel_rfl
@[reducible] def auq:Sh:=⟨[.d (.un),.d aL],[],dF,[.d aP],[],0,aS⟩
def ajh(v:Unit)(b:List Int):Option dD :=
 zC (cut b 1 (zF (zG b))) fun y=>zC (Ju (y,())) fun y=>if lt (zF (zG y.1)) 2=true then some ((0,0,[],[],0,0),()) else zC (at? b 0) fun y_1=>zC (at? y.1 0) fun y_2=>zC (at? y.1 1) fun y=>some ((y_1,0,[eqi y 65280],[],y_2,0),())
def YG(x:As dF):Option dD:=ajh x.1 x.2.1
theorem ayv:au Tryz.prog (fun _=>True) 328 ⟨auq,YG⟩:=ctn (aj YB bq) 6 fun J x=>by kernel_rfl
@[reducible] def YH:Sh:=⟨[.d (.un),.d aP],[],bE,[.d aL],[],0,aI⟩
def aji:Env:=(cts [(327,(⟨YC,Cf⟩:Ct))])
def ajj:List (Nat×Hint):=[(7,⟨[],[3,5]⟩)]
def ajk(x r r_2:Int)(r_3:List Bool)(r_4:List Int)(r_5 r_6:Int):St:=⟨[(3,.pb 0 0),(5,d6 x)],18,[],[(0,.box 109 [d8 r,d8 r_2,.d (.sl .bool) r_3,dW r_4,d6 r_5,d6 r_6])],1,[],0⟩
def ajl(x r r_2:Int)(r_3:List Bool)(r_4:List Int)(r_5 r_6:Int):Option cA :=
 zC (Cf ([r_5,x],[r],())) fun y=>some (y.1,())
def YI(j1:Int->Int->Int->List Bool->List Int->Int->Int->Option cA)(v:Unit)(r:kg):Option cA :=
 zC (at? r.2.2.1 0) fun y=>if y=true then j1 65280 r.1 r.2.1 r.2.2.1 r.2.2.2.1 r.2.2.2.2.1 r.2.2.2.2.2 else j1 0 r.1 r.2.1 r.2.2.1 r.2.2.2.1 r.2.2.2.2.1 r.2.2.2.2.2
def PT:=ajl
def Jw(x:As bE):Option cA:=YI PT x.1 x.2.1
abbrev pC5:=zp aji ajj 330 YH
theorem ayw{J a b c d e f g}:pC5 J 7 [] (ajk a b c d e f g)=ajl a b c d e f g:=by kernel_rfl
abbrev pC4:=zj aji ajj 330 YH
theorem ayx:C (pC4 7 []) ajk=PT:=gNC (by decide) fun _=>ayw
theorem aur:au Tryz.prog (fun _=>True) 330 ⟨YH,Jw⟩:=zcc (env:=aji) (d:=6) (hs:=Ev.get ajj) (aj YF bq) (fun J x=>YI (C (J 7 []) ajk) x.1 x.2.1) (fun _ _=>by kernel_rfl) fun _=>by rw[ayx]<;>rfl
@[reducible] def aus:Sh:=⟨[.d (.un),.d aL],[],dF,[.d aP],[],0,aS⟩
def ajm(v:Unit)(b:List Int):Option dD :=
 zC (cut b 1 (zF (zG b))) fun y=>zC (Ju (y,())) fun y=>if lt (zF (zG y.1)) 2=true then some ((0,0,[],[],0,0),()) else zC (at? b 0) fun y_1=>zC (at? y.1 0) fun y_2=>zC (at? y.1 1) fun y=>some ((y_1,0,[],[y],y_2,0),())
def YJ(x:As dF):Option dD:=ajm x.1 x.2.1
theorem ayy:au Tryz.prog (fun _=>True) 331 ⟨aus,YJ⟩:=ctn (aj YB bq) 6 fun J x=>by kernel_rfl
@[reducible] def ajn:Sh:=⟨[.d (.un),.d aP],[],bE,[.d aL],[],0,aI⟩
def ajo(v:Unit)(r:kg):Option cA :=
 zC (at? r.2.2.2.1 0) fun y=>amb (ay ajn.rs) [zC (Cf ([r.2.2.2.2.1,y],[r.1],())) fun y=>some (y.1,()),zC (Cf ([r.2.2.2.2.1,y],[r.1],())) fun y=>some (y.1,())]
def Jy(x:As bE):Option cA:=ajo x.1 x.2.1
theorem aut:au Tryz.prog (fun _=>True) 333 ⟨ajn,Jy⟩:=ctn (aj YF bq) 6 fun J x=>by kernel_rfl
@[reducible] def auu:Sh:=⟨[.d (.wr (.int .u16)),.d aL],[],[.wr (.int .u16),.sl (.int .u8)],[.d aP],[],0,aS⟩
def ajp(v:Int)(b:List Int):Option dD :=
 zC (cut b 1 (zF (zG b))) fun y=>zC (Ju (y,())) fun y=>if lt (zF (zG y.1)) 2=true then some ((0,0,[],[],0,0),()) else zC (at? b 0) fun y_1=>zC (at? y.1 0) fun y_2=>zC (at? y.1 1) fun y=>some ((y_1,0,[],[],y_2,y),())
def PU(x:As [.wr (.int .u16),.sl (.int .u8)]):Option dD:=ajp x.1 x.2.1
theorem ayz:au Tryz.prog (fun _=>True) 334 ⟨auu,PU⟩:=ctn (aj YB bq) 6 fun J x=>by kernel_rfl
@[reducible] def auv:Sh:=⟨[.d (.wr (.int .u16)),.d aP],[],[.wr (.int .u16),.pr (.int .u8) og],[.d aL],[],0,aI⟩
def ajq(v:Int)(r:kg):Option cA :=
 zC (Cf ([r.2.2.2.2.1,r.2.2.2.2.2],[r.1],())) fun y=>some (y.1,())
def Cg(x:As [.wr (.int .u16),.pr (.int .u8) og]):Option cA:=ajq x.1 x.2.1
theorem auw:au Tryz.prog (fun _=>True) 336 ⟨auv,Cg⟩:=ctn (aj YF bq) 6 fun J x=>by kernel_rfl
@[reducible] def cU:List Ty:=[.pr (.int .u8) og,.int .i64]
@[reducible] def YK:Sh:=⟨[.d aL],[],aI,[.d aP,.d (.int .i64)],[],0,cU⟩
def ajr:Env:=(cts [(112,(⟨ai5,pU⟩:Ct)),(317,(⟨auh,Yu⟩:Ct)),(318,(⟨aub,FB⟩:Ct)),(319,(⟨aui,Js⟩:Ct)),(320,(⟨auk,PL⟩:Ct)),(321,(⟨auc,yu⟩:Ct)),(322,(⟨aul,Ce⟩:Ct)),(323,(⟨aun,Jv⟩:Ct)),(324,(⟨aud,yX⟩:Ct)),(325,(⟨auo,yx⟩:Ct)),(328,(⟨auq,YG⟩:Ct)),(329,(⟨aue,FC⟩:Ct)),(330,(⟨YH,Jw⟩:Ct)),(331,(⟨aus,YJ⟩:Ct)),(332,(⟨auf,FD⟩:Ct)),(333,(⟨ajn,Jy⟩:Ct)),(334,(⟨auu,PU⟩:Ct)),(335,(⟨aug,yw⟩:Ct)),(336,(⟨auv,Cg⟩:Ct))])
def ajs:List (Nat×Hint):=[(6,⟨[],[0,2,15,42,43,44,45,46,47]⟩)]
def ajt(b:List Int)(t15:Bool)(t2 t2_2 t2_3 t2_4:Int):St:=⟨[(0,dL b),(2,.pb 0 0),(15,dB t15)],51,[],[(0,.box 109 [d8 t2,d8 t2_2,.k (zK zH 0 0),.k (zK zH 0 0),d6 t2_3,d6 t2_4])],1,[],0⟩
def aju(b:List Int)(t15:Bool)(t2 t2_2 t2_3 t2_4:Int):Option (As cU) :=
 if t15=true then some ((0,0,[],[],0,0),13,()) else zC (at? b 0) fun y=>if lt y 128=true then zC (at? b 0) fun y=>if eqi y 1=true then zC (PL ((),b,())) fun y=>zC (yu ((),y.1,())) fun y_1=>if (!y_1.1)=true then some ((0,0,[],[],0,0),13,()) else zC (Ce ((),y.1,())) fun y_2=>zC (pU (y_2.1,b,())) fun y_3=>if (!y_3.1)=true then some ((0,0,[],[],0,0),13,()) else some (y.1,0,()) else if eqi y 2=true then zC (PL ((),b,())) fun y=>zC (yu ((),y.1,())) fun y_1=>if (!y_1.1)=true then some ((0,0,[],[],0,0),13,()) else zC (Ce ((),y.1,())) fun y_2=>zC (pU (y_2.1,b,())) fun y_3=>if (!y_3.1)=true then some ((0,0,[],[],0,0),13,()) else some (y.1,0,()) else if eqi y 3=true then zC (Jv ((),b,())) fun y=>zC (yX ((),y.1,())) fun y_1=>if (!y_1.1)=true then some ((0,0,[],[],0,0),13,()) else zC (yx ((),y.1,())) fun y_2=>zC (pU (y_2.1,b,())) fun y_3=>if (!y_3.1)=true then some ((0,0,[],[],0,0),13,()) else some (y.1,0,()) else if eqi y 4=true then zC (Jv ((),b,())) fun y=>zC (yX ((),y.1,())) fun y_1=>if (!y_1.1)=true then some ((0,0,[],[],0,0),13,()) else zC (yx ((),y.1,())) fun y_2=>zC (pU (y_2.1,b,())) fun y_3=>if (!y_3.1)=true then some ((0,0,[],[],0,0),13,()) else some (y.1,0,()) else if eqi y 23=true then zC (Jv ((),b,())) fun y=>zC (yX ((),y.1,())) fun y_1=>if (!y_1.1)=true then some ((0,0,[],[],0,0),13,()) else zC (yx ((),y.1,())) fun y_2=>zC (pU (y_2.1,b,())) fun y_3=>if (!y_3.1)=true then some ((0,0,[],[],0,0),13,()) else some (y.1,0,()) else if eqi y 5=true then zC (YG ((),b,())) fun y=>zC (FC ((),y.1,())) fun y_1=>if (!y_1.1)=true then some ((0,0,[],[],0,0),13,()) else zC (Jw ((),y.1,())) fun y_2=>zC (pU (y_2.1,b,())) fun y_3=>if (!y_3.1)=true then some ((0,0,[],[],0,0),13,()) else some (y.1,0,()) else if eqi y 6=true then zC (YJ ((),b,())) fun y=>zC (FD ((),y.1,())) fun y_1=>if (!y_1.1)=true then some ((0,0,[],[],0,0),13,()) else zC (Jy ((),y.1,())) fun y_2=>zC (pU (y_2.1,b,())) fun y_3=>if (!y_3.1)=true then some ((0,0,[],[],0,0),13,()) else some (y.1,0,()) else if eqi y 15=true then zC (PU (1968,b,())) fun y=>zC (yw (1968,y.1,())) fun y_1=>if (!y_1.1)=true then some ((0,0,[],[],0,0),13,()) else zC (Cg (1968,y.1,())) fun y_2=>zC (pU (y_2.1,b,())) fun y_3=>if (!y_3.1)=true then some ((0,0,[],[],0,0),13,()) else some (y.1,0,()) else if eqi y 16=true then zC (PU (123,b,())) fun y=>zC (yw (123,y.1,())) fun y_1=>if (!y_1.1)=true then some ((0,0,[],[],0,0),13,()) else zC (Cg (123,y.1,())) fun y_2=>zC (pU (y_2.1,b,())) fun y_3=>if (!y_3.1)=true then some ((0,0,[],[],0,0),13,()) else some (y.1,0,()) else some ((0,0,[],[],0,0),13,()) else zC (Yu ((),b,())) fun y=>zC (FB ((),y.1,())) fun y_1=>if (!y_1.1)=true then some ((0,0,[],[],0,0),13,()) else zC (Js ((),y.1,())) fun y_2=>zC (pU (y_2.1,b,())) fun y_3=>if (!y_3.1)=true then some ((0,0,[],[],0,0),13,()) else some (y.1,0,())
def YL(j1:List Int->Bool->Int->Int->Int->Int->Option (As cU))(b:List Int):Option (As cU) :=
 if lt (zF (zG b)) 2=true then j1 b true 0 0 0 0 else j1 b (gt (zF (zG b)) 253) 0 0 0 0
def YM:=aju
def Jz(x:As aI):Option (As cU):=YL YM x.1
abbrev pCz:=zp ajr ajs 53 YK
theorem ayA{J a b c d e f}:pCz J 6 [] (ajt a b c d e f)=aju a b c d e f:=by kernel_rfl
abbrev pCy:=zj ajr ajs 53 YK
theorem ayB:C (pCy 6 []) ajt=YM:=gNC (by decide) fun _=>ayA
theorem ap8:au Tryz.prog (fun _=>True) 53 ⟨YK,Jz⟩:=zcc (env:=ajr) (d:=6) (hs:=Ev.get ajs) (aj ap6 (aj aFg (aj aiL (aj auj (aj ayp (aj aiN (aj aum (aj ays (aj aiP (aj aup (aj ayv (aj aiR (aj aur (aj ayy (aj aiT (aj aut (aj ayz (aj aiV (aj auw bq))))))))))))))))))) (fun J x=>YL (C (J 6 []) ajt) x.1) (fun _ _=>by kernel_rfl) fun _=>by rw[ayB]<;>rfl
@[reducible] def YN:Sh:=⟨[.d aL],[],aI,[.d (.bool)],[],0,[.bool]⟩
def ajv:Env:=(cts [])
def ajw:List (Nat×Hint):=[(26,⟨[],[0,3,7,8,9,10,17,18,19,20,21,26,27,28,29,30,31,32,33,34,35,36,37,38]⟩),(841,⟨[.agd 32 aL,.agd 33 (.int .i64),.agd 35 (.int .u8),.agd 36 (.int .i64),.agd 37 .bool,.agd 26 aL,.agd 27 (.int .i64),.agd 29 (.int .u8),.agd 30 .bool,.agd 31 .bool,.agd 38 .bool],[0,3,39]⟩),(840,⟨[.agd 17 aL,.agd 18 (.int .i64),.agd 20 (.int .u8),.agd 21 .bool],[0,3,22]⟩),(104,⟨[.agd 7 (.int .i64),.agd 8 aL,.agd 9 (.int .i64),.agd 10 .bool],[0,3,11]⟩)]
def yA(b:List Int)(i:Int):St:=⟨[(0,dL b),(3,dI i)],40,[],[],0,[],0⟩
def ajx(b:List Int)(i:Int)(t11:Bool):St:=⟨[(0,dL b),(3,dI i),(11,dB t11)],40,[],[],0,[],0⟩
def ajy(b:List Int)(i:Int)(t22:Bool):St:=⟨[(0,dL b),(3,dI i),(22,dB t22)],40,[],[],0,[],0⟩
def ajz(b:List Int)(i:Int)(t39:Bool):St:=⟨[(0,dL b),(3,dI i),(39,dB t39)],40,[],[],0,[],0⟩
@[reducible] def zG5:Type:=List Int->Int->Bool->Option aF
@[reducible] def zG6:Type:=List Int->Int->Option aF
def FE(j2:zG5)(self1:zG6)(b:List Int)(i:Int):Option aF :=
 if lt i 6=true then j2 b i (lt i (zF (zG b))) else j2 b i false
def YO(j3:zG5)(self1:zG6)(b:List Int)(i:Int)(t11:Bool):Option aF :=
 if t11=true then if lt i 5=true then zC (at? b i) fun y=>j3 b i (nei y 0) else j3 b i false else some (true,())
def YP(j4:zG5)(self1:zG6)(b:List Int)(i:Int)(t22:Bool):Option aF :=
 if t22=true then some (false,()) else if eqi i 5=true then zC (at? b i) fun y=>if lt y 2=true then j4 b i true else zC (at? b i) fun y=>j4 b i (gt (cvt .i64 y) 254) else j4 b i false
def ap9(self1:zG6)(b:List Int)(i:Int)(t39:Bool):Option aF :=
 if t39=true then some (false,()) else self1 b (add .i64 i 1)
def YQ(j1:zG6)(b:List Int):Option aF :=
 j1 b 2
def aqa(u1:zG6):=ap9 u1
def YR(u1:zG6):=YP (aqa u1) u1
def FF(u1:zG6):=YO (YR u1) u1
def PV(b:List Int)(i:Int):Option aF :=
 cu (fun self s=>FE (FF (fun b i=>self (b,i))) (fun b i=>self (b,i)) s.1 s.2) 18446744073709551616 (b,i)
def YS(x:As aI):Option aF:=YQ PV x.1
abbrev pB5:=zp ajv ajw 218 YN
theorem ayC{J w1 a b c}:pB5 J 841 [w1] (ajz a b c)=ap9 (C w1 yA) a b c:=by kernel_rfl
theorem ayD{J w1 a b c}:pB5 J 840 [w1] (ajy a b c)=YP (C (J 841 [w1]) ajz) (C w1 yA) a b c:=by kernel_rfl
theorem ayE{J w1 a b c}:pB5 J 104 [w1] (ajx a b c)=YO (C (J 840 [w1]) ajy) (C w1 yA) a b c:=by kernel_rfl
theorem ayF{J w1 a b}:pB5 J 26 [w1] (yA a b)=FE (C (J 104 [w1]) ajx) (C w1 yA) a b:=by kernel_rfl
abbrev pB4:=zj ajv ajw 218 YN
theorem ayG{w1}:C (pB4 841 [w1]) ajz=aqa (C w1 yA):=gNC (by decide) fun _=>ayC
theorem ayH{w1}:C (pB4 840 [w1]) ajy=YR (C w1 yA):=gNC (by decide) fun _=>ayD.trans (by rw[ayG]<;>kernel_rfl)
theorem ayI{w1}:C (pB4 104 [w1]) ajx=FF (C w1 yA):=gNC (by decide) fun _=>ayE.trans (by rw[ayH]<;>kernel_rfl)
theorem ayJ:C (pB4 26 []) yA=PV:=gLC (by decide) (by kernel_rfl) (fun _=>by unfold PV;rfl) fun _ _=>ayF.trans (by rw[ayI]<;>kernel_rfl)
theorem ayK:au Tryz.prog (fun _=>True) 218 ⟨YN,YS⟩:=zcc (env:=ajv) (d:=6) (hs:=Ev.get ajw) bq (fun J x=>YQ (C (J 26 []) yA) x.1) (fun _ _=>by kernel_rfl) fun _=>by rw[ayJ]<;>rfl
@[reducible] def cC:List Ty:=[.pr (.int .u16) D8,.int .i64]
@[reducible] def YT:Sh:=⟨[.d aL],[],aI,[.d (.pr (.int .u16) D8),.d (.int .i64)],[],0,cC⟩
def ajA:Env:=(cts [(218,(⟨YN,YS⟩:Ct))])
def ajB:List (Nat×Hint):=[(6,⟨[],[0,2,13]⟩)]
def ajC(b:List Int)(t13:Bool)(t2 t2_2:Int):St:=⟨[(0,dL b),(2,.pb 0 0),(13,dB t13)],49,[],[(0,.box 129 [d6 t2,d8 t2_2,.k (zK zH 0 0)])],1,[],0⟩
def YU(b:List Int)(t13:Bool)(t2 t2_2:Int):Option (As cC) :=
 if t13=true then some ((0,0,[]),0,()) else zC (at? b 5) fun y=>if lt (zF (zG b)) (add .i64 6 (cvt .i64 y))=true then some ((0,0,[]),0,()) else need (ge (Sx.sub .i64 (add .i64 6 (cvt .i64 y)) 7) 0) (need (Ev.jR (Sx.sub .i64 (add .i64 6 (cvt .i64 y)) 7) (Sx.sub .i64 (add .i64 6 (cvt .i64 y)) 7)) (need (small (zI (Sx.sub .i64 (add .i64 6 (cvt .i64 y)) 7))) (zC (cut b 7 (add .i64 6 (cvt .i64 y))) fun y_1=>need (le (zF (0+zG (zE (α:=Int) (zI (Sx.sub .i64 (add .i64 6 (cvt .i64 y)) 7)) 0))) (zF (zG (zE (α:=Int) (zI (Sx.sub .i64 (add .i64 6 (cvt .i64 y)) 7)) 0)))) (zC (at? b 0) fun y_2=>zC (at? b 1) fun y_3=>zC (at? b 6) fun y_4=>some ((Sx.bor .u16 (Sx.shl .u16 (cvt .u16 y_2) 8) (cvt .u16 y_3),y_4,List.take (zI (zF (zG (zE (α:=Int) (zI (Sx.sub .i64 (add .i64 6 (cvt .i64 y)) 7)) 0)))) y_1++List.drop (0+zG (List.take (zI (zF (zG (zE (α:=Int) (zI (Sx.sub .i64 (add .i64 6 (cvt .i64 y)) 7)) 0)))) y_1)) (zE (zI (Sx.sub .i64 (add .i64 6 (cvt .i64 y)) 7)) 0)),add .i64 6 (cvt .i64 y),())))))
def JA(j1:List Int->Bool->Int->Int->Option (As cC))(b:List Int):Option (As cC) :=
 if le (zF (zG b)) 7=true then j1 b true 0 0 else zC (YS (b,())) fun y=>j1 b (!y.1) 0 0
def YV:=YU
def PW(x:As aI):Option (As cC):=JA YV x.1
abbrev pB7:=zp ajA ajB 158 YT
theorem ayL{J a b c d}:pB7 J 6 [] (ajC a b c d)=YU a b c d:=by kernel_rfl
abbrev pB6:=zj ajA ajB 158 YT
theorem ayM:C (pB6 6 []) ajC=YV:=gNC (by decide) fun _=>ayL
theorem ayN:au Tryz.prog (fun _=>True) 158 ⟨YT,PW⟩:=zcc (env:=ajA) (d:=6) (hs:=Ev.get ajB) (aj ayK bq) (fun J x=>JA (C (J 6 []) ajC) x.1) (fun _ _=>by kernel_rfl) fun _=>by rw[ayM]<;>rfl
@[reducible] def PX:Sh:=⟨[.d aL],[],aI,[.d (.pr (.int .u16) D8),.d (.int .i64)],[],0,cC⟩
def ajD:Env:=(cts [(158,(⟨YT,PW⟩:Ct))])
def ajE:List (Nat×Hint):=[(14,⟨[],[2,4,18]⟩)]
def ajF(t18:Bool)(t2 t2_2:Int)(x:Int×Int×List Int):St:=⟨[(2,.pb 0 0),(4,.pb 1 0),(18,dB t18)],21,[],[(0,.box 129 [d6 t2,d8 t2_2,.k (zK zH 0 0)]),(1,.box 129 [d6 x.1,d8 x.2.1,dL x.2.2])],2,[],0⟩
def aqb(t18:Bool)(t2 t2_2:Int)(x:Int×Int×List Int):Option (As cC) :=
 if t18=true then some ((0,0,[]),10,()) else some (x,0,())
def YW(j1:Bool->Int->Int->Int×Int×List Int->Option (As cC))(b:List Int):Option (As cC) :=
 zC (PW (b,())) fun y=>if eqi y.2.1 0=true then j1 true 0 0 y.1 else j1 (nei y.2.1 (zF (zG b))) 0 0 y.1
def YX:=aqb
def FH(x:As aI):Option (As cC):=YW YX x.1
abbrev pB3:=zp ajD ajE 98 PX
theorem ayO{J a b c d}:pB3 J 14 [] (ajF a b c d)=aqb a b c d:=by kernel_rfl
abbrev pB2:=zj ajD ajE 98 PX
theorem ayP:C (pB2 14 []) ajF=YX:=gNC (by decide) fun _=>ayO
theorem aqc:au Tryz.prog (fun _=>True) 98 ⟨PX,FH⟩:=zcc (env:=ajD) (d:=6) (hs:=Ev.get ajE) (aj ayN bq) (fun J x=>YW (C (J 14 []) ajF) x.1) (fun _ _=>by kernel_rfl) fun _=>by rw[ayP]<;>rfl
@[reducible] def eI:List Ty:=[.un,.int .u8,.int .u16,.sl (.int .u8)]
@[reducible] def YY:Sh:=⟨[.d (.un),.d (.int .u8),.d (.int .u16),.d aL],[],eI,[.d aP,.d (.bool)],[],0,bO⟩
def ajG:Env:=(cts [(53,(⟨YK,Jz⟩:Ct)),(98,(⟨PX,FH⟩:Ct))])
def ajH:List (Nat×Hint):=[(14,⟨[],[8,10,31]⟩)]
def ajI(t31:Bool)(t8 t8_2 t8_3 t8_4 x x_2:Int)(x_3:List Int):St:=⟨[(8,.pb 0 0),(10,.pb 1 0),(31,dB t31)],43,[],[(0,.box 109 [d8 t8,d8 t8_2,.k (zK zH 0 0),.k (zK zH 0 0),d6 t8_3,d6 t8_4]),(1,.box 129 [d6 x,d8 x_2,dL x_3])],2,[],0⟩
def ajJ(t31:Bool)(t8 t8_2 t8_3 t8_4 x x_2:Int)(x_3:List Int):Option eX :=
 if t31=true then some ((0,0,[],[],0,0),false,()) else zC (Jz (x_3,())) fun y=>if nei y.2.1 0=true then some ((0,0,[],[],0,0),false,()) else some (y.1,true,())
def YZ(j1:Bool->Int->Int->Int->Int->Int->Int->List Int->Option eX)(v:Unit)(unit tx:Int)(b:List Int):Option eX :=
 zC (FH (b,())) fun y=>if nei y.2.1 0=true then j1 true 0 0 0 0 y.1.1 y.1.2.1 y.1.2.2 else if nei y.1.2.1 unit=true then j1 true 0 0 0 0 y.1.1 y.1.2.1 y.1.2.2 else j1 (nei y.1.1 tx) 0 0 0 0 y.1.1 y.1.2.1 y.1.2.2
def PY:=ajJ
def JB(x:As eI):Option eX:=YZ PY x.1 x.2.1 x.2.2.1 x.2.2.2.1
abbrev pCt:=zp ajG ajH 337 YY
theorem ayQ{J a b c d e f g h}:pCt J 14 [] (ajI a b c d e f g h)=ajJ a b c d e f g h:=by kernel_rfl
abbrev pCs:=zj ajG ajH 337 YY
theorem ayR:C (pCs 14 []) ajI=PY:=gNC (by decide) fun _=>ayQ
theorem ayS:au Tryz.prog (fun _=>True) 337 ⟨YY,JB⟩:=zcc (env:=ajG) (d:=6) (hs:=Ev.get ajH) (aj ap8 (aj aqc bq)) (fun J x=>YZ (C (J 14 []) ajI) x.1 x.2.1 x.2.2.1 x.2.2.2.1) (fun _ _=>by kernel_rfl) fun _=>by rw[ayR]<;>rfl
@[reducible] def aqd:Sh:=⟨[.d aL],[],aI,[.d aL,.d (.int .i64)],[],0,aU⟩
def Y0(b:List Int):Option dA :=
 if lt (zF (zG b)) 2=true then some ([],10,()) else zC (cut b 0 (Sx.sub .i64 (zF (zG b)) 2)) fun y=>zC (at? b (Sx.sub .i64 (zF (zG b)) 2)) fun y_1=>zC (at? b (add .i64 (Sx.sub .i64 (zF (zG b)) 2) 1)) fun y_2=>zC (Mj (y,())) fun y=>if nei y.1 (Sx.bor .u16 (cvt .u16 y_1) (Sx.shl .u16 (cvt .u16 y_2) 8))=true then some ([],11,()) else need (ge (Sx.sub .i64 (zF (zG b)) 2) 0) (need (Ev.jR (Sx.sub .i64 (zF (zG b)) 2) (Sx.sub .i64 (zF (zG b)) 2)) (need (small (zI (Sx.sub .i64 (zF (zG b)) 2))) (need (le (zF (0+zG (zE (α:=Int) (zI (Sx.sub .i64 (zF (zG b)) 2)) 0))) (zF (zG (zE (α:=Int) (zI (Sx.sub .i64 (zF (zG b)) 2)) 0)))) (some (List.take (zI (zF (zG (zE (α:=Int) (zI (Sx.sub .i64 (zF (zG b)) 2)) 0)))) b++List.drop (0+zG (List.take (zI (zF (zG (zE (α:=Int) (zI (Sx.sub .i64 (zF (zG b)) 2)) 0)))) b)) (zE (zI (Sx.sub .i64 (zF (zG b)) 2)) 0),0,())))))
def Ml(x:As aI):Option dA:=Y0 x.1
theorem ayT:au Tryz.prog (fun _=>True) 159 ⟨aqd,Ml⟩:=ctn (aj apv bq) 6 fun J x=>by kernel_rfl
@[reducible] def dR:List Ty:=[.int .u8,.sl (.int .u8),.int .i64]
@[reducible] def Y1:Sh:=⟨[.d aL],[],aI,[.d (.int .u8),.d aL,.d (.int .i64)],[],0,dR⟩
def ajK:Env:=(cts [(159,(⟨aqd,Ml⟩:Ct)),(160,(⟨agJ,Fp⟩:Ct))])
def ajL:List (Nat×Hint):=[(6,⟨[],[0,14]⟩)]
def ajM(b:List Int)(t14:Bool):St:=⟨[(0,dL b),(14,dB t14)],37,[],[],0,[],0⟩
def Y2(b:List Int)(t14:Bool):Option (As dR) :=
 if t14=true then some (0,[],10,()) else zC (Ml (b,())) fun y=>if nei y.2.1 0=true then some (0,[],y.2.1,()) else zC (at? y.1 0) fun y_1=>zC (Fp (y_1,())) fun y_2=>if (!y_2.1)=true then some (0,[],10,()) else zC (at? y.1 0) fun y_3=>zC (cut y.1 1 (zF (zG y.1))) fun y_4=>need (le (zF (zG y.1)) (zF (zG y.1))) (need (le (zF (zG y.1)) (zF (zG y.1))) (some (y_3,y_4,0,())))
def Y3(j1:List Int->Bool->Option (As dR))(b:List Int):Option (As dR) :=
 if lt (zF (zG b)) 4=true then j1 b true else j1 b (gt (zF (zG b)) 256)
def Y4:=Y2
def JC(x:As aI):Option (As dR):=Y3 Y4 x.1
abbrev pC9:=zp ajK ajL 101 Y1
theorem ayU{J a b}:pC9 J 6 [] (ajM a b)=Y2 a b:=by kernel_rfl
abbrev pC8:=zj ajK ajL 101 Y1
theorem ayV:C (pC8 6 []) ajM=Y4:=gNC (by decide) fun _=>ayU
theorem aqe:au Tryz.prog (fun _=>True) 101 ⟨Y1,JC⟩:=zcc (env:=ajK) (d:=6) (hs:=Ev.get ajL) (aj ayT (aj apx bq)) (fun J x=>Y3 (C (J 6 []) ajM) x.1) (fun _ _=>by kernel_rfl) fun _=>by rw[ayV]<;>rfl
@[reducible] def ayW:Sh:=⟨[.d (.int .u8),.d aL],[],fN,[.d aP,.d (.int .i64)],[],0,cU⟩
def ajN(unit:Int)(b:List Int):Option (As cU) :=
 zC (JC (b,())) fun y=>if nei y.2.2.1 0=true then some ((0,0,[],[],0,0),y.2.2.1,()) else if nei y.1 unit=true then some ((0,0,[],[],0,0),10,()) else zC (Jz (y.2.1,())) fun y=>some (y.1,y.2.1,())
def Y5(x:As fN):Option (As cU):=ajN x.1 x.2.1
theorem ayX:au Tryz.prog (fun _=>True) 343 ⟨ayW,Y5⟩:=ctn (aj ap8 (aj aqe bq)) 6 fun J x=>by kernel_rfl
@[reducible] def auy:Sh:=⟨[.d (.un),.d (.int .u8),.d (.int .u16),.d aL],[],eI,[.d aP,.d (.bool)],[],0,bO⟩
def ajO(v:Unit)(unit tx:Int)(b:List Int):Option eX :=
 zC (Y5 (unit,b,())) fun y=>if nei y.2.1 0=true then some ((0,0,[],[],0,0),false,()) else some (y.1,true,())
def JD(x:As eI):Option eX:=ajO x.1 x.2.1 x.2.2.1 x.2.2.2.1
theorem ayY:au Tryz.prog (fun _=>True) 340 ⟨auy,JD⟩:=ctn (aj ayX bq) 6 fun J x=>by kernel_rfl
@[reducible] def cM:List Ty:=[.pr (.int .u8) sW,.pr (.int .u8) og,.bool]
@[reducible] def JE:Sh:=⟨[.d aC,.d aL],[],dO,[.d aC,.d aP,.d (.bool)],[],0,cM⟩
def ajP:Env:=(cts [(64,(⟨Xy,Ca⟩:Ct)),(114,(⟨apd,Am⟩:Ct)),(154,(⟨Yr,PE⟩:Ct)),(337,(⟨YY,JB⟩:Ct)),(340,(⟨auy,JD⟩:Ct))])
def ajQ:List (Nat×Hint):=[(7,⟨[],[2,4,5,7,8,30,31,32,33,34]⟩),(30,⟨[],[2,4,5,7,35]⟩)]
def ajR(ok:Bool)(p p_2 p_3 p_4:Int)(p_5:Bool)(p_6 p_7 p_8 p_9:Int)(p_10:List Int)(p_11:List Bool)(p_12 p_13 p_14 t4 t4_2 t4_3 t4_4:Int)(t4_5:Bool)(t4_6 t4_7 t4_8 t4_9 t4_10 t4_11 t4_12 t5 t5_2 t5_3 t5_4 r r_2:Int)(r_3:List Bool)(r_4:List Int)(r_5 r_6:Int):St:=⟨[(2,.pb 0 0),(4,.pb 1 0),(5,.pb 2 0),(7,.pb 3 0),(8,dB ok)],42,[],[(0,.box 29 [d8 p,d8 p_2,dI p_3,dI p_4,dB p_5,d8 p_6,d6 p_7,d6 p_8,d6 p_9,dW p_10,.d (.sl .bool) p_11,d6 p_12,dI p_13,dI p_14]),(1,.box 29 [d8 t4,d8 t4_2,dI t4_3,dI t4_4,dB t4_5,d8 t4_6,d6 t4_7,d6 t4_8,d6 t4_9,.k (zK zH 0 0),.k (zK zH 0 0),d6 t4_10,dI t4_11,dI t4_12]),(2,.box 109 [d8 t5,d8 t5_2,.k (zK zH 0 0),.k (zK zH 0 0),d6 t5_3,d6 t5_4]),(3,.box 109 [d8 r,d8 r_2,.d (.sl .bool) r_3,dW r_4,d6 r_5,d6 r_6])],4,[],0⟩
def ajS(t35:Bool)(p p_2 p_3 p_4:Int)(p_5:Bool)(p_6 p_7 p_8 p_9:Int)(p_10:List Int)(p_11:List Bool)(p_12 p_13 p_14 t4 t4_2 t4_3 t4_4:Int)(t4_5:Bool)(t4_6 t4_7 t4_8 t4_9 t4_10 t4_11 t4_12 t5 t5_2 t5_3 t5_4 r r_2:Int)(r_3:List Bool)(r_4:List Int)(r_5 r_6:Int):St:=⟨[(2,.pb 0 0),(4,.pb 1 0),(5,.pb 2 0),(7,.pb 3 0),(35,dB t35)],42,[],[(0,.box 29 [d8 p,d8 p_2,dI p_3,dI p_4,dB p_5,d8 p_6,d6 p_7,d6 p_8,d6 p_9,dW p_10,.d (.sl .bool) p_11,d6 p_12,dI p_13,dI p_14]),(1,.box 29 [d8 t4,d8 t4_2,dI t4_3,dI t4_4,dB t4_5,d8 t4_6,d6 t4_7,d6 t4_8,d6 t4_9,.k (zK zH 0 0),.k (zK zH 0 0),d6 t4_10,dI t4_11,dI t4_12]),(2,.box 109 [d8 t5,d8 t5_2,.k (zK zH 0 0),.k (zK zH 0 0),d6 t5_3,d6 t5_4]),(3,.box 109 [d8 r,d8 r_2,.d (.sl .bool) r_3,dW r_4,d6 r_5,d6 r_6])],4,[],0⟩
@[reducible] def zG7:Type:=Bool->Int->Int->Int->Int->Bool->Int->Int->Int->Int->List Int->List Bool->Int->Int->Int->Int->Int->Int->Int->Bool->Int->Int->Int->Int->Int->Int->Int->Int->Int->Int->Int->Int->Int->List Bool->List Int->Int->Int->Option (As cM)
def ajT(j2:zG7)(ok:Bool)(p p_2 p_3 p_4:Int)(p_5:Bool)(p_6 p_7 p_8 p_9:Int)(p_10:List Int)(p_11:List Bool)(p_12 p_13 p_14 t4 t4_2 t4_3 t4_4:Int)(t4_5:Bool)(t4_6 t4_7 t4_8 t4_9 t4_10 t4_11 t4_12 t5 t5_2 t5_3 t5_4 r r_2:Int)(r_3:List Bool)(r_4:List Int)(r_5 r_6:Int):Option (As cM) :=
 if (!ok)=true then j2 true p p_2 p_3 p_4 p_5 p_6 p_7 p_8 p_9 p_10 p_11 p_12 p_13 p_14 t4 t4_2 t4_3 t4_4 t4_5 t4_6 t4_7 t4_8 t4_9 t4_10 t4_11 t4_12 t5 t5_2 t5_3 t5_4 r r_2 r_3 r_4 r_5 r_6 else zC (PE ((p_6,p_7,p_8,p_9,p_10,p_11),(r,r_2,r_3,r_4,r_5,r_6),())) fun y=>j2 (!y.1) p p_2 p_3 p_4 p_5 p_6 p_7 p_8 p_9 p_10 p_11 p_12 p_13 p_14 t4 t4_2 t4_3 t4_4 t4_5 t4_6 t4_7 t4_8 t4_9 t4_10 t4_11 t4_12 t5 t5_2 t5_3 t5_4 r r_2 r_3 r_4 r_5 r_6
def ajU(t35:Bool)(p p_2 p_3 p_4:Int)(p_5:Bool)(p_6 p_7 p_8 p_9:Int)(p_10:List Int)(p_11:List Bool)(p_12 p_13 p_14 t4 t4_2 t4_3 t4_4:Int)(t4_5:Bool)(t4_6 t4_7 t4_8 t4_9 t4_10 t4_11 t4_12 t5 t5_2 t5_3 t5_4 r r_2:Int)(r_3:List Bool)(r_4:List Int)(r_5 r_6:Int):Option (As cM) :=
 if t35=true then zC (Am ((p,p_2,p_3,p_4,p_5,(p_6,p_7,p_8,p_9,p_10,p_11),p_12,p_13,p_14),())) fun y=>some (y.1,(0,0,[],[],0,0),false,()) else zC (Ca ((p,p_2,p_3,p_4,p_5,(p_6,p_7,p_8,p_9,p_10,p_11),p_12,p_13,p_14),())) fun y=>some (y.1,(r,r_2,r_3,r_4,r_5,r_6),true,())
def Y6(j1:zG7)(p:Int×Int×Int×Int×Bool×xC×Int×Int×Int)(frame:List Int):Option (As cM) :=
 if (!p.2.2.2.2.1)=true then zC (Am (p,())) fun y=>some (y.1,(0,0,[],[],0,0),false,()) else amb (ay JE.rs) [if eqi p.2.1 2=true then amb (ay JE.rs) [zC (JB ((),p.1,p.2.2.2.2.2.2.1,frame,())) fun y=>j1 y.2.1 p.1 p.2.1 p.2.2.1 p.2.2.2.1 p.2.2.2.2.1 p.2.2.2.2.2.1.1 p.2.2.2.2.2.1.2.1 p.2.2.2.2.2.1.2.2.1 p.2.2.2.2.2.1.2.2.2.1 p.2.2.2.2.2.1.2.2.2.2.1 p.2.2.2.2.2.1.2.2.2.2.2 p.2.2.2.2.2.2.1 p.2.2.2.2.2.2.2.1 p.2.2.2.2.2.2.2.2 0 0 0 0 false 0 0 0 0 0 0 0 0 0 0 0 y.1.1 y.1.2.1 y.1.2.2.1 y.1.2.2.2.1 y.1.2.2.2.2.1 y.1.2.2.2.2.2,zC (JB ((),p.1,p.2.2.2.2.2.2.1,frame,())) fun y=>j1 y.2.1 p.1 p.2.1 p.2.2.1 p.2.2.2.1 p.2.2.2.2.1 p.2.2.2.2.2.1.1 p.2.2.2.2.2.1.2.1 p.2.2.2.2.2.1.2.2.1 p.2.2.2.2.2.1.2.2.2.1 p.2.2.2.2.2.1.2.2.2.2.1 p.2.2.2.2.2.1.2.2.2.2.2 p.2.2.2.2.2.2.1 p.2.2.2.2.2.2.2.1 p.2.2.2.2.2.2.2.2 0 0 0 0 false 0 0 0 0 0 0 0 0 0 0 0 y.1.1 y.1.2.1 y.1.2.2.1 y.1.2.2.2.1 y.1.2.2.2.2.1 y.1.2.2.2.2.2] else amb (ay JE.rs) [zC (JD ((),p.1,p.2.2.2.2.2.2.1,frame,())) fun y=>j1 y.2.1 p.1 p.2.1 p.2.2.1 p.2.2.2.1 p.2.2.2.2.1 p.2.2.2.2.2.1.1 p.2.2.2.2.2.1.2.1 p.2.2.2.2.2.1.2.2.1 p.2.2.2.2.2.1.2.2.2.1 p.2.2.2.2.2.1.2.2.2.2.1 p.2.2.2.2.2.1.2.2.2.2.2 p.2.2.2.2.2.2.1 p.2.2.2.2.2.2.2.1 p.2.2.2.2.2.2.2.2 0 0 0 0 false 0 0 0 0 0 0 0 0 0 0 0 y.1.1 y.1.2.1 y.1.2.2.1 y.1.2.2.2.1 y.1.2.2.2.2.1 y.1.2.2.2.2.2,zC (JD ((),p.1,p.2.2.2.2.2.2.1,frame,())) fun y=>j1 y.2.1 p.1 p.2.1 p.2.2.1 p.2.2.2.1 p.2.2.2.2.1 p.2.2.2.2.2.1.1 p.2.2.2.2.2.1.2.1 p.2.2.2.2.2.1.2.2.1 p.2.2.2.2.2.1.2.2.2.1 p.2.2.2.2.2.1.2.2.2.2.1 p.2.2.2.2.2.1.2.2.2.2.2 p.2.2.2.2.2.2.1 p.2.2.2.2.2.2.2.1 p.2.2.2.2.2.2.2.2 0 0 0 0 false 0 0 0 0 0 0 0 0 0 0 0 y.1.1 y.1.2.1 y.1.2.2.1 y.1.2.2.2.1 y.1.2.2.2.2.1 y.1.2.2.2.2.2],if eqi p.2.1 2=true then zC (JB ((),p.1,p.2.2.2.2.2.2.1,frame,())) fun y=>j1 y.2.1 p.1 p.2.1 p.2.2.1 p.2.2.2.1 p.2.2.2.2.1 p.2.2.2.2.2.1.1 p.2.2.2.2.2.1.2.1 p.2.2.2.2.2.1.2.2.1 p.2.2.2.2.2.1.2.2.2.1 p.2.2.2.2.2.1.2.2.2.2.1 p.2.2.2.2.2.1.2.2.2.2.2 p.2.2.2.2.2.2.1 p.2.2.2.2.2.2.2.1 p.2.2.2.2.2.2.2.2 0 0 0 0 false 0 0 0 0 0 0 0 0 0 0 0 y.1.1 y.1.2.1 y.1.2.2.1 y.1.2.2.2.1 y.1.2.2.2.2.1 y.1.2.2.2.2.2 else zC (JD ((),p.1,p.2.2.2.2.2.2.1,frame,())) fun y=>j1 y.2.1 p.1 p.2.1 p.2.2.1 p.2.2.2.1 p.2.2.2.2.1 p.2.2.2.2.2.1.1 p.2.2.2.2.2.1.2.1 p.2.2.2.2.2.1.2.2.1 p.2.2.2.2.2.1.2.2.2.1 p.2.2.2.2.2.1.2.2.2.2.1 p.2.2.2.2.2.1.2.2.2.2.2 p.2.2.2.2.2.2.1 p.2.2.2.2.2.2.2.1 p.2.2.2.2.2.2.2.2 0 0 0 0 false 0 0 0 0 0 0 0 0 0 0 0 y.1.1 y.1.2.1 y.1.2.2.1 y.1.2.2.2.1 y.1.2.2.2.2.1 y.1.2.2.2.2.2]
def Y7:=ajU
def JF:=ajT (Y7)
def ajV(x:As dO):Option (As cM):=Y6 JF x.1 x.2.1
abbrev pCr:=zp ajP ajQ 95 JE
theorem ayZ{J a b c d e f g h i j k l m n o p q r t u v x y z aa ab ac ad ae af ag ah ba bb bc bd be}:pCr J 30 [] (ajS a b c d e f g h i j k l m n o p q r t u v x y z aa ab ac ad ae af ag ah ba bb bc bd be)=ajU a b c d e f g h i j k l m n o p q r t u v x y z aa ab ac ad ae af ag ah ba bb bc bd be:=by kernel_rfl
theorem ay0{J a b c d e f g h i j k l m n o p q r t u v x y z aa ab ac ad ae af ag ah ba bb bc bd be}:pCr J 7 [] (ajR a b c d e f g h i j k l m n o p q r t u v x y z aa ab ac ad ae af ag ah ba bb bc bd be)=ajT (C (J 30 []) ajS) a b c d e f g h i j k l m n o p q r t u v x y z aa ab ac ad ae af ag ah ba bb bc bd be:=by kernel_rfl
abbrev pCq:=zj ajP ajQ 95 JE
theorem ay1:C (pCq 30 []) ajS=Y7:=gNC (by decide) fun _=>ayZ
theorem ay2:C (pCq 7 []) ajR=JF:=gNC (by decide) fun _=>ay0.trans (by rw[ay1]<;>kernel_rfl)
theorem ay3:au Tryz.prog (fun _=>True) 95 ⟨JE,ajV⟩:=zcc (env:=ajP) (d:=6) (hs:=Ev.get ajQ) (aj Xz (aj Wy (aj ayl (aj ayS (aj ayY bq))))) (fun J x=>Y6 (C (J 7 []) ajR) x.1 x.2.1) (fun _ _=>by kernel_rfl) fun _=>by rw[ay2]<;>rfl
@[reducible] def ajW:Sh:=⟨[.d aX,.d aP],[],aY,[.d aX],[],0,aN⟩
def ajX:Env:=(cts [(1000211,Ev.iw),(56,(⟨OU,nG⟩:Ct)),(204,(⟨OT,B6⟩:Ct)),(205,(⟨OX,OZ⟩:Ct)),(206,(⟨ahM,XL⟩:Ct)),(207,(⟨ahO,O3⟩:Ct)),(208,(⟨XM,XN⟩:Ct)),(209,(⟨O7,O9⟩:Ct)),(211,(⟨Pb,Pd⟩:Ct)),(213,(⟨ah0,Pe⟩:Ct)),(215,(⟨ah2,Pf⟩:Ct)),(216,(⟨XT,XU⟩:Ct)),(217,(⟨Pg,Pk⟩:Ct))])
def ajY:List (Nat×Hint):=[(14,⟨[],[2,3,4,5,15]⟩)]
def ajZ(t15:Bool)(t:Cc)(r:kg)(t4:lN×Int×Int×Unit×Int×Int×Int×Int×Int):St:=⟨[(2,.pb 0 0),(3,.pb 1 0),(4,.pb 2 0),(5,.pb 3 0),(15,dB t15)],28,[],[(0,.box 33 (gD t [])),(1,.box 109 [d8 r.1,d8 r.2.1,.d (.sl .bool) r.2.2.1,dW r.2.2.2.1,d6 r.2.2.2.2.1,d6 r.2.2.2.2.2]),(2,.box 33 [d8 t4.1.1,d8 t4.1.2.1,dI t4.1.2.2.1,dI t4.1.2.2.2.1,dB t4.1.2.2.2.2.1,d8 t4.1.2.2.2.2.2.1.1,d6 t4.1.2.2.2.2.2.1.2.1,d6 t4.1.2.2.2.2.2.1.2.2.1,d6 t4.1.2.2.2.2.2.1.2.2.2.1,.k (zK zH 0 0),.k (zK zH 0 0),d6 t4.1.2.2.2.2.2.2.1,dI t4.1.2.2.2.2.2.2.2.1,dI t4.1.2.2.2.2.2.2.2.2,d6 t4.2.1,d2 t4.2.2.1,.k (zK zH 0 0),d8 t4.2.2.2.2.1,d8 t4.2.2.2.2.2.1,dI t4.2.2.2.2.2.2.1,dI t4.2.2.2.2.2.2.2.1,d8 t4.2.2.2.2.2.2.2.2]),(3,.box 211 [.k Go.Value.nilFunc,.k Go.Value.nilFunc,.fn (.func 203) [] [],.fn (.func 205) [] [],.fn (.func 206) [] [],.fn (.func 207) [] [],.fn (.func 208) [] [],.fn (.func 209) [] [],.fn (.func 210) [] [],.fn (.func 211) [] [],.fn (.func 212) [] [],.fn (.func 213) [] [],.fn (.func 214) [] [],.fn (.func 215) [] [],.fn (.func 216) [] [],.fn (.func 217) [] []])],4,[],0⟩
def Y8(t15:Bool)(t:Cc)(r:kg)(t4:lN×Int×Int×Unit×Int×Int×Int×Int×Int):Option bV :=
 if t15=true then zC (nG (t,t.2.2.2.2.2.2.2.2,())) fun y=>some (y.1,()) else if eqi t.2.2.2.2.2.1 7=true then zC (Pk (t,r,())) fun y=>some (y.1,()) else if eqi t.2.2.2.2.2.1 6=true then zC (Pf (t,r,())) fun y=>some (y.1,()) else if eqi t.2.2.2.2.2.1 5=true then zC (Pe (t,r,())) fun y=>some (y.1,()) else if eqi t.2.2.2.2.2.1 4=true then zC (Pd (t,r,())) fun y=>some (y.1,()) else if eqi t.2.2.2.2.2.1 3=true then zC (O9 (t,r,())) fun y=>some (y.1,()) else if eqi t.2.2.2.2.2.1 2=true then zC (O3 (t,r,())) fun y=>some (y.1,()) else if eqi t.2.2.2.2.2.1 1=true then zC (OZ (t,r,())) fun y=>some (y.1,()) else if eqi t.2.2.2.2.2.1 0=true then zH else zH
def Y9(j1:Bool->Cc->kg->lN×Int×Int×Unit×Int×Int×Int×Int×Int->Option bV)(t:Cc)(r:kg):Option bV :=
 if ge (cvt .i64 t.2.2.2.2.2.1) 8=true then j1 true t r ((0,0,0,0,false,(0,0,0,0,(),()),0,0,0),0,0,(),0,0,0,0,0) else j1 (eqi t.2.2.2.2.2.1 0) t r ((0,0,0,0,false,(0,0,0,0,(),()),0,0,0),0,0,(),0,0,0,0,0)
def aj0:=Y8
def Za(x:As aY):Option bV:=Y9 aj0 x.1 x.2.1
abbrev pEn:=zp ajX ajY 96 ajW
theorem ay4{J a b c d}:pEn J 14 [] (ajZ a b c d)=Y8 a b c d:=by kernel_rfl
abbrev pEm:=zj ajX ajY 96 ajW
theorem ay5:C (pEm 14 []) ajZ=aj0:=gNC (by decide) fun _=>ay4
theorem ay6:au Tryz.prog (fun _=>True) 96 ⟨ajW,Za⟩:=zcc (env:=ajX) (d:=6) (hs:=Ev.get ajY) (aj Ev.gJ (aj Ao (aj apK (aj atQ (aj apR (aj apS (aj apT (aj atV (aj atY (aj atZ (aj at5 (aj apU (aj apX bq))))))))))))) (fun J x=>Y9 (C (J 14 []) ajZ) x.1 x.2.1) (fun _ _=>by kernel_rfl) fun _=>by rw[ay5]<;>rfl
@[reducible] def Zb:Sh:=⟨[.d aX,.d aL],[],bQ,[.d aX,.d aL],[],0,bQ⟩
def aj1(t:Cc)(frame:List Int):Option (As bQ) :=
 zC (Fg (t,())) fun y=>zC (ajV (y.1.1,frame,())) fun y_1=>if (!y_1.2.2.1)=true then some (y.1,[],()) else zC (Za ((y_1.1,y.1.2),y_1.2.1,())) fun y=>if eqi y.1.2.2.2.2.2.1 0=true then some (y.1,[],()) else zC (Ap (y.1,())) fun y=>some (y.1,y.2.1,())
def yB(x:As bQ):Option (As bQ):=aj1 x.1 x.2.1
theorem aqf:au Tryz.prog (fun _=>True) 46 ⟨Zb,yB⟩:=ctn (aj Wq (aj aii (aj ay3 (aj ay6 bq)))) 6 fun J x=>by kernel_rfl
@[reducible] def cS:List Ty:=[.pr (.int .u8) aA]
@[reducible] def Zc:Sh:=⟨[.d bB],[],cS,[.d bB],[],0,cS⟩
def aj2:Env:=(cts [(45,(⟨IW,nR⟩:Ct)),(113,(⟨af3,BU⟩:Ct))])
def aj3:List (Nat×Hint):=[(122,⟨[],[1,2,15]⟩)]
@[reducible] def zG8:Type:=List (Int×Int×kL×List Bool)
def Zd(s t2 t15:Int)(s_2 t2_2:zG8):St:=⟨[(1,.prw 0 s 35 0),(2,.prw 1 t2 35 0),(15,dI t15)],33,[],[(0,.row bB 45 s_2),(1,.row bB 45 t2_2)],2,[],0⟩
@[reducible] def zG9:Type:=Int->Int->Int->List (Int×Int×kL×List Bool)->List (Int×Int×kL×List Bool)->Option (As cS)
def JG(self1:zG9)(s t2 t15:Int)(s_2 t2_2:zG8):Option (As cS) :=
 if lt t15 8=true then need (ge t15 0) (need (lt t15 8) (zC (at? s_2 s) fun y=>zC (at? y.2.2.1.2.2.2.2.2.1.2.2 t15) fun z=>zC (nR (z.2,())) fun y=>zC (at? s_2 s) fun x=>zC (at? x.2.2.1.2.2.2.2.2.1.2.2 t15) fun z=>self1 s t2 (add .i64 t15 1) (List.set s_2 (zI s) (x.1,x.2.1,(x.2.2.1.1,x.2.2.1.2.1,x.2.2.1.2.2.1,x.2.2.1.2.2.2.1,x.2.2.1.2.2.2.2.1,(x.2.2.1.2.2.2.2.2.1.1,x.2.2.1.2.2.2.2.2.1.2.1,List.set x.2.2.1.2.2.2.2.2.1.2.2 (zI t15) (z.1,y.1)),x.2.2.1.2.2.2.2.2.2),x.2.2.2)) t2_2)) else zC (at? s_2 s) fun y=>zC (at? t2_2 t2) fun x=>zC (at? (List.set t2_2 (zI t2) y) t2) fun y_1=>zC (at? (List.set t2_2 (zI t2) y) t2) fun y=>some (y,())
def Ze(j1:zG9)(s:Int×Int×kL×List Bool):Option (As cS) :=
 zC (BU (s.2.2.2,())) fun y=>zC (nR (s.2.2.1.1,())) fun y_1=>j1 0 0 0 [(s.1,s.2.1,(y_1.1,s.2.2.1.2),y.1)] [zSl]
def JH(s t2 t15:Int)(s_2 t2_2:zG8):Option (As cS) :=
 cu (fun self s=>JG (fun s t2 t15 s_2 t2_2=>self (s,t2,t15,s_2,t2_2)) s.1 s.2.1 s.2.2.1 s.2.2.2.1 s.2.2.2.2) 18446744073709551616 (s,t2,t15,s_2,t2_2)
def FI(x:As cS):Option (As cS):=Ze JH x.1
abbrev pDj:=zp aj2 aj3 99 Zc
theorem ay7{J w1 a b c d e}:pDj J 122 [w1] (Zd a b c d e)=JG (C w1 Zd) a b c d e:=by kernel_rfl
abbrev pDi:=zj aj2 aj3 99 Zc
theorem ay8:C (pDi 122 []) Zd=JH:=gLC (by decide) (by kernel_rfl) (fun _=>by unfold JH;rfl) fun _ _=>ay7.trans (by kernel_rfl)
theorem aj4:au Tryz.prog (fun _=>True) 99 ⟨Zc,FI⟩:=zcc (env:=aj2) (d:=6) (hs:=Ev.get aj3) (aj BS (aj af5 bq)) (fun J x=>Ze (C (J 122 []) Zd) x.1) (fun _ _=>by kernel_rfl) fun _=>by rw[ay8]<;>rfl
end Go.Proofs.Lx
end
