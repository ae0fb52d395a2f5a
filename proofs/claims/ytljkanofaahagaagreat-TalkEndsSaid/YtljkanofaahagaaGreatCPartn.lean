/- Proved in the last of these 15 parts (this is part 14): TalkEnds. Conditions: those of the given statement, and no others. -/
import Derived.Test.YtljkanofaahagaaGreatCPartm
import Derived.Test.YtljkanofaahagaaGreatCPartd
import Derived.Test.YtljkanofaahagaaGreatProg
import Derived.Test.YtljkanofaahagaaGreatCPartj
import Derived.Test.YtljkanofaahagaaGreatCParte
set_option linter.unusedVariables false
set_option linter.unusedSimpArgs false
set_option linter.unusedSectionVars false
open Option renaming bind → zC, bind_some → zD
open Int renaming ofNat → zF
open List renaming length → zG, getD_eq_getElem?_getD → zX
noncomputable section
namespace Go.Proofs.Lx
open Go Ev Sx Pl
set_option maxRecDepth 100000
section
variable {bank:List Int}{tx tk la:Int}{L:List bn}(hb:bank.length=64)(hbr:∀x∈bank,0≤x∧x≤65535)(ht:1≤tx∧tx≤4294967295)(hk:1≤tk∧tk≤9223372036854775807)
 (hL:L.length≤8) (hf:∀x∈L,fD x=true) (hw:∀x∈L,∀w∈x.2,0≤w∧w≤65535) (hla:0≤la∧la<tx)
include hb hbr ht hk hL hf hw hla
def JM(bank:List Int)(tx tk:Int)(L:List bn):TAg:=(u6 bank L,(0,0),0,0,tx,zSt,tk)
theorem Jl:doS (jh (agP bank 7 tx tk la L)) (7,3,tx,0,0)=(JM bank tx tk L,0) :=
 Y2 hb hbr (by decide:(1:Int)≤7∧(7:Int)≤65535) ht hk hL hf hw hla 0 0
theorem aoE:OkG (JM bank tx tk L):=by have h:=(aaY hb hbr (by decide:(1:Int)≤7∧(7:Int)≤65535) ht hk hL hf hw hla).own.doS (c:=(7,3,tx,0,0)) (by show (0:Int)≤7∧(7:Int)≤65535;decide) (by show 0≤tx∧tx≤4294967295;omega) (by show (0:Int)≤0∧(0:Int)≤65535;decide);rw[Jl hb hbr ht hk hL hf hw hla]at h;exact h
theorem Y3{p:TP}{s:TSl}{n:Int}(h:OkX (p,(7,tx,[],2,5,n,0,0)) s)(hs:s.2.2.1=agP bank 7 tx tk la L):oQ 1 (p,(7,tx,[],2,5,n,0,0)) s=some ((lg p,(7,tx,[],2,0,n,0,1)),jC s (JM bank tx tk L)):=by
 have e:iB (p,(7,tx,[],2,5,n,0,0))=kP (7,3,tx,0,0):=rfl;have hc:OkC (7,3,tx,0,0):=jY (v:=3) h.kt (by decide);have es:=yJ h.ks hc (A:=JM bank tx tk L) (by rw[hs];exact Jl hb hbr ht hk hL hf hw hla) (aoE hb hbr ht hk hL hf hw hla);have ex:gG (p,(7,tx,[],2,5,n,0,0)) s=(lg p,(7,tx,[],2,0,n,0,1)):=by unfold gG;rw[e,es,arn rfl,vB];exact if_pos (show tx≤tx by omega)
 show (if (gG _ s).2.2.2.2.2.1=0 then some (gG _ s,slX _ s) else _)=_;rw[ex];unfold slX;rw[e,es];exact if_pos rfl
def EZ(bank:List Int)(la tk:Int):TAg:=(bank,(0,0),0,0,la,zSt,tk)
theorem ak0:doS (jh (agP bank 7 tx tk la L)) (7,4,tx,0,0)=(EZ bank la tk,0):=by
 have e:jh (agP bank 7 tx tk la L)=agP bank 7 tx tk la L:=by unfold jh agP;dsimp only;rw[JL (Nat.le_refl _)]
 rw[e];unfold doS agP;dsimp only;rw[if_neg (by omega),if_neg (by omega),if_neg (by decide),if_neg (by decide),if_neg (by decide),if_neg (by omega),if_pos ⟨rfl,rfl⟩];rfl
theorem aoF:OkG (EZ bank la tk):=wU hb hbr ⟨hla.1,by omega⟩ hk
theorem ak1{p:TP}{s:TSl}{n:Int}(h:OkX (p,(7,tx,[],3,6,n,0,0)) s)(hs:s.2.2.1=agP bank 7 tx tk la L):oQ 1 (p,(7,tx,[],3,6,n,0,0)) s=some ((lg p,(7,tx,[],3,0,n,0,1)),jC s (EZ bank la tk)):=by
 have e:iB (p,(7,tx,[],3,6,n,0,0))=kP (7,4,tx,0,0):=rfl;have hc:OkC (7,4,tx,0,0):=jY (v:=4) h.kt (by decide);have es:=yJ h.ks hc (A:=EZ bank la tk) (by rw[hs];exact ak0 hb hbr ht hk hL hf hw hla) (aoF hb hbr ht hk hL hf hw hla);have ex:gG (p,(7,tx,[],3,6,n,0,0)) s=(lg p,(7,tx,[],3,0,n,0,1)):=by unfold gG;rw[e,es,aro rfl,vB];refine if_neg (fun h=>?_);have:=(of_decide_eq_true h).1;exact absurd this (show ¬ (0:Int)=7 by decide)
 show (if (gG _ s).2.2.2.2.2.1=0 then some (gG _ s,slX _ s) else _)=_;rw[ex];unfold slX;rw[e,es];exact if_pos rfl
end
theorem ak2:Yo ()=some (true,()):=by kernel_rfl
theorem Bi{alt:Bool}{t:TTk}{s:TSl}{x g k y:Int}{pl:List (List bn)}(ht:OkT t)(hs:OkS s)(hu:s.1=t.1.1)(hl:s.2.1=t.1.2.1)(hx:0≤x∧x≤1000000)(hp:OkPl pl)
  (hk:EV alt t x=some (k,y)) (hk3:1≤k∧k≤3) (hy:1≤y∧y≤4294967295) (hf:k=1->oz (fJ pl y)=true) :
  vK (alt,t,s,x,g,pl,[],())=some (true,(eZ (jy t k y (fJ pl y))).1,s,y,if k=2 then y else g,pl,[(false,(eZ (jy t k y (fJ pl y))).2)],())∧OkX (jy t k y (fJ pl y)) s:=by
 obtain⟨e1,ox⟩:=akU (g:=k) (y:=y) (l:=fJ pl y) ht hs hu hl hk3 hy hf (fun b hb=>((Pb hp y).2 b hb).2);have hlen:=Bh ox;refine⟨?_,ox⟩;rw[aaS ht hs alt hx g hp []];unfold Pd;rw[hk];dsimp only;have eo:nQ [] false (eZ (jy t k y (fJ pl y))).2=[(false,(eZ (jy t k y (fJ pl y))).2)]:=by unfold nQ;rw[if_pos ⟨by omega,by decide⟩];rfl
 rw[e1];dsimp only;rw[eo];rfl
structure InvE(i:Nat) (T:TTk) (S:TSl) (B:List Int) (la:Int):Prop where
 ok:OkT T
 os:OkS S
 u:S.1=T.1.1
 l:S.2.1=T.1.2.1
 o:T.2.1=7
 g:T.2.2.2.2.1=0∨(T.2.2.2.2.1=2∨T.2.2.2.2.1=3)∧T.2.2.2.2.2.2.2.2=1
 a:S.2.2.1=EZ B la 40
 bl:B.length=64
 br:∀x∈B,0≤x∧x≤65535
 la:0≤la∧la≤i
theorem InvE.pick{i:Nat}{T:TTk}{S:TSl}{B:List Int}{la:Int}(h:InvE i T S B la)(x:Int):EV false T x=some (1,x+1):=by
 unfold EV;rcases h.g with e | ⟨e | e,s⟩
 ·rw[e,if_neg (fun q=>absurd q.1 (by decide)),if_neg (fun q=>absurd q.1 (by decide)),if_neg (fun q=>q.1 rfl)]
 ·rw[e,s,if_neg (by decide),if_neg (by decide),if_neg (by decide)]
 ·rw[e,s,if_neg (by decide),if_neg (by decide),if_neg (by decide)]
def yN(gone:Bool)(B:List Int)(L:List bn):List Int:=if gone=true then B else u6 B L
def Iv(gone:Bool)(la:Int)(i:Nat):Int:=if gone=true then la else (i:Int)+1
theorem round{gone:Bool}{i:Nat}{T:TTk}{S:TSl}{B:List Int}{la g:Int}{pl:List (List bn)}{L:List bn}(h:InvE i T S B la)(hi:i<100)(hp:OkPl pl)(eL:fJ pl ((i:Int)+1)=L)(hL:L.length≤4)(hf:∀x∈L,fD x=true)(hw:∀x∈L,∀w∈x.2,0≤w∧w≤65535) :
  ∃T1 w1 T2 S2 T3 w3 T4 S4,vK (false,T,S,(i:Int),g,pl,[],())=some (true,T1,S,(i:Int)+1,g,pl,w1,())∧AL (60,T1,S,(i:Int)+1,g,pl,w1,())=some (true,T2,S2,(i:Int)+1,g,pl,[],()) ∧
   vK (gone,T2,S2,(i:Int)+1,g,pl,[],())=some (true,T3,S2,(i:Int)+1,if gone=true then g else (i:Int)+1,pl,w3,())∧AL (60,T3,S2,(i:Int)+1,if gone=true then g else (i:Int)+1,pl,w3,())=some (true,T4,S4,(i:Int)+1,if gone=true then g else (i:Int)+1,pl,[],()) ∧
   OkS S2∧T2.2.2.2.2.1=1∧T2.2.2.2.2.2.2.2.2=1∧S2.2.2.1.2.2.1=2 ∧
   InvE (i+1) T4 S4 (yN gone B L) (Iv gone la i)∧T4.2.2.2.2.2.2.2.2=1∧T4.2.2.2.2.2.1=0∧T4.1.2.2.2.2.1=false:=by
 have hi1:(1:Int)≤(i:Int)+1∧(i:Int)+1≤4294967295:=by omega
 have hfit:oz L=true:=aaV (by omega) hf;have hla:0≤la∧la<(i:Int)+1:=by have:=h.la;omega
 have k40:(1:Int)≤40∧(40:Int)≤9223372036854775807:=by decide
 obtain⟨b1,ox1⟩:=Bi (alt:=false) (g:=g) (k:=1) (y:=(i:Int)+1) (x:=(i:Int)) h.ok h.os h.u h.l (by omega) hp (h.pick _) ⟨by decide,by decide⟩ hi1 (fun _=>by rw[eL];exact hfit);rw[eL]at b1 ox1;have e1:jy T 1 ((i:Int)+1) L=(lI T.1,(7,(i:Int)+1,L,1,1,0,0,0)):=by show (lI T.1,(T.2.1,(i:Int)+1,L,1,1,0,0,0))=_;rw[h.o]
 rw[e1]at b1 ox1;obtain⟨p',hz⟩:=PI h.bl h.br hi1 k40 (by omega) hf hw hla ox1 h.a;have c1:=Iu (N:=60) ox1 hz (by omega) (by decide) ((i:Int)+1) g pl;obtain⟨ok1,os1,a1,w1,u1,l1⟩:=yM ox1 hz;dsimp only at ok1 os1 a1 w1 u1 l1
 cases gone with
 | true =>
  obtain⟨b2,ox2⟩:=Bi (alt:=true) (g:=g) (k:=3) (y:=(i:Int)+1) (x:=(i:Int)+1) ok1 os1 u1 l1 (by omega) hp rfl ⟨by decide,by decide⟩ hi1 (fun e=>absurd e (by decide));have e2:jy (p',(7,(i:Int)+1,L,1,0,(L.length:Int),0,1)) 3 ((i:Int)+1) (fJ pl ((i:Int)+1))=(lI p',(7,(i:Int)+1,[],3,6,0,0,0)):=rfl;rw[e2]at b2 ox2;have hz2:=ak1 h.bl h.br hi1 k40 (by omega) hf hw hla ox2 rfl;have c2:=Iu (N:=60) ox2 hz2 (by omega) (by decide) ((i:Int)+1) g pl;obtain⟨ok2,os2,a2,w2,u2,l2⟩:=yM ox2 hz2;exact⟨_,_,_,_,_,_,_,_,b1,c1,b2,c2,os1,rfl,rfl,rfl,⟨ok2,os2,u2,l2,rfl,.inr ⟨.inr rfl,rfl⟩,rfl,h.bl,h.br,by show 0≤la∧la≤((i+1:Nat):Int);omega⟩,rfl,rfl,w2⟩
 | false =>
  obtain⟨b2,ox2⟩:=Bi (alt:=false) (g:=g) (k:=2) (y:=(i:Int)+1) (x:=(i:Int)+1) ok1 os1 u1 l1 (by omega) hp rfl ⟨by decide,by decide⟩ hi1 (fun e=>absurd e (by decide));have e2:jy (p',(7,(i:Int)+1,L,1,0,(L.length:Int),0,1)) 2 ((i:Int)+1) (fJ pl ((i:Int)+1))=(lI p',(7,(i:Int)+1,[],2,5,0,0,0)):=rfl;rw[e2]at b2 ox2;have hz2:=Y3 h.bl h.br hi1 k40 (by omega) hf hw hla ox2 rfl;have c2:=Iu (N:=60) ox2 hz2 (by omega) (by decide) ((i:Int)+1) ((i:Int)+1) pl;obtain⟨ok2,os2,a2,w2,u2,l2⟩:=yM ox2 hz2;exact⟨_,_,_,_,_,_,_,_,b1,c1,b2,c2,os1,rfl,rfl,rfl,⟨ok2,os2,u2,l2,rfl,.inr ⟨.inl rfl,rfl⟩,rfl,Bb h.bl hf,Bc h.br hw,by show 0≤(i:Int)+1∧(i:Int)+1≤((i+1:Nat):Int);omega⟩,rfl,rfl,w2⟩
end Go.Proofs.Lx
end
noncomputable section
open Go Go.Proofs Ev Sx
set_option maxRecDepth 100000
namespace Go.Proofs.Lx
abbrev gU:Type:=((Int×Int×Int×Int×Bool×(Int×Int×Int×Int×List Int×List Bool)×Int×Int×Int)×Int×Int×List (Int×List Int)×Int×Int×Int×Int×Int)
abbrev gV:Type:=(Int×Int×(List Int×(Int×Int)×Int×Int×Int×(Int×List Bool×List (Int×List Int))×Int)×List Bool)
abbrev sN:Ty:=(.sl (.pr (.int .i64) aC))
@[reducible] def ak3:Sh:=⟨[.d (.int .u8),.d aC,.d (.sl sN),.d (.sl .bool)],[],[.int .u8,.sl (.int .u16),.sl sN,.sl .bool],[.d (.bool)],[],0,[.bool]⟩
def ak4:Env:=(cts [(1000048,Ev.gu),(9000046,Ev.gu),(9999999,Ev.gu),(9,(⟨LB,FW⟩:Ct)),(10,(⟨Ag,vK⟩:Ct)),(11,(⟨Yp,AL⟩:Ct)),(12,(⟨XP,DI⟩:Ct)),(14,(⟨Yu,Yy⟩:Ct)),(15,(⟨DL,Yo⟩:Ct))])
def ak5:List (Nat×Hint):=[(122,⟨[],[3,9,25,37,38,41,42,43,44,47,48,49,50,53,54,55,56,57,60,61,62,63,64,65,72,73,74,75,81,82,85,86,87,88,91,92,93,94,95,98,99,100,101,104,105,106,107,122,123,124,125,126,127,128,131,132,133,134,135,136,137,138,139]⟩),(31335,⟨[.agd 72 (.sl .bool),.agd 73 (.int .i64),.agd 75 .bool],[3,9,12,13,25]⟩),(250687,⟨[],[3,9,13,14,15,25,37,38,41,42,43,44,47,48,49,50,53,54,55,56,57,60,61,62,63,64,65,72,73,74,75,81,82,85,86,87,88,91,92,93,94,95,98,99,100,101,104,105,106,107,122,123,124,125,126,127,128,131,132,133,134,135,136,137,138,139]⟩),(501375,⟨[.agd 125 aC,.agd 126 aC,.agd 127 .bool,.agd 128 .bool,.agd 134 (.int .u32),.agd 136 (.int .u32),.agd 137 .bool,.agd 138 .bool,.agd 139 .bool],[3,9,25,140]⟩),(125342,⟨[.agd 81 .bool,.agd 82 .bool,.agd 87 (.int .u8),.agd 88 .bool,.agd 94 (.int .u8),.agd 95 .bool,.agd 100 (.int .u8),.agd 101 .bool,.agd 107 .bool],[3,9,12,13,25,108]⟩),(31334,⟨[.agd 37 .bool,.agd 38 .bool,.agd 43 (.int .u8),.agd 44 .bool,.agd 49 (.int .u8),.agd 50 .bool,.agd 56 (.int .u8),.agd 57 .bool,.agd 61 (.int .u32),.agd 62 (.int .i64),.agd 63 (.int .i64),.agd 64 (.int .u32),.agd 65 .bool],[3,9,11,12,25,66]⟩)]
@[reducible] def zN0:Type:=List (Bool×List Int)
def qc(aborts:List Bool)(t25:Int)(p:gU×gV×Unit×Int×Int×List aH)(o:zN0):St:=⟨[(3,.d (.sl .bool) aborts),(9,.pb 0 0),(25,dI t25)],143,[],[(0,.box 48 (eY p.1 (slC p.2.1 [.row 1,d2 p.2.2.2.1,d2 p.2.2.2.2.1,.d (.sl sN) p.2.2.2.2.2]))),(1,.que eG 63 o)],2,[],0⟩
def ak6(aborts:List Bool)(i t25:Int)(t66:Bool)(p:gU×gV×Unit×Int×Int×List aH)(o:zN0)(before:List Int):St:=⟨[(3,.d (.sl .bool) aborts),(9,.pb 0 0),(11,dI i),(12,.row 2),(25,dI t25),(66,dB t66)],143,[],[(0,.box 48 (eY p.1 (slC p.2.1 [.row 1,d2 p.2.2.2.1,d2 p.2.2.2.2.1,.d (.sl sN) p.2.2.2.2.2]))),(1,.que eG 63 o),(2,.row (.int .u16) 25 before)],3,[],0⟩
def ak7(aborts:List Bool)(gone:Bool)(t25:Int)(p:gU×gV×Unit×Int×Int×List aH)(o:zN0)(before:List Int):St:=⟨[(3,.d (.sl .bool) aborts),(9,.pb 0 0),(12,.row 2),(13,dB gone),(25,dI t25)],143,[],[(0,.box 48 (eY p.1 (slC p.2.1 [.row 1,d2 p.2.2.2.1,d2 p.2.2.2.2.1,.d (.sl sN) p.2.2.2.2.2]))),(1,.que eG 63 o),(2,.row (.int .u16) 25 before)],3,[],0⟩
def ak8(aborts:List Bool)(gone:Bool)(t25:Int)(t108:Bool)(p:gU×gV×Unit×Int×Int×List aH)(o:zN0)(before:List Int):St:=⟨[(3,.d (.sl .bool) aborts),(9,.pb 0 0),(12,.row 2),(13,dB gone),(25,dI t25),(108,dB t108)],143,[],[(0,.box 48 (eY p.1 (slC p.2.1 [.row 1,d2 p.2.2.2.1,d2 p.2.2.2.2.1,.d (.sl sN) p.2.2.2.2.2]))),(1,.que eG 63 o),(2,.row (.int .u16) 25 before)],3,[],0⟩
def ak9(aborts:List Bool)(gone:Bool)(want:List Int)(e t25:Int)(p:gU×gV×Unit×Int×Int×List aH)(o:zN0):St:=⟨[(3,.d (.sl .bool) aborts),(9,.pb 0 0),(13,dB gone),(14,dW want),(15,dI e),(25,dI t25)],143,[],[(0,.box 48 (eY p.1 (slC p.2.1 [.row 1,d2 p.2.2.2.1,d2 p.2.2.2.2.1,.d (.sl sN) p.2.2.2.2.2]))),(1,.que eG 63 o)],2,[],0⟩
def ala(aborts:List Bool)(t25:Int)(t140:Bool)(p:gU×gV×Unit×Int×Int×List aH)(o:zN0):St:=⟨[(3,.d (.sl .bool) aborts),(9,.pb 0 0),(25,dI t25),(140,dB t140)],143,[],[(0,.box 48 (eY p.1 (slC p.2.1 [.row 1,d2 p.2.2.2.1,d2 p.2.2.2.2.1,.d (.sl sN) p.2.2.2.2.2]))),(1,.que eG 63 o)],2,[],0⟩
def Bj(j2:List Bool->Int->Int->Bool->gU×gV×Unit×Int×Int×List aH->List (Bool×List Int)->List Int->Option aF)(self1:List Bool->Int->gU×gV×Unit×Int×Int×List aH->List (Bool×List Int)->Option aF)(aborts:List Bool)(t25:Int)(p:gU×gV×Unit×Int×Int×List aH)(o:zN0):Option aF :=
 if lt t25 6=true then need (small (0+zG p.2.1.2.2.1.1)) (zC (vK (false,p.1,(iZ p.2.1),p.2.2.2.1,p.2.2.2.2.1,p.2.2.2.2.2,o,())) fun y=>if (!y.1)=true then j2 aborts t25 t25 true (y.2.1,y.2.2.1,(),y.2.2.2.1,y.2.2.2.2.1,y.2.2.2.2.2.1) y.2.2.2.2.2.2.1 p.2.1.2.2.1.1 else zC (AL (60,y.2.1,(iZ y.2.2.1),y.2.2.2.1,y.2.2.2.2.1,y.2.2.2.2.2.1,y.2.2.2.2.2.2.1,())) fun y=>if (!y.1)=true then j2 aborts t25 t25 true (y.2.1,y.2.2.1,(),y.2.2.2.1,y.2.2.2.2.1,y.2.2.2.2.2.1) y.2.2.2.2.2.2.1 p.2.1.2.2.1.1 else if nei y.2.1.2.2.2.2.2.2.2.2 1=true then j2 aborts t25 t25 true (y.2.1,y.2.2.1,(),y.2.2.2.1,y.2.2.2.2.1,y.2.2.2.2.2.1) y.2.2.2.2.2.2.1 p.2.1.2.2.1.1 else if nei y.2.1.2.2.2.2.1 1=true then j2 aborts t25 t25 true (y.2.1,y.2.2.1,(),y.2.2.2.1,y.2.2.2.2.1,y.2.2.2.2.2.1) y.2.2.2.2.2.2.1 p.2.1.2.2.1.1 else if nei y.2.2.1.2.2.1.2.2.1 2=true then j2 aborts t25 t25 true (y.2.1,y.2.2.1,(),y.2.2.2.1,y.2.2.2.2.1,y.2.2.2.2.2.1) y.2.2.2.2.2.2.1 p.2.1.2.2.1.1 else j2 aborts t25 t25 (nei y.2.2.2.1 (cvt .u32 (add .i64 t25 1))) (y.2.1,y.2.2.1,(),y.2.2.2.1,y.2.2.2.2.1,y.2.2.2.2.2.1) y.2.2.2.2.2.2.1 p.2.1.2.2.1.1) else zC (Yo ()) fun y=>some (y.1,())
def Y4(j3:List Bool->Bool->Int->gU×gV×Unit×Int×Int×List aH->List (Bool×List Int)->List Int->Option aF)(self1:List Bool->Int->gU×gV×Unit×Int×Int×List aH->List (Bool×List Int)->Option aF)(aborts:List Bool)(i t25:Int)(t66:Bool)(p:gU×gV×Unit×Int×Int×List aH)(o:zN0)(before:List Int):Option aF :=
 if t66=true then some (false,()) else if lt i (zF (zG aborts))=true then zC (at? aborts i) fun y=>j3 aborts y t25 p o before else j3 aborts false t25 p o before
def Y5(j4:List Bool->Bool->Int->Bool->gU×gV×Unit×Int×Int×List aH->List (Bool×List Int)->List Int->Option aF)(self1:List Bool->Int->gU×gV×Unit×Int×Int×List aH->List (Bool×List Int)->Option aF)(aborts:List Bool)(gone:Bool)(t25:Int)(p:gU×gV×Unit×Int×Int×List aH)(o:zN0)(before:List Int):Option aF :=
 zC (vK (gone,p.1,(iZ p.2.1),p.2.2.2.1,p.2.2.2.2.1,p.2.2.2.2.2,o,())) fun y=>if (!y.1)=true then j4 aborts gone t25 true (y.2.1,y.2.2.1,(),y.2.2.2.1,y.2.2.2.2.1,y.2.2.2.2.2.1) y.2.2.2.2.2.2.1 before else zC (AL (60,y.2.1,(iZ y.2.2.1),y.2.2.2.1,y.2.2.2.2.1,y.2.2.2.2.2.1,y.2.2.2.2.2.2.1,())) fun y=>if (!y.1)=true then j4 aborts gone t25 true (y.2.1,y.2.2.1,(),y.2.2.2.1,y.2.2.2.2.1,y.2.2.2.2.2.1) y.2.2.2.2.2.2.1 before else if nei y.2.1.2.2.2.2.2.2.2.2 1=true then j4 aborts gone t25 true (y.2.1,y.2.2.1,(),y.2.2.2.1,y.2.2.2.2.1,y.2.2.2.2.2.1) y.2.2.2.2.2.2.1 before else if nei y.2.2.1.2.2.1.2.2.1 0=true then j4 aborts gone t25 true (y.2.1,y.2.2.1,(),y.2.2.2.1,y.2.2.2.2.1,y.2.2.2.2.2.1) y.2.2.2.2.2.2.1 before else if nei y.2.1.2.2.2.2.2.1 0=true then j4 aborts gone t25 true (y.2.1,y.2.2.1,(),y.2.2.2.1,y.2.2.2.2.1,y.2.2.2.2.2.1) y.2.2.2.2.2.2.1 before else j4 aborts gone t25 y.2.1.1.2.2.2.2.1 (y.2.1,y.2.2.1,(),y.2.2.2.1,y.2.2.2.2.1,y.2.2.2.2.2.1) y.2.2.2.2.2.2.1 before
def Y6(j5:List Bool->Bool->List Int->Int->Int->gU×gV×Unit×Int×Int×List aH->List (Bool×List Int)->Option aF)(self1:List Bool->Int->gU×gV×Unit×Int×Int×List aH->List (Bool×List Int)->Option aF)(aborts:List Bool)(gone:Bool)(t25:Int)(t108:Bool)(p:gU×gV×Unit×Int×Int×List aH)(o:zN0)(before:List Int):Option aF :=
 if t108=true then some (false,()) else if eqi (zF (zG p.2.2.2.2.2)) 0=true then zC (DI (before,[],())) fun y=>if gone=true then j5 aborts gone before y.2.1 t25 p o else j5 aborts gone y.1 y.2.1 t25 p o else need (nei (zF (zG p.2.2.2.2.2)) 0) (zC (at? p.2.2.2.2.2 (rem (cvt .i64 p.2.2.2.1) (zF (zG p.2.2.2.2.2)))) fun y=>zC (DI (before,y,())) fun y=>if gone=true then j5 aborts gone before y.2.1 t25 p o else j5 aborts gone y.1 y.2.1 t25 p o)
def Y7(j6:List Bool->Int->Bool->gU×gV×Unit×Int×Int×List aH->List (Bool×List Int)->Option aF)(self1:List Bool->Int->gU×gV×Unit×Int×Int×List aH->List (Bool×List Int)->Option aF)(aborts:List Bool)(gone:Bool)(want:List Int)(e t25:Int)(p:gU×gV×Unit×Int×Int×List aH)(o:zN0):Option aF :=
 if nei e 0=true then j6 aborts t25 true p o else zC (Yy (p.2.1.2.2.1.1,want,())) fun y=>if (!y.1)=true then j6 aborts t25 true p o else j6 aborts t25 (Sx.eqb (eqi p.2.1.2.2.1.2.2.2.2.1 p.2.2.2.1) gone) p o
def Y8(self1:List Bool->Int->gU×gV×Unit×Int×Int×List aH->List (Bool×List Int)->Option aF)(aborts:List Bool)(t25:Int)(t140:Bool)(p:gU×gV×Unit×Int×Int×List aH)(o:zN0):Option aF :=
 if t140=true then some (false,()) else self1 aborts (add .i64 t25 1) p o
def Y9(j1:List Bool->Int->gU×gV×Unit×Int×Int×List aH->List (Bool×List Int)->Option aF)(link:Int)(b:List Int)(plan:List aH)(aborts:List Bool):Option aF :=
 zC (FW (link,3,1,b,plan,())) fun y=>if (!y.2.2.2.2.2.1)=true then some (false,()) else j1 aborts 0 (y.1,y.2.1,(),y.2.2.1,y.2.2.2.1,y.2.2.2.2.1) y.2.2.2.2.2.2.1
def alb(u1:List Bool->Int->gU×gV×Unit×Int×Int×List aH->List (Bool×List Int)->Option aF):=Y8 u1
def D7(u1:List Bool->Int->gU×gV×Unit×Int×Int×List aH->List (Bool×List Int)->Option aF):=Y7 (alb u1) u1
def Za(u1:List Bool->Int->gU×gV×Unit×Int×Int×List aH->List (Bool×List Int)->Option aF):=Y6 (D7 u1) u1
def Zb(u1:List Bool->Int->gU×gV×Unit×Int×Int×List aH->List (Bool×List Int)->Option aF):=Y5 (Za u1) u1
def Iw(u1:List Bool->Int->gU×gV×Unit×Int×Int×List aH->List (Bool×List Int)->Option aF):=Y4 (Zb u1) u1
def Zc(aborts:List Bool)(t25:Int)(p:gU×gV×Unit×Int×Int×List aH)(o:zN0):Option aF :=
 bu (fun self s=>Bj (Iw (fun aborts t25 p o=>self (aborts,t25,p,o))) (fun aborts t25 p o=>self (aborts,t25,p,o)) s.1 s.2.1 s.2.2.1 s.2.2.2) 18446744073709551616 (aborts,t25,p,o)
def alc(x:As [.int .u8,.sl (.int .u16),.sl sN,.sl .bool]):Option aF:=Y9 Zc x.1 x.2.1 x.2.2.1 x.2.2.2.1
abbrev pBl:=zp ak4 ak5 3 ak3
theorem azN{J w1 a b c d e}:pBl J 501375 [w1] (ala a b c d e)=Y8 (C w1 qc) a b c d e:=by kernel_rfl
theorem azO{J w1 a b c d e f g}:pBl J 250687 [w1] (ak9 a b c d e f g)=Y7 (C (J 501375 [w1]) ala) (C w1 qc) a b c d e f g:=by kernel_rfl
theorem azP{J w1 a b c d e f g}:pBl J 125342 [w1] (ak8 a b c d e f g)=Y6 (C (J 250687 [w1]) ak9) (C w1 qc) a b c d e f g:=by kernel_rfl
theorem azQ{J w1 a b c d e f}:pBl J 31335 [w1] (ak7 a b c d e f)=Y5 (C (J 125342 [w1]) ak8) (C w1 qc) a b c d e f:=by kernel_rfl
theorem azR{J w1 a b c d e f g}:pBl J 31334 [w1] (ak6 a b c d e f g)=Y4 (C (J 31335 [w1]) ak7) (C w1 qc) a b c d e f g:=by kernel_rfl
theorem azS{J w1 a b c d}:pBl J 122 [w1] (qc a b c d)=Bj (C (J 31334 [w1]) ak6) (C w1 qc) a b c d:=by kernel_rfl
abbrev pBk:=zj ak4 ak5 3 ak3
theorem azT{w1}:C (pBk 501375 [w1]) ala=alb (C w1 qc):=gNC (by decide) fun _=>azN
theorem azU{w1}:C (pBk 250687 [w1]) ak9=D7 (C w1 qc):=gNC (by decide) fun _=>azO.trans (by rw[azT]<;>kernel_rfl)
theorem azV{w1}:C (pBk 125342 [w1]) ak8=Za (C w1 qc):=gNC (by decide) fun _=>azP.trans (by rw[azU]<;>kernel_rfl)
theorem azW{w1}:C (pBk 31335 [w1]) ak7=Zb (C w1 qc):=gNC (by decide) fun _=>azQ.trans (by rw[azV]<;>kernel_rfl)
theorem azX{w1}:C (pBk 31334 [w1]) ak6=Iw (C w1 qc):=gNC (by decide) fun _=>azR.trans (by rw[azW]<;>kernel_rfl)
theorem azY:C (pBk 122 []) qc=Zc:=gLC (by decide) (by kernel_rfl) (fun _=>by unfold Zc;rfl) fun _ _=>azS.trans (by rw[azX]<;>kernel_rfl)
theorem azZ:ak Tryz.prog (fun _=>True) 3 ⟨ak3,alc⟩:=zcc (env:=ak4) (d:=6) (hs:=Ev.get ak5) (aj Ev.fF (aj Ev.fF (aj Ev.fF (aj alq (aj apL (aj ays (aj amQ (aj azl (aj ayn av))))))))) (fun J x=>Y9 (C (J 122 []) qc) x.1 x.2.1 x.2.2.1 x.2.2.2.1) (fun _ _=>by kernel_rfl) fun _=>by rw[azY]<;>rfl
end Go.Proofs.Lx
end
noncomputable section
namespace Go.Proofs.Lx
open Go Ev Sx Pl
set_option maxRecDepth 100000
theorem aa1{α:Type}{pl:List (List bn)}(hp:OkPl pl){y:Int}(hy:0≤y∧y≤4294967295)(f:List bn->Option α) :
  (if eqi (zF pl.length) 0=true then f [] else need (nei (zF pl.length) 0) (zC (at? pl (rem (cvt .i64 y) (zF pl.length))) f))=f (fJ pl y):=by
 have hl:=hp.l;by_cases h0:pl.length=0
 ·rw[if_pos (dw.2 (by rw[ay];omega)),List.length_eq_zero_iff.1 h0]
  rfl
 ·have er:rem (cvt .i64 y) (zF pl.length)=((y.toNat%pl.length:Nat):Int):=by obtain⟨n,rfl⟩:=Int.eq_ofNat_of_zero_le hy.1;rw[iI (by omega) (by omega),ay];unfold rem;rw[Int.tmod_eq_emod_of_nonneg (by omega),Int.toNat_natCast];rfl
  obtain⟨q,hq⟩:=fU (xs:=pl) (i:=y.toNat%pl.length) (Nat.mod_lt _ (by omega));have ep:q=fJ pl y:=by unfold fJ;rw[zX,hq];rfl
  rw[if_neg (fun e=>by have:=dw.1 e;rw[ay]at this;omega),eu (by rw[fo,ay];omega),er,fI hq,zD,ep]
section
variable {pl:List (List bn)}{ab:List Bool}{g la:Int}{B:List Int}{i:Nat}{T:TTk}{S:TSl}
variable {self:List Bool->Int->TTk×TSl×Unit×Int×Int×List (List bn)->jP->Option aF}
theorem aoG{gone:Bool}{L:List bn}{la':Int}(hi:i<100)(h:InvE (i+1) T S (yN gone B L) (Iv gone la' i))(hla:la'≤i) :
  D7 self ab gone (yN gone B L) 0 (i:Int) (T,S,(),(i:Int)+1,g,pl) []=self ab ((i+1:Nat):Int) (T,S,(),(i:Int)+1,g,pl) []:=by
 have eb:S.2.2.1.1=yN gone B L:=by rw[h.a];rfl
 have el:S.2.2.1.2.2.2.2.1=Iv gone la' i:=by rw[h.a];rfl
 have hb:=h.bl
 have e6:Sx.eqb (eqi S.2.2.1.2.2.2.2.1 ((i:Int)+1)) gone=false:=by
  rw[el]
  cases gone with
  | true =>
   have:eqi (Iv true la' i) ((i:Int)+1)=false:=by rw[<- Bool.not_eq_true,dw];show ¬ la'=_;omega
   rw[this];rfl
  | false =>
   rw[show eqi (Iv false la' i) ((i:Int)+1)=true from dw.2 rfl];rfl
 show Y7 (alb self) self ab gone (yN gone B L) 0 (i:Int) _ []=_;unfold Y7;dsimp only;rw[if_neg (by decide),aaF (by rw[eb];omega),zD,decide_eq_true eb,if_neg (by decide),e6];show Y8 self ab (i:Int) false _ []=_;unfold Y8;rw[if_neg (by decide),iD (by omega)]
theorem aa2(hp:OkPl pl)(hq:∀y,(fJ pl y).length≤4∧∀b∈fJ pl y,fD b=true∧b.2.length≤14∧∀z∈b.2,0≤z∧z≤65535)(hi:i<6)(h:InvE i T S B la) :
  ∃(T':TTk) (S':TSl) (B':List Int) (la' g':Int),Bj (Iw self) self ab (i:Int) (T,S,(),(i:Int),g,pl) []=self ab ((i+1:Nat):Int) (T',S',(),(i:Int)+1,g',pl) []∧InvE (i+1) T' S' B' la':=by
 obtain⟨gone,hg⟩:∃gone,gone=ab.getD i false:=⟨_,rfl⟩;have hL:=hq ((i:Int)+1);generalize eL:fJ pl ((i:Int)+1)=L at hL;have fB:∀x∈L,fD x=true:=fun x hx=>(hL.2 x hx).1;have wB:∀x∈L,∀w∈x.2,0≤w∧w≤65535:=fun x hx=>(hL.2 x hx).2.2;obtain⟨T1,w1,T2,S2,T3,w3,T4,S4,b1,c1,b2,c2,os2,g2,s2,p2,inv,s4,a4,w4⟩:=round (gone:=gone) (g:=g) h (by omega) hp eL hL.1 fB wB;have ep:S4.2.2.1.2.2.1=0:=by rw[inv.a];rfl
 have eb:S.2.2.1.1=B:=by rw[h.a];rfl
 have hbl:=h.bl;refine⟨T4,S4,yN gone B L,Iv gone la i,(if gone=true then g else (i:Int)+1),?_,inv⟩;have k5:=aoG (pl:=pl) (ab:=ab) (self:=self) (g:=if gone=true then g else (i:Int)+1) (by omega) inv h.la.2
 have k4:Za self ab gone (i:Int) false (T4,S4,(),(i:Int)+1,(if gone=true then g else (i:Int)+1),pl) [] B=self ab ((i+1:Nat):Int) (T4,S4,(),(i:Int)+1,(if gone=true then g else (i:Int)+1),pl) []:=by
  show Y6 (D7 self) self ab gone (i:Int) false _ [] B=_;unfold Y6;rw[if_neg (by decide)];dsimp only;refine (aa1 hp (y:=(i:Int)+1) ⟨by omega,by omega⟩ (fun y=>zC (DI (B,y,())) fun y=>if gone=true then D7 self ab gone B y.2.1 (i:Int) (T4,S4,(),(i:Int)+1,(if gone=true then g else (i:Int)+1),pl) [] else D7 self ab gone y.1 y.2.1 (i:Int) (T4,S4,(),(i:Int)+1,(if gone=true then g else (i:Int)+1),pl) [])).trans ?_;rw[eL,OA hbl (by omega) fB,zD];dsimp only;have kk:∀w:List Int,w=yN gone B L->D7 self ab gone w 0 (i:Int) (T4,S4,(),(i:Int)+1,(if gone=true then g else (i:Int)+1),pl) []=self ab ((i+1:Nat):Int) (T4,S4,(),(i:Int)+1,(if gone=true then g else (i:Int)+1),pl) []:=fun w e=>by rw[e];exact k5
  by_cases hh:gone=true
  ·rw[if_pos hh]
   exact kk B (by unfold yN;rw[if_pos hh])
  ·rw[if_neg hh]
   exact kk _ (by unfold yN;rw[if_neg hh])
 have k3:Zb self ab gone (i:Int) (T2,S2,(),(i:Int)+1,g,pl) [] B=self ab ((i+1:Nat):Int) (T4,S4,(),(i:Int)+1,(if gone=true then g else (i:Int)+1),pl) []:=by show Y5 (Za self) self ab gone (i:Int) _ [] B=_;unfold Y5;dsimp only;rw[iM os2,b2,zD];dsimp only;rw[if_neg (by decide),iM os2,c2,zD];dsimp only;rw[if_neg (by decide),if_neg (fun e=>fo.1 e s4),if_neg (fun e=>fo.1 e ep),if_neg (fun e=>fo.1 e a4),w4];exact k4
 unfold Bj;rw[if_pos (cu.2 (by omega))];dsimp only;rw[iT (by rw[eb];omega),iM h.os,b1,zD];dsimp only;rw[if_neg (by decide),iM h.os,c1,zD];dsimp only;have ex:nei ((i:Int)+1) (cvt .u32 (add .i64 (i:Int) 1))=false:=by rw[jg (by omega) (by omega),<- Bool.not_eq_true,fo];show ¬ ((i:Int)+1≠IntKind.u32.wrap ((i:Int)+1));rw[YR];omega
 rw[if_neg (by decide),if_neg (fun e=>fo.1 e s2),if_neg (fun e=>fo.1 e g2),if_neg (fun e=>fo.1 e p2),ex,eb];show Y4 (Zb self) self ab (i:Int) (i:Int) false _ [] B=_;unfold Y4;rw[if_neg (by decide)];by_cases hl:i<ab.length
 ·have hgi:ab[i]? = some gone:=by rw[hg,zX,List.getElem?_eq_getElem hl];rfl
  rw[if_pos (cu.2 (by rw[ay];omega)),fI hgi,zD];exact k3
 ·have hgf:gone=false:=by rw[hg,zX,List.getElem?_eq_none (by omega)];rfl
  rw[if_neg (fun e=>by have:=cu.1 e;rw[ay]at this;omega)];rw[hgf]at k3 ⊢;exact k3
theorem E4(hp:OkPl pl)(hq:∀y,(fJ pl y).length≤4∧∀b∈fJ pl y,fD b=true∧b.2.length≤14∧∀z∈b.2,0≤z∧z≤65535):∀(k i n:Nat) {T:TTk} {S:TSl} {B:List Int} {la g:Int},i+k=6->k<n->InvE i T S B la ->
  bu (fun (self:List Bool×Int×(TTk×TSl×Unit×Int×Int×List (List bn))×jP->Option aF) s=>Bj (Iw (fun a b c d=>self (a,b,c,d))) (fun a b c d=>self (a,b,c,d)) s.1 s.2.1 s.2.2.1 s.2.2.2) n (ab,(i:Int),(T,S,(),(i:Int),g,pl),[])=some (true,())
 | _,_,0,_,_,_,_,_,_,h,_=>by omega
 | 0,i,n+1,T,S,B,la,g,hi,_,h=>by
  have:i=6:=by omega
  subst this;rw[jM];show Bj (Iw _) _ ab 6 (T,S,(),6,g,pl) []=_;unfold Bj;rw[if_neg (by decide),ak2];rfl
 | k+1,i,n+1,T,S,B,la,g,hi,hk,h=>by rw[jM];obtain⟨T',S',B',la',g',e,h'⟩:=aa2 (ab:=ab) (g:=g) (self:=fun a b c d=>bu (fun (self:List Bool×Int×(TTk×TSl×Unit×Int×Int×List (List bn))×jP->Option aF) s=>Bj (Iw (fun a b c d=>self (a,b,c,d))) (fun a b c d=>self (a,b,c,d)) s.1 s.2.1 s.2.2.1 s.2.2.2) n (a,b,c,d)) hp hq (by omega) h;exact e.trans (E4 hp hq k (i+1) n (by omega) (by omega) h')
end
theorem Zd{link:Int}{b:List Int}{plan:List (List bn)}{ab:List Bool}(hk:0≤link)(hb:∀x∈b,0≤x∧x≤65535)(hw:∀l∈plan,∀b∈l,∀y∈b.2,0≤y∧y≤65535) :
  alc (link,b,plan,ab,())=some (true,()):=by
 have hI:InvE 0 (p9 link 3 1) (qb link b) (pZ b) 0:=⟨aov hk (by decide) (by decide),QL hk hb,rfl,rfl,rfl,.inl rfl,rfl,yI b,EP hb,by decide,by decide⟩;show Y9 Zc link b plan ab=_;unfold Y9;rw[akW hk (by decide) (by decide) hb,zD];dsimp only;rw[if_neg (by decide)];exact E4 (akV hw) (Y0 hw) 6 0 18446744073709551616 (by decide) (by decide) hI
abbrev arq:Ty:=.pr (.int .i64) aC
theorem ald(x:As [.int .u8,.sl (.int .u16),.sl (.sl arq),.sl .bool])(h:Rw.okA [.int .u8,.sl (.int .u16),.sl (.sl arq),.sl .bool] x):alc x=some (true,()) :=
 Zd (link:=x.1) (b:=x.2.1) (plan:=x.2.2.1) (ab:=x.2.2.2.1) (ok8 h.1).1 (fun y hy=>ok16 (h.2.1.2 y hy)) (fun l hl y hy w hw=>ok16 (((h.2.2.1.2 l hl).2 y hy).2.2 w hw))
end Go.Proofs.Lx
end
