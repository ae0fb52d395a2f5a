/- Proved in the last of these 15 parts (this is part 10): PlanText. Conditions: those of the given statement, and no others. -/
import Derived.Test.YtnamnibaedolaaaGreatDoorParti
import Derived.Test.YtnamnibaedolaaaGreatDoorPartg
import Derived.Test.YtnamnibaedolaaaGreatDoorParte
import Derived.Lib.ItoaNum
set_option linter.unusedVariables false
set_option linter.unusedSimpArgs false
set_option linter.unusedSectionVars false
open Option renaming bind → zA, bind_some → zB
open List renaming replicate → zC, length → zE, mem_cons_of_mem → zO, mem_of_getElem? → zT, length_append → zU, length_map → zV, length_replicate → zY
open Int renaming ofNat → zD, eq_ofNat_of_zero_le → zK, toNat_natCast → zM
open Bool renaming and_eq_true → zL
noncomputable section
namespace Go.Proofs.Lx
open Go Ev Sx Pl
set_option maxRecDepth 10000
abbrev LR:=As [.sl (.pr (.int .u8) (.pr .str (.pr (.pr (.int .i64) (.int .u8)) (.int .i64)))),.pr (.int .i64) (.int .i64)]
abbrev lexB(self:(List UInt8)×Int×Int×Int×TL->Option LR)(s:(List UInt8)×Int×Int×Int×TL):Option LR :=
 Pw (aep) (fun text n t3 t3_2 l=>self (text,n,t3,t3_2,l)) s.1 s.2.1 s.2.2.1 s.2.2.2.1 s.2.2.2.2
end Go.Proofs.Lx
end
noncomputable section
namespace Go.Proofs.Lx
open Go Ev Sx Pl
set_option maxRecDepth 10000
def dJ(s:List UInt8):List UInt8:=s.takeWhile (·!= 10)
def iE(s:List UInt8):List UInt8:=(s.dropWhile (·!= 10)).drop 1
theorem rF{s:List UInt8}(h:s ≠ []):(iE s).length<s.length:=by have h3:=(List.dropWhile_suffix (l:=s) (·!= 10)).length_le;have hp:=List.length_pos_iff.2 h;unfold iE;simp;omega
def eO(n:Int)(s:List UInt8)(l:TL):TL×(Int×Int) :=
 if h:s=[] then (l,(0,0)) else if (bR n (dO (dJ s)) []).2≠0 then ([],((bR n (dO (dJ s)) []).2,n)) else eO (n+1) (iE s) (l++(bR n (dO (dJ s)) []).1)
termination_by s.length
decreasing_by exact rF h
def iT(n:Int):Tk1:=(4,[],(0,0),n)
theorem aeW{a:Int}{c:UInt8}{q:List UInt8}{e:Int}(h:jg a c q = .inl e):e≠0:=by
 unfold jg at h;split at h
 ·split at h
  ·cases h;decide
  ·cases h
 ·split at h
  ·split at h
   ·cases h
   ·cases h;decide
  ·split at h
   ·cases h
   ·cases h;decide
theorem zk{c:UInt8}{s:List UInt8}(h:isB c.toNat=false):(c::s).dropWhile (fun c=>isB c.toNat)=c::s:=by simp[h]
end Go.Proofs.Lx
end
noncomputable section
namespace Go.Proofs.Lx
open Go Ev Sx Pl
set_option maxRecDepth 10000
theorem Lh(a:Int):∀(k:Nat) (s:List UInt8) (l:TL),s.length≤k->(bR a s l).1.length≤l.length+s.length+1:=by
 intro k
 induction k with
 | zero =>
  intro s l hs;have:s=[]:=List.eq_nil_of_length_eq_zero (by omega);subst this;rw[xD rfl];dsimp only;split<;>simp
 | succ k ih =>
  intro s l hs;have h3:=(List.dropWhile_suffix (l:=s) (fun c=>isB c.toNat)).length_le
  cases hd:s.dropWhile (fun c=>isB c.toNat) with
  | nil =>
   rw[xD hd];dsimp only;split
   ·simp
   ·simp
  | cons c q =>
   rw[hd]at h3;simp at h3
   cases ht:jg a c q with
   | inl e=>rw[CK hd ht];simp
   | inr p =>
    obtain⟨t,r⟩:=p;rw[CO hd ht];have h4:=qN ht;have:=ih r (l++[t]) (by omega);simp at this;omega
theorem Li(s:List UInt8):(dO s).length≤s.length:=(List.takeWhile_prefix _).length_le
theorem oV{n:Int}{s:List UInt8}{l:TL}(h:s ≠ []):eO n s l=if (bR n (dO (dJ s)) []).2≠0 then ([],((bR n (dO (dJ s)) []).2,n)) else eO (n+1) (iE s) (l++(bR n (dO (dJ s)) []).1):=by rw[eO,dif_neg h]
theorem as3:∀(k:Nat) (st:List UInt8×Int×Int×Int×TL),(st.1.length≤20000∧0≤st.2.1∧st.2.1+st.1.length≤100000∧st.2.2.1=0∧st.2.2.2.1=0∧st.2.2.2.2.length+2*st.1.length≤100000)->st.1.length<k ->
  aj lexB k st=some ((eO st.2.1 st.1 st.2.2.2.2).1,(eO st.2.1 st.1 st.2.2.2.2).2,()):=by
 refine qL (σ:=List UInt8×Int×Int×Int×TL) (μ:=fun st=>st.1.length) (G:=fun st=>some ((eO st.2.1 st.1 st.2.2.2.2).1,(eO st.2.1 st.1 st.2.2.2.2).2,())) ?_;rintro self ⟨s,n,x,y,l⟩ ⟨h1,h2,h3,rfl,rfl,h4⟩ ih;simp only at h1 h2 h3 h4 ih ⊢;show Pw _ _ s n 0 0 l=_;by_cases hne:s=[]
 ·subst hne
  rw[eO,dif_pos rfl];rfl
 ·have hlen:=rF hne
  have hpos:=List.length_pos_iff.2 hne;unfold Pw;rw[if_pos (by rw[nes_iff];exact hne),oV hne];have hadd:add .i64 n 1=n+1:=lX (by omega) (by omega)
  have go:∀(f r:List UInt8),dJ s=f->iE s=r->f.length≤s.length->f.length+r.length≤s.length->((FD (f,n,())).bind fun y=>if nei y.2.1 0=true then some ([],(y.2.1,n),()) else need (small (l.length+y.1.length)) (self (r,add .i64 n 1,0,0,l++y.1))) =
    some ((if (bR n (dO (dJ s)) []).2≠0 then (([]:TL),((bR n (dO (dJ s)) []).2,n)) else eO (n+1) (iE s) (l++(bR n (dO (dJ s)) []).1)).1,(if (bR n (dO (dJ s)) []).2≠0 then (([]:TL),((bR n (dO (dJ s)) []).2,n)) else eO (n+1) (iE s) (l++(bR n (dO (dJ s)) []).1)).2,()):=by
   intro f r ef er hf hfr;rw[ef,er,ahC f n (by omega),zB];rw[er]at hlen;have hb:=Lh n _ (dO f) [] (Nat.le_refl _);have hu:=Li f;simp at hb;by_cases he:(bR n (dO f) []).2=0
   ·rw[if_neg (by rw[dK];simpa using he),if_neg (by simpa using he),jU (by simp;omega),hadd]
    exact ih (r,n+1,0,0,l++(bR n (dO f) []).1) ⟨by show r.length≤_;omega,by show 0≤n+1;omega,by show n+1+(r.length:Int)≤_;omega,rfl,rfl,by show (l++_).length+2*r.length≤_;simp;omega⟩ (by show r.length<_;omega)
   ·rw[if_pos (by rw[dK];exact he),if_pos he]
  by_cases he:s=[10]
  ·subst he
   rw[if_pos (by decide),show cut ([10]:List UInt8) 1 (zD [(10:UInt8)].length)=some [] from rfl,zB];exact go [] [] rfl rfl (by simp) (by simp)
  ·rw[if_neg (by rw[lZ];exact fun h=>he h.symm)]
   rcases Fv 10 s with h10 | ⟨p,q,rfl,h10⟩
   ·rw[AB 10 s h10,if_neg (by decide)]
    exact go s [] (MK h10).1 (by unfold iE;rw[(MK h10).2.1];rfl) (Nat.le_refl _) (by simp)
   ·simp at h1 h3 h4
    rw[xB 10 p q h10,if_pos (by rw[dN];omega),lC,zB,iO (by omega),qM (by simp),zB];have:(p++10::q).drop (p.length+1)=q:=by simp
    rw[this];exact go p q (G8 h10).1 (by unfold iE;rw[(G8 h10).2.1];rfl) (by simp) (by simp)
def iU(s:List UInt8):TL×(Int×Int):=if 8192<s.length then ([],(130,0)) else eO 1 s []
theorem aj8(s:List UInt8):XB (s,())=some ((iU s).1,(iU s).2,()):=by
 show Xz XA s=_;unfold Xz iU;by_cases h:8192<s.length
 ·rw[if_pos (by rw[fC,ay];omega),if_pos h]
 ·rw[if_neg (by rw[fC,ay];omega),if_neg h]
  exact as3 18446744073709551616 (s,1,0,0,[]) ⟨by show s.length≤_;omega,by show (0:Int)≤1;decide,by show (1:Int)+s.length≤_;omega,rfl,rfl,by show ([]:TL).length+2*s.length≤_;simp;omega⟩ (by show s.length<_;omega)
abbrev RLx:=As [.sl (.pr (.int .u8) (.pr .str (.pr (.pr (.int .i64) (.int .u8)) (.int .i64)))),.pr (.int .i64) (.int .i64)]
def pkR(x:TL×(Int×Int)):Option RLx:=some (x.1,x.2,())
end Go.Proofs.Lx
end
noncomputable section
namespace Go.Proofs.Lx
open Go Ev Sx Pl
set_option maxRecDepth 100000
abbrev dd(n:Nat):List UInt8:=Lib.decDigits n
theorem lJ{n:Nat}(h:n<10):dd n=[UInt8.ofNat (48+n)]:=by rw[dd,Lib.decDigits,dif_pos h]
theorem vX{n:Nat}(h:¬ n<10):dd n=dd (n / 10)++[UInt8.ofNat (48+n%10)]:=by
 conv=>lhs;rw[dd,Lib.decDigits,dif_neg h]
theorem J6{k:Nat}(h:k<10):(UInt8.ofNat (48+k)).toNat=48+k:=by rw[UInt8.toNat_ofNat'];omega
theorem zl(n:Nat):∀c∈dd n,dg c=true:=by
 induction n using Nat.strongRecOn with
 | ind n ih =>
  intro c hc;by_cases h:n<10
  ·rw[lJ h]at hc
   cases List.mem_singleton.1 hc
   rw[nO,J6 h];omega
  ·rw[vX h]at hc
   rcases List.mem_append.1 hc with hc | hc
   ·exact ih (n / 10) (by omega) c hc
   ·cases List.mem_singleton.1 hc
    rw[nO,J6 (by omega)];omega
theorem He(n:Nat):dd n ≠ []:=by
 by_cases h:n<10
 ·rw[lJ h];simp
 ·rw[vX h];simp
theorem J7{a:Int}{k:Nat}(h:k<10):dvn a [UInt8.ofNat (48+k)]=10*a+k:=by show 10*a+(((UInt8.ofNat (48+k)).toNat:Int) - 48)=_;rw[J6 h];omega
theorem ZP(n:Nat):dvn 0 (dd n)=n:=by
 induction n using Nat.strongRecOn with
 | ind n ih =>
  by_cases h:n<10
  ·rw[lJ h,J7 h]
   omega
  ·rw[vX h,Sf,ih (n / 10) (by omega),J7 (by omega)]
   omega
theorem ahD{n:Nat}(h:1≤n):(dd n)[0]? ≠ some 48:=by
 induction n using Nat.strongRecOn with
 | ind n ih =>
  by_cases h1:n<10
  ·rw[lJ h1]
   intro e;have e:UInt8.ofNat (48+n)=48:=Option.some.inj e;have:=congrArg UInt8.toNat e;rw[J6 h1]at this;have e48:(48:UInt8).toNat=48:=rfl;omega
  ·rw[vX h1,List.getElem?_append_left (by have:=He (n / 10);exact List.length_pos_iff.2 this)]
   exact ih (n / 10) (by omega) (by omega)
theorem aj9{n:Nat}(h:1<(dd n).length):(dd n)[0]? ≠ some 48:=by
 refine ahD ?_;rcases Nat.eq_zero_or_pos n with h0 | h0
 ·subst h0
  rw[lJ (by omega)]at h;simp at h
 ·exact h0
theorem zm{n k:Nat}(hk:1≤k)(h:n<10 ^ k):(dd n).length≤k:=by
 induction n using Nat.strongRecOn generalizing k with
 | ind n ih =>
  by_cases h1:n<10
  ·rw[lJ h1]
   exact hk
  ·rw[vX h1]
   obtain⟨j,rfl⟩:∃j,k=j+2:=⟨k - 2,by
    have:k≠1:=fun e=>by subst e;omega
    omega⟩
   have:=ih (n / 10) (by omega) (k:=j+1) (by omega) (by rw[Nat.pow_succ]at h;omega);simp;omega
def fx:Nat->Nat->List UInt8
 | 0,_=>[]
 | k+1,m=>fx k (m / 10)++[UInt8.ofNat (48+m%10)]
theorem vY:∀k m,(fx k m).length=k
 | 0,_=>rfl
 | k+1,m=>by rw[fx,zU,vY k];rfl
theorem Sj:∀k,fx k 0=zC k 48
 | 0=>rfl
 | k+1=>by rw[fx,Nat.zero_div,Sj k,List.replicate_succ'];rfl
theorem PZ:∀k m,∀c∈fx k m,dg c=true
 | 0,_,c,h=>by cases h
 | k+1,m,c,h=>by
  rw[fx]at h;rcases List.mem_append.1 h with h | h
  ·exact PZ k _ c h
  ·cases List.mem_singleton.1 h
   rw[nO,J6 (by omega)];omega
theorem ZQ:∀(k m:Nat) (a:Int),m<10 ^ k->dvn a (fx k m)=a*((10 ^ k:Nat):Int)+m
 | 0,m,a,h=>by
  have h:m<1:=by simpa using h
  have:m=0:=by omega
  subst this;show a=a*1+0;omega
 | k+1,m,a,h=>by
  rw[fx,Sf,ZQ k (m / 10) a (by rw[Nat.pow_succ]at h;omega),J7 (by omega),Nat.pow_succ]
  push_cast
  have:(m:Int)=10*((m / 10:Nat):Int)+((m%10:Nat):Int):=by omega
  rw[Int.mul_add,<- Int.mul_assoc,Int.mul_comm 10 a,Int.mul_assoc,Int.mul_comm 10];omega
theorem P5:∀(k m:Nat),1≤k->m<10 ^ k->zC (k - (dd m).length) 48++dd m=fx k m
 | 0,_,h,_=>by omega
 | k+1,m,_,h=>by
  by_cases h1:m<10
  ·rw[lJ h1,fx,Nat.div_eq_of_lt h1,Sj,Nat.mod_eq_of_lt h1]
   rfl
  ·have hk:1≤k:=by
    rcases Nat.eq_zero_or_pos k with e | e
    ·subst e;simp at h;omega
    ·exact e
   have ih:=P5 k (m / 10) hk (by rw[Nat.pow_succ]at h;omega);rw[vX h1,fx,<- ih,zU,List.append_assoc]
   congr 2
   show k+1 - ((dd (m / 10)).length+1)=_;omega
theorem ZR{k m:Nat}(hk:1≤k)(hm:m%10≠0):fF (fx k m)=fx k m:=by obtain⟨j,rfl⟩:∃j,k=j+1:=⟨k - 1,by omega⟩;rw[fx];refine Eu _ fun e=>?_;have:=congrArg UInt8.toNat e;rw[J6 (by omega)]at this;have e48:(48:UInt8).toNat=48:=rfl;omega
theorem Hf(q:List UInt8):∀k,fF (q++zC k 48)=fF q
 | 0=>by simp
 | k+1=>by rw[List.replicate_succ',<- List.append_assoc,CJ,Hf q k]
structure RtD(d:Int×Int) (sg:Bool) (n D:Nat):Prop where
 e1:d.1=if sg then -(n:Int) else (n:Int)
 e2:d.2=(D:Int)
 nz:sg=true->n≠0
 le:n≤1000000000000
 d6:D≤6
 tz:D≠0->n%10≠0
def shw(sg:Bool)(n D:Nat):List UInt8:=(if sg then [45] else [])++dd (n / 10 ^ D)++(if D=0 then [] else 46::fx D (n%10 ^ D))
theorem ZS{w:List UInt8}(h:∀c∈w,dg c=true):(46:UInt8) ∉ w:=fun hm=>by have:=nO.1 (h 46 hm);have e:(46:UInt8).toNat=46:=rfl;omega
theorem Sk{w:List UInt8}(h:∀c∈w,dg c=true)(hne:w ≠ []):ko w=true:=FL.2 ⟨h,hne⟩
theorem agC(n:Nat):¬ (ko (dd n)=false∨(1<(dd n).length∧(dd n)[0]? = some 48)):=by
 rintro (h | ⟨h1,h2⟩)
 ·rw[Sk (zl n) (He n)]at h
  cases h
 ·exact aj9 h1 h2
theorem ZT{sg:Bool}{n:Nat}(h:n≤1000000000000):sQ sg (dd n) [] false=((if sg then -(n:Int) else (n:Int),0),true):=by
 unfold sQ;have e:dvn (dvn 0 (dd n)) (fF [])=(n:Int):=by rw[ZP];rfl
 rw[if_neg (agC n),if_neg (fun h=>by cases h.1),e,if_neg (by omega)];rfl
theorem XV{sg:Bool}{q D m k:Nat}(hm:m<10 ^ D)(hle:q*10 ^ D+m≤1000000000000)(hz:D≠0->m%10≠0)(hne:D+k≠0) :
  sQ sg (dd q) (fx D m++zC k 48) true=if D+k≤6 then ((if sg then -((q*10 ^ D+m:Nat):Int) else ((q*10 ^ D+m:Nat):Int),(D:Int)),true) else ((0,0),false):=by
 have hd:ko (fx D m++zC k 48)=true:=by
  refine Sk (fun c hc=>?_) ?_
  ·rcases List.mem_append.1 hc with hc | hc
   ·exact PZ D m c hc
   ·rw[List.eq_of_mem_replicate hc]
    rfl
  ·intro e
   have:=congrArg zE e;rw[zU,vY,zY]at this;exact hne this
 have hl:(fx D m++zC k 48).length=D+k:=by rw[zU,vY,zY]
 have hs:fF (fx D m++zC k 48)=fx D m:=by
  rw[Hf];by_cases h0:D=0
  ·subst h0;rfl
  ·exact ZR (by omega) (hz h0)
 have hv:dvn (dvn 0 (dd q)) (fx D m)=((q*10 ^ D+m:Nat):Int):=by
  rw[ZP,ZQ D m _ hm]
  push_cast
  rfl
 unfold sQ;rw[if_neg (agC q),hd,hl,hs,hv,vY];by_cases h6:D+k≤6
 ·rw[if_neg (by rintro⟨_,h | h⟩;cases h;omega),if_neg (by omega),if_pos h6]
 ·rw[if_pos ⟨rfl,.inr (by omega)⟩,if_neg h6]
theorem ZU{sg:Bool}{w t:List UInt8}(hw:∀c∈w,dg c=true)(hne:w ≠ []):jw ((if sg then [45] else [])++(w++t))=lI sg (w++t):=by
 unfold jw
 cases sg with
 | true=>rw[if_pos rfl];rfl
 | false =>
  rcases w with _ | ⟨c,w⟩
  ·exact absurd rfl hne
  ·have hc:=nO.1 (hw c List.mem_cons_self)
   rw[if_neg]
   ·rfl
   ·intro e
    have e:c=45:=Option.some.inj e;subst e;have e:(45:UInt8).toNat=45:=rfl;omega
theorem Sl(n D:Nat):n / 10 ^ D*10 ^ D+n%10 ^ D=n:=by rw[Nat.mul_comm];exact Nat.div_add_mod n (10 ^ D)
theorem akb{n D:Nat}(hD:D≠0)(h:n%10≠0):n%10 ^ D%10≠0:=by obtain⟨k,rfl⟩:∃k,D=k+1:=⟨D - 1,by omega⟩;rw[Nat.mod_mod_of_dvd _ ⟨10 ^ k,by rw[Nat.pow_succ,Nat.mul_comm]⟩];exact h
theorem aeX{sg:Bool}{n D:Nat}(hle:n≤1000000000000)(h6:D≤6)(hz:D≠0->n%10≠0):jw (shw sg n D)=((if sg then -(n:Int) else (n:Int),(D:Int)),true):=by
 unfold shw;rw[List.append_assoc,ZU (zl _) (He _)];by_cases h0:D=0
 ·subst h0
  rw[if_pos rfl,List.append_nil,Nat.pow_zero,Nat.div_one,Lg (ZS (zl n)),ZT hle];rfl
 ·rw[if_neg h0,G9 (ZS (zl _))]
  have h:=XV (sg:=sg) (q:=n / 10 ^ D) (D:=D) (m:=n%10 ^ D) (k:=0) (Nat.mod_lt _ (Nat.pow_pos (by omega))) (by rw[Sl];exact hle) (fun hD=>akb hD (hz hD)) (by omega);rw[Sl,if_pos (by omega),List.replicate_zero,List.append_nil]at h;exact h
end Go.Proofs.Lx
end
noncomputable section
namespace Go.Proofs.Lx
open Go Ev Sx Pl
set_option maxRecDepth 10000
def sS(n:Nat):Bool:=decide (97≤n) && decide (n≤122)
def FN(n:Nat):Bool:=sS n || isD n || n == 95
theorem lower_eq(c:UInt8):Cj (zD c.toNat,())=some (sS c.toNat,()):=tab (f:=Cj) (g:=sS) (by kernel_rfl) c
theorem Lj(c:UInt8):E7 (zD c.toNat,())=some (isD c.toNat,()):=tab (f:=E7) (g:=isD) (by kernel_rfl) c
abbrev iN:List UInt8:=[114,101,99,105,112,101]
abbrev oC:List UInt8:=[115,108,97,118,101]
abbrev kr:List UInt8:=[101,110,100]
def dz(s:List UInt8):Bool:=s != [] && decide (s.length≤20) && sS (s.headD 0).toNat && s.all (fun c=>FN c.toNat) && s != iN && s != oC && s != kr
theorem DT{α R:Type}{p:α->Bool}{r0:Option R}{fin:Unit->Option R}:∀xs:List α,goL (fun a c k=>if p c=true then k a else r0) fin xs ()=if xs.all p=true then fin () else r0
 | []=>rfl
 | x::q=>by show (if p x=true then goL _ fin q () else r0)=_;rw[DT q,List.all_cons];cases p x<;>simp
theorem nes_iff{a b:List UInt8}:nes a b=true↔a≠b:=by simp[nes]
theorem J8(a b:List UInt8):nes a b=(a != b):=by
 by_cases h:a=b
 ·subst h
  simp[nes]
 ·rw[nes_iff.2 h]
  simp[h]
theorem ahE{α:Type}{s:List α}(h:s ≠ [])(z:α):at? s 0=some (s.headD z):=by
 cases s with
 | nil=>exact absurd rfl h
 | cons a q=>rfl
theorem uW{s:List UInt8}:mZ (s,())=some (dz s,()):=by
 show U5 U6 s=_;unfold U5;have K1t:U6 s true=some (false,()):=rfl;by_cases h0:s=[]
 ·rw[if_pos (lZ.2 h0),K1t,h0]
  rfl
 ·rw[if_neg (fun e=>h0 (lZ.1 e))]
  by_cases h1:20<s.length
  ·rw[if_pos (fC.2 (by rw[ay];omega)),K1t]
   have:dz s=false:=by unfold dz;rw[decide_eq_false (show ¬ s.length≤20 by omega)];simp
   rw[this]
  ·rw[if_neg (fun e=>h1 (by have:=fC.1 e;rw[ay]at this;omega)),ahE h0 0,zB,lower_eq,zB]
   cases h2:sS (s.headD 0).toNat with
   | false =>
    rw[show (!(false,()).1)=true from rfl,K1t];have:dz s=false:=by unfold dz;rw[h2];simp
    rw[this]
   | true =>
    show OI s (zD s.length) 0=_;unfold OI;refine (l8 (xs:=s) (mk:=fun i (_:Unit)=>(s,zD s.length,(i:Int))) (body:=fun a c k=>if FN c.toNat=true then k a else some (false,())) (fin:=fun _=>OH s) ?_ ?_ s.length 0 () _ (by omega) (by omega)).trans ?_
    ·intro self i acc c hc
     have hi:=(List.getElem?_eq_some_iff.1 hc).1;show IZ (OG fun s t18 t19=>self (s,t18,t19)) OH _ s (zD s.length) (i:Int)=_;unfold IZ;have K3f:OG (fun s t18 t19=>self (s,t18,t19)) s (zD s.length) (i:Int) false=self (s,zD s.length,((i+1:Nat):Int)):=by show U3 _ s (zD s.length) (i:Int) false=_;unfold U3;rw[if_neg Bool.false_ne_true,iO (by omega)]
     rw[if_pos (by rw[bg,ay];omega),gK hc,zB,lower_eq,zB];unfold FN
     cases e1:sS c.toNat with
     | true=>rw[if_neg (by decide),K3f];rfl
     | false =>
      rw[if_pos (by rfl),zB,Lj,zB]
      cases e2:isD c.toNat with
      | true=>rw[if_neg (by decide),K3f];rfl
      | false =>
       rw[if_pos (by rfl),zB];by_cases e3:c.toNat=95
       ·have:nei (zD c.toNat) 95=false:=by rw[Bool.eq_false_iff];exact fun e=>dK.1 e (by rw[e3];rfl)
        rw[this,K3f,if_pos (by simp[e3])]
       ·have:nei (zD c.toNat) 95=true:=dK.2 (fun e=>e3 (by have e:(c.toNat:Int)=95:=e;omega))
        rw[this,if_neg (by simp[e3])];rfl
    ·intro self acc
     show IZ (OG fun s t18 t19=>self (s,t18,t19)) OH _ s (zD s.length) (s.length:Int)=_;unfold IZ;rw[if_neg (by rw[bg,ay];omega)]
    ·rw[List.drop_zero,DT]
     show (if (s.all fun c=>FN c.toNat)=true then U4 s else some (false,()))=_;unfold U4 dz;rw[h2,decide_eq_true (show s.length≤20 by omega),J8,J8,J8];have e0:(s != [])=true:=by simpa using h0
     rw[e0];cases (s.all fun c=>FN c.toNat)<;>cases (s != iN)<;>cases (s != oC)<;>rfl
end Go.Proofs.Lx
end
noncomputable section
namespace Go.Proofs.Lx
open Go Ev Sx Pl
set_option maxRecDepth 10000
def d9(a:Int)(s:List UInt8):TL×Int :=
 match h:s.dropWhile (fun c=>isB c.toNat) with
 | []=>([],0)
 | c::q=>match h2:jg a c q with
  | .inl e=>([],e)
  | .inr (t,r)=>(t::(d9 a r).1,(d9 a r).2)
termination_by s.length
decreasing_by
 all_goals
  have h1:=qN h2;have h3:=(List.dropWhile_suffix (l:=s) (fun c=>isB c.toNat)).length_le;rw[h]at h3;simp at h3;omega
theorem oW{a:Int}{s:List UInt8}(h:s.dropWhile (fun c=>isB c.toNat)=[]):d9 a s=([],0):=by
 rw[d9];split
 ·rfl
 ·rename_i h2;rw[h]at h2;cases h2
theorem xE{a:Int}{s:List UInt8}{c:UInt8}{q:List UInt8}{e:Int}(h:s.dropWhile (fun c=>isB c.toNat)=c::q)(h2:jg a c q = .inl e):d9 a s=([],e):=by
 rw[d9];split
 ·rename_i h3;rw[h]at h3;cases h3
 ·rename_i c' q' h3
  rw[h]at h3;cases h3;split
  ·rename_i e' h4;rw[h2]at h4;cases h4;rfl
  ·rename_i h4;rw[h2]at h4;cases h4
theorem oZ{a:Int}{s:List UInt8}{c:UInt8}{q:List UInt8}{t:Tk1}{r:List UInt8}(h:s.dropWhile (fun c=>isB c.toNat)=c::q)(h2:jg a c q = .inr (t,r)):d9 a s=(t::(d9 a r).1,(d9 a r).2):=by
 rw[d9];split
 ·rename_i h3;rw[h]at h3;cases h3
 ·rename_i c' q' h3
  rw[h]at h3;cases h3;split
  ·rename_i e' h4;rw[h2]at h4;cases h4
  ·rename_i t' r' h4;rw[h2]at h4;cases h4;rfl
theorem XW(a:Int):∀(k:Nat) (s:List UInt8) (l:TL),s.length≤k ->
  bR a s l=if (d9 a s).2≠0 then ([],(d9 a s).2) else (if l++(d9 a s).1=[] then [] else l++(d9 a s).1++[iT a],0):=by
 intro k;have base:∀(s:List UInt8) (l:TL),s.dropWhile (fun c=>isB c.toNat)=[]->bR a s l=if (d9 a s).2≠0 then ([],(d9 a s).2) else (if l++(d9 a s).1=[] then [] else l++(d9 a s).1++[iT a],0):=fun s l h=>by rw[xD h,oW h];simp[iT]
 induction k with
 | zero =>
  intro s l hs;have:s=[]:=List.eq_nil_of_length_eq_zero (by omega);subst this;exact base [] l rfl
 | succ k ih =>
  intro s l hs;have h3:=(List.dropWhile_suffix (l:=s) (fun c=>isB c.toNat)).length_le
  cases hd:s.dropWhile (fun c=>isB c.toNat) with
  | nil=>exact base s l hd
  | cons c q =>
   rw[hd]at h3;simp at h3
   cases ht:jg a c q with
   | inl e =>
    rw[CK hd ht,xE hd ht,if_pos (aeW ht)]
   | inr p =>
    obtain⟨t,r⟩:=p;have h4:=qN ht;rw[CO hd ht,oZ hd ht,ih r (l++[t]) (by omega)];simp only[List.append_assoc,List.singleton_append]
end Go.Proofs.Lx
end
noncomputable section
namespace Go.Proofs.Lx
open Go Ev Sx Pl
set_option maxRecDepth 10000
theorem aeY:∀(k:Nat) (s:List UInt8) (n:Int) (l:TL),s.length≤k->eO n s l=(if (eO n s []).2.1≠0 then [] else l++(eO n s []).1,(eO n s []).2):=by
 intro k
 induction k with
 | zero =>
  intro s n l hs;have:s=[]:=List.eq_nil_of_length_eq_zero (by omega);subst this;rw[eO,dif_pos rfl,eO,dif_pos rfl];simp
 | succ k ih =>
  intro s n l hs;by_cases hne:s=[]
  ·subst hne
   rw[eO,dif_pos rfl,eO,dif_pos rfl];simp
  ·have hlen:=rF hne
   rw[oV hne,oV (l:=[]) hne];by_cases he:(bR n (dO (dJ s)) []).2=0
   ·have e:¬ (bR n (dO (dJ s)) []).2≠0:=by simpa using he
    rw[if_neg e,if_neg e,ih (iE s) (n+1) (l++_) (by omega),ih (iE s) (n+1) ([]++_) (by omega)];by_cases h2:(eO (n+1) (iE s) []).2.1=0
    ·simp[h2]
    ·simp[h2]
   ·have e:(bR n (dO (dJ s)) []).2≠0:=he
    rw[if_pos e,if_pos e];simp[e]
theorem aeZ{s:List UInt8}{n:Int}(hne:s ≠ [])(he:(bR n (dO (dJ s)) []).2=0):eO n s []=(if (eO (n+1) (iE s) []).2.1≠0 then [] else (bR n (dO (dJ s)) []).1++(eO (n+1) (iE s) []).1,(eO (n+1) (iE s) []).2):=by rw[oV hne,if_neg (by simpa using he),aeY _ (iE s) (n+1) _ (Nat.le_refl _),List.nil_append]
end Go.Proofs.Lx
end
noncomputable section
namespace Go.Proofs.Lx
open Go Ev Sx Pl
set_option maxRecDepth 10000
def mg(s:List UInt8):Bool:=decide (s.length≤20) && match s with
 | []=>true
 | c::q=>w1 c.toNat && q.all (fun c=>wm c.toNat)
structure GoodT(a:Int) (t:Tk1):Prop where
 k:t.1≠4
 l:t.2.2.2=a
 w:t.1=1->mg t.2.1=true∧t.2.1 ≠ []
 n:t.1=2->jw t.2.1=(t.2.2.1,true)
theorem ZV{p:UInt8->Bool}:∀(q:List UInt8),(q.takeWhile p).all p=true
 | []=>rfl
 | c::q=>by
  rw[List.takeWhile_cons];split
  ·rename_i h
   rw[List.all_cons,h,ZV q];rfl
  ·rfl
theorem ZW{a:Int}{c:UInt8}{q:List UInt8}{t:Tk1}{r:List UInt8}(h:jg a c q = .inr (t,r)):GoodT a t:=by
 unfold jg at h;split at h
 ·rename_i h1
  split at h
  ·cases h
  ·rename_i h2
   cases h
   refine⟨(by decide:(1:Int)≠4),rfl,fun _=>⟨?_,List.cons_ne_nil _ _⟩,fun e=>absurd e (by decide:(1:Int)≠2)⟩;show (decide ((c::q.takeWhile (fun c=>wm c.toNat)).length≤20) && (w1 c.toNat && (q.takeWhile (fun c=>wm c.toNat)).all (fun c=>wm c.toNat)))=true;rw[h1,ZV,decide_eq_true (by omega)];rfl
 ·split at h
  ·split at h
   ·rename_i h2
    cases h
    exact⟨(by decide:(2:Int)≠4),rfl,fun e=>absurd e (by decide:(2:Int)≠1),fun _=>Prod.ext rfl h2⟩
   ·cases h
  ·split at h
   ·cases h
    exact⟨(by decide:(3:Int)≠4),rfl,fun e=>absurd e (by decide:(3:Int)≠1),fun e=>absurd e (by decide:(3:Int)≠2)⟩
   ·cases h
theorem Ll(a:Int):∀(k:Nat) (s:List UInt8),s.length≤k->∀t∈(d9 a s).1,GoodT a t
 | 0,s,h,t,ht=>by have:s=[]:=List.eq_nil_of_length_eq_zero (by omega);subst this;rw[oW rfl]at ht;cases ht
 | k+1,s,h,t,ht=>by
  match hd:s.dropWhile (fun c=>isB c.toNat) with
  | []=>rw[oW hd]at ht;cases ht
  | c::q =>
   have h3:=(List.dropWhile_suffix (l:=s) (fun c=>isB c.toNat)).length_le;rw[hd]at h3;simp at h3
   match h2:jg a c q with
   | .inl e=>rw[xE hd h2]at ht;cases ht
   | .inr (t',r) =>
    have h1:=qN h2;rw[oZ hd h2]at ht;rcases List.mem_cons.1 ht with ht | ht
    ·subst ht;exact ZW h2
    ·exact Ll a k r (by omega) t ht
structure RowsT(l:TL) (rs:List (TL×Int)):Prop where
 e:l=rs.flatMap fun p=>p.1++[iT p.2]
 g:∀p∈rs,p.1 ≠ []∧∀t∈p.1,GoodT p.2 t
theorem RowsT.app{l l':TL}{rs rs':List (TL×Int)}(h:RowsT l rs)(h':RowsT l' rs'):RowsT (l++l') (rs++rs') :=
 ⟨by rw[h.e,h'.e,List.flatMap_append],fun p hp=>by
  rcases List.mem_append.1 hp with hp | hp
  ·exact h.g p hp
  ·exact h'.g p hp⟩
theorem unit_eq{s:List UInt8}:Vd (s,())=some (mg s,()):=by
 show Va I5 s=_;unfold Va;by_cases h1:20<s.length
 ·rw[if_pos (fC.2 (by rw[ay];omega))]
  have:mg s=false:=by unfold mg;rw[decide_eq_false (show ¬ s.length≤20 by omega)];rfl
  rw[this]
 ·rw[if_neg (fun e=>h1 (by have:=fC.1 e;rw[ay]at this;omega))]
  have stp:∀(self:(List UInt8)×(Int)×(Int)->Option (As [.bool])) (i:Nat) (c:UInt8),s[i]? = some c ->
    I4 (OL fun s t10 t11=>self (s,t10,t11)) (fun s t10 t11=>self (s,t10,t11)) s (zD s.length) (i:Int) =
    if (if i=0 then w1 c.toNat else wm c.toNat)=true then self (s,zD s.length,((i+1:Nat):Int)) else some (false,()):=fun self i c hc=>by
   have hi:=(List.getElem?_eq_some_iff.1 hc).1;unfold I4;have K3:∀b,Vb (fun s t10 t11=>self (s,t10,t11)) s (zD s.length) (i:Int) b=if b=true then some (false,()) else self (s,zD s.length,((i+1:Nat):Int)):=fun b=>by show U9 _ s (zD s.length) (i:Int) b=_;unfold U9;rw[iO (by omega)]
   have K2:∀b,OL (fun s t10 t11=>self (s,t10,t11)) s (i:Int) (zD c.toNat) b (zD s.length) (i:Int)=if (b || (decide (i≠0) && (isD c.toNat || c.toNat == 95)))=true then self (s,zD s.length,((i+1:Nat):Int)) else some (false,()):=fun b=>by
    show U8 (Vb fun s t10 t11=>self (s,t10,t11)) _ s (i:Int) (zD c.toNat) b (zD s.length) (i:Int)=_;unfold U8;simp only[K3]
    cases b with
    | true=>rfl
    | false =>
     rw[if_pos (by rfl)];by_cases h0:i=0
     ·rw[if_pos (fQ.2 (by omega)),decide_eq_false (show ¬ i≠0 by omega)]
      rfl
     ·rw[if_neg (fun e=>h0 (by have:=fQ.1 e;omega)),decide_eq_true h0,Lj,zB]
      cases e2:isD c.toNat with
      | true=>rfl
      | false =>
       rw[if_pos (by rfl)];have g3:nei (zD c.toNat) 95=!(c.toNat == 95):=by apply Bool.eq_iff_iff.2;rw[dK];simp;omega
       rw[g3];cases (c.toNat == 95)<;>rfl
   rw[if_pos (by rw[bg,ay];omega),gK hc,zB,lower_eq,zB];simp only[K2];have g1:ge (zD c.toNat) 65=decide (65≤c.toNat):=by show decide ((65:Int)≤(c.toNat:Int))=_;apply Bool.eq_iff_iff.2;simp;omega
   have g2:le (zD c.toNat) 90=decide (c.toNat≤90):=by show decide ((c.toNat:Int)≤90)=_;apply Bool.eq_iff_iff.2;simp;omega
   have g3:eqi (zD c.toNat) 37=(c.toNat == 37):=by apply Bool.eq_iff_iff.2;rw[fQ];simp;omega
   rw[g1,g2,g3];have hw:w1 c.toNat=(sS c.toNat || (decide (65≤c.toNat) && decide (c.toNat≤90)) || c.toNat == 37):=by unfold w1 isL sS;rfl
   have hm:wm c.toNat=(w1 c.toNat || isD c.toNat || c.toNat == 95):=by unfold wm w1;cases isL c.toNat<;>cases isD c.toNat<;>cases (c.toNat == 95)<;>cases (c.toNat == 37)<;>rfl
   rw[hm,hw];by_cases h0:i=0
   ·rw[if_pos h0,decide_eq_false (show ¬ i≠0 by omega)]
    cases sS c.toNat<;>cases decide (65≤c.toNat)<;>cases decide (c.toNat≤90)<;>cases (c.toNat == 37)<;>rfl
   ·rw[if_neg h0,decide_eq_true h0]
    cases sS c.toNat<;>cases decide (65≤c.toNat)<;>cases decide (c.toNat≤90)<;>cases (c.toNat == 37)<;>cases isD c.toNat<;>cases (c.toNat == 95)<;>rfl
  have fin:∀(self:(List UInt8)×(Int)×(Int)->Option (As [.bool])),I4 (OL fun s t10 t11=>self (s,t10,t11)) (fun s t10 t11=>self (s,t10,t11)) s (zD s.length) (s.length:Int)=some (true,()):=fun self=>by unfold I4;rw[if_neg (by rw[bg,ay];omega)]
  show I5 s (zD s.length) 0=_;unfold I5
  match s,h1,stp,fin with
  | [],_,stp,fin=>rfl
  | c::q,h1,stp,fin =>
   rw[show (18446744073709551616:Nat)=18446744073709551615+1 from rfl,gB];refine (stp _ 0 c rfl).trans ?_;rw[if_pos rfl];have hu:mg (c::q)=(w1 c.toNat && q.all (fun c=>wm c.toNat)):=by unfold mg;rw[decide_eq_true (show (c::q).length≤20 by omega)];rfl
   rw[hu]
   cases hc:w1 c.toNat with
   | false=>rfl
   | true =>
    rw[if_pos rfl];refine (l8 (xs:=q) (mk:=fun i (_:Unit)=>(c::q,zD (c::q).length,((i+1:Nat):Int))) (body:=fun a x k=>if wm x.toNat=true then k a else some (false,())) (fin:=fun _=>some (true,())) ?_ ?_ q.length 0 () _ (by omega) (by rw[List.length_cons]at h1;omega)).trans ?_
    ·intro self i acc x hx
     have:=stp self (i+1) x (by simpa using hx);rw[if_neg (show ¬ i+1=0 by omega)]at this;exact this
    ·intro self acc
     exact fin self
    ·rw[List.drop_zero,DT]
     cases (q.all fun c=>wm c.toNat)<;>rfl
end Go.Proofs.Lx
end
noncomputable section
namespace Go.Proofs.Lx
open Go Ev Sx Pl
set_option maxRecDepth 100000
theorem as4{i d:Nat}(hi:i<4611686018427387904):quo .i64 (i:Int) (d:Int)=((i / d:Nat):Int):=by unfold quo;have e:((i:Int)).tdiv (d:Int)=((i / d:Nat):Int):=rfl;have h:=Nat.div_le_self i d;rw[e];generalize i / d=q at h ⊢;exact w64 (by omega) (by omega)
theorem as5{i d:Nat}:rem (i:Int) (d:Int)=((i%d:Nat):Int):=rfl
theorem vZ:∀{D:Nat},D≤6->vI ((D:Int),())=some (((10 ^ D:Nat):Int),())
 | 0,_=>by kernel_rfl
 | 1,_=>by kernel_rfl
 | 2,_=>by kernel_rfl
 | 3,_=>by kernel_rfl
 | 4,_=>by kernel_rfl
 | 5,_=>by kernel_rfl
 | 6,_=>by kernel_rfl
 | _+7,h=>by omega
theorem ZX:∀{k:Nat},k≤7->strings_Repeat ([48],(k:Int),())=some (zC k 48,())
 | 0,_=>by kernel_rfl
 | 1,_=>by kernel_rfl
 | 2,_=>by kernel_rfl
 | 3,_=>by kernel_rfl
 | 4,_=>by kernel_rfl
 | 5,_=>by kernel_rfl
 | 6,_=>by kernel_rfl
 | 7,_=>by kernel_rfl
 | _+8,h=>by omega
theorem Sm{n:Nat}(h:n≤1000000000000):PD ((n:Int),10,())=some (dd n,()):=by
 have e:Wx ((n:Int),10,())=some (dd n,()):=by show (if (-9223372036854775808≤(n:Int)∧(n:Int)≤9223372036854775807)∧(10:Int)=10 then some (itF (n:Int),()) else none)=_;rw[if_pos ⟨⟨by omega,by omega⟩,rfl⟩,itF,if_neg (by omega),zM,GY 19 n (by omega)]
 show zA (Wx ((n:Int),10,())) _=_;rw[e];rfl
theorem RtD.right{d:Int×Int}{sg:Bool}{n D:Nat}(h:RtD d sg n D):pP (d,())=some (true,()):=by
 obtain⟨x,y⟩:=d;have e1:x=if sg then -(n:Int) else (n:Int):=h.e1;have e2:y=(D:Int):=h.e2;have hle:=h.le;have h6:=h.d6;show OJ (x,y)=_;unfold OJ;dsimp only;have b1:-1000000000000≤x∧x≤1000000000000:=by rw[e1];split<;>omega
 rw[if_pos (dN.2 b1.1),if_pos (le_iff.2 b1.2),if_pos (by rw[le_iff];omega)];by_cases h0:D=0
 ·rw[if_pos (by rw[fQ];omega)]
 ·rw[if_neg (by rw[fQ];omega)]
  have hz:=h.tz h0
  have:nei (rem x 10) 0=true:=by
   rw[dK];unfold rem;rw[e1]
   cases sg with
   | true =>
    rw[if_pos rfl,Int.neg_tmod];show -((n%10:Nat):Int)≠0;omega
   | false =>
    show ((n%10:Nat):Int)≠0;omega
  rw[this]
theorem Sn{sign:List UInt8}{n D:Nat}{d:Int×Int}(he:d.2=(D:Int))(hle:n≤1000000000000)(h6:D≤6)(hs:sign.length≤1) :
  PE (n:Int) sign d=some (sign++dd (n / 10 ^ D)++(if D=0 then [] else 46::fx D (n%10 ^ D)),()):=by
 obtain⟨x,y⟩:=d;have he:y=(D:Int):=he;subst he;unfold PE aev;dsimp only;have ec:cvt .i64 (D:Int)=(D:Int):=lY (by omega) (by omega);have hp:0<10 ^ D:=Nat.pow_pos (by omega);have hq:n / 10 ^ D≤1000000000000:=Nat.le_trans (Nat.div_le_self _ _) hle;have hm:n%10 ^ D≤1000000000000:=Nat.le_trans (Nat.mod_le _ _) hle;have hlq:(dd (n / 10 ^ D)).length≤13:=zm (by omega) (by omega);have hml:n%10 ^ D<10 ^ D:=Nat.mod_lt _ hp;rw[ec,vZ h6,zB];dsimp only;rw[gW (by rw[dK];omega),as4 (by omega),Sm hq,zB];dsimp only;rw[jU (by omega)];by_cases h0:D=0
 ·rw[if_pos (by rw[fQ];omega),if_pos h0,List.append_nil]
 ·have hl:(dd (n%10 ^ D)).length≤D:=zm (by omega) hml
  rw[if_neg (by rw[fQ];omega),if_neg h0,gW (by rw[dK];omega),as5,Sm hm,zB];dsimp only;have es:sub .i64 (D:Int) (zD (dd (n%10 ^ D)).length)=((D - (dd (n%10 ^ D)).length:Nat):Int):=by rw[ay,iR (by omega) (by omega)];omega
  rw[jU (by simp;omega),es,ZX (by omega),zB];dsimp only;rw[jU (by simp;omega),jU (by simp;omega),<- P5 D _ (by omega) hml];simp
theorem Sq{d:Int×Int}{sg:Bool}{n D:Nat}(h:RtD d sg n D):JV (d,())=some (shw sg n D,()):=by
 show XH PE d=_;unfold XH shw;have hle:=h.le;rw[h.right,zB,if_neg (by decide)]
 cases sg with
 | true =>
  have e1:d.1=-(n:Int):=h.e1;have hn:=h.nz rfl;have en:neg .i64 d.1=(n:Int):=by rw[e1,GX (by omega) (by omega)];omega
  rw[if_pos (by rw[bg];omega),en,Sn h.e2 h.le h.d6 (by decide)];rfl
 | false =>
  have e1:d.1=(n:Int):=h.e1;rw[if_neg (by rw[bg];omega),e1,Sn h.e2 h.le h.d6 (by decide)];rfl
theorem akc{x:Int}{D:Nat}(hx:-1000000000000≤x∧x≤1000000000000)(h6:D≤6)(hz:D≠0->x.tmod 10≠0):∃sg n,RtD (x,(D:Int)) sg n D:=by
 rcases Int.lt_or_le x 0 with h | h
 ·obtain⟨n,rfl⟩:∃n:Nat,x=-(n:Int):=⟨x.natAbs,by omega⟩
  refine⟨true,n,rfl,rfl,fun _=>by omega,by omega,h6,fun h0 e=>hz h0 ?_⟩;rw[Int.neg_tmod];show -((n%10:Nat):Int)=0;omega
 ·obtain⟨n,rfl⟩:=zK h
  refine⟨false,n,rfl,rfl,fun e=>(by cases e),by omega,h6,fun h0 e=>hz h0 ?_⟩;show ((n%10:Nat):Int)=0;omega
@[reducible] def zJ0:Type:=(List UInt8)×(List UInt8)×(Int×Int)->Option (As [.str])
def ae0 :=(fun (self:zJ0) (s:(List UInt8)×(List UInt8)×(Int×Int))=>PI (J3) (fun sign s d=>self (sign,s,d)) s.1 s.2.1 s.2.2)
theorem akd  (self:zJ0)(sign:List UInt8)(s:List UInt8)(d:Int×Int):ae0 self (sign,s,d)=PI (J3) (fun sign s d=>self (sign,s,d)) sign s d:=rfl
theorem as6  (sign:List UInt8)(s:List UInt8)(d:Int×Int):ajS sign s d=aj (ae0) 18446744073709551616 (sign,s,d):=rfl
theorem ZY{n:Nat}(h:n≤1000000000000):ajg ((n:Int),())=some (dd n,()):=by show (if 0≤(n:Int)∧(n:Int)≤9223372036854775807 then some (dF 19 (n:Int).toNat,()) else none)=_;rw[if_pos ⟨by omega,by omega⟩,zM,GY 19 n (by omega)]
theorem P6:∀(D n:Nat),10 ^ D≤n->dd n=dd (n / 10 ^ D)++fx D (n%10 ^ D)
 | 0,n,_=>by simp[fx]
 | D+1,n,h=>by
  rw[Nat.pow_succ]at h;have hp:0<10 ^ D:=Nat.pow_pos (by omega);rw[vX (by omega),P6 D (n / 10) (by omega),fx,List.append_assoc];have e1:n / 10 / 10 ^ D=n / 10 ^ (D+1):=by rw[Nat.div_div_eq_div_mul,Nat.pow_succ,Nat.mul_comm]
  have e2:n%10 ^ (D+1) / 10=n / 10%10 ^ D:=by rw[Nat.pow_succ,Nat.mul_comm (10 ^ D) 10,Nat.mod_mul_right_div_self]
  have e3:n%10 ^ (D+1)%10=n%10:=by rw[Nat.pow_succ,Nat.mul_comm (10 ^ D) 10,Nat.mod_mul_right_mod]
  rw[e1,e2,e3]
theorem ake{D n:Nat}(hD:1≤D):zC (D+1 - (dd n).length) 48++dd n=dd (n / 10 ^ D)++fx D (n%10 ^ D):=by
 by_cases h:10 ^ D≤n
 ·have hs:=P6 D n h
  have hl:D+1≤(dd n).length:=by have hne:=He (n / 10 ^ D);have:0<(dd (n / 10 ^ D)).length:=List.length_pos_iff.2 hne;rw[hs,zU,vY];omega
  rw[show D+1 - (dd n).length=0 by omega];exact hs
 ·have hlt:n<10 ^ D:=by omega
  have hl:=zm hD hlt;rw[Nat.div_eq_of_lt hlt,Nat.mod_eq_of_lt hlt,<- P5 D n hD hlt,show D+1 - (dd n).length=(D - (dd n).length)+1 by omega,List.replicate_succ];have:dd 0=[48]:=by rw[lJ (by decide)];rfl
  rw[this];rfl
theorem ahF{sign p q:List UInt8}{d:Int×Int}{D:Nat}(hd:d.2=(D:Int))(hq:q.length=D)(h6:D≤6)(hp:p.length≤1000)(hs:sign.length≤1) :
  J3 sign (p++q) d=some (sign++p++46::q,()):=by
 unfold J3 ajR
 have e1:Sx.sub .i64 (zD (p++q).length) (cvt .i64 d.2)=(p.length:Int):=by
  have:zD (p++q).length=((p.length+D:Nat):Int):=by simp[hq]
  rw[this,hd,lY (by omega) (by omega),iR (by omega) (by omega)];omega
 rw[e1,lC,zB,Fu];have l1:(sign++p).length≤1001:=by simp;omega
 have l2:(sign++p++[46]).length≤1002:=by simp;omega
 rw[jU (by omega),jU (by omega),zB,jU (by omega)];simp
theorem Hg{sign:List UInt8}{d:Int×Int}{D:Nat}(hd:d.2=(D:Int))(h6:D≤6)(hs:sign.length≤1):∀(r N:Nat) (s:List UInt8),s.length+r≤1000->(r=0∨s.length+r=D+1)->D<s.length+r ->
  aj ae0 (N+r+1) (sign,s,d)=J3 sign (zC r 48++s) d
 | 0,N,s,hl,_,h=>by rw[gB,akd];unfold PI;have e:zD s.length=(s.length:Int):=rfl;rw[if_neg (by rw[le_iff,hd,lY (by omega) (by omega),e];omega)];rfl
 | r+1,N,s,hl,hr,h=>by rw[gB,akd];unfold PI;have e:zD s.length=(s.length:Int):=rfl;rw[if_pos (by rw[le_iff,hd,lY (by omega) (by omega),e];omega),jU (by omega)];have:=Hg hd h6 hs r N (48::s) (by simp;omega) (by right;simp;omega) (by simp;omega);refine Eq.trans this ?_;rw[List.replicate_succ'];simp
theorem ae1{d:Int×Int}{sg:Bool}{n D:Nat}(h:RtD d sg n D):aeE (d,())=some (shw sg n D,()):=by
 have hle:=h.le;have h6:=h.d6;have h2:=h.e2;have hlen:(dd n).length≤13:=zm (by decide) (by omega);show XL PK d=_
 have e0:XL PK d=PK (n:Int) (if sg then [45] else []) d:=by
  unfold XL;have e1:=h.e1
  cases sg with
  | true =>
   have:=h.nz rfl;have e:d.1=-(n:Int):=e1;rw[if_pos (by rw[bg];omega),GX (by omega) (by omega)];have:-d.1=(n:Int):=by omega
   rw[this];rfl
  | false =>
   have e:d.1=(n:Int):=e1;rw[if_neg (by rw[bg];omega),e];rfl
 rw[e0];have hs:(if sg then [45] else []:List UInt8).length≤1:=by cases sg<;>simp
 unfold shw;generalize (if sg then [45] else []:List UInt8)=sign at hs ⊢;unfold PK ajQ;rw[ZY hle,zB];dsimp only;by_cases h0:D=0
 ·subst h0
  rw[if_pos (by rw[fQ,h2];rfl),jU (by omega),if_pos rfl];simp
 ·rw[if_neg (by rw[fQ,h2];omega),as6,if_neg h0]
  have:=Hg (sign:=sign) h2 h6 hs (D+1 - (dd n).length) (18446744073709551615 - (D+1 - (dd n).length)) (dd n) (by omega) (by omega) (by omega);rw[show 18446744073709551615 - (D+1 - (dd n).length)+(D+1 - (dd n).length)+1=18446744073709551616 by omega]at this;refine Eq.trans this ?_;rw[ake (by omega)];have hl2:(dd (n / 10 ^ D)).length≤13:=zm (by decide) (by have:=Nat.div_le_self n (10 ^ D);omega);exact ahF h2 (vY _ _) h6 (by omega) hs
def rgt(d:Int×Int):Bool:=decide (-1000000000000≤d.1∧d.1≤1000000000000∧d.2≤6∧(d.2=0∨d.1.tmod 10≠0))
theorem right_eq(d:Int×Int):pP (d,())=some (rgt d,()):=by
 obtain⟨x,y⟩:=d;show OJ (x,y)=_;unfold OJ rgt;dsimp only;by_cases h1:-1000000000000≤x
 ·rw[if_pos (dN.2 h1)]
  by_cases h2:x≤1000000000000
  ·rw[if_pos (le_iff.2 h2)]
   by_cases h3:y≤6
   ·rw[if_pos (le_iff.2 h3)]
    by_cases h4:y=0
    ·rw[if_pos (fQ.2 h4),decide_eq_true ⟨h1,h2,h3,Or.inl h4⟩]
    ·rw[if_neg (fun e=>h4 (fQ.1 e))]
     by_cases h5:x.tmod 10=0
     ·have e:nei (rem x 10) 0=false:=by
       cases q:nei (rem x 10) 0 with
       | true=>exact absurd h5 (dK.1 q)
       | false=>rfl
      rw[e,decide_eq_false];rintro⟨_,_,_,h | h⟩
      ·exact h4 h
      ·exact h h5
     ·rw[dK.2 (show rem x 10≠0 from h5),decide_eq_true ⟨h1,h2,h3,Or.inr h5⟩]
   ·rw[if_neg (fun e=>h3 (le_iff.1 e)),decide_eq_false (fun h=>h3 h.2.2.1)]
  ·rw[if_neg (fun e=>h2 (le_iff.1 e)),decide_eq_false (fun h=>h2 h.2.1)]
 ·rw[if_neg (fun e=>h1 (dN.1 e)),decide_eq_false (fun h=>h1 h.1)]
theorem wo{d:Int×Int}(h:rgt d=true)(h0:0≤d.2):∃sg n D,RtD d sg n D:=by
 obtain⟨x,y⟩:=d;obtain⟨h1,h2,h3,h4⟩:=of_decide_eq_true h;have h0:0≤y:=h0;have h3:y≤6:=h3
 obtain⟨sg,n,hr⟩:=akc (D:=y.toNat) ⟨h1,h2⟩ (by omega) (fun e=>by
  rcases h4 with h4 | h4
  ·have h4:y=0:=h4
   omega
  ·exact h4)
 rw[Int.toNat_of_nonneg h0]at hr;exact⟨sg,n,_,hr⟩
end Go.Proofs.Lx
end
noncomputable section
namespace Go.Proofs.Lx
open Go Ev Sx Pl
set_option maxRecDepth 10000
abbrev bG:=List UInt8×(Int×Int)×List UInt8×Int
abbrev ak:=List UInt8×Int×List bG
abbrev eT:=List UInt8×List ak
def qO(s:bG):Bool:=dz s.1 && (rgt s.2.1 && mg s.2.2.1)
def kR(p:ak):Bool:=dz p.1 && (decide (p.2.2.length≤64) && p.2.2.all qO)
def eX(r:eT):Bool:=dz r.1 && (decide (r.2.length≤8) && r.2.all kR)
theorem qP{σ R α:Type}{F:(σ->Option R)->σ->Option R}{mk:Nat->σ}{xs:List α}{p:α->Bool}{r0 fin:Option R}
  (hs:∀self i x,xs[i]? = some x->F self (mk i)=if p x=true then self (mk (i+1)) else r0) (he:∀self,F self (mk xs.length)=fin) {n:Nat} (h:xs.length<n) :
  aj F n (mk 0)=if xs.all p=true then fin else r0:=by
 have:=l8 (xs:=xs) (mk:=fun i (_:Unit)=>mk i) (body:=fun a x k=>if p x=true then k a else r0) (fin:=fun _=>fin) (fun self i acc x hx=>hs self i x hx) (fun self _=>he self) xs.length 0 () n (by omega) h;rw[List.drop_zero,DT]at this;exact this
theorem gtn{n k:Nat}:gt (zD n) (k:Int)=!decide (n≤k):=by apply Bool.eq_iff_iff.2;rw[fC,ay];simp
theorem xG{r:eT}(h1:r.2.length≤1000000)(h2:∀p∈r.2,p.2.2.length≤1000000):AA (r,())=some (eX r,()):=by
 show Vh Vk r=_;unfold Vh;have K1:∀b,Vk b r=if b=true then some (false,()) else Ja r.2 (zD r.2.length) 0:=fun b=>rfl;rw[uW,zB];have e8:gt (zD r.2.length) 8=!decide (r.2.length≤8):=gtn (k:=8);simp only[K1,e8]
 have K2:Ja r.2 (zD r.2.length) 0=if r.2.all kR=true then some (true,()) else some (false,()):=by
  unfold Ja;refine qP (xs:=r.2) (mk:=fun i=>(r.2,zD r.2.length,(i:Int))) (p:=kR) ?_ ?_ (by omega)
  ·intro self i p hp
   have hi:=(List.getElem?_eq_some_iff.1 hp).1;have hps:=h2 p (zT hp);show I7 (Vj fun t18 t19 t20=>self (t18,t19,t20)) _ r.2 (zD r.2.length) (i:Int)=_;unfold I7;rw[if_pos (by rw[bg,ay];omega),gK hp,zB,uW,zB]
   have K4:I9 (fun t18 t19 t20=>self (t18,t19,t20)) r.2 (zD r.2.length) (i:Int) p.2.2 (zD p.2.2.length) 0=if p.2.2.all qO=true then self (r.2,zD r.2.length,((i+1:Nat):Int)) else some (false,()):=by
    unfold I9;refine qP (xs:=p.2.2) (mk:=fun k=>(r.2,zD r.2.length,(i:Int),p.2.2,zD p.2.2.length,(k:Int))) (p:=qO) ?_ ?_ (by omega)
    ·intro self4 k s hs
     have hk:=(List.getElem?_eq_some_iff.1 hs).1;show I8 (Vi (fun t18 t19 t20=>self (t18,t19,t20)) fun t18 t19 t20 t35 t36 t37=>self4 (t18,t19,t20,t35,t36,t37)) _ _ r.2 (zD r.2.length) (i:Int) p.2.2 (zD p.2.2.length) (k:Int)=_;unfold I8;have K5:∀b,Vi (fun t18 t19 t20=>self (t18,t19,t20)) (fun t18 t19 t20 t35 t36 t37=>self4 (t18,t19,t20,t35,t36,t37)) r.2 (zD r.2.length) (i:Int) p.2.2 (zD p.2.2.length) (k:Int) b=if b=true then some (false,()) else self4 (r.2,zD r.2.length,(i:Int),p.2.2,zD p.2.2.length,((k+1:Nat):Int)):=fun b=>by show Vg _ _ r.2 (zD r.2.length) (i:Int) p.2.2 (zD p.2.2.length) (k:Int) b=_;unfold Vg;rw[iO (by omega)]
     rw[if_pos (by rw[bg,ay];omega),gK hs,zB,uW,zB,right_eq,zB,unit_eq,zB];simp only[K5];unfold qO;cases dz s.1<;>cases rgt s.2.1<;>cases mg s.2.2.1<;>rfl
    ·intro self4
     show I8 _ _ _ r.2 (zD r.2.length) (i:Int) p.2.2 (zD p.2.2.length) (p.2.2.length:Int)=_;unfold I8;rw[if_neg (by rw[bg,ay];omega),iO (by omega)]
   have K3:∀b,Vj (fun t18 t19 t20=>self (t18,t19,t20)) r.2 (zD r.2.length) (i:Int) b p=if b=true then some (false,()) else if p.2.2.all qO=true then self (r.2,zD r.2.length,((i+1:Nat):Int)) else some (false,()):=fun b=>by show Ve (I9 fun t18 t19 t20=>self (t18,t19,t20)) _ r.2 (zD r.2.length) (i:Int) b p=_;unfold Ve;rw[K4]
   have e64:gt (zD p.2.2.length) 64=!decide (p.2.2.length≤64):=gtn (k:=64);simp only[K3,e64];unfold kR;cases dz p.1<;>cases decide (p.2.2.length≤64)<;>cases p.2.2.all qO<;>rfl
  ·intro self
   show I7 _ _ r.2 (zD r.2.length) (r.2.length:Int)=_;unfold I7;rw[if_neg (by rw[bg,ay];omega)]
 rw[K2];unfold eX;cases dz r.1<;>cases decide (r.2.length≤8)<;>cases r.2.all kR<;>rfl
end Go.Proofs.Lx
end
noncomputable section
namespace Go.Proofs.Lx
open Go Ev Sx Pl
set_option maxRecDepth 10000
def kS(ts:TL)(w:List UInt8):Bool:=match ts with
 | [x,y]=>eqi x.1 1 && (eqs x.2.1 w && (eqi y.1 1 && dz y.2.1))
 | _=>false
def xH(ts:TL):Bool:=match ts with
 | [x]=>eqi x.1 1 && eqs x.2.1 kr
 | _=>false
def setOf(a:Int)(ts:TL):Option bG:=match ts with
 | [x,y,z]=>if x.1=1∧dz x.2.1=true∧y.1=3∧z.1=2 then some (x.2.1,z.2.2.1,[],a) else none
 | [x,y,z,u]=>if x.1=1∧dz x.2.1=true∧y.1=3∧z.1=2∧u.1=1 then some (x.2.1,z.2.2.1,u.2.1,a) else none
 | _=>none
abbrev P7:=eT×(Int×Int)
def jc(e a:Int):P7:=(([],[]),(e,a))
def second(ts:TL):List UInt8:=match ts with
 | _::y::_=>y.2.1
 | _=>[]
def pB:List (TL×Int)->Bool->List UInt8->Bool->List ak->List UInt8->Int->List bG->P7
 | [],w,nm,oo,o,ol,ol2,o2=>if w=true then jc 140 0 else ((nm,if oo=true then o++[(ol,ol2,o2)] else o),(0,0))
 | (ts,a)::rs,true,nm,oo,o,ol,ol2,o2 =>
  if xH ts=true then pB rs false nm oo o ol ol2 o2 else match setOf a ts with
   | none=>jc 140 a
   | some s=>if o2.length=64 then jc 130 a else pB rs true nm oo o ol ol2 (o2++[s])
 | (ts,a)::rs,false,nm,oo,o,ol,ol2,o2 =>
  if kS ts oC=false then jc 140 a else if (if oo=true then o.length+1 else o.length)=8 then jc 130 a
  else pB rs true nm true (if oo=true then o++[(ol,ol2,o2)] else o) (second ts) a []
def pS:List (TL×Int)->P7
 | []=>jc 140 0
 | (ts,a)::rs=>if kS ts iN=false then jc 140 a else pB rs false (second ts) false [] [] 0 []
def Hl(s:List UInt8)(rs:List (TL×Int)):P7:=if (iU s).2.1=0 then pS rs else (([],[]),(iU s).2)
abbrev RPs:=Option (As [.pr .str (.sl gD),.pr (.int .i64) (.int .i64)])
def pR(p:P7):RPs:=some (p.1,p.2,())
theorem P8{α:Type}(x y:α)(q:List α):at? (x::y::q) 1=some y:=rfl
theorem akf{α:Type}(x y z:α)(q:List α):at? (x::y::z::q) 2=some z:=rfl
theorem as7{α:Type}(x y z u:α)(q:List α):at? (x::y::z::u::q) 3=some u:=rfl
theorem xI{β:Type}{k:Option β}:need true k=k:=rfl
theorem P9{ts:TL}{w:List UInt8}:PN (ts,w,())=some (kS ts w,()):=by
 show aeF ts w=_;unfold aeF
 match ts with
 | []=>rfl
 | [x]=>rfl
 | [x,y] =>
  rw[if_pos (show eqi (zD [x,y].length) 2=true from rfl),uV,P8];simp only[zB];unfold kS;dsimp only;cases eqi x.1 1
  ·rfl
  ·cases eqs x.2.1 w
   ·rfl
   ·cases hy:eqi y.1 1
    ·rfl
    ·rw[uW]
     rfl
 | x::y::z::q =>
  rw[if_neg (show ¬ eqi (zD (x::y::z::q).length) 2=true by rw[fQ,ay];simp only[List.length_cons];omega)];rfl
def Sr(j2:List UInt8->Int×Int->Int->List UInt8->Bool->List (List UInt8×Int×List eB)->List UInt8->Int->List eB->Option (As [.pr .str (.sl gD),.pr (.int .i64) (.int .i64)]))(self1:List iH->Int->List iH->Int->Int->List UInt8->Int×Int->Int->List UInt8->Bool->List (List UInt8×Int×List eB)->List UInt8->Int->List eB->Option (As [.pr .str (.sl gD),.pr (.int .i64) (.int .i64)]))(tokens:List iH)(from':Int)(t23:List iH)(t24 t25:Int)(t2:List UInt8)(t3:Int×Int)(p:Int)(p_2:List UInt8)(o_o:Bool)(o:List (List UInt8×Int×List eB))(o_l:List UInt8)(o_l_2:Int)(o_2:List eB)(y:iH)(y_1:List iH):Option (As [.pr .str (.sl gD),.pr (.int .i64) (.int .i64)]) :=
 if nei (zD (zE y_1)) 3=true then if nei (zD (zE y_1)) 4=true then some (([],[]),(140,y.snd.snd.snd),()) else zA (at? y_1 0) fun y_2=>if nei y_2.fst 1=true then some (([],[]),(140,y.snd.snd.snd),()) else zA (at? y_1 0) fun y_3=>zA (mZ (y_3.snd.fst,())) fun y_4=>if (!y_4.fst)=true then some (([],[]),(140,y.snd.snd.snd),()) else zA (at? y_1 1) fun y_5=>if nei y_5.fst 3=true then some (([],[]),(140,y.snd.snd.snd),()) else zA (at? y_1 2) fun y_6=>if nei y_6.fst 2=true then some (([],[]),(140,y.snd.snd.snd),()) else zA (at? y_1 0) fun y_7=>zA (at? y_1 2) fun y_8=>zA (at? y_1 0) fun y_9=>if eqi (zD (zE y_1)) 4=true then zA (at? y_1 3) fun y_10=>if nei y_10.fst 1=true then some (([],[]),(140,y.snd.snd.snd),()) else zA (at? y_1 3) fun y_11=>need o_o (need (eqi (Sx.sub .i64 (if o_o=true then zD (zE o+1) else zD (zE o)) 1) (zD (zE o))) (need o_o (need (eqi (Sx.sub .i64 (if o_o=true then zD (zE o+1) else zD (zE o)) 1) (zD (zE o))) (if eqi (zD (zE o_2)) 64=true then some (([],[]),(130,y.snd.snd.snd),()) else need o_o (need (eqi (Sx.sub .i64 (if o_o=true then zD (zE o+1) else zD (zE o)) 1) (zD (zE o))) (need (small (zE o_2+Nat.succ 0)) (need o_o (need (eqi (Sx.sub .i64 (if o_o=true then zD (zE o+1) else zD (zE o)) 1) (zD (zE o))) (self1 tokens (add .i64 t25 1) t23 t24 (add .i64 t25 1) t2 t3 p p_2 true o o_l o_l_2 (o_2++[(y_7.snd.fst,y_8.snd.snd.fst,y_11.snd.fst,y_9.snd.snd.snd)])))))))))) else need o_o (need (eqi (Sx.sub .i64 (if o_o=true then zD (zE o+1) else zD (zE o)) 1) (zD (zE o))) (need o_o (need (eqi (Sx.sub .i64 (if o_o=true then zD (zE o+1) else zD (zE o)) 1) (zD (zE o))) (if eqi (zD (zE o_2)) 64=true then some (([],[]),(130,y.snd.snd.snd),()) else need o_o (need (eqi (Sx.sub .i64 (if o_o=true then zD (zE o+1) else zD (zE o)) 1) (zD (zE o))) (need (small (zE o_2+Nat.succ 0)) (need o_o (need (eqi (Sx.sub .i64 (if o_o=true then zD (zE o+1) else zD (zE o)) 1) (zD (zE o))) (self1 tokens (add .i64 t25 1) t23 t24 (add .i64 t25 1) t2 t3 p p_2 true o o_l o_l_2 (o_2++[(y_7.snd.fst,y_8.snd.snd.fst,[],y_9.snd.snd.snd)])))))))))) else zA (at? y_1 0) fun y_2=>if nei y_2.fst 1=true then some (([],[]),(140,y.snd.snd.snd),()) else zA (at? y_1 0) fun y_3=>zA (mZ (y_3.snd.fst,())) fun y_4=>if (!y_4.fst)=true then some (([],[]),(140,y.snd.snd.snd),()) else zA (at? y_1 1) fun y_5=>if nei y_5.fst 3=true then some (([],[]),(140,y.snd.snd.snd),()) else zA (at? y_1 2) fun y_6=>if nei y_6.fst 2=true then some (([],[]),(140,y.snd.snd.snd),()) else zA (at? y_1 0) fun y_7=>zA (at? y_1 2) fun y_8=>zA (at? y_1 0) fun y_9=>if eqi (zD (zE y_1)) 4=true then zA (at? y_1 3) fun y_10=>if nei y_10.fst 1=true then some (([],[]),(140,y.snd.snd.snd),()) else zA (at? y_1 3) fun y_11=>need o_o (need (eqi (Sx.sub .i64 (if o_o=true then zD (zE o+1) else zD (zE o)) 1) (zD (zE o))) (need o_o (need (eqi (Sx.sub .i64 (if o_o=true then zD (zE o+1) else zD (zE o)) 1) (zD (zE o))) (if eqi (zD (zE o_2)) 64=true then some (([],[]),(130,y.snd.snd.snd),()) else need o_o (need (eqi (Sx.sub .i64 (if o_o=true then zD (zE o+1) else zD (zE o)) 1) (zD (zE o))) (need (small (zE o_2+Nat.succ 0)) (need o_o (need (eqi (Sx.sub .i64 (if o_o=true then zD (zE o+1) else zD (zE o)) 1) (zD (zE o))) (self1 tokens (add .i64 t25 1) t23 t24 (add .i64 t25 1) t2 t3 p p_2 true o o_l o_l_2 (o_2++[(y_7.snd.fst,y_8.snd.snd.fst,y_11.snd.fst,y_9.snd.snd.snd)])))))))))) else need o_o (need (eqi (Sx.sub .i64 (if o_o=true then zD (zE o+1) else zD (zE o)) 1) (zD (zE o))) (need o_o (need (eqi (Sx.sub .i64 (if o_o=true then zD (zE o+1) else zD (zE o)) 1) (zD (zE o))) (if eqi (zD (zE o_2)) 64=true then some (([],[]),(130,y.snd.snd.snd),()) else need o_o (need (eqi (Sx.sub .i64 (if o_o=true then zD (zE o+1) else zD (zE o)) 1) (zD (zE o))) (need (small (zE o_2+Nat.succ 0)) (need o_o (need (eqi (Sx.sub .i64 (if o_o=true then zD (zE o+1) else zD (zE o)) 1) (zD (zE o))) (self1 tokens (add .i64 t25 1) t23 t24 (add .i64 t25 1) t2 t3 p p_2 true o o_l o_l_2 (o_2++[(y_7.snd.fst,y_8.snd.snd.fst,[],y_9.snd.snd.snd)]))))))))))
theorem ahG{o:List ak}(h:o.length≤8):eqi (Sx.sub .i64 (if true=true then zD (o.length+1) else zD o.length) 1) (zD o.length)=true:=by rw[if_pos rfl,ay,iR (by omega) (by omega),fQ,ay];omega
theorem e64{l:List bG}:eqi (zD l.length) 64=true↔l.length=64:=by rw[fQ,ay];omega
def Ho(a:Int)(o2:List bG)(r:Option bG)(k:bG->RPs):RPs:=match r with
 | none=>pR (jc 140 a)
 | some s=>if o2.length=64 then pR (jc 130 a) else k s
section
variable {j2:List UInt8->Int×Int->Int->List UInt8->Bool->List ak->List UInt8->Int->List bG->RPs}
 {self1:TL->Int->TL->Int->Int->List UInt8->Int×Int->Int->List UInt8->Bool->List ak->List UInt8->Int->List bG->RPs}
 {tokens t23:TL} {d t24 t25:Int} {t2:List UInt8} {t3:Int×Int} {nm:List UInt8} {o:List ak} {ol:List UInt8} {ol2:Int} {o2:List bG} {a:Int}
theorem as8{ts:TL}(hg:∀t∈ts,GoodT a t)(ho:o.length≤8)(h2:o2.length≤64) :
  Sr j2 self1 tokens d t23 t24 t25 t2 t3 2 nm true o ol ol2 o2 (iT a) ts=Ho a o2 (setOf a ts) fun s=>self1 tokens (add .i64 t25 1) t23 t24 (add .i64 t25 1) t2 t3 2 nm true o ol ol2 (o2++[s]):=by
 have hs:=ahG ho;unfold Sr
 match ts with
 | []=>rfl
 | [x]=>rfl
 | [x,y]=>rfl
 | [x,y,z] =>
  have hl:x.2.2.2=a:=(hg x (by simp)).l;rw[if_neg (show ¬ nei (zD [x,y,z].length) 3=true from fun e=>dK.1 e rfl),uV,P8,akf];rw[zB];by_cases h1:x.1=1
  ·rw[if_neg (fun e=>dK.1 e h1),zB,uW,zB]
   by_cases h2:dz x.2.1=true
   ·rw[if_neg (by rw[h2];decide),zB]
    by_cases h3:y.1=3
    ·rw[if_neg (fun e=>dK.1 e h3),zB]
     by_cases h4:z.1=2
     ·rw[if_neg (fun e=>dK.1 e h4),zB,zB,zB,if_neg (show ¬ eqi (zD [x,y,z].length) 4=true from fun e=>absurd (fQ.1 e) (by rw[ay];simp)),xI,gW hs,xI,gW hs]
      have e:setOf a [x,y,z]=some (x.2.1,z.2.2.1,[],a):=if_pos ⟨h1,h2,h3,h4⟩;rw[e];unfold Ho;dsimp only;by_cases h6:o2.length=64
      ·rw[if_pos (e64.2 h6),if_pos h6]
       rfl
      ·rw[if_neg (fun e=>h6 (e64.1 e)),if_neg h6,xI,gW hs,jU (by omega),xI,gW hs,hl]
     ·rw[if_pos (dK.2 h4)]
      have e:setOf a [x,y,z]=none:=if_neg (fun e=>h4 e.2.2.2);rw[e];rfl
    ·rw[if_pos (dK.2 h3)]
     have e:setOf a [x,y,z]=none:=if_neg (fun e=>h3 e.2.2.1);rw[e];rfl
   ·rw[if_pos (by rw[Bool.eq_false_iff.2 h2];decide)]
    have e:setOf a [x,y,z]=none:=if_neg (fun e=>h2 e.2.1);rw[e];rfl
  ·rw[if_pos (dK.2 h1)]
   have e:setOf a [x,y,z]=none:=if_neg (fun e=>h1 e.1);rw[e];rfl
 | [x,y,z,u] =>
  have hl:x.2.2.2=a:=(hg x (by simp)).l;rw[if_pos (show nei (zD [x,y,z,u].length) 3=true from rfl),if_neg (show ¬ nei (zD [x,y,z,u].length) 4=true from fun e=>dK.1 e rfl),uV,P8,akf,as7];rw[zB];by_cases h1:x.1=1
  ·rw[if_neg (fun e=>dK.1 e h1),zB,uW,zB]
   by_cases h2:dz x.2.1=true
   ·rw[if_neg (by rw[h2];decide),zB]
    by_cases h3:y.1=3
    ·rw[if_neg (fun e=>dK.1 e h3),zB]
     by_cases h4:z.1=2
     ·rw[if_neg (fun e=>dK.1 e h4),zB,zB,zB,if_pos (show eqi (zD [x,y,z,u].length) 4=true from rfl),zB]
      by_cases h5:u.1=1
      ·rw[if_neg (fun e=>dK.1 e h5),zB,xI,gW hs,xI,gW hs]
       have e:setOf a [x,y,z,u]=some (x.2.1,z.2.2.1,u.2.1,a):=if_pos ⟨h1,h2,h3,h4,h5⟩;rw[e];unfold Ho;dsimp only;by_cases h6:o2.length=64
       ·rw[if_pos (e64.2 h6),if_pos h6]
        rfl
       ·rw[if_neg (fun e=>h6 (e64.1 e)),if_neg h6,xI,gW hs,jU (by omega),xI,gW hs,hl]
      ·rw[if_pos (dK.2 h5)]
       have e:setOf a [x,y,z,u]=none:=if_neg (fun e=>h5 e.2.2.2.2);rw[e];rfl
     ·rw[if_pos (dK.2 h4)]
      have e:setOf a [x,y,z,u]=none:=if_neg (fun e=>h4 e.2.2.2.1);rw[e];rfl
    ·rw[if_pos (dK.2 h3)]
     have e:setOf a [x,y,z,u]=none:=if_neg (fun e=>h3 e.2.2.1);rw[e];rfl
   ·rw[if_pos (by rw[Bool.eq_false_iff.2 h2];decide)]
    have e:setOf a [x,y,z,u]=none:=if_neg (fun e=>h2 e.2.1);rw[e];rfl
  ·rw[if_pos (dK.2 h1)]
   have e:setOf a [x,y,z,u]=none:=if_neg (fun e=>h1 e.1);rw[e];rfl
 | x::y::z::u::v::q =>
  have hl:zD (x::y::z::u::v::q).length=(q.length:Int)+5:=by rw[ay];simp only[List.length_cons];omega
  rw[if_pos (show nei (zD (x::y::z::u::v::q).length) 3=true by rw[dK,hl];omega),if_pos (show nei (zD (x::y::z::u::v::q).length) 4=true by rw[dK,hl];omega)];rfl
theorem step2{ts:TL}(hlt:lt t25 t24=true)(hy:at? t23 t25=some (iT a))(hc:cut tokens d t25=some ts)(hg:∀t∈ts,GoodT a t)(ho:o.length≤8)(h2:o2.length≤64) :
  zh j2 self1 tokens d t23 t24 t25 t2 t3 2 nm true o ol ol2 o2=if xH ts=true then self1 tokens (add .i64 t25 1) t23 t24 (add .i64 t25 1) t2 t3 1 nm true o ol ol2 o2
   else Ho a o2 (setOf a ts) fun s=>self1 tokens (add .i64 t25 1) t23 t24 (add .i64 t25 1) t2 t3 2 nm true o ol ol2 (o2++[s]):=by
 rw[<- as8 (j2:=j2) (d:=d) hg ho h2];unfold zh;rw[if_pos hlt,hy,zB,if_neg (show ¬ nei (iT a).1 4=true from fun e=>dK.1 e rfl),if_pos (show eqi 2 2=true from rfl),hc,zB]
 match ts with
 | []=>rfl
 | [x] =>
  rw[if_pos (show eqi (zD [x].length) 1=true from rfl),uV,zB];have he:xH [x]=(eqi x.1 1 && eqs x.2.1 kr):=rfl;rw[he];by_cases h1:eqi x.1 1=true
  ·rw[if_pos h1,zB]
   by_cases h3:eqs x.2.1 kr=true
   ·rw[if_pos h3,if_pos (show (eqi x.1 1 && eqs x.2.1 kr)=true by rw[h1,h3];rfl)]
   ·rw[if_neg h3,if_neg (show ¬ (eqi x.1 1 && eqs x.2.1 kr)=true by rw[h1,Bool.eq_false_iff.2 h3];decide)]
    rfl
  ·rw[if_neg h1,if_neg (show ¬ (eqi x.1 1 && eqs x.2.1 kr)=true by rw[Bool.eq_false_iff.2 h1];simp)]
   rfl
 | x::y::q =>
  rw[if_neg (show ¬ eqi (zD (x::y::q).length) 1=true by rw[fQ,ay];simp only[List.length_cons];omega)];rfl
end
end Go.Proofs.Lx
end
noncomputable section
namespace Go.Proofs.Lx
open Go Ev Sx Pl
set_option maxRecDepth 10000
def flat(rs:List (TL×Int)):TL:=rs.flatMap fun p=>p.1++[iT p.2]
theorem CP(p:TL×Int)(rs:List (TL×Int)):flat (p::rs)=p.1++iT p.2::flat rs:=by unfold flat;rw[List.flatMap_cons,List.append_assoc];rfl
def nG(oo:Bool)(o:List ak):Nat:=if oo=true then o.length+1 else o.length
theorem len_eq(oo:Bool)(o:List ak):(if oo=true then zD (o.length+1) else zD o.length)=((nG oo o:Nat):Int):=by unfold nG;cases oo<;>rfl
theorem J9(oo:Bool)(o:List ak)(c:ak):(if oo=true then o++[c] else o).length=nG oo o:=by
 unfold nG;cases oo
 ·rfl
 ·rw[if_pos rfl,if_pos rfl,zU]
  rfl
theorem Qa{ts:TL}{w:List UInt8}(h:kS ts w=true):∃x y,ts=[x,y]:=by
 match ts with
 | []=>cases h
 | [x]=>cases h
 | [x,y]=>exact⟨x,y,rfl⟩
 | x::y::z::q=>cases h
section
variable {j2:List UInt8->Int×Int->Int->List UInt8->Bool->List ak->List UInt8->Int->List bG->RPs}
 {self1:TL->Int->TL->Int->Int->List UInt8->Int×Int->Int->List UInt8->Bool->List ak->List UInt8->Int->List bG->RPs}
 {tokens t23:TL} {d t24 t25:Int} {t2:List UInt8} {t3:Int×Int} {nm:List UInt8} {oo:Bool} {o:List ak} {ol:List UInt8} {ol2:Int} {o2:List bG} {a:Int}
theorem step1{ts:TL}(hlt:lt t25 t24=true)(hy:at? t23 t25=some (iT a))(hc:cut tokens d t25=some ts)(hg:∀t∈ts,GoodT a t)(ho:nG oo o≤8) :
  zh j2 self1 tokens d t23 t24 t25 t2 t3 1 nm oo o ol ol2 o2=if kS ts oC=false then pR (jc 140 a) else if nG oo o=8 then pR (jc 130 a)
   else self1 tokens (add .i64 t25 1) t23 t24 (add .i64 t25 1) t2 t3 2 nm true (if oo=true then o++[(ol,ol2,o2)] else o) (second ts) a []:=by
 unfold zh;rw[if_pos hlt,hy,zB,if_neg (show ¬ nei (iT a).1 4=true from fun e=>dK.1 e rfl),if_neg (show ¬ eqi 1 2=true by decide),if_pos (show eqi 1 1=true from rfl),hc,zB,show ([115,108,97,118,101]:List UInt8)=oC from rfl,P9,zB]
 cases hh:kS ts oC with
 | false=>rfl
 | true =>
  rw[if_neg (show ¬ (!true)=true by decide),if_neg (show ¬ true=false by decide)];obtain⟨x,y,rfl⟩:=Qa hh;have hl:y.2.2.2=a:=(hg y (by simp)).l;rw[len_eq];by_cases h8:nG oo o=8
  ·rw[if_pos (show eqi ((nG oo o:Nat):Int) 8=true by rw[fQ];omega),if_pos h8]
   rfl
  ·rw[if_neg (show ¬ eqi ((nG oo o:Nat):Int) 8=true by rw[fQ];omega),if_neg h8,P8,zB,zB,J9,jU (by omega),hl]
   rfl
theorem step0{ts:TL}(hlt:lt t25 t24=true)(hy:at? t23 t25=some (iT a))(hc:cut tokens d t25=some ts) :
  zh j2 self1 tokens d t23 t24 t25 t2 t3 0 nm oo o ol ol2 o2=if kS ts iN=false then pR (jc 140 a)
   else self1 tokens (add .i64 t25 1) t23 t24 (add .i64 t25 1) t2 t3 1 (second ts) oo o ol ol2 o2:=by
 unfold zh;rw[if_pos hlt,hy,zB,if_neg (show ¬ nei (iT a).1 4=true from fun e=>dK.1 e rfl),if_neg (show ¬ eqi 0 2=true by decide),if_neg (show ¬ eqi 0 1=true by decide),if_pos (show eqi 0 0=true from rfl),hc,zB,show ([114,101,99,105,112,101]:List UInt8)=iN from rfl,P9,zB]
 cases hh:kS ts iN with
 | false=>rfl
 | true =>
  rw[if_neg (show ¬ (!true)=true by decide),if_neg (show ¬ true=false by decide)];obtain⟨x,y,rfl⟩:=Qa hh;rw[P8,zB];rfl
theorem al0(hlt:lt t25 t24=true){y:Tk1}(hy:at? t23 t25=some y)(h:y.1≠4){p:Int} :
  zh j2 self1 tokens d t23 t24 t25 t2 t3 p nm oo o ol ol2 o2=self1 tokens d t23 t24 (add .i64 t25 1) t2 t3 p nm oo o ol ol2 o2:=by
 unfold zh;rw[if_pos hlt,hy,zB,if_pos (dK.2 h)]
end
abbrev PSt:=TL×Int×TL×Int×Int×List UInt8×(Int×Int)×Int×List UInt8×Bool×List ak×List UInt8×Int×List bG
def rpF(self:PSt->RPs)(s:PSt):RPs:=zh (XT) (fun tokens from' t23 t24 t25 t2 t3 p p_2 o_o o o_l o_l_2 o_2=>self (tokens,from',t23,t24,t25,t2,t3,p,p_2,o_o,o,o_l,o_l_2,o_2)) s.1 s.2.1 s.2.2.1 s.2.2.2.1 s.2.2.2.2.1 s.2.2.2.2.2.1 s.2.2.2.2.2.2.1 s.2.2.2.2.2.2.2.1 s.2.2.2.2.2.2.2.2.1 s.2.2.2.2.2.2.2.2.2.1 s.2.2.2.2.2.2.2.2.2.2.1 s.2.2.2.2.2.2.2.2.2.2.2.1 s.2.2.2.2.2.2.2.2.2.2.2.2.1 s.2.2.2.2.2.2.2.2.2.2.2.2.2
theorem al1(tokens:TL)(from':Int)(t23:TL)(t24 t25:Int)(t2:List UInt8)(t3:Int×Int)(p:Int)(p_2:List UInt8)(o_o:Bool)(o:List ak)(o_l:List UInt8)(o_l_2:Int)(o_2:List bG) :
  PO tokens from' t23 t24 t25 t2 t3 p p_2 o_o o o_l o_l_2 o_2=aj rpF 18446744073709551616 (tokens,from',t23,t24,t25,t2,t3,p,p_2,o_o,o,o_l,o_l_2,o_2):=rfl
theorem Qb(self:PSt->RPs)(tokens:TL)(from':Int)(t23:TL)(t24 t25:Int)(t2:List UInt8)(t3:Int×Int)(p:Int)(p_2:List UInt8)(o_o:Bool)(o:List ak)(o_l:List UInt8)(o_l_2:Int)(o_2:List bG) :
  rpF self (tokens,from',t23,t24,t25,t2,t3,p,p_2,o_o,o,o_l,o_l_2,o_2)=zh (XT) (fun tokens from' t23 t24 t25 t2 t3 p p_2 o_o o o_l o_l_2 o_2=>self (tokens,from',t23,t24,t25,t2,t3,p,p_2,o_o,o,o_l,o_l_2,o_2)) tokens from' t23 t24 t25 t2 t3 p p_2 o_o o o_l o_l_2 o_2:=rfl
theorem skip{tokens:TL}{t2:List UInt8}{t3:Int×Int}{p:Int}{nm:List UInt8}{oo:Bool}{o:List ak}{ol:List UInt8}{ol2:Int}{o2:List bG}(hl:tokens.length<1000000){d:Int}{rest:TL}:∀(q:TL) (i n:Nat),tokens.drop i=q++rest->(∀t∈q,t.1≠4) ->
  aj rpF (q.length+n) (tokens,d,tokens,zD tokens.length,(i:Int),t2,t3,p,nm,oo,o,ol,ol2,o2)=aj rpF n (tokens,d,tokens,zD tokens.length,((i+q.length:Nat):Int),t2,t3,p,nm,oo,o,ol,ol2,o2)
 | [],i,n,_,_=>by rw[List.length_nil,Nat.zero_add,Nat.add_zero]
 | t::q,i,n,h,hk=>by have hd:=xA (r:=q++rest) h;rw[List.length_cons,show q.length+1+n=(q.length+n)+1 by omega,gB,Qb,al0 (by rw[bg,ay];omega) (za h) (hk t List.mem_cons_self),iO (by omega)];show aj rpF (q.length+n) (tokens,d,tokens,zD tokens.length,((i+1:Nat):Int),t2,t3,p,nm,oo,o,ol,ol2,o2)=_;rw[skip hl q (i+1) n hd.1 (fun x hx=>hk x (zO _ hx)),show i+1+q.length=i+(q.length+1) by omega]
theorem Qc{tokens:TL}{d:Nat}{ts:TL}{a:Int}{rest:TL}(h:tokens.drop d=ts++iT a::rest) :
  tokens.drop (d+ts.length)=iT a::rest∧tokens.drop (d+ts.length+1)=rest∧d+ts.length<tokens.length∧cut tokens (d:Int) ((d+ts.length:Nat):Int)=some ts:=by
 have h1:tokens.drop (d+ts.length)=iT a::rest:=by rw[<- List.drop_drop,h,List.drop_left]
 have h2:=xA h1;refine⟨h1,h2.1,h2.2.1,?_⟩;rw[JC (by omega) (by omega),List.drop_take,h,show d+ts.length - d=ts.length by omega,List.take_left]
theorem DU{tokens:TL}{t2:List UInt8}{t3:Int×Int}(hl:tokens.length<1000000):∀(rs:List (TL×Int)) (d:Nat) (w:Bool) (nm:List UInt8) (oo:Bool) (o:List ak) (ol:List UInt8) (ol2:Int) (o2:List bG) (n:Nat),
  d≤tokens.length->tokens.drop d=flat rs->(∀p∈rs,∀t∈p.1,GoodT p.2 t)->(w=true->oo=true)->nG oo o≤8->o2.length≤64->(flat rs).length<n ->
  aj rpF n (tokens,(d:Int),tokens,zD tokens.length,(d:Int),t2,t3,if w=true then 2 else 1,nm,oo,o,ol,ol2,o2)=pR (pB rs w nm oo o ol ol2 o2)
 | [],d,w,nm,oo,o,ol,ol2,o2,n,hdl,h,hg,hw,ho,h2,hn=>by
  have hd:tokens.length=d:=by have:=congrArg zE h;rw[List.length_drop]at this;have h0:(flat []).length=0:=rfl;omega
  match n,hn with
  | n+1,_ =>
   rw[gB,Qb];unfold zh;rw[if_neg (by rw[bg,ay];omega)];show XQ t2 t3 _ nm oo o ol ol2 o2=_;unfold XQ;cases w<;>rfl
 | (ts,a)::rs,d,w,nm,oo,o,ol,ol2,o2,n,hdl,h,hg,hw,ho,h2,hn=>by
  rw[CP]at h hn;have h:tokens.drop d=ts++iT a::flat rs:=h;have hr:=Qc h;have hgt:=hg (ts,a) List.mem_cons_self;have hgr:∀p∈rs,∀t∈p.1,GoodT p.2 t:=fun p hp=>hg p (zO _ hp);rw[zU,List.length_cons]at hn;have hn:ts.length+((flat rs).length+1)<n:=hn;obtain⟨m,rfl⟩:∃m,n=ts.length+(m+1):=⟨n - ts.length - 1,by omega⟩;rw[skip hl ts d (m+1) h (fun t ht=>(hgt t ht).k),gB,Qb];have hlt:lt ((d+ts.length:Nat):Int) (zD tokens.length)=true:=by rw[bg,ay];omega
  have hat:=za hr.1;have hm:(flat rs).length<m:=by omega
  cases w with
  | true =>
   have hoo:=hw rfl;subst hoo;have ho8:o.length≤8:=by unfold nG at ho;rw[if_pos rfl]at ho;omega
   rw[if_pos rfl,step2 hlt hat hr.2.2.2 hgt ho8 h2,iO (by omega)];unfold pB
   cases he:xH ts with
   | true =>
    rw[if_pos rfl,if_pos rfl];exact DU hl rs (d+ts.length+1) false nm true o ol ol2 o2 m (by omega) hr.2.1 hgr (fun e=>by cases e) ho h2 hm
   | false =>
    rw[if_neg (by decide),if_neg (by decide)]
    cases hs:setOf a ts with
    | none=>rfl
    | some s =>
     unfold Ho;dsimp only;by_cases h64:o2.length=64
     ·rw[if_pos h64,if_pos h64]
     ·rw[if_neg h64,if_neg h64]
      exact DU hl rs (d+ts.length+1) true nm true o ol ol2 (o2++[s]) m (by omega) hr.2.1 hgr (fun _=>rfl) ho (by rw[zU];simp;omega) hm
  | false =>
   rw[if_neg (show ¬ false=true by decide),step1 hlt hat hr.2.2.2 hgt ho,iO (by omega)];unfold pB;by_cases hh:kS ts oC=false
   ·rw[if_pos hh,if_pos hh]
   ·rw[if_neg hh,if_neg hh]
    by_cases h8:nG oo o=8
    ·rw[if_pos h8,if_pos (show (if oo=true then o.length+1 else o.length)=8 from h8)]
    ·rw[if_neg h8,if_neg (show ¬ (if oo=true then o.length+1 else o.length)=8 from h8)]
     exact DU hl rs (d+ts.length+1) true nm true (if oo=true then o++[(ol,ol2,o2)] else o) (second ts) a [] m (by omega) hr.2.1 hgr (fun _=>rfl) (by
      show (if true=true then (if oo=true then o++[(ol,ol2,o2)] else o).length+1 else _)≤8
      rw[if_pos rfl,J9];omega) (by simp) hm
theorem Qd:∀(k:Nat) (s:List UInt8) (n:Int) (l:TL),s.length≤k->(eO n s l).1.length≤l.length+2*s.length
 | 0,s,n,l,h=>by have:s=[]:=List.eq_nil_of_length_eq_zero (by omega);subst this;rw[eO,dif_pos rfl];simp
 | k+1,s,n,l,h=>by
  by_cases hs:s=[]
  ·rw[hs,eO,dif_pos rfl]
   simp
  ·rw[oV hs]
   have hlt:=rF hs;split
   ·simp
   ·have h1:=Qd k (iE s) (n+1) (l++(bR n (dO (dJ s)) []).1) (by omega)
    have h2:=Lh n (dO (dJ s)).length (dO (dJ s)) [] (Nat.le_refl _);have h3:=Li (dJ s);have h4:(dJ s).length+(iE s).length≤s.length:=by have e:=congrArg zE (List.takeWhile_append_dropWhile (p:=(·!= (10:UInt8))) (l:=s));rw[zU]at e;unfold dJ iE;rw[List.length_drop];omega
    rw[zU]at h1;rw[List.length_nil]at h2;omega
theorem ae2(s:List UInt8):(iU s).1.length≤20000:=by
 unfold iU;split
 ·simp
 ·have:=Qd s.length s 1 [] (Nat.le_refl _)
  rw[List.length_nil]at this;omega
theorem Ss(ts:TL)(a:Int)(rs:List (TL×Int)):pS ((ts,a)::rs)=if kS ts iN=false then jc 140 a else pB rs false (second ts) false [] [] 0 []:=rfl
theorem Lm:∀(k:Nat) (s:List UInt8) (n:Int) (l:TL),s.length≤k->(eO n s l).2.1=0->(eO n s l).2.2=0
 | 0,s,n,l,h,_=>by have:s=[]:=List.eq_nil_of_length_eq_zero (by omega);subst this;rw[eO,dif_pos rfl]
 | k+1,s,n,l,h,he=>by
  by_cases hs:s=[]
  ·rw[hs,eO,dif_pos rfl]
  ·have hlt:=rF hs
   rw[oV hs]at he ⊢;by_cases h1:(bR n (dO (dJ s)) []).2≠0
   ·rw[if_pos h1]at he
    exact absurd he h1
   ·rw[if_neg h1]at he ⊢
    exact Lm k _ _ _ (by omega) he
theorem ZZ{s:List UInt8}(h:(iU s).2.1=0):(iU s).2.2=0:=by
 unfold iU at h ⊢;split
 ·rfl
 ·rename_i h1
  rw[if_neg h1]at h;exact Lm _ s 1 [] (Nat.le_refl _) h
theorem Lr{s:List UInt8}{rs:List (TL×Int)}(h:(iU s).2.1=0->RowsT (iU s).1 rs):AX (s,())=pR (Hl s rs):=by
 show XR PO s=_;unfold XR Hl;rw[aj8,zB];dsimp only;by_cases h0:(iU s).2.1=0
 ·have hr:=h h0
  have h1:=ZZ h0;rw[if_neg (by rw[h0,h1];decide),if_pos h0];have hl:=ae2 s;rw[al1];have hf:(iU s).1=flat rs:=hr.e
  match rs,hf,hr with
  | [],hf,hr =>
   have hz:(iU s).1=[]:=hf;rw[hz,gB,Qb];rfl
  | (ts,a)::rs,hf,hr =>
   rw[CP]at hf;have hgt:=(hr.g (ts,a) List.mem_cons_self).2;have hd:(iU s).1.drop 0=ts++iT a::flat rs:=hf;have hrw:=Qc hd;have hlen:=congrArg zE hf;rw[zU,List.length_cons]at hlen;have hlen:(iU s).1.length=ts.length+((flat rs).length+1):=hlen;rw[show (18446744073709551616:Nat)=ts.length+((18446744073709551616 - ts.length - 1)+1) by omega];refine (skip (by omega) (d:=0) ts 0 _ hd (fun t ht=>(hgt t ht).k)).trans ?_;have hc:cut (iU s).1 0 ((0+ts.length:Nat):Int)=some ts:=hrw.2.2.2;rw[gB,Qb,step0 (by rw[bg,ay];omega) (za hrw.1) hc,iO (by omega)];rw[Ss];by_cases hh:kS ts iN=false
   ·rw[if_pos hh,if_pos hh]
   ·rw[if_neg hh,if_neg hh]
    exact DU (by omega) rs (0+ts.length+1) false (second ts) false [] [] 0 [] _ (by omega) hrw.2.1 (fun p hp=>(hr.g p (zO _ hp)).2) (fun e=>by cases e) (by decide) (by simp) (by omega)
 ·have e:eqi (iU s).2.1 0=false:=by
   cases q:eqi (iU s).2.1 0 with
   | true=>exact absurd (fQ.1 q) h0
   | false=>rfl
  rw[if_pos (by rw[e];rfl),if_neg h0];rfl
end Go.Proofs.Lx
end
noncomputable section
namespace Go.Proofs.Lx
open Go Ev Sx Pl
set_option maxRecDepth 10000
def Ka(s:bG):Bool:=decide (s.1.length≤40) && decide (s.2.2.1.length≤40)
def Kb(p:ak):Bool:=(decide (p.2.2.length≤70) && decide (p.1.length≤40)) && p.2.2.all Ka
def Qe(r:eT):Bool:=(decide (r.2.length≤12) && decide (r.1.length≤40)) && r.2.all Kb
theorem akg{r:eT}:JB (r,())=some (Qe r,()):=by
 show Wq Wu r=_;unfold Wq;have K1:∀b,Wu b r=if b=true then some (false,()) else JA r.2 (zD r.2.length) 0:=fun b=>rfl;have e12:gt (zD r.2.length) 12=!decide (r.2.length≤12):=gtn (k:=12);have e40:gt (zD r.1.length) 40=!decide (r.1.length≤40):=gtn (k:=40);simp only[K1,e12,e40];unfold Qe;by_cases h12:¬ r.2.length≤12
 ·rw[decide_eq_false h12];rfl
 have h12:r.2.length≤12:=by omega
 have K2:JA r.2 (zD r.2.length) 0=if r.2.all Kb=true then some (true,()) else some (false,()):=by
  unfold JA;refine qP (xs:=r.2) (mk:=fun i=>(r.2,zD r.2.length,(i:Int))) (p:=Kb) ?_ ?_ (by omega)
  ·intro self i p hp
   have hi:=(List.getElem?_eq_some_iff.1 hp).1;show Jw (Wt fun t18 t19 t20=>self (t18,t19,t20)) _ r.2 (zD r.2.length) (i:Int)=_;unfold Jw;rw[if_pos (by rw[bg,ay];omega),gK hp,zB];have e70:gt (zD p.2.2.length) 70=!decide (p.2.2.length≤70):=gtn (k:=70);have e40:gt (zD p.1.length) 40=!decide (p.1.length≤40):=gtn (k:=40);have K3:∀b,Wt (fun t18 t19 t20=>self (t18,t19,t20)) r.2 (zD r.2.length) (i:Int) b p=if b=true then some (false,()) else Jz (fun t18 t19 t20=>self (t18,t19,t20)) r.2 (zD r.2.length) (i:Int) p.2.2 (zD p.2.2.length) 0:=fun b=>rfl;simp only[K3,e70,e40];unfold Kb;by_cases h70:¬ p.2.2.length≤70
   ·rw[decide_eq_false h70];cases decide (p.1.length≤40)<;>rfl
   have h70:p.2.2.length≤70:=by omega
   have K4:Jz (fun t18 t19 t20=>self (t18,t19,t20)) r.2 (zD r.2.length) (i:Int) p.2.2 (zD p.2.2.length) 0=if p.2.2.all Ka=true then self (r.2,zD r.2.length,((i+1:Nat):Int)) else some (false,()):=by
    unfold Jz;refine qP (xs:=p.2.2) (mk:=fun k=>(r.2,zD r.2.length,(i:Int),p.2.2,zD p.2.2.length,(k:Int))) (p:=Ka) ?_ ?_ (by omega)
    ·intro self4 k s hs
     have hk:=(List.getElem?_eq_some_iff.1 hs).1;show Jy (Ws (fun t18 t19 t20=>self (t18,t19,t20)) fun t18 t19 t20 t35 t36 t37=>self4 (t18,t19,t20,t35,t36,t37)) _ _ r.2 (zD r.2.length) (i:Int) p.2.2 (zD p.2.2.length) (k:Int)=_;unfold Jy;have K5:∀b,Ws (fun t18 t19 t20=>self (t18,t19,t20)) (fun t18 t19 t20 t35 t36 t37=>self4 (t18,t19,t20,t35,t36,t37)) r.2 (zD r.2.length) (i:Int) p.2.2 (zD p.2.2.length) (k:Int) b=if b=true then some (false,()) else self4 (r.2,zD r.2.length,(i:Int),p.2.2,zD p.2.2.length,((k+1:Nat):Int)):=fun b=>by show Wp _ _ r.2 (zD r.2.length) (i:Int) p.2.2 (zD p.2.2.length) (k:Int) b=_;unfold Wp;rw[iO (by omega)]
     rw[if_pos (by rw[bg,ay];omega),gK hs,zB];have f1:gt (zD s.1.length) 40=!decide (s.1.length≤40):=gtn (k:=40);have f2:gt (zD s.2.2.1.length) 40=!decide (s.2.2.1.length≤40):=gtn (k:=40);simp only[K5,f1,f2];unfold Ka;cases decide (s.1.length≤40)<;>cases decide (s.2.2.1.length≤40)<;>rfl
    ·intro self4
     show Jy _ _ _ r.2 (zD r.2.length) (i:Int) p.2.2 (zD p.2.2.length) (p.2.2.length:Int)=_;unfold Jy;rw[if_neg (by rw[bg,ay];omega),iO (by omega)]
   rw[K4,decide_eq_true h70];cases decide (p.1.length≤40)<;>cases p.2.2.all Ka<;>rfl
  ·intro self
   show Jw _ _ r.2 (zD r.2.length) (r.2.length:Int)=_;unfold Jw;rw[if_neg (by rw[bg,ay];omega)]
 rw[K2,decide_eq_true h12];cases decide (r.1.length≤40)<;>cases r.2.all Kb<;>rfl
theorem ahH{r:eT}(h:Qe r=true):r.2.length≤12∧r.1.length≤40∧∀p∈r.2,p.2.2.length≤70∧p.1.length≤40∧∀s∈p.2.2,s.1.length≤40∧s.2.2.1.length≤40:=by unfold Qe at h;simp only[zL,decide_eq_true_eq,List.all_eq_true]at h;refine⟨h.1.1,h.1.2,fun p hp=>?_⟩;have h2:=h.2 p hp;unfold Kb at h2;simp only[zL,decide_eq_true_eq,List.all_eq_true]at h2;refine⟨h2.1.1,h2.1.2,fun s hs=>?_⟩;have h3:=h2.2 s hs;unfold Ka at h3;simp only[zL,decide_eq_true_eq]at h3;exact h3
theorem xJ{s:List UInt8}(h:dz s=true):s.length≤20:=by unfold dz at h;simp only[zL,decide_eq_true_eq]at h;exact h.1.1.1.1.1.2
theorem Z0{s:List UInt8}(h:mg s=true):s.length≤20:=by unfold mg at h;simp only[zL,decide_eq_true_eq]at h;exact h.1
def jD(d:Int×Int):List UInt8:=((JV (d,())).getD ([],())).1
theorem ahI{sg:Bool}{n D:Nat}(hn:n≤1000000000000)(h6:D≤6):(shw sg n D).length≤30:=by
 unfold shw;have hl:(dd (n / 10 ^ D)).length≤13:=zm (by decide) (by have:=Nat.div_le_self n (10 ^ D);omega);have h1:(if sg then [45] else []:List UInt8).length≤1:=by cases sg<;>simp
 have h2:(if D=0 then [] else 46::fx D (n%10 ^ D):List UInt8).length≤7:=by
  split
  ·simp
  ·rw[List.length_cons,vY];omega
 rw[zU,zU];omega
theorem Sv{d:Int×Int}{sg:Bool}{n D:Nat}(h:RtD d sg n D):jD d=shw sg n D:=by unfold jD;rw[Sq h];rfl
theorem shows{d:Int×Int}(h:rgt d=true)(h0:0≤d.2):JV (d,())=some (jD d,())∧aeE (d,())=some (jD d,())∧(jD d).length≤30:=by obtain⟨sg,n,D,hr⟩:=wo h h0;rw[Sv hr];exact⟨Sq hr,ae1 hr,ahI hr.le hr.d6⟩
def lnB(ws:List (List UInt8)):List UInt8:=bI [32] ws++[10]
def setW(s:bG):List (List UInt8):=if s.2.2.1=[] then [32::32::s.1,[61],jD s.2.1] else [32::32::s.1,[61],jD s.2.1,s.2.2.1]
def sU(s:bG):List UInt8:=lnB (setW s)
def partT(p:ak):List UInt8:=lnB [oC,p.1]++p.2.2.flatMap sU++lnB [kr]
def lK(r:eT):List UInt8:=lnB [iN,r.1]++r.2.flatMap partT
abbrev bi(l:List UInt8):List Int:=l.map fun b=>zD b.toNat
theorem Z4:∀l:List UInt8,Ev.u8s (bi l)=true
 | []=>rfl
 | c::q=>by have:=c.toNat_lt;show (decide (0≤zD c.toNat∧zD c.toNat≤255) && Ev.u8s (bi q))=true;rw[Z4 q,decide_eq_true (by rw[ay];omega)];rfl
theorem Z5:∀l:List UInt8,Sx.toS (bi l)=l
 | []=>rfl
 | c::q=>by
  have h:=Z5 q;show UInt8.ofNat (zD c.toNat).toNat::Sx.toS (bi q)=_;rw[h]
  congr 1
  simp
structure SetOk(s:bG):Prop where
 n:s.1.length≤20
 u:s.2.2.1.length≤20
 r:rgt s.2.1=true
 d:0≤s.2.1.2
theorem Qf{ws:List (List UInt8)}(h:ws.length≤10)(h2:(bI [32] ws).length≤1000):strings_Join (ws,[32],())=some (bI [32] ws,()):=by unfold strings_Join;rw[if_pos ⟨by show ws.length≤_;omega,by show (bI [32] ws).length≤_;omega⟩]
theorem Kc{R:Type}{k:List Int->Option R}{acc:List UInt8}{ws:List (List UInt8)}(h:ws.length≤10)(h2:(bI [32] ws).length≤1000)(ha:acc.length≤2000000) :
  (zA (strings_Join (ws,[32],())) fun y=>need (small (zE (bi acc)+zE y.fst)) (need (small (zE (bi acc++List.map (fun (b:UInt8)=>zD (UInt8.toNat b)) y.fst)+1)) (k (bi acc++List.map (fun (b:UInt8)=>zD (UInt8.toNat b)) y.fst++[10]))))=k (bi (acc++lnB ws)):=by
 rw[Qf h h2,zB];have l1:(bi acc).length=acc.length:=zV _;have l2:(bi acc++bi (bI [32] ws)).length=acc.length+(bI [32] ws).length:=by rw[zU,zV,zV]
 rw[jU (by show (bi acc).length+(bI [32] ws).length≤_;omega),jU (by show (bi acc++bi (bI [32] ws)).length+1≤_;omega)]
 congr 1
 unfold lnB bi;simp
theorem FO{s:bG}(h:SetOk s):(setW s).length≤10∧(bI [32] (setW s)).length≤100:=by
 have h1:=h.n;have h2:=h.u;have h3:=(shows h.r h.d).2.2;unfold setW;split
 ·refine⟨by simp,?_⟩
  simp only[bI,zU,List.length_cons,List.length_nil];omega
 ·refine⟨by simp,?_⟩
  simp only[bI,zU,List.length_cons,List.length_nil];omega
theorem uX{ws:List (List UInt8)}:(lnB ws).length=(bI [32] ws).length+1:=by unfold lnB;simp
theorem Qg{u1:List ak->Int->Int->List Int->Option (As [.str,.bool])}{r:List ak}{p:ak}{i:Nat}{acc:List UInt8}(hi:i<1000)(hl:p.2.2.length≤64)(hp:∀s∈p.2.2,SetOk s)(ha:acc.length≤1000000) :
  FI u1 r (zD r.length) (i:Int) p.2.2 (zD p.2.2.length) 0 (bi acc)=u1 r (zD r.length) ((i+1:Nat):Int) (bi (acc++p.2.2.flatMap sU++lnB [kr]))∧(acc++p.2.2.flatMap sU).length≤acc.length+p.2.2.length*101:=by
 have hlen:∀l:List bG,(∀s∈l,SetOk s)->(l.flatMap sU).length≤l.length*101:=by
  intro l
  induction l with
  | nil=>intro _;simp
  | cons s q ih =>
   intro h;have:=ih fun x hx=>h x (zO _ hx);have h1:=(FO (h s List.mem_cons_self)).2;rw[List.flatMap_cons,zU,List.length_cons];unfold sU at this ⊢;rw[uX];omega
 refine⟨?_,by rw[zU];have:=hlen _ hp;omega⟩;unfold FI
 refine (AY (σ:=(List ak)×(Int)×(Int)×(List bG)×(Int)×(Int)×(List Int)) (xs:=p.2.2) (mk:=fun k acc=>(r,zD r.length,(i:Int),p.2.2,zD p.2.2.length,(k:Int),bi acc)) (stp:=fun acc s=>acc++sU s)
  (fin:=fun acc=>u1 r (zD r.length) ((i+1:Nat):Int) (bi (acc++lnB [kr]))) (Inv:=fun k acc=>acc.length≤1000000+k*101) ?_ ?_ ?_ p.2.2.length 0 acc _ (by omega) (by omega) (by omega)).trans ?_
 ·intro self k acc s hs hI
  have hk:=(List.getElem?_eq_some_iff.1 hs).1;have hs':=hp s (zT hs);have hsw:=shows hs'.r hs'.d;have h1:=hs'.n;show JZ (PG u1 fun t21 t22 t23 t33 t34 t35 o=>self (t21,t22,t23,t33,t34,t35,o)) _ _ _ r (zD r.length) (i:Int) p.2.2 (zD p.2.2.length) (k:Int) (bi acc)=_;unfold JZ;have K4:∀ws:List (List UInt8),ws.length≤10->(bI [32] ws).length≤1000->PG u1 (fun t21 t22 t23 t33 t34 t35 o=>self (t21,t22,t23,t33,t34,t35,o)) r (zD r.length) (i:Int) p.2.2 (zD p.2.2.length) (k:Int) (bi acc) ws=self (r,zD r.length,(i:Int),p.2.2,zD p.2.2.length,((k+1:Nat):Int),bi (acc++lnB ws)):=by intro ws hw1 hw2;unfold PG aeC;rw[iO (by omega)];exact Kc (k:=fun o=>self (r,zD r.length,(i:Int),p.2.2,zD p.2.2.length,((k+1:Nat):Int),o)) hw1 hw2 (by omega)
  have hw:=FO hs';rw[if_pos (by rw[bg,ay];omega),gK hs,zB,jU (by omega),hsw.1,zB];unfold sU;by_cases hu:s.2.2.1=[]
  ·rw[if_neg (fun e=>nes_iff.1 e hu)]
   have e:setW s=[32::32::s.1,[61],jD s.2.1]:=if_pos hu;rw[e]at hw ⊢;exact K4 _ hw.1 (Nat.le_trans hw.2 (by decide))
  ·rw[if_pos (nes_iff.2 hu),jU (by decide)]
   have e:setW s=[32::32::s.1,[61],jD s.2.1,s.2.2.1]:=if_neg hu;rw[e]at hw ⊢;exact K4 _ hw.1 (Nat.le_trans hw.2 (by decide))
 ·intro k acc s hs hI
  have h1:=(FO (hp s (zT hs))).2;show (acc++sU s).length≤1000000+(k+1)*101;rw[zU];unfold sU;rw[uX];have:acc.length≤1000000+k*101:=hI;omega
 ·intro self acc hI
  have hI:acc.length≤1000000+p.2.2.length*101:=hI;show JZ _ (XJ u1) _ _ r (zD r.length) (i:Int) p.2.2 (zD p.2.2.length) (p.2.2.length:Int) (bi acc)=_;unfold JZ;rw[if_neg (by rw[bg,ay];omega)];unfold XJ aeD;rw[iO (by omega)];exact Kc (k:=fun o=>u1 r (zD r.length) ((i+1:Nat):Int) o) (ws:=[kr]) (by simp) (by decide) (by omega)
 ·rw[List.drop_zero,CG]
structure PartOk(p:ak):Prop where
 n:p.1.length≤20
 l:p.2.2.length≤64
 s:∀s∈p.2.2,SetOk s
theorem Z6{p:ak}(h:PartOk p):(partT p).length≤7000:=by have h1:=(Qg (u1:=fun _ _ _ _=>none) (r:=[]) (i:=0) (acc:=[]) (by omega) h.l h.s (by simp)).2;rw[List.nil_append]at h1;have h2:=h.n;have h3:=h.l;unfold partT;rw[zU,zU,uX,uX];simp only[bI,zU,List.length_cons,List.length_nil];rw[List.length_nil]at h1;omega
structure RecOk(r:eT):Prop where
 n:r.1.length≤20
 l:r.2.length≤8
 p:∀p∈r.2,PartOk p
theorem akh{r:eT}(h:eX r=true)(hd:∀p∈r.2,∀s∈p.2.2,0≤s.2.1.2):RecOk r:=by unfold eX at h;simp only[zL,decide_eq_true_eq,List.all_eq_true]at h;refine⟨xJ h.1,h.2.1,fun p hp=>?_⟩;have h2:=h.2.2 p hp;unfold kR at h2;simp only[zL,decide_eq_true_eq,List.all_eq_true]at h2;refine⟨xJ h2.1,h2.2.1,fun s hs=>?_⟩;have h3:=h2.2.2 s hs;unfold qO at h3;simp only[zL]at h3;exact⟨xJ h3.1,Z0 h3.2.2,h3.2.1,hd p hp s hs⟩
theorem Z7{r:eT}(h:eX r=true)(hd:∀p∈r.2,∀s∈p.2.2,0≤s.2.1.2)(hl:r.2.length≤1000000)(hl2:∀p∈r.2,p.2.2.length≤1000000):FK (r,())=some (lK r,true,()):=by
 have ho:=akh h hd;have hn:=ho.n;show J2 FJ r=_;unfold J2;rw[xG hl hl2,h,zB,if_neg (by decide)];have hj:(bI [32] [iN,r.1]).length≤100:=by simp only[bI,zU,List.length_cons,List.length_nil];omega
 rw[show ([114,101,99,105,112,101]:List UInt8)=iN from rfl,Qf (by simp) (by omega),zB];have l2:(bi (bI [32] [iN,r.1])).length=(bI [32] [iN,r.1]).length:=zV _;rw[jU (by show 0+(bI [32] [iN,r.1]).length≤_;omega),jU (by show (bi (bI [32] [iN,r.1])).length+1≤_;omega)];have e1:(bi (bI [32] [iN,r.1])++[10]:List Int)=bi (lnB [iN,r.1]):=by unfold lnB bi;simp
 show FJ r.2 (zD r.2.length) 0 (bi (bI [32] [iN,r.1])++[10])=_;rw[e1];unfold FJ;have hl8:=ho.l
 refine (AY (σ:=(List ak)×(Int)×(Int)×(List Int)) (xs:=r.2) (mk:=fun k acc=>(r.2,zD r.2.length,(k:Int),bi acc)) (stp:=fun acc p=>acc++partT p)
  (fin:=fun acc=>some (acc,true,())) (Inv:=fun k acc=>acc.length≤1000+k*7000) ?_ ?_ ?_ r.2.length 0 (lnB [iN,r.1]) _ (by omega) (by omega) (by rw[uX];omega)).trans ?_
 ·intro self k acc p hp hI
  have hI:acc.length≤1000+k*7000:=hI;have hk:=(List.getElem?_eq_some_iff.1 hp).1;have hpo:=ho.p p (zT hp);have hpn:=hpo.n;show JY (FI fun t21 t22 t23 o=>self (t21,t22,t23,o)) _ _ r.2 (zD r.2.length) (k:Int) (bi acc)=_;unfold JY;rw[if_pos (by rw[bg,ay];omega),gK hp,zB];have hj:(bI [32] [oC,p.1]).length≤100:=by simp only[bI,zU,List.length_cons,List.length_nil];omega
  refine (Kc (k:=fun o=>FI (fun t21 t22 t23 o=>self (t21,t22,t23,o)) r.2 (zD r.2.length) (k:Int) p.2.2 (zD p.2.2.length) 0 o) (ws:=[oC,p.1]) (by simp) (by omega) (by omega)).trans ?_;rw[(Qg (by omega) hpo.l hpo.s (by rw[zU,uX];omega)).1];unfold partT;rw[List.append_assoc,List.append_assoc,List.append_assoc]
 ·intro k acc p hp hI
  have hI:acc.length≤1000+k*7000:=hI;have:=Z6 (ho.p p (zT hp));show (acc++partT p).length≤1000+(k+1)*7000;rw[zU];omega
 ·intro self acc hI
  have hI:acc.length≤1000+r.2.length*7000:=hI;show JY _ XK _ r.2 (zD r.2.length) (r.2.length:Int) (bi acc)=_;unfold JY;rw[if_neg (by rw[bg,ay];omega)];unfold XK aeB;have l1:(bi acc).length=acc.length:=zV _;rw[gW (fQ.2 rfl),jU (by rw[l1];omega),gW (Z4 acc),Z5]
 ·rw[List.drop_zero,CG]
  rfl
theorem ae3{r:eT}(h:eX r=false)(hl:r.2.length≤1000000)(hl2:∀p∈r.2,p.2.2.length≤1000000):FK (r,())=some ([],false,()):=by show J2 FJ r=_;unfold J2;rw[xG hl hl2,h,zB,if_pos (by decide)]
end Go.Proofs.Lx
end
noncomputable section
namespace Go.Proofs.Lx
open Go Ev Sx Pl
set_option maxRecDepth 10000
abbrev U14:=List TL->Bool->Int->List UInt8->Int×Int->List UInt8->Bool->List ak->List UInt8->Int->List bG->RPs
section
variable {u1:U14}{all:List TL}{i:Nat}{t2:List UInt8}{t3:Int×Int}{nm:List UInt8}{oo:Bool}{o:List ak}{ol:List UInt8}{ol2:Int}{o2:List bG}{a:Int}
end
end Go.Proofs.Lx
end
noncomputable section
namespace Go.Proofs.Lx
open Go Ev Sx Pl
set_option maxRecDepth 10000
theorem XX{a:Int}{s s':List UInt8}(h:s.dropWhile (fun c=>isB c.toNat)=s'.dropWhile (fun c=>isB c.toNat)):d9 a s=d9 a s':=by
 match h2:s'.dropWhile (fun c=>isB c.toNat) with
 | []=>rw[oW h2,oW (h.trans h2)]
 | c::q =>
  match h3:jg a c q with
  | .inl e=>rw[xE h2 h3,xE (h.trans h2) h3]
  | .inr (t,r)=>rw[oZ h2 h3,oZ (h.trans h2) h3]
theorem zn{a:Int}(s:List UInt8):d9 a (32::s)=d9 a s:=XX (by rw[List.dropWhile_cons];rfl)
structure Wd(a:Int) (w:List UInt8) (t:Tk1):Prop where
 k:∃c q,w=c::q∧isB c.toNat=false∧∀rest:List UInt8,(rest=[]∨∃r,rest=32::r)->jg a c (q++rest) = .inr (t,rest)
 cl:w.all (fun c=>c != 10 && c != 35)=true
theorem o7{a:Int}{w:List UInt8}{t:Tk1}(h:Wd a w t)(r:List UInt8):d9 a (w++32::r)=(t::(d9 a r).1,(d9 a r).2):=by obtain⟨c,q,rfl,hb,ht⟩:=h.k;rw[List.cons_append,oZ (zk hb) (ht (32::r) (.inr ⟨r,rfl⟩)),zn]
theorem xK{a:Int}{w:List UInt8}{t:Tk1}(h:Wd a w t):d9 a w=([t],0):=by obtain⟨c,q,rfl,hb,ht⟩:=h.k;have h2:=ht [] (.inl rfl);rw[List.append_nil]at h2;rw[oZ (zk hb) h2,oW rfl]
theorem Qh{p:UInt8->Bool}:∀{q rest:List UInt8},q.all p=true->(rest=[]∨∃r,rest=32::r)->p 32=false->(q++rest).takeWhile p=q∧(q++rest).dropWhile p=rest
 | [],rest,_,hr,h32=>by
  rcases hr with rfl | ⟨r,rfl⟩
  ·exact⟨rfl,rfl⟩
  ·rw[List.nil_append,List.takeWhile_cons,List.dropWhile_cons,h32]
   exact⟨rfl,rfl⟩
 | c::q,rest,h,hr,h32=>by rw[List.all_cons,zL]at h;have ih:=Qh (p:=p) (q:=q) h.2 hr h32;rw[List.cons_append,List.takeWhile_cons,List.dropWhile_cons,h.1,if_pos rfl,if_pos rfl,ih.1,ih.2];exact⟨rfl,rfl⟩
theorem chars(c:UInt8):(wm c.toNat=true->(c != 10 && c != 35)=true)∧(nm c.toNat=true->(c != 10 && c != 35)=true)∧(w1 c.toNat=true->isB c.toNat=false∧wm c.toNat=true)∧(n1 c.toNat=true->isB c.toNat=false∧w1 c.toNat=false∧nm c.toNat=true)∧(FN c.toNat=true->wm c.toNat=true)∧(sS c.toNat=true->w1 c.toNat=true)∧(dg c=true->nm c.toNat=true∧n1 c.toNat=true):=by
 have h:∀n:Fin 256,(let c:=UInt8.ofNat n.val;(wm c.toNat=true->(c != 10 && c != 35)=true)∧(nm c.toNat=true->(c != 10 && c != 35)=true)∧(w1 c.toNat=true->isB c.toNat=false∧wm c.toNat=true)∧(n1 c.toNat=true->isB c.toNat=false∧w1 c.toNat=false∧nm c.toNat=true)∧(FN c.toNat=true->wm c.toNat=true)∧(sS c.toNat=true->w1 c.toNat=true)∧(dg c=true->nm c.toNat=true∧n1 c.toNat=true)):=by decide +kernel
 have:=h ⟨c.toNat,c.toNat_lt⟩;simpa using this
theorem Qi{p q:UInt8->Bool}{l:List UInt8}(h:l.all p=true)(hpq:∀c,p c=true->q c=true):l.all q=true:=by rw[List.all_eq_true]at h ⊢;exact fun c hc=>hpq c (h c hc)
theorem zo{a:Int}{c:UInt8}{q:List UInt8}(h1:w1 c.toNat=true)(h2:q.all (fun c=>wm c.toNat)=true)(h3:(c::q).length≤20):Wd a (c::q) (1,c::q,(0,0),a):=by
 refine⟨⟨c,q,rfl,((chars c).2.2.1 h1).1,fun rest hr=>?_⟩,?_⟩
 ·have h:=Qh (p:=fun c=>wm c.toNat) h2 hr (by rfl)
  unfold jg;rw[if_pos h1,h.1,h.2,if_neg (by omega)]
 ·rw[List.all_cons,Qi h2 fun c hc=>(chars c).1 hc,(chars c).1 ((chars c).2.2.1 h1).2]
  rfl
theorem ahJ{a:Int}{s:List UInt8}(h:mg s=true)(hne:s ≠ []):Wd a s (1,s,(0,0),a):=by
 match s,hne with
 | c::q,_ =>
  unfold mg at h;simp only[zL,decide_eq_true_eq]at h;exact zo h.2.1 h.2.2 h.1
theorem Ke{a:Int}{s:List UInt8}(h:dz s=true):Wd a s (1,s,(0,0),a):=by
 have hl:=xJ h;unfold dz at h;simp only[zL,decide_eq_true_eq]at h
 match s with
 | []=>exact absurd h.1.1.1.1.1.1 (by decide)
 | c::q =>
  have h2:=h.1.1.1.2;rw[List.all_cons,zL]at h2;exact zo ((chars c).2.2.2.2.2.1 h.1.1.1.1.2) (Qi h2.2 fun c hc=>(chars c).2.2.2.2.1 hc) hl
theorem aki(a:Int):Wd a iN (1,iN,(0,0),a):=zo (by rfl) (by rfl) (by decide)
theorem akj(a:Int):Wd a oC (1,oC,(0,0),a):=zo (by rfl) (by rfl) (by decide)
theorem akk(a:Int):Wd a kr (1,kr,(0,0),a):=zo (by rfl) (by rfl) (by decide)
theorem al2(a:Int):Wd a [61] (3,[61],(0,0),a):=⟨⟨61,[],rfl,by rfl,fun rest hr=>rfl⟩,by rfl⟩
theorem Z8{a:Int}{c:UInt8}{q:List UInt8}{d:Int×Int}(h1:n1 c.toNat=true)(h2:q.all (fun c=>nm c.toNat)=true)(h3:jw (c::q)=(d,true)):Wd a (c::q) (2,c::q,d,a):=by
 have hc:=(chars c).2.2.2.1 h1;refine⟨⟨c,q,rfl,hc.1,fun rest hr=>?_⟩,?_⟩
 ·have h:=Qh (p:=fun c=>nm c.toNat) h2 hr (by rfl)
  unfold jg;rw[if_neg (by rw[hc.2.1];decide),if_pos h1,h.1,h.2,h3,if_pos rfl]
 ·rw[List.all_cons,Qi h2 fun c hc=>(chars c).2.1 hc,(chars c).2.1 hc.2.2]
  rfl
theorem akl{a:Int}{d:Int×Int}(h:rgt d=true)(h0:0≤d.2):Wd a (jD d) (2,jD d,d,a):=by
 obtain⟨sg,n,D,hr⟩:=wo h h0;rw[Sv hr];have hp:=aeX (sg:=sg) hr.le hr.d6 hr.tz;have hd:((if sg then -(n:Int) else (n:Int),(D:Int)):Int×Int)=d:=Prod.ext hr.e1.symm hr.e2.symm;rw[hd]at hp;have hw:∀{l:List UInt8},(∀c∈l,dg c=true)->l.all (fun c=>nm c.toNat)=true:=fun hl=>List.all_eq_true.2 fun c hc=>((chars c).2.2.2.2.2.2 (hl c hc)).1
 have htail:(if D=0 then [] else 46::fx D (n%10 ^ D):List UInt8).all (fun c=>nm c.toNat)=true:=by
  split
  ·rfl
  ·rw[List.all_cons,hw (PZ _ _)]
   rfl
 unfold shw at hp ⊢
 cases sg with
 | true =>
  refine Z8 (c:=45) (by rfl) ?_ hp;show (dd (n / 10 ^ D)++_).all _=true;rw[List.all_append,hw (zl _),htail];rfl
 | false =>
  match hdd:dd (n / 10 ^ D),He (n / 10 ^ D),zl (n / 10 ^ D) with
  | c::q,_,hdig =>
   rw[hdd]at hp;refine Z8 (c:=c) ((chars c).2.2.2.2.2.2 (hdig c List.mem_cons_self)).2 ?_ hp;show (q++_).all _=true;rw[List.all_append,hw (fun x hx=>hdig x (zO _ hx)),htail];rfl
theorem Rq{l rest:List UInt8}(h:l.all (fun c=>c != 10 && c != 35)=true):dJ (l++10::rest)=l∧iE (l++10::rest)=rest∧dO l=l:=by
 induction l with
 | nil=>exact⟨rfl,rfl,rfl⟩
 | cons c q ih =>
  rw[List.all_cons,zL]at h;obtain⟨i1,i2,i3⟩:=ih h.2;have h1:=h.1;rw[zL]at h1;refine⟨?_,?_,?_⟩
  ·unfold dJ at i1 ⊢
   rw[List.cons_append,List.takeWhile_cons,if_pos h1.1,i1]
  ·unfold iE at i2 ⊢
   rw[List.cons_append,List.dropWhile_cons,if_pos h1.1,i2]
  ·unfold dO at i3 ⊢
   rw[List.takeWhile_cons,if_pos h1.2,i3]
structure Says(n:Int) (s:List UInt8) (rs:List (TL×Int)):Prop where
 e:eO n s []=(flat rs,(0,0))
 g:∀p∈rs,p.1 ≠ []∧∀t∈p.1,GoodT p.2 t
theorem ae4(n:Int):Says n [] []:=⟨by rw[eO,dif_pos rfl];rfl,fun p hp=>by cases hp⟩
theorem xL{n:Int}{l rest:List UInt8}{ts:TL}{rs:List (TL×Int)}(hc:l.all (fun c=>c != 10 && c != 35)=true)(ht:d9 n l=(ts,0))(hne:ts ≠ [])(h:Says (n+1) rest rs):Says n (l++10::rest) ((ts,n)::rs):=by
 have hf:=Rq (rest:=rest) hc;have hl:bR n (dO (dJ (l++10::rest))) []=(ts++[iT n],0):=by rw[hf.1,hf.2.2,XW n l.length l [] (Nat.le_refl _),ht];dsimp only;rw[if_neg (by decide),List.nil_append,if_neg hne]
 refine⟨?_,fun p hp=>?_⟩
 ·rw[aeZ (by simp) (by rw[hl]),hl,hf.2.1,h.e]
  dsimp only;rw[if_neg (by decide),CP];simp
 ·rcases List.mem_cons.1 hp with rfl | hp
  ·refine⟨hne,?_⟩
   have:=Ll n l.length l (Nat.le_refl _);rw[ht]at this;exact this
  ·exact h.g p hp
abbrev wt(a:Int)(w:List UInt8):Tk1:=(1,w,(0,0),a)
def setRow(a:Int)(s:bG):TL:=if s.2.2.1=[] then [wt a s.1,(3,[61],(0,0),a),(2,jD s.2.1,s.2.1,a)] else [wt a s.1,(3,[61],(0,0),a),(2,jD s.2.1,s.2.1,a),wt a s.2.2.1]
def SB(s:bG):Prop:=qO s=true∧0≤s.2.1.2
theorem SB.n{s:bG}(h:SB s):dz s.1=true:=by have:=h.1;unfold qO at this;simp only[zL]at this;exact this.1
theorem SB.r{s:bG}(h:SB s):rgt s.2.1=true:=by have:=h.1;unfold qO at this;simp only[zL]at this;exact this.2.1
theorem SB.u{s:bG}(h:SB s):mg s.2.2.1=true:=by have:=h.1;unfold qO at this;simp only[zL]at this;exact this.2.2
theorem ae5{n:Int}{s:bG}(h:SB s){rest:List UInt8}{rs:List (TL×Int)}(hr:Says (n+1) rest rs):Says n (sU s++rest) ((setRow n s,n)::rs):=by
 have w1:=Ke (a:=n) h.n;have w2:=al2 n;have w3:=akl (a:=n) h.r h.2;unfold sU setW setRow lnB;by_cases hu:s.2.2.1=[]
 ·rw[if_pos hu,if_pos hu,List.append_assoc]
  refine xL ?_ ?_ (by simp) hr
  ·have:(bI [32] [32::32::s.1,[61],jD s.2.1])=[32,32]++(s.1++([32]++([61]++([32]++jD s.2.1)))):=by simp[bI]
   rw[this];simp only[List.all_append,w1.cl,w2.cl,w3.cl];rfl
  ·have:(bI [32] [32::32::s.1,[61],jD s.2.1])=32::32::(s.1++32::([61]++32::jD s.2.1)):=by simp[bI]
   rw[this,zn,zn,o7 w1,o7 w2,xK w3]
 ·have w4:=ahJ (a:=n) h.u hu
  rw[if_neg hu,if_neg hu,List.append_assoc];refine xL ?_ ?_ (by simp) hr
  ·have:(bI [32] [32::32::s.1,[61],jD s.2.1,s.2.2.1])=[32,32]++(s.1++([32]++([61]++([32]++(jD s.2.1++([32]++s.2.2.1)))))):=by simp[bI]
   rw[this];simp only[List.all_append,w1.cl,w2.cl,w3.cl,w4.cl];rfl
  ·have:(bI [32] [32::32::s.1,[61],jD s.2.1,s.2.2.1])=32::32::(s.1++32::([61]++32::(jD s.2.1++32::s.2.2.1))):=by simp[bI]
   rw[this,zn,zn,o7 w1,o7 w2,o7 w3,xK w4]
theorem Qj{n:Int}{w x:List UInt8}(hw:Wd n w (wt n w))(hx:Wd n x (wt n x)){rest:List UInt8}{rs:List (TL×Int)}(hr:Says (n+1) rest rs):Says n (lnB [w,x]++rest) (([wt n w,wt n x],n)::rs):=by
 unfold lnB;rw[List.append_assoc];have e:bI [32] [w,x]=w++32::x:=by simp[bI]
 refine xL ?_ ?_ (by simp) hr
 ·have e2:bI [32] [w,x]=w++([32]++x):=by simp[bI]
  rw[e2];simp only[List.all_append,hw.cl,hx.cl];rfl
 ·rw[e,o7 hw,xK hx]
theorem ae6{n:Int}{rest:List UInt8}{rs:List (TL×Int)}(hr:Says (n+1) rest rs):Says n (lnB [kr]++rest) (([wt n kr],n)::rs):=by unfold lnB;rw[List.append_assoc];exact xL (by rfl) (xK (akk n)) (by simp) hr
def setRows:Int->List bG->List (TL×Int)
 | _,[]=>[]
 | n,s::q=>(setRow n s,n)::setRows (n+1) q
theorem Ls{rest:List UInt8}{rs:List (TL×Int)}:∀(l:List bG) (n:Int),(∀s∈l,SB s)->Says (n+l.length) rest rs->Says n (l.flatMap sU++rest) (setRows n l++rs)
 | [],n,_,h=>by
  have e:n+((([]:List bG).length:Nat):Int)=n:=by simp
  rw[e]at h;exact h
 | s::q,n,hs,h=>by
  rw[List.flatMap_cons,List.append_assoc];refine ae5 (hs s List.mem_cons_self) (Ls q (n+1) (fun x hx=>hs x (zO _ hx)) ?_);have e:n+(((s::q).length:Nat):Int)=n+1+(q.length:Int):=by rw[List.length_cons];omega
  rw[e]at h;exact h
structure PB(p:ak):Prop where
 n:dz p.1=true
 l:p.2.2.length≤64
 s:∀s∈p.2.2,SB s
def iA:Int->List ak->List (TL×Int)
 | _,[]=>[]
 | n,p::q=>([wt n oC,wt n p.1],n)::(setRows (n+1) p.2.2++([wt (n+1+p.2.2.length) kr],n+1+p.2.2.length)::iA (n+1+p.2.2.length+1) q)
theorem Hq:∀(l:List ak) (n:Int),(∀p∈l,PB p)->Says n (l.flatMap partT) (iA n l)
 | [],n,_=>ae4 n
 | p::q,n,hp=>by have h:=hp p List.mem_cons_self;rw[List.flatMap_cons];unfold partT iA;rw[List.append_assoc,List.append_assoc];exact Qj (akj n) (Ke h.n) (Ls p.2.2 (n+1) h.s (ae6 (Hq q _ fun x hx=>hp x (zO _ hx))))
structure RB(r:eT):Prop where
 n:dz r.1=true
 l:r.2.length≤8
 p:∀p∈r.2,PB p
theorem XY{r:eT}(h:RB r)(n:Int):Says n (lK r) (([wt n iN,wt n r.1],n)::iA (n+1) r.2) :=
 Qj (aki n) (Ke h.n) (Hq r.2 (n+1) h.p)
end Go.Proofs.Lx
end
noncomputable section
namespace Pl
open Go Ev Sx
theorem Sw{σ R:Type}{F:(σ->Option R)->σ->Option R}{mk:Nat->σ}{N:Nat}{r:Option R}(hs:∀self i,i<N->F self (mk i)=self (mk (i+1)))(he:∀self,F self (mk N)=r) :
  ∀(k i n:Nat),i+k=N->k<n->aj F n (mk i)=r
 | _,_,0,_,h=>by omega
 | 0,i,n+1,h,_=>by
  have:i=N:=by omega
  subst this;rw[gB,he]
 | k+1,i,n+1,h,hn=>by rw[gB,hs _ _ (by omega),Sw hs he k (i+1) n (by omega) (by omega)]
def goI{α β R:Type}(body:Nat->β->α->(β->Option R)->Option R)(fin:β->Option R):Nat->List α->β->Option R
 | _,[],acc=>fin acc
 | i,x::r,acc=>body i acc x (goI body fin (i+1) r)
theorem FP{σ R α β:Type}{F:(σ->Option R)->σ->Option R}{mk:Nat->β->σ}{xs:List α}{body:Nat->β->α->(β->Option R)->Option R}{fin:β->Option R}
  (hs:∀self i acc x,xs[i]? = some x->F self (mk i acc)=body i acc x fun a=>self (mk (i+1) a))
  (he:∀self acc,F self (mk xs.length acc)=fin acc) :
  ∀(k i:Nat) (acc:β) (n:Nat),i+k=xs.length->k<n->aj F n (mk i acc)=goI body fin i (xs.drop i) acc
 | _,_,_,0,_,hn=>by omega
 | 0,i,acc,n+1,h,_=>by
  have:i=xs.length:=by omega
  subst this;rw[gB,he,List.drop_length];rfl
 | k+1,i,acc,n+1,h,hn=>by
  have hx:xs[i]? = some (xs[i]'(by omega)):=List.getElem?_eq_getElem (by omega);rw[gB,hs _ _ _ _ hx,List.drop_eq_getElem_cons (show i<xs.length by omega)];show _=body i acc _ (goI body fin (i+1) (xs.drop (i+1)))
  congr 1
  funext a;exact FP hs he k (i+1) a n (by omega) (by omega)
end Pl
end
noncomputable section
namespace Go.Proofs.Lx
open Go Ev Sx Pl
set_option maxRecDepth 10000
end Go.Proofs.Lx
end
noncomputable section
namespace Go.Proofs.Lx
open Go Ev Sx
set_option maxRecDepth 100000
end Go.Proofs.Lx
end
noncomputable section
namespace Go.Proofs.Lx
open Go Ev Sx Pl
set_option maxRecDepth 10000
end Go.Proofs.Lx
end
noncomputable section
namespace Go.Proofs.Lx
open Go Ev Sx Pl
set_option maxRecDepth 10000
theorem PB.b{p:ak}(h:PB p):kR p=true:=by unfold kR;rw[h.n,decide_eq_true h.l,List.all_eq_true.2 fun s hs=>(h.s s hs).1];rfl
theorem RB.b{r:eT}(h:RB r):eX r=true:=by unfold eX;rw[h.n,decide_eq_true h.l,List.all_eq_true.2 fun p hp=>(h.p p hp).b];rfl
theorem RB.d{r:eT}(h:RB r):∀p∈r.2,∀s∈p.2.2,0≤s.2.1.2:=fun p hp s hs=>((h.p p hp).s s hs).2
theorem al3{r:eT}(h:eX r=true)(hd:∀p∈r.2,∀s∈p.2.2,0≤s.2.1.2):RB r:=by unfold eX at h;simp only[zL,decide_eq_true_eq,List.all_eq_true]at h;refine⟨h.1,h.2.1,fun p hp=>?_⟩;have h2:=h.2.2 p hp;unfold kR at h2;simp only[zL,decide_eq_true_eq,List.all_eq_true]at h2;exact⟨h2.1,h2.2.1,fun s hs=>⟨h2.2.2 s hs,hd p hp s hs⟩⟩
def nH:Int->List bG->List bG
 | _,[]=>[]
 | n,s::q=>(s.1,s.2.1,s.2.2.1,n)::nH (n+1) q
def rel:Int->List ak->List ak
 | _,[]=>[]
 | n,p::q=>(p.1,n,nH (n+1) p.2.2)::rel (n+1+p.2.2.length+1) q
theorem FQ:∀(l:List bG) (n:Int),(nH n l).length=l.length
 | [],_=>rfl
 | s::q,n=>by have:=FQ q (n+1);unfold nH;rw[List.length_cons,List.length_cons,this]
theorem Kg:∀(l:List ak) (n:Int),(rel n l).length=l.length
 | [],_=>rfl
 | s::q,n=>by unfold rel;rw[List.length_cons,List.length_cons,Kg q]
theorem Z9{a:Int}{s:bG}(h:SB s):setOf a (setRow a s)=some (s.1,s.2.1,s.2.2.1,a):=by
 unfold setRow;by_cases hu:s.2.2.1=[]
 ·rw[if_pos hu]
  refine (if_pos ⟨rfl,h.n,rfl,rfl⟩).trans ?_;rw[hu]
 ·rw[if_neg hu]
  exact if_pos ⟨rfl,h.n,rfl,rfl,rfl⟩
theorem aaa{a:Int}{s:bG}:xH (setRow a s)=false:=by unfold setRow;split<;>rfl
theorem Sy{rs:List (TL×Int)}{nm:List UInt8}{o:List ak}{ol:List UInt8}{ol2:Int}:∀(l:List bG) (n:Int) (o2:List bG),(∀s∈l,SB s)->o2.length+l.length≤64 ->
  pB (setRows n l++rs) true nm true o ol ol2 o2=pB rs true nm true o ol ol2 (o2++nH n l)
 | [],n,o2,_,_=>by unfold nH setRows;rw[List.append_nil,List.nil_append]
 | s::q,n,o2,hs,hl=>by
  rw[List.length_cons]at hl;unfold setRows nH;rw[List.cons_append]
  show (if xH (setRow n s)=true then _ else match setOf n (setRow n s) with
   | none=>jc 140 n
   | some s=>if o2.length=64 then jc 130 n else pB (setRows (n+1) q++rs) true nm true o ol ol2 (o2++[s]))=_
  rw[aaa,if_neg (by decide),Z9 (hs s List.mem_cons_self)];dsimp only;rw[if_neg (by omega),Sy q (n+1) _ (fun x hx=>hs x (zO _ hx)) (by rw[zU];simp;omega),List.append_assoc];rfl
theorem Lt{a:Int}{w x:List UInt8}(h:dz x=true):kS [wt a w,wt a x] w=true:=by show (eqi 1 1 && (eqs w w && (eqi 1 1 && dz x)))=true;rw[lZ.2 rfl,h];rfl
theorem Qk{nm:List UInt8}:∀(l:List ak) (n:Int) (oo:Bool) (o:List ak) (ol:List UInt8) (ol2:Int) (o2:List bG),(∀p∈l,PB p)->nG oo o+l.length≤8 ->
  pB (iA n l) false nm oo o ol ol2 o2=((nm,(if oo=true then o++[(ol,ol2,o2)] else o)++rel n l),(0,0))
 | [],n,oo,o,ol,ol2,o2,_,_=>by unfold iA rel;rw[List.append_nil];rfl
 | p::q,n,oo,o,ol,ol2,o2,hp,hl=>by
  rw[List.length_cons]at hl;have h:=hp p List.mem_cons_self;unfold iA
  show (if kS [wt n oC,wt n p.1] oC=false then jc 140 n else if nG oo o=8 then jc 130 n
   else pB (setRows (n+1) p.2.2++([wt (n+1+p.2.2.length) kr],n+1+p.2.2.length)::iA (n+1+p.2.2.length+1) q) true nm true (if oo=true then o++[(ol,ol2,o2)] else o) p.1 n [])=_
  rw[Lt h.n,if_neg (by decide),if_neg (by omega),Sy p.2.2 (n+1) [] h.s (by have:=h.l;simp;omega)];show (if xH [wt (n+1+p.2.2.length) kr]=true then pB (iA (n+1+p.2.2.length+1) q) false nm true (if oo=true then o++[(ol,ol2,o2)] else o) p.1 n ([]++nH (n+1) p.2.2) else _)=_
  rw[if_pos (show xH [wt (n+1+p.2.2.length) kr]=true from rfl),Qk q _ true _ _ _ _ (fun x hx=>hp x (zO _ hx)) (by
   show (if true=true then (if oo=true then o++[(ol,ol2,o2)] else o).length+1 else _)+q.length≤8;rw[if_pos rfl,J9]
   omega),if_pos rfl,List.nil_append,List.append_assoc]
  rfl
theorem ae7{r:eT}(h:RB r)(n:Int):pS (([wt n iN,wt n r.1],n)::iA (n+1) r.2)=((r.1,rel (n+1) r.2),(0,0)):=by rw[Ss,Lt h.n,if_neg (by decide)];show pB (iA (n+1) r.2) false r.1 false [] [] 0 []=_;rw[Qk r.2 (n+1) false [] [] 0 [] h.p (by have:=h.l;unfold nG;rw[if_neg (by decide)];simp;omega)];rfl
theorem Rs{r:eT}(h:RB r):AX (lK r,())=pR (if 8192<(lK r).length then jc 130 0 else ((r.1,rel 2 r.2),(0,0))):=by
 by_cases hl:8192<(lK r).length
 ·have e:iU (lK r)=([],(130,0)):=by unfold iU;rw[if_pos hl]
  rw[if_pos hl,Lr (rs:=[]) (fun h0=>by rw[e]at h0;exact absurd h0 (by decide))];unfold Hl;rw[e];rfl
 ·have hs:=XY h 1
  have e:iU (lK r)=(flat (([wt 1 iN,wt 1 r.1],1)::iA 2 r.2),(0,0)):=by unfold iU;rw[if_neg hl];exact hs.e
  rw[if_neg hl,Lr (rs:=([wt 1 iN,wt 1 r.1],1)::iA 2 r.2) (fun h0=>by rw[e];exact⟨rfl,hs.g⟩)];unfold Hl;rw[e];exact congrArg pR (ae7 h 1)
end Go.Proofs.Lx
end
noncomputable section
namespace Go.Proofs.Lx
open Go Ev Sx Pl
set_option maxRecDepth 10000
structure InvP(w:Bool) (nm:List UInt8) (oo:Bool) (o:List ak) (ol:List UInt8) (o2:List bG):Prop where
 nm:dz nm=true
 os:∀p∈o,PB p
 c:oo=true->dz ol=true∧∀s∈o2,SB s
 h2:o2.length≤64
 ho:nG oo o≤8
 w:w=true->oo=true
end Go.Proofs.Lx
end
noncomputable section
namespace Go.Proofs.Lx
open Go Ev Sx Pl
set_option maxRecDepth 10000
end Go.Proofs.Lx
end
noncomputable section
namespace Go.Proofs.Lx
open Go Ev Sx Pl
set_option maxRecDepth 100000



theorem RtD.eq{d:Int×Int}{sg:Bool}{n D:Nat}(h:RtD d sg n D):(if sg then -(n:Int) else (n:Int),(D:Int))=d:=by obtain⟨x,y⟩:=d;have e1:x=if sg then -(n:Int) else (n:Int):=h.e1;have e2:y=(D:Int):=h.e2;rw[e1,e2]
theorem XZ{x:Int}(h:(Lit.int .u8 x).wf=true):0≤x∧x≤255:=by simp[Lit.wf]at h;have e1:IntKind.u8.min=0:=rfl;have e2:IntKind.u8.max=255:=rfl;omega
end Go.Proofs.Lx
end
noncomputable section
namespace Go.Proofs.Lx
def stN:Nat->Nat->Nat×Nat
 | 0,v=>(0,v)
 | k+1,v=>if v%10=0 then stN k (v / 10) else (k+1,v)
theorem wu:∀(k v:Nat),(stN k v).1≤k∧v=(stN k v).2*10 ^ (k - (stN k v).1)
 | 0,v=>⟨Nat.le_refl _,by show v=v*10 ^ (0 - 0);simp⟩
 | k+1,v=>by
  rw[stN];by_cases h:v%10=0
  ·rw[if_pos h]
   obtain⟨h1,h2⟩:=wu k (v / 10);refine⟨by omega,?_⟩;have e:k+1 - (stN k (v / 10)).1=(k - (stN k (v / 10)).1)+1:=by omega
   rw[e,Nat.pow_succ,<- Nat.mul_assoc,<- h2];omega
  ·rw[if_neg h]
   refine⟨Nat.le_refl _,?_⟩;show v=v*10 ^ (k+1 - (k+1));simp
def okN(p:Nat×Nat):Option (Nat×Nat):=if p.2≤1000000000000 then some (p.2,p.1) else none
def CQ(a b:Nat):Option (Nat×Nat):=if a*1000000%b=0 then okN (stN 6 (a*1000000 / b)) else none
end Go.Proofs.Lx
end
noncomputable section
namespace Go.Proofs.Lx
open Go Ev Sx Pl
set_option maxRecDepth 100000
theorem uwM(x:Int):IntKind.u64.wrap x=x%18446744073709551616:=by rfl
theorem uwB{x:Int}(h1:0≤x)(h2:x<18446744073709551616):IntKind.u64.wrap x=x:=by grind[uwM]
theorem zq{x:Int}(h1:0≤x)(h2:x<18446744073709551616):mV .u64 x 4294967295=x%4294967296:=by
 obtain⟨n,rfl⟩:=zK h1
 have e:(BitVec.ofInt 64 (n:Int) &&& BitVec.ofInt 64 4294967295).toNat=n%4294967296:=by
  rw[BitVec.toNat_and];have a1:(BitVec.ofInt 64 (n:Int)).toNat=n:=by grind
  have a2:(BitVec.ofInt 64 4294967295).toNat=2 ^ 32 - 1:=by decide
  rw[a1,a2,Nat.and_two_pow_sub_one_eq_mod]
 show IntKind.u64.wrap ((BitVec.ofInt 64 (n:Int) &&& BitVec.ofInt 64 4294967295).toNat:Int)=_;grind[uwB]
theorem DW{x:Int}(k:Nat)(hk:k≤64):shr .u64 x (k:Int)=x / 2 ^ k:=by grind[shr,IntKind.bits,zM,Nat.min_eq_left,Int.fdiv_eq_ediv_of_nonneg,Int.le_of_lt,Int.pow_pos]
theorem wz{x:Int}(_:0≤x):shr .u64 x 32=x / 4294967296:=DW 32 (by decide)
theorem ML{a b:Int}(A B C:Int)(hC:A*B=C)(ha:0≤a∧a≤A)(hb:0≤b∧b≤B):0≤a*b∧a*b≤C:=by subst hC;exact⟨Int.mul_nonneg ha.1 hb.1,Int.mul_le_mul ha.2 hb.2 hb.1 (by omega)⟩
theorem ae8{x y:Int}(hx:0≤x)(hx':x<18446744073709551616)(hy:0≤y)(hy':y<18446744073709551616) :
  bits_Mul64 (x,y,())=some (x*y / 18446744073709551616,x*y%18446744073709551616,()):=by
 show rO x y=_;unfold rO;simp only[zq hx hx',zq hy hy',wz hx,wz hy];have bA:=ML (a:=x%4294967296) (b:=y%4294967296) 4294967295 4294967295 18446744065119617025 (by decide) (by omega) (by omega);have bB:=ML (a:=x / 4294967296) (b:=y%4294967296) 4294967295 4294967295 18446744065119617025 (by decide) (by omega) (by omega);have bC:=ML (a:=x%4294967296) (b:=y / 4294967296) 4294967295 4294967295 18446744065119617025 (by decide) (by omega) (by omega);have bD:=ML (a:=x / 4294967296) (b:=y / 4294967296) 4294967295 4294967295 18446744065119617025 (by decide) (by omega) (by omega);have hxy:x*y=(x / 4294967296*(y / 4294967296))*18446744073709551616+(x / 4294967296*(y%4294967296)+x%4294967296*(y / 4294967296))*4294967296+x%4294967296*(y%4294967296):=by grind
 unfold add mul;rw[hxy];generalize x%4294967296*(y%4294967296)=A at *;generalize x / 4294967296*(y%4294967296)=B at *;generalize x%4294967296*(y / 4294967296)=C at *;generalize x / 4294967296*(y / 4294967296)=D at *;rw[uwB (x:=A) (by omega) (by omega),uwB (x:=B) (by omega) (by omega),uwB (x:=C) (by omega) (by omega),uwB (x:=D) (by omega) (by omega)];rw[wz (x:=A) (by omega)];rw[uwB (x:=B+A / 4294967296) (by omega) (by omega),zq (by omega) (by omega),wz (by omega)];rw[uwB (x:=(B+A / 4294967296)%4294967296+C) (by omega) (by omega),wz (by omega)];rw[uwB (x:=D+(B+A / 4294967296) / 4294967296) (by omega) (by omega)];rw[uwB (x:=D+(B+A / 4294967296) / 4294967296+_) (by omega) (by omega),uwM];refine congrArg some (Prod.ext ?_ rfl);show @Eq Int _ _;omega
def len8:List UInt8:=[0,1,2,2,3,3,3,3,4,4,4,4,4,4,4,4,5,5,5,5,5,5,5,5,5,5,5,5,5,5,5,5,6,6,6,6,6,6,6,6,6,6,6,6,6,6,6,6,6,6,6,6,6,6,6,6,6,6,6,6,6,6,6,6,7,7,7,7,7,7,7,7,7,7,7,7,7,7,7,7,7,7,7,7,7,7,7,7,7,7,7,7,7,7,7,7,7,7,7,7,7,7,7,7,7,7,7,7,7,7,7,7,7,7,7,7,7,7,7,7,7,7,7,7,7,7,7,7,8,8,8,8,8,8,8,8,8,8,8,8,8,8,8,8,8,8,8,8,8,8,8,8,8,8,8,8,8,8,8,8,8,8,8,8,8,8,8,8,8,8,8,8,8,8,8,8,8,8,8,8,8,8,8,8,8,8,8,8,8,8,8,8,8,8,8,8,8,8,8,8,8,8,8,8,8,8,8,8,8,8,8,8,8,8,8,8,8,8,8,8,8,8,8,8,8,8,8,8,8,8,8,8,8,8,8,8,8,8,8,8,8,8,8,8,8,8,8,8,8,8,8,8,8,8,8,8]
set_option maxRecDepth 10000 in
theorem aab:∀x:Fin 256,∃c,len8[x.val]? = some c∧c.toNat≤8∧x.val<2 ^ c.toNat∧(x.val=0∨2 ^ c.toNat≤2*x.val):=by
 have h:(List.finRange 256).all (fun x=>match len8[x.val]? with | some c=>decide (c.toNat≤8∧x.val<2 ^ c.toNat∧(x.val=0∨2 ^ c.toNat≤2*x.val)) | none=>false)=true:=by decide +kernel
 grind
theorem Hr{x n:Int}(h1:0≤x)(h2:x<256)(hn:0≤n)(hn':n≤56):∃c:Nat,(zA (at? len8 (cvt .u8 x)) fun c=>(some (Sx.sub .i64 64 (add .i64 n (cvt .i64 (zD (UInt8.toNat c)))),()):Option (As [.int .i64])))=some (64 - (n+c),())∧c≤8∧x<2 ^ c∧(x=0∨(2:Int) ^ c≤2*x):=by
 obtain⟨m,rfl⟩:=zK h1;obtain⟨c,h3,h4,h5,h6⟩:=aab ⟨m,by omega⟩;refine⟨c.toNat,?_,h4,?_,?_⟩
 ·have e1:cvt .u8 (m:Int)=m:=wu8 (by omega) (by omega)
  grind[at?,len8,Int,gK,ay,lY,lX,iR]
 ·grind
 grind
theorem akm{y:Int}(h1:1≤y)(h2:y<4294967296):∃n:Nat,Vo (y,())=some (((64 - n:Nat):Int),())∧n≤32∧y<2 ^ n∧(2:Int) ^ n≤2*y:=by
 have e0:ge y 4294967296=false:=decide_eq_false (by omega);show ∃n:Nat,ach y=_∧_;unfold ach;simp only[e0,Bool.false_eq_true,if_false];have p8:(2:Int) ^ 8=256:=by decide
 have p16:(2:Int) ^ 16=65536:=by decide
 by_cases q1:65536≤y
 ·have e1:ge y 65536=true:=decide_eq_true (by omega)
  have e2:shr .u64 y 16=y / 65536:=by have:=DW (x:=y) 16 (by decide);simp_all
  simp only[e1,if_true,e2];by_cases q2:256≤y / 65536
  ·have e4:ge (y / 65536) 256=true:=decide_eq_true (by omega)
   have e5:shr .u64 (y / 65536) 8=y / 65536 / 256:=by have:=DW (x:=y / 65536) 8 (by decide);simp_all
   simp only[e4,if_true,e5];obtain⟨c,h3,h4,h5,h6⟩:=Hr (x:=y / 65536 / 256) (n:=24) (by omega) (by omega) (by omega) (by omega);refine⟨24+c,h3.trans (by grind),by omega,?_,?_⟩
   ·grind
   grind
  ·have e4:ge (y / 65536) 256=false:=decide_eq_false (by omega)
   simp only[e4,Bool.false_eq_true,if_false];obtain⟨c,h3,h4,h5,h6⟩:=Hr (x:=y / 65536) (n:=16) (by omega) (by omega) (by omega) (by omega);refine⟨16+c,h3.trans (by grind),by omega,?_,?_⟩
   ·grind
   grind
 ·have e1:ge y 65536=false:=decide_eq_false (by omega)
  simp only[e1,Bool.false_eq_true,if_false];by_cases q2:256≤y
  ·have e4:ge y 256=true:=decide_eq_true (by omega)
   have e5:shr .u64 y 8=y / 256:=by have:=DW (x:=y) 8 (by decide);simp_all
   simp only[e4,if_true,e5];obtain⟨c,h3,h4,h5,h6⟩:=Hr (x:=y / 256) (n:=8) (by omega) (by omega) (by omega) (by omega);refine⟨8+c,h3.trans (by grind),by omega,?_,?_⟩
   ·grind
   grind
  ·have e4:ge y 256=false:=decide_eq_false (by omega)
   simp only[e4,Bool.false_eq_true,if_false];obtain⟨c,h3,h4,h5,h6⟩:=Hr (x:=y) (n:=0) (by omega) (by omega) (by omega) (by omega);refine⟨c,h3.trans (by grind),by omega,h5,?_⟩;omega
theorem X0{x:Int}(k:Nat)(hk:k≤64):shl .u64 x (k:Int)=(x*2 ^ k)%18446744073709551616:=by simp_all[shl,IntKind.bits,zM,Nat.min_eq_left,uwM]
theorem X3(x:Int):cvt .u64 x=x%18446744073709551616:=uwM x
theorem Lu{N:Nat}(h:(N:Int)<18446744073709551616):(BitVec.ofInt 64 (N:Int)).toNat=N:=by grind
theorem ahK{a b:Int}(k:Nat)(ha:0≤a)(hb:0≤b)(hb':b<2 ^ k)(hs:a*2 ^ k+b<18446744073709551616):bor .u64 (a*2 ^ k) b=a*2 ^ k+b:=by
 obtain⟨m,rfl⟩:=zK ha;obtain⟨n,rfl⟩:=zK hb;have hc:((m:Int)*2 ^ k)=((m*2 ^ k:Nat):Int):=by simp
 have hn:n<2 ^ k:=by grind
 have hs':((m*2 ^ k:Nat):Int)+(n:Int)<18446744073709551616:=by omega
 have e:(BitVec.ofInt 64 ((m*2 ^ k:Nat):Int) ||| BitVec.ofInt 64 (n:Int)).toNat=m*2 ^ k+n:=by rw[BitVec.toNat_or];have a1:=Lu (N:=m*2 ^ k) (by omega);have a2:=Lu (N:=n) (by omega);rw[a1,a2,<- Nat.shiftLeft_eq,Nat.shiftLeft_add_eq_or_of_lt hn]
 rw[hc];show IntKind.u64.wrap ((BitVec.ofInt 64 ((m*2 ^ k:Nat):Int) ||| BitVec.ofInt 64 (n:Int)).toNat:Int)=_;grind[uwB]
theorem X4{a b:Int}(ha:0≤a)(ha':a<18446744073709551616)(hb:0<b):quo .u64 a b=a / b:=by unfold quo;rw[Int.tdiv_eq_ediv_of_nonneg ha,uwB (Int.ediv_nonneg ha (by omega))];exact Int.lt_of_le_of_lt (Int.ediv_le_self b ha) ha'
theorem as9{a b:Int}(ha:0≤a):rem a b=a%b:=by simp_all[rem,Int.tmod_eq_emod_of_nonneg]
theorem Sz{σ R:Type}(F:(σ->Option R)->σ->Option R)(s:σ):aj F 18446744073709551616 s=F (aj F 18446744073709551615) s:=rfl
set_option maxHeartbeats 4000000 in
theorem ae9{hi lo y:Int}(h1:1≤y)(h2:y<4294967296)(hh:0≤hi)(hhy:hi<y)(hl:0≤lo)(hl':lo<18446744073709551616) :
  pV (hi,lo,y,())=some ((hi*18446744073709551616+lo) / y,(hi*18446744073709551616+lo)%y,()):=by
 have e0:eqi y 0=false:=by simp[eqi];omega
 have e1:le y hi=false:=decide_eq_false (by omega);have e2:nei y 0=true:=by simp[nei];omega
 show nT nW hi lo y=_;simp only[nT,e0,Bool.false_eq_true,if_false,nW,rW,e1,sI,rX];by_cases hz:hi=0
 ·subst hz
  have e3:eqi 0 0=true:=rfl;simp only[e3,if_true,need,e2,X4 hl hl' (by omega:0<y),as9 hl];simp
 ·have e3:eqi hi 0=false:=by simp[eqi];omega
  obtain⟨n,hs,hn,hy1,hy2⟩:=akm h1 h2;simp only[e3,Bool.false_eq_true,if_false,hs,zB];have es:cvt .u64 (((64 - n:Nat)):Int)=((64 - n:Nat):Int):=by rw[X3];omega
  have et:sub .u64 64 ((64 - n:Nat):Int)=((n:Nat):Int):=by unfold sub;rw[uwB (by omega) (by omega)];omega
  have g1:ge ((64 - n:Nat):Int) 0=true:=decide_eq_true (by omega);have g2:ge ((n:Nat):Int) 0=true:=decide_eq_true (by omega);simp only[es,et,g1,g2,need,if_true];obtain⟨T,hT⟩:∃T:Int,T=2 ^ n:=⟨_,rfl⟩;obtain⟨K,hK⟩:∃K:Int,K=2 ^ (32 - n):=⟨_,rfl⟩;have hT0:0<T:=by rw[hT];exact Int.pow_pos (by decide)
  have hK0:0<K:=by rw[hK];exact Int.pow_pos (by decide)
  have hTK:T*K=4294967296:=by rw[hT,hK,<- Int.pow_add,show n+(32 - n)=32 by omega];decide
  have hP:(2:Int) ^ (64 - n)=K*4294967296:=by rw[hK,show (4294967296:Int)=2 ^ 32 by decide,<- Int.pow_add,show 32 - n+32=64 - n by omega]
  rw[<- hT]at hy1 hy2;have hTP:T*(K*4294967296)=18446744073709551616:=by grind
  have hYK1:y*K<4294967296:=by rw[<- hTK];exact Int.mul_lt_mul_of_pos_right hy1 hK0
  have hYK2:2147483648≤y*K:=by have:T*K≤2*y*K:=Int.mul_le_mul_of_nonneg_right hy2 (by omega);rw[hTK]at this;grind
  have eY:shl .u64 y ((64 - n:Nat):Int)=(y*K)*4294967296:=by rw[X0 _ (by omega),hP,<- Int.mul_assoc];omega
  obtain⟨Z,hZ⟩:∃Z:Int,Z=y*K:=⟨_,rfl⟩;rw[<- hZ]at hYK1 hYK2 eY;have eYn1:shr .u64 (Z*4294967296) 32=Z:=by rw[wz (by omega)];omega
  have eYn0:mV .u64 (Z*4294967296) 4294967295=0:=by rw[zq (by omega) (by omega)];omega
  have eLo1:shr .u64 lo ((n:Nat):Int)=lo / T:=by rw[DW n (by omega),<- hT]
  have eLo2:shl .u64 lo ((64 - n:Nat):Int)=(lo%T)*(K*4294967296):=by rw[X0 _ (by omega),hP,<- hTP,Int.mul_comm lo,Int.mul_comm T,Int.mul_emod_mul_of_pos _ _ (by omega:0<K*4294967296),Int.mul_comm]
  have bLo1:0≤lo / T:=Int.ediv_nonneg hl (by omega);have bLo1':lo / T<K*4294967296:=Int.ediv_lt_of_lt_mul hT0 (by rw[Int.mul_comm,hTP];exact hl');have bHi:hi*(K*4294967296)+lo / T<Z*4294967296:=by have:(hi+1)*(K*4294967296)≤y*(K*4294967296):=Int.mul_le_mul_of_nonneg_right (by omega) (by omega);rw[hZ];grind
  have eHi:shl .u64 hi ((64 - n:Nat):Int)=hi*(K*4294967296):=by rw[X0 _ (by omega),hP];have:0≤hi*(K*4294967296):=Int.mul_nonneg hh (by omega);omega
  have eU:bor .u64 (shl .u64 hi ((64 - n:Nat):Int)) (shr .u64 lo ((n:Nat):Int))=hi*(K*4294967296)+lo / T:=by rw[eHi,eLo1,<- hP];rw[<- hP]at bLo1' bHi;exact ahK _ hh bLo1 bLo1' (by omega)
  have bU0:0≤hi*(K*4294967296)+lo / T:=Int.add_nonneg (Int.mul_nonneg hh (by omega)) bLo1;have bV0:0≤(lo%T)*(K*4294967296):=Int.mul_nonneg (Int.emod_nonneg _ (by omega)) (by omega);have bV1:(lo%T)*(K*4294967296)<18446744073709551616:=by rw[<- hTP];exact Int.mul_lt_mul_of_pos_right (Int.emod_lt_of_pos _ hT0) (by omega)
  obtain⟨V,hV⟩:∃V:Int,V=(lo%T)*(K*4294967296):=⟨_,rfl⟩;obtain⟨U,hU⟩:∃U:Int,U=hi*(K*4294967296)+lo / T:=⟨_,rfl⟩;rw[<- hV]at eLo2 bV0 bV1;rw[<- hU]at eU bHi bU0
  have hsum:(hi*18446744073709551616+lo)*(K*4294967296)=U*18446744073709551616+V:=by
   have:lo=T*(lo / T)+lo%T:=by have:=Int.mul_ediv_add_emod lo T;omega
   rw[hU,hV];generalize lo / T=a at *;generalize lo%T=b at *;subst this;rw[<- hTP];grind
  have hq1:U=Z*(U / Z)+U%Z:=by have:=Int.mul_ediv_add_emod U Z;omega
  have hr1:0≤U%Z∧U%Z<Z:=⟨Int.emod_nonneg _ (by omega),Int.emod_lt_of_pos _ (by omega)⟩;have hq1':0≤U / Z∧U / Z<4294967296:=⟨Int.ediv_nonneg bU0 (by omega),Int.ediv_lt_of_lt_mul (by omega) (by rw[Int.mul_comm];exact bHi)⟩;have en:nei Z 0=true:=by simp[nei];omega
  have eq1:quo .u64 U Z=U / Z:=X4 bU0 (by omega) (by omega);simp only[eU,eY,eYn1,eYn0,eLo2,en,eq1,if_true,zB];obtain⟨q1,hq1d⟩:∃q,q=U / Z:=⟨_,rfl⟩;obtain⟨r1,hr1d⟩:∃r,r=U%Z:=⟨_,rfl⟩;rw[<- hq1d,<- hr1d]at hq1;rw[<- hr1d]at hr1;rw[<- hq1d]at hq1';simp only[<- hq1d];have bZq1:0≤Z*q1:=Int.mul_nonneg (by omega) hq1'.1;have c1:q1*Z=Z*q1:=Int.mul_comm _ _;have m1:mul .u64 q1 Z=Z*q1:=by unfold mul;rw[c1,uwB (by omega) (by omega)]
  have s1:sub .u64 U (Z*q1)=r1:=by unfold sub;rw[uwB (by omega) (by omega)];omega
  have lg1:ge q1 4294967296=false:=decide_eq_false (by omega);have m0:mul .u64 q1 0=0:=by unfold mul;rw[Int.mul_zero];rfl
  have eV1:shr .u64 V 32=V / 4294967296:=wz bV0;have eV0:mV .u64 V 4294967295=V%4294967296:=zq bV0 bV1;have lz:∀x:Int,gt 0 (add .u64 (mul .u64 4294967296 x) (V / 4294967296))=false:=fun x=>by apply decide_eq_false;unfold add;rw[uwM];omega
  rw[m1,s1];simp only[nV,Sz,es,rY,lg1,Bool.false_eq_true,if_false,eYn0,m0,eV1,zB,lz,sH,rZ,sG,r9,en,need,if_true,eYn1,eLo2,eY];have mY1:mul .u64 q1 (Z*4294967296)=(Z*q1*4294967296)%18446744073709551616:=by unfold mul;rw[uwM,<- Int.mul_assoc,c1]
  have mU:mul .u64 U 4294967296=(U*4294967296)%18446744073709551616:=by unfold mul;rw[uwM]
  have hW:sub .u64 (add .u64 (mul .u64 U 4294967296) (V / 4294967296)) (mul .u64 q1 (Z*4294967296))=r1*4294967296+V / 4294967296:=by rw[mY1,mU];unfold sub add;rw[uwM,uwM];generalize Z*q1=A at *;omega
  obtain⟨W,hWd⟩:∃W:Int,W=r1*4294967296+V / 4294967296:=⟨_,rfl⟩;rw[<- hWd]at hW;have bW:0≤W∧W<Z*4294967296:=by omega
  rw[hW];have eq0:quo .u64 W Z=W / Z:=X4 (by omega) (by omega) (by omega);simp only[eq0];have hq0:W=Z*(W / Z)+W%Z:=by have:=Int.mul_ediv_add_emod W Z;omega
  have hr0:0≤W%Z∧W%Z<Z:=⟨Int.emod_nonneg _ (by omega),Int.emod_lt_of_pos _ (by omega)⟩;have hq0':0≤W / Z∧W / Z<4294967296:=⟨Int.ediv_nonneg bW.1 (by omega),Int.ediv_lt_of_lt_mul (by omega) (by rw[Int.mul_comm];exact bW.2)⟩;obtain⟨q0,hq0d⟩:∃q,q=W / Z:=⟨_,rfl⟩;obtain⟨r0,hr0d⟩:∃r,r=W%Z:=⟨_,rfl⟩;rw[<- hq0d,<- hr0d]at hq0;rw[<- hr0d]at hr0;rw[<- hq0d]at hq0';simp only[<- hq0d];have bZq0:0≤Z*q0:=Int.mul_nonneg (by omega) hq0'.1;have c0:q0*Z=Z*q0:=Int.mul_comm _ _;have lg0:ge q0 4294967296=false:=decide_eq_false (by omega);have m00:mul .u64 q0 0=0:=by unfold mul;rw[Int.mul_zero];rfl
  have lz0:∀x:Int,gt 0 (add .u64 (mul .u64 4294967296 x) (V%4294967296))=false:=fun x=>by apply decide_eq_false;unfold add;rw[uwM];omega
  simp only[nU,Sz,es,sj,lg0,Bool.false_eq_true,if_false,eYn0,m00,eV0,eLo2,eY,zB,lz0,sF,su,sD,sw,es,g1,need,if_true];have mY0:mul .u64 q0 (Z*4294967296)=(Z*q0*4294967296)%18446744073709551616:=by unfold mul;rw[uwM,<- Int.mul_assoc,c0]
  have mW:mul .u64 W 4294967296=(W*4294967296)%18446744073709551616:=by unfold mul;rw[uwM]
  have hR:sub .u64 (add .u64 (mul .u64 W 4294967296) (V%4294967296)) (mul .u64 q0 (Z*4294967296))=r0*4294967296+V%4294967296:=by rw[mY0,mW];unfold sub add;rw[uwM,uwM];generalize Z*q0=A at *;omega
  have hQ:add .u64 (mul .u64 q1 4294967296) q0=q1*4294967296+q0:=by unfold add mul;rw[uwB (x:=q1*4294967296) (by omega) (by omega),uwB (by omega) (by omega)]
  rw[hR,hQ,DW (64 - n) (by omega),hP]
  have hall:(hi*18446744073709551616+lo)*(K*4294967296)=y*(q1*4294967296+q0)*(K*4294967296)+(r0*4294967296+V%4294967296):=by
   rw[hsum];have eV:V=4294967296*(V / 4294967296)+V%4294967296:=by omega
   generalize V / 4294967296=V1 at *;generalize V%4294967296=V0 at *;rw[eV,hq1];have:U=Z*q1+r1:=hq1;have h3:r1*4294967296+V1=Z*q0+r0:=by omega
   have h4:Z*q1+r1=Z*q1+r1:=rfl;subst hZ;have h5:r1*18446744073709551616+4294967296*V1=(y*K*q0+r0)*4294967296:=by omega
   grind
  have hdiv:r0*4294967296+V%4294967296=(hi*18446744073709551616+lo - y*(q1*4294967296+q0))*(K*4294967296):=by rw[Int.sub_mul,hall];omega
  have hquot:(r0*4294967296+V%4294967296) / (K*4294967296)=hi*18446744073709551616+lo - y*(q1*4294967296+q0):=by rw[hdiv,Int.mul_ediv_cancel _ (by omega:K*4294967296≠0)]
  have hb:0≤r0*4294967296+V%4294967296∧r0*4294967296+V%4294967296<y*(K*4294967296):=by rw[<- Int.mul_assoc,<- hZ];omega
  rw[hquot];have hlt:hi*18446744073709551616+lo - y*(q1*4294967296+q0)<y:=by rw[hdiv]at hb;exact Int.lt_of_mul_lt_mul_right hb.2 (by omega)
  have hge:0≤hi*18446744073709551616+lo - y*(q1*4294967296+q0):=by rw[<- hquot];exact Int.ediv_nonneg hb.1 (by omega)
  generalize hi*18446744073709551616+lo=X at *;generalize q1*4294967296+q0=q at *;have hX:X=(X - y*q)+y*q:=by omega
  refine congrArg some (Prod.ext ?_ (Prod.ext ?_ rfl))
  ·show @Eq Int _ _
   dsimp only
   have:X / y=(X - y*q) / y+q:=by
    conv=>lhs;rw[hX]
    rw[Int.add_mul_ediv_left _ _ (by omega:y≠0)]
   rw[this,Int.ediv_eq_zero_of_lt hge hlt];omega
  ·show @Eq Int _ _
   dsimp only
   have:X%y=(X - y*q)%y:=by
    conv=>lhs;rw[hX]
    rw[Int.add_mul_emod_self_left]
   rw[this,Int.emod_eq_of_lt hge hlt]
end Go.Proofs.Lx
end
noncomputable section
namespace Go.Proofs.Lx
open Go Ev Sx Pl
@[reducible] def zJ1:Type:=(Int)×(Int)×(Int)×(Int)×(Int)×(Int)->Option (As [.pr (.int .i64) (.int .u8),.bool])
def afa :=(fun (self:zJ1) (s:(Int)×(Int)×(Int)×(Int)×(Int)×(Int))=>Je (Jg (fun q places d d_2 t6 t6_2=>self (q,places,d,d_2,t6,t6_2))) (fun q places d d_2 t6 t6_2=>self (q,places,d,d_2,t6,t6_2)) s.1 s.2.1 s.2.2.1 s.2.2.2.1 s.2.2.2.2.1 s.2.2.2.2.2)
theorem akn  (self:zJ1)(q:Int)(places:Int)(d:Int)(d_2:Int)(t6:Int)(t6_2:Int):afa self (q,places,d,d_2,t6,t6_2)=Je (Jg (fun q places d d_2 t6 t6_2=>self (q,places,d,d_2,t6,t6_2))) (fun q places d d_2 t6 t6_2=>self (q,places,d,d_2,t6,t6_2)) q places d d_2 t6 t6_2:=rfl
theorem ata  (q:Int)(places:Int)(d:Int)(d_2:Int)(t6:Int)(t6_2:Int):Vr q places d d_2 t6 t6_2=aj (afa) 18446744073709551616 (q,places,d,d_2,t6,t6_2):=rfl
end Go.Proofs.Lx
end
noncomputable section
namespace Go.Proofs.Lx
open Go Ev Sx Pl
set_option maxRecDepth 100000
def sgn(sg:Bool)(n:Nat):Int:=if sg then -(n:Int) else (n:Int)
def tmS(sg:Bool):Option (Nat×Nat)->(Int×Int)×Bool
 | some (w,k)=>((sgn sg w,(k:Int)),true)
 | none=>((0,0),false)
def CR(P den:Nat):Option (Nat×Nat):=if P%den=0 then okN (stN 6 (P / den)) else none
theorem afb{n num den D:Nat}(hden:0<den)(h6:D≤6):CQ (n*num) (den*10 ^ D)=CR (n*10 ^ (6 - D)*num) den:=by
 have hp:0<10 ^ D:=Nat.pow_pos (by omega)
 have e:n*num*1000000=n*10 ^ (6 - D)*num*10 ^ D:=by
  have:(1000000:Nat)=10 ^ (6 - D)*10 ^ D:=by rw[<- Nat.pow_add,show 6 - D+D=6 by omega]
  rw[this]
  ac_rfl
 unfold CQ CR;rw[e,Nat.mul_mod_mul_right,Nat.mul_div_mul_right _ _ hp];generalize n*10 ^ (6 - D)*num%den=r;by_cases hr:r=0
 ·rw[if_pos hr,if_pos (by rw[hr,Nat.zero_mul])]
 ·rw[if_neg hr,if_neg]
  intro h;rcases Nat.mul_eq_zero.1 h with h | h
  ·exact hr h
  ·omega
theorem ako(k v:Nat):(stN k v).2≤v:=by obtain⟨_,h⟩:=wu k v;have hp:0<10 ^ (k - (stN k v).1):=Nat.pow_pos (by omega);rw[show v=(stN k v).2*10 ^ (k - (stN k v).1) from h];have:=Nat.le_mul_of_pos_right (stN k v).2 hp;rw[<- h];rw[<- h]at this;exact this
theorem Ht(d d2 a b:Int):∀(p v N:Nat),p≤6->v<18446744073709551616 ->
  aj afa (N+p+1) ((v:Int),(p:Int),d,d2,a,b)=OP ((stN p v).2:Int) ((stN p v).1:Int) d d2 a b
 | 0,v,N,_,_=>by rw[gB,akn];unfold Je;rw[if_neg (by rw[fC];omega)];unfold Jg Vq;rw[if_neg (by decide)];rfl
 | p+1,v,N,h6,hv=>by
  rw[gB,akn];unfold Je;rw[if_pos (by rw[fC];omega)];unfold Jg Vq stN;have hr:rem (v:Int) 10=((v%10:Nat):Int):=rfl;by_cases hz:v%10=0
  ·rw[if_pos (by rw[fQ,hr];omega),if_pos hz]
   have e1:quo .u64 (v:Int) 10=((v / 10:Nat):Int):=by rw[X4 (by omega) (by omega) (by decide)];omega
   have e2:sub .u8 ((p+1:Nat):Int) 1=(p:Int):=by unfold sub;rw[wu8 (by omega) (by omega)];omega
   rw[e1,e2];exact Ht d d2 a b p (v / 10) N (by omega) (by omega)
  ·rw[if_neg (by rw[fQ,hr];omega),if_neg hz]
theorem afc{sg:Bool}{n:Nat}{d:Int}(d2 a b:Int)(hd:d=sgn sg n)(hn:sg=true->n≠0){q k:Nat}(hq:q≤18446744073709551615)(hk:k≤6) :
  OP (q:Int) (k:Int) d d2 a b=some ((tmS sg (okN (k,q))).1,(tmS sg (okN (k,q))).2,()):=by
 unfold OP acu okN;by_cases h:q≤1000000000000
 ·rw[if_neg (by rw[fC];omega)]
  dsimp only;rw[if_pos h,lY (by omega) (by omega)]
  cases sg with
  | true =>
   have:=hn rfl;have e:d=-(n:Int):=hd;rw[if_pos (by rw[bg];omega),GX (by omega) (by omega)];rfl
  | false =>
   have e:d=(n:Int):=hd;rw[if_neg (by rw[bg];omega)];rfl
 ·rw[if_pos (by rw[fC];omega)]
  dsimp only;rw[if_neg h];rfl
theorem afd{sg:Bool}{n D num den:Nat}{d:Int}(hd:d=sgn sg n)(hn:sg=true->n≠0)(hle:n≤1000000000000)(h6:D≤6)(h1:1≤num∧num≤1000000000)(h2:1≤den∧den≤1000000000)(a b:Int) :
  Fa (num:Int) (den:Int) false d (D:Int) a b=some ((tmS sg (CR (n*10 ^ (6 - D)*num) den)).1,(tmS sg (CR (n*10 ^ (6 - D)*num) den)).2,()):=by
 have eK:Fa (num:Int) (den:Int) false d (D:Int) a b=Vs (num:Int) (den:Int) (n:Int) d (D:Int) a b:=by
  unfold Fa acr;rw[if_neg (by decide)]
  cases sg with
  | true =>
   have:=hn rfl;have e:d=-(n:Int):=hd;rw[if_pos (by rw[bg];omega),GX (by omega) (by omega),e,Int.neg_neg]
  | false =>
   have e:d=(n:Int):=hd;rw[if_neg (by rw[bg];omega)];rw[e]
 rw[eK];unfold Vs acs;have e6:sub .i64 6 (cvt .i64 (D:Int))=((6 - D:Nat):Int):=by rw[lY (by omega) (by omega),iR (by omega) (by omega)];omega
 have hpow:10 ^ (6 - D)≤10 ^ 6:=Nat.pow_le_pow_right (by omega) (by omega);have hX:n*10 ^ (6 - D)≤1000000000000*10 ^ 6:=Nat.mul_le_mul hle hpow;have emul:mul .i64 (n:Int) ((10 ^ (6 - D):Nat):Int)=((n*10 ^ (6 - D):Nat):Int):=by rw[MJ (by rw[<- Int.natCast_mul];omega) (by rw[<- Int.natCast_mul];omega)];simp
 rw[e6,vZ (by omega),zB];dsimp only;rw[emul];generalize n*10 ^ (6 - D)=X at hX;have hPb:X*num≤1000000000000*10 ^ 6*1000000000:=Nat.mul_le_mul hX h1.2;have c1:cvt .u64 (X:Int)=(X:Int):=by rw[X3];omega
 have c2:cvt .u64 (num:Int)=(num:Int):=by rw[X3];omega
 have c3:cvt .u64 (den:Int)=(den:Int):=by rw[X3];omega
 rw[c1,c2,c3,ae8 (by omega) (by omega) (by omega) (by omega),zB];dsimp only;have hcast:(X:Int)*(num:Int)=((X*num:Nat):Int):=by simp
 rw[hcast];generalize hP:X*num=P at hPb;unfold CR;by_cases q1:(den:Int)≤(P:Int) / 18446744073709551616
 ·rw[if_pos (by rw[dN];exact q1)]
  have hQ:18446744073709551616≤P / den:=by rw[Nat.le_div_iff_mul_le (by omega)];omega
  have hnone:okN (stN 6 (P / den))=none:=by unfold okN;rw[if_neg];intro hw;obtain⟨g1,g2⟩:=wu 6 (P / den);have hp:10 ^ (6 - (stN 6 (P / den)).1)≤10 ^ 6:=Nat.pow_le_pow_right (by omega) (by omega);have:=Nat.mul_le_mul hw hp;rw[<- g2]at this;omega
  rw[hnone,ite_self];rfl
 ·rw[if_neg (by rw[dN];exact q1)]
  rw[ae9 (hi:=(P:Int) / 18446744073709551616) (lo:=(P:Int)%18446744073709551616) (by omega) (by omega) (by omega) (by omega) (by omega) (by omega)];have eP:(P:Int) / 18446744073709551616*18446744073709551616+(P:Int)%18446744073709551616=(P:Int):=by omega
  rw[eP,zB];dsimp only;have eq:(P:Int) / (den:Int)=((P / den:Nat):Int):=rfl;have er:(P:Int)%(den:Int)=((P%den:Nat):Int):=rfl;rw[eq,er];by_cases q2:P%den=0
  ·rw[if_neg (by rw[dK];omega),if_pos q2]
   have hQ1:P / den<18446744073709551616:=by rw[Nat.div_lt_iff_lt_mul (by omega)];omega
   obtain⟨g1,_⟩:=wu 6 (P / den);have g2:=ako 6 (P / den);rw[ata];have:=Ht d (D:Int) a b 6 (P / den) 18446744073709551609 (by omega) hQ1;refine Eq.trans this ?_;exact afc _ _ _ hd hn (by omega) g1
  ·rw[if_pos (by rw[dK];omega),if_neg q2]
   rfl
theorem Ql{d:Int×Int}{sg:Bool}{n D num den:Nat}(hd:RtD d sg n D)(h1:1≤num∧num≤1000000000)(h2:1≤den∧den≤1000000000) :
  Fb (d,(num:Int),(den:Int),())=some ((tmS sg (CQ (n*num) (den*10 ^ D))).1,(tmS sg (CQ (n*num) (den*10 ^ D))).2,()):=by
 rw[afb (by omega) hd.d6];show Jf Fa d (num:Int) (den:Int)=_;unfold Jf;rw[hd.right,zB];dsimp only;rw[if_neg (by decide),if_neg (by rw[bg];omega),if_neg (by rw[fC];omega),if_neg (by rw[bg];omega)];have:gt (den:Int) 1000000000=false:=by rw[O9,decide_eq_false];omega
 rw[this,hd.e2];exact afd hd.e1 hd.nz hd.le hd.d6 h1 h2 _ _
theorem xM{d:Int×Int}{num den:Int}(h:pP (d,())=some (false,())∨(pP (d,())=some (true,())∧¬ (1≤num∧num≤1000000000∧1≤den∧den≤1000000000))) :
  Fb (d,num,den,())=some ((0,0),false,()):=by
 show Jf Fa d num den=_;unfold Jf;rcases h with h | ⟨h,hb⟩
 ·rw[h,zB]
  dsimp only;rw[if_pos (by decide)];rfl
 ·rw[h,zB]
  dsimp only;rw[if_neg (by decide)];by_cases b1:num<1
  ·rw[if_pos (bg.2 b1)];rfl
  rw[if_neg (fun e=>b1 (bg.1 e))];by_cases b2:1000000000<num
  ·rw[if_pos (fC.2 b2)];rfl
  rw[if_neg (fun e=>b2 (fC.1 e))];by_cases b3:den<1
  ·rw[if_pos (bg.2 b3)];rfl
  rw[if_neg (fun e=>b3 (bg.1 e)),fC.2 (show 1000000000<den by omega)];rfl
theorem al4{a b:Nat}(h:a*b≤9223372036854775807):mul .i64 (a:Int) (b:Int)=((a*b:Nat):Int):=by rw[MJ (by rw[<- Int.natCast_mul];omega) (by rw[<- Int.natCast_mul];omega)];simp
theorem ahL(sg:Bool)(v:Nat):rem (sgn sg v) 10=0↔v%10=0:=by
 unfold rem sgn
 cases sg with
 | true =>
  rw[if_pos rfl,Int.neg_tmod];show -((v%10:Nat):Int)=0↔_;omega
 | false =>
  show ((v%10:Nat):Int)=0↔_;omega
theorem Kh{sg:Bool}{v w:Nat}(h:v*w≤9223372036854775807):mul .i64 (sgn sg v) (w:Int)=sgn sg (v*w):=by
 unfold sgn
 cases sg with
 | true =>
  rw[if_pos rfl,if_pos rfl];have:-(v:Int)*(w:Int)=-((v*w:Nat):Int):=by rw[Int.neg_mul];simp
  rw[MJ (by rw[this];omega) (by rw[this];omega),this]
 | false =>
  show mul .i64 (v:Int) (w:Int)=((v*w:Nat):Int);exact al4 h
end Go.Proofs.Lx
end
noncomputable section
namespace Go.Proofs.Lx
open Go Ev Sx Pl
set_option maxRecDepth 10000
end Go.Proofs.Lx
end
noncomputable section
namespace Go.Proofs.Lx
open Go Ev Sx Pl
set_option maxRecDepth 10000
end Go.Proofs.Lx
end
noncomputable section
namespace Go.Proofs.Lx
open Go Ev Sx Pl
set_option maxRecDepth 100000
theorem akp{D n:Nat}(hle:n≤1000000000000):n*10 ^ (6 - D)≤1000000000000000000:=by have hpow:10 ^ (6 - D)≤10 ^ 6:=Nat.pow_le_pow_right (by omega) (by omega);have:n*10 ^ (6 - D)≤1000000000000*10 ^ 6:=Nat.mul_le_mul hle hpow;omega
def cmI(x y:Int):Int:=if lt x y then -1 else if gt x y then 1 else 0
theorem ahM{a b:Int×Int}{s1 s2:Bool}{n1p n2 D1 D2:Nat}(ha:RtD a s1 n1p D1)(hb:RtD b s2 n2 D2) :
  yh (a,b,())=some (cmI (sgn s1 (n1p*10 ^ (6 - D1))) (sgn s2 (n2*10 ^ (6 - D2))),()):=by
 have h1:=ha.d6;have h2:=hb.d6;have e1:a.1=sgn s1 n1p:=ha.e1;have e2:b.1=sgn s2 n2:=hb.e1;have l1:=akp (D:=D1) ha.le;have l2:=akp (D:=D2) hb.le;show Vv Vx a b=_;unfold Vv;rw[ha.right,zB];dsimp only;rw[if_neg (by decide),hb.right,zB];dsimp only;unfold Vx acC cmI;rw[if_neg (by decide),ha.e2,hb.e2,lY (by omega) (by omega),lY (by omega) (by omega)];have q1:Sx.sub .i64 6 (D1:Int)=((6 - D1:Nat):Int):=by rw[iR (by omega) (by omega)];omega
 have q2:Sx.sub .i64 6 (D2:Int)=((6 - D2:Nat):Int):=by rw[iR (by omega) (by omega)];omega
 rw[q1,q2,vZ (by omega),zB,vZ (by omega),zB];dsimp only;rw[e1,e2,Kh (by omega),Kh (by omega)];split
 ·rfl
 ·split<;>rfl
def knS(name:List UInt8):Option (List UInt8×Int×Int) :=
 if eqs [] name=true then some ([],1,1) else if eqs [37] name=true then some ([],1,1) else if eqs [109] name=true then some ([109],1,1) else if eqs [99,109] name=true then some ([109],1,100) else if eqs [109,109] name=true then some ([109],1,1000) else if eqs [115] name=true then some ([115],1,1) else if eqs [109,115] name=true then some ([115],1,1000) else if eqs [109,105,110] name=true then some ([115],60,1) else if eqs [104] name=true then some ([115],3600,1) else if eqs [98,97,114] name=true then some ([98,97,114],1,1) else if eqs [109,98,97,114] name=true then some ([98,97,114],1,1000) else if eqs [107,80,97] name=true then some ([98,97,114],1,100) else if eqs [107,103] name=true then some ([107,103],1,1) else if eqs [103] name=true then some ([107,103],1,1000) else if eqs [116] name=true then some ([107,103],1000,1) else if eqs [108] name=true then some ([108],1,1) else if eqs [109,108] name=true then some ([108],1,1000) else if eqs [67] name=true then some ([67],1,1) else none
theorem aac(x:List UInt8):VK (x,())=some ((knS x).getD ([],0,0),(knS x).isSome,()):=rfl
theorem aad{d:Int×Int}(h0:0≤d.2)(num den:Int):∃r:(Int×Int)×Bool,Fb (d,num,den,())=some (r.1,r.2,()):=by
 have hr:=right_eq d
 cases hg:rgt d with
 | false =>
  rw[hg]at hr;exact⟨((0,0),false),xM (.inl hr)⟩
 | true =>
  rw[hg]at hr;by_cases hb:1≤num∧num≤1000000000∧1≤den∧den≤1000000000
  ·obtain⟨sg,n,D,hd⟩:=wo hg h0
   have e1:num=(num.toNat:Int):=by omega
   have e2:den=(den.toNat:Int):=by omega
   rw[e1,e2];exact⟨_,Ql hd (by omega) (by omega)⟩
  ·exact⟨((0,0),false),xM (.inr ⟨hr,hb⟩)⟩
theorem Ki{d:Int×Int}(h0:0≤d.2)(t:Bool)(a b:Int)(x y:List UInt8×Int×Int) :
  ∃r:(Int×Int)×Bool,sJ t d.1 d.2 a b x.1 x.2.1 x.2.2 y.1 y.2.1 y.2.2=some (r.1,r.2,())∧True:=by
 unfold sJ Vu
 cases t with
 | true=>exact⟨((0,0),false),rfl,trivial⟩
 | false =>
  rw[if_neg (by decide)];obtain⟨r,h1⟩:=aad (d:=(d.1,d.2)) h0 (mul .i64 x.2.1 y.2.2) (mul .i64 x.2.2 y.2.1);rw[h1];exact⟨r,rfl,trivial⟩
theorem ahN{d:Int×Int}(h0:0≤d.2)(f t:List UInt8):∃r:(Int×Int)×Bool,yg (d,f,t,())=some (r.1,r.2,())∧True:=by
 have e1:yg (d,f,t,())=(if (!(knS f).isSome)=true then sJ true d.1 d.2 0 0 ((knS f).getD ([],0,0)).1 ((knS f).getD ([],0,0)).2.1 ((knS f).getD ([],0,0)).2.2 ((knS t).getD ([],0,0)).1 ((knS t).getD ([],0,0)).2.1 ((knS t).getD ([],0,0)).2.2 else if (!(knS t).isSome)=true then sJ true d.1 d.2 0 0 ((knS f).getD ([],0,0)).1 ((knS f).getD ([],0,0)).2.1 ((knS f).getD ([],0,0)).2.2 ((knS t).getD ([],0,0)).1 ((knS t).getD ([],0,0)).2.1 ((knS t).getD ([],0,0)).2.2 else sJ (nes ((knS f).getD ([],0,0)).1 ((knS t).getD ([],0,0)).1) d.1 d.2 0 0 ((knS f).getD ([],0,0)).1 ((knS f).getD ([],0,0)).2.1 ((knS f).getD ([],0,0)).2.2 ((knS t).getD ([],0,0)).1 ((knS t).getD ([],0,0)).2.1 ((knS t).getD ([],0,0)).2.2):=rfl;rw[e1];generalize (knS f).getD ([],0,0)=x;generalize (knS t).getD ([],0,0)=y;split
 ·exact Ki h0 _ _ _ x y
 ·split
  ·exact Ki h0 _ _ _ x y
  ·exact Ki h0 _ _ _ x y
theorem akq(x:Int):IntKind.u16.wrap x=x%65536:=by simp only[IntKind.wrap,IntKind.signed,IntKind.bits];simp
def X5(signed:Bool)(X:Int):Int×Bool:=if signed then (if -32768≤X∧X≤32767 then (X%65536,true) else (0,false)) else if 0≤X∧X≤65535 then (X,true) else (0,false)
theorem Qm(signed:Bool)(X:Int)(t:Bool)(ht:t=true↔(X < -32768∨65536≤X)):VF signed X t=some ((X5 signed X).1,(X5 signed X).2,()):=by
 unfold VF acK X5;by_cases h:t=true
 ·have hX:=ht.1 h
  rw[if_pos h]
  cases signed with
  | true=>rw[if_pos rfl,if_neg (by omega)]
  | false=>rw[if_neg (show ¬ (false=true) by decide),if_neg (by omega)]
 ·have hX:¬ (X < -32768∨65536≤X):=fun e=>h (ht.2 e)
  rw[if_neg h]
  cases signed with
  | true =>
   rw[if_pos (show (true=true) from rfl),if_pos (show (true=true) from rfl)];show zA (VA VB X) _=_;unfold VA VB acE;rw[if_neg (by rw[bg];omega)];by_cases h2:X≤32767
   ·rw[if_neg (by rw[dN];omega),if_pos ⟨by omega,h2⟩]
    show some (IntKind.u16.wrap X,true,())=_;rw[akq]
   ·rw[if_pos (by rw[dN];omega),if_neg (by omega)]
    rfl
  | false =>
   rw[if_neg (show ¬ (false=true) by decide),if_neg (show ¬ (false=true) by decide)];by_cases h2:X<0
   ·rw[if_pos (bg.2 h2),if_neg (by omega)]
   ·rw[if_neg (fun e=>h2 (bg.1 e)),if_pos ⟨by omega,by omega⟩]
    show some (IntKind.u16.wrap X,true,())=_;rw[akq,Int.emod_eq_of_lt (by omega) (by omega)]
theorem al5{sg:Bool}{v:Nat}(h:v≤1000000000000000000):-1000000000000000000≤sgn sg v∧sgn sg v≤1000000000000000000:=by unfold sgn;split<;>omega
theorem aae{d:Int×Int}(h0:0≤d.2)(digits:Int)(signed:Bool):∃r:Int×Bool,Fe (d,digits,signed,())=some (r.1,r.2,())∧True:=by
 have e1:Fe (d,digits,signed,())=VE OT d digits signed:=rfl;have bad1:OT digits signed true d=some (0,false,()):=rfl;rw[e1];unfold VE;rw[right_eq,zB];dsimp only
 cases hg:rgt d with
 | false=>exact⟨(0,false),by rw[if_pos (show ((!false)=true) from rfl),bad1],trivial⟩
 | true =>
  obtain⟨sg,n,D,hd⟩:=wo hg h0;have hD:=hd.d6;rw[if_neg (show ¬ ((!true)=true) by decide),hd.e2,lY (by omega) (by omega)];by_cases q:(D:Int)≤digits∧digits≤6
  ·obtain⟨g,rfl⟩:∃g:Nat,digits=(g:Int):=⟨digits.toNat,by omega⟩
   have hX:n*10 ^ (g - D)≤1000000000000000000:=by have hpow:10 ^ (g - D)≤10 ^ 6:=Nat.pow_le_pow_right (by omega) (by omega);have:=Nat.mul_le_mul hd.le hpow;omega
   have hb:=al5 (sg:=sg) hX;refine⟨X5 signed (sgn sg (n*10 ^ (g - D))),?_,?_⟩
   ·rw[if_neg (by rw[bg];omega)]
    have:gt (g:Int) 6=false:=by rw[O9,decide_eq_false];omega
    rw[this];unfold OT acJ;rw[if_neg (show ¬ (false=true) by decide),hd.e2,lY (by omega) (by omega)];have e3:Sx.sub .i64 (g:Int) (D:Int)=((g - D:Nat):Int):=by rw[iR (by omega) (by omega)];omega
    have e4:d.1=sgn sg n:=hd.e1;rw[e3,vZ (by omega),zB];dsimp only;rw[e4,Kh (by omega)];generalize sgn sg (n*10 ^ (g - D))=X at hb ⊢;by_cases h1:X < -32768
    ·rw[if_pos (bg.2 h1)]
     exact Qm signed X true (by simp[h1])
    ·rw[if_neg (fun e=>h1 (bg.1 e))]
     refine Qm signed X _ ?_;rw[dN];omega
   ·trivial
  ·refine⟨(0,false),?_,?_⟩
   ·by_cases h1:digits<(D:Int)
    ·rw[if_pos (bg.2 h1)]
     exact bad1
    ·rw[if_neg (fun e=>h1 (bg.1 e)),fC.2 (show 6<digits by omega)]
     exact bad1
   ·trivial
end Go.Proofs.Lx
end
noncomputable section
set_option maxRecDepth 100000
namespace Go.Proofs.Lx
open Go Ev Sx Pl
end Go.Proofs.Lx
end
