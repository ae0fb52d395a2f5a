/- Proved in the last of these 20 parts (this is part 18): SlaveTells. Conditions: those of the given statement, and no others. -/
import Derived.Test.YtkcmbampiiolbaaGreatPartp
import Derived.Test.YtkcmbampiiolbaaGreatPartq
set_option linter.unusedVariables false
set_option linter.unusedSimpArgs false
set_option linter.unusedSectionVars false
open Option renaming bind → zC, bind_some → zD
open List renaming replicate → zE, getElem?_eq_getElem → zU, getElem?_eq_some_iff → zV, getD_eq_getElem?_getD → zW, mem_of_getElem? → zX, length_append → zY, length_take → kA, length_replicate → kC
open Int renaming ofNat → zF, eq_ofNat_of_zero_le → zN, toNat_natCast → zP
open Bool renaming and_eq_true → zO
noncomputable section
namespace Go.Proofs.Lx
open Go Ev Sx Pl
set_option maxRecDepth 100000
theorem mY{σ R α:Type}{F:(σ->Option R)->σ->Option R}{mk:Nat->σ}{xs:List α}{p:Nat->α->Bool}{r0 fin:Option R}
  (hs:∀self i x,xs[i]? = some x->F self (mk i)=if p i x=true then self (mk (i+1)) else r0) (he:∀self,F self (mk xs.length)=fin) :
  ∀(k i n:Nat),i+k=xs.length->k<n->∃b:Bool,(b=true ↔ ∀j x,i≤j->xs[j]? = some x->p j x=true)∧ay F n (mk i)=if b=true then fin else r0
 | _,_,0,_,h=>by omega
 | 0,i,n+1,h,_=>by
  have:i=xs.length:=by omega
  subst this;refine⟨true,⟨fun _ j x hj hx=>?_,fun _=>rfl⟩,by rw[kP,he,if_pos rfl]⟩;rw[List.getElem?_eq_none (by omega)]at hx;cases hx
 | k+1,i,n+1,h,hn=>by
  have hx:xs[i]? = some (xs[i]'(by omega)):=zU (by omega);rw[kP,hs _ _ _ hx]
  cases hp:p i (xs[i]'(by omega)) with
  | true =>
   obtain⟨b,h1,h2⟩:=mY hs he k (i+1) n (by omega) (by omega);refine⟨b,h1.trans ⟨fun hh j x hj hx'=>?_,fun hh j x hj=>hh j x (by omega)⟩,by rw[if_pos rfl,h2]⟩;rcases Nat.eq_or_lt_of_le hj with e | e
   ·subst e;rw[hx]at hx';cases hx';exact hp
   ·exact hh j x e hx'
  | false =>
   refine⟨false,⟨fun e=>(by cases e),fun hh=>?_⟩,by rw[if_neg (by decide),if_neg (by decide)]⟩;rw[<- hp];exact hh i _ (Nat.le_refl _) hx
theorem aBj{n:Nat}(h:n<4294967296):(BitVec.ofInt IntKind.u32.bits (n:Int)).toNat=n:=by
 rw[BitVec.toNat_ofInt];have:((2 ^ IntKind.u32.bits:Nat):Int)=4294967296:=by decide
 grind
theorem Tx(a b:Int):0≤iA .u32 a b∧iA .u32 a b≤4294967295:=by grind[iA,sH]
theorem aBk{x:Int}:shr .u32 x 1=x / 2:=by
 have:min (1:Int).toNat IntKind.u32.bits=1:=by decide
 simp_all[shr,Int.fdiv_eq_ediv_of_nonneg]
theorem aOP{n:Nat}(h:n<4294967296):kK .u32 (n:Int) 1=((n%2:Nat):Int):=by unfold kK;rw[sH,BitVec.toNat_and,aBj h,show (1:Int)=((1:Nat):Int) from rfl,aBj (by omega),Nat.and_one_is_mod];omega
theorem aPH{s:Int}(h0:0≤s)(h1:s≤4294967295):shV s=(if eqi (rem s 2) 1=true then iA .u32 (quo .u32 s 2) 3988292384 else quo .u32 s 2):=by
 obtain⟨n,rfl⟩:=zN h0;have e1:rem (n:Int) 2=((n%2:Nat):Int):=jK (d:=2)
 have e2:quo .u32 (n:Int) 2=(n:Int) / 2:=by
  unfold quo;have e:(n:Int).tdiv 2=((n / 2:Nat):Int):=by rfl
  grind[sH]
 grind[shV,aOP,aBk]
theorem qZ{s:Int}(h0:0≤s)(h1:s≤4294967295):0≤shV s∧shV s≤4294967295:=by
 unfold shV;split
 ·exact Tx _ _
 grind[aBk]
theorem aOQ{s:Int}(b:Int):Mk (s,b,())=some (uD s b,()):=by
 show RO (iA .u32 s (cvt .u32 b)) 0=_;have hr:=Tx s (cvt .u32 b);unfold uD;generalize iA .u32 s (cvt .u32 b)=x at hr ⊢;have st:∀n x (i:Int),lt i 8=true->(0≤x∧x≤4294967295)->ay (fun (self:Int×Int->Option (As [.int .u32])) (s:Int×Int)=>RL (RN (fun a b=>self (a,b))) (fun a b=>self (a,b)) s.1 s.2) (n+1) (x,i)=ay (fun (self:Int×Int->Option (As [.int .u32])) (s:Int×Int)=>RL (RN (fun a b=>self (a,b))) (fun a b=>self (a,b)) s.1 s.2) n (shV x,add .i64 i 1):=fun n x i h hx=>by rw[kP,aPH hx.1 hx.2];unfold RL;rw[if_pos h];unfold RN agb;split<;>rfl
 have r1:=qZ hr.1 hr.2;have r2:=qZ r1.1 r1.2;have r3:=qZ r2.1 r2.2;have r4:=qZ r3.1 r3.2;have r5:=qZ r4.1 r4.2;have r6:=qZ r5.1 r5.2;have r7:=qZ r6.1 r6.2;unfold RO;rw[st _ _ _ (by rfl) hr,st _ _ _ (by rfl) r1,st _ _ _ (by rfl) r2,st _ _ _ (by rfl) r3,st _ _ _ (by rfl) r4,st _ _ _ (by rfl) r5,st _ _ _ (by rfl) r6,st _ _ _ (by rfl) r7];rfl
theorem ay6{b:List Int}(h:b.length≤1000000):Ml (b,())=some (JY (b.foldl uD 4294967295),()):=by
 have K:agh (4294967295,b,())=some (b.foldl uD 4294967295,()):=by
  show RQ 4294967295 b 0=_;unfold RQ;refine (nX (xs:=b) (mk:=fun i acc=>(acc,b,(i:Int))) (stp:=uD) (fin:=fun acc=>some (acc,())) (fun _ _=>True) ?_ (fun _ _ _ _ _=>trivial) ?_ b.length 0 4294967295 _ (by omega) (by omega) trivial)
  ·intro self i acc x hx _
   have hi:=(List.getElem?_eq_some_iff.1 hx).1;show RP _ acc b (i:Int)=_;unfold RP;rw[if_pos (by grind[cr,bu]),d9 hx,zD,aOQ,zD,gJ (by omega)]
  simp_all[RP,Int,if_neg,cr,bu]
 show agi b=_;unfold agi;rw[K,zD];have e:∀s,JY s=iA .u32 s 4294967295:=fun s=>by show iA .u32 4294967295 s=_;simp_all[iA,BitVec.xor_comm]
 rw[e]
theorem ay7{l:List Int}(h:l.length≤100000)(hr:∀x∈l,0≤x∧x≤65535):agn (l,())=some (Bv l,()):=by
 show RU l 0 []=_;unfold RU;have hn:l.flatMap two=[]++l.flatMap two:=rfl;unfold Bv;rw[hn,<- kQ];refine (nX (xs:=l) (mk:=fun i acc=>(l,(i:Int),acc)) (stp:=fun o x=>o++two x) (fin:=fun acc=>some (JY (acc.foldl uD 4294967295),())) (fun i acc=>acc.length=2*i) ?_ ?_ ?_ l.length 0 [] _ (by omega) (by omega) rfl)
 ·intro self i acc x hx ha
  have hi:=(List.getElem?_eq_some_iff.1 hx).1;have hx2:=hr x (zX hx);show I8 _ _ l (i:Int) acc=_;unfold I8
  have e2:[cvt .u8 (quo .u16 x 256),cvt .u8 (rem x 256)]=two x:=by
   obtain⟨n,rfl⟩:=zN hx2.1;have e1:rem (n:Int) 256=((n%256:Nat):Int):=jK (d:=256)
   have e3:quo .u16 (n:Int) 256=((n / 256:Nat):Int):=by
    unfold quo;have e:(n:Int).tdiv 256=((n / 256:Nat):Int):=by rw[show (256:Int)=((256:Nat):Int) from rfl,Int.ofNat_tdiv]
    rw[yt,e];omega
   rw[e1,e3,jU,jU];unfold two;have a1:((n / 256:Nat):Int)%256=(n:Int) / 256%256:=by omega
   have a2:((n%256:Nat):Int)%256=(n:Int)%256:=by omega
   rw[a1,a2]
  rw[if_pos (by grind[cr,bu]),d9 hx,zD,zD,gZ (by omega),gJ (by omega),e2]
 ·intro i acc x hx ha
  simp[two,ha];omega
 ·intro self acc ha
  show I8 _ _ l (l.length:Int) acc=_;unfold I8;rw[if_neg (by grind[cr,bu])];show agm acc=_;unfold agm;rw[ay6 (by omega)];rfl
theorem wC{x:fq}:qO (x,())=some (fitsB x,()):=by
 obtain⟨p,w⟩:=x;show adB adD (p,w)=_;unfold adB;have K1:∀b,adD b (p,w)=if b=true then some (false,()) else adC 0 (p,w):=fun b=>rfl;dsimp only;by_cases h1:14<w.length
 ·rw[if_pos (by grind[iD,bu]),K1,if_pos rfl]
  unfold fitsB;rw[decide_eq_false (by rintro⟨h,_⟩;simp only at h;omega)]
 rw[if_neg (by grind[iD,bu])];by_cases h2:p<0
 ·rw[if_pos (cr.2 h2),K1,if_pos rfl]
  unfold fitsB;rw[decide_eq_false (by rintro⟨_,h,_⟩;simp only at h;omega)]
 rw[if_neg (fun e=>h2 (cr.1 e)),K1];by_cases h3:63<p
 ·rw[if_pos (iD.2 h3)]
  unfold fitsB;rw[decide_eq_false (by rintro⟨_,_,h,_⟩;simp only at h;omega)]
 rw[if_neg (fun e=>h3 (iD.1 e))];unfold adC
 have hs:∀(self:Int×fq->Option (As [.bool])) (i:Nat) (x:Int),w[i]? = some x->DZ (fun i x=>self (i,x)) (i:Int) (p,w)=if decide (p+(i:Int)≤63)=true then self (((i+1:Nat):Int),(p,w)) else some (false,()):=by
  intro self i x hx;have hi:=(List.getElem?_eq_some_iff.1 hx).1;unfold DZ;dsimp only;rw[if_pos (by grind[cr,bu]),iF (by omega) (by omega),gJ (by omega)];by_cases hq:p+(i:Int)≤63
  ·rw[if_neg (by rw[iD];omega),if_pos (decide_eq_true hq)]
  ·rw[if_pos (by rw[iD];omega),if_neg (by simpa using hq)]
 have he:∀self:Int×fq->Option (As [.bool]),DZ (fun i x=>self (i,x)) (w.length:Int) (p,w)=some (true,()):=by intro self;unfold DZ;rw[if_neg (by grind[cr,bu])]
 obtain⟨b,h4,h5⟩:=mY (F:=fun self s=>DZ (fun i x=>self (i,x)) s.1 s.2) (mk:=fun i=>((i:Int),(p,w))) (p:=fun i _=>decide (p+(i:Int)≤63)) hs he w.length 0 18446744073709551616 (by omega) (by omega);refine Eq.trans h5 ?_
 have:b=fitsB (p,w):=by
  apply Bool.eq_iff_iff.2;rw[h4];unfold fitsB;rw[decide_eq_true_eq];dsimp only;constructor
  ·intro hh
   refine⟨by omega,by omega,by omega,?_⟩;by_cases h0:w.length=0
   ·omega
   ·have:=hh (w.length - 1) (w[w.length - 1]'(by omega)) (by omega) (zU (by omega))
    have:=of_decide_eq_true this;omega
  ·rintro⟨_,_,_,h⟩ j x _ hx
   have:=(List.getElem?_eq_some_iff.1 hx).1;exact decide_eq_true (by omega)
 rw[<- this];cases b<;>rfl
theorem aBl{l:List fq}(h:l.length≤1000000):Mq (l,())=some (l.all fitsB,()):=by
 show RY l 0=_;unfold RY;have hs:∀(self:List fq×Int->Option (As [.bool])) (i:Nat) (x:fq),l[i]? = some x->Ed (fun l i=>self (l,i)) l (i:Int)=if fitsB x=true then self (l,((i+1:Nat):Int)) else some (false,()):=by intro self i x hx;have hi:=(List.getElem?_eq_some_iff.1 hx).1;unfold Ed;rw[if_pos (by grind[cr,bu]),d9 hx,zD,wC,zD,gJ (by omega)];grind
 have he:∀self:List fq×Int->Option (As [.bool]),Ed (fun l i=>self (l,i)) l (l.length:Int)=some (true,()):=by simp_all[Ed,if_neg,cr,bu]
 obtain⟨b,h4,h5⟩:=mY (F:=fun self s=>Ed (fun l i=>self (l,i)) s.1 s.2) (mk:=fun i=>(l,(i:Int))) (p:=fun _ x=>fitsB x) hs he l.length 0 18446744073709551616 (by omega) (by omega);refine Eq.trans h5 ?_;have:b=l.all fitsB:=by apply Bool.eq_iff_iff.2;grind[List.all_eq_true,List.getElem?_of_mem,zX]
 grind
theorem Tz(l:TLs):QX (l,())=some (decide ((l.1=0∧l.2=0)∨(l.1≠0∧(1≤l.2∨l.2=-1))),()):=by
 show adE l=_;unfold adE;by_cases h:l.1=0
 ·rw[if_pos (au.2 h)]
  congr 2
  apply Bool.eq_iff_iff.2;simp_all[au]
 ·rw[if_neg (fun e=>h (au.1 e))]
  by_cases h2:0<l.2
  ·rw[if_pos (iD.2 h2),decide_eq_true (.inr ⟨h,.inl h2⟩)]
  ·rw[if_neg (fun e=>h2 (iD.1 e))]
   congr 2
   apply Bool.eq_iff_iff.2;grind[au]
theorem ay8{l:TLs}(h:jq l):Mh (l,())=some (decide (l.1=0),()):=by
 have h1:ad1 (l,())=some (l,()):=by show adZ l=_;grind[adZ,Tz,jq,decide_eq_true]
 show ad2 l=_;unfold ad2;rw[h1,zD];rfl
theorem at1{α:Type}(x:α):at? [x] 0=some x:=rfl
theorem st1{α:Type}(x y:α):List.set [x] (Int.toNat 0) y=[y]:=rfl
def mxR{α:Type}(xs:List α)(d:α)(i:Nat):List α:=xs.take i++zE (xs.length - i) d
theorem alX{α:Type}{xs:List α}{d:α}{i:Nat}(h:i<xs.length):(mxR xs d i)[i]? = some d:=by unfold mxR;grind
theorem UU{α:Type}{xs:List α}{d x:α}{i:Nat}(h:xs[i]? = some x):(mxR xs d i).set i x=mxR xs d (i+1):=by
 have hi:=(List.getElem?_eq_some_iff.1 h).1;unfold mxR;have e:xs.length - i=(xs.length - (i+1))+1:=by omega
 grind[Fg,zE,kA,Nat.min_eq_left,List.take_add_one]
theorem TC{α:Type}{xs:List α}{d:α}{i:Nat}(h:xs[i]? = some d):mxR xs d i=mxR xs d (i+1):=by
 have hi:=(List.getElem?_eq_some_iff.1 h).1;unfold mxR;have e:xs.length - i=(xs.length - (i+1))+1:=by omega
 simp_all[List.replicate_succ,List.take_add_one]
theorem UW{α:Type}{xs:List α}{d:α}:mxR xs d xs.length=xs:=by simp[mxR]
theorem J5{s:jH}(hh:s.2.1.length=8)(hb:s.2.2.length=8)(hw:∀b∈s.2.2,b.2.length≤1000):AL (s,())=some ((s.1,s.2.1,nzB s.2.1 s.2.2),()):=by
 obtain⟨st,hv,bs⟩:=s;dsimp only at hh hb hw ⊢;have hn:=oK hh hb;have l1:[false,false,false,false,false,false,false,false]=mxR hv false 0:=by simp_all[mxR]
 have l2:[(0,[]),(0,[]),(0,[]),(0,[]),(0,[]),(0,[]),(0,[]),(0,[])]=mxR (nzB hv bs) zB 0:=by unfold mxR;rw[hn];rfl
 show QT (st,hv,bs) 0 0 0 [zSt] [(st,[false,false,false,false,false,false,false,false],[(0,[]),(0,[]),(0,[]),(0,[]),(0,[]),(0,[]),(0,[]),(0,[])])]=_;rw[l1,l2];unfold QT;refine jV (N:=8) (mk:=fun i=>((st,hv,bs),0,0,(i:Int),[zSt],[(st,mxR hv false i,mxR (nzB hv bs) zB i)])) ?_ ?_ 8 0 _ (by omega) (by omega)
 ·intro self i hi
  show QS (adu _) _ (st,hv,bs) 0 0 (i:Int) [zSt] [(st,mxR hv false i,mxR (nzB hv bs) zB i)]=self ((st,hv,bs),0,0,((i+1:Nat):Int),[zSt],[(st,mxR hv false (i+1),mxR (nzB hv bs) zB (i+1))]);obtain⟨z,hz⟩:=iO (xs:=hv) (i:=i) (by omega);obtain⟨c,hc⟩:=iO (xs:=bs) (i:=i) (by omega);have hnz:=Fw hz hc;have l8:lt (i:Int) 8=true:=cr.2 (by omega);have g0:ge (i:Int) 0=true:=gU.2 (by omega);have a1:=alX (xs:=hv) (d:=false) (i:=i) (by omega);have a2:=alX (xs:=nzB hv bs) (d:=zB) (i:=i) (by omega);have cl:=hw c (zX hc);unfold QS;rw[if_pos l8,d9 hz,zD]
  cases z with
  | true =>
   rw[if_pos rfl]at hnz;have s1:=UU (d:=false) hz;have s2:=UU (d:=zB) hnz;have b1:((mxR (nzB hv bs) zB i).set i (c.1,zB.2))[i]? = some (c.1,zB.2):=by grind
   rw[if_pos rfl];simp only[gy g0,gy l8,at1,st1,zD,d9 a1,d9 hc,d9 a2,zP,d9 b1];rw[gy (show eqi (zF zB.2.length) 0=true from rfl),gZ (by omega),List.set_set];show self ((st,hv,bs),0,0,add .i64 (i:Int) 1,[zSt],[(st,(mxR hv false i).set i true,(mxR (nzB hv bs) zB i).set i c)])=_;grind[gJ]
  | false =>
   rw[if_neg (by decide)]at hnz ⊢;rw[<- TC hz,<- TC hnz];show self ((st,hv,bs),0,0,add .i64 (i:Int) 1,[zSt],_)=_;grind[gJ]
 ·intro self
  show QS (adu _) _ (st,hv,bs) 0 0 (8:Int) [zSt] [(st,mxR hv false 8,mxR (nzB hv bs) zB 8)]=_;have e1:mxR hv false 8=hv:=by grind[UW]
  have e2:mxR (nzB hv bs) zB 8=nzB hv bs:=by grind[UW]
  rw[e1,e2];rfl
theorem qc{s:jH}(hh:s.2.1.length=8)(hb:s.2.2.length=8)(hw:∀b∈s.2.2,b.2.length≤1000):qw (s,())=some (gQ s.2.1 s.2.2,()):=by
 have hc:=J5 hh hb hw;obtain⟨st,hv,bs⟩:=s;dsimp only at hh hb hw hc ⊢;have hn:=oK hh hb;show adw Ii (st,hv,bs)=_;unfold adw;rw[hc,zD,<- wB];show Ii 0 0 [] [(st,hv,nzB hv bs)]=_;generalize nzB hv bs=bn at hn;unfold Ii;refine jV (N:=8) (mk:=fun i=>(0,(i:Int),gQ (hv.take i) (bn.take i),[(st,hv,bn)])) ?_ ?_ 8 0 _ (by omega) (by omega)
 ·intro self i hi
  show Ih (adx _) _ 0 (i:Int) (gQ (hv.take i) (bn.take i)) [(st,hv,bn)]=self (0,((i+1:Nat):Int),gQ (hv.take (i+1)) (bn.take (i+1)),[(st,hv,bn)]);obtain⟨z,hz⟩:=iO (xs:=hv) (i:=i) (by omega);obtain⟨c,hc⟩:=iO (xs:=bn) (i:=i) (by omega);have l8:lt (i:Int) 8=true:=cr.2 (by omega);have g0:ge (i:Int) 0=true:=gU.2 (by omega);have hle:(gQ (hv.take i) (bn.take i)).length≤8:=by grind[qb,kA]
  rw[Kv hz hc];unfold Ih;simp only[if_pos l8,gy g0,gy l8,at1,zD,d9 hz,d9 hc]
  cases z with
  | true =>
   rw[if_pos rfl,gZ (by omega)];show self (0,add .i64 (i:Int) 1,_,_)=_;grind[gJ]
  | false =>
   rw[if_neg (by decide)];show self (0,add .i64 (i:Int) 1,_,_)=_;grind[gJ]
 ·intro self
  show Ih (adx _) _ 0 (8:Int) (gQ (hv.take 8) (bn.take 8)) [(st,hv,bn)]=_;unfold Ih;rw[if_neg (by decide),List.take_of_length_le (by omega),List.take_of_length_le (by omega)]
theorem TD{x:fq}:AR (x,())=some (itB x,()):=by
 show aeb Q8 x=_;unfold aeb itB;rw[wC,zD];by_cases hf:fitsB x=true
 ·have hf2:=of_decide_eq_true hf
  obtain⟨p,w⟩:=x;dsimp only at hf2 ⊢;rw[if_neg (by simp_all),if_pos hf];have e1:cvt .u16 p=p:=by grind[oI]
  have e2:cvt .u16 (zF w.length)=(w.length:Int):=by grind[oI,bu]
  rw[e1,e2];have hin:[p,(w.length:Int),0,0,0,0,0,0,0,0,0,0,0,0,0,0]=p::(w.length:Int)::(w.take 0++zE (14 - 0) 0):=rfl;rw[hin];unfold Q8;refine jV (N:=w.length) (mk:=fun i=>((i:Int),(p,w),p::(w.length:Int)::(w.take i++zE (14 - i) 0))) ?_ ?_ w.length 0 _ (by omega) (by omega)
  ·intro self i hi
   show Q7 _ (i:Int) (p,w) (p::(w.length:Int)::(w.take i++zE (14 - i) 0))=self (((i+1:Nat):Int),(p,w),p::(w.length:Int)::(w.take (i+1)++zE (14 - (i+1)) 0));obtain⟨c,hc⟩:=iO hi;have e3:zE (14 - i) (0:Int)=0::zE (14 - (i+1)) 0:=by rw[show 14 - i=(14 - (i+1))+1 by omega,List.replicate_succ]
   have hs:=Fg (p::(w.length:Int)::w.take i) 0 c (zE (14 - (i+1)) 0);have hl:(p::(w.length:Int)::w.take i).length=i+2:=by grind
   rw[hl]at hs;have ha:(p::(w.length:Int)::(w.take i++0::zE (14 - (i+1)) 0))[i+2]? = some 0:=by simp_all
   have e4:add .i64 2 (i:Int)=((i+2:Nat):Int):=by grind[iF]
   unfold Q7;dsimp only;rw[if_pos (by grind[cr,bu]),d9 hc,zD,e4,e3,d9 ha,zD,zD,zP,gJ (by omega)];have e5:(p::(w.length:Int)::(w.take i++0::zE (14 - (i+1)) 0)).set (i+2) c=p::(w.length:Int)::(w.take (i+1)++zE (14 - (i+1)) 0):=by refine Eq.trans hs ?_;simp_all[List.take_add_one]
   rw[e5]
  simp_all[Q7,Int,zE,if_neg,cr,bu,List.take_length]
 simp_all
theorem Ey{x:Int}(h0:0≤x)(h1:x≤4294967295):cvt .u16 (quo .u32 x 65536)=x / 65536∧cvt .u16 (rem x 65536)=x%65536:=by
 obtain⟨n,rfl⟩:=zN h0;have e1:rem (n:Int) 65536=((n%65536:Nat):Int):=jK (d:=65536);have e2:(n:Int).tdiv 65536=((n / 65536:Nat):Int):=by rfl
 grind[quo,Int,Nat,sH,oI]
theorem ay9{s:jH}{o n:Int}(h0:0≤s.1)(h1:s.1≤4294967295)(hn:0≤n∧n≤7)(hh:s.2.1.length=8)(hb:s.2.2.length=8):aei (s,o,n,())=some (iU s o n,()):=by
 obtain⟨st,hv,bs⟩:=s;obtain⟨k,rfl⟩:=zN hn.1;show aeg aeh (st,hv,bs) o (k:Int)=_;unfold aeg iU;dsimp only at hh hb h0 h1 ⊢;obtain⟨x,hx⟩:=iO (xs:=hv) (i:=k) (by omega);obtain⟨b,hb'⟩:=iO (xs:=bs) (i:=k) (by omega);obtain⟨p1,p2⟩:=Ey h0 h1;rw[if_neg (by grind[cr]),if_neg (by grind[iD]),d9 hx,zD,zP,hx,hb'];show aef o (k:Int) (st,hv,bs) (!x)=_;unfold aef
 cases x with
 | true =>
  have e:cvt .u16 (k:Int)=(k:Int):=by grind[oI]
  rw[if_neg (by decide),d9 hb',zD,TD,zD,gZ (by grind[oL]),p1,p2,e];rfl
 | false=>rfl
theorem atp{x:fq}(hw:∀w∈x.2,0≤w∧w≤65535):∀w∈itB x,0≤w∧w≤65535:=US (fun _=>hw)
theorem aBm{l:List fq}(h:l.length≤1000)(hw:∀b∈l,∀w∈b.2,0≤w∧w≤65535):Mm (l,())=some (sI l,()):=by
 show RV l 0 []=_;unfold RV;have K2:∀all:List Int,all.length≤100000->(∀x∈all,0≤x∧x≤65535)->agw all=some (Bv all,()):=fun all ha hr=>by show agv all=_;grind[agv,ay7]
 have hn:l.flatMap itB=[]++l.flatMap itB:=rfl;unfold sI;rw[hn,<- kQ];refine (nX (xs:=l) (mk:=fun i acc=>(l,(i:Int),acc)) (stp:=fun o x=>o++itB x) (fin:=fun acc=>some (Bv acc,())) (fun i acc=>acc.length=16*i∧∀x∈acc,0≤x∧x≤65535) ?_ ?_ ?_ l.length 0 [] _ (by omega) (by omega) ⟨rfl,fun x hx=>by cases hx⟩)
 ·intro self i acc x hx ha
  have hi:=(List.getElem?_eq_some_iff.1 hx).1;show I9 _ _ l (i:Int) acc=_;unfold I9;rw[if_pos (by grind[cr,bu]),d9 hx,zD,TD,zD,gZ (by grind[oL]),gJ (by omega)]
 ·grind[zY,oL,atp,zX]
 ·intro self acc ha
  show I9 _ _ l (l.length:Int) acc=_;unfold I9;rw[if_neg (by grind[cr,bu]),K2 _ (by omega) ha.2]
theorem atq{s:jH}{n c:Int}(hh:s.2.1.length=8)(hb:s.2.2.length=8)(hw:∀b∈s.2.2,b.2.length≤1000)(hr:∀b∈s.2.2,∀w∈b.2,0≤w∧w≤65535) :
  RX (s,n,c,())=some (decide (0≤n∧n≤8) && (lZ s.2.1 n && decide (sI (gQ s.2.1 s.2.2)=c)),()):=by
 have hblk:=qc hh hb hw;obtain⟨st,hv,bs⟩:=s;dsimp only at hh hb hw hr hblk ⊢;show agC agE (st,hv,bs) n c=_;unfold agC;have K1:∀b,agE n c (st,hv,bs) b=if b=true then some (false,()) else agD n c (st,hv,bs) 0:=fun b=>rfl;by_cases h0:n<0
 ·rw[if_pos (cr.2 h0),K1,if_pos rfl,decide_eq_false (by omega)]
  rfl
 rw[if_neg (fun e=>h0 (cr.1 e)),K1];by_cases h8:8<n
 ·rw[if_pos (iD.2 h8),decide_eq_false (by omega)]
  rfl
 rw[if_neg (fun e=>h8 (iD.1 e)),decide_eq_true (show 0≤n∧n≤8 by omega),Bool.true_and];have K3:Ja c (st,hv,bs)=some (decide (sI (gQ hv bs)=c),()):=by show agB c (st,hv,bs)=_;unfold agB;rw[hblk,zD];dsimp only;rw[aBm (by have:=qb (hv:=hv) (bs:=bs);omega) (fun b hb=>hr b (uz hb)),zD];rfl
 have hs:∀(self:Int×Int×jH×Int->Option (As [.bool])) (i:Nat) (x:Bool),hv[i]? = some x->Ec Ja (fun count check s i=>self (count,check,s,i)) n c (st,hv,bs) (i:Int)=if (x == decide ((i:Int)<n))=true then self (n,c,(st,hv,bs),((i+1:Nat):Int)) else some (false,()):=by intro self i x hx;have hi:=(List.getElem?_eq_some_iff.1 hx).1;unfold Ec;have el:lt (i:Int) n=decide ((i:Int)<n):=rfl;rw[if_pos (by rw[cr];omega),d9 hx,zD,gJ (by omega),el];cases x<;>cases decide ((i:Int)<n)<;>rfl
 have he:∀self:Int×Int×jH×Int->Option (As [.bool]),Ec Ja (fun count check s i=>self (count,check,s,i)) n c (st,hv,bs) (hv.length:Int)=some (decide (sI (gQ hv bs)=c),()):=by intro self;unfold Ec;rw[if_neg (by rw[cr];omega),K3]
 obtain⟨b,h4,h5⟩:=mY (F:=fun self s=>Ec Ja (fun count check s i=>self (count,check,s,i)) s.1 s.2.1 s.2.2.1 s.2.2.2) (mk:=fun i=>(n,c,(st,hv,bs),(i:Int))) (p:=fun i x=>x == decide ((i:Int)<n)) hs he hv.length 0 18446744073709551616 (by omega) (by omega);refine Eq.trans h5 ?_
 have:b=lZ hv n:=by
  apply Bool.eq_iff_iff.2;rw[h4];unfold lZ;rw[decide_eq_true_eq];constructor
  ·intro hh2 i hi
   obtain⟨x,hx⟩:=iO (xs:=hv) (i:=i) (by omega);have:=hh2 i x (by omega) hx;rw[zW,hx];exact beq_iff_eq.1 this
  ·intro hh2 j x _ hx
   have hi:=(List.getElem?_eq_some_iff.1 hx).1;have:=hh2 j (by omega);rw[zW,hx]at this;exact beq_iff_eq.2 this
 rw[<- this];cases b<;>rfl
theorem UX:∀{hv:List Bool} {bs:List fq} {k:Nat} {x:fq},nzB (hv.set k true) (bs.set k x)=(nzB hv bs).set k x
 | [],_,_,_=>by simp[nzB]
 | _::_,[],_,_=>by simp[nzB]
 | h::r,b::q,0,x=>by simp[nzB]
 | h::r,b::q,k+1,x=>by have ih:=UX (hv:=r) (bs:=q) (k:=k) (x:=x);unfold nzB at ih ⊢;simp only[List.set_cons_succ,List.zipWith_cons_cons];rw[ih]
theorem aBn{s:jH}{n:Int}{x:fq}(hh:s.2.1.length=8)(hb:s.2.2.length=8)(hw:∀b∈s.2.2,b.2.length≤1000) :
  R8 (s,n,x,())=some (if n<0∨7<n then (zSt,2,()) else if fitsB x=true then (Es s n.toNat x,0,()) else (zSt,20,())):=by
 have hc:=J5 hh hb hw;obtain⟨st,hv,bs⟩:=s;dsimp only at hh hb hw hc ⊢;have hn:=oK hh hb;show ahx ahy (st,hv,bs) n x=_;unfold ahx;have K1:∀b,ahy n (st,hv,bs) 0 b x [zSt]=ahw n (st,hv,bs) 0 b x [zSt]:=fun b=>rfl;by_cases h0:n<0
 ·rw[if_pos (cr.2 h0),if_pos (.inl h0)]
  rfl
 rw[if_neg (fun e=>h0 (cr.1 e)),K1];by_cases h7:7<n
 ·rw[if_pos (.inr h7),iD.2 h7]
  rfl
 have e7:gt n 7=false:=Bool.eq_false_iff.2 (fun e=>h7 (iD.1 e));rw[if_neg (show ¬ (n<0∨7<n) by omega),e7];obtain⟨k,rfl⟩:=zN (show 0≤n by omega);unfold ahw;rw[if_neg (by decide),wC,zD];by_cases hf:fitsB x=true
 ·have hxl:x.2.length≤14:=(of_decide_eq_true hf).1
  have l8:lt (k:Int) 8=true:=cr.2 (by omega);have g0:ge (k:Int) 0=true:=gU.2 (by omega);obtain⟨z,hz⟩:=iO (xs:=hv) (i:=k) (by omega);obtain⟨c,hcc⟩:=iO (xs:=nzB hv bs) (i:=k) (by omega);have b1:((nzB hv bs).set k (x.1,[]))[k]? = some (x.1,[]):=by grind
  rw[if_neg (by simp_all),hc,if_pos hf];simp only[zD,gy g0,gy l8,d9 hz,d9 hcc,zP,d9 b1,at1];rw[gy (show eqi (zF ([]:List Int).length) 0=true from rfl),gZ (by omega),List.set_set];unfold Es;rw[UX];rfl
 ·rw[if_pos (by simp_all),if_neg hf]
  rfl
theorem kF{w:List Int}{i:Nat}(h:i<w.length):w[i]? = some (w.getD i 0):=by simp_all
theorem aza{a b:List Int}(h:a.length≤1000000):ahc (a,b,())=some (decide (a=b),()):=by
 show aha ahb a b=_;unfold aha;by_cases hl:a.length=b.length
 ·rw[if_neg (by simp_all[cu,bu])]
  have hs:∀(self:List Int×List Int×Int->Option (As [.bool])) (i:Nat) (x:Int),a[i]? = some x->Ee (fun a b i=>self (a,b,i)) a b (i:Int)=if decide (b[i]? = some x)=true then self (a,b,((i+1:Nat):Int)) else some (false,()):=by
   intro self i x hx;have hi:=(List.getElem?_eq_some_iff.1 hx).1;obtain⟨y,hy⟩:=iO (xs:=b) (i:=i) (by omega);unfold Ee;rw[if_pos (by rw[cr,bu];omega),d9 hx,zD,d9 hy,zD,gJ (by omega),hy];by_cases e:x=y
   ·subst e
    rw[if_neg (fun e=>cu.1 e rfl),if_pos (decide_eq_true rfl)]
   ·rw[if_pos (cu.2 e),if_neg (by simpa using fun e'=>e e'.symm)]
  have he:∀self:List Int×List Int×Int->Option (As [.bool]),Ee (fun a b i=>self (a,b,i)) a b (a.length:Int)=some (true,()):=by intro self;unfold Ee;rw[if_neg (by rw[cr,bu];omega)]
  obtain⟨r,h4,h5⟩:=mY (F:=fun self s=>Ee (fun a b i=>self (a,b,i)) s.1 s.2.1 s.2.2) (mk:=fun i=>(a,b,(i:Int))) (p:=fun i x=>decide (b[i]? = some x)) hs he a.length 0 18446744073709551616 (by omega) (by omega);refine Eq.trans h5 ?_
  have:r=decide (a=b):=by
   apply Bool.eq_iff_iff.2;rw[h4,decide_eq_true_eq];constructor
   ·intro hh
    apply List.ext_getElem? ;intro i;rcases Nat.lt_or_ge i a.length with hi | hi
    ·have:=of_decide_eq_true (hh i a[i] (by omega) (zU hi))
     rw[this,zU hi]
    ·rw[List.getElem?_eq_none hi,List.getElem?_eq_none (by omega)]
   ·rintro rfl j x _ hx
    exact decide_eq_true hx
  rw[<- this];cases r<;>rfl
 ·rw[if_pos (cu.2 (by rw[bu,bu];omega)),decide_eq_false (fun e=>hl (by rw[e]))]
theorem axS{a b:Int}(ha:0≤a∧a≤65535)(hb:0≤b∧b≤65535):add .u32 (mul .u32 (cvt .u32 a) 65536) (cvt .u32 b)=65536*a+b:=by
 have e1:cvt .u32 a=a:=by show IntKind.u32.wrap a=a;grind[sH]
 have e2:cvt .u32 b=b:=by show IntKind.u32.wrap b=b;grind[sH]
 have e3:mul .u32 a 65536=65536*a:=by show IntKind.u32.wrap (a*65536)=_;grind[sH]
 rw[e1,e2,e3];show IntKind.u32.wrap (65536*a+b)=_;grind[sH]
theorem azb{w:List Int}(hr:∀x∈w,0≤x∧x≤65535):ahr (w,())=some ((rdB w).1,(rdB w).2.1,(rdB w).2.2.1,(rdB w).2.2.2.1,(rdB w).2.2.2.2,()):=by
 show ahn ahq w=_;unfold ahn rdB;have K1:∀b,ahq w b 0 0=ahj Ef w b 0 0:=fun b=>rfl;by_cases hl:w.length=20
 ·have a0:at? w 0=some (w.getD 0 0):=d9 (i:=0) (kF (by omega))
  have a1:at? w 1=some (w.getD 1 0):=d9 (i:=1) (kF (by omega));have a2:at? w 2=some (w.getD 2 0):=d9 (i:=2) (kF (by omega));have a3:at? w 3=some (w.getD 3 0):=d9 (i:=3) (kF (by omega));have a4:at? w 4=some (w.getD 4 0):=d9 (i:=4) (kF (by omega));have a5:at? w 5=some (w.getD 5 0):=d9 (i:=5) (kF (by omega));rw[if_neg (fun e=>cu.1 e (by simp_all)),a3,zD,K1];have rg:∀i,i<20->0≤w.getD i 0∧w.getD i 0≤65535:=fun i hi=>hr _ (zX (kF (by omega)));unfold ahj;by_cases h3:7<w.getD 3 0
  ·rw[if_pos (iD.2 h3),if_pos (.inr (by omega))]
   rfl
  rw[if_neg (fun e=>h3 (iD.1 e)),if_neg (show ¬ (w.length≠20∨8≤w.getD 3 0) by omega),a4,zD,gM (by grind) (by grind)];have r5:=rg 5 (by omega)
  have K4:∀o:List Int,(14<w.getD 5 0∨o=(w.drop 6).take (w.getD 5 0).toNat)->R7 w 0 0 (w.getD 4 0) o=(if 14<w.getD 5 0 then some (0,0,0,zB,20,()) else if fitsB (w.getD 4 0,(w.drop 6).take (w.getD 5 0).toNat)=true∧itB (w.getD 4 0,(w.drop 6).take (w.getD 5 0).toNat)=w.drop 4 then some (w.getD 0 0,65536*w.getD 1 0+w.getD 2 0,w.getD 3 0,(w.getD 4 0,(w.drop 6).take (w.getD 5 0).toNat),0,()) else some (0,0,0,zB,20,())):=fun o ho=>by
   show ahl aho w 0 0 (w.getD 4 0) o=_;unfold ahl;rw[a5,zD];by_cases h5:14<w.getD 5 0
   ·rw[if_pos (iD.2 h5)]
    rw[if_pos h5];rfl
   ·have ho:=ho.resolve_left h5
    subst ho;rw[if_neg (fun e=>h5 (iD.1 e)),if_neg h5,wC,zD];by_cases hf:fitsB (w.getD 4 0,(w.drop 6).take (w.getD 5 0).toNat)=true
    ·have ec:cut w 4 (zF w.length)=some (w.drop 4):=lH (i:=4) (by omega)
     rw[if_neg (by simp_all),ec,zD,TD,zD,aza (by grind[oL]),zD];by_cases hi:itB (w.getD 4 0,(w.drop 6).take (w.getD 5 0).toNat)=w.drop 4
     ·rw[if_pos ⟨hf,hi⟩,decide_eq_true hi]
      show ahm w false (0,[]) (0,[]) _=_;unfold ahm;rw[if_neg (by decide),a0,zD,a1,zD,a2,zD,a3,zD,axS (rg 1 (by omega)) (rg 2 (by omega)),gM (by grind) (by omega)]
     ·rw[if_neg (fun h=>hi h.2),decide_eq_false hi]
      rfl
    ·rw[if_pos (by simp_all),if_neg (fun h=>hf h.1)]
     rfl
  have hN:∀N:Nat,(N=(w.getD 5 0).toNat∧N≤14∨N=14∧14<w.getD 5 0)->Ef w 0 0 0 (w.getD 4 0) []=R7 w 0 0 (w.getD 4 0) ((w.drop 6).take N):=by
   intro N hN;show Ef w 0 0 0 (w.getD 4 0) ((w.drop 6).take 0)=_;unfold Ef;refine jV (N:=N) (mk:=fun i=>(w,(i:Int),0,0,w.getD 4 0,(w.drop 6).take i)) ?_ ?_ N 0 _ (by omega) (by omega)
   ·intro self i hi
    show Jm (ahp _) _ w (i:Int) 0 0 (w.getD 4 0) ((w.drop 6).take i)=self (w,((i+1:Nat):Int),0,0,w.getD 4 0,(w.drop 6).take (i+1));unfold Jm;rw[a5,zD,gM (by omega) (by omega),if_pos (by grind[cr]),cr.2 (show (i:Int)<14 by omega)];show ahk R7 _ w (i:Int) true 0 0 (w.getD 4 0) ((w.drop 6).take i)=_;unfold ahk;have e6:add .i64 6 (i:Int)=((6+i:Nat):Int):=by grind[iF]
    rw[if_pos rfl,e6,d9 (kF (by omega)),zD,gZ (by grind),gJ (by omega)];grind[List.take_add_one,kF]
   ·intro self
    show Jm (ahp _) _ w (N:Int) 0 0 (w.getD 4 0) ((w.drop 6).take N)=_;unfold Jm;rw[a5,zD,gM (by omega) (by omega)];rcases hN with ⟨h1,h2⟩ | ⟨h1,h2⟩
    ·rw[if_neg (by grind[cr])]
     rfl
    ·rw[if_pos (by grind[cr])]
     have:lt (N:Int) 14=false:=by subst h1;rfl
     rw[this];rfl
  by_cases h5:14<w.getD 5 0
  ·rw[hN 14 (.inr ⟨rfl,h5⟩),K4 _ (.inl h5),if_pos h5,if_pos h5]
  grind
 ·rw[if_pos (cu.2 (by grind)),K1,if_pos (.inl hl)]
  rfl
def lQ:List fq->Int->Int×Bool
 | [],_=>(0,false)
 | x::q,p=>if 0≤p - x.1∧p - x.1<(x.2.length:Int) then (x.2.getD (p - x.1).toNat 0,true) else lQ q p
theorem azc{l:List fq}{p:Int}(hp:0≤p∧p≤1000)(hl:l.length≤1000000)(hx:∀x∈l,0≤x.1∧x.1≤100000):agN (l,p,())=some ((lQ l.reverse p).1,(lQ l.reverse p).2,()):=by
 have e0:sub .i64 (zF l.length) 1=(l.length:Int) - 1:=by rw[bu];exact jO (by omega) (by omega)
 have hs:∀(self:List fq×Int×Int->Option (As [.int .u16,.bool])) (n:Nat) (x:fq),l[n]? = some x->Jc (Je (fun l at' i=>self (l,at',i))) (fun l at' i=>self (l,at',i)) l p (n:Int)=if 0≤p - x.1∧p - x.1<(x.2.length:Int) then some (x.2.getD (p - x.1).toNat 0,true,()) else self (l,p,(n:Int) - 1):=by
  intro self n x hxx;have hn:=(List.getElem?_eq_some_iff.1 hxx).1;have hxr:=hx x (zX hxx);have es:sub .i64 p x.1=p - x.1:=jO (by omega) (by omega);have en:sub .i64 (n:Int) 1=(n:Int) - 1:=jO (by omega) (by omega);have no:Je (fun l at' i=>self (l,at',i)) l p (n:Int) (p - x.1) false=self (l,p,(n:Int) - 1):=by show Jd _ l p (n:Int) (p - x.1) false=_;unfold Jd;rw[if_neg (by decide),en]
  unfold Jc;rw[if_pos (gU.2 (by omega)),d9 hxx,zD,es];by_cases h1:0≤p - x.1
  ·rw[if_pos (gU.2 h1),zD]
   by_cases h2:p - x.1<(x.2.length:Int)
   ·rw[if_pos ⟨h1,h2⟩,show lt (p - x.1) (zF x.2.length)=true from cr.2 h2]
    show Jd _ l p (n:Int) (p - x.1) true=_;unfold Jd;obtain⟨k,hk⟩:=zN h1;rw[if_pos rfl,d9 hxx,zD,hk,d9 (kF (by omega)),zD];rfl
   ·rw[if_neg (fun h=>h2 h.2),show lt (p - x.1) (zF x.2.length)=false from Bool.eq_false_iff.2 (fun e=>h2 (cr.1 e)),no]
  ·rw[if_neg (fun e=>h1 (gU.1 e)),if_neg (fun h=>h1 h.1),no]
 have he:∀(self:List fq×Int×Int->Option (As [.int .u16,.bool])),Jc (Je (fun l at' i=>self (l,at',i))) (fun l at' i=>self (l,at',i)) l p (-1)=some (0,false,()):=fun self=>rfl;show agM l p (sub .i64 (zF l.length) 1)=_;rw[e0]
 have key:∀(n m:Nat),n≤l.length->n<m->ay (fun (self:List fq×Int×Int->Option (As [.int .u16,.bool])) (s:List fq×Int×Int)=>Jc (Je (fun l at' i=>self (l,at',i))) (fun l at' i=>self (l,at',i)) s.1 s.2.1 s.2.2) m (l,p,(n:Int) - 1)=some ((lQ (l.take n).reverse p).1,(lQ (l.take n).reverse p).2,()):=by
  intro n
  induction n with
  | zero =>
   intro m _ hm;obtain⟨m,rfl⟩:∃q,m=q+1:=⟨m - 1,by omega⟩;rw[kP];exact he _
  | succ n ih =>
   intro m hn hm;obtain⟨m,rfl⟩:∃q,m=q+1:=⟨m - 1,by omega⟩;obtain⟨x,hxx⟩:=iO (xs:=l) (i:=n) (by omega);have ei:((n+1:Nat):Int) - 1=(n:Int):=by omega
   have et:(l.take (n+1)).reverse=x::(l.take n).reverse:=by rw[List.take_add_one,hxx];simp
   rw[kP,ei,et];refine Eq.trans (hs _ n x hxx) ?_;rw[ih m (by omega) (by omega)];have el:lQ (x::(l.take n).reverse) p=if 0≤p - x.1∧p - x.1<(x.2.length:Int) then (x.2.getD (p - x.1).toNat 0,true) else lQ (l.take n).reverse p:=rfl;rw[el];split<;>rfl
 have:=key l.length 18446744073709551616 (Nat.le_refl _) (by omega);rw[List.take_length]at this;exact this
theorem KH{b:List Int}(hb:b.length=64):∀{l:List fq},(∀x∈l,fitsB x=true)->∀i:Nat,i<64->(jI b l.reverse)[i]? = some (if (lQ l (i:Int)).2=true then (lQ l (i:Int)).1 else b.getD i 0)
 | [],_,i,hi=>by show b[i]? = some (b.getD i 0);simp_all
 | x::q,hf,i,hi=>by
  have ih:=KH hb (l:=q) (fun y hy=>hf y (List.mem_cons_of_mem _ hy)) i hi;have hx:=of_decide_eq_true (hf x (List.mem_cons_self ..));have hl:(jI b q.reverse).length=64:=uV hb (fun y hy=>hf y (by simp_all));have e:jI b (x::q).reverse=yH (jI b q.reverse) x:=by simp_all[jI,List.reverse_cons,List.foldl_append]
  rw[e];show (cpy (jI b q.reverse) x.1.toNat x.2)[i]? = _;have el:lQ (x::q) (i:Int)=if 0≤(i:Int) - x.1∧(i:Int) - x.1<(x.2.length:Int) then (x.2.getD ((i:Int) - x.1).toNat 0,true) else lQ q (i:Int):=rfl;rw[ay3 (by omega),ih,el];grind
theorem azd{b:List Int}{l:List fq}(hb:b.length=64)(hl:l.length≤1000000)(hf:∀x∈l,fitsB x=true):R3 (b,l,())=some (jI b l,0,()):=by
 show agT Jh b l=_;unfold agT;rw[if_neg (fun e=>cu.1 e (by simp_all)),aBl hl,zD,List.all_eq_true.2 hf,if_neg (by decide)];have hx:∀x∈l,0≤x.1∧x.1≤100000:=fun x hx=>by have:=of_decide_eq_true (hf x hx);omega
 have hlo:(jI b l).length=64:=uV hb hf;have hv:∀i:Nat,i<64->(jI b l)[i]? = some (if (lQ l.reverse (i:Int)).2=true then (lQ l.reverse (i:Int)).1 else b.getD i 0):=fun i hi=>by grind[KH,List.reverse_reverse]
 show Jh b l 0 ((jI b l).take 0)=_;unfold Jh;refine jV (N:=64) (mk:=fun i=>(b,l,(i:Int),(jI b l).take i)) ?_ ?_ 64 0 _ (by omega) (by omega)
 ·intro self i hi
  show Jg (RZ _) _ _ b l (i:Int) ((jI b l).take i)=self (b,l,((i+1:Nat):Int),(jI b l).take (i+1));have hs:(jI b l).take (i+1)=(jI b l).take i++[if (lQ l.reverse (i:Int)).2=true then (lQ l.reverse (i:Int)).1 else b.getD i 0]:=by simp_all[List.take_add_one]
  have K2:∀x,RZ (fun bank l at' out=>self (bank,l,at',out)) b l (i:Int) x ((jI b l).take i)=self (b,l,((i+1:Nat):Int),(jI b l).take i++[x]):=fun x=>by show agS _ b l (i:Int) x _=_;grind[agS,gZ,kA,gJ]
  unfold Jg;rw[if_pos (cr.2 (by omega)),azc ⟨by omega,by omega⟩ hl hx,zD,hs];dsimp only
  cases (lQ l.reverse (i:Int)).2 with
  | true=>simp_all
  | false=>simp_all[if_pos,d9,kF,zD,if_neg]
 ·intro self
  show Jg (RZ _) _ _ b l (64:Int) ((jI b l).take 64)=_;unfold Jg;rw[if_neg (by decide),List.take_of_length_le (by omega)];rfl
theorem aze{a b:List fq}(hl:a.length≤1000000)(hw:∀x∈a,x.2.length≤1000000):ajn (a,b,())=some (decide (a=b),()):=by
 show ajk ajm a b=_;unfold ajk;by_cases hlen:a.length=b.length
 ·rw[if_neg (by simp_all[cu,bu])]
  have hs:∀(self:List fq×List fq×Int->Option (As [.bool])) (i:Nat) (x:fq),a[i]? = some x->Ej (JC (fun a b i=>self (a,b,i))) (fun a b i=>self (a,b,i)) a b (i:Int)=if decide (b[i]? = some x)=true then self (a,b,((i+1:Nat):Int)) else some (false,()):=by
   intro self i x hx;have hi:=(List.getElem?_eq_some_iff.1 hx).1;have hxl:=hw x (zX hx);obtain⟨y,hy⟩:=iO (xs:=b) (i:=i) (by omega);unfold Ej;rw[if_pos (by rw[cr,bu];omega),d9 hx,zD,d9 hy,zD,hy];have K2:∀t,JC (fun a b i=>self (a,b,i)) a b (i:Int) t=aji (ajl (fun a b i=>self (a,b,i))) (fun a b i=>self (a,b,i)) a b (i:Int) t:=fun t=>rfl;by_cases e1:x.1=y.1
   ·rw[if_neg (fun e=>cu.1 e e1),zD,zD,K2]
    by_cases e2:x.2.length=y.2.length
    ·have:nei (zF x.2.length) (zF y.2.length)=false:=Bool.eq_false_iff.2 (fun e=>cu.1 e (by rw[e2]))
     rw[this];unfold aji;rw[if_neg (by decide)]
     have hs3:∀(s3:List fq×List fq×Int×Int->Option (As [.bool])) (k:Nat) (z:Int),x.2[k]? = some z->Em (Sv (fun a b i=>self (a,b,i))) (fun a b i=>self (a,b,i)) (fun a b i k=>s3 (a,b,i,k)) a b (i:Int) (k:Int)=if decide (y.2[k]? = some z)=true then s3 (a,b,(i:Int),((k+1:Nat):Int)) else some (false,()):=by
      intro s3 k z hz;have hk:=(List.getElem?_eq_some_iff.1 hz).1;obtain⟨v,hv⟩:=iO (xs:=y.2) (i:=k) (by omega);unfold Em;simp only[d9 hx,d9 hy,zD,d9 hz,d9 hv,hv];rw[if_pos (by rw[cr,bu];omega),gJ (by omega)];by_cases e:z=v
      ·subst e
       rw[if_neg (fun e=>cu.1 e rfl),if_pos (decide_eq_true rfl)]
      ·rw[if_pos (cu.2 e),if_neg (by simpa using fun e'=>e e'.symm)]
     have he3:∀(s3:List fq×List fq×Int×Int->Option (As [.bool])),Em (Sv (fun a b i=>self (a,b,i))) (fun a b i=>self (a,b,i)) (fun a b i k=>s3 (a,b,i,k)) a b (i:Int) (x.2.length:Int)=self (a,b,((i+1:Nat):Int)):=by intro s3;unfold Em;simp only[d9 hx,zD];rw[if_neg (by rw[cr,bu];omega)];show ajj _ a b (i:Int)=_;unfold ajj;rw[gJ (by omega)]
     obtain⟨r,h4,h5⟩:=mY (F:=fun s3 s=>Em (Sv (fun a b i=>self (a,b,i))) (fun a b i=>self (a,b,i)) (fun a b i k=>s3 (a,b,i,k)) s.1 s.2.1 s.2.2.1 s.2.2.2) (mk:=fun k=>(a,b,(i:Int),(k:Int))) (p:=fun k z=>decide (y.2[k]? = some z)) hs3 he3 x.2.length 0 18446744073709551616 (by omega) (by omega);refine Eq.trans h5 ?_
     have:r=decide (some y=some x):=by
      apply Bool.eq_iff_iff.2;rw[h4,decide_eq_true_eq];constructor
      ·intro hh
       have:y.2=x.2:=by
        apply List.ext_getElem?;intro k;rcases Nat.lt_or_ge k x.2.length with hk | hk
        ·have:=of_decide_eq_true (hh k x.2[k] (by omega) (zU hk))
         rw[this,zU hk]
        ·rw[List.getElem?_eq_none hk,List.getElem?_eq_none (by omega)]
       rw[show y=x from Prod.ext e1.symm this]
      ·intro hh k z _ hz
       cases hh
       exact decide_eq_true hz
     rw[<- this]
    ·have:nei (zF x.2.length) (zF y.2.length)=true:=cu.2 (by rw[bu,bu];omega)
     rw[this,if_neg (by simpa using fun e=>e2 (by rw[e]))];rfl
   ·rw[if_pos (cu.2 e1),K2,if_neg (by simpa using fun e=>e1 (by rw[e]))]
    rfl
  have he:∀self:List fq×List fq×Int->Option (As [.bool]),Ej (JC (fun a b i=>self (a,b,i))) (fun a b i=>self (a,b,i)) a b (a.length:Int)=some (true,()):=by intro self;unfold Ej;rw[if_neg (by rw[cr,bu];omega)]
  obtain⟨r,h4,h5⟩:=mY (F:=fun self s=>Ej (JC (fun a b i=>self (a,b,i))) (fun a b i=>self (a,b,i)) s.1 s.2.1 s.2.2) (mk:=fun i=>(a,b,(i:Int))) (p:=fun i x=>decide (b[i]? = some x)) hs he a.length 0 18446744073709551616 (by omega) (by omega);refine Eq.trans h5 ?_
  have:r=decide (a=b):=by
   apply Bool.eq_iff_iff.2;rw[h4,decide_eq_true_eq];constructor
   ·intro hh
    apply List.ext_getElem?;intro i;rcases Nat.lt_or_ge i a.length with hi | hi
    ·have:=of_decide_eq_true (hh i a[i] (by omega) (zU hi))
     rw[this,zU hi]
    ·rw[List.getElem?_eq_none hi,List.getElem?_eq_none (by omega)]
   ·rintro rfl j x _ hx
    exact decide_eq_true hx
  rw[<- this];cases r<;>rfl
 ·rw[if_pos (cu.2 (by rw[bu,bu];omega)),decide_eq_false (fun e=>hlen (by rw[e]))]
theorem azf{a b:jH}(h1:a.2.1.length=8)(h2:a.2.2.length=8)(h3:b.2.1.length=8)(h4:b.2.2.length=8)(hw:∀x∈a.2.2,x.2.length≤1000)(hw2:∀x∈b.2.2,x.2.length≤1000) :
  MO (a,b,())=some (decide ((a.1,a.2.1,nzB a.2.1 a.2.2)=(b.1,b.2.1,nzB b.2.1 b.2.2)),()):=by
 rw[<- Tv h1 h2 h3 h4 hw hw2];have sa:=oM h1 h2 hw;have sb:=oM h3 h4 hw2;have ra:=qc h1 h2 hw;have rb:=qc h3 h4 hw2;have hbl:(gQ a.2.1 a.2.2).length≤8:=by grind[qb]
 have hbw:∀x∈gQ a.2.1 a.2.2,x.2.length≤1000000:=fun x hx=>by grind[uz]
 show ajo a b=QG a b;unfold ajo QG;rw[ra,rb,sa,sb];simp only[zD,aze (by omega) hbw,Tt (by omega) hbw]
theorem tK{a:TAg}(h:SzA a):qx (a,())=some (gz a,()):=by
 have hc:=J5 h.hv h.bs h.bw;have h1:=h.hv;have h2:=h.bs;have hn:=oK h1 h2;have hk:=h.bk;show adQ a=_;unfold adQ;rw[gZ (by omega)];have e:(a.2.2.2.2.2.1.1,[a.2.2.2.2.2.1.2.1.getD 0 false,a.2.2.2.2.2.1.2.1.getD 1 false,a.2.2.2.2.2.1.2.1.getD 2 false,a.2.2.2.2.2.1.2.1.getD 3 false,a.2.2.2.2.2.1.2.1.getD 4 false,a.2.2.2.2.2.1.2.1.getD 5 false,a.2.2.2.2.2.1.2.1.getD 6 false,a.2.2.2.2.2.1.2.1.getD 7 false],[a.2.2.2.2.2.1.2.2.getD 0 (0,[]),a.2.2.2.2.2.1.2.2.getD 1 (0,[]),a.2.2.2.2.2.1.2.2.getD 2 (0,[]),a.2.2.2.2.2.1.2.2.getD 3 (0,[]),a.2.2.2.2.2.1.2.2.getD 4 (0,[]),a.2.2.2.2.2.1.2.2.getD 5 (0,[]),a.2.2.2.2.2.1.2.2.getD 6 (0,[]),a.2.2.2.2.2.1.2.2.getD 7 (0,[])])=a.2.2.2.2.2.1:=by grind[FD]
 rw[e,hc,zD];dsimp only;rw[FD h1,FD hn];rfl
theorem aBo{b:List Int}{t:Int}(hb:b.length≤1000000):H8 (b,t,())=some (if b.length=64 then if 1≤t then (zAg b t,0,()) else (zAg [] 0,2,()) else (zAg [] 0,21,())):=by
 show ac8 b t=_;unfold ac8;by_cases h1:b.length=64
 ·rw[if_neg (fun e=>cu.1 e (by simp_all)),if_pos h1]
  by_cases h2:1≤t
  ·rw[if_neg (fun e=>by grind[cr]),if_pos h2,gZ (by omega)]
   rfl
  ·rw[if_pos (cr.2 (by omega)),if_neg h2]
   rfl
 ·rw[if_pos (cu.2 (by grind)),if_neg h1]
  rfl
theorem UY{s:jH}(hh:s.2.1.length=8)(hb:s.2.2.length=8)(hw:∀b∈s.2.2,b.2.length≤1000):Q6 (s,())=some (((s.2.1.count true:Nat):Int),()):=by
 show Q5 s=_;unfold Q5;rw[qc hh hb hw,zD]
 have:∀(hv:List Bool) (bs:List fq),hv.length=bs.length->(gQ hv bs).length=hv.count true:=by
  intro hv
  induction hv with
  | nil=>intro bs _;rfl
  | cons x r ih =>
   intro bs hl
   cases bs with
   | nil=>cases hl
   | cons b q =>
    have:=ih q (by simp_all);unfold gQ at this ⊢;rw[List.zip_cons_cons,List.filter_cons];grind
 simp_all
theorem alY{a:TAg}(h:OkG a):ad7 (a,())=some (gD a,()):=by
 have hm:=UY h.hl h.sl h.bb;have hcl:a.2.2.2.2.2.1.2.1.count true≤8:=by have:=List.count_le_length (a:=true) (l:=a.2.2.2.2.2.1.2.1);have:=h.hl;omega
 have hp:=h.pr;have p1:=Ey h.tr.1 h.tr.2;have p2:=Ey h.ar.1 h.ar.2;have hl1:=h.l1;show ad5 ad6 a=_;unfold ad5;rw[ay8 h.lr,zD]
 have K1:∀o,ad6 a o=some ([o,a.2.2.1,a.2.2.2.1 / 65536,a.2.2.2.1%65536,a.2.2.2.2.1 / 65536,a.2.2.2.2.1%65536,((a.2.2.2.2.2.1.2.1.count true:Nat):Int),0],()):=fun o=>by
  show ad4 a o=_;unfold ad4;have e1:cvt .u16 a.2.2.1=a.2.2.1:=by rw[oI];omega
  have e2:cvt .u16 ((a.2.2.2.2.2.1.2.1.count true:Nat):Int)=((a.2.2.2.2.2.1.2.1.count true:Nat):Int):=by rw[oI];omega
  rw[hm,zD,e1,p1.1,p1.2,p2.1,p2.2,e2]
 by_cases e:a.2.1.1=0
 ·rw[decide_eq_true e,if_pos rfl,K1]
  unfold gD;rw[e]
 ·rw[decide_eq_false e,if_neg (by decide),K1]
  rfl
theorem azg{w:List Int}(hr:∀x∈w,0≤x∧x≤65535):af5 (w,())=some ((jX w).1,(jX w).2,()):=by
 show af3 af4 w=_;unfold af3 jX;have K1:∀b,af4 w b (0,0,0,0,0)=af2 w b (0,0,0,0,0):=fun b=>rfl;by_cases hl:w.length=8
 ·have a0:at? w 0=some (w.getD 0 0):=d9 (i:=0) (kF (by omega))
  have a1:at? w 1=some (w.getD 1 0):=d9 (i:=1) (kF (by omega));have a2:at? w 2=some (w.getD 2 0):=d9 (i:=2) (kF (by omega));have a3:at? w 3=some (w.getD 3 0):=d9 (i:=3) (kF (by omega));have a4:at? w 4=some (w.getD 4 0):=d9 (i:=4) (kF (by omega));have a5:at? w 5=some (w.getD 5 0):=d9 (i:=5) (kF (by omega));have a6:at? w 6=some (w.getD 6 0):=d9 (i:=6) (kF (by omega));have a7:at? w 7=some (w.getD 7 0):=d9 (i:=7) (kF (by omega));have rg:∀i,i<8->0≤w.getD i 0∧w.getD i 0≤65535:=fun i hi=>hr _ (zX (kF (by omega)));rw[if_neg (fun e=>cu.1 e (by simp_all)),a7,zD];by_cases h7:w.getD 7 0=0
  ·rw[if_neg (fun e=>cu.1 e h7),a1,zD,K1]
   unfold af2;by_cases h1:256≤w.getD 1 0
   ·simp_all[if_pos,gU]
   ·have e8:cvt .u8 (w.getD 1 0)=w.getD 1 0:=by grind[jU,rg]
    simp_all[if_neg,gU,zD,axS,rg]
  ·rw[if_pos (cu.2 h7),K1,if_pos (.inr (.inl h7))]
   rfl
 ·rw[if_pos (cu.2 (by grind)),K1,if_pos (.inl hl)]
  rfl
theorem aOR{a:TAg}(h:OkG a){c:TCm}(hc:0≤c.2.2.2.1∧c.2.2.2.1≤65535):Mv (a,c,())=some ((doS (gz a) c).1,(doS (gz a) c).2,()):=by
 show Mr Ms a c=_;unfold Mr;rw[tK h.sz,zD];have h':=h.own;dsimp only;generalize gz a=g at h';have K9:∀g:TAg,Jj 0 0 [g] [gF]=some (g,0,()):=fun g=>rfl;have K11:∀g:TAg,R4 0 0 [g] c [gF]=some ((g.1,(c.1,g.2.2.2.2.2.2),1,c.2.2.1,g.2.2.2.2.1,(c.2.2.1,g.2.2.2.2.2.1.2),g.2.2.2.2.2.2),0,()):=fun g=>rfl;have K10:∀b,Bb 0 0 b [g] c [gF]=if b=true then R4 0 0 [mQ g] c [gF] else R4 0 0 [g] c [gF]:=fun b=>rfl;have K7:∀b,Bc 0 0 b [g] c [gF]=if b=true then some (g,0,()) else if nei g.2.2.1 1=true then Bb 0 0 true [g] c [gF] else Bb 0 0 (nei g.2.2.2.1 c.2.2.1) [g] c [gF]:=fun b=>rfl;have K3:∀b,yg 0 0 b [g] c [gF]=if b=true then some (g,23,()) else if eqi g.2.2.1 2=true then Bc 0 0 (eqi g.2.2.2.1 c.2.2.1) [g] c [gF] else Bc 0 0 false [g] c [gF]:=fun b=>rfl;have K8:∀b,Jk 0 0 b [g] [gF]=if b=true then some (g,23,()) else some ((g.1,(g.2.1.1,-1),2,g.2.2.2),0,()):=fun b=>rfl;have K4:∀b,Bd 0 0 b [g] c [gF]=if b=true then some (g,0,()) else if nei g.2.2.1 1=true then Jk 0 0 true [g] [gF] else if nei g.2.2.2.1 c.2.2.1=true then Jk 0 0 true [g] [gF] else zC (RX (g.2.2.2.2.2.1,cvt .i64 c.2.2.2.1,c.2.2.2.2,())) fun y=>Jk 0 0 (!y.1) [g] [gF]:=fun b=>rfl;have K5:∀b,R5 0 0 b [g] c [gF]=if b=true then some (g,23,()) else zC (qw (g.2.2.2.2.2.1,())) fun y_2=>zC (R3 (g.1,y_2.1,())) fun y=>some (mQ (y.1,g.2.1,g.2.2.1,g.2.2.2.1,c.2.2.1,g.2.2.2.2.2),0,()):=fun b=>rfl;have K6:∀b,R6 0 0 b [g] [gF]=if b=true then some (mQ g,0,()) else some (g,0,()):=fun b=>rfl
 have K2:∀b,Be 0 0 b [g] c [gF]=if b=true then some (g,22,()) else if eqi c.2.1 1=true then if le c.2.2.1 g.2.2.2.2.1=true then yg 0 0 true [g] c [gF] else if nei g.2.2.1 0=true then yg 0 0 (lt c.2.2.1 g.2.2.2.1) [g] c [gF] else yg 0 0 false [g] c [gF]
   else if eqi c.2.1 2=true then if eqi g.2.2.1 2=true then Bd 0 0 (eqi g.2.2.2.1 c.2.2.1) [g] c [gF] else Bd 0 0 false [g] c [gF]
   else if eqi c.2.1 3=true then if eqi g.2.2.2.2.1 c.2.2.1=true then some (g,0,()) else if nei g.2.2.1 2=true then R5 0 0 true [g] c [gF] else R5 0 0 (nei g.2.2.2.1 c.2.2.1) [g] c [gF]
   else if le c.2.2.1 g.2.2.2.2.1=true then some (g,23,()) else if nei g.2.2.1 0=true then R6 0 0 (eqi g.2.2.2.1 c.2.2.1) [g] [gF] else R6 0 0 false [g] [gF]:=fun b=>rfl
 have K1:∀b,Ms 0 0 b [g] c [gF]=if b=true then some (g,2,()) else if nei g.2.1.1 0=true then Be 0 0 (nei g.2.1.1 c.1) [g] c [gF] else Be 0 0 false [g] c [gF]:=fun b=>rfl;have hbl:=qc h'.hl h'.sl h'.bb;have hov:=azd h'.bl (by have:=qb (hv:=g.2.2.2.2.2.1.2.1) (bs:=g.2.2.2.2.2.1.2.2);have:=h'.hl;omega) h'.fb;have hwh:=atq (n:=c.2.2.2.1) (c:=c.2.2.2.2) h'.hl h'.sl h'.bb h'.wb;have lr:=h'.lr;have kr:=h'.kr;have pr:=h'.pr;have p0:=h'.p0;have pn:=h'.pn;have p1:=h'.p1;have p2:=h'.p2;unfold jq at lr;obtain⟨co,cv,ct,cc,ck⟩:=c;dsimp only at hc hwh K11 K10 K7 K3 K4 K5 K2 K1 ⊢;have gt4:gt cv 4=decide (4<cv):=rfl;unfold doS;dsimp only;by_cases q0:co=0∨ct=0∨¬ (1≤cv∧cv≤4)
 ·rw[if_pos q0]
  by_cases c1:co=0
  ·rw[if_pos (au.2 c1),K1,if_pos rfl]
  rw[if_neg (fun e=>c1 (au.1 e))];by_cases c2:ct=0
  ·rw[if_pos (au.2 c2),K1,if_pos rfl]
  rw[if_neg (fun e=>c2 (au.1 e))];by_cases c3:cv<1
  ·rw[if_pos (cr.2 c3),K1,if_pos rfl]
  rw[if_neg (fun e=>c3 (cr.1 e)),K1,if_pos (iD.2 (by omega))]
 rw[if_neg q0,if_neg (fun e=>q0 (.inl (au.1 e))),if_neg (fun e=>q0 (.inr (.inl (au.1 e)))),if_neg (fun e=>by grind[cr]),K1,if_neg (fun e=>by grind)]
 have hx2:(if nei g.2.1.1 0=true then Be 0 0 (nei g.2.1.1 co) [g] (co,cv,ct,cc,ck) [gF] else Be 0 0 false [g] (co,cv,ct,cc,ck) [gF])=Be 0 0 (decide (g.2.1.1≠0∧g.2.1.1≠co)) [g] (co,cv,ct,cc,ck) [gF]:=by
  by_cases e:g.2.1.1=0
  ·rw[if_neg (fun x=>cu.1 x e),decide_eq_false (by simp[e])]
  ·rw[if_pos (cu.2 e)]
   congr 1
   apply Bool.eq_iff_iff.2;rw[cu,decide_eq_true_eq];simp[e]
 rw[hx2,K2];by_cases ho:g.2.1.1≠0∧g.2.1.1≠co
 ·grind
 rw[if_neg ho,decide_eq_false ho,if_neg (by decide)];by_cases v1:cv=1
 ·rw[if_pos (au.2 v1),if_pos v1]
  by_cases b1:ct≤g.2.2.2.2.1
  ·rw[if_pos (gT.2 b1),K3,if_pos rfl,if_pos (.inl b1)]
  rw[if_neg (fun e=>b1 (gT.1 e))]
  have hx3:(if nei g.2.2.1 0=true then yg 0 0 (lt ct g.2.2.2.1) [g] (co,cv,ct,cc,ck) [gF] else yg 0 0 false [g] (co,cv,ct,cc,ck) [gF])=yg 0 0 (decide (g.2.2.1≠0∧ct<g.2.2.2.1)) [g] (co,cv,ct,cc,ck) [gF]:=by
   by_cases e:g.2.2.1=0
   ·rw[if_neg (fun x=>cu.1 x e),decide_eq_false (by simp[e])]
   ·rw[if_pos (cu.2 e)]
    congr 1
    apply Bool.eq_iff_iff.2;rw[cr,decide_eq_true_eq];simp[e]
  rw[hx3,K3];by_cases b2:g.2.2.1≠0∧ct<g.2.2.2.1
  ·grind
  rw[decide_eq_false b2,if_neg (by decide),if_neg (show ¬ (ct≤g.2.2.2.2.1∨g.2.2.1≠0∧ct<g.2.2.2.1) from fun h=>h.elim b1 b2)];by_cases bt:ct=g.2.2.2.1
  ·have hph:g.2.2.1≠0:=fun e=>by omega
   rw[if_pos bt];by_cases b3:g.2.2.1=2
   ·have hl2:=(p2 b3).1
    rw[if_pos (au.2 b3),K7,if_pos (au.2 bt.symm)];have:jP g.2.1 co g.2.2.2.2.2.2=g.2.1:=by unfold jP;grind
    grind
   ·have h1:g.2.2.1=1:=by omega
    have hl1:=p1 h1;rw[if_neg (fun e=>b3 (au.1 e)),K7,if_neg (by decide),if_neg (fun e=>cu.1 e h1),K10,if_neg (fun e=>cu.1 e bt.symm),K11];have:jP g.2.1 co g.2.2.2.2.2.2=(co,g.2.2.2.2.2.2):=by unfold jP;rw[if_neg (fun e=>by simp_all)]
    grind
  ·rw[if_neg bt]
   have hK:∀x,(if eqi g.2.2.1 2=true then Bc 0 0 (eqi g.2.2.2.1 ct) [g] (co,cv,ct,cc,ck) [gF] else Bc 0 0 false [g] (co,cv,ct,cc,ck) [gF])=x↔Bc 0 0 false [g] (co,cv,ct,cc,ck) [gF]=x:=fun x=>by have:eqi g.2.2.2.1 ct=false:=Bool.eq_false_iff.2 (fun e=>bt (au.1 e).symm);rw[this];simp
   rw[hK,K7,if_neg (by decide)];have hK2:∀x,(if nei g.2.2.1 1=true then Bb 0 0 true [g] (co,cv,ct,cc,ck) [gF] else Bb 0 0 (nei g.2.2.2.1 ct) [g] (co,cv,ct,cc,ck) [gF])=x↔Bb 0 0 true [g] (co,cv,ct,cc,ck) [gF]=x:=fun x=>by have:nei g.2.2.2.1 ct=true:=cu.2 (fun e=>bt e.symm);rw[this];simp
   rw[hK2,K10,if_pos rfl,K11];rfl
 rw[if_neg (fun e=>v1 (au.1 e)),if_neg v1];by_cases v2:cv=2
 ·rw[if_pos (au.2 v2),if_pos v2]
  have hc64:cvt .i64 cc=cc:=gM (by omega) (by omega);by_cases b1:g.2.2.1=2∧g.2.2.2.1=ct
  ·have hl2:=(p2 b1.1).1
   have hn:=(pn (by omega)).1;rw[if_pos (au.2 b1.1),K4,if_pos (au.2 b1.2),if_pos (.inl b1)];grind
  ·have hK:(if eqi g.2.2.1 2=true then Bd 0 0 (eqi g.2.2.2.1 ct) [g] (co,cv,ct,cc,ck) [gF] else Bd 0 0 false [g] (co,cv,ct,cc,ck) [gF])=Bd 0 0 false [g] (co,cv,ct,cc,ck) [gF]:=by
    split
    ·rename_i e
     rw[Bool.eq_false_iff.2 (fun e2=>b1 ⟨au.1 e,au.1 e2⟩)]
    ·rfl
   rw[hK,K4,if_neg (by decide)];by_cases b2:g.2.2.1=1
   ·rw[if_neg (fun e=>cu.1 e b2)]
    by_cases b3:g.2.2.2.1=ct
    ·have hn:=(pn (by omega)).1
     rw[if_neg (fun e=>cu.1 e b3),hc64,hwh,zD,K8];dsimp only;have ew:(decide (0≤cc∧cc≤8) && (lZ g.2.2.2.2.2.1.2.1 cc && decide (sI (gQ g.2.2.2.2.2.1.2.1 g.2.2.2.2.2.1.2.2)=ck)))=rQ g cc ck:=rfl;rw[ew];by_cases b4:rQ g cc ck=true
     ·grind
     grind
    ·rw[if_pos (cu.2 b3),K8,if_pos rfl,if_neg (show ¬ (_∨_) from fun h=>h.elim b1 (fun h=>b3 h.2.1))]
   ·rw[if_pos (cu.2 b2),K8,if_pos rfl,if_neg (show ¬ (_∨_) from fun h=>h.elim b1 (fun h=>b2 h.1))]
 rw[if_neg (fun e=>v2 (au.1 e)),if_neg v2];by_cases v3:cv=3
 ·rw[if_pos (au.2 v3),if_pos v3]
  by_cases b1:g.2.2.2.2.1=ct
  ·rw[if_pos (au.2 b1),if_pos b1]
  rw[if_neg (fun e=>b1 (au.1 e)),if_neg b1];by_cases b2:g.2.2.1=2
  ·rw[if_neg (fun e=>cu.1 e b2),K5]
   by_cases b3:g.2.2.2.1=ct
   ·rw[if_neg (fun e=>cu.1 e b3),hbl,zD,hov,zD,if_pos ⟨b2,b3⟩]
   ·rw[if_pos (cu.2 b3),if_neg (fun h=>b3 h.2)]
  ·rw[if_pos (cu.2 b2),K5,if_pos rfl,if_neg (fun h=>b2 h.1)]
 rw[if_neg (fun e=>v3 (au.1 e)),if_neg v3];by_cases b1:ct≤g.2.2.2.2.1
 ·rw[if_pos (gT.2 b1),if_pos b1]
 rw[if_neg (fun e=>b1 (gT.1 e)),if_neg b1];by_cases b2:g.2.2.1=0
 ·have h0:=(p0 b2).1
  rw[if_neg (fun e=>cu.1 e b2),K6,if_neg (by decide),if_neg (by omega)]
 ·have hn:=(pn b2).1
  rw[if_pos (cu.2 b2),K6];by_cases b3:g.2.2.2.1=ct
  ·rw[if_pos (au.2 b3),if_pos ⟨by omega,b3⟩]
  ·rw[if_neg (fun e=>b3 (au.1 e)),if_neg (fun h=>b3 h.2)]
theorem aBp{a:TAg}(h:OkG a){o t n:Int}{x:fq}(hn:0≤n∧n≤7)(hf:fitsB x=true):Mx (a,o,t,n,x,())=some ((putA (gz a) o t n x).1,(putA (gz a) o t n x).2,()):=by
 show ahF ahG a o t n x=_;unfold ahF;rw[tK h.sz,zD];have h':=h.own;dsimp only;generalize gz a=g at h';have K3:∀b,R9 n 0 0 b [g] x [gF]=if b=true then some (g,23,()) else zC (R8 (g.2.2.2.2.2.1,n,x,())) fun y=>if nei y.2.1 0=true then some (g,y.2.1,()) else some ((g.1,(g.2.1.1,g.2.2.2.2.2.2),g.2.2.1,g.2.2.2.1,g.2.2.2.2.1,y.1,g.2.2.2.2.2.2),0,()):=fun b=>rfl;have K2:∀b,Bf t n 0 0 b [g] x [gF]=if b=true then some (g,22,()) else if nei g.2.2.1 1=true then R9 n 0 0 true [g] x [gF] else R9 n 0 0 (nei g.2.2.2.1 t) [g] x [gF]:=fun b=>rfl;have K1:∀b,ahG o t n 0 0 b [g] x [gF]=if b=true then some (g,2,()) else if nei g.2.1.1 0=true then Bf t n 0 0 (nei g.2.1.1 o) [g] x [gF] else Bf t n 0 0 false [g] x [gF]:=fun b=>rfl;have hp:=aBn (n:=n) (x:=x) h'.hl h'.sl h'.bb;rw[if_neg (show ¬ (n<0∨7<n) by omega),if_pos hf]at hp;unfold putA;by_cases c1:o=0
 ·rw[if_pos (au.2 c1),K1,if_pos rfl,if_pos (.inl c1)]
 rw[if_neg (fun e=>c1 (au.1 e)),K1];by_cases c2:t=0
 ·rw[if_pos (au.2 c2),if_pos (.inr c2)]
 rw[if_neg (fun e=>c2 (au.1 e)),if_neg (show ¬ (o=0∨t=0) by omega)]
 have hx2:(if nei g.2.1.1 0=true then Bf t n 0 0 (nei g.2.1.1 o) [g] x [gF] else Bf t n 0 0 false [g] x [gF])=Bf t n 0 0 (decide (g.2.1.1≠0∧g.2.1.1≠o)) [g] x [gF]:=by
  by_cases e:g.2.1.1=0
  ·rw[if_neg (fun x=>cu.1 x e),decide_eq_false (by simp[e])]
  ·rw[if_pos (cu.2 e)]
   congr 1
   apply Bool.eq_iff_iff.2;rw[cu,decide_eq_true_eq];simp[e]
 rw[hx2,K2];by_cases ho:g.2.1.1≠0∧g.2.1.1≠o
 ·rw[if_pos ho,decide_eq_true ho,if_pos rfl]
 rw[if_neg ho,decide_eq_false ho,if_neg (by decide)];by_cases b1:g.2.2.1=1
 ·rw[if_neg (fun e=>cu.1 e b1),K3]
  by_cases b2:g.2.2.2.1=t
  ·have hl1:=h'.p1 b1
   have hn0:=(h'.pn (by omega)).1;have:jP g.2.1 o g.2.2.2.2.2.2=(o,g.2.2.2.2.2.2):=by unfold jP;rw[if_neg (fun e=>by rw[e]at hl1;simp at hl1)]
   rw[if_neg (fun e=>cu.1 e b2),hp,zD,if_neg (show ¬ ¬ (g.2.2.1=1∧g.2.2.2.1=t) from fun h=>h ⟨b1,b2⟩),this,show o=g.2.1.1 by omega];rfl
  ·rw[if_pos (cu.2 b2),if_pos (show ¬ (g.2.2.1=1∧g.2.2.2.1=t) from fun h=>b2 h.2)]
 ·rw[if_pos (cu.2 b1),K3,if_pos rfl,if_pos (show ¬ (g.2.2.1=1∧g.2.2.2.1=t) from fun h=>b1 h.1)]
theorem azh{a:TAg}(h:OkG a):MJ (a,())=some (tickA (gz a),()):=by
 show aja a=_;unfold aja;rw[tK h.sz,zD];have h':=h.own;dsimp only;generalize gz a=g at h';have hl2:=h'.l2;have pr:=h'.pr;have p0:=h'.p0;have p1:=h'.p1;have p2:=h'.p2;have pn:=h'.pn;unfold tickA yG;by_cases b1:g.2.2.1=1
 ·have hl:=p1 b1
  have hn:=(pn (by omega)).1;have es:sub .i64 g.2.1.2 1=g.2.1.2 - 1:=jO (by omega) (by omega);rw[if_neg (fun e=>cu.1 e b1),es,if_neg (show ¬ (g.2.1.1=0∨g.2.1.2=-1) by omega)];by_cases b2:g.2.1.2=1
  ·rw[if_pos (au.2 (by omega)),if_pos b2]
   rfl
  ·rw[if_neg (fun e=>by grind[au]),if_neg b2]
   rfl
 ·rw[if_pos (cu.2 b1)]
  grind
theorem azi{a:TAg}(h:SzA a):ML (a,())=some (bootA (gz a),()):=by
 show ajc a=_;unfold ajc bootA;rw[tK h,zD];dsimp only;by_cases e:(gz a).2.2.1=1
 ·rw[if_pos (au.2 e),if_pos e]
  rfl
 simp_all[if_neg,au]
theorem T6(hv:List Bool)(n:Nat):hv.count true=(hv.take n).count true+(hv.drop n).count true:=by rw[<- List.count_append,List.take_append_drop]
theorem KI{hv:List Bool}(h8:hv.length=8):lZ hv ((hv.count true:Nat):Int)=true ↔ ∀i,i<hv.count true->hv.getD i false=true:=by
 have hle:hv.count true≤hv.length:=List.count_le_length;unfold lZ;rw[decide_eq_true_eq];constructor
 ·grind
 ·intro h i hi
  by_cases hc:i<hv.count true
  ·grind
  ·rw[decide_eq_false (by omega)]
   have ht:(hv.take (hv.count true)).count true=hv.count true:=by
    have:∀x∈hv.take (hv.count true),x=true:=fun x hx=>by obtain⟨j,hj⟩:=List.getElem?_of_mem hx;grind
    grind[List.count_eq_length,kA]
   have hd:=T6 hv (hv.count true);have h0:(hv.drop (hv.count true)).count true=0:=by omega
   have hm:true ∉ hv.drop (hv.count true):=List.count_eq_zero.1 h0;rw[zW,zU (by omega)];have:hv[i]'(by omega)∈hv.drop (hv.count true):=by have:=List.getElem_mem (l:=hv.drop (hv.count true)) (n:=i - hv.count true) (by grind);grind
   grind
def PH(a:TAg):Prop:=(a.2.2.1=0∧a.2.1.1=0∧a.2.1.2=0∧a.2.2.2.1=0∧a.2.2.2.2.2.1.1=0∧a.2.2.2.2.2.1.2.1.count true=0) ∨
 (a.2.2.1=1∧a.2.1.1≠0∧1≤a.2.1.2∧a.2.2.2.2.1<a.2.2.2.1∧a.2.2.2.2.2.1.1=a.2.2.2.1) ∨
 (a.2.2.1=2∧a.2.1.1≠0∧a.2.1.2=-1∧a.2.2.2.2.1<a.2.2.2.1∧a.2.2.2.2.2.1.1=a.2.2.2.1∧lZ a.2.2.2.2.2.1.2.1 ((a.2.2.2.2.2.1.2.1.count true:Nat):Int)=true)
def RG(a:TAg):Prop:=a.1.length=64∧1≤a.2.2.2.2.2.2∧(∀b∈gQ a.2.2.2.2.2.1.2.1 a.2.2.2.2.2.1.2.2,fitsB b=true)∧PH a
def Yes(o:Option (Bool×Unit))(p:Prop):Prop:=∃b:Bool,(b=true↔p)∧o=some (b,())
theorem Yes.no{p:Prop}(h:¬ p):Yes (some (false,())) p:=⟨false,⟨fun e=>absurd e Bool.false_ne_true,fun e=>absurd e h⟩,rfl⟩
theorem Yes.iff{o:Option (Bool×Unit)}{p q:Prop}(h:Yes o p)(e:p↔q):Yes o q:=by simp_all
theorem Yes.b{b:Bool}{p:Prop}(h:b=true↔p):Yes (some (b,())) p:=⟨b,h,rfl⟩
theorem Yes.eq{o o':Option (Bool×Unit)}{p:Prop}(h:Yes o p)(h':Yes o' p):o=o':=by obtain⟨b,h1,h2⟩:=h;obtain⟨b',h3,h4⟩:=h';grind
theorem alZ(l:TLs):oU (l,())=some (decide (l.1=0∨¬ jq l),()):=by
 by_cases h:jq l
 ·grind[qV]
 ·have:oU (l,())=some (true,()):=by show PT l=_;unfold PT;rw[wz,zD];have:aj6 l=(0,0):=if_neg h;rw[this];rfl
  simp_all
theorem azj{hv:List Bool}{bs:List fq}:∀{b:fq},b∈gQ hv bs ↔ ∃i:Nat,hv[i]? = some true∧bs[i]? = some b:=by
 intro b;unfold gQ;rw[List.mem_map];constructor
 ·rintro⟨p,hp,rfl⟩
  obtain⟨h1,h2⟩:=List.mem_filter.1 hp;obtain⟨i,hi⟩:=List.getElem?_of_mem h1;rw[List.getElem?_zip_eq_some]at hi;grind
 ·rintro⟨i,h1,h2⟩
  refine⟨(true,b),List.mem_filter.2 ⟨?_,rfl⟩,rfl⟩;exact zX (i:=i) (List.getElem?_zip_eq_some.2 ⟨h1,h2⟩)
theorem akd{a:TAg}(h1:a.1.length≤1000000)(hh:a.2.2.2.2.2.1.2.1.length=8)(hb:a.2.2.2.2.2.1.2.2.length=8)(hw:∀b∈a.2.2.2.2.2.1.2.2,b.2.length≤1000):Yes (ads (a,())) (RG a):=by
 have hcl:a.2.2.2.2.2.1.2.1.count true≤8:=by grind
 have hth:xP (a.2.2.2.2.2.1,())=some (((a.2.2.2.2.2.1.2.1.count true:Nat):Int),()):=SN (st:=a.2.2.2.2.2.1.1) (bs:=a.2.2.2.2.2.1.2.2) hh;have K5:∀b,adq a b=if b=true then some (false,()) else if eqi a.2.2.1 1=true then some (ge a.2.1.2 1,()) else if eqi a.2.2.1 2=true then if eqi a.2.1.2 (-1)=true then zC (QN (a.2.2.2.2.2.1,())) fun y=>some (y.1,()) else some (false,()) else some (false,()):=fun b=>rfl
 have hfst:QN (a.2.2.2.2.2.1,())=some (lZ a.2.2.2.2.2.1.2.1 ((a.2.2.2.2.2.1.2.1.count true:Nat):Int),()):=by
  show adh a.2.2.2.2.2.1=_;unfold adh;rw[hth,zD];dsimp only;rw[gy (gT.2 (by omega)),gy (gT.2 (by omega)),Int.sub_zero,zP,List.drop_zero,contains_eq false (by grind),zD];refine congrArg (fun b=>some (b,())) ?_;apply Bool.eq_iff_iff.2;rw[KI hh];dsimp only;rw[Bool.not_eq_true',decide_eq_false_iff_not];constructor
  ·intro hf i hi
   rw[zW,zU (by omega)]
   cases hx:a.2.2.2.2.2.1.2.1[i]'(by omega) with
   | true=>rfl
   | false =>
    exact absurd (zX (i:=i) (by simp_all)) hf
  ·intro hf hm
   obtain⟨i,hi⟩:=List.getElem?_of_mem hm;grind
 have K4:Yes (AJ a) (PH a):=by
  show Yes (ado adq a) _;unfold ado PH;rw[hth,alZ,zD,zD,K5,K5,hfst,zD];have hRL:jq a.2.1↔(a.2.1.1=0∧a.2.1.2=0∨a.2.1.1≠0∧(1≤a.2.1.2∨a.2.1.2=-1)):=Iff.rfl;by_cases p0:a.2.2.1=0
  ·rw[if_pos (au.2 p0)]
   by_cases q1:a.2.1.1=0∧a.2.1.2=0
   ·rw[if_pos (by simp_all[au])]
    by_cases q2:a.2.2.2.1=0
    ·rw[if_pos (au.2 q2)]
     by_cases q3:a.2.2.2.2.2.1.1=0
     ·simp_all[if_pos,au,Yes.b]
     simp_all[if_neg,au,Yes.no]
    simp_all[if_neg,au,Yes.no]
   simp_all[if_neg,zO,au,and_true,Yes.no]
  ·rw[if_neg (fun e=>p0 (au.1 e))]
   by_cases q1:a.2.1.1=0∨¬ jq a.2.1
   ·rw[decide_eq_true q1,if_pos rfl,if_pos rfl]
    grind[Yes.no]
   rw[decide_eq_false q1,if_neg (by decide),if_pos rfl];rw[hRL]at q1;by_cases q2:a.2.2.2.1≤a.2.2.2.2.1
   ·rw[if_pos (gT.2 q2)]
    grind[Yes.no]
   rw[if_neg (fun e=>q2 (gT.1 e))];by_cases q3:a.2.2.2.2.2.1.1=a.2.2.2.1
   ·rw[if_neg (fun e=>cu.1 e q3)]
    by_cases p1:a.2.2.1=1
    ·simp_all[if_pos,au,Yes.b,gU]
    ·rw[if_neg (fun e=>p1 (au.1 e))]
     by_cases p2:a.2.2.1=2
     ·rw[if_pos (au.2 p2)]
      by_cases q4:a.2.1.2=-1
      ·simp_all[if_pos,au,Yes.b]
      simp_all[if_neg,au,Yes.no]
     simp_all[if_neg,au,Yes.no]
   simp_all[if_pos,cu,Yes.no]
 have K1:∀b,adr a b=if b=true then some (false,()) else QO a a.2.2.2.2.2.1.2.1 0:=fun b=>rfl;show Yes (adp adr a) _;unfold adp RG;rw[K1,K1];by_cases c1:a.1.length=64
 ·rw[if_neg (fun e=>cu.1 e (by simp_all))]
  by_cases c2:1≤a.2.2.2.2.2.2
  ·rw[if_neg (fun e=>by grind[cr])]
   generalize hhv:a.2.2.2.2.2.1.2.1=hv at *;generalize hbs:a.2.2.2.2.2.1.2.2=bs at *
   have hs:∀(self:TAg×List Bool×Int->Option (As [.bool])) (i:Nat) (x:Bool),hv[i]? = some x->DY (Ia (fun a t16 t17=>self (a,t16,t17))) AJ (fun a t16 t17=>self (a,t16,t17)) a hv (i:Int)=if (!x || fitsB (bs.getD i zB))=true then self (a,hv,((i+1:Nat):Int)) else some (false,()):=by
    intro self i x hx;have hi:=(List.getElem?_eq_some_iff.1 hx).1;obtain⟨c,hc⟩:=iO (xs:=bs) (i:=i) (by omega);have l8:lt (i:Int) 8=true:=cr.2 (by omega);have K3:∀b,Ia (fun a t16 t17=>self (a,t16,t17)) a hv (i:Int) b=if b=true then some (false,()) else self (a,hv,((i+1:Nat):Int)):=fun b=>by show adn _ a hv (i:Int) b=_;grind[adn,gJ]
    unfold DY;rw[if_pos l8,gy l8,d9 hx,zD,zW,hc]
    cases x with
    | true =>
     rw[if_pos rfl,hbs,d9 hc,zD,uy (by grind),zD,K3];grind
    | false =>
     simp_all
   have he:∀self:TAg×List Bool×Int->Option (As [.bool]),DY (Ia (fun a t16 t17=>self (a,t16,t17))) AJ (fun a t16 t17=>self (a,t16,t17)) a hv (hv.length:Int)=AJ a:=by simp_all[DY,if_neg,cr]
   obtain⟨r,h4,h5⟩:=mY (F:=fun self s=>DY (Ia (fun a t16 t17=>self (a,t16,t17))) AJ (fun a t16 t17=>self (a,t16,t17)) s.1 s.2.1 s.2.2) (mk:=fun i=>(a,hv,(i:Int))) (p:=fun i x=>!x || fitsB (bs.getD i zB)) hs he hv.length 0 18446744073709551616 (by omega) (by omega);have hr:r=true ↔ ∀b∈gQ hv bs,fitsB b=true:=by grind[azj,zV,iO]
   have e:QO a hv 0=if r=true then AJ a else some (false,()):=h5;rw[e]
   cases r with
   | true =>
    simp_all
   | false =>
    rw[if_neg (by decide)];grind[Yes.no]
  ·rw[cr.2 (show a.2.2.2.2.2.2<1 by omega),if_pos rfl]
   grind[Yes.no]
 ·rw[if_pos (cu.2 (by grind)),if_pos rfl]
  simp_all[Yes.no]
theorem atr{a:TAg}(h1:a.1.length≤1000000)(hh:a.2.2.2.2.2.1.2.1.length=8)(hb:a.2.2.2.2.2.1.2.2.length=8)(hw:∀b∈a.2.2.2.2.2.1.2.2,b.2.length≤1000):Yes (adO (a,())) (RG a):=by
 have hbl:=qc hh hb hw
 have hbn:(gQ a.2.2.2.2.2.1.2.1 a.2.2.2.2.2.1.2.2).length=a.2.2.2.2.2.1.2.1.count true:=by
  have h1:=UY hh hb hw;have h2:Q6 (a.2.2.2.2.2.1,())=some (zF (gQ a.2.2.2.2.2.1.2.1 a.2.2.2.2.2.1.2.2).length,()):=by show Q5 _=_;simp_all[Q5]
  grind
 have hcl:a.2.2.2.2.2.1.2.1.count true≤8:=by grind
 have hfn:=KI hh;generalize hl:gQ a.2.2.2.2.2.1.2.1 a.2.2.2.2.2.1.2.2=l at hbl hbn;have K5:AP a=if nei a.2.1.1 0=true then if eqi a.2.1.2 (-1)=true then some (gt a.2.2.2.1 a.2.2.2.2.1,()) else some (false,()) else some (false,()):=rfl
 have K4:∃r:Bool,(r=true↔lZ a.2.2.2.2.2.1.2.1 ((a.2.2.2.2.2.1.2.1.count true:Nat):Int)=true)∧QY a l 0=if r=true then AP a else some (false,()):=by
  have hs:∀(self:TAg×List fq×Int->Option (As [.bool])) (i:Nat) (x:fq),l[i]? = some x->D4 AP (fun a l i=>self (a,l,i)) a l (i:Int)=if a.2.2.2.2.2.1.2.1.getD i false=true then self (a,l,((i+1:Nat):Int)) else some (false,()):=by intro self i x hx;have hi:=(List.getElem?_eq_some_iff.1 hx).1;obtain⟨z,hz⟩:=iO (xs:=a.2.2.2.2.2.1.2.1) (i:=i) (by omega);unfold D4;rw[if_pos (by grind[cr,bu]),d9 hz,zD,gJ (by omega),zW,hz];grind
  have he:∀self:TAg×List fq×Int->Option (As [.bool]),D4 AP (fun a l i=>self (a,l,i)) a l (l.length:Int)=AP a:=by simp_all[D4,if_neg,cr,bu]
  obtain⟨r,h4,h5⟩:=mY (F:=fun self s=>D4 AP (fun a l i=>self (a,l,i)) s.1 s.2.1 s.2.2) (mk:=fun i=>(a,l,(i:Int))) (p:=fun i _=>a.2.2.2.2.2.1.2.1.getD i false) hs he l.length 0 18446744073709551616 (by omega) (by omega);refine⟨r,?_,h5⟩;simp_all[zU,zV]
 have K3:a.2.2.2.1=a.2.2.2.2.2.1.1->Yes (AQ a l) (PH a):=by
  intro hst;show Yes (adL QY a l) _;unfold adL PH;obtain⟨r,h4,h5⟩:=K4;rw[Tz,zD,h5,K5];by_cases q0:(a.2.1.1=0∧a.2.1.2=0)∨(a.2.1.1≠0∧(1≤a.2.1.2∨a.2.1.2=-1))
  ·rw[decide_eq_true q0,if_neg (by decide)]
   by_cases p0:a.2.2.1=0
   ·rw[if_pos (au.2 p0)]
    by_cases q1:a.2.1.1=0
    ·rw[if_pos (au.2 q1)]
     by_cases q2:a.2.2.2.1=0
     ·rw[if_pos (au.2 q2)]
      grind[Yes.b,au,bu]
     simp_all[if_neg,au,Yes.no]
    simp_all[if_neg,au,Yes.no]
   rw[if_neg (fun e=>p0 (au.1 e))];by_cases p1:a.2.2.1=1
   ·rw[if_pos (au.2 p1)]
    by_cases q1:a.2.1.1=0
    ·simp_all[if_neg,cu,Yes.no]
    ·rw[if_pos (cu.2 q1)]
     by_cases q2:0<a.2.1.2
     ·rw[if_pos (iD.2 q2)]
      grind[Yes.b,iD]
     ·rw[if_neg (fun e=>q2 (iD.1 e))]
      grind[Yes.no]
   rw[if_neg (fun e=>p1 (au.1 e))];by_cases p2:a.2.2.1=2
   ·rw[if_pos (au.2 p2)]
    cases r with
    | false =>
     simp_all[if_neg,Yes.no]
    | true =>
     rw[if_pos rfl];have hf:=h4.1 rfl;by_cases q1:a.2.1.1=0
     ·simp_all[if_neg,cu,Yes.no]
     ·rw[if_pos (cu.2 q1)]
      by_cases q2:a.2.1.2=-1
      ·simp_all[if_pos,au,Yes.b,iD]
      simp_all[if_neg,au,Yes.no]
   simp_all[if_neg,au,Yes.no]
  ·rw[decide_eq_false q0,if_pos (by decide)]
   grind[Yes.no]
 have K2:Ij a l 0=if l.all fitsB=true then AQ a l else some (false,()):=by
  have hs:∀(self:TAg×List fq×Int->Option (As [.bool])) (i:Nat) (x:fq),l[i]? = some x->D3 AQ (fun a l i=>self (a,l,i)) a l (i:Int)=if fitsB x=true then self (a,l,((i+1:Nat):Int)) else some (false,()):=by intro self i x hx;have hi:=(List.getElem?_eq_some_iff.1 hx).1;unfold D3;rw[if_pos (by grind[cr,bu]),d9 hx,zD,wC,zD,gJ (by omega)];grind
  have he:∀self:TAg×List fq×Int->Option (As [.bool]),D3 AQ (fun a l i=>self (a,l,i)) a l (l.length:Int)=AQ a l:=by simp_all[D3,if_neg,cr,bu]
  obtain⟨r,h4,h5⟩:=mY (F:=fun self s=>D3 AQ (fun a l i=>self (a,l,i)) s.1 s.2.1 s.2.2) (mk:=fun i=>(a,l,(i:Int))) (p:=fun _ x=>fitsB x) hs he l.length 0 18446744073709551616 (by omega) (by omega);have:r=l.all fitsB:=by apply Bool.eq_iff_iff.2;grind[List.all_eq_true,List.getElem?_of_mem,zX]
  rw[<- this];exact h5
 have K1:∀b,adN a b=if b=true then some (false,()) else Ij a l 0:=fun b=>by show adK Ij a b=_;simp_all[adK]
 show Yes (adM adN a) _;unfold adM RG;rw[K1,K1,K2,hl];have hst:PH a->a.2.2.2.1=a.2.2.2.2.2.1.1:=fun h=>by grind[PH]
 by_cases c1:a.1.length=64
 ·rw[if_neg (fun e=>cu.1 e (by simp_all))]
  by_cases c2:1≤a.2.2.2.2.2.2
  ·rw[if_neg (fun e=>by grind[cr])]
   by_cases c3:a.2.2.2.1=a.2.2.2.2.2.1.1
   ·rw[if_neg (fun e=>cu.1 e c3)]
    by_cases c4:l.all fitsB=true
    ·simp_all
    ·rw[if_neg c4]
     grind[Yes.no,List.all_eq_true]
   simp_all[if_pos,cu,Yes.no]
  ·rw[cr.2 (show a.2.2.2.2.2.2<1 by omega),if_pos rfl,if_pos rfl]
   grind[Yes.no]
 ·rw[if_pos (cu.2 (by grind)),if_pos rfl]
  simp_all[Yes.no]
def RS'(s:TSl):Prop:=(1≤s.1∧s.1≤247)∧(s.2.1=1∨s.2.1=2)∧RG s.2.2.1∧s.2.2.2.length=16
structure SzS(s:TSl):Prop where
 b:s.2.2.1.1.length≤1000000
 h:s.2.2.1.2.2.2.2.2.1.2.1.length=8
 l:s.2.2.1.2.2.2.2.2.1.2.2.length=8
 w:∀b∈s.2.2.1.2.2.2.2.2.1.2.2,b.2.length≤1000
theorem ake(u l:Int):OG (u,l,())=some (decide ((1≤u∧u≤247)∧(l=1∨l=2)),()):=by
 show anm u l=_;unfold anm;by_cases h1:1≤u
 ·rw[if_pos (gU.2 h1)]
  by_cases h2:u≤247
  ·rw[if_pos (gT.2 h2)]
   by_cases h3:l=1
   ·simp_all[if_pos,au,decide_eq_true]
   ·rw[if_neg (fun e=>h3 (au.1 e))]
    refine congrArg (fun b=>some (b,())) ?_;apply Bool.eq_iff_iff.2;simp_all[au,decide_eq_true_eq]
  simp_all[if_neg,gT,decide_eq_false]
 simp_all[if_neg,gU,decide_eq_false]
theorem T7{s:TSl}(h:SzS s):Yes (Ib (s,())) (RS' s):=by
 obtain⟨b,h1,h2⟩:=akd h.b h.h h.l h.w;show Yes (aqC s) _;unfold aqC RS';rw[ake,h2,zD,zD];by_cases c1:(1≤s.1∧s.1≤247)∧(s.2.1=1∨s.2.1=2)
 ·rw[decide_eq_true c1,if_pos rfl]
  cases b with
  | true =>
   rw[if_pos rfl];refine Yes.b ?_;rw[au,bu];grind
  | false =>
   simp_all[if_neg,Yes.no]
 simp_all[decide_eq_false,if_neg,Yes.no]
theorem TF{s:TSl}(h:SzS s):Yes (Ik (s,())) (RS' s):=by
 obtain⟨b,h1,h2⟩:=atr h.b h.h h.l h.w;show Yes (adP s) _;unfold adP RS';rw[h2,zD];by_cases c1:1≤s.1
 ·rw[if_pos (gU.2 c1)]
  by_cases c2:s.1≤247
  ·rw[if_pos (gT.2 c2)]
   by_cases c3:1≤s.2.1
   ·rw[if_pos (gU.2 c3)]
    by_cases c4:s.2.1≤2
    ·rw[if_pos (gT.2 c4)]
     by_cases c5:s.2.2.2.length=16
     ·rw[if_pos (by grind[au,bu])]
      grind[Yes.b]
     ·rw[if_neg (by grind[au,bu])]
      simp_all[Yes.no]
    ·rw[if_neg (fun e=>c4 (gT.1 e))]
     grind[Yes.no]
   ·rw[if_neg (fun e=>c3 (gU.1 e))]
    grind[Yes.no]
  ·rw[if_neg (fun e=>c2 (gT.1 e))]
   grind[Yes.no]
 ·rw[if_neg (fun e=>c1 (gU.1 e))]
  grind[Yes.no]
theorem T8{s:TSl}(h:SzS s):Ib (s,())=Ik (s,()):=(T7 h).eq (TF h)
theorem aBq{u l t:Int}{b:List Int}(hb:b.length≤1000000):Mg (u,l,b,t,())=z8 (u,l,b,t,()):=by
 have ha:=UQ (t:=t) hb;have hr:=aBo (t:=t) hb;show adf adg u l b t=OJ u l b t;unfold adf OJ;have K1:∀c,adg u l b t 0 c [zSl]=if c=true then some (zSl,2,()) else zC (H8 (b,t,())) fun y=>if nei y.2.1 0=true then some (zSl,y.2.1,()) else some ((u,l,gV y.1,zE 16 false),0,()):=fun c=>rfl;have e:H8 (b,t,())=Ld (b,t,()):=hr.trans ha.symm;rw[ake,zD,K1,K1,e];by_cases c1:u<1
 ·rw[if_pos (cr.2 c1),if_pos rfl,decide_eq_false (by omega),if_pos (by decide)]
 rw[if_neg (fun e=>c1 (cr.1 e))];by_cases c2:247<u
 ·rw[if_pos (iD.2 c2),if_pos rfl,decide_eq_false (by omega),if_pos (by decide)]
 rw[if_neg (fun e=>c2 (iD.1 e))];by_cases c3:l<1
 ·rw[if_pos (cr.2 c3),if_pos rfl,decide_eq_false (by omega),if_pos (by decide)]
 rw[if_neg (fun e=>c3 (cr.1 e))];by_cases c4:2<l
 ·rw[iD.2 c4,if_pos rfl,decide_eq_false (by omega),if_pos (by decide)]
 ·rw[show gt l 2=false from Bool.eq_false_iff.2 (fun e=>c4 (iD.1 e)),if_neg (by decide),decide_eq_true (by omega),if_neg (by decide)]
  rfl
theorem azk{s:TSl}(h1:s.2.2.1.2.2.2.2.2.1.2.1.length=8)(h2:s.2.2.1.2.2.2.2.2.1.2.2.length=8):unS (pkS s)=s:=by have e:unS (pkS s)=(s.1,s.2.1,gV s.2.2.1,s.2.2.2):=rfl;grind[qY]
theorem UZ{a:TAg}(h:SzA a):(gz a).2.2.2.2.2.1.2.1.length=8∧(gz a).2.2.2.2.2.1.2.2.length=8:=⟨h.hv,oK h.hv h.bs⟩
theorem Cy{s:TSl}(h:SzA s.2.2.1)(hc:s.2.2.2.length≤1000000):vK (s,())=some (dz s,()):=by show adT adU s=_;unfold adT;rw[qY h.hv h.bs,tK h,zD,vN (eqAs_refl _)];show adS s _ _=_;unfold adS;rw[gZ (by omega)];dsimp only;rw[qY (UZ h).1 (UZ h).2];rfl
theorem al0{s:TSl}(h:SzA s.2.2.1)(hc:s.2.2.2.length≤1000000):adY (s,())=some (pkS (dz s)):=by show adX aqQ s=_;unfold adX;rw[qY h.hv h.bs,tK h,zD,vN (eqAs_refl _)];show adW s _ _=_;unfold adW;rw[gZ (by omega)];rfl
theorem azl{s:TSl}(h:OkS s):MK (s,())=some (yO (dz s),()):=by show ajb s=_;unfold ajb;rw[Cy h.a.sz (by rw[h.c];decide),zD];have:MJ ((dz s).2.2.1,())=some (tickA (gz (dz s).2.2.1),()):=azh (h.a.own);dsimp only;rw[this];rfl
theorem azm{s:TSl}(h:OkS s):MN (s,())=some (yP (dz s),()):=by show ajd s=_;unfold ajd;rw[Cy h.a.sz (by rw[h.c];decide),zD];have:ML ((dz s).2.2.1,())=some (bootA (gz (dz s).2.2.1),()):=azi (h.a.own.sz);dsimp only;rw[this];rfl
theorem axT{σ R α:Type}[DecidableEq α]{F:(σ->Option R)->σ->Option R}{mk:Nat->σ}{xs ys:List α}{r0 fin:Option R}(hl:xs.length=ys.length)
  (hs:∀self i x,xs[i]? = some x->F self (mk i)=if decide (ys[i]? = some x)=true then self (mk (i+1)) else r0) (he:∀self,F self (mk xs.length)=fin) {n:Nat} (hn:xs.length<n) :
  ay F n (mk 0)=if xs=ys then fin else r0:=by
 obtain⟨r,h4,h5⟩:=mY (p:=fun i x=>decide (ys[i]? = some x)) hs he xs.length 0 n (by omega) hn;rw[h5]
 have:r=decide (xs=ys):=by
  apply Bool.eq_iff_iff.2;rw[h4,decide_eq_true_eq];constructor
  ·intro hh
   apply List.ext_getElem?;grind
  simp_all
 grind
theorem azn{a b:TAg}(h1:SzA a)(h2:SzA b):Yes (aju (a,b,())) (gz a=gz b):=by
 have hs:=azf h1.hv h1.bs h2.hv h2.bs h1.bw h2.bw;have hbk:=h1.bk
 have K2:a.1.length=b.1.length->JE a b 0=if a.1=b.1 then some (true,()) else some (false,()):=fun hl=>by
  unfold JE;refine axT (xs:=a.1) (ys:=b.1) (mk:=fun i=>(a,b,(i:Int))) hl ?_ ?_ (by omega)
  ·intro self i x hx
   have hi:=(List.getElem?_eq_some_iff.1 hx).1;obtain⟨y,hy⟩:=iO (xs:=b.1) (i:=i) (by omega);show JD _ a b (i:Int)=_;unfold JD;rw[if_pos (by rw[cr,bu];omega),d9 hx,zD,d9 hy,zD,gJ (by omega),hy];by_cases e:x=y
   ·subst e
    rw[if_neg (fun e=>cu.1 e rfl),if_pos (decide_eq_true rfl)]
   ·rw[if_pos (cu.2 e),if_neg (by simpa using fun e'=>e e'.symm)]
  ·intro self
   show JD _ a b (a.1.length:Int)=_;unfold JD;rw[if_neg (by rw[cr,bu];omega)]
 have K1:∀c,ajt a b c=if c=true then some (false,()) else JE a b 0:=fun c=>rfl;show Yes (ajs ajt a b) _;unfold ajs;rw[hs,zD,K1,K1]
 have hown:gz a=gz b↔(a.1=b.1∧(a.2.1.1=b.2.1.1∧a.2.1.2=b.2.1.2)∧a.2.2.1=b.2.2.1∧a.2.2.2.1=b.2.2.2.1∧a.2.2.2.2.1=b.2.2.2.2.1∧a.2.2.2.2.2.2=b.2.2.2.2.2.2∧(a.2.2.2.2.2.1.1,a.2.2.2.2.2.1.2.1,nzB a.2.2.2.2.2.1.2.1 a.2.2.2.2.2.1.2.2)=(b.2.2.2.2.2.1.1,b.2.2.2.2.2.1.2.1,nzB b.2.2.2.2.2.1.2.1 b.2.2.2.2.2.1.2.2)):=by
  obtain⟨bk,⟨lo,lf⟩,ph,tx,la,⟨st,hv,bs⟩,tk⟩:=a;obtain⟨bk',⟨lo',lf'⟩,ph',tx',la',⟨st',hv',bs'⟩,tk'⟩:=b;unfold gz;simp only[Prod.mk.injEq];constructor
  ·rintro⟨a1,a2,a3,a4,a5,a6,a7⟩
   exact⟨a1,a2,a3,a4,a5,a7,a6⟩
  ·rintro⟨a1,a2,a3,a4,a5,a7,a6⟩
   exact⟨a1,a2,a3,a4,a5,a6,a7⟩
 by_cases c1:a.1.length=b.1.length
 ·rw[if_neg (fun e=>cu.1 e (by rw[c1]))]
  by_cases c2:a.2.1.1=b.2.1.1∧a.2.1.2=b.2.1.2
  ·rw[if_neg (by rw[au.2 c2.1,au.2 c2.2];decide)]
   by_cases c3:a.2.2.1=b.2.2.1
   ·rw[if_neg (fun e=>cu.1 e c3)]
    by_cases c4:a.2.2.2.1=b.2.2.2.1
    ·rw[if_neg (fun e=>cu.1 e c4)]
     by_cases c5:a.2.2.2.2.1=b.2.2.2.2.1
     ·rw[if_neg (fun e=>cu.1 e c5)]
      by_cases c6:a.2.2.2.2.2.2=b.2.2.2.2.2.2
      ·rw[if_neg (fun e=>cu.1 e c6)]
       by_cases c7:(a.2.2.2.2.2.1.1,a.2.2.2.2.2.1.2.1,nzB a.2.2.2.2.2.1.2.1 a.2.2.2.2.2.1.2.2)=(b.2.2.2.2.2.1.1,b.2.2.2.2.2.1.2.1,nzB b.2.2.2.2.2.1.2.1 b.2.2.2.2.2.1.2.2)
       ·rw[decide_eq_true c7,if_neg (by decide),K2 c1]
        by_cases c8:a.1=b.1
        ·rw[if_pos c8]
         exact⟨true,⟨fun _=>hown.2 ⟨c8,c2,c3,c4,c5,c6,c7⟩,fun _=>rfl⟩,rfl⟩
        ·rw[if_neg c8]
         exact Yes.no (fun h=>c8 (hown.1 h).1)
       ·rw[decide_eq_false c7,if_pos (by decide)]
        exact Yes.no (fun h=>c7 (hown.1 h).2.2.2.2.2.2)
      ·rw[if_pos (cu.2 c6),if_pos rfl]
       exact Yes.no (fun h=>c6 (hown.1 h).2.2.2.2.2.1)
     ·rw[if_pos (cu.2 c5),if_pos rfl]
      exact Yes.no (fun h=>c5 (hown.1 h).2.2.2.2.1)
    ·rw[if_pos (cu.2 c4),if_pos rfl]
     exact Yes.no (fun h=>c4 (hown.1 h).2.2.2.1)
   ·rw[if_pos (cu.2 c3),if_pos rfl]
    exact Yes.no (fun h=>c3 (hown.1 h).2.2.1)
  ·rw[if_pos (by
    have:(eqi a.2.1.1 b.2.1.1 && (eqi a.2.1.2 b.2.1.2 && true))=false:=by rw[Bool.eq_false_iff];intro e;simp only[zO,au,and_true]at e;exact c2 e
    rw[this]
    rfl),if_pos rfl]
   exact Yes.no (fun h=>c2 (hown.1 h).2.1)
 ·rw[if_pos (cu.2 (by rw[bu,bu];omega)),if_pos rfl]
  exact Yes.no (fun h=>c1 (by rw[(hown.1 h).1]))
theorem J6{a b:TSl}(h1:SzA a.2.2.1)(h2:SzA b.2.2.1)(hc:a.2.2.2.length≤1000000):JH (a,b,())=some (decide (dz a=dz b),()):=by
 obtain⟨r,q1,q2⟩:=azn h1 h2
 have K2:a.2.2.2.length=b.2.2.2.length->JG a b 0=if a.2.2.2=b.2.2.2 then some (true,()) else some (false,()):=fun hl=>by
  unfold JG;refine axT (xs:=a.2.2.2) (ys:=b.2.2.2) (mk:=fun i=>(a,b,(i:Int))) hl ?_ ?_ (by omega)
  ·intro self i x hx
   have hi:=(List.getElem?_eq_some_iff.1 hx).1;obtain⟨y,hy⟩:=iO (xs:=b.2.2.2) (i:=i) (by omega);show JF _ a b (i:Int)=_;unfold JF;rw[if_pos (by rw[cr,bu];omega),d9 hx,zD,d9 hy,zD,gJ (by omega),hy];cases x<;>cases y<;>rfl
  ·intro self
   show JF _ a b (a.2.2.2.length:Int)=_;unfold JF;rw[if_neg (by rw[cr,bu];omega)]
 have K1:∀c,ajz a b c=if c=true then some (false,()) else JG a b 0:=fun c=>rfl;have hown:dz a=dz b↔(a.1=b.1∧a.2.1=b.2.1∧gz a.2.2.1=gz b.2.2.1∧a.2.2.2=b.2.2.2):=by unfold dz jl;simp only[Prod.mk.injEq]
 show ajy ajz a b=_;unfold ajy;rw[q2,zD,K1,K1];by_cases c1:a.1=b.1
 ·rw[if_neg (fun e=>cu.1 e c1)]
  by_cases c2:a.2.1=b.2.1
  ·rw[if_neg (fun e=>cu.1 e c2)]
   by_cases c3:a.2.2.2.length=b.2.2.2.length
   ·rw[if_neg (fun e=>cu.1 e (by rw[c3]))]
    cases r with
    | true =>
     rw[if_neg (by decide),K2 c3];by_cases c4:a.2.2.2=b.2.2.2
     ·rw[if_pos c4,decide_eq_true (hown.2 ⟨c1,c2,q1.1 rfl,c4⟩)]
     ·rw[if_neg c4,decide_eq_false (fun h=>c4 (hown.1 h).2.2.2)]
    | false =>
     rw[if_pos (by decide),decide_eq_false (fun h=>by have:=q1.2 (hown.1 h).2.2.1;cases this)]
   ·rw[if_pos (cu.2 (by rw[bu,bu];omega)),if_pos rfl,decide_eq_false (fun h=>c3 (by rw[(hown.1 h).2.2.2]))]
  ·rw[if_pos (cu.2 c2),if_pos rfl,decide_eq_false (fun h=>c2 (hown.1 h).2.1)]
 ·rw[if_pos (cu.2 c1),if_pos rfl,decide_eq_false (fun h=>c1 (hown.1 h).1)]
theorem yS{α:Type}(h:List α)(p:Nat)(ys:List α):cpy h p (ys.take 0)=h:=by simp[cpy]
theorem Cz{α:Type}{h ys:List α}{p i:Nat}{y:α}(hy:ys[i]? = some y)(hp:p+i<h.length):(cpy h p (ys.take i)).set (p+i) y=cpy h p (ys.take (i+1)):=by
 have hi:=(List.getElem?_eq_some_iff.1 hy).1;obtain⟨z,hz⟩:=iO hp;have e:h.drop (p+i)=z::h.drop (p+i+1):=by simp_all[List.drop_eq_getElem_cons,zU]
 have l1:(ys.take i).length=i:=by grind
 have l2:(ys.take (i+1)).length=i+1:=by grind
 unfold cpy;rw[l1,l2,e];have:=Fg (h.take p++ys.take i) z y (h.drop (p+i+1));rw[zY,kA,l1,Nat.min_eq_left (by omega)]at this;simp_all[List.take_add_one,Nat.add_assoc]
theorem FI{α:Type}{h ys:List α}{p i:Nat}(hp:p+ys.length≤h.length):(cpy h p (ys.take i)).length=h.length:=l5 (by grind)
theorem al1{s:TSl}(h:OkS s):oW (s,())=some (lJ s,()):=by
 have ha:=h.a;have hc:=h.c;have hbl:=ha.bl;have hst:=alY ha;have l7:(gD s.2.2.1).length=8:=rfl;have s0:at? (gD s.2.2.1) 0=some s.2.2.1.2.1.1:=rfl;have s6:at? (gD s.2.2.1) 6=some ((s.2.2.1.2.2.2.2.2.1.2.1.count true:Nat):Int):=rfl;have hph:=ha.pr
 have K11:∀o2:List Bool,o2.length=8->∀o o3 o4,Q9 (gD s.2.2.1) ((),(),(),()) ((),(),(),()) o o2 o3 o4=some ((o,(o2.set 4 (decide (s.2.2.1.2.1.1≠0))).set 5 (decide (true∈s.2.2.1.2.2.2.2.2.1.2.1)),o3,o4),()):=fun o2 ho o o3 o4=>by
  show aey (gD s.2.2.1) _ _ o o2 o3 o4=_;unfold aey;obtain⟨x4,h4⟩:=iO (xs:=o2) (i:=4) (by omega);have e4:at? o2 4=some x4:=d9 (i:=4) h4;have e1:nei s.2.2.1.2.1.1 0=decide (s.2.2.1.2.1.1≠0):=by apply Bool.eq_iff_iff.2;rw[cu,decide_eq_true_eq]
  obtain⟨x5,h5⟩:=iO (xs:=o2.set 4 (decide (s.2.2.1.2.1.1≠0))) (i:=5) (by simp_all);have e5:at? (o2.set 4 (decide (s.2.2.1.2.1.1≠0))) 5=some x5:=d9 (i:=5) h5;have e6:nei ((s.2.2.1.2.2.2.2.2.1.2.1.count true:Nat):Int) 0=decide (true∈s.2.2.1.2.2.2.2.2.1.2.1):=by apply Bool.eq_iff_iff.2;rw[cu,decide_eq_true_eq];grind
  simp_all
 have K10:∀o o3 o4,Iy s (gD s.2.2.1) 0 ((),(),(),()) ((),(),(),()) o (zE 8 false) o3 o4=some ((o,o7 s.2.2.1,o3,o4),()):=fun o o3 o4=>by
  have hcv:cvt .i64 s.2.2.1.2.2.1=s.2.2.1.2.2.1:=gM (by omega) (by omega);show Iy s (gD s.2.2.1) 0 ((),(),(),()) ((),(),(),()) o ((List.range 0).foldl (fun h k=>h.set k (eqi s.2.2.1.2.2.1 (k:Int))) (zE 8 false)) o3 o4=_
  have hlen:∀k,((List.range k).foldl (fun h k=>h.set k (eqi s.2.2.1.2.2.1 (k:Int))) (zE 8 false)).length=8:=fun k=>by
   induction k with
   | zero=>rfl
   | succ k ih =>
    simp_all[List.range_succ,List.foldl_append,List.set,List.length_set]
  unfold Iy;refine jV (N:=3) (mk:=fun i=>(s,gD s.2.2.1,(i:Int),((),(),(),()),((),(),(),()),o,(List.range i).foldl (fun h k=>h.set k (eqi s.2.2.1.2.2.1 (k:Int))) (zE 8 false),o3,o4)) ?_ ?_ 3 0 _ (by omega) (by omega)
  ·intro self i hi
   show Iv Q9 _ s (gD s.2.2.1) (i:Int) _ _ o ((List.range i).foldl (fun h k=>h.set k (eqi s.2.2.1.2.2.1 (k:Int))) (zE 8 false)) o3 o4=self (s,gD s.2.2.1,((i+1:Nat):Int),((),(),(),()),((),(),(),()),o,(List.range (i+1)).foldl (fun h k=>h.set k (eqi s.2.2.1.2.2.1 (k:Int))) (zE 8 false),o3,o4);have hl:=hlen i;have e:(List.range (i+1)).foldl (fun h k=>h.set k (eqi s.2.2.1.2.2.1 (k:Int))) (zE 8 false)=((List.range i).foldl (fun h k=>h.set k (eqi s.2.2.1.2.2.1 (k:Int))) (zE 8 false)).set i (eqi s.2.2.1.2.2.1 (i:Int)):=by simp_all[List.range_succ,List.foldl_append]
   rw[e];generalize (List.range i).foldl (fun h k=>h.set k (eqi s.2.2.1.2.2.1 (k:Int))) (zE 8 false)=q at hl;obtain⟨x,hx⟩:=iO (xs:=q) (i:=i) (by omega);unfold Iv;rw[if_pos (cr.2 (by omega)),d9 hx,zD,zD,hcv,gJ (by omega),zP]
  ·intro self
   show Iv Q9 _ s (gD s.2.2.1) 3 _ _ o _ o3 o4=_;unfold Iv;rw[if_neg (by decide),K11 _ (hlen 3)];have e:((List.range 3).foldl (fun h k=>h.set k (eqi s.2.2.1.2.2.1 (k:Int))) (zE 8 false))=(zE 8 false).set s.2.2.1.2.2.1.toNat true:=by have e3:(List.range 3).foldl (fun h k=>h.set k (eqi s.2.2.1.2.2.1 (k:Int))) (zE 8 false)=[eqi s.2.2.1.2.2.1 0,eqi s.2.2.1.2.2.1 1,eqi s.2.2.1.2.2.1 2,false,false,false,false,false]:=rfl;rw[e3];generalize s.2.2.1.2.2.1=p at hph;rcases (show p=0∨p=1∨p=2 by omega) with rfl | rfl | rfl<;>rfl
   rw[e];rfl
 have K8:∀o o3 o4,Ra s (gD s.2.2.1) ((),(),(),()) ((),(),(),()) o (zE 8 false) o3 o4=some ((o,o7 s.2.2.1,o3,o4),()):=fun o o3 o4=>K10 o o3 o4
 have K6:∀o o4 (H:List Int),H.length=756->AV s (gD s.2.2.1) 0 ((),(),(),()) ((),(),(),()) o (zE 8 false) H o4=some ((o,o7 s.2.2.1,(List.range 8).foldl (fun h b=>cpy h (512+b*32) (iU s.2.2.1.2.2.2.2.2.1 s.2.2.1.2.1.1 (b:Int))) H,o4),()):=fun o o4 H hH=>by
  have hlen:∀k,k≤8->((List.range k).foldl (fun h b=>cpy h (512+b*32) (iU s.2.2.1.2.2.2.2.2.1 s.2.2.1.2.1.1 (b:Int))) H).length=756:=fun k=>by
   induction k with
   | zero=>simp_all
   | succ k ih =>
    grind[List.range_succ,cpy,l5,uZ]
  show AV s (gD s.2.2.1) 0 ((),(),(),()) ((),(),(),()) o (zE 8 false) ((List.range 0).foldl (fun h b=>cpy h (512+b*32) (iU s.2.2.1.2.2.2.2.2.1 s.2.2.1.2.1.1 (b:Int))) H) o4=_;unfold AV;refine jV (N:=8) (mk:=fun i=>(s,gD s.2.2.1,(i:Int),((),(),(),()),((),(),(),()),o,zE 8 false,(List.range i).foldl (fun h b=>cpy h (512+b*32) (iU s.2.2.1.2.2.2.2.2.1 s.2.2.1.2.1.1 (b:Int))) H,o4)) ?_ ?_ 8 0 _ (by omega) (by omega)
  ·intro self b hb
   show Ir (Iw _) Ra _ s (gD s.2.2.1) (b:Int) _ _ o (zE 8 false) ((List.range b).foldl (fun h b=>cpy h (512+b*32) (iU s.2.2.1.2.2.2.2.2.1 s.2.2.1.2.1.1 (b:Int))) H) o4=self (s,gD s.2.2.1,((b+1:Nat):Int),((),(),(),()),((),(),(),()),o,zE 8 false,(List.range (b+1)).foldl (fun h b=>cpy h (512+b*32) (iU s.2.2.1.2.2.2.2.2.1 s.2.2.1.2.1.1 (b:Int))) H,o4);have hl:=hlen b (by omega);have e:(List.range (b+1)).foldl (fun h b=>cpy h (512+b*32) (iU s.2.2.1.2.2.2.2.2.1 s.2.2.1.2.1.1 (b:Int))) H=cpy ((List.range b).foldl (fun h b=>cpy h (512+b*32) (iU s.2.2.1.2.2.2.2.2.1 s.2.2.1.2.1.1 (b:Int))) H) (512+b*32) (iU s.2.2.1.2.2.2.2.2.1 s.2.2.1.2.1.1 (b:Int)):=by simp_all[List.range_succ,List.foldl_append]
   rw[e];generalize (List.range b).foldl (fun h b=>cpy h (512+b*32) (iU s.2.2.1.2.2.2.2.2.1 s.2.2.1.2.1.1 (b:Int))) H=q at hl;have hst:=ha.st;have hbk:=ay9 (s:=s.2.2.1.2.2.2.2.2.1) (o:=s.2.2.1.2.1.1) (n:=(b:Int)) hst.1 hst.2 ⟨by omega,by omega⟩ ha.hl ha.sl;have hw:=uZ (s:=s.2.2.1.2.2.2.2.2.1) (o:=s.2.2.1.2.1.1) (n:=(b:Int));generalize iU s.2.2.1.2.2.2.2.2.1 s.2.2.1.2.1.1 (b:Int)=w at hbk hw;unfold Ir;rw[if_pos (cr.2 (by omega)),s0,zD,hbk,zD];dsimp only;rw[<- yS q (512+b*32) w];unfold Iw;have hlc:∀i,(cpy q (512+b*32) (w.take i)).length=756:=fun i=>by grind[FI]
   refine (jV (N:=20) (r:=self (s,gD s.2.2.1,((b+1:Nat):Int),((),(),(),()),((),(),(),()),o,zE 8 false,cpy q (512+b*32) w,o4)) (mk:=fun i=>(s,gD s.2.2.1,(b:Int),w,(i:Int),((),(),(),()),((),(),(),()),o,zE 8 false,cpy q (512+b*32) (w.take i),o4)) ?_ ?_ 20 0 _ (by omega) (by omega)).trans (by rw[yS])
   ·intro s7 i hi
    show Iu (aeA _) _ _ s (gD s.2.2.1) (b:Int) w (i:Int) _ _ o (zE 8 false) (cpy q (512+b*32) (w.take i)) o4=s7 (s,gD s.2.2.1,(b:Int),w,((i+1:Nat):Int),((),(),(),()),((),(),(),()),o,zE 8 false,cpy q (512+b*32) (w.take (i+1)),o4);obtain⟨y,hy⟩:=iO (xs:=w) (i:=i) (by omega);have ea:add .i64 (add .i64 512 (mul .i64 32 (b:Int))) (i:Int)=((512+b*32+i:Nat):Int):=by have e1:mul .i64 32 (b:Int)=32*(b:Int):=kZ (by omega) (by omega);have e2:add .i64 512 (32*(b:Int))=512+32*(b:Int):=iF (by omega) (by omega);grind[iF]
    obtain⟨z,hz⟩:=iO (xs:=cpy q (512+b*32) (w.take i)) (i:=512+b*32+i) (by grind);unfold Iu;rw[if_pos (cr.2 (by omega)),d9 hy,zD,ea,d9 hz,zD,zD,zP,Cz hy (by omega),gJ (by omega)]
   ·intro s7
    show Iu (aeA _) _ _ s (gD s.2.2.1) (b:Int) w (20:Int) _ _ o (zE 8 false) (cpy q (512+b*32) (w.take 20)) o4=_;unfold Iu;rw[if_neg (by decide),List.take_of_length_le (by omega)];show aex _ s (gD s.2.2.1) (b:Int) _ _ o _ _ o4=_;grind[aex,gJ]
  ·intro self
   show Ir (Iw _) Ra _ s (gD s.2.2.1) 8 _ _ o (zE 8 false) _ o4=_;unfold Ir;rw[if_neg (by decide),K8]
 have K4:∀o o4 (H:List Int),H.length=756->D5 s (gD s.2.2.1) 0 ((),(),(),()) ((),(),(),()) o (zE 8 false) H o4=AV s (gD s.2.2.1) 0 ((),(),(),()) ((),(),(),()) o (zE 8 false) (cpy H 256 (gD s.2.2.1)) o4:=fun o o4 H hH=>by
  generalize gD s.2.2.1=w at l7;have hlc:∀i,(cpy H 256 (w.take i)).length=756:=fun i=>by simp_all[FI]
  rw[<- yS H 256 w];unfold D5;refine (jV (N:=8) (r:=AV s w 0 ((),(),(),()) ((),(),(),()) o (zE 8 false) (cpy H 256 w) o4) (mk:=fun i=>(s,w,(i:Int),((),(),(),()),((),(),(),()),o,zE 8 false,cpy H 256 (w.take i),o4)) ?_ ?_ 8 0 _ (by omega) (by omega)).trans (by rw[yS])
  ·intro self i hi
   show Iq aeB _ s w (i:Int) _ _ o (zE 8 false) (cpy H 256 (w.take i)) o4=self (s,w,((i+1:Nat):Int),((),(),(),()),((),(),(),()),o,zE 8 false,cpy H 256 (w.take (i+1)),o4);obtain⟨y,hy⟩:=iO (xs:=w) (i:=i) (by omega);have ea:add .i64 256 (i:Int)=((256+i:Nat):Int):=by grind[iF]
   obtain⟨z,hz⟩:=iO (xs:=cpy H 256 (w.take i)) (i:=256+i) (by grind);unfold Iq;rw[if_pos (cr.2 (by omega)),d9 hy,zD,ea,d9 hz,zD,zD,zP,Cz hy (by omega),gJ (by omega)]
  ·intro self
   show Iq aeB _ s w (8:Int) _ _ o (zE 8 false) (cpy H 256 (w.take 8)) o4=_;unfold Iq;rw[if_neg (by decide),List.take_of_length_le (by omega)];rfl
 have K2:∀o o4 (H:List Int),H.length=756->Iz s (gD s.2.2.1) 0 ((),(),(),()) ((),(),(),()) o (zE 8 false) H o4=D5 s (gD s.2.2.1) 0 ((),(),(),()) ((),(),(),()) o (zE 8 false) (cpy H 0 s.2.2.1.1) o4:=fun o o4 H hH=>by
  generalize gD s.2.2.1=w;have hlc:∀i,(cpy H 0 (s.2.2.1.1.take i)).length=756:=fun i=>by simp_all[FI]
  rw[<- yS H 0 s.2.2.1.1];unfold Iz;refine (jV (N:=64) (r:=D5 s w 0 ((),(),(),()) ((),(),(),()) o (zE 8 false) (cpy H 0 s.2.2.1.1) o4) (mk:=fun i=>(s,w,(i:Int),((),(),(),()),((),(),(),()),o,zE 8 false,cpy H 0 (s.2.2.1.1.take i),o4)) ?_ ?_ 64 0 _ (by omega) (by omega)).trans (by rfl)
  ·intro self i hi
   show Ip aeC _ s w (i:Int) _ _ o (zE 8 false) (cpy H 0 (s.2.2.1.1.take i)) o4=self (s,w,((i+1:Nat):Int),((),(),(),()),((),(),(),()),o,zE 8 false,cpy H 0 (s.2.2.1.1.take (i+1)),o4);obtain⟨y,hy⟩:=iO (xs:=s.2.2.1.1) (i:=i) (by omega);obtain⟨z,hz⟩:=iO (xs:=cpy H 0 (s.2.2.1.1.take i)) (i:=i) (by grind);have hcs:=Cz (h:=H) (p:=0) hy (by omega);rw[Nat.zero_add]at hcs;unfold Ip;rw[if_pos (cr.2 (by omega)),d9 hy,zD,d9 hz,zD,zD,zP,hcs,gJ (by omega)]
  ·intro self
   show Ip aeC _ s w (64:Int) _ _ o (zE 8 false) (cpy H 0 (s.2.2.1.1.take 64)) o4=_;unfold Ip;rw[if_neg (by decide),List.take_of_length_le (by omega)];rfl
 have K1:aeD s ((),(),(),()) ((),(),(),()) (zE 8 false) (zE 756 0)=some (lJ s,()):=by
  show aew Iz s _ _ _ _=_;unfold aew;have l1:(cpy (zE 756 (0:Int)) 0 s.2.2.1.1).length=756:=by grind[l5,kC]
  rw[gZ (by omega),hst,zD];dsimp only;rw[gZ (by omega),K2 _ _ _ (by simp),K4 _ _ _ l1,K6 _ _ _ (by grind[l5])];rfl
 show aez aeD s=_;simp_all[aez,vN,eqAs_refl]
theorem TG{x:Int}(h0:0≤x)(h1:x≤1000000000):cvt .u64 x=x:=by show IntKind.u64.wrap x=x;grind[IntKind.wrap,IntKind.signed,IntKind.bits]
theorem aBr{x y:Int}(h0:0≤x - y)(h1:x - y≤1000000000):sub .u64 x y=x - y:=by show IntKind.u64.wrap (x - y)=x - y;grind[IntKind.wrap,IntKind.signed,IntKind.bits]
theorem aBs{l:List fo}{k:Int}(hk:0≤k∧k≤1000000)(hl:l.length≤1000)(hx:∀x∈l,0≤x.1∧x.1≤1000000∧0≤x.2.1∧x.2.1≤1000000) :
  ∃j:Int,IZ (l,k,())=some (j,())∧((∃(n:Nat) (x:fo),j=(n:Int)∧l[n]? = some x∧iB l k=some x)∨(j=-1∧iB l k=none)):=by
 have hs:∀(self:List fo×Int×Int->Option (As [.int .i64])) (i:Nat) (x:fo),l[i]? = some x->A9 (D9 (fun l at' i=>self (l,at',i))) (fun l at' i=>self (l,at',i)) l k (i:Int)=if jN x k=true then some ((i:Int),()) else self (l,k,((i+1:Nat):Int)):=by
  intro self i x hxx;have hi:=(List.getElem?_eq_some_iff.1 hxx).1;have hr:=hx x (zX hxx);have K2:∀b,D9 (fun l at' i=>self (l,at',i)) l k (i:Int) b=if b=true then some ((i:Int),()) else self (l,k,((i+1:Nat):Int)):=fun b=>by show Mj _ l k (i:Int) b=_;grind[Mj,gJ]
  unfold A9 jN;rw[if_pos (by grind[cr,bu]),d9 hxx,zD];by_cases c1:x.1≤k
  ·rw[if_pos (gU.2 c1),zD]
   by_cases c2:0<x.2.1
   ·rw[if_pos (iD.2 c2),zD,zD,K2,TG hk.1 (by omega),TG hr.1 (by omega),TG hr.2.2.1 (by omega),aBr (by omega) (by omega)]
    by_cases c3:k - x.1<x.2.1
    ·rw[if_pos (cr.2 c3),if_pos (decide_eq_true (by omega))]
    ·rw[if_neg (fun e=>c3 (cr.1 e)),if_neg (by grind)]
   ·rw[if_neg (fun e=>c2 (iD.1 e)),K2,if_neg (by decide),if_neg (by grind)]
  ·rw[if_neg (fun e=>c1 (gU.1 e)),K2,if_neg (by decide),if_neg (by grind)]
 have he:∀(self:List fo×Int×Int->Option (As [.int .i64])),A9 (D9 (fun l at' i=>self (l,at',i))) (fun l at' i=>self (l,at',i)) l k (l.length:Int)=some (-1,()):=by intro self;unfold A9;simp_all[if_neg,cr,bu]
 have key:∀(d i n:Nat),i+d=l.length->d<n->∃j:Int,ay (fun (self:List fo×Int×Int->Option (As [.int .i64])) (s:List fo×Int×Int)=>A9 (D9 (fun l at' i=>self (l,at',i))) (fun l at' i=>self (l,at',i)) s.1 s.2.1 s.2.2) n (l,k,(i:Int))=some (j,())∧((∃(n:Nat) (x:fo),j=(n:Int)∧l[n]? = some x∧iB (l.drop i) k=some x)∨(j=-1∧iB (l.drop i) k=none)):=by
  intro d
  induction d with
  | zero =>
   intro i n hi hn;obtain⟨n,rfl⟩:∃q,n=q+1:=⟨n - 1,by omega⟩;have:i=l.length:=by omega
   subst this;refine⟨-1,?_,.inr ⟨rfl,?_⟩⟩
   ·simp_all[kP]
   ·rw[List.drop_length]
    rfl
  | succ d ih =>
   intro i n hi hn;obtain⟨n,rfl⟩:∃q,n=q+1:=⟨n - 1,by omega⟩;obtain⟨x,hxx⟩:=iO (xs:=l) (i:=i) (by omega);have hd:l.drop i=x::l.drop (i+1):=by grind[List.drop_eq_getElem_cons,zU]
   rw[kP,hd];have e:=hs (fun t=>ay (fun (self:List fo×Int×Int->Option (As [.int .i64])) (s:List fo×Int×Int)=>A9 (D9 (fun l at' i=>self (l,at',i))) (fun l at' i=>self (l,at',i)) s.1 s.2.1 s.2.2) n t) i x hxx;by_cases hc:jN x k=true
   ·rw[if_pos hc]at e
    refine⟨(i:Int),e,.inl ⟨i,x,rfl,hxx,?_⟩⟩;grind[iB]
   ·rw[if_neg hc]at e
    obtain⟨j,h1,h2⟩:=ih (i+1) n (by omega) (by omega);refine⟨j,e.trans h1,?_⟩;have:iB (x::l.drop (i+1)) k=iB (l.drop (i+1)) k:=by unfold iB;grind
    grind
 exact key l.length 0 18446744073709551616 (by omega) (by omega)
abbrev OkL(l:List fo):Prop:=l.length≤1000∧∀x∈l,0≤x.1∧x.1≤1000000∧0≤x.2.1∧x.2.1≤1000000
theorem al2{l:List fo}{p:Int}{m:Nat}{w:fo->Bool}{σ:Type}{F:(σ->Option (As [.bool]))->σ->Option (As [.bool])}{mk:Int->σ}
  (hs:∀self (i:Nat),i<m->F self (mk (p+(i:Int)))=if jW w l (p+(i:Int))=true then self (mk (p+((i+1:Nat):Int))) else some (false,()))
  (he:∀self,F self (mk (p+(m:Int)))=some (true,())) {n:Nat} (hn:m<n):ay F n (mk p)=some (iG w l p m,()):=by
 obtain⟨r,h4,h5⟩:=mY (xs:=List.range m) (mk:=fun i=>mk (p+(i:Int))) (p:=fun i _=>jW w l (p+(i:Int))) (F:=F) (r0:=some (false,())) (fin:=some (true,())) (fun self i x hx=>hs self i (by grind)) (fun self=>by simp_all) m 0 n (by simp) (by omega);rw[show p+((0:Nat):Int)=p by omega]at h5;rw[h5];have:r=iG w l p m:=by apply Bool.eq_iff_iff.2;simp_all[iG,List.all_eq_true,List.mem_range,List.getElem?_range,zV,List.length_range]
 grind
theorem azo{l:List fo}{p:Int}{m:Nat}(ho:OkL l)(hp:0≤p∧p≤70000)(hm:m≤70000):qz (l,p,(m:Int),())=some (iG rdW l p m,()):=by
 show RF l p (m:Int) p=_;unfold RF;have ea:add .i64 p (m:Int)=p+(m:Int):=iF (by omega) (by omega);refine al2 (mk:=fun k=>(l,p,(m:Int),k)) ?_ ?_ (by omega)
 ·intro self i hi
  show RD (RE _) _ l p (m:Int) (p+(i:Int))=_;have K2:∀b,RE (fun l at' many k=>self (l,at',many,k)) l p (m:Int) (p+(i:Int)) b=if b=true then some (false,()) else self (l,p,(m:Int),p+((i+1:Nat):Int)):=fun b=>by show afQ _ l p (m:Int) (p+(i:Int)) b=_;grind[afQ,add,Int,Nat,iF]
  obtain⟨j,h1,h2⟩:=aBs (k:=p+(i:Int)) (l:=l) ⟨by omega,by omega⟩ ho.1 ho.2;unfold RD jW;rw[ea,if_pos (by grind[cr]),h1,zD];rcases h2 with ⟨n,x,rfl,e1,e2⟩ | ⟨rfl,e2⟩
  ·rw[if_neg (by simp_all[cr]),d9 e1,zD,e2,K2]
   grind[rdW]
  ·rw[if_pos (by decide),K2,e2]
   rfl
 simp_all[RD,RE,Int,if_neg,cr]
theorem TH{l:List fo}{p:Int}{m:Nat}(ho:OkL l)(hp:0≤p∧p≤70000)(hm:m≤70000):qQ (l,p,(m:Int),())=some (iG (wrW p m) l p m,()):=by
 show RH l p (m:Int) p=_;unfold RH;have ea:add .i64 p (m:Int)=p+(m:Int):=iF (by omega) (by omega);refine al2 (mk:=fun k=>(l,p,(m:Int),k)) ?_ ?_ (by omega)
 ·intro self i hi
  show I5 (Ea _) _ l p (m:Int) (p+(i:Int))=_
  have K2:∀b,Ea (fun l at' many k=>self (l,at',many,k)) l p (m:Int) (p+(i:Int)) b=if b=true then some (false,()) else self (l,p,(m:Int),p+((i+1:Nat):Int)):=fun b=>by
   show afS _ l p (m:Int) (p+(i:Int)) b=_;unfold afS;have:add .i64 (p+(i:Int)) 1=p+((i+1:Nat):Int):=by rw[iF (by omega) (by omega)];omega
   rw[this]
  obtain⟨j,h1,h2⟩:=aBs (k:=p+(i:Int)) (l:=l) ⟨by omega,by omega⟩ ho.1 ho.2;unfold I5 jW;rw[ea,if_pos (by rw[cr];omega),h1,zD];rcases h2 with ⟨n,x,rfl,e1,e2⟩ | ⟨rfl,e2⟩
  ·rw[if_neg (by rw[cr];dsimp only;omega)]
   dsimp only;rw[d9 e1,zD,zD,zD,zD,e2];unfold wrW;obtain⟨xp,xn,xr,xw,xx⟩:=x;dsimp only
   cases xw with
   | false=>exact K2 true
   | true =>
    cases xx with
    | false=>exact K2 false
    | true =>
     refine Eq.trans (b:=if nei xp p=true then Ea (fun l at' many k=>self (l,at',many,k)) l p (m:Int) (p+(i:Int)) true else Ea (fun l at' many k=>self (l,at',many,k)) l p (m:Int) (p+(i:Int)) (nei xn (m:Int))) rfl ?_;by_cases c1:xp=p
     ·rw[if_neg (fun e=>cu.1 e c1),K2]
      by_cases c2:xn=(m:Int)
      ·rw[if_neg (fun e=>cu.1 e c2),if_pos (by rw[decide_eq_true c1,decide_eq_true c2];rfl)]
      ·rw[if_pos (cu.2 c2),if_neg (by rw[decide_eq_false c2];simp)]
     ·rw[if_pos (cu.2 c1),K2,if_pos rfl,if_neg (by rw[decide_eq_false c1];simp)]
  ·rw[if_pos (by decide),K2,e2]
   rfl
 ·intro self
  show I5 (Ea _) _ l p (m:Int) (p+(m:Int))=_;unfold I5;rw[ea,if_neg (by rw[cr];omega)]
theorem axU:OkL SP.1:=by decide
theorem aOS:OkL SP.2.1:=by decide
theorem akf:OkL SPH:=by decide
theorem aOT:OkL SP.2.2.2:=by decide
theorem TI:yc ()=some (SP,()):=by rfl
theorem cvI{x:Int}(h0:0≤x)(h1:x≤65535):cvt .i64 x=x:=by show IntKind.i64.wrap x=x;grind[IntKind.wrap,IntKind.signed,IntKind.bits]
theorem U0{a:TA}(h:OkA a)(hr:jd a=true):I6 (SP,a,())=some (if jk a=true then 0 else 2,()):=by
 have p0:=h.at0;have p1:=h.at1;have t0:=h.t0;have t1:=h.t1;have m0:=h.m0;have m1:=h.m1;have hra:=kM hr;have K1:∀b,nW b=if b=true then some (0,()) else some (2,()):=fun b=>by cases b<;>rfl
 show afU nW afV SP a=_;unfold afU;rw[uR h,hr,zD,if_neg (by decide)];have rd:∀(l:List fo) (p:Int) (m:Int),OkL l->0≤p∧p≤70000->0≤m∧m≤70000->qz (l,p,m,())=some (iG rdW l p m.toNat,()):=fun l p m ho hp hm=>by obtain⟨n,rfl⟩:=zN hm.1;grind[azo]
 have fin:∀b c:Bool,b=c->nW b=some (if c=true then 0 else 2,()):=fun b c e=>by grind
 have wrC:∀(q:Int) (n:Nat),0≤q∧q≤65535->1≤n->n≤3000->qQ (SP.1,q,zF n,())=some (decide (q+(n:Int)≤16),()):=fun q n hq h1 h2=>by have:=TH (l:=SP.1) (p:=q) (m:=n) axU ⟨hq.1,by omega⟩ (by omega);refine this.trans ?_;rw[show SP.1=[((0:Int),16,true,true,false)] from rfl,lC (by decide) hq.1 h1 _ rfl]
 have wrH:∀(q:Int) (n:Nat),0≤q∧q≤65535->1≤n->n≤3000->qQ (SP.2.2.1,q,zF n,())=some (decide (q=272∧n=8∨q=288∧n=20),()):=fun q n hq h1 h2=>by have:=TH (l:=SPH) (p:=q) (m:=n) akf ⟨hq.1,by omega⟩ (by omega);refine this.trans ?_;rw[FB h1]
 cases hra with
 | bits f q m hf =>
  dsimp only at p0 p1 m0 m1;rcases hf with rfl | rfl
  ·show zC (qz (SP.1,cvt .i64 q,cvt .i64 m,())) (fun y=>nW y.1)=_
   rw[cvI p0 p1,cvI m0 m1,rd _ _ _ axU (by omega) (by omega),zD];refine fin _ _ ?_;rw[show SP.1=[((0:Int),16,true,true,false)] from rfl,lC (by decide) p0 (by omega) _ rfl];show _=decide (q+m≤16);grind
  ·show zC (qz (SP.2.1,cvt .i64 q,cvt .i64 m,())) (fun y=>nW y.1)=_
   rw[cvI p0 p1,cvI m0 m1,rd _ _ _ aOS (by omega) (by omega),zD];refine fin _ _ ?_;rw[show SP.2.1=[((0:Int),8,true,false,false)] from rfl,lC (by decide) p0 (by omega) _ rfl];show _=decide (q+m≤8);grind
 | words f q m hf =>
  dsimp only at p0 p1 m0 m1;rcases hf with rfl | rfl
  ·show zC (qz (SPH,cvt .i64 q,cvt .i64 m,())) (fun y=>nW y.1)=_
   rw[cvI p0 p1,cvI m0 m1,rd _ _ _ akf (by omega) (by omega),zD];exact fin _ _ rfl
  ·show zC (qz (SP.2.2.2,cvt .i64 q,cvt .i64 m,())) (fun y=>nW y.1)=_
   rw[cvI p0 p1,cvI m0 m1,rd _ _ _ aOT (by omega) (by omega),zD];refine fin _ _ ?_;rw[show SP.2.2.2=[((0:Int),8,true,false,false)] from rfl,lC (by decide) p0 (by omega) _ rfl];show _=decide (q+m≤8);grind
 | coil q b =>
  dsimp only at p0 p1;show zC (qQ (SP.1,cvt .i64 q,zF 1,())) (fun y=>nW y.1)=_;rw[cvI p0 p1,wrC _ _ ⟨p0,p1⟩ (by decide) (by decide),zD];exact fin _ _ rfl
 | word q x =>
  dsimp only at p0 p1;show zC (qQ (SP.2.2.1,cvt .i64 q,zF 1,())) (fun y=>nW y.1)=_;rw[cvI p0 p1,wrH _ _ ⟨p0,p1⟩ (by decide) (by decide),zD];exact fin _ _ rfl
 | coils q l =>
  dsimp only at p0 p1 m0 m1;show zC (qQ (SP.1,cvt .i64 q,zF l.length,())) (fun y=>nW y.1)=_;rw[cvI p0 p1,wrC _ _ ⟨p0,p1⟩ (by omega) (by omega),zD];exact fin _ _ rfl
 | regs q l =>
  dsimp only at p0 p1 m0 m1;show zC (qQ (SP.2.2.1,cvt .i64 q,zF l.length,())) (fun y=>nW y.1)=_;rw[cvI p0 p1,wrH _ _ ⟨p0,p1⟩ (by omega) (by omega),zD];exact fin _ _ rfl
 | swap q m u l =>
  dsimp only at p0 p1 m0 m1 t0 t1;show zC (qz (SPH,cvt .i64 q,cvt .i64 m,())) (fun y=>if y.1=true then zC (qQ (SP.2.2.1,cvt .i64 u,zF l.length,())) (fun y=>nW y.1) else nW false)=_;rw[cvI p0 p1,cvI m0 m1,cvI t0 t1,rd _ _ _ akf (by omega) (by omega),zD,wrH _ _ ⟨t0,t1⟩ (by omega) (by omega),zD];have e:jk (23,q,m,u,l,[])=(iG rdW SPH q m.toNat && decide (u=272∧l.length=8∨u=288∧l.length=20)):=rfl;rw[e];dsimp only
  cases iG rdW SPH q m.toNat with
  | true=>grind
  | false=>rfl
theorem aBt{m:lI}(h:SzM m):MB (m,())=some (m,()):=by have h1:=h.c;have h2:=h.i;have h3:=h.h;have h4:=h.w;show ahJ m=_;simp_all[ahJ,gZ]
theorem ar1:yh (SP.1,16,false,())=some (true,()):=by rfl
theorem ar2:yh (SP.2.1,8,true,())=some (true,()):=by rfl
theorem ar3:yh (SP.2.2.1,756,false,())=some (true,()):=by rfl
theorem ar4:yh (SP.2.2.2,8,true,())=some (true,()):=by rfl
theorem azp{m:lI}(h:SzM m):Sd (SP,m,())=some (true,()):=by have h1:=h.c;have h2:=h.i;have h3:=h.h;have h4:=h.w;show ahK SP m=_;unfold ahK;rw[show zF m.1.length=16 by simp_all,ar1,zD,if_pos rfl,show zF m.2.1.length=8 by simp_all,ar2,zD,if_pos rfl,show zF m.2.2.1.length=756 by simp_all,ar3,zD,if_pos rfl,show zF m.2.2.2.length=8 by simp_all,ar4,zD]
theorem aBu(n:Nat):rem (n:Int) 8=((n%8:Nat):Int):=by rfl
theorem axV{m:lI}{f a b c d:Int}{o:List Bool}{w:List Int}(ho:o.length≤70000):Eg 0 0 0 0 m f a b c o w=some (m,(f,a,o++zE ((o.length+7) / 8*8 - o.length) false,w,b,c),()):=by
 have e0:o=o++zE 0 false:=by simp
 rw[show Eg 0 0 0 0 m f a b c o w=Eg 0 0 0 0 m f a b c (o++zE 0 false) w by simp];unfold Eg;refine jV (N:=(o.length+7) / 8*8 - o.length) (mk:=fun k=>((0:Int),(0:Int),(0:Int),(0:Int),m,f,a,b,c,o++zE k false,w)) ?_ ?_ _ 0 _ (Nat.zero_add _) (by omega)
 ·intro self k hk
  show Jq _ _ 0 0 0 0 m f a b c (o++zE k false) w=_;unfold Jq;have hl:(o++zE k false).length=o.length+k:=by simp
  rw[hl,show zF (o.length+k)=((o.length+k:Nat):Int) from rfl,aBu,if_pos (cu.2 (by omega)),gZ (by omega),List.append_assoc,show zE k false++[false]=zE (k+1) false from (List.replicate_succ' ..).symm]
 ·intro self
  show Jq _ _ 0 0 0 0 m f a b c (o++zE _ false) w=_;unfold Jq;rw[zY,kC,show zF (o.length+((o.length+7) / 8*8 - o.length))=((o.length+((o.length+7) / 8*8 - o.length):Nat):Int) from rfl,aBu,if_neg (fun e=>cu.1 e (by omega))];rfl
theorem vg{α:Type}{l:List α}{p k:Nat}{y:α}(h:l[p+k]? = some y):(l.drop p).take k++[y]=(l.drop p).take (k+1):=by grind[zV,List.take_succ_eq_append_getElem]
abbrev rq(f p n:Int):TA:=(f,p,n,0,[],[])
theorem aBv{m:lI}{p n:Nat}(hle:p+n≤m.1.length)(hp:p≤65535)(hn:n≤2000):Eh (p:Int) (rq 1 p n) 0 0 0 0 m 1 0 0 0 [] []=some (m,(1,0,kJ m.1 p n,[],0,0),()):=by
 show ay _ 18446744073709551616 (((p+0:Nat):Int),rq 1 p n,(0:Int),(0:Int),(0:Int),(0:Int),m,(1:Int),(0:Int),(0:Int),(0:Int),(m.1.drop p).take 0,([]:List Int))=_;have e1:add .i64 (cvt .i64 (p:Int)) (cvt .i64 (n:Int))=((p+n:Nat):Int):=by grind[cvI,lg]
 refine jV (N:=n) (mk:=fun k=>(((p+k:Nat):Int),rq 1 p n,(0:Int),(0:Int),(0:Int),(0:Int),m,(1:Int),(0:Int),(0:Int),(0:Int),(m.1.drop p).take k,([]:List Int))) ?_ ?_ n 0 _ (by omega) (by omega)
 ·intro self k hk
  obtain⟨y,hg⟩:=iO (xs:=m.1) (i:=p+k) (by omega);show nE (fun i a t7 t7_2 t7_3 t7_4 out r r_2 r_3 r_4 o o_2=>self (add .i64 i 1,a,t7,t7_2,t7_3,t7_4,out,r,r_2,r_3,r_4,o,o_2)) _ _ ((p+k:Nat):Int) (rq 1 p n) 0 0 0 0 m 1 0 0 0 ((m.1.drop p).take k) []=_;unfold nE;dsimp only;rw[e1,if_pos (by grind[cr]),if_pos (by decide),d9 hg,zD,gZ (by grind),vg hg,gJ (by omega)];rfl
 ·intro self
  show nE _ _ _ ((p+n:Nat):Int) (rq 1 p n) 0 0 0 0 m 1 0 0 0 ((m.1.drop p).take n) []=_;unfold nE;dsimp only;rw[e1,if_neg (by grind[cr])];have hl:((m.1.drop p).take n).length=n:=by grind
  refine (axV (d:=0) (by omega)).trans ?_;rw[hl];rfl
theorem aBw{m:lI}{p n:Nat}(hle:p+n≤m.2.1.length)(hp:p≤65535)(hn:n≤2000):Eh (p:Int) (rq 2 p n) 0 0 0 0 m 2 0 0 0 [] []=some (m,(2,0,kJ m.2.1 p n,[],0,0),()):=by
 show ay _ 18446744073709551616 (((p+0:Nat):Int),rq 2 p n,(0:Int),(0:Int),(0:Int),(0:Int),m,(2:Int),(0:Int),(0:Int),(0:Int),(m.2.1.drop p).take 0,([]:List Int))=_;have e1:add .i64 (cvt .i64 (p:Int)) (cvt .i64 (n:Int))=((p+n:Nat):Int):=by grind[cvI,lg]
 refine jV (N:=n) (mk:=fun k=>(((p+k:Nat):Int),rq 2 p n,(0:Int),(0:Int),(0:Int),(0:Int),m,(2:Int),(0:Int),(0:Int),(0:Int),(m.2.1.drop p).take k,([]:List Int))) ?_ ?_ n 0 _ (by omega) (by omega)
 ·intro self k hk
  obtain⟨y,hg⟩:=iO (xs:=m.2.1) (i:=p+k) (by omega);show nE (fun i a t7 t7_2 t7_3 t7_4 out r r_2 r_3 r_4 o o_2=>self (add .i64 i 1,a,t7,t7_2,t7_3,t7_4,out,r,r_2,r_3,r_4,o,o_2)) _ _ ((p+k:Nat):Int) (rq 2 p n) 0 0 0 0 m 2 0 0 0 ((m.2.1.drop p).take k) []=_;unfold nE;dsimp only;rw[e1,if_pos (by grind[cr]),if_neg (by decide),if_pos (by decide),d9 hg,zD,gZ (by grind),vg hg,gJ (by omega)];rfl
 ·intro self
  show nE _ _ _ ((p+n:Nat):Int) (rq 2 p n) 0 0 0 0 m 2 0 0 0 ((m.2.1.drop p).take n) []=_;unfold nE;dsimp only;rw[e1,if_neg (by grind[cr])];have hl:((m.2.1.drop p).take n).length=n:=by grind
  refine (axV (d:=0) (by omega)).trans ?_;rw[hl];rfl
theorem aBx{m:lI}{p n:Nat}(hle:p+n≤m.2.2.2.length)(hp:p≤65535)(hn:n≤2000):Eh (p:Int) (rq 4 p n) 0 0 0 0 m 4 0 0 0 [] []=some (m,(4,0,[],(m.2.2.2.drop p).take n,0,0),()):=by
 show ay _ 18446744073709551616 (((p+0:Nat):Int),rq 4 p n,(0:Int),(0:Int),(0:Int),(0:Int),m,(4:Int),(0:Int),(0:Int),(0:Int),([]:List Bool),(m.2.2.2.drop p).take 0)=_;have e1:add .i64 (cvt .i64 (p:Int)) (cvt .i64 (n:Int))=((p+n:Nat):Int):=by grind[cvI,lg]
 refine jV (N:=n) (mk:=fun k=>(((p+k:Nat):Int),rq 4 p n,(0:Int),(0:Int),(0:Int),(0:Int),m,(4:Int),(0:Int),(0:Int),(0:Int),([]:List Bool),(m.2.2.2.drop p).take k)) ?_ ?_ n 0 _ (by omega) (by omega)
 ·intro self k hk
  obtain⟨y,hg⟩:=iO (xs:=m.2.2.2) (i:=p+k) (by omega);show nE (fun i a t7 t7_2 t7_3 t7_4 out r r_2 r_3 r_4 o o_2=>self (add .i64 i 1,a,t7,t7_2,t7_3,t7_4,out,r,r_2,r_3,r_4,o,o_2)) _ _ ((p+k:Nat):Int) (rq 4 p n) 0 0 0 0 m 4 0 0 0 [] ((m.2.2.2.drop p).take k)=_;unfold nE;dsimp only;rw[e1,if_pos (by grind[cr]),if_neg (by decide),if_neg (by decide),if_pos (by decide),d9 hg,zD,gZ (by grind),vg hg,gJ (by omega)];rfl
 ·intro self
  show nE _ _ _ ((p+n:Nat):Int) (rq 4 p n) 0 0 0 0 m 4 0 0 0 [] ((m.2.2.2.drop p).take n)=_;unfold nE;dsimp only;rw[e1,if_neg (by grind[cr])];rfl
theorem aBy{m:lI}{p n:Nat}(hle:p+n≤m.2.2.1.length)(hp:p≤65535)(hn:n≤2000):Eh (p:Int) (rq 3 p n) 0 0 0 0 m 3 0 0 0 [] []=some (m,(3,0,[],(m.2.2.1.drop p).take n,0,0),()):=by
 show ay _ 18446744073709551616 (((p+0:Nat):Int),rq 3 p n,(0:Int),(0:Int),(0:Int),(0:Int),m,(3:Int),(0:Int),(0:Int),(0:Int),([]:List Bool),(m.2.2.1.drop p).take 0)=_;have e1:add .i64 (cvt .i64 (p:Int)) (cvt .i64 (n:Int))=((p+n:Nat):Int):=by grind[cvI,lg]
 refine jV (N:=n) (mk:=fun k=>(((p+k:Nat):Int),rq 3 p n,(0:Int),(0:Int),(0:Int),(0:Int),m,(3:Int),(0:Int),(0:Int),(0:Int),([]:List Bool),(m.2.2.1.drop p).take k)) ?_ ?_ n 0 _ (by omega) (by omega)
 ·intro self k hk
  obtain⟨y,hg⟩:=iO (xs:=m.2.2.1) (i:=p+k) (by omega);show nE (fun i a t7 t7_2 t7_3 t7_4 out r r_2 r_3 r_4 o o_2=>self (add .i64 i 1,a,t7,t7_2,t7_3,t7_4,out,r,r_2,r_3,r_4,o,o_2)) _ _ ((p+k:Nat):Int) (rq 3 p n) 0 0 0 0 m 3 0 0 0 [] ((m.2.2.1.drop p).take k)=_;unfold nE;dsimp only;rw[e1,if_pos (by grind[cr]),if_neg (by decide),if_neg (by decide),if_neg (by decide),d9 hg,zD,gZ (by grind),vg hg,gJ (by omega)];rfl
 ·intro self
  show nE _ _ _ ((p+n:Nat):Int) (rq 3 p n) 0 0 0 0 m 3 0 0 0 [] ((m.2.2.1.drop p).take n)=_;unfold nE;dsimp only;rw[e1,if_neg (by grind[cr])];rfl
theorem att{f p n:Int}(h:OkA (rq f p n))(hr:jd (rq f p n)=true)(hf:f=1∨f=2∨f=3∨f=4):Bg (rq f p n,())=some (zR,false,()):=by show Jn ahI (rq f p n)=_;unfold Jn;rw[uR h,hr];rcases hf with rfl | rfl | rfl | rfl<;>rfl
theorem aPI{m:lI}(hm:SzM m){f p n:Int}(h:OkA (rq f p n))(hr:jd (rq f p n)=true)(hf:f=1∨f=2∨f=3∨f=4)(hc:jk (rq f p n)=true):kS (SP,m,rq f p n,())=some (m,uE m (rq f p n),()):=by
 have p0:0≤p:=h.at0;have p1:p≤65535:=h.at1;have n0:0≤n:=h.m0
 have hb:1≤n∧n≤2000:=by
  have hra:=kM hr;generalize hA:rq f p n=A at hra
  cases hra with
  | bits f q m hf=>simp_all
  | words f q m hf=>grind
  | coil q b=>cases hA
  | word q x=>cases hA
  | coils q l=>simp_all
  | regs q l=>simp_all
  | swap q m u l=>simp_all
 have h1:=hm.c;have h2:=hm.i;have h3:=hm.h;have h4:=hm.w;show MF ah0 SP m (rq f p n)=_;unfold MF;rw[aBt hm,zD,U0 h hr,zD,hc];show zC (Sd (SP,m,())) _=_;rw[azp hm,zD]
 have e7:MG (rq f p n) 0 0 0 0 m=some (m,uE m (rq f p n),()):=by
  unfold MG ahX;rw[att h hr hf,zD,if_neg (by decide)];dsimp only;rw[cvI p0 p1];obtain⟨p,rfl⟩:=zN p0;obtain⟨n,rfl⟩:=zN n0;unfold jk at hc;rcases hf with rfl | rfl | rfl | rfl
  ·have hc:(p:Int)+(n:Int)≤16:=of_decide_eq_true hc
   exact aBv (by omega) (by omega) (by omega)
  ·have hc:(p:Int)+(n:Int)≤8:=of_decide_eq_true hc
   exact aBw (by omega) (by omega) (by omega)
  ·have hle:=FC (p:=(p:Int)) (m:=n) (by omega) hc
   exact aBy (by omega) (by omega) (by omega)
  ·have hc:(p:Int)+(n:Int)≤8:=of_decide_eq_true hc
   exact aBx (by omega) (by omega) (by omega)
 rcases hf with rfl | rfl | rfl | rfl<;>exact e7
theorem J7{f x:Int}(h:Rep (rem f 128,x,[],[],0,0)):IX (f,x,())=some (iM (rem f 128,x,[],[],0,0),()):=by show afK f x=_;unfold afK;rw[yB h.ok,if_pos h.rt,zD]
theorem atu{a:TAg}(h:OkG a){p:Int}{w:List Int}(hw:∀x∈w,0≤x∧x≤65535):My (a,p,w,())=some ((iT a p w).1,(iT a p w).2,()):=by
 show arV a p w=_;unfold arV iT;by_cases e:p=272
 ·rw[if_pos (au.2 e),if_pos e,azg hw,zD]
  obtain⟨r1,r2,r3⟩:=BA hw;dsimp only;by_cases q1:(jX w).2≠0
  ·simp_all[if_pos,cu]
  ·rw[if_neg (fun x=>q1 (cu.1 x)),if_neg q1,aOR h r3,zD]
   dsimp only;by_cases q2:(doS (gz a) (jX w).1).2≠0
   ·simp_all[if_pos,cu]
   simp_all[if_neg,cu]
 ·rw[if_neg (fun x=>e (au.1 x)),if_neg e,azb hw,zD]
  dsimp only;by_cases q1:(rdB w).2.2.2.2≠0
  ·simp_all[if_pos,cu]
  ·have q0:(rdB w).2.2.2.2=0:=by omega
   obtain⟨r1,r2,r3,r4⟩:=J3 hw q0;rw[if_neg (fun x=>q1 (cu.1 x)),if_neg q1,aBp h r2 r3,zD];dsimp only;by_cases q2:(putA (gz a) (rdB w).1 (rdB w).2.1 (rdB w).2.2.1 (rdB w).2.2.2.1).2≠0
   ·simp_all[if_pos,cu]
   simp_all[if_neg,cu]
theorem akg{s:TSl}(h:OkS s):((s.1,s.2.1,gV s.2.2.1,s.2.2.2):TSl)=s:=by rw[qY h.a.hl h.a.sl]
theorem sv6{s:TSl}(h:OkS s){f:Int}{r:TR}(hr:Rep (f,r.2)):aic 0 f s [zSl] r=some (s,iM (f,r.2),()):=by show aia 0 f s [zSl] r=_;unfold aia;rw[akg h,yB hr.ok,if_pos hr.rt,zD,at1,zD,st1,at1,zD,zD]
theorem sv5{s:TSl}(h:OkS s){a:TA}(ha:OkA a)(hr:jd a=true)(hc:jk a=true)(he:isE a.1=false):aid 0 a.1 s [zSl] (rdA a)=some (s,iM (jD s a),()):=by
 show ah9 aic 0 a.1 s [zSl] (rdA a)=_;unfold ah9;have rp:=rU h ha hr hc;have ea:jD s a=(a.1,(uE (lJ s) (rdA a)).2):=by simp_all[jD]
 rw[ea]at rp ⊢;obtain⟨h1,h2,h3,h4⟩:=alO ha hr he hc
 have hf:(rdA a).1=1∨(rdA a).1=2∨(rdA a).1=3∨(rdA a).1=4:=by
  have:=kM h2;generalize hA:rdA a=A at this h4
  cases this with
  | bits f q m hf =>
   omega
  | words f q m hf =>
   omega
  | coil q b=>cases h4
  | word q x=>cases h4
  | coils q l=>cases h4
  | regs q l=>cases h4
  | swap q m u l =>
   exfalso;have:(if a.1=23 then (3:Int) else a.1)=23:=congrArg Prod.fst hA;omega
 have e:kS (SP,lJ s,rdA a,())=some (lJ s,uE (lJ s) (rdA a),()):=aPI (Cu h) h1 h2 hf h3;have A:∀o:Option (As mh.rs),amb (av mh.rs) [o,o]=o:=fun o=>vN (eqAs_refl _) o;simp only[akg h,TI,zD,al1 h,e,sv6 h rp];simp_all
abbrev uS(s:TSl):Int×Int×TAg×Unit:=(s.1,s.2.1,s.2.2.1,())
theorem atv{a:TA}(h:OkA a)(hr:jd a=true):Bg (a,())=some (if isE a.1=true then Cv a else zR,isE a.1,()):=(as4 h hr).trans ((ayN h hr).symm.trans (Et h hr))
theorem atw{a:TA}(hr:jd a=true)(he:isE a.1=false)(h23:a.1≠23):rdA a=a:=by
 have:=kM hr
 cases this with
 | bits f q m hf=>simp_all[rdA,if_neg]
 | words f q m hf=>simp_all[rdA,if_neg]
 | coil q b=>cases he
 | word q x=>cases he
 | coils q l=>cases he
 | regs q l=>cases he
 | swap q m u l=>omega
theorem sv4{s:TSl}(h:OkS s){a:TA}(ha:OkA a)(hr:jd a=true)(hc:jk a=true):Js 0 (uS s) s.2.2.2 [zSl] a=some (s,iM (jD s a),()):=by
 show ah8 aid 0 (uS s) s.2.2.2 [zSl] a=_;unfold ah8;rw[atv ha hr,zD];dsimp only
 cases he:isE a.1 with
 | true =>
  have rp:=rU h ha hr hc;have ea:jD s a=Cv a:=by simp_all[jD,if_pos]
  rw[ea]at rp ⊢;rw[if_pos rfl,if_pos rfl,yB rp.ok,if_pos rp.rt,zD,at1,zD,st1,at1,zD,zD,akg h]
 | false =>
  rw[if_neg Bool.false_ne_true];by_cases h23:a.1=23
  ·rw[if_pos (au.2 h23)]
   have e:((3,a.2.1,a.2.2.1,0,[],[]):TA)=rdA a:=by simp_all[rdA,if_pos]
   grind[sv5]
  ·rw[if_neg (fun x=>h23 (au.1 x))]
   have:=sv5 h ha hr hc he;simp_all[atw]
theorem sv3{s:TSl}{a:TA}(ha:OkA a)(hl:s.2.2.2.length=16)(hb:a.2.2.2.2.2=[]∨a.2.1+(a.2.2.2.2.2.length:Int)≤16):Se 0 0 (uS s) s.2.2.2 [zSl] a=Js 0 (uS s) (cpy s.2.2.2 a.2.1.toNat a.2.2.2.2.2) [zSl] a:=by
 have p0:=ha.at0;have p1:=ha.at1;obtain⟨p,hp⟩:=zN p0;have ec:cvt .i64 a.2.1=((p:Nat):Int):=by simp_all[cvI]
 rw[hp,zP];have hbl:a.2.2.2.2.2.length≤16:=by grind
 have key:ay (fun (self:(Int)×(Int)×(Int×Int×gq×Unit)×(List Bool)×(List (Int×Int×gq×List Bool))×acZ->Option (As [.pr (.int .u8) (.pr (.int .u8) (.pr (.pr (.sl (.int .u16)) nD) (.sl .bool))),.sl (.int .u8)])) (s:(Int)×(Int)×(Int×Int×gq×Unit)×(List Bool)×(List (Int×Int×gq×List Bool))×acZ)=>Jr (Js) (fun t4 i s o t4_2 a=>self (t4,i,s,o,t4_2,a)) s.1 s.2.1 s.2.2.1 s.2.2.2.1 s.2.2.2.2.1 s.2.2.2.2.2) 18446744073709551616 (0,((0:Nat):Int),uS s,cpy s.2.2.2 p (a.2.2.2.2.2.take 0),[zSl],a)=Js 0 (uS s) (cpy s.2.2.2 p a.2.2.2.2.2) [zSl] a:=by
  refine jV (N:=a.2.2.2.2.2.length) (mk:=fun i=>((0:Int),(i:Int),uS s,cpy s.2.2.2 p (a.2.2.2.2.2.take i),[zSl],a)) ?_ ?_ _ 0 _ (Nat.zero_add _) (by omega)
  ·intro self i hi
   have hle:p+a.2.2.2.2.2.length≤16:=by grind
   obtain⟨y,hy⟩:=iO (xs:=a.2.2.2.2.2) (i:=i) hi;have hcl:(cpy s.2.2.2 p (a.2.2.2.2.2.take i)).length=16:=by simp_all[FI]
   obtain⟨z,hz⟩:=iO (xs:=cpy s.2.2.2 p (a.2.2.2.2.2.take i)) (i:=p+i) (by omega);show Jr _ (fun t4 i s o t4_2 a=>self (t4,i,s,o,t4_2,a)) 0 (i:Int) (uS s) (cpy s.2.2.2 p (a.2.2.2.2.2.take i)) [zSl] a=_;unfold Jr;rw[if_pos (by grind[cr,bu]),d9 hy,zD,ec,lg (by omega),d9 hz,zD,zD,gJ (by omega),zP,Cz hy (by omega)]
  simp_all[Jr,Int,uS,cpy,zSl,if_neg,cr,bu,List.take_length]
 rw[yS]at key;exact key
theorem aBz{a:TA}(hr:jd a=true):(a.1=5∨a.1=15->a.2.2.2.2.1=[])∧(¬ (a.1=5∨a.1=15)->a.2.2.2.2.2=[]):=by
 have:=kM hr
 cases this with
 | bits f q m hf=>simp
 | words f q m hf=>simp
 | coil q b=>simp
 | word q x=>simp
 | coils q l=>simp
 | regs q l=>simp
 | swap q m u l=>simp
theorem sv2{s:TSl}(h:OkS s){a:TA}(ha:OkA a)(hr:jd a=true)(hc:jk a=true) :
  Bh 0 (uS s) s.2.2.2 [zSl] a=if a.1=5∨a.1=15 then some (qX s (cpy s.2.2.2 a.2.1.toNat a.2.2.2.2.2),iM (jD (qX s (cpy s.2.2.2 a.2.1.toNat a.2.2.2.2.2)) a),()) else some (s,iM (jD s a),()):=by
 show Se 0 0 (uS s) s.2.2.2 [zSl] a=_;have p0:=ha.at0;have hl:=h.c;by_cases q:a.1=5∨a.1=15
 ·have hle:a.2.1+(a.2.2.2.2.2.length:Int)≤16:=by unfold jk at hc;grind
  rw[sv3 ha hl (.inr hle),if_pos q];grind[OkS,qX,cpy,l5,sv4]
 simp_all[aBz,sv3,if_neg,cpy,yS,sv4]
theorem sv0{s:TSl}(h:OkS s){a:TA}(ha:OkA a)(hr:jd a=true)(hc:jk a=true) :
  (if gt (zF a.2.2.2.2.1.length) 0=true then if eqi a.1 23=true then Bi 0 (cvt .i64 a.2.2.2.1) (uS s) s.2.2.2 [zSl] a else Bi 0 (cvt .i64 a.2.1) (uS s) s.2.2.2 [zSl] a else Bh 0 (uS s) s.2.2.2 [zSl] a)=some ((jY s a).1,iM (jY s a).2,()):=by
 have hf:=qW hr;have rp:=KD h ha hr;unfold jY at rp ⊢;rw[if_neg (show ¬ jk a=false by simp_all)]at rp ⊢;by_cases q:a.1=5∨a.1=15
 ·rw[if_pos q,(aBz hr).1 q,if_neg (by decide),sv2 h ha hr hc,if_pos q]
 ·rw[if_neg q]at rp ⊢
  by_cases q2:a.2.2.2.2.1.length=0
  ·simp_all[if_pos,if_neg,iD,bu,sv2]
  ·rw[if_neg q2]at rp ⊢
   rw[if_pos (by grind[iD,bu])]
   have K:Bi 0 (atW a) (uS s) s.2.2.2 [zSl] a=some ((if (iT s.2.2.1 (atW a) a.2.2.2.2.1).2≠0 then (s,(a.1,(iT s.2.2.1 (atW a) a.2.2.2.2.1).2,[],[],0,0)) else (jl s (iT s.2.2.1 (atW a) a.2.2.2.2.1).1,jD (jl s (iT s.2.2.1 (atW a) a.2.2.2.2.1).1) a):TSl×TR).1,iM (if (iT s.2.2.1 (atW a) a.2.2.2.2.1).2≠0 then (s,(a.1,(iT s.2.2.1 (atW a) a.2.2.2.2.1).2,[],[],0,0)) else (jl s (iT s.2.2.1 (atW a) a.2.2.2.2.1).1,jD (jl s (iT s.2.2.1 (atW a) a.2.2.2.2.1).1) a):TSl×TR).2,()):=by
    show ah7 Bh 0 (atW a) (uS s) s.2.2.2 [zSl] a=_;unfold ah7;rw[qY h.a.hl h.a.sl,atu h.a ha.w,zD];dsimp only;by_cases q3:(iT s.2.2.1 (atW a) a.2.2.2.2.1).2≠0
    ·rw[if_pos q3]at rp ⊢
     rw[if_pos (cu.2 q3)];grind[rem,rP,J7,rp,at1,st1]
    ·rw[if_neg q3,if_neg (fun x=>q3 (cu.1 x))]
     have ok:OkS (jl s (iT s.2.2.1 (atW a) a.2.2.2.2.1).1):=⟨h.u,h.l,BD h.a ha.w,h.c⟩;have:=sv2 ok ha hr hc;rw[if_neg q]at this;exact this
   by_cases h23:a.1=23
   ·rw[if_pos (au.2 h23),cvI ha.t0 ha.t1]
    simp_all[atW,if_pos]
   ·rw[if_neg (fun x=>h23 (au.1 x)),cvI ha.at0 ha.at1]
    simp_all[atW,if_neg]
theorem al3{b:List Int}(hb:∀x∈b,0≤x∧x≤255)(hl:b.length≤10000):Rv (b,())=some ((iQ b).1,(iQ b).2,()):=by
 obtain⟨h1,_⟩:=FF hb
 match b with
 | []=>rfl
 | f::r=>grind[as0]
theorem ru{s:TSl}(h:OkS s):OkS (dz s):=⟨h.u,h.l,h.a.own,h.c⟩
theorem Ez{s:TSl}(h:OkS s){b:List Int}(hb:∀x∈b,0≤x∧x≤255)(hl:b.length≤10000):Ei (s,b,())=some ((gK (dz s) b).1,iM (gK (dz s) b).2,()):=by
 have ho:=ru h;obtain⟨ok,rp⟩:=mR ho hb;obtain⟨_,h2⟩:=FF hb;have hc:=h.c;show aib Bi Bh s b=_;unfold aib;rw[akg h,al0 h.a.sz (by omega),zD,al3 hb hl,zD];dsimp only;have eu:unS (pkS (dz s))=dz s:=azk ho.a.hl ho.a.sl;unfold gK at rp ⊢;rcases h2 with ⟨e,ha,hr,_⟩ | ⟨e,e2⟩
 ·rw[if_neg (show ¬ ((iQ b).2≠0) by omega)]at rp ⊢
  rw[if_neg (fun x=>cu.1 x e),TI,zD,U0 ha hr,zD]
  cases hc:jk (iQ b).1 with
  | false =>
   have es:jY (dz s) (iQ b).1=(dz s,((iQ b).1.1,2,[],[],0,0)):=by simp_all[jY,if_pos]
   have er:rem (iQ b).1.1 128=(iQ b).1.1:=rP (by have:=qW hr;omega) (qW hr).2;rw[es]at rp ⊢;dsimp only;rw[if_neg Bool.false_ne_true,if_pos (by decide),J7 (by simp_all),zD,er];simp_all
  | true =>
   rw[if_pos rfl,if_neg (by decide)];have fin:∀S':TSl,S'=dz s->(if gt (zF (iQ b).1.2.2.2.2.1.length) 0=true then if eqi (iQ b).1.1 23=true then Bi 0 (cvt .i64 (iQ b).1.2.2.2.1) (uS S') S'.2.2.2 [zSl] (iQ b).1 else Bi 0 (cvt .i64 (iQ b).1.2.1) (uS S') S'.2.2.2 [zSl] (iQ b).1 else Bh 0 (uS S') S'.2.2.2 [zSl] (iQ b).1)=some ((jY (dz s) (iQ b).1).1,iM (jY (dz s) (iQ b).1).2,()):=fun S' e=>by rw[e];grind[sv0]
   exact fin (unS (pkS (dz s))) eu
 ·have hne:(iQ b).2≠0:=by omega
  rw[if_pos hne]at rp ⊢;have ef:(iQ b).1.1=b.headD 0:=by rw[e2]
  rw[if_pos (cu.2 hne),ef,J7 rp,zD];simp_all
theorem akh{r:TR}(hr:RR r):∀y∈iM r,0≤y∧y≤255:=by
 have app:∀{l r:List Int},(∀y∈l,0≤y∧y≤255)->(∀y∈r,0≤y∧y≤255)->∀y∈l++r,0≤y∧y≤255:=fun h1 h2 y hy=>by grind
 have con:∀{x:Int} {r:List Int},(0≤x∧x≤255)->(∀y∈r,0≤y∧y≤255)->∀y∈x::r,0≤y∧y≤255:=fun h1 h2 y hy=>by grind
 have nil:∀y∈([]:List Int),0≤y∧y≤255:=fun y hy=>by cases hy
 cases hr with
 | ex f e h0 h h1 h2 =>
  have ea:add .u8 f 128=f+128:=wu8 (by omega) (by omega);unfold iM;rw[if_pos (by grind[cu])];grind[exB]
 | bits f l hf h1 h2 h3 =>
  have e:iM (f,0,l,[],0,0)=f::(gH l.length:Int)%256::iL l:=by rcases hf with rfl | rfl<;>rfl
  grind[Fj]
 | words f l hf h1 h2 =>
  have e:iM (f,0,[],l,0,0)=f::2*(l.length:Int)%256::l.flatMap two:=by rcases hf with rfl | rfl | rfl<;>rfl
  grind[sQ]
 | coil b p =>
  show ∀y∈(5:Int)::two p++two (if b=true then 65280 else 0),0≤y∧y≤255;grind[nG]
 | word x p =>
  show ∀y∈(6:Int)::two p++two x,0≤y∧y≤255;grind[nG]
 | coils p n h1 h2 =>
  show ∀y∈(15:Int)::two p++two n,0≤y∧y≤255;grind[nG]
 | regs p n h1 h2 =>
  show ∀y∈(16:Int)::two p++two n,0≤y∧y≤255;grind[nG]
theorem aki{f:List Int}(hl:f.length≤10000):(0≤(fZ f).1.1∧(fZ f).1.1≤65535)∧(fZ f).1.2.2.length≤10000:=by
 unfold fZ;split
 ·rename_i b0 b1 b2 b3 b4 b5 b6 r
  have h2:r.length≤10000:=by grind[List.length_cons]
  have:=yw b0 b1
  repeat' split
  all_goals first | exact⟨⟨this.1,by grind⟩,h2⟩ | exact⟨⟨by decide,by decide⟩,by decide⟩
 ·exact⟨⟨by decide,by decide⟩,by decide⟩
theorem al4{f:List Int}(hl:f.length≤10000):(gG f).2.1.length≤10000:=by grind[gG,cutV,kA,List.length_cons]
theorem azq{s:TSl}(h:OkS s){f:List Int}(hf:∀x∈f,0≤x∧x≤255)(hl:f.length≤10000):ai9 (s,f,())=some ((mU (dz s) f).1,(mU (dz s) f).2,()):=by
 have hu:=h.u;have hc:=h.c;have hcp:vK (s,())=some (dz s,()):=Cy h.a.sz (by omega);show ai8 Sr Ss s f=_;unfold ai8 mU;show _=some ((if s.2.1=2 then if (fZ f).2≠0∨(fZ f).1.2.1≠s.1 then (dz s,[]) else ((gK (dz s) (fZ f).1.2.2).1,qB (fZ f).1.1 (fZ f).1.2.1 (iM (gK (dz s) (fZ f).1.2.2).2)) else if (gG f).2.2≠0∨(gG f).1≠s.1 then (dz s,[]) else ((gK (dz s) (gG f).2.1).1,sF ((gG f).1::iM (gK (dz s) (gG f).2.1).2)):TSl×List Int).1,(if s.2.1=2 then if (fZ f).2≠0∨(fZ f).1.2.1≠s.1 then (dz s,[]) else ((gK (dz s) (fZ f).1.2.2).1,qB (fZ f).1.1 (fZ f).1.2.1 (iM (gK (dz s) (fZ f).1.2.2).2)) else if (gG f).2.2≠0∨(gG f).1≠s.1 then (dz s,[]) else ((gK (dz s) (gG f).2.1).1,sF ((gG f).1::iM (gK (dz s) (gG f).2.1).2)):TSl×List Int).2,());by_cases hk:s.2.1=2
 ·rw[if_pos (au.2 hk),if_pos hk,ajU (by omega) hf,zD]
  have hb:=vO hf;obtain⟨tx,hl2⟩:=aki hl;have Kt:Sr s 0 true [zSl] (fZ f).1=some (dz s,[],()):=by show JA s 0 true [zSl] (fZ f).1=_;unfold JA;rw[if_pos rfl,hcp,zD,at1,zD,st1,at1,zD,zD]
  have Kf:Sr s 0 false [zSl] (fZ f).1=some ((gK (dz s) (fZ f).1.2.2).1,qB (fZ f).1.1 (fZ f).1.2.1 (iM (gK (dz s) (fZ f).1.2.2).2),()):=by obtain⟨ok,rp⟩:=mR (ru h) hb;have hlen:=Cw rp;show JA s 0 false [zSl] (fZ f).1=_;unfold JA;rw[if_neg Bool.false_ne_true,Ez h hb hl2,zD,aly tx.1 tx.2 hlen.2,zD,at1,zD,st1,at1,zD,zD]
  by_cases h0:(fZ f).2=0
  ·rw[if_neg (fun e=>cu.1 e h0)]
   by_cases h1:(fZ f).1.2.1=s.1
   ·have hn:nei (fZ f).1.2.1 s.1=false:=by rw[Bool.eq_false_iff];exact fun e=>cu.1 e h1
    dsimp only;rw[hn,Kf,if_neg (by rintro (e | e);exact e h0;exact e h1)]
   ·dsimp only
    rw[cu.2 h1,Kt,if_pos (Or.inr h1)]
  ·rw[if_pos (cu.2 h0)]
   dsimp only;rw[Kt,if_pos (Or.inl h0)]
 ·rw[if_neg (fun e=>hk (au.1 e)),if_neg hk,ajT hf,zD]
  have hb:=yQ hf;have hl2:=al4 hl;have Kt:Ss s 0 (gG f).1 (gG f).2.1 true [zSl]=some (dz s,[],()):=by show JB s 0 (gG f).1 (gG f).2.1 true [zSl]=_;unfold JB;rw[if_pos rfl,hcp,zD,at1,zD,st1,at1,zD,zD]
  have Kf:(gG f).1=s.1->Ss s 0 (gG f).1 (gG f).2.1 false [zSl]=some ((gK (dz s) (gG f).2.1).1,sF ((gG f).1::iM (gK (dz s) (gG f).2.1).2),()):=fun hz=>by obtain⟨ok,rp⟩:=mR (ru h) hb;have hlen:=Cw rp;show JB s 0 (gG f).1 (gG f).2.1 false [zSl]=_;unfold JB;rw[if_neg Bool.false_ne_true,Ez h hb hl2,zD,ajS (by omega) (by omega) (by omega) hlen.2 (akh rp.rr),zD,at1,zD,st1,at1,zD,zD]
  by_cases h0:(gG f).2.2=0
  ·rw[if_neg (fun e=>cu.1 e h0)]
   by_cases h1:(gG f).1=s.1
   ·have hn:nei (gG f).1 s.1=false:=by rw[Bool.eq_false_iff];exact fun e=>cu.1 e h1
    dsimp only;rw[hn,Kf h1,if_neg (by rintro (e | e);exact e h0;exact e h1)]
   ·dsimp only
    rw[cu.2 h1,Kt,if_pos (Or.inr h1)]
  ·rw[if_pos (cu.2 h0)]
   dsimp only;rw[Kt,if_pos (Or.inl h0)]
theorem uF(a:TAg):gz (gz a)=gz a:=by simp_all[gz,alF]
theorem uG(s:TSl):dz (dz s)=dz s:=by show jl (jl s (gz s.2.2.1)) (gz (gz s.2.2.1))=_;rw[uF];rfl
theorem al5{t:Int}{hv:List Bool}{bs:List fq}(o n:Int):iU (t,hv,nzB hv bs) o n=iU (t,hv,bs) o n:=by
 unfold iU;dsimp only
 cases h1:hv[n.toNat]? with
 | none=>rfl
 | some x =>
  cases x with
  | false =>
   rfl
  | true =>
   cases h2:bs[n.toNat]? with
   | none =>
    simp_all[nzB,List.getElem?_zipWith]
   | some y=>rw[Fw h1 h2,if_pos rfl]
theorem al6(a:TAg):lN (gz a)=lN a:=by
 unfold lN;have:∀(h:List Int) (b:Nat),cpy h (512+b*32) (iU (gz a).2.2.2.2.2.1 (gz a).2.1.1 (b:Int))=cpy h (512+b*32) (iU a.2.2.2.2.2.1 a.2.1.1 (b:Int)):=fun h b=>by grind[iU,gz,Int,al5]
 simp only[this];rfl
theorem atx(s:TSl):lJ (dz s)=lJ s:=by show (s.2.2.2,o7 (gz s.2.2.1),lN (gz s.2.2.1),gD (gz s.2.2.1))=_;rw[al6];rfl
theorem U1{s t:TSl}(h:dz s=dz t):lJ s=lJ t:=by grind[atx]
theorem EA{s t:TSl}(h:dz s=dz t)(a:TA):jD s a=jD t a:=by grind[jD,U1]
theorem akj(a:TAg)(p:Int)(w:List Int):(iT (gz a) p w).2=(iT a p w).2∧gz (iT (gz a) p w).1=gz (iT a p w).1:=by
 unfold iT;rw[uF]
 repeat' split
 all_goals exact⟨rfl,by first | rfl | exact uF a⟩
theorem al7(s:TSl)(g:TAg):dz (jl s g)=jl s (gz g):=rfl
theorem al8(s:TSl)(a:TA):(jY (dz s) a).2=(jY s a).2∧dz (jY (dz s) a).1=dz (jY s a).1:=by
 obtain⟨w1,w2⟩:=akj s.2.2.1 (atW a) a.2.2.2.2.1;have oo:=uG s;unfold jY;split
 ·simp_all
 ·split
  ·have e:dz (qX (dz s) (cpy (dz s).2.2.2 a.2.1.toNat a.2.2.2.2.2))=dz (qX s (cpy s.2.2.2 a.2.1.toNat a.2.2.2.2.2)):=by show qX (dz (dz s)) _=qX (dz s) _;rw[oo];rfl
   grind[EA]
  ·split
   ·grind[EA]
   ·show ((if (iT (gz s.2.2.1) (atW a) a.2.2.2.2.1).2≠0 then (dz s,(a.1,(iT (gz s.2.2.1) (atW a) a.2.2.2.2.1).2,[],[],0,0)) else (jl (dz s) (iT (gz s.2.2.1) (atW a) a.2.2.2.2.1).1,jD (jl (dz s) (iT (gz s.2.2.1) (atW a) a.2.2.2.2.1).1) a):TSl×TR)).2=_∧dz ((if (iT (gz s.2.2.1) (atW a) a.2.2.2.2.1).2≠0 then (dz s,(a.1,(iT (gz s.2.2.1) (atW a) a.2.2.2.2.1).2,[],[],0,0)) else (jl (dz s) (iT (gz s.2.2.1) (atW a) a.2.2.2.2.1).1,jD (jl (dz s) (iT (gz s.2.2.1) (atW a) a.2.2.2.2.1).1) a):TSl×TR)).1=_
    rw[w1];split
    ·simp_all
    grind[dz,jl,iT,gz,atW,al7,EA]
theorem BF(s:TSl)(b:List Int):(gK (dz s) b).2=(gK s b).2∧dz (gK (dz s) b).1=dz (gK s b).1:=by
 unfold gK;split
 ·exact⟨rfl,uG s⟩
 grind[al8]
theorem al9(s:TSl)(f:List Int):(mU (dz s) f).2=(mU s f).2∧dz (mU (dz s) f).1=dz (mU s f).1:=by
 obtain⟨a1,a2⟩:=BF s (fZ f).1.2.2;obtain⟨b1,b2⟩:=BF s (gG f).2.1;unfold mU;rw[a1,b1];show ((if s.2.1=2 then if (fZ f).2≠0∨(fZ f).1.2.1≠s.1 then (dz s,[]) else ((gK (dz s) (fZ f).1.2.2).1,qB (fZ f).1.1 (fZ f).1.2.1 (iM (gK s (fZ f).1.2.2).2)) else if (gG f).2.2≠0∨(gG f).1≠s.1 then (dz s,[]) else ((gK (dz s) (gG f).2.1).1,sF ((gG f).1::iM (gK s (gG f).2.1).2)):TSl×List Int)).2=_∧dz ((if s.2.1=2 then if (fZ f).2≠0∨(fZ f).1.2.1≠s.1 then (dz s,[]) else ((gK (dz s) (fZ f).1.2.2).1,qB (fZ f).1.1 (fZ f).1.2.1 (iM (gK s (fZ f).1.2.2).2)) else if (gG f).2.2≠0∨(gG f).1≠s.1 then (dz s,[]) else ((gK (dz s) (gG f).2.1).1,sF ((gG f).1::iM (gK s (gG f).2.1).2)):TSl×List Int)).1=_
 repeat' split
 ·exact⟨rfl,uG s⟩
 ·simp_all
 ·exact⟨rfl,uG s⟩
 simp_all
theorem ama(s:TSl):yO (dz s)=yO s:=by show jl (dz s) (tickA (gz (gz s.2.2.1)))=_;rw[uF];rfl
theorem amc(s:TSl):yP (dz s)=yP s:=by show (s.1,s.2.1,bootA (gz (gz s.2.2.1)),zE 16 false)=_;rw[uF];rfl
def uH(s:TSl)(o:TOp):TSl×List Int :=
 if (opB o).2=true then ((gK (dz s) (opB o).1).1,iM (gK (dz s) (opB o).1).2)
 else if o.1%6=1 then mU (dz s) o.2.1 else if o.1%6=3 then (yO (dz s),[]) else if o.1%6=4 then (yP (dz s),[]) else (s,[])
theorem U2{a b:TSl}(h:dz a=dz b)(o:TOp):(oN a o).2=(uH b o).2∧dz (oN a o).1=dz (uH b o).1:=by
 unfold oN uH;rw[<- h];split
 ·obtain⟨e1,e2⟩:=BF a (opB o).1
  simp_all
 ·split
  ·grind[al9]
  ·split
   ·exact⟨rfl,congrArg dz (ama a).symm⟩
   ·split
    ·exact⟨rfl,congrArg dz (amc a).symm⟩
    simp_all
theorem U3{s:TSl}(h:OkS s){o:TOp}(ho:OkO o):OkS (uH s o).1:=by
 unfold uH;split
 ·exact (mR (ru h) (u7 ho)).1
 ·split
  ·exact Tq (ru h) ho.b
  grind[Tn,ru,Tp]
theorem amd{l:List TOp}{m:Int}(hl:l.length≤9223372036854775807):LH (l,m,())=some (akc l m,()):=by
 show abz l m l (zF l.length) 0=_
 have hg:∀k i n:Nat,i+k=l.length->k<n->ay (fun (self:List TOp×Int×List TOp×Int×Int->Option (As [.bool])) (s:List TOp×Int×List TOp×Int×Int)=>DT (Qw (fun l most t7 t8 t9=>self (l,most,t7,t8,t9))) Qx (fun l most t7 t8 t9=>self (l,most,t7,t8,t9)) s.1 s.2.1 s.2.2.1 s.2.2.2.1 s.2.2.2.2) n (l,m,l,zF l.length,(i:Int))=some ((l.drop i).all akb && decide ((l.length:Int)≤m),()):=by
  intro k
  induction k with
  | zero =>
   intro i n hi hn;obtain⟨n,rfl⟩:∃q,n=q+1:=⟨n - 1,by omega⟩;have:i=l.length:=by omega
   subst this;rw[kP];show DT _ Qx _ l m l (zF l.length) (l.length:Int)=_;unfold DT;rw[if_neg (by grind[cr,bu]),List.drop_length,List.all_nil,Bool.true_and];rfl
  | succ k ih =>
   intro i n hi hn;obtain⟨n,rfl⟩:∃q,n=q+1:=⟨n - 1,by omega⟩;obtain⟨x,hx⟩:=iO (xs:=l) (i:=i) (by omega);have hd:l.drop i=x::l.drop (i+1):=by grind[List.drop_eq_getElem_cons,zV]
   have ih:=ih (i+1) n (by omega) (by omega);rw[kP];generalize ay _ n=self at ih ⊢;show DT (Qw _) Qx _ l m l (zF l.length) (i:Int)=_;have K2:∀t,Qw (fun l most t7 t8 t9=>self (l,most,t7,t8,t9)) l m l (zF l.length) (i:Int) t=if t=true then some (false,()) else self (l,m,l,zF l.length,((i+1:Nat):Int)):=fun t=>by show aby _ _ _ _ _ _ _=_;unfold aby;rw[show add .i64 (i:Int) 1=((i+1:Nat):Int) from (iF (by omega) (by omega)).trans (by omega)]
   unfold DT;rw[if_pos (by grind[cr,bu]),d9 hx,zD,K2,aA1,zD,K2,ih,hd];rw[List.all_cons];unfold akb;by_cases q1:300<x.2.1.length
   ·rw[if_pos (iD.2 (by grind)),if_pos rfl,decide_eq_false (by omega)]
    rfl
   ·rw[if_neg (fun e=>q1 (by grind[iD,bu])),decide_eq_true (show x.2.1.length≤300 by omega),Bool.true_and]
    grind
 have:=hg l.length 0 18446744073709551616 (by omega) (by omega);exact this
theorem KJ{σ α:Type}{b:Bool}{F:(σ->Option (Bool×Unit))->σ->Option (Bool×Unit)}{mk:Nat->σ}{l:List α}{p:α->Bool}(hs:∀self i x,l[i]? = some x->F self (mk i)=if p x=true then self (mk (i+1)) else some (false,()))
  (he:∀self,F self (mk l.length)=some (b,())):∀(k i n:Nat),i+k=l.length->k<n->ay F n (mk i)=some ((l.drop i).all p && b,())
 | _,_,0,_,hn=>by omega
 | 0,i,n+1,h,_=>by simp_all[kP,List.drop_length]
 | k+1,i,n+1,h,hn=>by obtain⟨x,hx⟩:=iO (xs:=l) (i:=i) (by omega);rw[kP,hs _ _ _ hx,KJ hs he k (i+1) n (by omega) (by omega),List.drop_eq_getElem_cons (show i<l.length by omega),List.all_cons];grind
def TJ(l:List fq):Bool:=l.all (fun b=>decide (b.2.length≤100)) && decide (l.length≤40)
theorem aty{l:List fq}(hl:l.length≤9223372036854775807):Mf (l,())=some (TJ l,()):=by
 show QM l l (zF l.length) 0=_;unfold QM;refine (KJ (b:=decide (l.length≤40)) (mk:=fun i=>(l,l,zF l.length,(i:Int))) (l:=l) (p:=fun b=>decide (b.2.length≤100)) ?_ ?_ l.length 0 18446744073709551616 (by omega) (by omega)).trans (by rfl)
 ·intro self i x hx
  have hi:=(List.getElem?_eq_some_iff.1 hx).1;show H7 ac7 _ l l (zF l.length) (i:Int)=_;unfold H7;rw[if_pos (cr.2 (by simp_all)),d9 hx,zD,show add .i64 (i:Int) 1=((i+1:Nat):Int) from (iF (by omega) (by omega)).trans (by omega)];by_cases h:x.2.length≤100
  ·rw[if_neg (fun e=>by grind[iD,bu]),if_pos (decide_eq_true h)]
  ·rw[if_pos (iD.2 (by grind)),if_neg (by simp_all)]
 ·intro self
  show H7 ac7 _ l l (zF l.length) (l.length:Int)=_;unfold H7;rw[if_neg (fun h=>by simp_all[cr,bu])];show some (le (zF l.length) 40,())=_;have:le (zF l.length) 40=decide (l.length≤40):=by rw[Bool.eq_iff_iff,gT,decide_eq_true_iff,bu];omega
  grind
abbrev tSl:Ty:=.pr (.int .u8) (.pr (.int .u8) (.pr (.pr (.sl (.int .u16)) nD) (.sl .bool)))
theorem akk{x:Int}(h:(Lit.int .i64 x).wf=true):-9223372036854775808≤x∧x≤9223372036854775807:=by simp[Lit.wf]at h;have e1:IntKind.i64.min=-9223372036854775808:=rfl;omega
theorem aBA{o:TSl}(h:Rw.okV tSl o)(h1:o.2.2.1.1.length≤100)(hw:∀b∈o.2.2.1.2.2.2.2.2.1.2.2,b.2.length≤100):SzS o:=by obtain⟨q1,q2,⟨⟨r0,r1⟩,⟨s1,s2⟩,s3,s4,s5,⟨t1,⟨t2,t3⟩,⟨t4,t5⟩⟩,s6⟩,q3⟩:=h;exact⟨by omega,t2,t4,fun b hb=>by grind⟩
theorem aBB{o:TSl}(h:Rw.okV tSl o)(hw:∀b∈o.2.2.1.2.2.2.2.2.1.2.2,b.2.length≤100)(hR:RS' o):OkS o:=by
 obtain⟨q1,q2,⟨⟨r0,r1⟩,⟨s1,s2⟩,s3,s4,s5,⟨t1,⟨t2,t3⟩,⟨t4,t5⟩⟩,s6⟩,q3⟩:=h;obtain⟨u1,u2,⟨g1,g2,g3,g4⟩,u3⟩:=hR;have a1:=ok16 s1;have a2:=akk s2;have a4:=MV s4;have a5:=MV s5;have a6:=akk s6;refine⟨u1,u2,?_,u3⟩;refine⟨g1,fun x hx=>ok16 (r1 x hx),?_,a1,a2.2,?_,a4,a5,⟨g2,a6.2⟩,t2,t4,fun b hb=>by grind,fun b hb w hx=>ok16 ((t5 b hb).2.2 w hx),g3,?_,?_,?_,?_⟩
 ·rcases g4 with ⟨e1,e2,e3,e4,e5,e6⟩ | ⟨e1,e2,e3,e4,e5⟩ | ⟨e1,e2,e3,e4,e5,e6⟩
  ·exact .inl ⟨e2,e3⟩
  ·exact .inr ⟨e2,.inl e3⟩
  ·exact .inr ⟨e2,.inr e3⟩
 ·rcases g4 with ⟨e1,e2,e3,e4,e5,e6⟩ | ⟨e1,e2,e3,e4,e5⟩ | ⟨e1,e2,e3,e4,e5,e6⟩<;>omega
 ·intro q
  rcases g4 with ⟨e1,e2,e3,e4,e5,e6⟩ | ⟨e1,e2,e3,e4,e5⟩ | ⟨e1,e2,e3,e4,e5,e6⟩
  ·omega
  ·omega
  ·omega
 ·intro q
  rcases g4 with ⟨e1,e2,e3,e4,e5,e6⟩ | ⟨e1,e2,e3,e4,e5⟩ | ⟨e1,e2,e3,e4,e5,e6⟩
  ·omega
  ·omega
  omega
 ·intro q
  rcases g4 with ⟨e1,e2,e3,e4,e5,e6⟩ | ⟨e1,e2,e3,e4,e5⟩ | ⟨e1,e2,e3,e4,e5,e6⟩
  ·omega
  ·exact e3
  ·omega
 ·intro q
  rcases g4 with ⟨e1,e2,e3,e4,e5,e6⟩ | ⟨e1,e2,e3,e4,e5⟩ | ⟨e1,e2,e3,e4,e5,e6⟩
  ·omega
  ·omega
  simp_all
theorem atz{u l t:Int}{b:List Int}(hb:b.length≤1000000)(hw:∀x∈b,0≤x∧x≤65535)(ht:t≤9223372036854775807):∃s e,z8 (u,l,b,t,())=some (s,e,())∧(e=0->OkS s):=by
 show ∃s e,OJ u l b t=some (s,e,())∧(e=0->OkS s);unfold OJ;rw[ake,zD,UQ hb];by_cases c:(1≤u∧u≤247)∧(l=1∨l=2)
 ·rw[decide_eq_true c,if_neg (by decide)]
  by_cases c1:b.length=64
  ·rw[if_pos c1]
   by_cases c2:1≤t
   ·rw[if_pos c2]
    refine⟨(u,l,zAg b t,zE 16 false),0,rfl,fun _=>⟨c.1,c.2,Cq c1 hw ⟨by decide,by decide⟩ ⟨c2,ht⟩,rfl⟩⟩
   ·rw[if_neg c2]
    exact⟨_,2,rfl,fun e=>absurd e (by decide)⟩
  ·rw[if_neg c1]
   exact⟨_,21,rfl,fun e=>absurd e (by decide)⟩
 ·rw[decide_eq_false c,if_pos (by decide)]
  grind
theorem akl(m:lI)(h:SzM m):MP (m,m,())=some (true,()):=by have h1:=h.c;have h2:=h.i;have h3:=h.h;have h4:=h.w;show asA m m=_;unfold asA;rw[Tm (by omega),decide_eq_true rfl,zD,if_pos rfl,Tm (by omega),decide_eq_true rfl,zD,if_pos rfl,KE (by omega),decide_eq_true rfl,zD,if_pos rfl,KE (by omega),decide_eq_true rfl,zD]
theorem TK(b:Bool):Sx.neb b b=false:=by cases b<;>rfl
end Go.Proofs.Lx
end
