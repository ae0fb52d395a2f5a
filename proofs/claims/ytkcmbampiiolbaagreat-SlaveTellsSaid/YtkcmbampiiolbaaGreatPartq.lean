/- Proved in the last of these 20 parts (this is part 17): SlaveTells. Conditions: those of the given statement, and no others. -/
import Derived.Test.YtkcmbampiiolbaaGreatParto
import Derived.Test.YtkcmbampiiolbaaGreatPartp
import Derived.Test.YtkcmbampiiolbaaGreatPartj
set_option linter.unusedVariables false
set_option linter.unusedSimpArgs false
set_option linter.unusedSectionVars false
open Option renaming bind → zC, bind_some → zD
open List renaming replicate → zE, getD → zJ, mem_cons_of_mem → zS, getD_eq_getElem?_getD → zW, mem_of_getElem? → zX, length_append → zY, length_take → kA, length_replicate → kC
open Int renaming ofNat → zF, toNat → zI, eq_ofNat_of_zero_le → zN, toNat_natCast → zP, tmod_eq_emod_of_nonneg → kB
open Bool renaming and_eq_true → zO
noncomputable section
namespace Go.Proofs.Lx
open Go Ev Sx Pl
set_option maxRecDepth 100000
abbrev TCm:=Int×Int×Int×Int×Int
def jq(l:TLs):Prop:=(l.1=0∧l.2=0)∨(l.1≠0∧(1≤l.2∨l.2=-1))
instance (l:TLs):Decidable (jq l):=inferInstanceAs (Decidable (_∨_))
theorem yF(o:Int):xO (o,())=some ((o,-1),()):=rfl
theorem aj5(l:TLs):YJ (l,())=some (decide (jq l),()):=by
 obtain⟨o,n⟩:=l;show aom (o,n)=_;unfold aom;simp only[yF,zD,au,gU,Bool.and_true];by_cases h0:o=0
 ·rw[if_pos h0]
  congr 2
  rw[Bool.eq_iff_iff];simp[au,jq,h0]
 ·rw[if_neg h0]
  by_cases h1:1≤n
  ·rw[if_pos h1]
   congr 2
   symm;rw[decide_eq_true_eq];exact Or.inr ⟨h0,Or.inl h1⟩
  ·rw[if_neg h1]
   have e:(zC (xO (o,())) fun y=>some (eqi o y.1.1 && eqi n y.1.2,()):Option (As [.bool]))=some (eqi o o && eqi n (-1),()):=rfl;refine Eq.trans e (congrArg (fun b=>some (b,())) ?_);rw[Bool.eq_iff_iff,zO,au,au,decide_eq_true_eq];constructor
   ·rintro⟨_,e⟩
    exact Or.inr ⟨h0,Or.inr e⟩
   ·rintro (⟨e,_⟩ | ⟨_,e | e⟩)
    ·omega
    ·omega
    omega
def aj6(l:TLs):TLs:=if jq l then l else (0,0)
theorem wz(l:TLs):Aq (l,())=some (aj6 l,()):=by show aoo l=_;grind[aoo,aj6,aj5,jq]
theorem uU{l:TLs}(h:jq l):aj6 l=l:=if_pos h
theorem qV{l:TLs}(h:jq l):oU (l,())=some (decide (l.1=0),()):=by
 show PT l=_;unfold PT;rw[wz,zD,uU h,Bool.and_true]
 congr 2
 rw[Bool.eq_iff_iff];simp only[zO,au,decide_eq_true_eq];grind[jq]
def jP(l:TLs)(o t:Int):TLs:=if l=(o,-1) then l else (o,t)
theorem as6{l:TLs}{o t:Int}(h:jq l)(ho:o≠0)(ht:1≤t)(hf:l.1=0∨l.1=o):ZO (l,o,t,())=some (jP l o t,0,()):=by
 obtain⟨l1,l2⟩:=l;show ZL ZN (l1,l2) o t=_;unfold ZL;rw[wz,zD,uU h];dsimp only;rw[if_neg (fun e=>ho (au.1 e)),rM,decide_eq_false (by omega)];show ZJ ZM o t false (l1,l2) (0,0)=_;unfold ZJ;rw[if_neg (by decide),qV h,zD];have K2:∀b z,b=false->ZM o t b (l1,l2) z=some (jP (l1,l2) o t,0,()):=fun b z hb=>by subst hb;show ZK o t false (l1,l2) z=_;unfold ZK jP;rw[if_neg (by decide),yF,zD];simp only[Bool.and_true,zO,au,Prod.mk.injEq];grind
 by_cases h0:l1=0
 ·simp_all
 ·rw[if_pos (by grind)]
  refine K2 _ _ ?_;rw[Bool.eq_false_iff];simp_all[cu,absurd]
theorem as7{l:TLs}{o:Int}(h:jq l)(ho:o≠0)(hf:l.1=o):aap (l,o,())=some ((o,-1),0,()):=by show aao l o=_;unfold aao;rw[wz,zD,uU h];dsimp only;rw[if_neg (fun e=>ho (au.1 e)),if_neg (fun e=>cu.1 e hf),yF,zD]
def yG(l:TLs):TLs×Bool:=if l.1=0∨l.2=-1 then (l,false) else if l.2=1 then ((0,0),true) else ((l.1,l.2 - 1),false)
theorem as8{l:TLs}(h:jq l)(hb:l.2≤9223372036854775807):acG (l,())=some ((yG l).1,(yG l).2,()):=by
 obtain⟨l1,l2⟩:=l;show acE acF (l1,l2)=_;unfold acE yG;rw[wz,zD,uU h,qV h,zD];dsimp only at hb ⊢;by_cases h0:l1=0
 ·rw[if_pos (by grind),if_pos (Or.inl h0)]
  rfl
 ·rw[if_neg (by grind),yF,zD]
  show acD _ (l1,l2) (0,0)=_;unfold acD;dsimp only;have e1:(eqi l1 l1 && (eqi l2 (-1) && true))=decide (l2=-1):=by rw[Bool.eq_iff_iff];simp[au]
  rw[e1];by_cases h2:l2=-1
  ·simp_all
  ·rw[if_neg (show ¬ decide (l2=-1)=true from fun e=>h2 (of_decide_eq_true e)),if_neg (show ¬ (l1=0∨l2=-1) by omega)]
   have h3:1≤l2:=by
    rcases h with h | h
    ·omega
    omega
   rw[jO (by omega) (by omega)];by_cases h4:l2=1
   ·simp_all[if_pos,au]
   ·rw[if_neg (fun e=>h4 (by grind[au])),if_neg h4]
def fitsB(x:fq):Bool:=decide (x.2.length≤14∧0≤x.1∧x.1≤63∧x.1+(x.2.length:Int)≤64)
theorem uy{x:fq}(h:x.2.length≤1000000):rY (x,())=some (fitsB x,()):=by
 obtain⟨p,w⟩:=x;show Xn (p,w)=_;unfold Xn fitsB;simp only[gT,gU,cr,bu]at h ⊢;by_cases h1:(w.length:Int)≤14
 ·rw[if_pos h1]
  by_cases h2:0≤p
  ·rw[if_pos h2]
   by_cases h3:p<64
   ·rw[if_pos h3,iF (by omega) (by omega),le_dec]
    grind
   grind
  grind
 grind
def zB:fq:=(0,[])
def nzB(hv:List Bool)(bs:List fq):List fq:=List.zipWith (fun h b=>if h=true then b else zB) hv bs
theorem oK{hv:List Bool}{bs:List fq}(h1:hv.length=8)(h2:bs.length=8):(nzB hv bs).length=8:=by simp_all[nzB,List.length_zipWith]
theorem Fw{hv:List Bool}{bs:List fq}{i:Nat}{h:Bool}{b:fq}(h1:hv[i]? = some h)(h2:bs[i]? = some b):(nzB hv bs)[i]? = some (if h=true then b else zB):=by simp_all[nzB,List.getElem?_zipWith]
theorem UO{α:Type}{xs ys:List α}(hl:xs.length=ys.length){i:Nat}{y:α}(h:ys[i]? = some y):(ys.take i++xs.drop i).set i y=ys.take (i+1)++xs.drop (i+1):=by grind[List.getElem?_eq_some_iff,List.take_add_one,List.drop_eq_getElem_cons,kA,List.append_assoc,List.singleton_append,Fg]
def gz(a:TAg):TAg:=(a.1,a.2.1,a.2.2.1,a.2.2.2.1,a.2.2.2.2.1,(a.2.2.2.2.2.1.1,a.2.2.2.2.2.1.2.1,nzB a.2.2.2.2.2.1.2.1 a.2.2.2.2.2.1.2.2),a.2.2.2.2.2.2)
structure SzA(a:TAg):Prop where
 bk:a.1.length≤1000
 hv:a.2.2.2.2.2.1.2.1.length=8
 bs:a.2.2.2.2.2.1.2.2.length=8
 bw:∀b∈a.2.2.2.2.2.1.2.2,b.2.length≤1000
theorem iO{α:Type}{xs:List α}{i:Nat}(h:i<xs.length):∃x,xs[i]? = some x:=⟨xs[i],List.getElem?_eq_getElem h⟩
theorem Cm{a:TAg}(h:SzA a):DF (a,())=some (gz a,()):=by
 obtain⟨bk,ls,ph,tx,la,⟨st,hv,bs⟩,tk⟩:=a;obtain⟨hk,h1,h2,h3⟩:=h;dsimp only at hk h1 h2 h3;show ZE G7 (bk,ls,ph,tx,la,(st,hv,bs),tk)=_;unfold ZE;rw[pW (show bk.length≤1000000 by omega)];have hl:=oK h1 h2;show G7 0 0 hv 0 [(bk,ls,ph,tx,la,(st,hv,bs),tk)] _=some ((bk,ls,ph,tx,la,(st,hv,nzB hv bs),tk),());unfold G7;refine jV (N:=8) (mk:=fun i=>(0,0,hv,(i:Int),[(bk,ls,ph,tx,la,(st,hv,(nzB hv bs).take i++bs.drop i),tk)],_)) ?_ ?_ 8 0 _ (by omega) (by omega)
 ·intro self i hi
  show G6 (P6 _) _ 0 0 hv (i:Int) [(bk,ls,ph,tx,la,(st,hv,(nzB hv bs).take i++bs.drop i),tk)] _=self (0,0,hv,((i+1:Nat):Int),[(bk,ls,ph,tx,la,(st,hv,(nzB hv bs).take (i+1)++bs.drop (i+1)),tk)],_);obtain⟨x,hx⟩:=iO (xs:=hv) (i:=i) (by omega);obtain⟨b,hb⟩:=iO (xs:=bs) (i:=i) (by omega);have hm:at? ((nzB hv bs).take i++bs.drop i) (i:Int)=some b:=d9 (by grind);have hs:=UO (xs:=bs) (ys:=nzB hv bs) (by omega) (Fw hx hb);unfold G6;have l8:lt (i:Int) 8=true:=cr.2 (by omega);have g0:ge (i:Int) 0=true:=gU.2 (by omega);have K2:∀y z,P6 (fun a t2 t12 t13 a_2 t2_2=>self (a,t2,t12,t13,a_2,t2_2)) 0 0 (i:Int) hv (i:Int) [(bk,ls,ph,tx,la,(st,hv,(nzB hv bs).take i++bs.drop i),tk)] z y=self (0,0,hv,((i+1:Nat):Int),[(bk,ls,ph,tx,la,(st,hv,((nzB hv bs).take i++bs.drop i).set i y),tk)],z):=fun y z=>by show ZD _ _ _ _ _ _ _ _ _=_;grind[ZD,gy,kI,gJ]
  rw[if_pos l8,gy l8,d9 hx,zD]
  cases x with
  | true =>
   rw[if_pos rfl,gy g0,gy l8,kI,zD];grind[gy,pW,zX]
  | false =>
   rw[if_neg (by decide),K2,<- hs];rfl
 ·intro self
  show G6 (P6 _) _ 0 0 hv (8:Int) [(bk,ls,ph,tx,la,(st,hv,(nzB hv bs).take 8++bs.drop 8),tk)] _=_;unfold G6;rw[if_neg (by decide)];have e1:(nzB hv bs).take 8++bs.drop 8=nzB hv bs:=by grind
  rw[e1];rfl
theorem sH(x:Int):IntKind.u32.wrap x=x%4294967296:=by rfl
theorem aOM{x:Int}:shr .u32 x 16=x / 65536:=by
 unfold shr;have:min (16:Int).toNat IntKind.u32.bits=16:=by decide
 grind
theorem parts_eq{x:Int}(h0:0≤x)(h1:x≤4294967295):Ap (x,())=some (x / 65536,x%65536,()):=by show YG x=_;grind[YG,aOM,oI]
theorem aON{y:Int}(h0:0≤y)(h1:y≤65535):shl .u32 (cvt .u32 y) 16=65536*y:=by
 unfold cvt;rw[sH];unfold shl;have:min (16:Int).toNat IntKind.u32.bits=16:=by decide
 grind[sH]
theorem aA9{a b:Int}(ha:0≤a)(ha2:a≤65535)(hb:0≤b)(hb':b≤65535):bor .u32 (65536*a) b=65536*a+b:=by
 obtain⟨n,rfl⟩:=zN ha;obtain⟨m,rfl⟩:=zN hb;unfold bor;rw[sH]
 have e1:(BitVec.ofInt IntKind.u32.bits (65536*(n:Int))).toNat=65536*n:=by
  rw[BitVec.toNat_ofInt];have:((2 ^ IntKind.u32.bits:Nat):Int)=4294967296:=by decide
  grind
 have e2:(BitVec.ofInt IntKind.u32.bits (m:Int)).toNat=m:=by
  rw[BitVec.toNat_ofInt];have:((2 ^ IntKind.u32.bits:Nat):Int)=4294967296:=by decide
  grind
 rw[BitVec.toNat_or,e1,e2];have e3:65536*n ||| m=65536*n+m:=by have:=Nat.two_pow_add_eq_or_of_lt (i:=16) (b:=m) (by omega) n;simp_all
 omega
theorem JW{a b:Int}(ha:0≤a)(ha2:a≤65535)(hb:0≤b)(hb':b≤65535):Dk (a,b,())=some (65536*a+b,()):=by show Xz a b=_;unfold Xz;rw[aON ha ha2,show cvt .u32 b=b from aPv hb (by omega),aA9 ha ha2 hb hb']
theorem SN{st:Int}{hv:List Bool}{bs:List fq}(h:hv.length=8):xP ((st,hv,bs),())=some (((hv.count true:Nat):Int),()):=by
 show PU 0 hv 0=_;unfold PU;refine (jV (N:=8) (mk:=fun i=>((((hv.take i).count true:Nat):Int),hv,(i:Int))) (r:=some (((hv.count true:Nat):Int),())) ?_ ?_ 8 0 _ (by omega) (by omega))
 ·intro self i hi
  show GQ _ (((hv.take i).count true:Nat):Int) hv (i:Int)=_;obtain⟨x,hx⟩:=iO (xs:=hv) (i:=i) (by omega);have l8:lt (i:Int) 8=true:=cr.2 (by omega);have hle:(hv.take i).count true≤8:=by grind[List.count_le_length,kA]
  have e:(hv.take (i+1)).count true=(hv.take i).count true+(if x=true then 1 else 0):=by grind[List.take_add_one]
  unfold GQ;rw[if_pos l8,gy l8,d9 hx,zD,gJ (by omega),gJ (by omega),e];grind
 ·intro self
  show GQ _ (((hv.take 8).count true:Nat):Int) hv (8:Int)=_;unfold GQ;rw[if_neg (by decide),List.take_of_length_le (by omega)]
theorem JX{x:fq}(h:x.2.length≤1000):Ac (x,())=some (x,()):=by show Xt x=_;grind[Xt,pW]
theorem number_eq(n:Int):Dz (n,())=some (decide (0≤n∧n≤7),()):=by
 show aov n=_;unfold aov;by_cases h:0≤n
 ·rw[if_pos (gU.2 h),rM]
  grind
 simp_all[if_neg,gU,decide_eq_false]
def itB(x:fq):List Int:=if fitsB x=true then x.1::(x.2.length:Int)::x.2++zE (14 - x.2.length) 0 else zE 16 0
theorem axQ(s:List Int->Option (As [.sl (.int .u16)]))(l:List Int):Xp s l=if lt (zF l.length) 16=true then need (small (l.length+1)) (s (l++[0])) else some (l,()):=rfl
theorem axR:∀(k:Nat) (l:List Int) (n:Nat),l.length+k=16->k<n->ay (fun (self:List Int->Option (As [.sl (.int .u16)])) (s:List Int)=>Xp (fun l=>self l) s) n l=some (l++zE k 0,())
 | _,_,0,_,h=>by omega
 | 0,l,n+1,h,_=>by simp_all[kP,axQ,if_neg,cr,bu]
 | k+1,l,n+1,h,hn=>by rw[kP,axQ,if_pos (by grind[cr,bu]),gZ (by omega),axR k (l++[0]) n (by grind) (by omega),List.append_assoc];rfl
theorem Bu{x:fq}(h:x.2.length≤1000):Dj (x,())=some (itB x,()):=by
 show Xq Xr x=_;unfold Xq itB;rw[uy (by omega),zD];have K:∀(l:List Int) k,l.length+k=16->Xr l=some (l++zE k 0,()):=fun l k hk=>by show OY l=_;grind[OY,axR]
 by_cases hf:fitsB x=true
 ·rw[if_pos hf,if_pos hf]
  have hf2:=of_decide_eq_true hf;grind[gZ,oI,bu,Int.emod_eq_of_lt]
 simp_all
theorem oL{x:fq}:(itB x).length=16:=by
 unfold itB;split
 ·rename_i h
  have:=of_decide_eq_true h;simp_all
 ·simp
def SQ(o tx n:Int)(x:fq):List Int:=o::tx / 65536::tx%65536::n::itB x
theorem as9{o tx n:Int}{x:fq}:(SQ o tx n x).length=20:=by simp_all[SQ,oL]
theorem alA{o tx n:Int}{x:fq}(h0:0≤tx)(h1:tx≤4294967295)(hn:0≤n∧n≤7)(h:x.2.length≤1000):PV (o,tx,n,x,())=some (SQ o tx n x,()):=by show aow o tx n x=_;unfold aow;rw[parts_eq h0 h1,zD,gZ (by omega),Bu h,zD,gZ (by grind[oL]),show cvt .u16 n=n from yj hn.1 (by omega)];rfl
def iU(s:jH)(o n:Int):List Int:=match s.2.1[n.toNat]?,s.2.2[n.toNat]? with
 | some true,some x=>SQ o s.1 n x
 | _,_=>zE 20 0
theorem back_eq{s:jH}{o n:Int}(h0:0≤s.1)(h1:s.1≤4294967295)(hn:0≤n∧n≤7)(hh:s.2.1.length=8)(hb:s.2.2.length=8)(hw:∀b∈s.2.2,b.2.length≤1000):YW (s,o,n,())=some (iU s o n,()):=by
 obtain⟨st,hv,bs⟩:=s;obtain⟨k,rfl⟩:=zN hn.1;show YU YV (st,hv,bs) o (k:Int)=_;unfold YU iU;rw[number_eq,zD,if_neg (by grind)];dsimp only at hh hb ⊢;obtain⟨x,hx⟩:=iO (xs:=hv) (i:=k) (by omega);obtain⟨b,hb'⟩:=iO (xs:=bs) (i:=k) (by omega);rw[d9 hx,zD,zP,hx,hb'];show YT o (k:Int) (st,hv,bs) (!x)=_;unfold YT
 cases x with
 | true =>
  rw[if_neg (by decide)];grind[d9,alA,zX]
 | false=>rfl
def rdB(w:List Int):Int×Int×Int×fq×Int :=
 if w.length≠20∨8≤w.getD 3 0 then (0,0,0,zB,2)
 else if 14<w.getD 5 0 then (0,0,0,zB,20)
 else if fitsB (w.getD 4 0,(w.drop 6).take (w.getD 5 0).toNat)=true∧itB (w.getD 4 0,(w.drop 6).take (w.getD 5 0).toNat)=w.drop 4 then (w.getD 0 0,65536*w.getD 1 0+w.getD 2 0,w.getD 3 0,(w.getD 4 0,(w.drop 6).take (w.getD 5 0).toNat),0)
 else (0,0,0,zB,20)
theorem ata{w:List Int}(hr:∀x∈w,0≤x∧x≤65535):Gu (w,())=some ((rdB w).1,(rdB w).2.1,(rdB w).2.2.1,(rdB w).2.2.2.1,(rdB w).2.2.2.2,()):=by
 show XF XH w=_;unfold XF;by_cases hl:w.length=20
 ·rw[if_neg (fun e=>cu.1 e (by simp_all))]
  have g:∀k:Nat,k<20->at? w (k:Int)=some (w.getD k 0):=fun k hk=>by simp_all[iO,d9,zW]
  have rg:∀k:Nat,k<20->0≤w.getD k 0∧w.getD k 0≤65535:=fun k hk=>by simp_all
  have c64:∀k:Nat,k<20->cvt .i64 (w.getD k 0)=w.getD k 0:=fun k hk=>gM (by grind) (by grind);have g3:at? w 3=some (w.getD 3 0):=g 3 (by omega);have g4:at? w 4=some (w.getD 4 0):=g 4 (by omega);have g5:at? w 5=some (w.getD 5 0):=g 5 (by omega);have g0:at? w 0=some (w.getD 0 0):=g 0 (by omega);have g1:at? w 1=some (w.getD 1 0):=g 1 (by omega);have g2:at? w 2=some (w.getD 2 0):=g 2 (by omega);rw[g3,zD];show XD XG w (ge (w.getD 3 0) 8) 0=_;unfold XD;by_cases h8:8≤w.getD 3 0
  ·rw[if_pos (gU.2 h8)]
   unfold rdB;rw[if_pos (Or.inr h8)];rfl
  ·rw[if_neg (fun e=>h8 (gU.1 e)),g4,zD,g5,zD]
   have c6:cut w 6 (zF w.length)=some (w.drop 6):=lH (i:=6) (by omega);have c4:cut w 4 (zF w.length)=some (w.drop 4):=lH (i:=4) (by omega);have l6:(w.drop 6).length=14:=by simp_all
   rw[c6,zD,c64 5 (by omega),c64 4 (by omega)];have r5:=rg 5 (by omega);have r4:=rg 4 (by omega);by_cases h14:14<w.getD 5 0
   ·rw[if_pos (iD.2 (by simp_all))]
    unfold rdB;rw[if_neg (by omega),if_pos h14];rfl
   ·rw[if_neg (fun e=>h14 (by simp_all[iD,bu]))]
    obtain⟨m,hm⟩:=zN r5.1;have cm:cut (w.drop 6) 0 (w.getD 5 0)=some ((w.drop 6).take m):=by grind[Bp]
    rw[cm,zD,gy (gT.2 (Int.le_refl _)),gy (gT.2 (by simp_all))];have lm:((w.drop 6).take m).length=m:=by grind
    rw[JX (by grind),zD];dsimp only;rw[uy (by grind),zD];unfold rdB;rw[if_neg (show ¬ (w.length≠20∨8≤w.getD 3 0) by omega),if_neg h14,hm,zP]
    have K2:∀b,XG w b 0 (w.getD 4 0,(w.drop 6).take m)=some (if b=true then (0,0,0,zB,20,()) else (w.getD 0 0,65536*w.getD 1 0+w.getD 2 0,w.getD 3 0,(w.getD 4 0,(w.drop 6).take m),0,())):=fun b=>by
     show XE w b 0 _=_;unfold XE
     cases b with
     | true=>rfl
     | false =>
      have r1:=rg 1 (by omega);have r2:=rg 2 (by omega);rw[if_neg (by decide),if_neg (by decide),g0,zD,g1,zD,g2,zD,g3,zD,JW r1.1 r1.2 r2.1 r2.2,zD,c64 3 (by omega)]
    cases hf:fitsB (w.getD 4 0,(w.drop 6).take m) with
    | false =>
     rfl
    | true =>
     rw[if_neg (by decide),c4,zD,Bu (by grind),zD];dsimp only;rw[uP (by grind[oL]),zD,K2];grind
 ·rw[if_pos (cu.2 (by grind))]
  unfold rdB;rw[if_pos (Or.inl hl)];rfl
def Es(s:jH)(k:Nat)(x:fq):jH:=(s.1,s.2.1.set k true,nzB (s.2.1.set k true) (s.2.2.set k x))
theorem ayX{s:jH}{n:Int}{x:fq}(hh:s.2.1.length=8)(hb:s.2.2.length=8)(hw:∀b∈s.2.2,b.2.length≤1000)(hx:x.2.length≤1000) :
  LF (s,n,x,())=some (if 0≤n∧n≤7 then if fitsB x=true then (Es s n.toNat x,0,()) else (zSt,20,()) else (zSt,2,())):=by
 obtain⟨st,hv,bs⟩:=s;dsimp only at hh hb hw;show aaN Qk (st,hv,bs) n x=_;unfold aaN;rw[number_eq,zD];by_cases hn:0≤n∧n≤7
 ·obtain⟨k,rfl⟩:=zN hn.1
  rw[decide_eq_true hn,if_neg (by decide),if_pos hn,uy (by omega),zD]
  cases hf:fitsB x with
  | false =>
   rfl
  | true =>
   have g0:ge (k:Int) 0=true:=gU.2 (by omega);have l8:lt (k:Int) 8=true:=cr.2 (by omega);obtain⟨y,hy⟩:=iO (xs:=hv) (i:=k) (by omega);obtain⟨b,hb'⟩:=iO (xs:=bs) (i:=k) (by omega);rw[if_neg (by decide),if_pos rfl,gy g0,gy l8];dsimp only;rw[d9 hy,zD,gy g0,gy l8,d9 hb',zD,zP];have hh2:(hv.set k true).length=8:=by simp_all
   have hb2:(bs.set k x).length=8:=by simp_all
   have hw2:∀c∈bs.set k x,c.2.length≤1000:=fun c hc=>by grind
   unfold Es;dsimp only;generalize hv.set k true=hv' at *;generalize bs.set k x=bs' at *;have hl:=oK hh2 hb2;unfold Qk;refine jV (N:=8) (mk:=fun i=>(0,0,hv',(i:Int),[(st,hv',(nzB hv' bs').take i++bs'.drop i)],_)) ?_ ?_ 8 0 _ (by omega) (by omega)
   ·intro self i hi
    show Qj _ _ 0 0 hv' (i:Int) [(st,hv',(nzB hv' bs').take i++bs'.drop i)] _=self (0,0,hv',((i+1:Nat):Int),[(st,hv',(nzB hv' bs').take (i+1)++bs'.drop (i+1))],_);obtain⟨z,hz⟩:=iO (xs:=hv') (i:=i) (by omega);obtain⟨c,hc⟩:=iO (xs:=bs') (i:=i) (by omega);have hm:at? ((nzB hv' bs').take i++bs'.drop i) (i:Int)=some c:=d9 (by grind);have hs:=UO (xs:=bs') (ys:=nzB hv' bs') (by omega) (Fw hz hc);have l8:lt (i:Int) 8=true:=cr.2 (by omega);have g0:ge (i:Int) 0=true:=gU.2 (by omega);unfold Qj;rw[if_pos l8,gy l8,d9 hz,zD]
    cases z with
    | true =>
     rw[if_pos rfl,gy g0,gy l8,kI,zD];grind[JX,zX,gy,gJ]
    | false =>
     rw[if_neg (by decide),gy g0,gy l8,kI,zD];dsimp only;rw[hm,zD,gJ (by omega),<- hs];rfl
   ·intro self
    show Qj _ _ 0 0 hv' (8:Int) [(st,hv',(nzB hv' bs').take 8++bs'.drop 8)] _=_;have e1:(nzB hv' bs').take 8++bs'.drop 8=nzB hv' bs':=by grind
    rw[e1];rfl
 grind
def gQ(hv:List Bool)(bs:List fq):List fq:=((hv.zip bs).filter (fun p=>p.1)).map (fun p=>p.2)
theorem Kv{hv:List Bool}{bs:List fq}{i:Nat}{x:Bool}{b:fq}(h1:hv[i]? = some x)(h2:bs[i]? = some b) :
  gQ (hv.take (i+1)) (bs.take (i+1))=gQ (hv.take i) (bs.take i)++(if x=true then [b] else []):=by
 have i1:=(List.getElem?_eq_some_iff.1 h1).1;have i2:=(List.getElem?_eq_some_iff.1 h2).1;unfold gQ;rw[List.take_add_one,List.take_add_one,h1,h2];show (List.map _ (List.filter _ ((hv.take i++[x]).zip (bs.take i++[b]))))=_;rw[List.zip_append (by grind),List.filter_append,List.map_append];cases x<;>rfl
theorem uz{hv:List Bool}{bs:List fq}{b:fq}(h:b∈gQ hv bs):b∈bs:=by obtain⟨p,hp,rfl⟩:=List.mem_map.1 h;exact (List.of_mem_zip (List.mem_filter.1 hp).1).2
theorem qb{hv:List Bool}{bs:List fq}:(gQ hv bs).length≤hv.length:=by grind[gQ,List.length_map,Nat.le_trans,List.length_filter_le,List.length_zip]
theorem oM{s:jH}(hh:s.2.1.length=8)(hb:s.2.2.length=8)(hw:∀b∈s.2.2,b.2.length≤1000):Aw (s,())=some (gQ s.2.1 s.2.2,()):=by
 obtain⟨st,hv,bs⟩:=s;dsimp only at hh hb hw ⊢;show Qf (st,hv,bs) hv 0 []=_;unfold Qf;refine jV (N:=8) (mk:=fun i=>((st,hv,bs),hv,(i:Int),gQ (hv.take i) (bs.take i))) ?_ ?_ 8 0 _ (by omega) (by omega)
 ·intro self i hi
  show He _ (st,hv,bs) hv (i:Int) (gQ (hv.take i) (bs.take i))=self ((st,hv,bs),hv,((i+1:Nat):Int),gQ (hv.take (i+1)) (bs.take (i+1)));obtain⟨z,hz⟩:=iO (xs:=hv) (i:=i) (by omega);obtain⟨c,hc⟩:=iO (xs:=bs) (i:=i) (by omega);have l8:lt (i:Int) 8=true:=cr.2 (by omega);have hle:(gQ (hv.take i) (bs.take i)).length≤8:=by grind[qb,kA]
  rw[Kv hz hc];unfold He;rw[if_pos l8,gy l8,d9 hz,zD]
  cases z with
  | true =>
   rw[if_pos rfl];grind[d9,JX,zX,gZ,gJ]
  | false =>
   rw[if_neg (by decide),gJ (by omega)];simp
 ·intro self
  show He _ (st,hv,bs) hv (8:Int) (gQ (hv.take 8) (bs.take 8))=_;unfold He;rw[if_neg (by decide),List.take_of_length_le (by omega),List.take_of_length_le (by omega)]
def shV(s:Int):Int:=if eqi (kK .u32 s 1) 1=true then iA .u32 (shr .u32 s 1) 3988292384 else shr .u32 s 1
theorem atb(s:Int):Fb (s,())=some (shV s,()):=by show ZS s=_;grind[ZS,shV]
def uD(s b:Int):Int:=shV (shV (shV (shV (shV (shV (shV (shV (iA .u32 s (cvt .u32 b)))))))))
theorem ayY(f:Int->Int->Option (As [.int .u32]))(s i:Int):P8 f s i=if lt i 8=true then zC (Fb (s,())) fun y=>f y.1 (add .i64 i 1) else some (s,()):=rfl
theorem ayZ(s b:Int):Lv (s,b,())=some (uD s b,()):=by
 show P9 (iA .u32 s (cvt .u32 b)) 0=_;unfold uD;generalize iA .u32 s (cvt .u32 b)=x;have st:∀n x (i:Int),lt i 8=true->ay (fun (self:Int×Int->Option (As [.int .u32])) (s:Int×Int)=>P8 (fun a b=>self (a,b)) s.1 s.2) (n+1) (x,i)=ay (fun (self:Int×Int->Option (As [.int .u32])) (s:Int×Int)=>P8 (fun a b=>self (a,b)) s.1 s.2) n (shV x,add .i64 i 1):=fun n x i h=>by rw[kP,ayY,if_pos h,atb,zD]
 unfold P9;rw[st _ _ _ (by rfl),st _ _ _ (by rfl),st _ _ _ (by rfl),st _ _ _ (by rfl),st _ _ _ (by rfl),st _ _ _ (by rfl),st _ _ _ (by rfl),st _ _ _ (by rfl)];rfl
def JY(s:Int):Int:=((Z0 s).getD (0,())).1
theorem alB{b:List Int}(h:b.length≤1000000):Z4 (b,())=some (JY (b.foldl uD 4294967295),()):=by
 show Qa b 4294967295 (zF b.length) 0=_;unfold Qa;refine (nX (xs:=b) (mk:=fun i acc=>(b,acc,zF b.length,(i:Int))) (stp:=uD) (fin:=fun acc=>some (JY acc,())) (fun _ _=>True) ?_ (fun _ _ _ _ _=>trivial) ?_ b.length 0 4294967295 _ (by omega) (by omega) trivial)
 ·intro self i acc x hx _
  have hi:=(List.getElem?_eq_some_iff.1 hx).1;show G8 _ _ b acc (zF b.length) (i:Int)=_;unfold G8;rw[if_pos (by grind[cr,bu]),d9 hx,zD,ayZ,zD,gJ (by omega)]
 ·intro self acc _
  show G8 _ _ b acc (zF b.length) (b.length:Int)=_;unfold G8;rw[if_neg (by grind[cr,bu])];rfl
theorem alC(l:List Int)(x:Int):(l++[x]).flatMap two=l.flatMap two++two x:=by simp
theorem T3{l:List Int}(h:l.length≤100000):apc (l,())=some (l.flatMap two,()):=by
 show Z6 Qc l=_;unfold Z6;have e2:mul .i64 2 (zF l.length)=((2*l.length:Nat):Int):=by grind[bu,kZ]
 rw[e2,gy (gU.2 (by omega)),gy (oJ _),zP,gZ (by omega)];unfold Qc;have hz:zE (2*l.length) (0:Int)=(l.take 0).flatMap two++(zE (2*l.length) 0).drop 0:=by simp
 rw[hz];refine jV (N:=l.length) (mk:=fun i=>(l,zF l.length,(i:Int),(l.take i).flatMap two++(zE (2*l.length) 0).drop (2*i))) ?_ ?_ l.length 0 _ (by omega) (by omega)
 ·intro self i hi
  show Qb _ l (zF l.length) (i:Int) ((l.take i).flatMap two++(zE (2*l.length) 0).drop (2*i))=self (l,zF l.length,((i+1:Nat):Int),(l.take (i+1)).flatMap two++(zE (2*l.length) 0).drop (2*(i+1)));obtain⟨x,hx⟩:=iO (xs:=l) (i:=i) (by omega);have lp:((l.take i).flatMap two).length=2*i:=by grind[yu,kA]
  have ed:(zE (2*l.length) (0:Int)).drop (2*i)=0::0::(zE (2*l.length) 0).drop (2*(i+1)):=by rw[List.drop_replicate,List.drop_replicate,show 2*l.length - 2*i=(2*l.length - 2*(i+1))+1+1 by omega];rfl
  have ei:(l.take (i+1)).flatMap two=(l.take i).flatMap two++two x:=by simp_all[List.take_add_one,alC]
  rw[ed,ei];unfold Qb;have m2:mul .i64 2 (i:Int)=((2*i:Nat):Int):=by grind[kZ]
  have m3:add .i64 ((2*i:Nat):Int) 1=((2*i+1:Nat):Int):=gJ (by omega);generalize (l.take i).flatMap two=p at *;generalize (zE (2*l.length) (0:Int)).drop (2*(i+1))=q at *;have g1:at? (p++0::0::q) ((2*i:Nat):Int)=some 0:=d9 (by simp_all);have s1:∀y:Int,(p++0::0::q).set (2*i) y=p++y::0::q:=fun y=>by simp_all
  have g2:∀y:Int,at? (p++y::0::q) ((2*i+1:Nat):Int)=some 0:=fun y=>d9 (by simp_all);have s2:∀y z:Int,(p++y::0::q).set (2*i+1) z=p++y::z::q:=fun y z=>by simp_all
  rw[if_pos (by grind[cr,bu]),d9 hx,zD,zD,m2,g1,zD,zD,m3,zP,zP,s1,g2,zD,zD,s2,gJ (by omega),jU,jU,ajH _ _ (by decide),List.append_assoc];rfl
 simp_all[Qb,zF,Int,two,zE,if_neg,cr,bu,List.take_length,List.drop_eq_nil_of_le]
def Bv(l:List Int):Int:=JY ((l.flatMap two).foldl uD 4294967295)
theorem T4{l:List Int}(h:l.length≤100000):LA (l,())=some (Bv l,()):=by show Z7 l=_;unfold Z7;rw[T3 h,zD];dsimp only;rw[alB (by grind[yu])];rfl
def sI(l:List fq):Int:=Bv (l.flatMap itB)
theorem ay0{l:List fq}(h:l.length≤1000)(hw:∀b∈l,b.2.length≤1000):LB (l,())=some (sI l,()):=by
 show Qd l (zF l.length) 0 []=_;unfold Qd;have K2:∀all:List Int,all.length≤100000->aae all=some (Bv all,()):=fun all ha=>by show aad all=_;grind[aad,T4]
 have hn:l.flatMap itB=[]++l.flatMap itB:=rfl;unfold sI;rw[hn,<- kQ];refine (nX (xs:=l) (mk:=fun i acc=>(l,zF l.length,(i:Int),acc)) (stp:=fun o x=>o++itB x) (fin:=fun acc=>some (Bv acc,())) (fun i acc=>acc.length=16*i) ?_ ?_ ?_ l.length 0 [] _ (by omega) (by omega) rfl)
 ·intro self i acc x hx ha
  have hi:=(List.getElem?_eq_some_iff.1 hx).1;show G9 _ _ l (zF l.length) (i:Int) acc=_;unfold G9;rw[if_pos (by grind[cr,bu]),d9 hx,zD,Bu (hw x (zX hx)),zD,gZ (by grind[oL]),gJ (by omega)]
 ·grind[zY,oL]
 ·intro self acc ha
  show G9 _ _ l (zF l.length) (l.length:Int) acc=_;unfold G9;rw[if_neg (by grind[cr,bu]),K2 _ (by omega)]
def lZ(hv:List Bool)(n:Int):Bool:=decide (∀i:Nat,i<8->hv.getD i false=decide ((i:Int)<n))
theorem alD{s:jH}{n c:Int}(hh:s.2.1.length=8)(hb:s.2.2.length=8)(hw:∀b∈s.2.2,b.2.length≤1000) :
  aam (s,n,c,())=some (decide (0≤n∧n≤8) && (lZ s.2.1 n && decide (sI (gQ s.2.1 s.2.2)=c)),()):=by
 have hblk:=oM hh hb hw;obtain⟨st,hv,bs⟩:=s;dsimp only at hh hb hw hblk ⊢;show aak aal (st,hv,bs) n c=_;unfold aak;have K1t:aal n c (st,hv,bs) true=some (false,()):=rfl;by_cases h0:n<0
 ·simp_all[if_pos,cr,decide_eq_false]
 ·rw[if_neg (fun e=>h0 (cr.1 e))]
  by_cases h8:8<n
  ·grind[iD,decide_eq_false]
  ·rw[Bn,decide_eq_false h8,decide_eq_true (show 0≤n∧n≤8 by omega),Bool.true_and]
   show Qg n c (st,hv,bs) hv 0=_;have K3:Ay c (st,hv,bs)=some (decide (sI (gQ hv bs)=c),()):=by show aaj c (st,hv,bs)=_;unfold aaj;rw[hblk,zD];dsimp only;rw[ay0 (by grind[qb]) (fun b hb=>hw b (uz hb)),zD];rfl
   unfold Qg
   have hg:∀k i m:Nat,i+k=8->k<m->ay (fun (self:Int×Int×jH×List Bool×Int->Option (As [.bool])) (s:Int×Int×jH×List Bool×Int)=>DJ Ay (fun count check s t16 t17=>self (count,check,s,t16,t17)) s.1 s.2.1 s.2.2.1 s.2.2.2.1 s.2.2.2.2) m (n,c,(st,hv,bs),hv,(i:Int))=some (decide (∀j:Nat,j<8->i≤j->hv.getD j false=decide ((j:Int)<n)) && decide (sI (gQ hv bs)=c),()):=by
    intro k
    induction k with
    | zero =>
     intro i m hi hm;obtain⟨m,rfl⟩:∃q,m=q+1:=⟨m - 1,by omega⟩;have:i=8:=by omega
     subst this;rw[kP];show DJ Ay _ n c (st,hv,bs) hv (8:Int)=_;unfold DJ;rw[if_neg (by decide),K3,decide_eq_true (p:=∀j:Nat,j<8->8≤j->hv.getD j false=decide ((j:Int)<n)) (fun j h1 h2=>by omega),Bool.true_and]
    | succ k ih =>
     intro i m hi hm;obtain⟨m,rfl⟩:∃q,m=q+1:=⟨m - 1,by omega⟩;have l8:lt (i:Int) 8=true:=cr.2 (by omega);obtain⟨x,hx⟩:=iO (xs:=hv) (i:=i) (by omega);have gx:hv.getD i false=x:=by simp_all
     rw[kP];show DJ Ay _ n c (st,hv,bs) hv (i:Int)=_;have u:∀f,DJ Ay f n c (st,hv,bs) hv (i:Int)=if lt (i:Int) 8=true then need (lt (i:Int) 8) (zC (at? hv (i:Int)) fun y=>if neb y (lt (i:Int) n)=true then some (false,()) else f n c (st,hv,bs) hv (add .i64 (i:Int) 1)) else Ay c (st,hv,bs):=fun f=>rfl;rw[u,if_pos l8,gy l8,d9 hx,zD,rM];by_cases he:x=decide ((i:Int)<n)
     ·rw[if_neg (by rw[<- he];cases x<;>decide),gJ (by omega),ih (i+1) m (by omega) (by omega)]
      refine congrArg (fun b=>some (b && _,())) ?_;grind
     ·rw[if_pos (by revert he;cases x<;>cases decide ((i:Int)<n)<;>decide),decide_eq_false (fun h=>he (by rw[<- gx];grind))]
      rfl
   have:=hg 8 0 18446744073709551616 rfl (by omega);refine this.trans ?_;refine congrArg (fun b=>some (b && _,())) ?_;unfold lZ;simp
def yH(b:List Int)(x:fq):List Int:=b.take x.1.toNat++x.2++b.drop (x.1.toNat+x.2.length)
theorem Kw{b:List Int}{x:fq}(h:b.length=64)(hf:fitsB x=true):(yH b x).length=64:=by have:=of_decide_eq_true hf;grind[yH,zY,kA,List.length_drop]
def jI(b:List Int)(l:List fq):List Int:=l.foldl yH b
theorem uV:∀{l:List fq} {b:List Int},b.length=64->(∀x∈l,fitsB x=true)->(jI b l).length=64
 | [],_,h,_=>h
 | x::r,b,h,hf=>uV (l:=r) (Kw h (hf x (List.mem_cons_self ..))) (fun y hy=>hf y (zS _ hy))
theorem alE{b:List Int}{x:fq}{P:Int->Prop}(hb:∀y∈b,P y)(hx:∀y∈x.2,P y):∀y∈yH b x,P y:=by grind[yH,List.mem_of_mem_take,List.mem_of_mem_drop]
theorem Ky{P:Int->Prop}:∀{l:List fq} {b:List Int},(∀y∈b,P y)->(∀x∈l,∀y∈x.2,P y)->∀y∈jI b l,P y
 | [],_,h,_=>h
 | x::r,b,h,hf=>Ky (l:=r) (alE h (hf x (List.mem_cons_self ..))) (fun y hy=>hf y (zS _ hy))
theorem ay1{l:List fq}(hl:l.length≤1000000)(hf:∀x∈l,fitsB x=true):LD (l,())=some (true,()):=by
 have hi:apt (l,())=some (-1,()):=by
  show Qi l (zF l.length) 0=_;unfold Qi;refine jV (N:=l.length) (mk:=fun i=>(l,zF l.length,(i:Int))) ?_ ?_ l.length 0 _ (by omega) (by omega)
  ·intro self i hi
   obtain⟨x,hx⟩:=iO (xs:=l) (i:=i) hi;have hfx:=hf x (zX hx);have h2:=of_decide_eq_true hfx;have hz:LC (x,())=some (false,()):=by show apn x=_;grind[apn,uy]
   show Qh _ l (zF l.length) (i:Int)=_;unfold Qh;rw[if_pos (by grind[cr,bu]),d9 hx,zD,hz,zD,if_neg (by decide),gJ (by omega)]
  simp_all[Qh,zF,Int,if_neg,cr,bu]
 have hc:apv (l,())=some (false,()):=by show apu l=_;unfold apu;rw[hi];rfl
 show aat l=_;simp_all[aat]
theorem yI{s:List Int}(h:s.length≤1000000):Dh (s,())=some (s,()):=by
 show anp s=_;unfold anp;by_cases h0:s.length=0
 ·have:s=[]:=List.eq_nil_of_length_eq_zero h0
  subst this;rfl
 ·rw[if_neg (by grind[au,bu]),gZ (by omega)]
theorem atc{b:List Int}{l:List fq}(hb:b.length=64)(hl:l.length≤1000000)(hf:∀x∈l,fitsB x=true):aaz (b,l,())=some (jI b l,0,()):=by
 show aay Hg b l=_;unfold aay;rw[if_neg (fun e=>cu.1 e (by simp_all)),ay1 hl hf,zD,if_neg (by decide),yI (by omega),zD];show Hg l (zF l.length) 0 b=_;unfold Hg;refine (nX (xs:=l) (mk:=fun i acc=>(l,zF l.length,(i:Int),acc)) (stp:=yH) (fin:=fun acc=>some (acc,0,())) (fun i acc=>acc.length=64) ?_ ?_ ?_ l.length 0 b _ (by omega) (by omega) hb)
 ·intro self i acc x hx ha
  have hi:=(List.getElem?_eq_some_iff.1 hx).1;have h2:=of_decide_eq_true (hf x (zX hx));show Hf _ _ l (zF l.length) (i:Int) acc=_;unfold Hf;rw[if_pos (by grind[cr,bu]),d9 hx,zD,gy (gU.2 (by omega)),gy (gT.2 (by grind)),gy (gT.2 (Int.le_refl _)),gy (gT.2 (by omega)),gJ (by omega)];have e:x.2.take (zI (zF acc.length - x.1))=x.2:=List.take_of_length_le (by grind);rw[e];rfl
 ·grind[Kw,zX]
 ·intro self acc ha
  show Hf _ _ l (zF l.length) (l.length:Int) acc=_;unfold Hf;rw[if_neg (by grind[cr,bu])];rfl
structure OkG(a:TAg):Prop where
 bl:a.1.length=64
 bw:∀x∈a.1,0≤x∧x≤65535
 lr:jq a.2.1
 l1:0≤a.2.1.1∧a.2.1.1≤65535
 l2:a.2.1.2≤9223372036854775807
 pr:0≤a.2.2.1∧a.2.2.1≤2
 tr:0≤a.2.2.2.1∧a.2.2.2.1≤4294967295
 ar:0≤a.2.2.2.2.1∧a.2.2.2.2.1≤4294967295
 kr:1≤a.2.2.2.2.2.2∧a.2.2.2.2.2.2≤9223372036854775807
 hl:a.2.2.2.2.2.1.2.1.length=8
 sl:a.2.2.2.2.2.1.2.2.length=8
 bb:∀b∈a.2.2.2.2.2.1.2.2,b.2.length≤1000
 wb:∀b∈a.2.2.2.2.2.1.2.2,∀w∈b.2,0≤w∧w≤65535
 fb:∀b∈gQ a.2.2.2.2.2.1.2.1 a.2.2.2.2.2.1.2.2,fitsB b=true
 p0:a.2.2.1=0->a.2.1.1=0∧a.2.2.2.1=0∧a.2.2.2.2.2.1.1=0∧a.2.2.2.2.2.1.2.1.count true=0
 pn:a.2.2.1≠0->a.2.1.1≠0∧a.2.2.2.2.1<a.2.2.2.1∧a.2.2.2.2.2.1.1=a.2.2.2.1
 p1:a.2.2.1=1->1≤a.2.1.2
 p2:a.2.2.1=2->a.2.1.2=-1∧lZ a.2.2.2.2.2.1.2.1 ((a.2.2.2.2.2.1.2.1.count true:Nat):Int)=true
theorem OkG.sz{a:TAg}(h:OkG a):SzA a:=⟨by have:=h.bl;omega,h.hl,h.sl,h.bb⟩
theorem wB:∀(hv:List Bool) (bs:List fq),gQ hv (nzB hv bs)=gQ hv bs
 | [],_=>by rfl
 | _::_,[]=>by rfl
 | h::r,b::q=>by have ih:=wB r q;unfold gQ nzB at ih ⊢;rw[List.zipWith_cons_cons,List.zip_cons_cons,List.zip_cons_cons];grind
theorem alF:∀(hv:List Bool) (bs:List fq),nzB hv (nzB hv bs)=nzB hv bs
 | [],_=>by simp[nzB]
 | _::_,[]=>by simp[nzB]
 | h::r,b::q=>by have ih:=alF r q;unfold nzB at ih ⊢;rw[List.zipWith_cons_cons,List.zipWith_cons_cons,ih];cases h<;>rfl
theorem Cn{hv:List Bool}{bs:List fq}{P:fq->Prop}(hz:P zB)(hp:∀b∈bs,P b):∀b∈nzB hv bs,P b:=by grind[nzB,List.getElem?_of_mem,zX]
theorem OkG.own{a:TAg}(h:OkG a):OkG (gz a):=by
 obtain⟨bk,ls,ph,tx,la,⟨st,hv,bs⟩,tk⟩:=a
 exact { h with
  sl:=oK h.hl h.sl
  bb:=Cn (P:=fun b=>b.2.length≤1000) (by show (0:Nat)≤1000;omega) h.bb
  wb:=Cn (P:=fun b=>∀w∈b.2,0≤w∧w≤65535) (by intro w hw;cases hw) h.wb
  fb:=by have:=h.fb;show ∀b∈gQ hv (nzB hv bs),_;simp_all[wB] }
def mQ(a:TAg):TAg:=(a.1,(0,0),0,0,a.2.2.2.2.1,zSt,a.2.2.2.2.2.2)
def rQ(a:TAg)(n c:Int):Bool:=decide (0≤n∧n≤8) && (lZ a.2.2.2.2.2.1.2.1 n && decide (sI (gQ a.2.2.2.2.2.1.2.1 a.2.2.2.2.2.1.2.2)=c))
def doS(a:TAg)(c:TCm):TAg×Int :=
 if c.1=0∨c.2.2.1=0∨¬ (1≤c.2.1∧c.2.1≤4) then (a,2)
 else if a.2.1.1≠0∧a.2.1.1≠c.1 then (a,22)
 else if c.2.1=1 then
  if c.2.2.1≤a.2.2.2.2.1∨a.2.2.1≠0∧c.2.2.1<a.2.2.2.1 then (a,23)
  else if c.2.2.1=a.2.2.2.1 then ((a.1,jP a.2.1 c.1 a.2.2.2.2.2.2,a.2.2),0)
  else ((a.1,(c.1,a.2.2.2.2.2.2),1,c.2.2.1,a.2.2.2.2.1,(c.2.2.1,zSt.2),a.2.2.2.2.2.2),0)
 else if c.2.1=2 then
  if a.2.2.1=2∧a.2.2.2.1=c.2.2.1∨a.2.2.1=1∧a.2.2.2.1=c.2.2.1∧rQ a c.2.2.2.1 c.2.2.2.2=true then ((a.1,(c.1,-1),2,a.2.2.2),0)
  else (a,23)
 else if c.2.1=3 then
  if a.2.2.2.2.1=c.2.2.1 then (a,0)
  else if a.2.2.1=2∧a.2.2.2.1=c.2.2.1 then (mQ (jI a.1 (gQ a.2.2.2.2.2.1.2.1 a.2.2.2.2.2.1.2.2),a.2.1,a.2.2.1,a.2.2.2.1,c.2.2.1,a.2.2.2.2.2),0)
  else (a,23)
 else
  if c.2.2.1≤a.2.2.2.2.1 then (a,23) else if a.2.1.1=c.1∧a.2.2.2.1=c.2.2.1 then (mQ a,0) else (a,0)
theorem uW(a:TAg):Av (a,())=some (mQ a,()):=rfl
theorem Fx(a:TAg)(p t:Int):xR (a,p,t,())=some (decide (a.2.2.1=p∧a.2.2.2.1=t),()):=by
 show ZQ a p t=_;unfold ZQ;by_cases h:a.2.2.1=p
 ·rw[if_pos (au.2 h)]
  refine congrArg (fun b=>some (b,())) ?_;rw[Bool.eq_iff_iff,au,decide_eq_true_eq];omega
 simp_all[if_neg,au,decide_eq_false]
theorem Fy{a:TAg}(h:jq a.2.1)(o:Int):rZ (a,o,())=some (decide (a.2.1.1≠0∧a.2.1.1≠o),()):=by
 show ao2 a o=_;unfold ao2;rw[qV h,zD];by_cases h0:a.2.1.1=0
 ·simp_all
 ·rw[decide_eq_false h0,if_pos (by rfl)]
  refine congrArg (fun b=>some (b,())) ?_;rw[Bool.eq_iff_iff,cu,decide_eq_true_eq];omega
theorem Bw{a:TAg}{o:Int}(h:jq a.2.1)(ho:o≠0)(ht:1≤a.2.2.2.2.2.2)(hf:a.2.1.1=0∨a.2.1.1=o):DI (a,o,())=some ((a.1,jP a.2.1 o a.2.2.2.2.2.2,a.2.2),()):=by show ao7 a o=_;grind[ao7,as6]
set_option maxHeartbeats 1000000 in
theorem aBa{a:TAg}(h:OkG a){c:TCm}(hc:0≤c.2.2.2.1∧c.2.2.2.1≤65535):xS (a,c,())=some ((doS (gz a) c).1,(doS (gz a) c).2,()):=by
 show aaH a c=_;unfold aaH;have h':=h.own;rw[Cm h.sz,zD,vN (eqAs_refl _)];dsimp only;generalize gz a=g at h';obtain⟨co,cv,ct,cc,ck⟩:=c;dsimp only at hc ⊢;have lr:=h'.lr;have kr:=h'.kr;rw[Fy lr,zD];unfold doS;dsimp only;by_cases hq:co=0∨ct=0∨¬ (1≤cv∧cv≤4)
 ·rw[if_pos hq]
  simp only[au];by_cases h1:co=0
  ·simp[h1]
  ·by_cases h2:ct=0
   ·simp[h1,h2]
   ·have hv:¬ (1≤cv∧cv≤4):=by omega
    rw[if_neg (by omega),if_neg (by omega),if_neg (by omega),if_neg (by omega),if_neg h1,if_neg h2]
 ·rw[if_neg hq]
  have h1:co≠0:=by omega
  have h2:ct≠0:=by omega
  have hv:1≤cv∧cv≤4:=by omega
  simp only[au,if_neg h1,if_neg h2];by_cases ho:g.2.1.1≠0∧g.2.1.1≠co
  ·rw[if_pos ho,decide_eq_true ho]
   simp only[if_true];split<;>first | rfl | skip
   split<;>first | rfl | skip
   split<;>first | rfl | skip
   split<;>first | rfl | skip
   omega
  ·rw[if_neg ho,decide_eq_false ho]
   simp only[Bool.false_eq_true,if_false];have hf:g.2.1.1=0∨g.2.1.1=co:=by omega
   by_cases v1:cv=1
   ·subst v1
    rw[if_pos rfl,if_pos rfl]
    have hn:ZG (g,(co,1,ct,cc,ck),())=some (decide (ct≤g.2.2.2.2.1∨g.2.2.1≠0∧ct<g.2.2.2.1),()):=by
     show ao3 g (co,1,ct,cc,ck)=_;unfold ao3;dsimp only;by_cases q1:ct≤g.2.2.2.2.1
     ·rw[if_pos (gT.2 q1),decide_eq_true (Or.inl q1)]
     ·rw[if_neg (fun e=>q1 (gT.1 e))]
      by_cases q2:g.2.2.1=0
      ·rw[if_neg (fun e=>cu.1 e q2),decide_eq_false (by omega)]
      ·rw[if_pos (cu.2 q2),rM]
       refine congrArg (fun b=>some (b,())) ?_;rw[Bool.eq_iff_iff,decide_eq_true_eq,decide_eq_true_eq];omega
    rw[hn,zD];by_cases q:ct≤g.2.2.2.2.1∨g.2.2.1≠0∧ct<g.2.2.2.1
    ·rw[if_pos q,decide_eq_true q]
     rfl
    ·rw[if_neg q,decide_eq_false q,if_neg (by decide)]
     have hcl:Ls (g,(co,1,ct,cc,ck),())=some (if ct=g.2.2.2.1 then (g.1,jP g.2.1 co g.2.2.2.2.2.2,g.2.2) else (g.1,(co,g.2.2.2.2.2.2),1,ct,g.2.2.2.2.1,(ct,zSt.2),g.2.2.2.2.2.2),()):=by
      show ZP g (co,1,ct,cc,ck)=_;unfold ZP;dsimp only;by_cases e:ct=g.2.2.2.1
      ·rw[if_pos (au.2 e),if_pos e,Bw lr h1 kr.1 hf]
       rfl
      ·rw[if_neg (fun x=>e (au.1 x)),if_neg e,uW,zD]
       have:=Bw (a:=mQ g) (o:=co) (Or.inl ⟨rfl,rfl⟩) h1 kr.1 (Or.inl rfl);dsimp only;rw[this];have et:jP (0,0) co (mQ g).2.2.2.2.2.2=(co,g.2.2.2.2.2.2):=by unfold jP;rw[if_neg (fun x=>h1 (by cases x))];rfl
       show some ((g.1,jP (0,0) co (mQ g).2.2.2.2.2.2,1,ct,g.2.2.2.2.1,(ct,zSt.2),g.2.2.2.2.2.2),())=_;rw[et]
     rw[hcl,zD];split<;>rfl
   ·rw[if_neg (Ne.symm v1),if_neg v1]
    by_cases v2:cv=2
    ·subst v2
     rw[if_pos rfl,if_pos rfl]
     have hn:aan (g,(co,2,ct,cc,ck),())=some (decide (¬ (g.2.2.1=2∧g.2.2.2.1=ct∨g.2.2.1=1∧g.2.2.2.1=ct∧rQ g cc ck=true)),()):=by
      show apk g (co,2,ct,cc,ck)=_;unfold apk;dsimp only;rw[Fx,zD];by_cases q1:g.2.2.1=2∧g.2.2.2.1=ct
      ·rw[decide_eq_true q1,if_pos rfl,decide_eq_false (fun e=>e (Or.inl q1))]
      ·rw[decide_eq_false q1,if_neg (by decide),Fx,zD]
       by_cases q2:g.2.2.1=1∧g.2.2.2.1=ct
       ·rw[decide_eq_true q2,if_neg (by decide),gM (by omega) (by omega),alD h'.hl h'.sl h'.bb,zD]
        refine congrArg (fun b=>some (b,())) ?_;show (!rQ g cc ck)=_
        cases hw:rQ g cc ck with
        | true=>rw[decide_eq_false (fun e=>e (Or.inr ⟨q2.1,q2.2,rfl⟩))];rfl
        | false=>rw[decide_eq_true (by rintro (e | e);exact q1 e;exact Bool.false_ne_true e.2.2)];rfl
       ·rw[decide_eq_false q2,if_pos (by rfl),decide_eq_true (by rintro (e | e);exact q1 e;exact q2 ⟨e.1,e.2.1⟩)]
     rw[hn,zD];by_cases q:g.2.2.1=2∧g.2.2.2.1=ct∨g.2.2.1=1∧g.2.2.2.1=ct∧rQ g cc ck=true
     ·rw[if_pos q,decide_eq_false (fun e=>e q),if_neg (by decide)]
      have hph:g.2.2.1≠0:=by rcases q with q | q<;>omega
      have hown:g.2.1.1=co:=by have:=(h'.pn hph).1;omega
      have hp:aaq (g,(co,2,ct,cc,ck),())=some ((g.1,(co,-1),2,g.2.2.2),()):=by show apl g (co,2,ct,cc,ck)=_;unfold apl;dsimp only;rw[as7 lr h1 hown];rfl
      rw[hp];rfl
     ·rw[if_neg q,decide_eq_true q]
      rfl
    ·rw[if_neg (Ne.symm v2),if_neg v2]
     by_cases v3:cv=3
     ·subst v3
      rw[if_pos rfl,if_pos rfl]
      have hn:aar (g,(co,3,ct,cc,ck),())=some (decide (g.2.2.2.2.1≠ct∧¬ (g.2.2.1=2∧g.2.2.2.1=ct)),()):=by
       show apm g (co,3,ct,cc,ck)=_;unfold apm;dsimp only;by_cases q1:g.2.2.2.2.1=ct
       ·rw[if_neg (fun e=>cu.1 e q1),decide_eq_false (fun e=>e.1 q1)]
       ·rw[if_pos (cu.2 q1),Fx,zD]
        refine congrArg (fun b=>some (b,())) ?_;by_cases q2:g.2.2.1=2∧g.2.2.2.1=ct
        ·rw[decide_eq_true q2,decide_eq_false (fun e=>e.2 q2)];rfl
        ·rw[decide_eq_false q2,decide_eq_true ⟨q1,q2⟩];rfl
      rw[hn,zD]
      have hcm:g.2.2.2.2.1=ct∨(g.2.2.1=2∧g.2.2.2.1=ct)->aaA (g,(co,3,ct,cc,ck),())=some (if g.2.2.2.2.1=ct then g else mQ (jI g.1 (gQ g.2.2.2.2.2.1.2.1 g.2.2.2.2.2.1.2.2),g.2.1,g.2.2.1,g.2.2.2.1,ct,g.2.2.2.2.2),()):=fun _=>by
       show apx g (co,3,ct,cc,ck)=_;unfold apx;dsimp only;by_cases q1:g.2.2.2.2.1=ct
       ·rw[if_pos (au.2 q1),if_pos q1]
       ·rw[if_neg (fun e=>q1 (au.1 e)),if_neg q1,oM h'.hl h'.sl h'.bb,zD]
        dsimp only;rw[atc h'.bl (by have:=qb (hv:=g.2.2.2.2.2.1.2.1) (bs:=g.2.2.2.2.2.1.2.2);have:=h'.hl;omega) h'.fb,zD];dsimp only;rw[if_neg (by decide),uW];rfl
      by_cases q1:g.2.2.2.2.1=ct
      ·rw[decide_eq_false (fun e=>e.1 q1),if_neg (by decide),hcm (Or.inl q1),if_pos q1,if_pos q1]
       rfl
      ·by_cases q2:g.2.2.1=2∧g.2.2.2.1=ct
       ·rw[decide_eq_false (fun e=>e.2 q2),if_neg (by decide),hcm (Or.inr q2),if_neg q1,if_neg q1,if_pos q2]
        rfl
       ·rw[decide_eq_true ⟨q1,q2⟩,if_neg q1,if_neg q2]
        rfl
     ·have v4:cv=4:=by omega
      subst v4;rw[if_neg (by decide),if_pos rfl,if_neg v3];have hn:aaB (g,(co,4,ct,cc,ck),())=some (decide (ct≤g.2.2.2.2.1),()):=rfl;rw[hn,zD];by_cases q1:ct≤g.2.2.2.2.1
      ·rw[decide_eq_true q1,if_pos q1]
       rfl
      ·rw[decide_eq_false q1,if_neg (by decide),if_neg q1]
       have ha:aaF (g,(co,4,ct,cc,ck),())=some (if g.2.1.1=co∧g.2.2.2.1=ct then mQ g else g,()):=by
        show aaD aaE g (co,4,ct,cc,ck)=_;unfold aaD;dsimp only;have K:∀b z,aaE g 0 b [z]=some (if b=true then g else mQ g,()):=fun b z=>by show aaC g 0 b [z]=_;unfold aaC;cases b<;>rfl
        by_cases e1:g.2.1.1=co
        ·rw[if_neg (fun e=>cu.1 e e1),K]
         by_cases e2:g.2.2.2.1=ct
         ·rw[if_neg (fun e=>cu.1 e e2),if_pos ⟨e1,e2⟩]
         ·rw[if_pos (cu.2 e2),if_neg (fun e=>e2 e.2)]
        ·rw[if_pos (cu.2 e1),K,if_pos rfl,if_neg (fun e=>e1 e.1)]
       rw[ha,zD];by_cases e:g.2.1.1=co∧g.2.2.2.1=ct
       ·rw[if_pos e,if_pos e]
        rfl
       ·rw[if_neg e,if_neg e]
        rfl
def putA(a:TAg)(o t n:Int)(x:fq):TAg×Int :=
 if o=0∨t=0 then (a,2) else if a.2.1.1≠0∧a.2.1.1≠o then (a,22) else if ¬ (a.2.2.1=1∧a.2.2.2.1=t) then (a,23)
 else ((a.1,jP a.2.1 o a.2.2.2.2.2.2,a.2.2.1,a.2.2.2.1,a.2.2.2.2.1,Es a.2.2.2.2.2.1 n.toNat x,a.2.2.2.2.2.2),0)
theorem ay2{a:TAg}(h:OkG a){o t n:Int}{x:fq}(hn:0≤n∧n≤7)(hf:fitsB x=true):xU (a,o,t,n,x,())=some ((putA (gz a) o t n x).1,(putA (gz a) o t n x).2,()):=by
 show aaT aaU a o t n x=_;unfold aaT;have h':=h.own;rw[Cm h.sz,zD];dsimp only;generalize gz a=g at h';have lr:=h'.lr;have kr:=h'.kr;have hx:x.2.length≤1000:=by have:=of_decide_eq_true hf;omega
 have K:∀b z,aaU o t n 0 0 b [g] x [z]=some (if b=true then (g,2,()) else ((putA g o t n x).1,(putA g o t n x).2,()))∨¬ (b=true↔(o=0∨t=0)):=fun b z=>by
  by_cases hb:b=true↔(o=0∨t=0)
  ·left
   show aaS o t n 0 0 b [g] x [z]=_;unfold aaS
   cases b with
   | true=>rfl
   | false =>
    rw[if_neg (by decide),if_neg (by decide)];have h0:¬ (o=0∨t=0):=fun e=>Bool.false_ne_true (hb.2 e);unfold putA;rw[if_neg h0];rw[kI,zD,Fy lr,zD];by_cases q1:g.2.1.1≠0∧g.2.1.1≠o
    ·rw[decide_eq_true q1,if_pos q1]
     rfl
    ·rw[decide_eq_false q1,if_neg (by decide),if_neg q1,zD,Fx,zD]
     by_cases q2:g.2.2.1=1∧g.2.2.2.1=t
     ·rw[decide_eq_true q2,if_neg (by decide),if_neg (fun e=>e q2),zD,ayX h'.hl h'.sl h'.bb hx,if_pos hn,if_pos hf,zD]
      dsimp only;rw[if_neg (by decide),zD];have:=Bw (a:=(g.1,g.2.1,g.2.2.1,g.2.2.2.1,g.2.2.2.2.1,Es g.2.2.2.2.2.1 n.toNat x,g.2.2.2.2.2.2)) (o:=o) lr (by omega) kr.1 (by dsimp only;omega);show zC (DI ((g.1,g.2.1,g.2.2.1,g.2.2.2.1,g.2.2.2.2.1,Es g.2.2.2.2.2.1 n.toNat x,g.2.2.2.2.2.2),o,())) _=_;rw[this];rfl
     ·rw[decide_eq_false q2,if_pos (by rfl),if_pos q2]
      rfl
  ·exact Or.inr hb
 have p2:o=0∨t=0->putA g o t n x=(g,2):=fun e=>if_pos e;by_cases ho:o=0
 ·rw[if_pos (au.2 ho)]
  rcases K true _ with e | e
  ·rw[e,if_pos rfl,p2 (Or.inl ho)]
  ·exact absurd ⟨fun _=>Or.inl ho,fun _=>rfl⟩ e
 ·rw[if_neg (fun e=>ho (au.1 e))]
  rcases K (eqi t 0) ([],(0,0),0,0,0,zSt,0) with e | e
  ·refine e.trans ?_
   by_cases ht:t=0
   ·rw[if_pos (au.2 ht),p2 (Or.inr ht)]
   ·rw[if_neg (fun e=>ht (au.1 e))]
  ·exact absurd ⟨fun x=>Or.inr (au.1 x),fun x=>au.2 (x.resolve_left ho)⟩ e
def tickA(a:TAg):TAg:=if (yG a.2.1).2=true then mQ a else (a.1,(yG a.2.1).1,a.2.2)
theorem atd{a:TAg}(h:OkG a):acI (a,())=some (tickA (gz a),()):=by show acH a=_;unfold acH tickA;have h':=h.own;rw[Cm h.sz,zD,as8 h'.lr h'.l2,zD,uW];grind
def bootA(a:TAg):TAg:=if a.2.2.1=1 then mQ a else a
theorem ate{a:TAg}(h:OkG a):acL (a,())=some (bootA (gz a),()):=by
 show acK a=_;unfold acK bootA;rw[Cm h.sz,zD,uW];by_cases e:(gz a).2.2.1=1
 ·simp_all[if_pos,au]
 simp_all[if_neg,au]
def gD(a:TAg):List Int:=[a.2.1.1,a.2.2.1,a.2.2.2.1 / 65536,a.2.2.2.1%65536,a.2.2.2.2.1 / 65536,a.2.2.2.2.1%65536,((a.2.2.2.2.2.1.2.1.count true:Nat):Int),0]
theorem aj7{a:TAg}(h:OkG a):iw (a,())=some (gD a,()):=by
 obtain⟨bk,ls,ph,tx,la,⟨st,hv,bs⟩,tk⟩:=a;have lr:=h.lr;have pr:=h.pr;have tr:=h.tr;have ar:=h.ar;have hl:=h.hl;dsimp only at lr pr tr ar hl;show YO YP (bk,ls,ph,tx,la,(st,hv,bs),tk)=_;unfold YO;have hc:hv.count true≤8:=by have:=List.count_le_length (a:=true) (l:=hv);omega
 have K:∀o,YP (bk,ls,ph,tx,la,(st,hv,bs),tk) o=some ([o,ph,tx / 65536,tx%65536,la / 65536,la%65536,((hv.count true:Nat):Int),0],()):=fun o=>by show YN _ o=_;unfold YN;dsimp only;rw[parts_eq tr.1 tr.2,zD,parts_eq ar.1 ar.2,zD,SN hl,zD,show cvt .u16 ph=ph from yj pr.1 (by omega),show cvt .u16 ((hv.count true:Nat):Int)=_ from yj (by omega) (by omega)]
 rw[qV lr,zD];dsimp only;by_cases e:ls.1=0
 ·rw[decide_eq_true e,if_pos rfl,K]
  unfold gD;dsimp only;rw[e]
 ·rw[decide_eq_false e,if_neg (by decide),K]
  rfl
def zAg(b:List Int)(t:Int):TAg:=(b,(0,0),0,0,0,zSt,t)
theorem UQ{b:List Int}{t:Int}(hb:b.length≤1000000):Ld (b,t,())=some (if b.length=64 then if 1≤t then (zAg b t,0,()) else (zAg [] 0,2,()) else (zAg [] 0,21,())):=by
 show WA b t=_;unfold WA;by_cases h:b.length=64
 ·rw[if_neg (fun e=>cu.1 e (by simp_all)),if_pos h]
  by_cases h1:1≤t
  ·rw[if_neg (fun e=>by grind[cr]),if_pos h1,pW hb]
   rfl
  ·rw[if_pos (cr.2 (by omega)),if_neg h1]
   rfl
 ·rw[if_pos (cu.2 (by grind)),if_neg h]
  rfl
theorem alG:gQ zSt.2.1 zSt.2.2=[]:=rfl
theorem Cq{bk:List Int}{la tk:Int}(bl:bk.length=64)(bw:∀x∈bk,0≤x∧x≤65535)(ar:0≤la∧la≤4294967295)(kr:1≤tk∧tk≤9223372036854775807):OkG (bk,(0,0),0,0,la,zSt,tk) where
 bl:=bl
 bw:=bw
 lr:=Or.inl ⟨rfl,rfl⟩
 l1:=⟨by simp,by simp⟩
 l2:=by simp
 pr:=⟨by simp,by simp⟩
 tr:=⟨by simp,by simp⟩
 ar:=ar
 kr:=kr
 hl:=rfl
 sl:=rfl
 bb:=by simp
 wb:=by simp
 fb:=fun b hb=>by simp_all[gQ,alG]
 p0:=fun _=>⟨rfl,rfl,rfl,rfl⟩
 pn:=fun e=>absurd rfl e
 p1:=fun e=>absurd e (by simp)
 p2:=fun e=>absurd e (by simp)
theorem OkG.free{a:TAg}(h:OkG a):OkG (mQ a):=Cq h.bl h.bw h.ar h.kr
theorem OkG.doS{a:TAg}(h:OkG a){c:TCm}(h1:0≤c.1∧c.1≤65535)(h3:0≤c.2.2.1∧c.2.2.1≤4294967295)(hc:0≤c.2.2.2.1∧c.2.2.2.1≤65535):OkG (doS a c).1:=by
 unfold Lx.doS;split
 ·exact h
 ·rename_i q0
  split
  ·exact h
  ·rename_i q1
   split
   ·split
    ·exact h
    ·rename_i q2
     split
     ·rename_i q3
      have hp:a.2.2.1≠0:=fun e=>by have:=(h.p0 e).2.1;omega
      have hn:=h.pn hp;have hown:a.2.1.1=c.1:=by omega
      have hph:a.2.2.1=1∨a.2.2.1=2:=by have:=h.pr;omega
      have hkr:=h.kr;rcases hph with e | e
      ·have ht:jP a.2.1 c.1 a.2.2.2.2.2.2=(c.1,a.2.2.2.2.2.2):=by unfold jP;rw[if_neg];intro x;have:=h.p1 e;simp_all
       rw[ht];exact { h with lr:=Or.inr ⟨by simp_all,Or.inl hkr.1⟩,l1:=h1,l2:=hkr.2,p0:=fun x=>absurd x hp,pn:=fun _=>⟨by simp_all,hn.2⟩,p1:=fun _=>hkr.1,p2:=fun x=>absurd (e.symm.trans x) (by decide) }
      ·have ht:jP a.2.1 c.1 a.2.2.2.2.2.2=a.2.1:=by unfold jP;rw[if_pos];exact Prod.ext hown (h.p2 e).1
       simp_all
     ·rename_i q3
      have hkr:=h.kr;have har:=h.ar;exact { Cq h.bl h.bw h.ar h.kr with lr:=Or.inr ⟨by simp_all,Or.inl hkr.1⟩,l1:=h1,l2:=hkr.2,pr:=⟨by simp,by simp⟩,tr:=h3,p0:=fun x=>absurd x (show (1:Int)≠0 by decide),pn:=fun _=>⟨by simp_all,by simp_all,rfl⟩,p1:=fun _=>hkr.1,p2:=fun x=>absurd x (show (1:Int)≠2 by decide) }
   ·split
    ·split
     ·rename_i q2
      have hp:a.2.2.1≠0:=fun e=>by omega
      have hn:=h.pn hp;refine { h with lr:=Or.inr ⟨by simp_all,Or.inr rfl⟩,l1:=h1,l2:=by simp,pr:=⟨by simp,by simp⟩,p0:=fun x=>absurd x (show (2:Int)≠0 by decide),pn:=fun _=>⟨by simp_all,hn.2⟩,p1:=fun x=>absurd x (show (2:Int)≠1 by decide),p2:=fun _=>⟨rfl,?_⟩ };rcases q2 with q2 | q2
      ·exact (h.p2 q2.1).2
      ·have hw:=q2.2.2
       unfold rQ at hw;rw[zO,zO,decide_eq_true_eq]at hw;have hf:=of_decide_eq_true hw.2.1;have hl:=h.hl
       have hcnt:((a.2.2.2.2.2.1.2.1.count true:Nat):Int)=c.2.2.2.1:=by
        obtain⟨n,hn'⟩:=zN hw.1.1;rw[hn']at hf ⊢;have hv8:a.2.2.2.2.2.1.2.1=(List.range 8).map (fun (i:Nat)=>decide ((i:Int)<(n:Int))):=by apply List.ext_getElem?;grind
        have hn8:n≤8:=by omega
        rw[hv8];have:n=0∨n=1∨n=2∨n=3∨n=4∨n=5∨n=6∨n=7∨n=8:=by omega
        rcases this with rfl | rfl | rfl | rfl | rfl | rfl | rfl | rfl | rfl<;>rfl
       simp_all
     omega
    ·split
     ·split
      ·exact h
      ·split
       ·exact Cq (uV h.bl h.fb) (Ky (P:=fun y=>0≤y∧y≤65535) h.bw (fun x hx=>h.wb x (uz hx))) h3 h.kr
       omega
     ·split
      ·exact h
      ·split
       ·exact h.free
       omega
theorem SS{α:Type}{P:α->Prop}{xs:List α}{k:Nat}{x:α}(h:∀y∈xs,P y)(hx:P x):∀y∈xs.set k x,P y:=fun y hy=>by grind
theorem SX{P:fq->Prop}{x:fq}(hx:P x):∀{hv:List Bool} {bs:List fq} (k:Nat),(∀b∈gQ hv bs,P b)->∀b∈gQ (hv.set k true) (bs.set k x),P b
 | [],bs,k,_=>by simp_all[gQ]
 | h::r,[],k,_=>by simp_all[gQ]
 | h::r,c::q,0,hp=>by intro b hb;rw[List.set_cons_zero,List.set_cons_zero]at hb;unfold gQ at hb hp;rw[List.zip_cons_cons,List.filter_cons,if_pos rfl,List.map_cons]at hb;grind[List.zip_cons_cons,zS]
 | h::r,c::q,k+1,hp=>by
  intro b hb;rw[List.set_cons_succ,List.set_cons_succ]at hb;have hr:∀b∈gQ r q,P b:=fun b hb=>hp b (by grind[gQ,List.zip_cons_cons,zS]);have ih:=SX hx k hr;unfold gQ at hb hp ih;rw[List.zip_cons_cons,List.filter_cons]at hb
  cases h with
  | true =>
   rw[if_pos rfl,List.map_cons]at hb;rcases List.mem_cons.1 hb with e | e
   ·simp_all
   simp_all
  | false=>simp_all
theorem OkG.putA{a:TAg}(h:OkG a){o t n:Int}{x:fq}(ho:0≤o∧o≤65535)(hf:fitsB x=true)(hw:∀w∈x.2,0≤w∧w≤65535):OkG (putA a o t n x).1:=by
 have hx:x.2.length≤1000:=by have:=of_decide_eq_true hf;omega
 unfold Lx.putA;split
 ·exact h
 ·rename_i q0
  split
  ·exact h
  ·rename_i q1
   split
   ·exact h
   ·rename_i q2
    have q2:=Classical.not_not.1 q2;have hkr:=h.kr;have hp:a.2.2.1≠0:=by omega
    have hn:=h.pn hp;have ht:jP a.2.1 o a.2.2.2.2.2.2=(o,a.2.2.2.2.2.2):=by unfold jP;rw[if_neg];intro e;have:=h.p1 q2.1;simp_all
    rw[ht];have hbs:∀b∈a.2.2.2.2.2.1.2.2.set n.toNat x,b.2.length≤1000:=SS (P:=fun (b:fq)=>b.2.length≤1000) h.bb hx;have hws:∀b∈a.2.2.2.2.2.1.2.2.set n.toNat x,∀w∈b.2,0≤w∧w≤65535:=SS (P:=fun (b:fq)=>∀w∈b.2,0≤w∧w≤65535) h.wb hw;have hhl:=h.hl;have hsl:=h.sl
    exact { h with
     lr:=Or.inr ⟨by simp_all,Or.inl hkr.1⟩
     l1:=ho
     l2:=hkr.2
     hl:=by show (a.2.2.2.2.2.1.2.1.set n.toNat true).length=8;simp_all
     sl:=oK (by simp_all) (by simp_all)
     bb:=Cn (P:=fun b=>b.2.length≤1000) (by show (0:Nat)≤1000;omega) hbs
     wb:=Cn (P:=fun b=>∀w∈b.2,0≤w∧w≤65535) (by intro w hw;cases hw) hws
     fb:=by show ∀b∈gQ (a.2.2.2.2.2.1.2.1.set n.toNat true) (nzB (a.2.2.2.2.2.1.2.1.set n.toNat true) (a.2.2.2.2.2.1.2.2.set n.toNat x)),fitsB b=true;rw[wB];exact SX hf _ h.fb
     p0:=fun e=>absurd e hp
     pn:=fun _=>⟨by simp_all,hn.2⟩
     p1:=fun _=>hkr.1
     p2:=fun e=>absurd (q2.1.symm.trans e) (by decide) }
theorem OkG.tickA{a:TAg}(h:OkG a):OkG (tickA a):=by
 unfold Lx.tickA yG;by_cases q0:a.2.1.1=0∨a.2.1.2=-1
 ·simp_all
 ·rw[if_neg q0]
  by_cases q1:a.2.1.2=1
  ·rw[if_pos q1,if_pos rfl]
   exact h.free
  ·rw[if_neg q1,if_neg (show ¬ ((a.2.1.1,a.2.1.2 - 1),false).2=true from Bool.false_ne_true)]
   have hl2:=h.l2;have lr:1≤a.2.1.2:=by have:=h.lr;simp_all[jq]
   have hp:a.2.2.1≠0:=fun e=>by have:=(h.p0 e).1;omega
   have hn:=h.pn hp
   exact { h with
    lr:=Or.inr ⟨hn.1,Or.inl (by grind)⟩
    l2:=by grind
    p0:=fun e=>absurd e hp
    pn:=fun _=>⟨hn.1,hn.2⟩
    p1:=fun _=>by grind
    p2:=fun e=>by have:=(h.p2 e).1;omega }
theorem OkG.bootA{a:TAg}(h:OkG a):OkG (bootA a):=by
 unfold Lx.bootA;split
 ·exact h.free
 omega
abbrev aBb:=List fo×List fo×List fo×List fo
theorem UR(f:Int):Gz (f,())=some ((if f=1 then (1,0) else if f=2 then (2,0) else if f=3 then (3,0) else if f=4 then (4,0) else if f=5 then (0,1) else if f=6 then (0,3) else if f=15 then (0,1) else if f=16 then (0,3) else if f=23 then (3,3) else (0,0)),()):=by show Yc f=_;unfold Yc;simp only[au,gdV];grind
def rdW(x:fo):Bool:=x.2.2.1
def wrW(p m:Int)(x:fo):Bool:=x.2.2.2.1 && (!x.2.2.2.2 || (decide (x.1=p) && decide (x.2.1=m)))
theorem zwb(p m:Int)(x:fo):xM (x,p,m,())=some (wrW p m x,p,m,()):=by
 obtain⟨a,b,c,d,e⟩:=x;show anL (a,b,c,d,e) p m=_;unfold anL wrW;dsimp only;cases d<;>cases e<;>try rfl
 rw[if_pos rfl,if_neg (by decide)];by_cases h:a=p
 ·rw[if_pos (au.2 h),decide_eq_true h];rfl
 simp_all[if_neg,au,decide_eq_false]
theorem zwu(p m:Int)(x:fo):Fa (x,p,m,())=some (wrW p m x,p,m,()):=by
 obtain⟨a,b,c,d,e⟩:=x;show anO (a,b,c,d,e) p m=_;unfold anO wrW;dsimp only;cases d<;>cases e<;>try rfl
 rw[if_pos rfl,if_neg (by decide)];by_cases h:a=p
 ·rw[if_pos (au.2 h),decide_eq_true h];rfl
 simp_all[if_neg,au,decide_eq_false]
section
variable {l:List fo}{p:Int}{m:Nat}(hp:0≤p)(hpm:p≤1000000)(hm:m≤1000000)(hl:l.length≤1000000)(ho:∀x∈l,sG x)
include hp hpm hm hl ho
theorem alH(c:List Bool):Du ((l,c),p,(m:Int),())=some (iG rdW l p m,()):=by show zC (Yn (l,p,(m:Int),())) _=_;rw[ajY hp hm hpm hl ho (w:=rdW) (fun _=>rfl)];rfl
theorem SY(c:List Int):Am ((l,c),p,(m:Int),())=some (iG rdW l p m,()):=by show zC (Yu (l,p,(m:Int),())) _=_;rw[aj0 hp hm hpm hl ho (w:=rdW) (fun _=>rfl)];rfl
theorem alI(c:List Bool):Dv ((l,c),p,(m:Int),())=some (iG (wrW p m) l p m,()):=by show zC (Yq (l,p,(m:Int),p,(m:Int),())) _=_;grind[aj2,wrW,zwb]
theorem S7(c:List Int):xN ((l,c),p,(m:Int),())=some (iG (wrW p m) l p m,()):=by show zC (Yy (l,p,(m:Int),p,(m:Int),())) _=_;grind[aj4,wrW,zwu]
end
theorem Kz{a:TA}(h:OkA a):Dm (a,())=some ((if a.1=23 then a.2.2.2.1 else a.2.1),((a.2.2.2.2.2.length+a.2.2.2.2.1.length:Nat):Int),()):=by have:=h.lw;have:=h.lb;have h0:=h.at0;have h1:=h.at1;have h2:=h.t0;have h3:=h.t1;show anK a=_;grind[anK,bu,lg,gM,au]
theorem lC{k:Int}{w h:Bool}{p:Int}{m:Nat}(hk:1≤k)(hp:0≤p)(hm:1≤m)(f:fo->Bool)(hf:f (0,k,true,w,h)=true):iG f [(0,k,true,w,h)] p m=decide (p+m≤k):=by
 have hw:∀i:Int,0≤i->jW f [(0,k,true,w,h)] i=decide (i<k):=fun i hi=>by
  unfold jW iB;rw[List.find?_cons,List.find?_nil];have:jN (0,k,true,w,h) i=decide (i<k):=by simp_all[jN,decide_eq_decide]
  grind
 unfold iG;rw[Bool.eq_iff_iff,List.all_eq_true,decide_eq_true_eq];constructor
 ·intro hall
  have:=hall (m - 1) (List.mem_range.2 (by omega));grind
 grind
def SPH:List fo:=[(0,64,true,false,false),(256,8,true,false,false),(272,8,false,true,true),(288,20,false,true,true),(512,20,true,false,false),(544,20,true,false,false),(576,20,true,false,false),(608,20,true,false,false),(640,20,true,false,false),(672,20,true,false,false),(704,20,true,false,false),(736,20,true,false,false)]
def SP:aBb:=([(0,16,true,true,false)],[(0,8,true,false,false)],SPH,[(0,8,true,false,false)])
theorem S8:uh ()=some (SP,()):=by rfl
theorem KA{f:fo->Bool}{l:List fo}{i:Int}(h:jW f l i=true):∃x∈l,jN x i=true∧f x=true:=by grind[jW,iB,jN,List.mem_of_find?_eq_some]
theorem FB{p:Int}{m:Nat}(hm:1≤m):iG (wrW p m) SPH p m=decide (p=272∧m=8∨p=288∧m=20):=by
 rw[Bool.eq_iff_iff,decide_eq_true_eq];constructor
 ·intro h
  unfold iG at h;rw[List.all_eq_true]at h;have h0:=h 0 (List.mem_range.2 (by omega));obtain⟨x,hx,_,hw⟩:=KA h0;have e:wrW p (m:Int) x=true↔x.2.2.2.1=true∧(x.2.2.2.2=false∨(x.1=p∧x.2.1=(m:Int))):=by simp_all[wrW,zO,Bool.or_eq_true,decide_eq_true_eq,Bool.not_eq_true']
  rw[e]at hw;simp only[SPH,List.mem_cons,List.not_mem_nil,or_false]at hx;rcases hx with rfl | rfl | rfl | rfl | rfl | rfl | rfl | rfl | rfl | rfl | rfl | rfl<;>simp at hw<;>omega
 ·rintro (⟨rfl,rfl⟩ | ⟨rfl,rfl⟩)<;>decide
def rdH(p:Int)(m:Nat):Bool:=iG rdW SPH p m
theorem FC{p:Int}{m:Nat}(hm:1≤m)(h:rdH p m=true):p+m≤756:=by unfold rdH iG at h;rw[List.all_eq_true]at h;obtain⟨x,hx,hc,_⟩:=KA (h (m - 1) (List.mem_range.2 (by omega)));unfold jN at hc;rw[decide_eq_true_eq]at hc;simp only[SPH,List.mem_cons,List.not_mem_nil,or_false]at hx;rcases hx with rfl | rfl | rfl | rfl | rfl | rfl | rfl | rfl | rfl | rfl | rfl | rfl<;>dsimp only at hc<;>omega
theorem Cr:∀x∈SPH,sG x:=fun x hx=>by simp only[SPH,List.mem_cons,List.not_mem_nil,or_false]at hx;rcases hx with rfl | rfl | rfl | rfl | rfl | rfl | rfl | rfl | rfl | rfl | rfl | rfl<;>exact⟨by decide,by decide,by decide,by decide⟩
theorem uX{k:Int}(h0:0≤k)(h1:k≤100){r w h:Bool}:∀x ∈ [((0:Int),k,r,w,h)],sG x:=fun x hx=>by rw[List.mem_singleton]at hx;subst hx;exact⟨by omega,by omega,by grind,by grind⟩
def jk(a:TA):Bool :=
 if a.1=1 then decide (a.2.1+a.2.2.1≤16) else if a.1=2∨a.1=4 then decide (a.2.1+a.2.2.1≤8)
 else if a.1=3 then rdH a.2.1 a.2.2.1.toNat
 else if a.1=5∨a.1=15 then decide (a.2.1+(a.2.2.2.2.2.length:Int)≤16)
 else if a.1=23 then rdH a.2.1 a.2.2.1.toNat && decide (a.2.2.2.1=272∧a.2.2.2.2.1.length=8∨a.2.2.2.1=288∧a.2.2.2.2.1.length=20)
 else decide (a.2.1=272∧a.2.2.2.2.1.length=8∨a.2.1=288∧a.2.2.2.2.1.length=20)
abbrev XV:=(List fo×List Bool)×(List fo×List Bool)×(List fo×List Int)×List fo×List Int
def vS:XV:=(([(0,16,true,true,false)],[]),([(0,8,true,false,false)],[]),(SPH,[]),[(0,8,true,false,false)],[])
theorem S9{a:TA}(h:OkA a)(hr:jd a=true):Dw (SP,a,())=some (if jk a=true then 0 else 2,()):=by
 have hra:=kM hr;have ht:=Kz h;have p0:=h.at0;have p1:=h.at1;have t0:=h.t0;have t1:=h.t1;have m0:=h.m0;have m1:=h.m1;show YB nC SP a=_;unfold YB;have ho:Gy (SP,([],[],[],[]),())=some (vS,()):=rfl;rw[right_eq h,hr,zD,if_neg (by decide),ho,zD,UR,zD];have K1t:∀u,nC true a vS u=some (2,()):=fun u=>rfl;have K1:∀u,nC false a vS u=zC (Dm (a,())) fun y=>if eqi u.2 1=true then zC (Dv (vS.1,y.1,y.2.1,())) fun y=>Ao !y.1 else if eqi u.2 2=true then zC (Dv (vS.2.1,y.1,y.2.1,())) fun y=>Ao !y.1 else if eqi u.2 3=true then zC (xN (vS.2.2.1,y.1,y.2.1,())) fun y=>Ao !y.1 else if eqi u.2 4=true then zC (xN (vS.2.2.2,y.1,y.2.1,())) fun y=>Ao !y.1 else Ao false:=fun u=>rfl;rw[ht]at K1;simp only[zD]at K1;have K2:∀b:Bool,Ao (!b)=some (if b=true then 0 else 2,()):=fun b=>by cases b<;>rfl
 have K1b:∀(b:Bool) (u:Int×Int),u.2=0->nC (!b) a vS u=some (if b=true then 0 else 2,()):=fun b u hu=>by
  cases b with
  | true =>
   show nC false a vS u=_;rw[K1,hu];rfl
  | false=>rfl
 cases hra with
 | bits f p n hf h1 h2 =>
  obtain⟨n,rfl⟩:=zN (show 0≤n by omega);have p0:0≤p:=p0;have p1:p≤65535:=p1;have hc:cvt .i64 p=p:=gM (by omega) (by omega);have hc2:cvt .i64 (n:Int)=n:=gM (by omega) (by omega);rcases hf with rfl | rfl
  ·have hb:=alH (l:=[(0,16,true,true,false)]) (p:=p) (m:=n) p0 (by omega) (by omega) (by decide) (uX (by decide) (by decide)) []
   rw[lC (by decide) p0 (by omega) rdW rfl]at hb;rw[<- hc,<- hc2]at hb;show zC (Du (vS.1,cvt .i64 p,cvt .i64 (n:Int),())) (fun y=>nC (!y.1) (1,p,(n:Int),0,[],[]) vS (1,0))=_;refine (congrArg (fun z=>zC z _) hb).trans ?_;rw[zD,K1b _ _ rfl,hc,hc2];rfl
  ·have hb:=alH (l:=[(0,8,true,false,false)]) (p:=p) (m:=n) p0 (by omega) (by omega) (by decide) (uX (by decide) (by decide)) []
   rw[lC (by decide) p0 (by omega) rdW rfl]at hb;rw[<- hc,<- hc2]at hb;show zC (Du (vS.2.1,cvt .i64 p,cvt .i64 (n:Int),())) (fun y=>nC (!y.1) (2,p,(n:Int),0,[],[]) vS (2,0))=_;refine (congrArg (fun z=>zC z _) hb).trans ?_;rw[zD,K1b _ _ rfl,hc,hc2];rfl
 | words f p n hf h1 h2 =>
  obtain⟨n,rfl⟩:=zN (show 0≤n by omega);have p0:0≤p:=p0;have p1:p≤65535:=p1;have hc:cvt .i64 p=p:=gM (by omega) (by omega);have hc2:cvt .i64 (n:Int)=n:=gM (by omega) (by omega);rcases hf with rfl | rfl
  ·have hu:=SY (l:=SPH) (p:=p) (m:=n) p0 (by omega) (by omega) (by decide) Cr []
   rw[<- hc,<- hc2]at hu;show zC (Am (vS.2.2.1,cvt .i64 p,cvt .i64 (n:Int),())) (fun y=>nC (!y.1) (3,p,(n:Int),0,[],[]) vS (3,0))=_;refine (congrArg (fun z=>zC z _) hu).trans ?_;rw[zD,K1b _ _ rfl,hc];rfl
  ·have hu:=SY (l:=[(0,8,true,false,false)]) (p:=p) (m:=n) p0 (by omega) (by omega) (by decide) (uX (by decide) (by decide)) []
   rw[lC (by decide) p0 (by omega) rdW rfl]at hu;rw[<- hc,<- hc2]at hu;show zC (Am (vS.2.2.2,cvt .i64 p,cvt .i64 (n:Int),())) (fun y=>nC (!y.1) (4,p,(n:Int),0,[],[]) vS (4,0))=_;refine (congrArg (fun z=>zC z _) hu).trans ?_;rw[zD,K1b _ _ rfl,hc,hc2];rfl
 | coil p b =>
  have p0:0≤p:=p0;have p1:p≤65535:=p1;have hw:=alI (l:=[(0,16,true,true,false)]) (p:=p) (m:=1) p0 (by omega) (by omega) (by decide) (uX (by decide) (by decide)) [];rw[lC (by decide) p0 (by omega) _ rfl]at hw;show nC false (5,p,0,0,[],[b]) vS (0,1)=_;rw[K1,if_pos (by decide)];refine (congrArg (fun z=>zC z _) hw).trans ?_;rw[zD,K2];rfl
 | word p x =>
  have p0:0≤p:=p0;have p1:p≤65535:=p1;have hw:=S7 (l:=SPH) (p:=p) (m:=1) p0 (by omega) (by omega) (by decide) Cr [];rw[FB (by omega)]at hw;show nC false (6,p,0,0,[x],[]) vS (0,3)=_;rw[K1,if_neg (by decide),if_neg (by decide),if_pos (by decide)];refine (congrArg (fun z=>zC z _) hw).trans ?_;rw[zD,K2];rfl
 | coils p l h1 h2 =>
  have p0:0≤p:=p0;have p1:p≤65535:=p1;have hw:=alI (l:=[(0,16,true,true,false)]) (p:=p) (m:=l.length) p0 (by omega) (by omega) (by decide) (uX (by decide) (by decide)) [];rw[lC (by decide) p0 (by omega) _ rfl]at hw;show nC false (15,p,(l.length:Int),0,[],l) vS (0,1)=_;rw[K1,if_pos (by decide)];refine (congrArg (fun z=>zC z _) hw).trans ?_;rw[zD,K2];rfl
 | regs p l h1 h2 =>
  have p0:0≤p:=p0;have p1:p≤65535:=p1;have hw:=S7 (l:=SPH) (p:=p) (m:=l.length) p0 (by omega) (by omega) (by decide) Cr [];rw[FB (by omega)]at hw;show nC false (16,p,(l.length:Int),0,l,[]) vS (0,3)=_;rw[K1,if_neg (by decide),if_neg (by decide),if_pos (by decide)];have e:((([]:List Bool).length+l.length:Nat):Int)=(l.length:Int):=by simp
  show zC (xN (vS.2.2.1,p,((([]:List Bool).length+l.length:Nat):Int),())) _=_;rw[e];refine (congrArg (fun z=>zC z _) hw).trans ?_;rw[zD,K2];rfl
 | swap p n t l h1 h2 h3 h4 =>
  obtain⟨n,rfl⟩:=zN (show 0≤n by omega);have p0:0≤p:=p0;have p1:p≤65535:=p1;have t0:0≤t:=t0;have t1:t≤65535:=t1;have hc:cvt .i64 p=p:=gM (by omega) (by omega);have hc2:cvt .i64 (n:Int)=n:=gM (by omega) (by omega);have hu:=SY (l:=SPH) (p:=p) (m:=n) p0 (by omega) (by omega) (by decide) Cr [];rw[<- hc,<- hc2]at hu;have hw:=S7 (l:=SPH) (p:=t) (m:=l.length) t0 (by omega) (by omega) (by decide) Cr [];rw[FB (by omega)]at hw;show zC (Am (vS.2.2.1,cvt .i64 p,cvt .i64 (n:Int),())) (fun y=>nC (!y.1) (23,p,(n:Int),t,l,[]) vS (3,3))=_;refine (congrArg (fun z=>zC z _) hu).trans ?_;rw[zD,hc];show nC (!rdH p n) (23,p,(n:Int),t,l,[]) vS (3,3)=some (if (rdH p n && decide (t=272∧l.length=8∨t=288∧l.length=20))=true then 0 else 2,())
  cases rdH p n with
  | false=>rfl
  | true =>
   rw[Bool.true_and];show nC false _ vS (3,3)=_;rw[K1,if_neg (by decide),if_neg (by decide),if_pos (by decide)];have e:((([]:List Bool).length+l.length:Nat):Int)=(l.length:Int):=by simp
   show zC (xN (vS.2.2.1,t,((([]:List Bool).length+l.length:Nat):Int),())) _=_;rw[e];refine (congrArg (fun z=>zC z _) hw).trans ?_;grind
theorem Ta{h:List Int}{p n:Int}(hp:0≤p)(hn:0≤n)(hh:h.length≤100000)(hle:p+n≤h.length)(l:List fo):Zm ((l,h),p,n,1,())=some ((h.drop p.toNat).take n.toNat,()):=by
 obtain⟨p,rfl⟩:=zN hp;obtain⟨n,rfl⟩:=zN hn;have e1:mul .i64 (quo .i64 (sub .i64 (add .i64 (n:Int) 1) 1) 1) 1=(n:Int):=by rw[gJ (by omega),jO (by omega) (by omega),show (((n+1:Nat):Int) - 1)=(n:Int) by omega];have:=lW (i:=n) (d:=1) (by omega);rw[Nat.div_one]at this;rw[show (1:Int)=((1:Nat):Int) from rfl,this,kZ (by omega) (by omega)];omega
 show aoT (l,h) (p:Int) (n:Int) 1=_;unfold aoT;rw[e1,gy (by decide),gy (gU.2 (by omega)),gy (qU _),zP,gZ (by omega),lg (by omega)];dsimp only;rw[tH (by omega) (by omega),zD,kC,gy (gT.2 (by simp))];grind[List.length_drop,kA,List.drop_take,List.drop,zE,Int,List.drop_of_length_le,kC,bu,zP]
theorem yJ(f e:Int):ko (f,e,())=some ((rem f 128,e,[],[],0,0),()):=rfl
theorem qW{a:TA}(hr:jd a=true):1≤a.1∧a.1<128:=by
 cases kM hr with
 | bits f p n hf=>omega
 | words f p n hf=>omega
 | coil p b=>omega
 | word p x=>omega
 | coils p l=>omega
 | regs p l=>omega
 | swap p n t l=>omega
structure Rep(r:TR):Prop where
 ok:OkR r
 rr:RR r
 rt:nY r=true
theorem uY{f e:Int}(h0:0≤f)(h1:f<128)(h2:1≤e)(h3:e≤4):Rep (f,e,[],[],0,0):=by refine⟨⟨h0,by show f≤255;omega,by show 0≤e;omega,by show e≤255;omega,(fun x hx=>by cases hx),(by decide:(0:Int)≤0),(by decide:(0:Int)≤65535),(by decide:(0:Int)≤0),(by decide:(0:Int)≤65535),Nat.zero_le _,Nat.zero_le _⟩,.ex f e h0 h1 h2 h3,?_⟩;unfold nY;rw[if_pos (by rw[cu];show e≠0;omega)];unfold exR;dsimp only;rw[rP h0 h1,decide_eq_true h1,decide_eq_true h2,decide_eq_true h3,decide_eq_true rfl];rfl
theorem aBc{r:TR}(h:Rep r):SmR r:=by cases h.rr<;>exact⟨by simp<;>omega,by simp<;>omega⟩
theorem alJ{r:TR}(h:Rep r):DR (r,())=some (iM r,0,()):=by rw[alo (aBc h),if_pos h.rt]
abbrev lI:=List Bool×List Bool×List Int×List Int
structure OkS(s:TSl):Prop where
 u:1≤s.1∧s.1≤247
 l:s.2.1=1∨s.2.1=2
 a:OkG s.2.2.1
 c:s.2.2.2.length=16
def cpy{α:Type}(b:List α)(p:Nat)(w:List α):List α:=b.take p++w++b.drop (p+w.length)
theorem l5{α:Type}{b w:List α}{p:Nat}(h:p+w.length≤b.length):(cpy b p w).length=b.length:=by grind[cpy,zY,kA,List.length_drop]
theorem ay3{α:Type}{b w:List α}{p i:Nat}(h:p+w.length≤b.length):(cpy b p w)[i]? = if p≤i∧i<p+w.length then w[i - p]? else b[i]?:=by
 have lp:(b.take p).length=p:=by grind
 unfold cpy;grind
theorem JZ{α:Type}{b w:List α}{p:Nat}{P:α->Prop}(hb:∀y∈b,P y)(hx:∀y∈w,P y):∀y∈cpy b p w,P y:=by grind[cpy,List.mem_of_mem_take,List.mem_of_mem_drop]
theorem ou{α:Type}{b w:List α}{p m:Nat}(hm:w.length≤m):b.take p++w.take m++b.drop (p+(w.take m).length)=cpy b p w:=by rw[List.take_of_length_le hm];rfl
def lN(a:TAg):List Int:=(List.range 8).foldl (fun h b=>cpy h (512+b*32) (iU a.2.2.2.2.2.1 a.2.1.1 (b:Int))) (cpy (cpy (zE 756 0) 0 a.1) 256 (gD a))
def o7(a:TAg):List Bool:=((((zE 8 false).set a.2.2.1.toNat true).set 4 (decide (a.2.1.1≠0))).set 5 (decide (true∈a.2.2.2.2.2.1.2.1)))
def lJ(s:TSl):lI:=(s.2.2.2,o7 s.2.2.1,lN s.2.2.1,gD s.2.2.1)
theorem uZ{s:jH}{o n:Int}:(iU s o n).length=20:=by grind[iU,as9]
theorem Bz{a:TAg}(h:OkG a):∀k:Nat,k≤8->((List.range k).foldl (fun h b=>cpy h (512+b*32) (iU a.2.2.2.2.2.1 a.2.1.1 (b:Int))) (cpy (cpy (zE 756 0) 0 a.1) 256 (gD a))).length=756
 | 0,_=>by
  have h64:=h.bl;rw[List.range_zero,List.foldl_nil];have e1:(cpy (zE 756 (0:Int)) 0 a.1).length=756:=by rw[l5 (by rw[kC];omega),kC]
  rw[l5 (by rw[e1];show 256+8≤756;omega),e1]
 | k+1,hk=>by have ih:=Bz h k (by omega);rw[List.range_succ,List.foldl_append,List.foldl_cons,List.foldl_nil,l5 (by rw[ih,uZ];omega),ih]
theorem KB{a:TAg}(h:OkG a):(lN a).length=756:=Bz h 8 (by omega)
theorem Tc(a:TAg):(o7 a).length=8:=by simp_all[o7,List.length_set,kC]
set_option maxHeartbeats 1000000 in
theorem alK{s:TSl}(h:OkS s):oV (s,())=some (lJ s,()):=by
 have ha:=h.a;have hst:=aj7 ha;have hfr:=qV ha.lr;have hco:=contains_eq (s:=s.2.2.1.2.2.2.2.2.1.2.1) true (by have:=ha.hl;omega);have pr:=ha.pr;have h64:=ha.bl;have hh8:=ha.hl;have h16:=h.c;show Y5 Y7 s=_;unfold Y5;simp only[hst,zD,vN (eqAs_refl fu.rs),aAR (eqAs_refl fu.rs)];show Y2 Y6 s (gD s.2.2.1) (zE 16 false) (zE 8 false) (zE 756 0)=_;unfold Y2;obtain⟨ph,hph⟩:=zN pr.1;have hin:(zE 8 false)[ph]? = some false:=by grind
 have hcoil:List.take (zI (zF (zE 16 false).length)) s.2.2.2++List.drop (0+(List.take (zI (zF (zE 16 false).length)) s.2.2.2).length) (zE 16 false)=s.2.2.2:=by grind
 rw[gy (gT.2 (by simp)),if_pos (gT.2 pr.2),hph,d9 hin,zD,zD,hcoil,zP];show Y3 GR s (gD s.2.2.1) s.2.2.2 ((zE 8 false).set ph true) (zE 756 0)=_;unfold Y3;have h4:∃x,((zE 8 false).set ph true)[4]? = some x:=iO (by simp);obtain⟨x4,h4⟩:=h4;have t8:List.take 8 (List.drop 0 s.2.2.1.2.2.2.2.2.1.2.1)=s.2.2.1.2.2.2.2.2.1.2.1:=by grind
 rw[hfr,zD,show at? ((zE 8 false).set ph true) 4=some x4 from d9 h4,zD,zD,t8,hco,zD];dsimp only;generalize hy:(!decide (s.2.2.1.2.1.1=0))=y4;have h5:∃x,(((zE 8 false).set ph true).set 4 y4)[5]? = some x:=iO (by simp);obtain⟨x5,h5⟩:=h5;rw[show at? (((zE 8 false).set ph true).set 4 y4) 5=some x5 from d9 h5,zD,zD];have c64:List.take 64 s.2.2.1.1++List.drop (0+(List.take 64 s.2.2.1.1).length) (zE 756 (0:Int))=cpy (zE 756 0) 0 s.2.2.1.1:=ou (p:=0) (b:=zE 756 (0:Int)) (by omega);have l64:(cpy (zE 756 (0:Int)) 0 s.2.2.1.1).length=756:=by grind
 rw[c64,l64];have l8:(gD s.2.2.1).length=8:=rfl;have cst:List.take 256 (cpy (zE 756 0) 0 s.2.2.1.1)++List.take (zI (zF 756 - 256)) (gD s.2.2.1)++List.drop (256+(List.take (zI (zF 756 - 256)) (gD s.2.2.1)).length) (cpy (zE 756 0) 0 s.2.2.1.1)=cpy (cpy (zE 756 0) 0 s.2.2.1.1) 256 (gD s.2.2.1):=ou (by simp_all);rw[cst];rw[gy (by decide),gy (by decide),gy (by decide),gy (by decide),gy (by decide),gy (by decide)];show GR s 0 (gD s.2.2.1) s.2.2.2 _ _=_;have hinp:((((zE 8 false).set ph true).set 4 y4).set 5 (decide (true∈s.2.2.1.2.2.2.2.2.1.2.1)))=o7 s.2.2.1:=by simp_all[o7,zP,decide_eq_true,decide_eq_false]
 rw[hinp];unfold lJ lN;unfold GR;refine jV (N:=8) (mk:=fun i=>(s,(i:Int),gD s.2.2.1,s.2.2.2,o7 s.2.2.1,(List.range i).foldl (fun h b=>cpy h (512+b*32) (iU s.2.2.1.2.2.2.2.2.1 s.2.2.1.2.1.1 (b:Int))) (cpy (cpy (zE 756 0) 0 s.2.2.1.1) 256 (gD s.2.2.1)))) ?_ ?_ 8 0 _ (by omega) (by omega)
 ·intro self i hi
  have hlen:=Bz ha i (by omega);have hsucc:(List.range (i+1)).foldl (fun h b=>cpy h (512+b*32) (iU s.2.2.1.2.2.2.2.2.1 s.2.2.1.2.1.1 (b:Int))) (cpy (cpy (zE 756 0) 0 s.2.2.1.1) 256 (gD s.2.2.1))=cpy ((List.range i).foldl (fun h b=>cpy h (512+b*32) (iU s.2.2.1.2.2.2.2.2.1 s.2.2.1.2.1.1 (b:Int))) (cpy (cpy (zE 756 0) 0 s.2.2.1.1) 256 (gD s.2.2.1))) (512+i*32) (iU s.2.2.1.2.2.2.2.2.1 s.2.2.1.2.1.1 (i:Int)):=by simp_all[List.range_succ,List.foldl_append]
  rw[hsucc];generalize (List.range i).foldl (fun h b=>cpy h (512+b*32) (iU s.2.2.1.2.2.2.2.2.1 s.2.2.1.2.1.1 (b:Int))) (cpy (cpy (zE 756 0) 0 s.2.2.1.1) 256 (gD s.2.2.1))=hd at hlen;show Y4 _ s (i:Int) (gD s.2.2.1) s.2.2.2 (o7 s.2.2.1) hd=_;unfold Y4;have e1:mul .i64 (i:Int) 32=((i*32:Nat):Int):=by grind[kZ]
  have e2:add .i64 512 ((i*32:Nat):Int)=((512+i*32:Nat):Int):=lg (n:=512) (by omega);have hbk:=back_eq (s:=s.2.2.1.2.2.2.2.2.1) (o:=s.2.2.1.2.1.1) (n:=(i:Int))
  have hstx:0≤s.2.2.1.2.2.2.2.2.1.1∧s.2.2.1.2.2.2.2.2.1.1≤4294967295:=by
   by_cases e:s.2.2.1.2.2.1=0
   ·have:=(ha.p0 e).2.2.1;omega
   ·have:=(ha.pn e).2.2;have:=ha.tr;omega
  have hbk:=hbk hstx.1 hstx.2 ⟨by omega,by omega⟩ ha.hl ha.sl ha.bb;rw[if_pos (cr.2 (by omega)),e1,e2,gy (gU.2 (by omega)),gy (gT.2 (by grind)),gy (gT.2 (Int.le_refl _)),show at? (gD s.2.2.1) 0=some s.2.2.1.2.1.1 from rfl,zD,hbk,zD,gy (gT.2 (by omega)),gJ (by omega),zP];dsimp only;rw[ou (by rw[uZ,bu,hlen];omega)]
 ·intro self
  rfl
def Td(n:Int)(fixed:Bool):Int->List fo->Bool
 | _,[]=>true
 | e,x::r=>if x.1<e∨n<x.1∨x.2.1<1∨n - x.1<x.2.1∨(fixed=true∧x.2.2.2.1=true) then false else Td n fixed (x.1+x.2.1) r
theorem J2(n:Int)(fixed:Bool):∀(l:List fo) (e:Int),goL (R:=Bool×Unit) (fun (e:Int) (x:fo) k=>if x.1<e∨n<x.1∨x.2.1<1∨n - x.1<x.2.1∨(fixed=true∧x.2.2.2.1=true) then some (false,()) else k (x.1+x.2.1)) (fun _=>some (true,())) l e=some (Td n fixed e l,())
 | [],_=>rfl
 | x::r,e=>by show (if _ then _ else goL _ _ r _)=_;rw[J2 n fixed r,Td];split<;>rfl
theorem Te{l:List fo}{h:List Int}{fixed:Bool}(ho:∀x∈l,sG x)(hp:∀x∈l,0≤x.1)(hh:h.length≤65536)(hl:l.length≤1000):Zi ((l,h),fixed,())=some (Td h.length fixed 0 l,()):=by
 show Zf GY (l,h) fixed=_;unfold Zf;rw[if_neg (fun e=>by grind[iD,bu])];show GY fixed 0 l (zF l.length) 0 (l,h)=_;rw[<- J2];unfold GY;refine oH (xs:=l) (mk:=fun i e=>(fixed,e,l,zF l.length,(i:Int),(l,h))) ?_ ?_ l.length 0 0 _ (by omega) (by omega)
 ·intro self i e x hx
  have hi:=(List.getElem?_eq_some_iff.1 hx).1;have hm:=zX hx;have o:=ho x hm;have p:=hp x hm;unfold sG at o;show PZ _ _ fixed e l (zF l.length) (i:Int) (l,h)=_;unfold PZ;rw[if_pos (by grind[cr,bu]),d9 hx,zD];dsimp only;have K3:∀t,Zg (fun fixed endV t13 t14 t15 t=>self (fixed,endV,t13,t14,t15,t)) fixed l (zF l.length) (i:Int) t (l,h) x=if t=true then some (false,()) else self (fixed,add .i64 x.1 x.2.1,l,zF l.length,((i+1:Nat):Int),(l,h)):=fun t=>by unfold Zg aoO;rw[gJ (by omega)]
  have K2:∀t,Zh (fun fixed endV t13 t14 t15 t=>self (fixed,endV,t13,t14,t15,t)) fixed l (zF l.length) (i:Int) t (l,h) x=if t=true∨(fixed=true∧x.2.2.2.1=true) then some (false,()) else self (fixed,add .i64 x.1 x.2.1,l,zF l.length,((i+1:Nat):Int),(l,h)):=fun t=>by unfold Zh aoN;rw[K3,K3];cases t<;>cases fixed<;>simp
  rw[K2,K2];simp only[true_or,if_true];rw[rM,Bn,rM,Bn,bu];by_cases q1:x.1<e
  ·simp_all
  ·rw[if_neg (by simp_all)]
   by_cases q2:(h.length:Int)<x.1
   ·simp_all
   ·rw[if_neg (by simp_all)]
    by_cases q3:x.2.1<1
    ·simp_all
    ·rw[if_neg (by simp_all),jO (by omega) (by omega)]
     by_cases q4:(h.length:Int) - x.1<x.2.1
     ·simp_all
     ·rw[iF (by omega) (by omega)]
      grind
 simp_all[PZ,zF,Int,if_neg,cr,bu]
theorem Tf{l:List fo}{h:List Bool}{fixed:Bool}(ho:∀x∈l,sG x)(hp:∀x∈l,0≤x.1)(hh:h.length≤65536)(hl:l.length≤1000):Ze ((l,h),fixed,())=some (Td h.length fixed 0 l,()):=by
 show Zb GX (l,h) fixed=_;unfold Zb;rw[if_neg (fun e=>by grind[iD,bu])];show GX fixed 0 l (zF l.length) 0 (l,h)=_;rw[<- J2];unfold GX;refine oH (xs:=l) (mk:=fun i e=>(fixed,e,l,zF l.length,(i:Int),(l,h))) ?_ ?_ l.length 0 0 _ (by omega) (by omega)
 ·intro self i e x hx
  have hi:=(List.getElem?_eq_some_iff.1 hx).1;have hm:=zX hx;have o:=ho x hm;have p:=hp x hm;unfold sG at o;show PY _ _ fixed e l (zF l.length) (i:Int) (l,h)=_;unfold PY;rw[if_pos (by grind[cr,bu]),d9 hx,zD];dsimp only;have K3:∀t,Zc (fun fixed endV t13 t14 t15 t=>self (fixed,endV,t13,t14,t15,t)) fixed l (zF l.length) (i:Int) t (l,h) x=if t=true then some (false,()) else self (fixed,add .i64 x.1 x.2.1,l,zF l.length,((i+1:Nat):Int),(l,h)):=fun t=>by unfold Zc aoH;rw[gJ (by omega)]
  have K2:∀t,Zd (fun fixed endV t13 t14 t15 t=>self (fixed,endV,t13,t14,t15,t)) fixed l (zF l.length) (i:Int) t (l,h) x=if t=true∨(fixed=true∧x.2.2.2.1=true) then some (false,()) else self (fixed,add .i64 x.1 x.2.1,l,zF l.length,((i+1:Nat):Int),(l,h)):=fun t=>by unfold Zd aoG;rw[K3,K3];cases t<;>cases fixed<;>simp
  rw[K2,K2];simp only[true_or,if_true];rw[rM,Bn,rM,Bn,bu];by_cases q1:x.1<e
  ·simp_all
  ·rw[if_neg (by simp_all)]
   by_cases q2:(h.length:Int)<x.1
   ·simp_all
   ·rw[if_neg (by simp_all)]
    by_cases q3:x.2.1<1
    ·simp_all
    ·rw[if_neg (by simp_all),jO (by omega) (by omega)]
     by_cases q4:(h.length:Int) - x.1<x.2.1
     ·simp_all
     ·rw[iF (by omega) (by omega)]
      grind
 simp_all[PY,zF,Int,if_neg,cr,bu]
structure SzM(m:lI):Prop where
 c:m.1.length=16
 i:m.2.1.length=8
 h:m.2.2.1.length=756
 w:m.2.2.2.length=8
theorem Cu{s:TSl}(h:OkS s):SzM (lJ s):=⟨h.c,Tc _,KB h.a,rfl⟩
theorem Tg{k:Int}{r w h:Bool}:∀x ∈ [((0:Int),k,r,w,h)],0≤x.1:=fun x hx=>by simp_all
theorem aBd:∀x∈SPH,0≤x.1:=by decide
theorem alL{m:lI}(h:SzM m):Lm (SP,m,())=some (true,()):=by obtain⟨c,i,hd,w⟩:=m;have hc:c.length=16:=h.c;have hi:i.length=8:=h.i;have hh:hd.length=756:=h.h;have hw:w.length=8:=h.w;show Zj SP (c,i,hd,w)=_;unfold Zj;have ho:Gy (SP,(c,i,hd,w),())=some ((([(0,16,true,true,false)],c),([(0,8,true,false,false)],i),(SPH,hd),[(0,8,true,false,false)],w),()):=rfl;rw[ho,zD];dsimp only;rw[Tf (uX (by decide) (by decide)) Tg (by omega) (by decide),zD,hc,if_pos (by decide),Tf (uX (by decide) (by decide)) Tg (by omega) (by decide),zD,hi,if_pos (by decide),Te Cr aBd (by omega) (by decide),zD,hh,if_pos (by decide),Te (uX (by decide) (by decide)) Tg (by omega) (by decide),hw];rfl
def kJ(c:List Bool)(p n:Nat):List Bool:=(c.drop p).take n++zE ((n+7) / 8*8 - n) false
theorem Ti{c:List Bool}{p n:Int}(hp:0≤p)(hn:0≤n)(hh:c.length≤100000)(hle:p+n≤c.length)(l:List fo):Zl ((l,c),p,n,8,())=some (kJ c p.toNat n.toNat,()):=by
 obtain⟨p,rfl⟩:=zN hp;obtain⟨n,rfl⟩:=zN hn;have e1:mul .i64 (quo .i64 (sub .i64 (add .i64 (n:Int) 8) 1) 8) 8=(((n+7) / 8*8:Nat):Int):=by have e0:add .i64 (n:Int) 8=((n+8:Nat):Int):=lg (m:=8) (by omega);rw[e0,jO (by omega) (by omega),show (((n+8:Nat):Int) - 1)=((n+7:Nat):Int) by omega];have:=lW (i:=n+7) (d:=8) (by omega);rw[show (8:Int)=((8:Nat):Int) from rfl,this,kZ (by omega) (by omega)];omega
 show aoS (l,c) (p:Int) (n:Int) 8=_;unfold aoS;rw[e1,gy (by decide),gy (gU.2 (by omega)),gy (qU _),zP,gZ (by omega),lg (by omega)];dsimp only;rw[tH (by omega) (by omega),zD,kC,gy (gT.2 (by simp))];have hlen:((c.take (p+n)).drop p).length=n:=by grind
 have ht:((c.take (p+n)).drop p)=(c.drop p).take n:=by grind
 rw[bu,zP,List.take_of_length_le (show ((c.take (p+n)).drop p).length≤(n+7) / 8*8 by omega),hlen,List.drop_replicate,ht];simp_all[kJ,zP,Nat.zero_add]
def isE(f:Int):Bool:=decide (f=5∨f=6∨f=15∨f=16)
def Cv(a:TA):TR:=if a.1=5 then (5,0,[a.2.2.2.2.2.headD false],[],a.2.1,0) else if a.1=6 then (6,0,[],[a.2.2.2.2.1.headD 0],a.2.1,0) else (a.1,0,[],[],a.2.1,a.2.2.1)
theorem Et{a:TA}(h:OkA a)(hr:jd a=true):xQ (a,())=some (if isE a.1=true then Cv a else zR,isE a.1,()):=by
 show GU PX Za a=_;unfold GU;rw[right_eq h,hr,zD,if_neg (by decide)]
 cases kM hr with
 | bits f p n hf h1 h2=>rcases hf with rfl | rfl<;>rfl
 | words f p n hf h1 h2=>rcases hf with rfl | rfl<;>rfl
 | coil p b=>rfl
 | word p x=>rfl
 | coils p l h1 h2=>rfl
 | regs p l h1 h2=>rfl
 | swap p n t l h1 h2 h3 h4=>rfl
def uE(m:lI)(a:TA):TR :=
 if a.1=1 then (a.1,0,kJ m.1 a.2.1.toNat a.2.2.1.toNat,[],0,0)
 else if a.1=2 then (a.1,0,kJ m.2.1 a.2.1.toNat a.2.2.1.toNat,[],0,0)
 else if a.1=4 then (a.1,0,[],(m.2.2.2.drop a.2.1.toNat).take a.2.2.1.toNat,0,0)
 else (a.1,0,[],(m.2.2.1.drop a.2.1.toNat).take a.2.2.1.toNat,0,0)
def wrM(m:lI)(a:TA):lI :=
 if a.1=5∨a.1=15 then (cpy m.1 a.2.1.toNat a.2.2.2.2.2,m.2)
 else if a.1=16 then (m.1,m.2.1,cpy m.2.2.1 a.2.1.toNat a.2.2.2.2.1,m.2.2.2)
 else if a.1=23 then (m.1,m.2.1,cpy m.2.2.1 a.2.2.2.1.toNat a.2.2.2.2.1,m.2.2.2)
 else m
def doM(m:lI)(a:TA):lI×TR:=if jk a=true then (wrM m a,if isE a.1=true then Cv a else uE (wrM m a) a) else (m,(a.1,2,[],[],0,0))
theorem yK{s:List Bool}(h:s.length≤1000000):DC (s,())=some (s,()):=by
 show aoR s=_;unfold aoR;by_cases h0:s.length=0
 ·have:s=[]:=List.eq_nil_of_length_eq_zero h0
  subst this;rfl
 ·rw[if_neg (by grind[au,bu]),gZ (by omega)]
theorem aBe(a:TA)(m:lI)(u:Int×Int):P5 a 0 0 0 0 m.1 m.2.1 m.2.2.1 m.2.2.2 SP.1 SP.2.1 SP.2.2.1 SP.2.2.2 u=zC (xQ (a,())) fun y=>if y.2.1=true then some (m,y.1,()) else zC (P4 (((SP.1,m.1),(SP.2.1,m.2.1),(SP.2.2.1,m.2.2.1),SP.2.2.2,m.2.2.2),u.1,a,())) fun y=>some (m,y.1,()):=rfl
theorem alM{m:lI}(h:SzM m){a:TA}(ha:OkA a)(hr:jd a=true)(hc:jk a=true):SzM (wrM m a):=by
 have p0:=ha.at0;have t0:=ha.t0;unfold wrM;unfold jk at hc;split
 ·rename_i q
  rw[if_neg (by omega),if_neg (by omega),if_neg (by omega),if_pos q,decide_eq_true_eq]at hc;exact⟨by rw[l5 (by have:=h.c;omega)];exact h.c,h.i,h.h,h.w⟩
 ·rename_i q
  split
  ·rename_i q2
   rw[if_neg (by omega),if_neg (by omega),if_neg (by omega),if_neg q,if_neg (by omega),decide_eq_true_eq]at hc;exact⟨h.c,h.i,by show (cpy _ _ _).length=756;rw[l5 (by have:=h.h;omega)];exact h.h,h.w⟩
  ·rename_i q2
   split
   ·rename_i q3
    rw[if_neg (by omega),if_neg (by omega),if_neg (by omega),if_neg q,if_pos q3,zO,decide_eq_true_eq]at hc;exact⟨h.c,h.i,by show (cpy _ _ _).length=756;rw[l5 (by have:=h.h;omega)];exact h.h,h.w⟩
   omega
theorem alN{m:lI}(h:SzM m){a:TA}(ha:OkA a)(hr:jd a=true)(hc:jk a=true)(he:isE a.1=false)(k:Int)(hk:k=(if a.1=1 then 1 else if a.1=2 then 2 else if a.1=4 then 4 else 3)) :
  P4 (((SP.1,m.1),(SP.2.1,m.2.1),(SP.2.2.1,m.2.2.1),SP.2.2.2,m.2.2.2),k,a,())=some (uE m a,()):=by
 have p0:=ha.at0;have p1:=ha.at1;have m0:=ha.m0;have m1:=ha.m1;have hcp:cvt .i64 a.2.1=a.2.1:=gM (by omega) (by omega);have hcn:cvt .i64 a.2.2.1=a.2.2.1:=gM (by omega) (by omega);have h1:=h.c;have h2:=h.i;have h3:=h.h;have h4:=h.w
 have hn:1≤a.2.2.1∨isE a.1=true:=by
  cases kM hr with
  | bits f p n hf h1 h2=>simp_all
  | words f p n hf h1 h2=>simp_all
  | coil p b=>exact Or.inr rfl
  | word p x=>exact Or.inr rfl
  | coils p l h1 h2=>grind
  | regs p l h1 h2=>grind
  | swap p n t l g1 g2 g3 g4=>simp_all
 have hn1:1≤a.2.2.1:=by simp_all
 show aoU _ k a=_;unfold aoU;unfold jk at hc;unfold uE;rw[hcp,hcn];by_cases q1:a.1=1
 ·rw[if_pos q1]at hk hc
  rw[decide_eq_true_eq]at hc;subst hk;rw[if_pos (by rfl),if_pos q1];grind[Ti]
 ·rw[if_neg q1]at hk hc
  by_cases q2:a.1=2
  ·rw[if_pos q2]at hk
   rw[if_pos (Or.inl q2),decide_eq_true_eq]at hc;subst hk;rw[if_neg (by decide),if_pos (by rfl),if_neg q1,if_pos q2];grind[Ti]
  ·rw[if_neg q2]at hk
   by_cases q4:a.1=4
   ·rw[if_pos q4]at hk
    rw[if_pos (Or.inr q4),decide_eq_true_eq]at hc;subst hk;rw[if_neg (by decide),if_neg (by decide),if_neg (by decide),if_pos (by rfl),if_neg q1,if_neg q2,if_pos q4];grind[Ta]
   ·rw[if_neg q4]at hk
    rw[if_neg (by omega)]at hc;subst hk;rw[if_neg (by decide),if_neg (by decide),if_pos (by rfl),if_neg q1,if_neg q2,if_neg q4]
    have hle:rdH a.2.1 a.2.2.1.toNat=true:=by
     by_cases q3:a.1=3
     ·simp_all
     ·rw[if_neg q3]at hc
      by_cases q5:a.1=5∨a.1=15
      ·simp_all[absurd,decide_eq_true,isE]
      ·rw[if_neg q5]at hc
       by_cases q6:a.1=23
       ·simp_all
       ·exfalso
        have:a.1=6∨a.1=16:=by
         cases kM hr with
         | bits f p n hf=>omega
         | words f p n hf=>omega
         | coil p b=>omega
         | word p x=>omega
         | coils p l=>omega
         | regs p l=>omega
         | swap p n t l=>omega
        simp_all[absurd,decide_eq_true,isE]
    have:=FC (by omega) hle;grind[Ta]
theorem aBf{m:lI}(h:SzM m){a:TA}(ha:OkA a)(hr:jd a=true):kL (SP,m,a,())=some ((doM m a).1,(doM m a).2,()):=by
 have hf:=qW hr;have h1:=h.c;have h2:=h.i;have h3:=h.h;have h4:=h.w;have p0:=ha.at0;have t0:=ha.t0;have lw:=ha.lw;have lb:=ha.lb;show Lr P5 SP m a=_;unfold Lr;rw[yK (by omega),zD,yK (by omega),zD,yI (by omega),zD,yI (by omega),zD,S9 ha hr,zD];dsimp only;unfold doM
 cases hc:jk a with
 | false =>
  simp only[Bool.false_eq_true,if_false];rw[if_pos (show nei 2 0=true by decide),yJ,zD,rP (by omega) hf.2]
 | true =>
  rw[if_pos rfl,if_neg (by decide),alL h,zD,if_neg (by decide),UR,zD,Kz ha,zD,if_pos rfl];have hsz:=alM h ha hr hc
  have fin:∀k:Int×Int,(isE a.1=false->k.1=(if a.1=1 then 1 else if a.1=2 then 2 else if a.1=4 then 4 else 3))->P5 a 0 0 0 0 (wrM m a).1 (wrM m a).2.1 (wrM m a).2.2.1 (wrM m a).2.2.2 SP.1 SP.2.1 SP.2.2.1 SP.2.2.2 k=some (wrM m a,if isE a.1=true then Cv a else uE (wrM m a) a,()):=fun k hk=>by
   rw[aBe,Et ha hr,zD]
   cases he:isE a.1 with
   | true=>rfl
   | false =>
    rw[if_neg (fun e=>Bool.false_ne_true e),if_neg (fun e=>Bool.false_ne_true e),alN hsz ha hr hc he _ (hk he)];rfl
  have hcc:=hc;unfold jk at hc
  cases hra:kM hr with
  | bits f p n hf' g1 g2 =>
   rcases hf' with rfl | rfl
   ·exact fin (1,0) (fun _=>rfl)
   ·exact fin (2,0) (fun _=>rfl)
  | words f p n hf' g1 g2 =>
   rcases hf' with rfl | rfl
   ·exact fin (3,0) (fun _=>rfl)
   ·exact fin (4,0) (fun _=>rfl)
  | coil p b =>
   have hle:p+((1:Nat):Int)≤16:=of_decide_eq_true hc;have p0:0≤p:=p0;refine Eq.trans ?_ (fin (0,1) (fun e=>by cases e));dsimp only;rw[if_neg (show ¬ (5:Int)=23 by decide)];show need (ge p 0) (need (le p (zF m.1.length)) (need (le (zF m.1.length) (zF m.1.length)) (need (le (p+(zF m.1.length - p)) (zF m.1.length)) _)))=_;rw[gy (gU.2 p0),gy (gT.2 (by grind)),gy (gT.2 (Int.le_refl _)),gy (gT.2 (by omega))];rw[ou (w:=[b]) (by grind)];rfl
  | word p x =>
   simp_all
  | coils p l g1 g2 =>
   have hle:p+(l.length:Int)≤16:=of_decide_eq_true hc;have p0:0≤p:=p0;refine Eq.trans ?_ (fin (0,1) (fun e=>by cases e));dsimp only;rw[if_neg (show ¬ (15:Int)=23 by decide)];show need (ge p 0) (need (le p (zF m.1.length)) (need (le (zF m.1.length) (zF m.1.length)) (need (le (p+(zF m.1.length - p)) (zF m.1.length)) _)))=_;rw[gy (gU.2 p0),gy (gT.2 (by grind)),gy (gT.2 (Int.le_refl _)),gy (gT.2 (by omega))];rw[ou (w:=l) (by grind)];rfl
  | regs p l g1 g2 =>
   have hle:p=272∧l.length=8∨p=288∧l.length=20:=of_decide_eq_true hc;have p0:0≤p:=p0;refine Eq.trans ?_ (fin (0,3) (fun e=>by cases e));dsimp only;rw[if_neg (show ¬ (16:Int)=23 by decide)];show need (ge p 0) (need (le p (zF m.2.2.1.length)) (need (le (zF m.2.2.1.length) (zF m.2.2.1.length)) (need (le (p+(zF m.2.2.1.length - p)) (zF m.2.2.1.length)) _)))=_;rw[gy (gU.2 p0),gy (gT.2 (by grind)),gy (gT.2 (Int.le_refl _)),gy (gT.2 (by omega))];rw[ou (w:=l) (by grind)];rfl
  | swap p n t l g1 g2 g3 g4 =>
   have hle:t=272∧l.length=8∨t=288∧l.length=20:=of_decide_eq_true (zO _ _ ▸ hc:_∧_).2;have t0:0≤t:=t0;refine Eq.trans ?_ (fin (3,3) (fun _=>rfl));dsimp only;rw[if_pos (show (23:Int)=23 by decide)];show need (ge t 0) (need (le t (zF m.2.2.1.length)) (need (le (zF m.2.2.1.length) (zF m.2.2.1.length)) (need (le (t+(zF m.2.2.1.length - t)) (zF m.2.2.1.length)) _)))=_;rw[gy (gU.2 t0),gy (gT.2 (by grind)),gy (gT.2 (Int.le_refl _)),gy (gT.2 (by omega))];rw[ou (w:=l) (by grind)];rfl
def rdA(a:TA):TA:=(if a.1=23 then 3 else a.1,a.2.1,a.2.2.1,0,[],[])
def jD(s:TSl)(a:TA):TR:=if isE a.1=true then Cv a else (a.1,(uE (lJ s) (rdA a)).2)
theorem alO{a:TA}(ha:OkA a)(hr:jd a=true)(he:isE a.1=false)(hc:jk a=true):OkA (rdA a)∧jd (rdA a)=true∧jk (rdA a)=true∧isE (rdA a).1=false:=by
 have nil:∀x∈([]:List Int),0≤x∧x≤65535:=fun x hx=>by cases hx
 cases hra:kM hr with
 | bits f p n hf h1 h2 =>
  rcases hf with rfl | rfl
  ·exact⟨ha,hr,hc,he⟩
  ·exact⟨ha,hr,hc,he⟩
 | words f p n hf h1 h2 =>
  rcases hf with rfl | rfl
  ·exact⟨ha,hr,hc,he⟩
  ·exact⟨ha,hr,hc,he⟩
 | coil p b=>cases he
 | word p x=>cases he
 | coils p l h1 h2=>cases he
 | regs p l h1 h2=>cases he
 | swap p n t l h1 h2 h3 h4 =>
  have hc1:=(zO _ _ ▸ (show (rdH p n.toNat && decide (t=272∧l.length=8∨t=288∧l.length=20))=true from hc):_∧_).1;refine⟨⟨(by decide:(0:Int)≤3),(by decide:(3:Int)≤255),ha.at0,ha.at1,ha.m0,ha.m1,(by decide:(0:Int)≤0),(by decide:(0:Int)≤65535),nil,Nat.zero_le _,Nat.zero_le _⟩,?_,hc1,rfl⟩;show rO (3,p,n,0,[],[]) (125,0,0,false,false)=true;unfold rO;dsimp only;have e:jo n 125=true:=by unfold jo;rw[if_neg (by decide),if_pos (gU.2 h3),gT.2 h4]
  rw[e];rfl
theorem yL{s:TSl}(h:OkS s){a:TA}(ha:OkA a)(hr:jd a=true)(hc:jk a=true):nJ (s,a,())=some (jD s a,()):=by
 show Zs Zt s a=_;unfold Zs jD;rw[Et ha hr,zD]
 cases he:isE a.1 with
 | true=>rfl
 | false =>
  obtain⟨h1,h2,h3,h4⟩:=alO ha hr he hc;have hd:=aBf (Cu h) h1 h2
  have hdo:(doM (lJ s) (rdA a)).2=uE (lJ s) (rdA a):=by
   unfold doM;rw[if_pos h3,h4]
   have:wrM (lJ s) (rdA a)=lJ s:=by
    unfold isE at h4;have h5:=of_decide_eq_false h4;unfold wrM;have h23:(rdA a).1≠23:=by show (if a.1=23 then (3:Int) else a.1)≠23;omega
    simp_all
   simp_all
  have K:Zt s a 0 0 0 0 (if a.1=23 then 3 else a.1) a.2.1 a.2.2.1 0=some ((a.1,(uE (lJ s) (rdA a)).2),()):=by have hd':kL (SP,lJ s,((if a.1=23 then (3:Int) else a.1),a.2.1,a.2.2.1,0,[],[]),())=_:=hd;show Zr aoZ s a 0 0 0 0 _ a.2.1 a.2.2.1 0=_;unfold Zr;simp only[S8,alK h,zD,hd',vN (eqAs_refl mX.rs),aAR (eqAs_refl mX.rs)];show some ((a.1,(doM (lJ s) (rdA a)).2.2),())=_;rw[hdo]
  rw[if_neg (fun e=>Bool.false_ne_true e),if_neg (fun e=>Bool.false_ne_true e)];by_cases e:a.1=23
  ·simp_all[if_pos,au]
  simp_all[if_neg,au]
def jX(w:List Int):TCm×Int :=
 if w.length≠8∨w.getD 7 0≠0∨256≤w.getD 1 0 then ((0,0,0,0,0),2)
 else ((w.getD 0 0,w.getD 1 0,65536*w.getD 2 0+w.getD 3 0,w.getD 4 0,65536*w.getD 5 0+w.getD 6 0),0)
theorem alP{w:List Int}(hr:∀x∈w,0≤x∧x≤65535):G4 (w,())=some ((jX w).1,(jX w).2,()):=by
 show Zx Zy w=_;unfold Zx;by_cases hl:w.length=8
 ·rw[if_neg (fun e=>cu.1 e (by rw[bu];omega))]
  have g:∀k:Nat,k<8->at? w (k:Int)=some (w.getD k 0):=fun k hk=>by obtain⟨x,hx⟩:=iO (xs:=w) (i:=k) (by omega);rw[d9 hx,zW,hx];rfl
  have rg:∀k:Nat,k<8->0≤w.getD k 0∧w.getD k 0≤65535:=fun k hk=>by obtain⟨x,hx⟩:=iO (xs:=w) (i:=k) (by omega);rw[zW,hx];exact hr x (zX hx)
  have g0:at? w 0=some (w.getD 0 0):=g 0 (by omega);have g1:at? w 1=some (w.getD 1 0):=g 1 (by omega);have g2:at? w 2=some (w.getD 2 0):=g 2 (by omega);have g3:at? w 3=some (w.getD 3 0):=g 3 (by omega);have g4:at? w 4=some (w.getD 4 0):=g 4 (by omega);have g5:at? w 5=some (w.getD 5 0):=g 5 (by omega);have g6:at? w 6=some (w.getD 6 0):=g 6 (by omega);have g7:at? w 7=some (w.getD 7 0):=g 7 (by omega)
  have K:∀b,Zy w b (0,0,0,0,0)=some (if b=true then (((0,0,0,0,0):TCm),(2:Int),()) else ((w.getD 0 0,cvt .u8 (w.getD 1 0),65536*w.getD 2 0+w.getD 3 0,w.getD 4 0,65536*w.getD 5 0+w.getD 6 0),0,())):=fun b=>by
   show Zw w b (0,0,0,0,0)=_;unfold Zw
   cases b with
   | true=>rfl
   | false =>
    have r2:=rg 2 (by omega);have r3:=rg 3 (by omega);have r5:=rg 5 (by omega);have r6:=rg 6 (by omega);rw[if_neg (by decide),if_neg (by decide),g0,zD,g1,zD,g2,zD,g3,zD,g4,zD,g5,zD,g6,zD,JW r2.1 r2.2 r3.1 r3.2,zD,JW r5.1 r5.2 r6.1 r6.2,zD]
  rw[g7,zD];unfold jX;by_cases h7:w.getD 7 0=0
  ·rw[if_neg (fun e=>cu.1 e h7),g1,zD,K]
   by_cases h1:256≤w.getD 1 0
   ·rw[if_pos (gU.2 h1),if_pos (Or.inr (Or.inr h1))]
   ·have r1:=rg 1 (by omega)
    rw[if_neg (fun e=>h1 (gU.1 e)),if_neg (by omega),show cvt .u8 (w.getD 1 0)=w.getD 1 0 from wu8 r1.1 (by omega)]
  ·rw[if_pos (cu.2 h7),K,if_pos rfl,if_pos (Or.inr (Or.inl h7))]
 ·rw[if_pos (cu.2 (by rw[bu];omega))]
  unfold jX;rw[if_pos (Or.inl hl)];rfl
def iT(a:TAg)(p:Int)(w:List Int):TAg×Int :=
 if p=272 then
  if (jX w).2≠0 then (a,3) else if (doS (gz a) (jX w).1).2≠0 then (a,4) else ((doS (gz a) (jX w).1).1,0)
 else
  if (rdB w).2.2.2.2≠0 then (a,3) else if (putA (gz a) (rdB w).1 (rdB w).2.1 (rdB w).2.2.1 (rdB w).2.2.2.1).2≠0 then (a,4)
  else ((putA (gz a) (rdB w).1 (rdB w).2.1 (rdB w).2.2.1 (rdB w).2.2.2.1).1,0)
def atW(a:TA):Int:=if a.1=23 then a.2.2.2.1 else a.2.1
def jl(s:TSl)(a:TAg):TSl:=(s.1,s.2.1,a,s.2.2.2)
def qX(s:TSl)(c:List Bool):TSl:=(s.1,s.2.1,s.2.2.1,c)
def jY(s:TSl)(a:TA):TSl×TR :=
 if jk a=false then (s,(a.1,2,[],[],0,0))
 else if a.1=5∨a.1=15 then (qX s (cpy s.2.2.2 a.2.1.toNat a.2.2.2.2.2),jD (qX s (cpy s.2.2.2 a.2.1.toNat a.2.2.2.2.2)) a)
 else if a.2.2.2.2.1.length=0 then (s,jD s a)
 else if (iT s.2.2.1 (atW a) a.2.2.2.2.1).2≠0 then (s,(a.1,(iT s.2.2.1 (atW a) a.2.2.2.2.1).2,[],[],0,0))
 else (jl s (iT s.2.2.1 (atW a) a.2.2.2.2.1).1,jD (jl s (iT s.2.2.1 (atW a) a.2.2.2.2.1).1) a)
theorem BA{w:List Int}(hr:∀x∈w,0≤x∧x≤65535):(0≤(jX w).1.1∧(jX w).1.1≤65535)∧(0≤(jX w).1.2.2.1∧(jX w).1.2.2.1≤4294967295)∧(0≤(jX w).1.2.2.2.1∧(jX w).1.2.2.2.1≤65535):=by
 unfold jX;split
 ·simp
 ·rename_i h
  have rg:∀k:Nat,0≤w.getD k 0∧w.getD k 0≤65535:=fun k=>by
   rw[zW]
   cases hx:w[k]? with
   | none=>simp
   | some x=>exact hr x (zX hx)
  grind
theorem J3{w:List Int}(hr:∀x∈w,0≤x∧x≤65535)(h:(rdB w).2.2.2.2=0):(0≤(rdB w).1∧(rdB w).1≤65535)∧(0≤(rdB w).2.2.1∧(rdB w).2.2.1≤7)∧fitsB (rdB w).2.2.2.1=true∧(∀x∈(rdB w).2.2.2.1.2,0≤x∧x≤65535):=by
 have rg:∀k:Nat,0≤w.getD k 0∧w.getD k 0≤65535:=fun k=>by
  rw[zW]
  cases hx:w[k]? with
  | none=>simp
  | some x=>exact hr x (zX hx)
 unfold rdB at h ⊢;grind
theorem BD{a:TAg}(h:OkG a){p:Int}{w:List Int}(hr:∀x∈w,0≤x∧x≤65535):OkG (iT a p w).1:=by
 unfold iT;split
 ·split
  ·exact h
  ·split
   ·exact h
   ·obtain⟨r1,r2,r3⟩:=BA hr
    exact h.own.doS r1 r2 r3
 ·split
  ·exact h
  ·rename_i q
   obtain⟨r1,r2,r3,r4⟩:=J3 hr (Classical.not_not.1 q);split
   ·exact h
   ·exact h.own.putA r1 r3 r4
theorem Eu{s:TSl}(h:OkS s){a:TA}(ha:OkA a)(hr:jd a=true):OkS (jY s a).1:=by
 unfold jY;split
 ·exact h
 ·rename_i hc
  have hc:jk a=true:=by simp_all
  have hw:=(alM (Cu h) ha hr hc).c;split
  ·rename_i q
   unfold wrM at hw;rw[if_pos q]at hw;exact⟨h.u,h.l,h.a,hw⟩
  ·split
   ·exact h
   ·split
    ·exact h
    ·exact⟨h.u,h.l,BD h.a ha.w,h.c⟩
theorem eight{α:Type}{l:List α}(h:l.length=8):∃a b c d e f g i,l=[a,b,c,d,e,f,g,i]:=by
 match l,h with
 | [a,b,c,d,e,f,g,i],_=>simp
theorem FD{α:Type}{l:List α}{z:α}(h:l.length=8):[l.getD 0 z,l.getD 1 z,l.getD 2 z,l.getD 3 z,l.getD 4 z,l.getD 5 z,l.getD 6 z,l.getD 7 z]=l:=by obtain⟨a,b,c,d,e,f,g,i,rfl⟩:=eight h;rfl
theorem qY{a:TAg}(h1:a.2.2.2.2.2.1.2.1.length=8)(h2:a.2.2.2.2.2.1.2.2.length=8):gV a=a:=by unfold gV;grind[FD]
def aj8(x:Int)(s:TSl)(a:TA):Option (As uj.rs) :=
 aaV x s.2.2.2 s.1 s.2.1 s.2.2.1.1 s.2.2.1.2.1.1 s.2.2.1.2.1.2 s.2.2.1.2.2.1 s.2.2.1.2.2.2.1 s.2.2.1.2.2.2.2.1 s.2.2.1.2.2.2.2.2.1.1
  (s.2.2.1.2.2.2.2.2.1.2.1.getD 0 false) (s.2.2.1.2.2.2.2.2.1.2.1.getD 1 false) (s.2.2.1.2.2.2.2.2.1.2.1.getD 2 false) (s.2.2.1.2.2.2.2.2.1.2.1.getD 3 false) (s.2.2.1.2.2.2.2.2.1.2.1.getD 4 false) (s.2.2.1.2.2.2.2.2.1.2.1.getD 5 false) (s.2.2.1.2.2.2.2.2.1.2.1.getD 6 false) (s.2.2.1.2.2.2.2.2.1.2.1.getD 7 false)
  (s.2.2.1.2.2.2.2.2.1.2.2.getD 0 (0,[])).1 (s.2.2.1.2.2.2.2.2.1.2.2.getD 0 (0,[])).2 (s.2.2.1.2.2.2.2.2.1.2.2.getD 1 (0,[])).1 (s.2.2.1.2.2.2.2.2.1.2.2.getD 1 (0,[])).2 (s.2.2.1.2.2.2.2.2.1.2.2.getD 2 (0,[])).1 (s.2.2.1.2.2.2.2.2.1.2.2.getD 2 (0,[])).2 (s.2.2.1.2.2.2.2.2.1.2.2.getD 3 (0,[])).1 (s.2.2.1.2.2.2.2.2.1.2.2.getD 3 (0,[])).2 (s.2.2.1.2.2.2.2.2.1.2.2.getD 4 (0,[])).1 (s.2.2.1.2.2.2.2.2.1.2.2.getD 4 (0,[])).2 (s.2.2.1.2.2.2.2.2.1.2.2.getD 5 (0,[])).1 (s.2.2.1.2.2.2.2.2.1.2.2.getD 5 (0,[])).2 (s.2.2.1.2.2.2.2.2.1.2.2.getD 6 (0,[])).1 (s.2.2.1.2.2.2.2.2.1.2.2.getD 6 (0,[])).2 (s.2.2.1.2.2.2.2.2.1.2.2.getD 7 (0,[])).1 (s.2.2.1.2.2.2.2.2.1.2.2.getD 7 (0,[])).2
  s.2.2.1.2.2.2.2.2.2 0 0 0 0 0 0 0 0 false false false false false false false false 0 0 0 0 0 0 0 0 0 0 0 0 0 a
abbrev RS:=Option (As uj.rs)
def Ew(s:TSl)(a:TA)(p:Int):RS :=
 if eqi 272 p=true then zC (G4 (a.2.2.2.2.1,())) fun y=>if nei y.2.1 0=true then zC (ko (a.1,3,())) fun y=>some (s,y.1,()) else amb (av uj.rs) [zC (xS (s.2.2.1,y.1,())) fun y=>if nei y.2.1 0=true then zC (ko (a.1,4,())) fun y=>some (s,y.1,()) else zC (nJ (jl s (gV y.1),a,())) fun y_1=>some (jl s (gV y.1),y_1.1,()),zC (xS (s.2.2.1,y.1,())) fun y=>if nei y.2.1 0=true then zC (ko (a.1,4,())) fun y=>some (s,y.1,()) else zC (nJ (jl s (gV y.1),a,())) fun y_1=>some (jl s (gV y.1),y_1.1,())]
 else if eqi 288 p=true then zC (Gu (a.2.2.2.2.1,())) fun y=>if nei y.2.2.2.2.1 0=true then zC (ko (a.1,3,())) fun y=>some (s,y.1,()) else amb (av uj.rs) [zC (xU (s.2.2.1,y.1,y.2.1,y.2.2.1,y.2.2.2.1,())) fun y=>if nei y.2.1 0=true then zC (ko (a.1,4,())) fun y=>some (s,y.1,()) else zC (nJ (jl s (gV y.1),a,())) fun y_1=>some (jl s (gV y.1),y_1.1,()),zC (xU (s.2.2.1,y.1,y.2.1,y.2.2.1,y.2.2.2.1,())) fun y=>if nei y.2.1 0=true then zC (ko (a.1,4,())) fun y=>some (s,y.1,()) else zC (nJ (jl s (gV y.1),a,())) fun y_1=>some (jl s (gV y.1),y_1.1,())]
 else zC (ko (a.1,2,())) fun y=>some (s,y.1,())
def aj9(s:TSl)(a:TA):RS:=if le (add .i64 (cvt .i64 a.2.1) (zF a.2.2.2.2.2.length)) (zF s.2.2.2.length)=true then need (ge a.2.1 0) (need (le a.2.1 (zF s.2.2.2.length)) (need (le (zF s.2.2.2.length) (zF s.2.2.2.length)) (need (le (a.2.1+(zF s.2.2.2.length - a.2.1)) (zF s.2.2.2.length)) (zC (nJ (qX s (s.2.2.2.take (zI a.2.1)++a.2.2.2.2.2.take (zI (zF s.2.2.2.length - a.2.1))++s.2.2.2.drop (zI a.2.1+(a.2.2.2.2.2.take (zI (zF s.2.2.2.length - a.2.1))).length)),a,())) fun y=>some (qX s (s.2.2.2.take (zI a.2.1)++a.2.2.2.2.2.take (zI (zF s.2.2.2.length - a.2.1))++s.2.2.2.drop (zI a.2.1+(a.2.2.2.2.2.take (zI (zF s.2.2.2.length - a.2.1))).length)),y.1,()))))) else zC (nJ (s,a,())) fun y=>some (s,y.1,())
theorem alQ{x:Int}{s:TSl}{a:TA}(h1:s.2.2.1.2.2.2.2.2.1.2.1.length=8)(h2:s.2.2.1.2.2.2.2.2.1.2.2.length=8):aj8 x s a =
  if nei x 0=true then zC (ko (a.1,x,())) fun y=>some (s,y.1,())
  else if eqi a.1 5=true then aj9 s a
  else if eqi a.1 15=true then aj9 s a
  else if eqi (zF a.2.2.2.2.1.length) 0=true then zC (nJ (s,a,())) fun y=>some (s,y.1,())
  else if eqi a.1 23=true then Ew s a a.2.2.2.1
  else Ew s a a.2.1:=by
 obtain⟨u,l,⟨bk,⟨lo,lf⟩,ph,tx,la,⟨st,hv,bs⟩,tk⟩,co⟩:=s;obtain⟨b0,b1,b2,b3,b4,b5,b6,b7,e1⟩:=eight h1;obtain⟨c0,c1,c2,c3,c4,c5,c6,c7,e2⟩:=eight h2;dsimp only at e1 e2;subst e1 e2;rfl
theorem atf{r:TR}(h:RR r):nY r=true:=by
 cases h with
 | ex f e h0 h h1 h2=>exact (uY h0 h h1 h2).rt
 | bits f l hf h1 h2 h3 =>
  have hb:uw (f,0,l,[],0,0)=true:=by unfold uw;dsimp only;rw[decide_eq_true h1,decide_eq_true h2,decide_eq_true h3,decide_eq_true rfl];rfl
  rcases hf with rfl | rfl<;>exact hb
 | words f l hf h1 h2 =>
  have hb:pI (f,0,[],l,0,0)=true:=by unfold pI;dsimp only;rw[decide_eq_true h1,decide_eq_true h2,decide_eq_true rfl];rfl
  rcases hf with rfl | rfl | rfl<;>exact hb
 | coil b p =>
  show obR (5,0,[b],[],p,0)=true;unfold obR;rw[decide_eq_true rfl];rfl
 | word x p =>
  show owR (6,0,[],[x],p,0)=true;unfold owR;rw[decide_eq_true rfl];rfl
 | coils p n h1 h2 =>
  show ctR 1968 (15,0,[],[],p,n)=true;unfold ctR;dsimp only;rw[decide_eq_true h1,decide_eq_true h2,decide_eq_true rfl];rfl
 | regs p n h1 h2 =>
  show ctR 123 (16,0,[],[],p,n)=true;unfold ctR;dsimp only;rw[decide_eq_true h1,decide_eq_true h2,decide_eq_true rfl];rfl
theorem rR{r:TR}(h:OkR r)(hr:RR r):Rep r:=⟨h,hr,atf hr⟩
theorem US{x:fq}(hf:fitsB x=true->∀w∈x.2,0≤w∧w≤65535):∀w∈itB x,0≤w∧w≤65535:=by
 intro w hw;unfold itB at hw;split at hw
 ·rename_i h
  have h2:=of_decide_eq_true h;grind
 simp_all
theorem alR{s:jH}{o n:Int}(ho:0≤o∧o≤65535)(hn:0≤n∧n≤7)(ht:0≤s.1∧s.1≤4294967295)(hw:∀b∈s.2.2,∀w∈b.2,0≤w∧w≤65535):∀w∈iU s o n,0≤w∧w≤65535:=by
 intro w hm;unfold iU at hm;split at hm
 ·rename_i x h1 h2
  unfold SQ at hm;rcases List.mem_cons.1 hm with e | hm
  ·omega
  ·rcases List.mem_cons.1 hm with e | hm
   ·omega
   ·rcases List.mem_cons.1 hm with e | hm
    ·omega
    ·rcases List.mem_cons.1 hm with e | hm
     ·omega
     ·exact US (fun _=>hw x (zX h2)) w hm
 simp_all
theorem KC{a:TAg}(h:OkG a):∀w∈gD a,0≤w∧w≤65535:=by
 intro w hw;have h1:=h.l1;have h2:=h.pr;have h3:=h.tr;have h4:=h.ar;have hc:a.2.2.2.2.2.1.2.1.count true≤8:=by have:=List.count_le_length (a:=true) (l:=a.2.2.2.2.2.1.2.1);have:=h.hl;omega
 simp only[gD,List.mem_cons,List.not_mem_nil,or_false]at hw;omega
theorem OkG.st{a:TAg}(h:OkG a):0≤a.2.2.2.2.2.1.1∧a.2.2.2.2.2.1.1≤4294967295:=by
 by_cases e:a.2.2.1=0
 ·have:=(h.p0 e).2.2.1;omega
 ·have:=(h.pn e).2.2;have:=h.tr;omega
theorem alS{a:TAg}(h:OkG a):∀w∈lN a,0≤w∧w≤65535:=by
 have hg:∀k:Nat,k≤8->∀w∈(List.range k).foldl (fun h b=>cpy h (512+b*32) (iU a.2.2.2.2.2.1 a.2.1.1 (b:Int))) (cpy (cpy (zE 756 0) 0 a.1) 256 (gD a)),0≤w∧w≤65535:=by
  intro k
  induction k with
  | zero =>
   intro _;rw[List.range_zero,List.foldl_nil];exact JZ (P:=fun y=>0≤y∧y≤65535) (JZ (P:=fun y=>0≤y∧y≤65535) (fun y hy=>by simp_all) h.bw) (KC h)
  | succ k ih =>
   intro hk;rw[List.range_succ,List.foldl_append,List.foldl_cons,List.foldl_nil];exact JZ (P:=fun y=>0≤y∧y≤65535) (ih (by omega)) (alR h.l1 ⟨by omega,by omega⟩ h.st h.wb)
 exact hg 8 (by omega)
theorem FE{c:List Bool}{p n:Nat}(h:p+n≤c.length):(kJ c p n).length=(n+7) / 8*8:=by grind[kJ,zY,kA,List.length_drop,kC]
theorem rT{f:Int}(h0:0≤f)(h1:f≤255){b:List Bool}{w:List Int}(hb:b.length≤100000)(hw:∀x∈w,0≤x∧x≤65535)(hl:w.length≤100000):OkR (f,0,b,w,0,0) :=
 ⟨h0,h1,(by decide:(0:Int)≤0),(by decide:(0:Int)≤255),hw,(by decide:(0:Int)≤0),(by decide:(0:Int)≤65535),(by decide:(0:Int)≤0),(by decide:(0:Int)≤65535),hb,hl⟩
theorem Tj:∀x∈([]:List Int),0≤x∧x≤65535:=fun x hx=>by cases hx
theorem rU{s:TSl}(h:OkS s){a:TA}(ha:OkA a)(hr:jd a=true)(hc:jk a=true):Rep (jD s a):=by
 have p0:=ha.at0;have p1:=ha.at1;have hcl:=h.c;have hil:=Tc s.2.2.1;have hhl:=KB h.a;have hhr:=alS h.a;have hsr:=KC h.a;unfold jk at hc
 cases kM hr with
 | bits f p n hf g1 g2 =>
  obtain⟨p,rfl⟩:=zN (show 0≤p from p0);obtain⟨n,rfl⟩:=zN (show 0≤n by omega);rcases hf with rfl | rfl
  ·have hc:(p:Int)+(n:Int)≤16:=of_decide_eq_true hc
   have hl:=FE (c:=s.2.2.2) (p:=p) (n:=n) (by omega);exact rR (rT (f:=1) (by decide) (by decide) (by show (kJ s.2.2.2 p n).length≤_;omega) Tj (by decide)) (.bits 1 _ (Or.inl rfl) (by show 8≤(kJ s.2.2.2 p n).length;omega) (by show (kJ s.2.2.2 p n).length≤2000;omega) (by show (kJ s.2.2.2 p n).length%8=0;omega))
  ·have hc:(p:Int)+(n:Int)≤8:=of_decide_eq_true hc
   have hl:=FE (c:=o7 s.2.2.1) (p:=p) (n:=n) (by omega);exact rR (rT (f:=2) (by decide) (by decide) (by show (kJ (o7 s.2.2.1) p n).length≤_;omega) Tj (by decide)) (.bits 2 _ (Or.inr rfl) (by show 8≤(kJ (o7 s.2.2.1) p n).length;omega) (by show (kJ (o7 s.2.2.1) p n).length≤2000;omega) (by show (kJ (o7 s.2.2.1) p n).length%8=0;omega))
 | words f p n hf g1 g2 =>
  obtain⟨p,rfl⟩:=zN (show 0≤p from p0);obtain⟨n,rfl⟩:=zN (show 0≤n by omega);rcases hf with rfl | rfl
  ·have hle:=FC (p:=(p:Int)) (m:=n) (by omega) hc
   have hl:((lN s.2.2.1).drop p |>.take n).length=n:=by grind
   exact rR (rT (f:=3) (by decide) (by decide) (by decide) (fun x hx=>hhr x (List.mem_of_mem_drop (List.mem_of_mem_take hx))) (by show ((lN s.2.2.1).drop p |>.take n).length≤_;omega)) (.words 3 _ (Or.inl rfl) (by show 1≤((lN s.2.2.1).drop p |>.take n).length;omega) (by show ((lN s.2.2.1).drop p |>.take n).length≤125;omega))
  ·have hc:(p:Int)+(n:Int)≤8:=of_decide_eq_true hc
   have hl:((gD s.2.2.1).drop p |>.take n).length=n:=by rw[kA,List.length_drop];show min n (8 - p)=n;omega
   exact rR (rT (f:=4) (by decide) (by decide) (by decide) (fun x hx=>hsr x (List.mem_of_mem_drop (List.mem_of_mem_take hx))) (by show ((gD s.2.2.1).drop p |>.take n).length≤_;omega)) (.words 4 _ (Or.inr (Or.inl rfl)) (by show 1≤((gD s.2.2.1).drop p |>.take n).length;omega) (by show ((gD s.2.2.1).drop p |>.take n).length≤125;omega))
 | coil p b =>
  exact rR ⟨(by decide:(0:Int)≤5),(by decide:(5:Int)≤255),(by decide:(0:Int)≤0),(by decide:(0:Int)≤255),Tj,p0,p1,(by decide:(0:Int)≤0),(by decide:(0:Int)≤65535),(by decide:1≤100000),(by decide:0≤100000)⟩ (.coil b p)
 | word p x =>
  simp_all
 | coils p l g1 g2 =>
  exact rR ⟨(by decide:(0:Int)≤15),(by decide:(15:Int)≤255),(by decide:(0:Int)≤0),(by decide:(0:Int)≤255),Tj,p0,p1,by show (0:Int)≤(l.length:Int);omega,by show (l.length:Int)≤65535;omega,(by decide:0≤100000),(by decide:0≤100000)⟩ (.coils p (l.length:Int) (by omega) (by omega))
 | regs p l g1 g2 =>
  exact rR ⟨(by decide:(0:Int)≤16),(by decide:(16:Int)≤255),(by decide:(0:Int)≤0),(by decide:(0:Int)≤255),Tj,p0,p1,by show (0:Int)≤(l.length:Int);omega,by show (l.length:Int)≤65535;omega,(by decide:0≤100000),(by decide:0≤100000)⟩ (.regs p (l.length:Int) (by omega) (by omega))
 | swap p n t l g1 g2 g3 g4 =>
  obtain⟨p,rfl⟩:=zN (show 0≤p from p0);obtain⟨n,rfl⟩:=zN (show 0≤n by omega);have hc1:=(zO _ _ ▸ (show (rdH (p:Int) n && decide (t=272∧l.length=8∨t=288∧l.length=20))=true from hc):_∧_).1;have hle:=FC (p:=(p:Int)) (m:=n) (by omega) hc1;have hl:((lN s.2.2.1).drop p |>.take n).length=n:=by grind
  exact rR (rT (f:=23) (by decide) (by decide) (by decide) (fun x hx=>hhr x (List.mem_of_mem_drop (List.mem_of_mem_take hx))) (by show ((lN s.2.2.1).drop p |>.take n).length≤_;omega)) (.words 23 _ (Or.inr (Or.inr rfl)) (by show 1≤((lN s.2.2.1).drop p |>.take n).length;omega) (by show ((lN s.2.2.1).drop p |>.take n).length≤125;omega))
theorem alT(a:TAg)(p:Int)(w:List Int):(iT a p w).2=0∨(iT a p w).2=3∨(iT a p w).2=4:=by unfold iT;grind
theorem aOO{a:TA}(h:¬ jk a=false):jk a=true:=by simp_all
theorem KD{s:TSl}(h:OkS s){a:TA}(ha:OkA a)(hr:jd a=true):Rep (jY s a).2:=by
 have hf:=qW hr;have ok:=Eu h ha hr;unfold jY at ok ⊢;split
 ·grind[uY]
 ·rename_i hc
  rw[if_neg hc]at ok;have hc:=aOO hc;split
  ·simp_all[if_pos,rU]
  ·rename_i q
   rw[if_neg q]at ok;split
   ·simp_all[rU]
   ·rename_i q2
    rw[if_neg q2]at ok;split
    ·grind[alT,atW,uY]
    simp_all[if_neg,rU]
theorem aBg{s:TSl}(h:OkS s){a:TA}(ha:OkA a)(hr:jd a=true)(hc:jk a=true){p:Int}(hp:p=272∨p=288) :
  Ew s a p=some (if (iT s.2.2.1 p a.2.2.2.2.1).2≠0 then (s,(a.1,(iT s.2.2.1 p a.2.2.2.2.1).2,[],[],0,0),()) else (jl s (iT s.2.2.1 p a.2.2.2.2.1).1,jD (jl s (iT s.2.2.1 p a.2.2.2.2.1).1) a,())):=by
 have hf:=qW hr;have w4:∀e,ko (a.1,e,())=some ((a.1,e,[],[],0,0),()):=fun e=>by grind[yJ,rP]
 have hok:=BD h.a (p:=p) ha.w;have fin:∀g:TAg,OkG g->zC (nJ (jl s (gV g),a,())) (fun y_1=>some (jl s (gV g),y_1.1,()))=(some (jl s g,jD (jl s g) a,()):RS):=fun g hg=>by rw[qY hg.hl hg.sl,yL (s:=jl s g) ⟨h.u,h.l,hg,h.c⟩ ha hr hc];rfl
 unfold Ew iT at *;by_cases e:p=272
 ·rw[if_pos e]at hok
  rw[if_pos (au.2 e.symm),if_pos e,alP ha.w,zD,vN (eqAs_refl _)];obtain⟨r1,r2,r3⟩:=BA ha.w;dsimp only;by_cases q1:(jX a.2.2.2.2.1).2≠0
  ·simp_all[if_pos,cu]
  ·rw[if_neg q1]at hok
   rw[if_neg (fun x=>q1 (cu.1 x)),if_neg q1,aBa h.a r3,zD];dsimp only;by_cases q2:(doS (gz s.2.2.1) (jX a.2.2.2.2.1).1).2≠0
   ·simp_all[if_pos,cu]
   simp_all[if_neg,cu]
 ·have e2:p=288:=by omega
  rw[if_neg e]at hok;rw[if_neg (fun x=>e (au.1 x).symm),if_pos (au.2 e2.symm),if_neg e,ata ha.w,zD,vN (eqAs_refl _)];dsimp only;by_cases q1:(rdB a.2.2.2.2.1).2.2.2.2≠0
  ·simp_all[if_pos,cu]
  ·rw[if_neg q1]at hok
   obtain⟨r1,r2,r3,r4⟩:=J3 ha.w (Classical.not_not.1 q1);rw[if_neg (fun x=>q1 (cu.1 x)),if_neg q1,ay2 h.a r2 r3,zD];dsimp only;by_cases q2:(putA (gz s.2.2.1) (rdB a.2.2.2.2.1).1 (rdB a.2.2.2.2.1).2.1 (rdB a.2.2.2.2.1).2.2.1 (rdB a.2.2.2.2.1).2.2.2.1).2≠0
   ·simp_all[if_pos,cu]
   simp_all[if_neg,cu]
theorem alU{s:TSl}(h:OkS s){a:TA}(ha:OkA a)(hr:jd a=true)(hc:jk a=true)(hf:a.1=5∨a.1=15):aj9 s a=some (qX s (cpy s.2.2.2 a.2.1.toNat a.2.2.2.2.2),jD (qX s (cpy s.2.2.2 a.2.1.toNat a.2.2.2.2.2)) a,()):=by
 have ok:=Eu h ha hr;unfold jY at ok;rw[if_neg (by simp_all),if_pos hf]at ok;have p0:=ha.at0;have p1:=ha.at1;have hcl:=h.c;have lb:=ha.lb;have hle:=hc;unfold jk at hle;rw[if_neg (by omega),if_neg (by omega),if_neg (by omega),if_pos hf,decide_eq_true_eq]at hle;unfold aj9;have e1:add .i64 (cvt .i64 a.2.1) (zF a.2.2.2.2.2.length)=a.2.1+(a.2.2.2.2.2.length:Int):=by grind[gM,bu,iF]
 rw[e1,if_pos (gT.2 (by simp_all)),gy (gU.2 p0),gy (gT.2 (by grind)),gy (gT.2 (Int.le_refl _)),gy (gT.2 (by omega)),ou (by grind),yL ok ha hr hc];rfl
theorem atg{s:TSl}(h:OkS s){a:TA}(ha:OkA a)(hr:jd a=true):aj8 (if jk a=true then 0 else 2) s a=some ((jY s a).1,(jY s a).2,()):=by
 have hf:=qW hr;have w4:∀e,ko (a.1,e,())=some ((a.1,e,[],[],0,0),()):=fun e=>by grind[yJ,rP]
 rw[alQ h.a.hl h.a.sl];unfold jY
 cases hc:jk a with
 | false =>
  simp_all[Bool.false_eq_true,if_false,if_true,if_pos,nei]
 | true =>
  simp only[if_true,Bool.true_eq_false,if_false];rw[if_neg (show ¬ nei 0 0=true by decide)];by_cases q5:a.1=5
  ·simp_all[if_pos,au,alU,Or.inl]
  ·rw[if_neg (fun e=>q5 (au.1 e))]
   by_cases q15:a.1=15
   ·simp_all[if_pos,au,alU,Or.inr]
   ·rw[if_neg (fun e=>q15 (au.1 e)),if_neg (show ¬ (a.1=5∨a.1=15) by omega)]
    by_cases q0:a.2.2.2.2.1.length=0
    ·rw[if_pos (au.2 (by simp_all)),if_pos q0,yL h ha hr hc]
     rfl
    ·rw[if_neg (fun e=>q0 (by simp_all[au,bu])),if_neg q0]
     have hp:atW a=272∨atW a=288:=by
      have hc2:=hc;unfold jk at hc2
      have hc3:¬ (a.1=1∨a.1=2∨a.1=3∨a.1=4):=by
       intro e;apply q0
       cases kM hr with
       | bits f p n hf=>rfl
       | words f p n hf=>rfl
       | coil p b=>rfl
       | word p x=>omega
       | coils p l=>rfl
       | regs p l=>omega
       | swap p n t l=>omega
      rw[if_neg (by omega),if_neg (by omega),if_neg (by omega),if_neg (by omega)]at hc2;unfold atW;grind
     have hcm:=aBg h ha hr hc hp
     have e2:(if eqi a.1 23=true then Ew s a a.2.2.2.1 else Ew s a a.2.1)=Ew s a (atW a):=by
      unfold atW;by_cases q23:a.1=23
      ·simp_all[if_pos,au]
      simp_all[if_neg,au]
     grind
def iQ(b:List Int):TA×Int:=((xL (b,())).map fun y=>(y.1,y.2.1)).getD (zA,1)
theorem FF{b:List Int}(hb:∀x∈b,0≤x∧x≤255):xL (b,())=some ((iQ b).1,(iQ b).2,()) ∧
  (((iQ b).2=0∧OkA (iQ b).1∧jd (iQ b).1=true∧toS (jc (iQ b).1)=toS b)∨(((iQ b).2=1∨(iQ b).2=3)∧(iQ b).1=(b.headD 0,0,0,0,[],[]))):=by
 match b with
 | []=>exact⟨rfl,Or.inr ⟨Or.inl rfl,rfl⟩⟩
 | f::r =>
  obtain⟨a,e,h1,h2⟩:=asY hb;simp_all[iQ]
def gK(s:TSl)(b:List Int):TSl×TR:=if (iQ b).2≠0 then (s,(rem (b.headD 0) 128,(iQ b).2,[],[],0,0)) else jY s (iQ b).1
theorem ath{b:List Int}(hb:∀x∈b,0≤x∧x≤255):0≤b.headD 0∧b.headD 0≤255:=by
 match b with
 | []=>simp
 | f::r=>simp_all
theorem ay4{x:Int}(h0:0≤x):0≤rem x 128∧rem x 128<128:=by grind[rem,kB]
theorem mR{s:TSl}(h:OkS s){b:List Int}(hb:∀x∈b,0≤x∧x≤255):OkS (gK s b).1∧Rep (gK s b).2:=by unfold gK;obtain⟨_,h2⟩:=FF hb;grind[ay4,ath,uY,Eu,KD]
theorem alV{s:TSl}(h:OkS s):aa4 (s,())=some (s.1,s.2.1,s.2.2.1.1,s.2.2.1.2.1.1,s.2.2.1.2.1.2,s.2.2.1.2.2.1,s.2.2.1.2.2.2.1,s.2.2.1.2.2.2.2.1,s.2.2.1.2.2.2.2.2.1.1,
  s.2.2.1.2.2.2.2.2.1.2.1.getD 0 false,s.2.2.1.2.2.2.2.2.1.2.1.getD 1 false,s.2.2.1.2.2.2.2.2.1.2.1.getD 2 false,s.2.2.1.2.2.2.2.2.1.2.1.getD 3 false,s.2.2.1.2.2.2.2.2.1.2.1.getD 4 false,s.2.2.1.2.2.2.2.2.1.2.1.getD 5 false,s.2.2.1.2.2.2.2.2.1.2.1.getD 6 false,s.2.2.1.2.2.2.2.2.1.2.1.getD 7 false,
  (s.2.2.1.2.2.2.2.2.1.2.2.getD 0 (0,[])).1,(s.2.2.1.2.2.2.2.2.1.2.2.getD 0 (0,[])).2,(s.2.2.1.2.2.2.2.2.1.2.2.getD 1 (0,[])).1,(s.2.2.1.2.2.2.2.2.1.2.2.getD 1 (0,[])).2,(s.2.2.1.2.2.2.2.2.1.2.2.getD 2 (0,[])).1,(s.2.2.1.2.2.2.2.2.1.2.2.getD 2 (0,[])).2,(s.2.2.1.2.2.2.2.2.1.2.2.getD 3 (0,[])).1,(s.2.2.1.2.2.2.2.2.1.2.2.getD 3 (0,[])).2,(s.2.2.1.2.2.2.2.2.1.2.2.getD 4 (0,[])).1,(s.2.2.1.2.2.2.2.2.1.2.2.getD 4 (0,[])).2,(s.2.2.1.2.2.2.2.2.1.2.2.getD 5 (0,[])).1,(s.2.2.1.2.2.2.2.2.1.2.2.getD 5 (0,[])).2,(s.2.2.1.2.2.2.2.2.1.2.2.getD 6 (0,[])).1,(s.2.2.1.2.2.2.2.2.1.2.2.getD 6 (0,[])).2,(s.2.2.1.2.2.2.2.2.1.2.2.getD 7 (0,[])).1,(s.2.2.1.2.2.2.2.2.1.2.2.getD 7 (0,[])).2,
  s.2.2.1.2.2.2.2.2.2,s.2.2.2,()):=by
 have hw:∀i,((s.2.2.1.2.2.2.2.2.1.2.2.getD i (0,[])).2).length≤1000000:=fun i=>by
  rw[zW]
  cases hx:s.2.2.1.2.2.2.2.2.1.2.2[i]? with
  | none=>simp
  | some x=>have:=h.a.bb x (zX hx);grind
 have hc:=h.c;have hbl:=h.a.bl;show aa3 s=_;unfold aa3;rw[yK (by omega),zD,pW (by omega),zD,pW (hw 0),zD,pW (hw 1),zD,pW (hw 2),zD,pW (hw 3),zD,pW (hw 4),zD,pW (hw 5),zD,pW (hw 6),zD,pW (hw 7),zD]
theorem yM{s:TSl}(h:OkS s){b:List Int}(hb:∀x∈b,0≤x∧x≤255):xZ (s,b,())=some ((gK s b).1,iM (gK s b).2,()):=by
 obtain⟨ok,rp⟩:=mR h hb;obtain⟨h1,h2⟩:=FF hb;show apZ s b=_;unfold apZ;rw[alV h,zD]
 have key:zC (xL (b,())) (fun y=>if eqi y.2.1 0=true then zC (uh ()) fun y_1=>zC (Dw (y_1.1,y.1,())) fun y_2=>aj8 y_2.1 s y.1 else aj8 y.2.1 s y.1)=some ((gK s b).1,(gK s b).2,()):=by
  rw[h1,zD];dsimp only;unfold gK;rcases h2 with ⟨e,ha,hr,_⟩ | ⟨e,e2⟩
  ·rw[if_pos (au.2 e),S8,zD,S9 ha hr,zD,if_neg (show ¬ ((iQ b).2≠0) by omega)]
   grind[atg]
  ·have hne:(iQ b).2≠0:=by omega
   rw[if_neg (fun x=>hne (au.1 x)),if_pos hne,alQ h.a.hl h.a.sl,if_pos (cu.2 hne),e2,yJ];rfl
 refine (congrArg (fun z=>zC z fun y=>zC (DR (y.2.1,())) fun y_1=>(some (y.1,y_1.1,()):Option (As Qt.rs))) key).trans ?_;rw[zD,alJ rp];rfl
end Go.Proofs.Lx
end
noncomputable section
namespace Go.Proofs.Lx
open Go Ev Sx
set_option maxRecDepth 100000
theorem J4:Hw ()=some (true,()):=by kernel_rfl
end Go.Proofs.Lx
end
noncomputable section
namespace Go.Proofs.Lx
open Go Ev Sx Pl
set_option maxRecDepth 100000
theorem KE{a b:List Int}(h:a.length≤1000000):Di (a,b,())=some (decide (a=b),()):=by
 show WI OM a b=_;unfold WI;by_cases hl:a.length=b.length
 ·rw[if_neg (by simp_all[cu,bu])]
  unfold OM;have hz:(a.zip b).length=a.length:=by simp_all
  rw[<- wo (ne:=nei) (fun a b=>by rfl) a b hl];refine oH (xs:=a.zip b) (mk:=fun i _=>(a,b,zF a.length,(i:Int))) ?_ ?_ a.length 0 () _ (by omega) (by omega)
  ·intro self i acc x hx
   have hi:=(List.getElem?_eq_some_iff.1 hx).1;obtain⟨h1,h2⟩:=Bt hl hx;show OL _ a b (zF a.length) (i:Int)=_;unfold OL;rw[if_pos (by grind[cr,bu]),d9 h1,zD,d9 h2,zD,gJ (by omega)]
  simp_all[OL,zF,Nat,Int,if_neg,cr,bu]
 ·rw[if_pos (by grind[cu,bu]),decide_eq_false (fun e=>hl (by rw[e]))]
theorem Tm{a b:List Bool}(h:a.length≤1000000):Mc (a,b,())=some (decide (a=b),()):=by
 show Mb QK a b=_;unfold Mb;by_cases hl:a.length=b.length
 ·rw[if_neg (by simp_all[cu,bu])]
  unfold QK;have hz:(a.zip b).length=a.length:=by simp_all
  rw[<- wo (ne:=neb) (fun a b=>by rfl) a b hl];refine oH (xs:=a.zip b) (mk:=fun i _=>(a,b,zF a.length,(i:Int))) ?_ ?_ a.length 0 () _ (by omega) (by omega)
  ·intro self i acc x hx
   have hi:=(List.getElem?_eq_some_iff.1 hx).1;obtain⟨h1,h2⟩:=Bt hl hx;show QJ _ a b (zF a.length) (i:Int)=_;unfold QJ;rw[if_pos (by grind[cr,bu]),d9 h1,zD,d9 h2,zD,gJ (by omega)]
  simp_all[QJ,zF,Nat,Int,if_neg,cr,bu]
 ·rw[if_pos (by grind[cu,bu]),decide_eq_false (fun e=>hl (by rw[e]))]
theorem yN{s:TSl}(h:OkS s):DK (s,())=some (s,()):=by
 have hc:=h.c;have hbl:=h.a.bl;obtain⟨u,l,⟨bk,ls,ph,tx,la,⟨st,hv,bs⟩,tk⟩,co⟩:=s;have hsl:bs.length=8:=h.a.sl;have hbb:∀b∈bs,b.2.length≤1000:=h.a.bb;show aa1 Hl (u,l,(bk,ls,ph,tx,la,(st,hv,bs),tk),co)=_;unfold aa1;dsimp only at hc hbl ⊢;rw[ald (by omega),zD,pW (by omega),zD];show Hl 0 0 0 [(u,l,(bk,ls,ph,tx,la,(st,hv,bs),tk),co)] _=_;unfold Hl;refine jV (N:=8) (mk:=fun i=>(0,0,(i:Int),[(u,l,(bk,ls,ph,tx,la,(st,hv,bs),tk),co)],_)) ?_ ?_ 8 0 _ (by omega) (by omega)
 ·intro self i hi
  show aa0 _ 0 0 (i:Int) [(u,l,(bk,ls,ph,tx,la,(st,hv,bs),tk),co)] _=_;obtain⟨b,hb⟩:=iO (xs:=bs) (i:=i) (by omega);have l8:lt (i:Int) 8=true:=cr.2 (by omega);have g0:ge (i:Int) 0=true:=gU.2 (by omega);have hset:bs.set i (b.1,b.2)=bs:=by apply List.ext_getElem?;grind
  unfold aa0;rw[if_pos l8,gy g0,gy l8,kI,zD];grind[d9,pW,zX,gJ,zP]
 ·intro self
  rfl
def yO(s:TSl):TSl:=jl s (tickA (gz s.2.2.1))
def yP(s:TSl):TSl:=(s.1,s.2.1,bootA (gz s.2.2.1),zE 16 false)
theorem ati{s:TSl}(h:OkS s):LZ (s,())=some (yO s,()):=by show acJ s=_;unfold acJ;rw[yN h,zD,atd h.a];rfl
theorem atj{s:TSl}(h:OkS s):L5 (s,())=some (yP s,()):=by show acM s=_;unfold acM;rw[yN h,zD,ate h.a];rfl
theorem Tn{s:TSl}(h:OkS s):OkS (yO s):=⟨h.u,h.l,h.a.own.tickA,h.c⟩
theorem Tp{s:TSl}(h:OkS s):OkS (yP s):=⟨h.u,h.l,h.a.own.bootA,rfl⟩
def mU(s:TSl)(f:List Int):TSl×List Int :=
 if s.2.1=2 then
  if (fZ f).2≠0∨(fZ f).1.2.1≠s.1 then (s,[]) else ((gK s (fZ f).1.2.2).1,qB (fZ f).1.1 (fZ f).1.2.1 (iM (gK s (fZ f).1.2.2).2))
 else
  if (gG f).2.2≠0∨(gG f).1≠s.1 then (s,[]) else ((gK s (gG f).2.1).1,sF ((gG f).1::iM (gK s (gG f).2.1).2))
theorem Cw{r:TR}(h:Rep r):2≤(iM r).length∧(iM r).length≤253:=asT h.rr
theorem vO{f:List Int}(hf:∀x∈f,0≤x∧x≤255):∀x∈(fZ f).1.2.2,0≤x∧x≤255:=by
 intro x hx;unfold fZ at hx;split at hx
 ·rename_i b0 b1 b2 b3 b4 b5 b6 pdu
  have hp:∀y∈pdu,0≤y∧y≤255:=fun y hy=>hf y (by grind);revert hx
  repeat' split
  all_goals first | exact fun hx=>hp x hx | (intro hx;cases hx)
 ·cases hx
theorem yQ{f:List Int}(hf:∀x∈f,0≤x∧x≤255):∀x∈(gG f).2.1,0≤x∧x≤255:=by grind[gG,cutV,List.mem_of_mem_take,zS]
theorem atl{s:TSl}(h:OkS s){f:List Int}(hf:∀x∈f,0≤x∧x≤255)(hl:f.length≤100000):acB (s,f,())=some ((mU s f).1,(mU s f).2,()):=by
 have hu:=h.u;show acA HZ QD s f=_;unfold acA mU;by_cases hk:s.2.1=2
 ·rw[if_pos (au.2 hk),if_pos hk,alj hl hf,zD]
  have hb:=vO hf
  have K:∀t z,HZ 0 0 t [s] [z] (fZ f).1=some (if t=true then (s,[],()) else ((gK s (fZ f).1.2.2).1,if (fZ f).1.2.1=s.1 then qB (fZ f).1.1 (fZ f).1.2.1 (iM (gK s (fZ f).1.2.2).2) else ((HZ 0 0 t [s] [z] (fZ f).1).getD (s,[],())).2.1,())):=fun t z=>by
   cases t with
   | true =>
    show HV 0 0 true [s] [z] (fZ f).1=_;unfold HV;rw[if_pos rfl,kI,zD,yN h];rfl
   | false =>
    obtain⟨ok,rp⟩:=mR h hb;have hlen:=Cw rp;have e:HZ 0 0 false [s] [z] (fZ f).1=some ((gK s (fZ f).1.2.2).1,qB (fZ f).1.1 (fZ f).1.2.1 (iM (gK s (fZ f).1.2.2).2),()):=by show HV 0 0 false [s] [z] (fZ f).1=_;unfold HV;rw[if_neg (by decide),kI,zD,yM h hb,zD,zD];dsimp only;rw[aOo (by omega) hlen.2];rfl
    rw[e];simp
  by_cases h0:(fZ f).2=0
  ·rw[if_neg (fun e=>cu.1 e h0)]
   by_cases h1:(fZ f).1.2.1=s.1
   ·have hn:nei (fZ f).1.2.1 s.1=false:=by rw[Bool.eq_false_iff];exact fun e=>cu.1 e h1
    dsimp only;rw[hn,K,if_neg (by decide),if_pos h1,if_neg (by rintro (e | e);exact e h0;exact e h1)]
   ·dsimp only
    rw[cu.2 h1,K,if_pos rfl,if_pos (Or.inr h1)]
  ·rw[if_pos (cu.2 h0)]
   dsimp only;rw[K,if_pos rfl,if_pos (Or.inl h0)]
 ·rw[if_neg (fun e=>hk (au.1 e)),if_neg hk,ayM,zD]
  have hb:=yQ hf;have Kt:∀z,QD 0 0 (gG f).1 (gG f).2.1 true [s] [z]=some (s,[],()):=fun z=>by show HY 0 0 (gG f).1 (gG f).2.1 true [s] [z]=_;unfold HY;rw[if_pos rfl,kI,zD,yN h];rfl
  have Kf:∀z,(gG f).1=s.1->QD 0 0 (gG f).1 (gG f).2.1 false [s] [z]=some ((gK s (gG f).2.1).1,sF ((gG f).1::iM (gK s (gG f).2.1).2),()):=fun z hz=>by obtain⟨ok,rp⟩:=mR h hb;have hlen:=Cw rp;show HY 0 0 (gG f).1 (gG f).2.1 false [s] [z]=_;unfold HY;rw[if_neg (by decide),kI,zD,yM h hb,zD,zD];dsimp only;rw[ayI (by omega) (by omega) (by omega) hlen.2];rfl
  by_cases h0:(gG f).2.2=0
  ·rw[if_neg (fun e=>cu.1 e h0)]
   by_cases h1:(gG f).1=s.1
   ·have hn:nei (gG f).1 s.1=false:=by rw[Bool.eq_false_iff];exact fun e=>cu.1 e h1
    dsimp only;rw[hn,Kf _ h1,if_neg (by rintro (e | e);exact e h0;exact e h1)]
   ·dsimp only
    rw[cu.2 h1,Kt,if_pos (Or.inr h1)]
  ·rw[if_pos (cu.2 h0)]
   dsimp only;rw[Kt,if_pos (Or.inl h0)]
theorem Tq{s:TSl}(h:OkS s){f:List Int}(hf:∀x∈f,0≤x∧x≤255):OkS (mU s f).1:=by grind[mU,mR,vO,yQ]
def yR(c:TCm):TA:=(23,256,8,272,[c.1,c.2.1,c.2.2.1 / 65536,c.2.2.1%65536,c.2.2.2.1,c.2.2.2.2 / 65536,c.2.2.2.2%65536,0],[])
structure OkC(c:TCm):Prop where
 o:0≤c.1∧c.1≤65535
 v:0≤c.2.1∧c.2.1≤255
 t:0≤c.2.2.1∧c.2.2.1≤4294967295
 n:0≤c.2.2.2.1∧c.2.2.2.1≤65535
 k:0≤c.2.2.2.2∧c.2.2.2.2≤4294967295
theorem UT{c:TCm}(h:OkC c):OkA (yR c)∧jd (yR c)=true∧jk (yR c)=true:=by
 have h1:=h.o;have h2:=h.v;have h3:=h.t;have h4:=h.n;have h5:=h.k;refine⟨⟨(by decide:(0:Int)≤23),(by decide:(23:Int)≤255),(by decide:(0:Int)≤256),(by decide:(256:Int)≤65535),(by decide:(0:Int)≤8),(by decide:(8:Int)≤65535),(by decide:(0:Int)≤272),(by decide:(272:Int)≤65535),?_,(by decide:8≤100000),(by decide:0≤100000)⟩,rfl,?_⟩
 ·intro x hx
  simp only[yR,List.mem_cons,List.not_mem_nil,or_false]at hx;omega
 rfl
theorem atm{x y:fq}(h:x.2.length≤1000000):acN (x,y,())=some (decide (x=y),()):=by
 show aqm x y=_;unfold aqm;by_cases e:x.1=y.1
 ·rw[if_pos (au.2 e),uP h,zD]
  refine congrArg (fun b=>some (b,())) ?_;grind
 ·rw[if_neg (fun h=>e (au.1 h)),decide_eq_false (fun h=>e (by rw[h]))]
theorem Tt{a b:List fq}(hl:a.length≤1000000)(hw:∀x∈a,x.2.length≤1000000):L6 (a,b,())=some (decide (a=b),()):=by
 have hE:aqr (a,b,())=some (decide (a=b),()):=by
  show acP QF a b=_;unfold acP;by_cases hl2:a.length=b.length
  ·rw[if_neg (by simp_all[cu,bu])]
   unfold QF;have hz:(a.zip b).length=a.length:=by simp_all
   rw[<- wo (ne:=fun x y=>!decide (x=y)) (fun _ _=>rfl) a b hl2];refine oH (xs:=a.zip b) (mk:=fun i _=>(b,a,zF a.length,(i:Int))) ?_ ?_ a.length 0 () _ (by omega) (by omega)
   ·intro self i acc x hx
    have hi:=(List.getElem?_eq_some_iff.1 hx).1;obtain⟨h1,h2⟩:=Bt hl2 hx;show QE _ b a (zF a.length) (i:Int)=_;unfold QE;rw[if_pos (by grind[cr,bu]),d9 h1,zD,d9 h2,zD,atm (hw _ (zX h1)),zD,gJ (by omega)]
   simp_all[QE,zF,Nat,Int,if_neg,cr,bu]
  ·rw[if_pos (by grind[cu,bu]),decide_eq_false (fun e=>hl2 (by rw[e]))]
 show acQ a b=_;simp_all[acQ]
theorem KF:∀{hv:List Bool} {b1 b2:List fq},b1.length=hv.length->b2.length=hv.length->gQ hv b1=gQ hv b2->nzB hv b1=nzB hv b2
 | [],_,_,_,_,_=>rfl
 | h::r,[],_,e,_,_=>by grind
 | h::r,_::_,[],_,e,_=>by grind
 | h::r,x::p,y::q,e1,e2,e=>by have ih:=KF (hv:=r) (b1:=p) (b2:=q) (by simp_all) (by simp_all);unfold gQ nzB at *;rw[List.zip_cons_cons,List.zip_cons_cons,List.filter_cons,List.filter_cons]at e;rw[List.zipWith_cons_cons,List.zipWith_cons_cons];grind
theorem Tv{a b:jH}(h1:a.2.1.length=8)(h2:a.2.2.length=8)(h3:b.2.1.length=8)(h4:b.2.2.length=8)(hw:∀x∈a.2.2,x.2.length≤1000)(hw2:∀x∈b.2.2,x.2.length≤1000) :
  L8 (a,b,())=some (decide ((a.1,a.2.1,nzB a.2.1 a.2.2)=(b.1,b.2.1,nzB b.2.1 b.2.2)),()):=by
 have sa:=oM h1 h2 hw;have sb:=oM h3 h4 hw2;have hbl:(gQ a.2.1 a.2.2).length≤8:=by grind[qb]
 have hbw:∀x∈gQ a.2.1 a.2.2,x.2.length≤1000000:=fun x hx=>by grind[uz]
 obtain⟨st,hv,bs⟩:=a;obtain⟨st',hv',bs'⟩:=b;dsimp only at h1 h2 h3 h4 sa sb hbl hbw ⊢;show QG (st,hv,bs) (st',hv',bs')=_;unfold QG;by_cases e1:st=st'
 ·rw[if_pos (au.2 e1)]
  dsimp only
  have e8:((eqb (zJ hv 0 false) (zJ hv' 0 false) && (eqb (zJ hv 1 false) (zJ hv' 1 false) && (eqb (zJ hv 2 false) (zJ hv' 2 false) && (eqb (zJ hv 3 false) (zJ hv' 3 false) && (eqb (zJ hv 4 false) (zJ hv' 4 false) && (eqb (zJ hv 5 false) (zJ hv' 5 false) && (eqb (zJ hv 6 false) (zJ hv' 6 false) && (eqb (zJ hv 7 false) (zJ hv' 7 false) && true))))))))=true)↔hv=hv':=by
   simp only[zO,JR,and_true];constructor
   ·grind[FD]
   simp_all
  by_cases e2:hv=hv'
  ·subst e1
   subst e2;rw[if_pos (e8.2 rfl),sa,zD,sb,zD];dsimp only;rw[Tt (by omega) hbw,zD];refine congrArg (fun b=>some (b,())) ?_;rw[decide_eq_decide];grind[KF,Prod.mk.inj,wB]
  simp_all
 ·rw[if_neg (fun e=>e1 (au.1 e)),decide_eq_false (fun e=>e1 (Prod.mk.inj e).1)]
instance dBk:DecidableEq fq:=inferInstance
instance dSt1:DecidableEq (List Bool×List fq):=inferInstance
instance dSt:DecidableEq jH:=inferInstance
instance dAg1:DecidableEq (jH×Int):=inferInstance
instance dAg2:DecidableEq (Int×jH×Int):=inferInstance
instance dAg3:DecidableEq (Int×Int×jH×Int):=inferInstance
instance dAg4:DecidableEq (Int×Int×Int×jH×Int):=inferInstance
instance dAg5:DecidableEq (TLs×Int×Int×Int×jH×Int):=inferInstance
instance dAg:DecidableEq TAg:=inferInstance
instance dSl1:DecidableEq (TAg×List Bool):=inferInstance
instance dSl:DecidableEq TSl:=inferInstance
theorem atn{a b:TAg}(h1:SzA a)(h2:SzA b):L9 (a,b,())=some (decide (gz a=gz b),()):=by have hs:=Tv h1.hv h1.bs h2.hv h2.bs h1.bw h2.bw;have hbk:=h1.bk;obtain⟨bk,⟨lo,lf⟩,ph,tx,la,⟨st,hv,bs⟩,tk⟩:=a;obtain⟨bk',⟨lo',lf'⟩,ph',tx',la',⟨st',hv',bs'⟩,tk'⟩:=b;dsimp only at hs hbk;show acR (bk,(lo,lf),ph,tx,la,(st,hv,bs),tk) (bk',(lo',lf'),ph',tx',la',(st',hv',bs'),tk')=_;unfold acR;rw[uP (show bk.length≤1000000 by omega),zD];dsimp only;rw[hs];simp only[zD];rw[gY (p:=bk=bk') decide_eq_true_iff fun _=>gY (p:=lo=lo'∧lf=lf') (by simp only[zO,au,and_true]) fun _=>gY (p:=ph=ph') au fun _=>gY (p:=tx=tx') au fun _=>gY (p:=la=la') au fun _=>gY (p:=(st,hv,nzB hv bs)=(st',hv',nzB hv' bs')) decide_eq_true_iff fun _=>rfl];refine congrArg (fun b=>some (b,())) ?_;show _=decide ((bk,(lo,lf),ph,tx,la,(st,hv,nzB hv bs),tk)=(bk',(lo',lf'),ph',tx',la',(st',hv',nzB hv' bs'),tk'));rw[Bool.eq_iff_iff];simp only[zO,decide_eq_true_eq,au,Prod.mk.injEq]
def dz(s:TSl):TSl:=jl s (gz s.2.2.1)
theorem KG{a b:TSl}(h1:OkS a)(h2:SzA b.2.2.1):QI (a,b,())=some (decide (dz a=dz b),()):=by have hs:=atn h1.a.sz h2;have hc:=h1.c;obtain⟨u,l,g,c⟩:=a;obtain⟨u',l',g',c'⟩:=b;dsimp only at hs hc;show acS (u,l,g,c) (u',l',g',c')=_;unfold acS;dsimp only;rw[hs,zD];rw[Kr (by omega)];simp only[zD];rw[gY (p:=u=u') au fun _=>gY (p:=l=l') au fun _=>gY (p:=gz g=gz g') decide_eq_true_iff fun _=>rfl];refine congrArg (fun b=>some (b,())) ?_;show _=decide ((u,l,gz g,c)=(u',l',gz g',c'));simp
abbrev TOp:=Int×List Int×TA×TCm
structure OkO(o:TOp):Prop where
 w:0≤o.1∧o.1≤255
 b:∀x∈o.2.1,0≤x∧x≤255
 bl:o.2.1.length≤300
 a:OkA o.2.2.1
 c:OkC o.2.2.2
theorem alW{c:TCm}(h:OkC c):AA (c,())=some ((yR c).2.2.2.2.1,()):=by
 have h2:=h.v;have h3:=h.t;have h5:=h.k;show ap9 c=_;unfold ap9
 have q:∀x:Int,0≤x∧x≤4294967295->cvt .u16 (quo .u32 x 65536)=x / 65536:=fun x hx=>by
  obtain⟨n,rfl⟩:=zN hx.1;have:quo .u32 (n:Int) 65536=((n / 65536:Nat):Int):=by grind[quo,Int.tdiv_eq_ediv_of_nonneg,sH]
  rw[this];exact (yj (by omega) (by omega)).trans (by omega)
 have r:∀x:Int,0≤x∧x≤4294967295->cvt .u16 (rem x 65536)=x%65536:=fun x hx=>by unfold rem;rw[kB hx.1];exact yj (by omega) (by omega)
 rw[q _ h3,q _ h5,r _ h3,r _ h5,show cvt .u16 c.2.1=c.2.1 from yj h2.1 (by omega)];rfl
def opA(o:TOp):TA:=if o.1%6=5 then if o.2.2.2.2.2.2.1%2=1 then (16,272,8,0,(yR o.2.2.2).2.2.2.2.1,[]) else yR o.2.2.2 else o.2.2.1
def opB(o:TOp):List Int×Bool :=
 if o.1%6=0 then (o.2.1,true) else if o.1%6=5∨o.1%6=2 then if jd (opA o)=true then (jc (opA o),true) else ([],false) else ([],false)
theorem Cx{x k:Int}(h:0≤x):rem x k=x%k:=by simp_all[rem,kB]
theorem aBh{o:TOp}(h:OkO o):OkA (opA o):=by
 unfold opA;split
 ·split
  ·have:=(UT h.c).1
   exact⟨(by decide:(0:Int)≤16),(by decide:(16:Int)≤255),(by decide:(0:Int)≤272),(by decide:(272:Int)≤65535),(by decide:(0:Int)≤8),(by decide:(8:Int)≤65535),(by decide:(0:Int)≤0),(by decide:(0:Int)≤65535),this.w,(by decide:8≤100000),(by decide:0≤100000)⟩
  ·exact (UT h.c).1
 ·exact h.a
theorem FH{o:TOp}(h:OkO o):H6 (o,())=some ((opB o).1,(opB o).2,()):=by
 have hw:=h.w;have hc:=h.c.n;have hA:=aBh h;have K:∀a:TA,OkA a->acX a=some (if jd a=true then (jc a,true,()) else ([],false,())):=fun a ha=>by show acV a=_;unfold acV;rw[ajL ha];split<;>rfl
 obtain⟨w,b,a,c⟩:=o;dsimp only at hw hc;show acW acX (w,b,a,c)=_;unfold acW;dsimp only;rw[Cx hw.1,Cx hc.1,alW h.c,zD,zD];unfold opB;dsimp only;by_cases h0:w%6=0
 ·simp_all[if_pos,au]
 ·rw[if_neg (fun e=>h0 (au.1 e)),if_neg h0]
  by_cases h5:w%6=5
  ·rw[if_pos (au.2 h5),if_pos (Or.inl h5)]
   have e:opA (w,b,a,c)=if c.2.2.2.1%2=1 then (16,272,8,0,(yR c).2.2.2.2.1,[]) else yR c:=by simp_all[opA,if_pos]
   rw[e]at hA ⊢;by_cases h1:c.2.2.2.1%2=1
   ·rw[if_pos h1]at hA
    rw[if_pos (au.2 h1),if_pos h1,K _ hA];rfl
   ·rw[if_neg h1]at hA
    rw[if_neg (fun e=>h1 (au.1 e)),if_neg h1];refine (K _ hA).trans ?_;rfl
  ·rw[if_neg (fun e=>h5 (au.1 e))]
   have e:opA (w,b,a,c)=a:=by simp_all[opA,if_neg]
   rw[e]at hA ⊢;by_cases h2:w%6=2
   ·rw[if_pos (au.2 h2),if_pos (Or.inr h2),K _ hA]
    grind
   simp_all[if_neg,au]
theorem u7{o:TOp}(h:OkO o):∀x∈(opB o).1,0≤x∧x≤255:=by
 unfold opB;split
 ·exact h.b
 ·split
  ·split
   ·rename_i hr
    exact yx (kM hr)
   simp
  simp
def oN(s:TSl)(o:TOp):TSl×List Int :=
 if (opB o).2=true then ((gK s (opB o).1).1,iM (gK s (opB o).1).2)
 else if o.1%6=1 then mU s o.2.1 else if o.1%6=3 then (yO s,[]) else if o.1%6=4 then (yP s,[]) else (s,[])
theorem ay5{s:TSl}(h:OkS s){o:TOp}(ho:OkO o):acY (o,s,())=some ((oN s o).1,(oN s o).2,()):=by
 have hw:=ho.w;show aqx o s=_;unfold aqx oN;rw[FH ho,zD,Cx hw.1];dsimp only
 cases e:(opB o).2 with
 | true =>
  rw[if_pos rfl,yM h (u7 ho)];rfl
 | false =>
  rw[if_neg Bool.false_ne_true,if_neg Bool.false_ne_true];by_cases h1:o.1%6=1
  ·rw[if_pos (au.2 h1),if_pos h1,atl h ho.b (by have:=ho.bl;omega)]
   rfl
  ·rw[if_neg (fun e=>h1 (au.1 e)),if_neg h1]
   by_cases h3:o.1%6=3
   ·rw[if_pos (au.2 h3),if_pos h3,ati h]
    rfl
   ·rw[if_neg (fun e=>h3 (au.1 e)),if_neg h3]
    by_cases h4:o.1%6=4
    ·rw[if_pos (au.2 h4),if_pos h4,atj h]
     rfl
    simp_all[if_neg,au]
theorem Tw{s:TSl}(h:OkS s){o:TOp}(ho:OkO o):OkS (oN s o).1:=by
 unfold oN;split
 ·exact (mR h (u7 ho)).1
 ·split
  ·exact Tq h ho.b
  grind[Tn,Tp]
def akb(o:TOp):Bool:=decide (o.2.1.length≤300) && SB o.2.2.1.2.2.2.2.1 o.2.2.1.2.2.2.2.2
def akc(l:List TOp)(m:Int):Bool:=l.all akb && decide ((l.length:Int)≤m)
theorem ato{l:List TOp}{m:Int}:akc l m=true↔(∀o∈l,o.2.1.length≤300∧o.2.2.1.2.2.2.2.1.length≤200∧o.2.2.1.2.2.2.2.2.length≤2100)∧(l.length:Int)≤m:=by simp_all[akc,akb,zO,decide_eq_true_eq,ayO,List.all_eq_true]
abbrev tOp:Ty:=.pr (.int .u8) (.pr (.sl (.int .u8)) (.pr (.pr (.int .u8) (.pr (.int .u16) (.pr (.int .u16) (.pr (.int .u16) (.pr (.sl (.int .u16)) (.sl .bool)))))) (.pr (.int .u16) (.pr (.int .u8) (.pr (.int .u32) (.pr (.int .u16) (.int .u32)))))))
theorem MV{x:Int}(h:(Lit.int .u32 x).wf=true):0≤x∧x≤4294967295:=by simp[Lit.wf]at h;have e1:IntKind.u32.min=0:=rfl;have e2:IntKind.u32.max=4294967295:=rfl;omega
theorem aBi{o:TOp}(h:Rw.okV tOp o)(h1:o.2.1.length≤300)(h2:o.2.2.1.2.2.2.2.1.length≤200)(h3:o.2.2.1.2.2.2.2.2.length≤2100):OkO o:=by obtain⟨q1,q2,⟨r1,r2,r3,r4,r5,r6⟩,⟨s1,s2,s3,s4,s5⟩⟩:=h;exact⟨ok8 q1,fun x hx=>ok8 (q2.2 x hx),h1,⟨(ok8 r1).1,(ok8 r1).2,(ok16 r2).1,(ok16 r2).2,(ok16 r3).1,(ok16 r3).2,(ok16 r4).1,(ok16 r4).2,fun x hx=>ok16 (r5.2 x hx),by omega,by omega⟩,⟨ok16 s1,ok8 s2,MV s3,ok16 s4,MV s5⟩⟩
end Go.Proofs.Lx
end
