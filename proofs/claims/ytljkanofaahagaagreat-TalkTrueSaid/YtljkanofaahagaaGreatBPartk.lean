/- Proved in the last of these 16 parts (this is part 11): TalkTrue. Conditions: those of the given statement, and no others. -/
import Derived.Test.YtljkanofaahagaaGreatBPartj
import Derived.Test.YtljkanofaahagaaGreatBParte
set_option linter.unusedVariables false
set_option linter.unusedSimpArgs false
set_option linter.unusedSectionVars false
open Option renaming bind → zC, bind_some → zD
open List renaming replicate → zE, length → zG, getElem?_eq_getElem → zV, getD_eq_getElem?_getD → zX, length_append → zZ, length_replicate → kD
open Int renaming ofNat → zF, toNat → zI, eq_ofNat_of_zero_le → zN, toNat_natCast → zQ, tmod_eq_emod_of_nonneg → kC
open Bool renaming and_eq_true → zO
noncomputable section
namespace Pl
open Go Ev Sx
theorem oN{σ R α β:Type}{F:(σ->Option R)->σ->Option R}{mk:Nat->β->σ}{xs:List α}{stp:β->α->β}{fin:β->Option R}(Inv:Nat->β->Prop)
  (hs:∀self i acc x,xs[i]? = some x->Inv i acc->F self (mk i acc)=self (mk (i+1) (stp acc x)))
  (hi:∀i acc x,xs[i]? = some x->Inv i acc->Inv (i+1) (stp acc x))
  (he:∀self acc,Inv xs.length acc->F self (mk xs.length acc)=fin acc) :
  ∀(k i:Nat) (acc:β) (n:Nat),i+k=xs.length->k<n->Inv i acc->cu F n (mk i acc)=fin ((xs.drop i).foldl stp acc)
 | _,_,_,0,_,hn,_=>by omega
 | 0,i,acc,n+1,h,_,hI=>by
  have:i=xs.length:=by omega
  subst this;rw[lN,he _ _ hI,List.drop_length];rfl
 | k+1,i,acc,n+1,h,hn,hI=>by have hx:xs[i]? = some (xs[i]'(by omega)):=zV (by omega);rw[lN,hs _ _ _ _ hx hI,oN Inv hs hi he k (i+1) _ n (by omega) (by omega) (hi _ _ _ hx hI),List.drop_eq_getElem_cons (show i<xs.length by omega)];rfl
def goL{α β R:Type}(body:β->α->(β->Option R)->Option R)(fin:β->Option R):List α->β->Option R
 | [],acc=>fin acc
 | x::r,acc=>body acc x (goL body fin r)
theorem qy{σ R α β:Type}{F:(σ->Option R)->σ->Option R}{mk:Nat->β->σ}{xs:List α}{body:β->α->(β->Option R)->Option R}{fin:β->Option R}
  (hs:∀self i acc x,xs[i]? = some x->F self (mk i acc)=body acc x fun a=>self (mk (i+1) a))
  (he:∀self acc,F self (mk xs.length acc)=fin acc) :
  ∀(k i:Nat) (acc:β) (n:Nat),i+k=xs.length->k<n->cu F n (mk i acc)=goL body fin (xs.drop i) acc
 | _,_,_,0,_,hn=>by omega
 | 0,i,acc,n+1,h,_=>by
  have:i=xs.length:=by omega
  subst this;rw[lN,he,List.drop_length];rfl
 | k+1,i,acc,n+1,h,hn=>by
  have hx:xs[i]? = some (xs[i]'(by omega)):=zV (by omega);rw[lN,hs _ _ _ _ hx,List.drop_eq_getElem_cons (show i<xs.length by omega)];show _=body acc _ (goL body fin (xs.drop (i+1)))
  congr 1
  funext a;exact qy hs he k (i+1) a n (by omega) (by omega)
theorem vZ{α β:Type}(f:α->List β):∀(xs:List α) (out:List β),xs.foldl (fun o x=>o++f x) out=out++xs.flatMap f
 | [],out=>by simp
 | x::r,out=>by simp[vZ f r]
theorem wr8(x:Int):IntKind.u8.wrap x=x%256:=by simp only[IntKind.wrap,IntKind.signed,IntKind.bits];simp
theorem BU(x:Int):IntKind.u16.wrap x=x%65536:=by simp only[IntKind.wrap,IntKind.signed,IntKind.bits];simp
theorem sZ(x:Int):cvt .u8 x=x%256:=wr8 x
theorem zk(x:Int):cvt .u16 x=x%65536:=BU x
theorem aad(k:IntKind)(x:Int)(hk:8≤k.bits):shr k x 8=x / 256:=by
 unfold shr;have:min (8:Int).toNat k.bits=8:=by have:(8:Int).toNat=8:=rfl;omega
 rw[this,Int.fdiv_eq_ediv_of_nonneg _ (by decide)];rfl
theorem aEf(k:IntKind)(x:Int)(hk:8≤k.bits):shr k x 4=x / 16:=by
 unfold shr;have:min (4:Int).toNat k.bits=4:=by have:(4:Int).toNat=4:=rfl;omega
 rw[this,Int.fdiv_eq_ediv_of_nonneg _ (by decide)];rfl
theorem RU(x:Int):0≤IntKind.u16.wrap x∧IntKind.u16.wrap x<65536:=by rw[BU];omega
theorem ab6(x:Int):0≤kZ .u16 x 15∧kZ .u16 x 15<16:=by
 have h:(BitVec.ofInt IntKind.u16.bits x &&& BitVec.ofInt IntKind.u16.bits 15).toNat≤15:=by rw[BitVec.toNat_and];exact Nat.le_trans Nat.and_le_right (by decide)
 unfold kZ;rw[BU];omega
end Pl
end
noncomputable section
namespace Pl
open Go Ev Sx
theorem lU{σ R:Type}{F:(σ->Option R)->σ->Option R}{mk:Nat->σ}{N:Nat}{r:Option R}(hs:∀self i,i<N->F self (mk i)=self (mk (i+1)))(he:∀self,F self (mk N)=r) :
  ∀(k i n:Nat),i+k=N->k<n->cu F n (mk i)=r
 | _,_,0,_,h=>by omega
 | 0,i,n+1,h,_=>by
  have:i=N:=by omega
  subst this;rw[lN,he]
 | k+1,i,n+1,h,hn=>by rw[lN,hs _ _ (by omega),lU hs he k (i+1) n (by omega) (by omega)]
theorem ath{α:Type}(p:List α)(x y:α)(q:List α):(p++x::q).set p.length y=p++y::q:=by rw[List.set_append_right _ _ (Nat.le_refl _),Nat.sub_self];rfl
end Pl
end
noncomputable section
namespace Go.Proofs.Lx
open Go Ev Sx Pl
set_option maxRecDepth 100000
def tq:List Int:=[0,52225,55297,5120,61441,15360,10240,58369,40961,27648,30720,46081,20480,39937,34817,17408]
theorem alN:Vb ()=some (tq,()):=by kernel_rfl
def tab(i:Int):Int:=tq.getD i.toNat 0
theorem ab7{i:Int}(h0:0≤i)(h1:i<16):at? tq i=some (tab i):=by
 obtain⟨n,rfl⟩:=zN h0;have:n<tq.length:=by show n<16;omega
 have e:tq[n]? = some (tq[n]'this):=zV this;rw[gu e];unfold tab;rw[zQ,zX,e];rfl
def nib(s:Int):Int:=iI .u16 (shr .u16 s 4) (tab (kZ .u16 s 15))
def rY(s c:Int):Int:=nib (nib (iI .u16 s (cvt .u16 c)))
theorem ab8(s c:Int):0≤rY s c∧rY s c<65536:=RU _
theorem step_eq(s c:Int):KO (s,c,tq,())=some (rY s c,tq,()):=by show Vd s c tq=_;unfold Vd;have h1:=ab6 (iI .u16 s (cvt .u16 c));rw[eu (dw.2 h1.2),ab7 h1.1 h1.2,zD,zD];have h2:=ab6 (iI .u16 (shr .u16 (iI .u16 s (cvt .u16 c)) 4) (tab (kZ .u16 (iI .u16 s (cvt .u16 c)) 15)));rw[eu (dw.2 h2.2),ab7 h2.1 h2.2,zD,zD];rfl
def pM(b:List Int):Int:=b.foldl rY 65535
theorem zl(b:List Int):0≤pM b∧pM b<65536:=by
 unfold pM
 have:∀(b:List Int) (s:Int),(0≤s∧s<65536)->0≤b.foldl rY s∧b.foldl rY s<65536:=by
  intro b
  induction b with
  | nil=>exact fun s h=>h
  | cons c r ih=>exact fun s _=>ih _ (ab8 s c)
 exact this b _ (by decide)
theorem ab9{b:List Int}(h:b.length<4611686018427387904):KP (b,())=some (pM b,()):=by
 show Vh Nj b=_;unfold Vh;rw[alN,zD];rw[eu (by rfl),eu (by rfl)];unfold Nj;refine (oN (xs:=b) (mk:=fun i acc=>(b,acc,zF b.length,(i:Int),tq)) (stp:=rY) (fin:=fun acc=>some (acc,())) (fun _ _=>True) ?_ (fun _ _ _ _ _=>trivial) ?_ b.length 0 65535 _ (by omega) (by omega) trivial).trans ?_
 ·intro self i acc x hx _
  have hi:=(List.getElem?_eq_some_iff.1 hx).1;show Hq _ b acc (zF b.length) (i:Int) tq=_;unfold Hq;rw[if_pos (by rw[dw,bn];omega),gu hx,zD,step_eq,zD,iT (by omega)]
 ·intro self acc _
  show Hq _ b acc (zF b.length) (b.length:Int) tq=_;unfold Hq;rw[if_neg (by rw[dw,bn];omega)]
 ·rfl
theorem RV{n:Int}(h:0≤n):jC 0 n=true:=by
 unfold jC;split
 ·rfl
 ·exact decide_eq_true h
theorem nG(n:Int):jC n n=true:=by unfold jC;rw[if_pos rfl]
def two(x:Int):List Int:=[x / 256%256,x%256]
def iF(b:List Int):List Int:=b++[pM b%256,pM b / 256]
theorem put_eq{b:List Int}(h:b.length<1000000):Bc (b,())=some (iF b,()):=by
 show Vj b=_;unfold Vj;have hs:=zl b;have e:add .i64 (zF b.length) 2=((b.length+2:Nat):Int):=by rw[bn];exact qP (m:=2) (by omega)
 rw[ab9 (by omega),zD,e,eu (RV (by omega)),eu (by rw[BR];omega),jw (by omega),jw (by simp;omega),sZ,sZ,aad _ _ (by decide)];have e2:pM b / 256%256=pM b / 256:=by omega
 rw[e2];rfl
abbrev TA:=Int×Int×Int×Int×List Int×List Bool
structure OkA(a:TA):Prop where
 f0:0≤a.1
 f1:a.1≤255
 at0:0≤a.2.1
 at1:a.2.1≤65535
 m0:0≤a.2.2.1
 m1:a.2.2.1≤65535
 t0:0≤a.2.2.2.1
 t1:a.2.2.2.1≤65535
 w:∀x∈a.2.2.2.2.1,0≤x∧x≤65535
 lw:a.2.2.2.2.1.length≤100000
 lb:a.2.2.2.2.2.length≤100000
def shp(f:Int):Option (Int×Int×Int×Bool×Bool) :=
 if eqi 1 f=true then some (2000,0,0,false,false) else if eqi 2 f=true then some (2000,0,0,false,false) else if eqi 3 f=true then some (125,0,0,false,false) else
 if eqi 4 f=true then some (125,0,0,false,false) else if eqi 5 f=true then some (0,1,0,false,false) else if eqi 6 f=true then some (0,0,1,false,false) else
 if eqi 15 f=true then some (1968,1968,0,false,true) else if eqi 16 f=true then some (123,0,123,false,true) else if eqi 23 f=true then some (125,0,121,true,false) else none
def Ji(f:Int):Int×Int×Int×Bool×Bool:=(shp f).getD (0,0,0,false,false)
theorem rJ(f:Int):yX (f,())=some (Ji f,(shp f).isSome,()):=rfl
theorem acd(f:Int):((f=1∨f=2)∧shp f=some (2000,0,0,false,false))∨((f=3∨f=4)∧shp f=some (125,0,0,false,false))∨(f=5∧shp f=some (0,1,0,false,false)) ∨
  (f=6∧shp f=some (0,0,1,false,false))∨(f=15∧shp f=some (1968,1968,0,false,true))∨(f=16∧shp f=some (123,0,123,false,true))∨(f=23∧shp f=some (125,0,121,true,false)) ∨
  ((f≠1∧f≠2∧f≠3∧f≠4∧f≠5∧f≠6∧f≠15∧f≠16∧f≠23)∧shp f=none):=by
 by_cases h1:f=1
 ·subst h1;exact .inl ⟨.inl rfl,rfl⟩
 by_cases h2:f=2
 ·subst h2;exact .inl ⟨.inr rfl,rfl⟩
 by_cases h3:f=3
 ·subst h3;exact .inr (.inl ⟨.inl rfl,rfl⟩)
 by_cases h4:f=4
 ·subst h4;exact .inr (.inl ⟨.inr rfl,rfl⟩)
 by_cases h5:f=5
 ·subst h5;exact .inr (.inr (.inl ⟨rfl,rfl⟩))
 by_cases h6:f=6
 ·subst h6;exact .inr (.inr (.inr (.inl ⟨rfl,rfl⟩)))
 by_cases h7:f=15
 ·subst h7;exact .inr (.inr (.inr (.inr (.inl ⟨rfl,rfl⟩))))
 by_cases h8:f=16
 ·subst h8;exact .inr (.inr (.inr (.inr (.inr (.inl ⟨rfl,rfl⟩)))))
 by_cases h9:f=23
 ·subst h9;exact .inr (.inr (.inr (.inr (.inr (.inr (.inl ⟨rfl,rfl⟩))))))
 refine .inr (.inr (.inr (.inr (.inr (.inr (.inr ⟨⟨h1,h2,h3,h4,h5,h6,h7,h8,h9⟩,?_⟩))))));have e:∀n:Int,f≠n->¬ eqi n f=true:=fun n hn h=>hn (bu.1 h).symm;unfold shp;rw[if_neg (e _ h1),if_neg (e _ h2),if_neg (e _ h3),if_neg (e _ h4),if_neg (e _ h5),if_neg (e _ h6),if_neg (e _ h7),if_neg (e _ h8),if_neg (e _ h9)]
def jm(n most:Int):Bool:=if eqi most 0=true then eqi n 0 else if ge n 1=true then le n most else false
theorem BV(n most:Int):He (n,most,())=some (jm n most,()):=by
 show aeJ n most=_;unfold aeJ jm;split
 ·rfl
 ·split<;>rfl
def vD(a:TA)(s:Int×Int×Int×Bool×Bool):Bool:=(s.2.2.2.1 || eqi a.2.2.2.1 0) && (jm a.2.2.1 s.1 && (jm (zF a.2.2.2.2.2.length) s.2.1 && (jm (zF a.2.2.2.2.1.length) s.2.2.1 &&
 (!s.2.2.2.2 || eqi (zF a.2.2.2.2.2.length+zF a.2.2.2.2.1.length) a.2.2.1))))
def iY(a:TA):Bool:=match shp a.1 with
 | none=>false
 | some s=>vD a s
theorem alO(t:Bool)(a1 a2 a3 a4:Int)(a5:List Int)(a6:List Bool)(s1 s2 s3:Int)(s4 s5:Bool) :
  UQ t a1 a2 a3 a4 a5 a6 s1 s2 s3 s4 s5=some (!t && (!s5 || eqi (add .i64 (zF a6.length) (zF a5.length)) (cvt .i64 a3)),()):=by
 unfold UQ aeP;cases t<;>cases s5<;>rfl
theorem alP(t:Bool)(a1 a2 a3 a4:Int)(a5:List Int)(a6:List Bool)(s1 s2 s3:Int)(s4 s5:Bool) :
  Nc t a1 a2 a3 a4 a5 a6 s1 s2 s3 s4 s5=some (!t && (jm (cvt .i64 a3) s1 && (jm (zF a6.length) s2 && (jm (zF a5.length) s3 && (!s5 || eqi (add .i64 (zF a6.length) (zF a5.length)) (cvt .i64 a3))))),()):=by
 unfold Nc aeO;rw[BV,BV,BV];simp only[zD,alO];cases t<;>cases jm (cvt .i64 a3) s1<;>cases jm (zF a6.length) s2<;>cases jm (zF a5.length) s3<;>rfl
theorem right_eq{a:TA}(h:OkA a):vg (a,())=some (iY a,()):=by
 show UO Nc a=_;unfold UO;have h1:=h.m0;have h2:=h.m1;have h3:=h.lw;have h4:=h.lb;rw[rJ,zD];simp only[alP];rw[iU (by omega) (by omega),jO (by rw[bn,bn];omega) (by rw[bn,bn];omega)];unfold iY Ji
 cases shp a.1 with
 | none=>rfl
 | some s =>
  obtain⟨s1,s2,s3,s4,s5⟩:=s;unfold vD;have e:nei a.2.2.2.1 0=!eqi a.2.2.2.1 0:=rfl;rw[e];cases s4<;>cases eqi a.2.2.2.1 0<;>rfl
theorem ace{y:Int}:([cvt .u8 (shr .u16 y 8),cvt .u8 y]:List Int)=two y:=by rw[sZ,sZ,aad _ _ (by decide)];rfl
theorem uf{l out:List Int}(h:out.length+2*l.length≤1000000):nW (l,out,())=some (out++l.flatMap two,()):=by
 show UX Ng l out=_;unfold UX Ng;refine (oN (xs:=l) (mk:=fun i acc=>(l,zF l.length,(i:Int),acc)) (stp:=fun o y=>o++two y) (fin:=fun acc=>some (acc,())) (fun i acc=>acc.length≤out.length+2*i) ?_ ?_ ?_ l.length 0 out _ (by omega) (by omega) (by omega)).trans ?_
 ·intro self i acc x hx hI
  have hi:=(List.getElem?_eq_some_iff.1 hx).1;show Hf _ l (zF l.length) (i:Int) acc=_;unfold Hf;rw[if_pos (by rw[dw,bn];omega),gu hx,zD,jw (by omega),ace,iT (by omega)]
 ·intro i acc x hx hI
  simp[two];omega
 ·intro self acc _
  show Hf _ l (zF l.length) (l.length:Int) acc=_;unfold Hf;rw[if_neg (by rw[dw,bn];omega)]
 ·rw[List.drop_zero,vZ]
end Go.Proofs.Lx
end
noncomputable section
namespace Pl
open Go Ev Sx
theorem vE{σ R:Type}{F:(σ->Option R)->σ->Option R}{mk:Nat->σ}{N:Nat}{r:Option R}(hs:∀self i,i<N->F self (mk i)=self (mk (i+1)))(he:∀self,F self (mk N)=r) :
  ∀(k i n:Nat),i+k=N->k<n->cu F n (mk i)=r
 | _,_,0,_,h=>by omega
 | 0,i,n+1,h,_=>by simp_all[lN]
 | k+1,i,n+1,h,hn=>by rw[lN,hs _ _ (by omega),vE hs he k (i+1) n (by omega) (by omega)]
theorem pz{i d:Nat}(hi:i<4611686018427387904):quo .i64 (i:Int) (d:Int)=((i / d:Nat):Int):=by unfold quo;have h:=Nat.div_le_self i d;grind[Int,Nat,Int.ofNat_tdiv,w64]
theorem uN{i d:Nat}:rem (i:Int) (d:Int)=((i%d:Nat):Int):=by rfl
theorem BX{α:Type}{f:Nat->α}{init:List α}{i:Nat}(hi:i<init.length):((List.range i).map f++init.drop i).set i (f i)=(List.range (i+1)).map f++init.drop (i+1):=by rw[List.drop_eq_getElem_cons hi,List.set_append_right _ _ (by simp)];simp only[List.length_map,List.length_range,Nat.sub_self,List.set_cons_zero,List.range_succ,List.map_append,List.map_cons,List.map_nil,List.append_assoc,List.singleton_append]
end Pl
namespace Go.Proofs.Lx
open Go Ev Sx Pl
set_option maxRecDepth 100000
def jP:List Bool->Int
 | []=>0
 | b::r=>(if b=true then 1 else 0)+2*jP r
theorem wm:∀t:List Bool,0≤jP t∧jP t<2 ^ t.length
 | []=>by simp[jP]
 | b::r=>by have:=wm r;grind[List.length_cons,Int.pow_succ,jP]
theorem FQ(b:Bool):∀t:List Bool,jP (t++[b])=jP t+(if b=true then 2 ^ t.length else 0)
 | []=>by cases b<;>rfl
 | a::r=>by rw[List.cons_append];unfold jP;rw[FQ b r,List.length_cons,Int.pow_succ];cases b<;>simp<;>omega
theorem JV:∀(t:List Bool) (k:Nat),jP t / 2 ^ k%2=(if t.getD k false=true then 1 else 0)
 | [],k=>by simp[jP]
 | b::r,0=>by unfold jP;cases b<;>simp<;>omega
 | b::r,k+1=>by
  have:=JV r k;rw[List.getD_cons_succ,<- this]
  have e:((if b=true then (1:Int) else 0)+2*jP r) / 2 ^ (k+1)=jP r / 2 ^ k:=by
   rw[Int.pow_succ,Int.mul_comm (2 ^ k) 2,<- Int.ediv_ediv_of_nonneg (by decide)]
   congr 1
   split<;>omega
  show ((if b=true then (1:Int) else 0)+2*jP r) / 2 ^ (k+1)%2=_;rw[e]
def gy(n:Nat):Nat:=(n+7) / 8
def ou(bits:List Bool)(i:Nat):List Int:=(List.range (gy bits.length)).map fun j=>jP (((bits.take i).drop (8*j)).take 8)
def iJ(bits:List Bool):List Int:=(List.range (gy bits.length)).map fun j=>jP ((bits.drop (8*j)).take 8)
theorem qT(bits:List Bool):(iJ bits).length=gy bits.length:=by simp[iJ]
theorem acf(bits:List Bool):ou bits bits.length=iJ bits:=by unfold ou iJ;simp
theorem aae(bits:List Bool):ou bits 0=zE (gy bits.length) 0:=by simp_all[ou,List.take_zero,List.drop_nil,List.take_nil,jP,List.map_const']
theorem aaf{bits:List Bool}{i j:Nat}{y:Bool}(hy:bits[i]? = some y):((bits.take (i+1)).drop (8*j)).take 8=((bits.take i).drop (8*j)).take 8++(if j=i / 8 then [y] else []):=by
 have hi:=(List.getElem?_eq_some_iff.1 hy).1;have e:bits.take (i+1)=bits.take i++[y]:=by grind[List.take_add_one]
 have hl:(bits.take i).length=i:=by grind
 by_cases h:j=i / 8
 ·rw[if_pos h,e,List.drop_append_of_le_length (by omega)]
  grind[zZ,List.length_drop,List.length_singleton,List.take_of_length_le]
 ·rw[if_neg h,List.append_nil]
  grind[List.drop_of_length_le]
theorem aag{bits:List Bool}{i:Nat}{y:Bool}(hy:bits[i]? = some y) :
  ∃v,(ou bits i)[i / 8]? = some v∧0≤v∧v<2 ^ (i%8)∧ou bits (i+1)=(if y=true then (ou bits i).set (i / 8) (v+2 ^ (i%8)) else ou bits i):=by
 have hi:=(List.getElem?_eq_some_iff.1 hy).1;have hm:i / 8<gy bits.length:=by grind[gy]
 have hlen:((((bits.take i).drop (8*(i / 8))).take 8)).length=i%8:=by grind
 refine⟨jP (((bits.take i).drop (8*(i / 8))).take 8),?_,(wm _).1,?_,?_⟩
 ·simp_all[ou,List.getElem?_map,List.getElem?_range]
 ·have:=(wm (((bits.take i).drop (8*(i / 8))).take 8)).2
  simp_all
 ·apply List.ext_getElem?
  intro j;have hj:∀q,(ou bits q)[j]? = if j<gy bits.length then some (jP (((bits.take q).drop (8*j)).take 8)) else none:=by grind[ou,List.getElem?_range,List.getElem?_eq_none]
  rw[hj];by_cases hjm:j<gy bits.length
  ·rw[if_pos hjm,aaf hy]
   by_cases hji:j=i / 8
   ·rw[if_pos hji,FQ]
    grind
   grind
  grind
theorem aqX{v:Int}{k:Nat}(h0:0≤v)(h1:v<2 ^ k)(hk:k<8):bor .u8 v (shl .u8 1 (k:Int))=v+2 ^ k:=by
 have key:∀(k:Fin 8) (v:Fin 128),v.1<2 ^ k.1->bor .u8 (v.1:Int) (shl .u8 1 (k.1:Int))=(v.1:Int)+2 ^ k.1:=by decide +kernel
 obtain⟨n,rfl⟩:=zN h0;have h2:n<2 ^ k:=by grind
 have h3:2 ^ k≤2 ^ 7:=Nat.pow_le_pow_right (by decide) (by omega);exact key ⟨k,hk⟩ ⟨n,by omega⟩ h2
theorem RX{bits:List Bool}(h:bits.length≤100000):Hl (bits,())=some (iJ bits,()):=by
 show U2 Nh bits=_
 have hK:Nh bits (gy bits.length:Int)=some (iJ bits,()):=by
  unfold Nh U1;have hN:gy bits.length≤100000:=by unfold gy;omega
  rw[eu (by rw[gZ];omega),eu (nG _),zQ,jw (by omega)];unfold U3;rw[<- aae,<- acf];refine vE (mk:=fun i=>(bits,zF bits.length,(i:Int),ou bits i)) (N:=bits.length) ?_ ?_ bits.length 0 _ (by omega) (by omega)
  ·intro self i hi
   have hy:bits[i]? = some (bits[i]'hi):=zV hi;obtain⟨v,hv,h0,h1,e⟩:=aag hy;show Hg _ bits (zF bits.length) (i:Int) (ou bits i)=_;unfold Hg;have hq:quo .i64 (i:Int) 8=((i / 8:Nat):Int):=pz (d:=8) (by omega);have hr:rem (i:Int) 8=((i%8:Nat):Int):=uN (d:=8);rw[if_pos (by rw[dw,bn];omega),gu hy,zD,hq,hr,gu hv,iT (by omega)];simp only[zD];rw[eu (by rw[gZ];omega),aqX h0 h1 (Nat.mod_lt _ (by decide)),zQ,e];split<;>rfl
  ·intro self
   show Hg _ bits (zF bits.length) (bits.length:Int) (ou bits bits.length)=_;unfold Hg;rw[if_neg (by rw[dw,bn];omega)]
 unfold U2;have hq:quo .i64 (zF bits.length) 8=((bits.length / 8:Nat):Int):=pz (d:=8) (by omega);rw[hq];split
 ·rename_i h1
  rw[jD,bn,show rem (bits.length:Int) 8=((bits.length%8:Nat):Int) from uN (d:=8)]at h1;rw[iT (by omega)];have:bits.length / 8+1=gy bits.length:=by unfold gy;omega
  rw[this];exact hK
 ·rename_i h1
  rw[jD,bn,show rem (bits.length:Int) 8=((bits.length%8:Nat):Int) from uN (d:=8)]at h1;have:bits.length / 8=gy bits.length:=by unfold gy;omega
  rw[this];exact hK
def BZ(y:Int)(k:Nat):Bool:=eqi (kZ .u8 (shr .u8 y (k:Int)) 1) 1
theorem aqY{y:Int}{k:Nat}(h0:0≤y)(h1:y<256)(hk:k<8):BZ y k=decide (y / 2 ^ k%2=1):=by
 have key:∀(k:Fin 8) (v:Fin 256),BZ (v.1:Int) k.1=decide ((v.1:Int) / 2 ^ k.1%2=1):=by decide +kernel
 obtain⟨n,rfl⟩:=zN h0;exact key ⟨k,hk⟩ ⟨n,by omega⟩
def lV(b:List Int):List Bool:=(List.range (8*b.length)).map fun i=>BZ (b.getD (i / 8) 0) (i%8)
theorem B5{b:List Int}(h:b.length≤100000):Ie (b,())=some (lV b,()):=by
 show WV Oj b=_;unfold WV;have hm:mul .i64 8 (zF b.length)=((8*b.length:Nat):Int):=by grind[nE,bn]
 rw[hm,eu (by rfl),eu (nG _),zQ,jw (by omega),kD];unfold Oj lV;refine (vE (mk:=fun i=>(b,zF (8*b.length),(i:Int),(List.range i).map (fun i=>BZ (b.getD (i / 8) 0) (i%8))++(zE (8*b.length) false).drop i)) (N:=8*b.length) ?_ ?_ (8*b.length) 0 _ (by omega) (by omega))
 ·intro self i hi
  show Oi _ b (zF (8*b.length)) (i:Int) _=_;unfold Oi;have hq:quo .i64 (i:Int) 8=((i / 8:Nat):Int):=pz (d:=8) (by omega);have hr:rem (i:Int) 8=((i%8:Nat):Int):=uN (d:=8);have hlt:i / 8<b.length:=by omega
  have hb:b[i / 8]? = some (b[i / 8]'hlt):=zV hlt;have hlen:((List.range i).map (fun i=>BZ (b.getD (i / 8) 0) (i%8))++(zE (8*b.length) false).drop i).length=8*b.length:=by grind
  have ho:((List.range i).map (fun i=>BZ (b.getD (i / 8) 0) (i%8))++(zE (8*b.length) false).drop i)[i]? = some (((List.range i).map (fun i=>BZ (b.getD (i / 8) 0) (i%8))++(zE (8*b.length) false).drop i)[i]'(by omega)):=zV (by omega);rw[if_pos (by grind[dw,bn]),hq,hr,gu hb,zD,eu (by rfl),gu ho,zD,zD,iT (by omega),zQ];grind[eqi,kZ,u8,shr,Nat,Int,BZ,BX]
 simp_all[Oi,zF,Nat,Int,if_neg,dw,bn,List.drop_of_length_le,List.append_nil]
end Go.Proofs.Lx
end
noncomputable section
namespace Go.Proofs.Lx
open Go Ev Sx Pl
set_option maxRecDepth 100000
inductive RA:TA->Prop where
 | bits (f p n:Int) (hf:f=1∨f=2) (h1:1≤n) (h2:n≤2000):RA (f,p,n,0,[],[])
 | words (f p n:Int) (hf:f=3∨f=4) (h1:1≤n) (h2:n≤125):RA (f,p,n,0,[],[])
 | coil (p:Int) (b:Bool):RA (5,p,0,0,[],[b])
 | word (p:Int) (x:Int):RA (6,p,0,0,[x],[])
 | coils (p:Int) (l:List Bool) (h1:1≤l.length) (h2:l.length≤1968):RA (15,p,(l.length:Int),0,[],l)
 | regs (p:Int) (l:List Int) (h1:1≤l.length) (h2:l.length≤123):RA (16,p,(l.length:Int),0,l,[])
 | swap (p n t:Int) (l:List Int) (h1:1≤l.length) (h2:l.length≤121) (h3:1≤n) (h4:n≤125):RA (23,p,n,t,l,[])
theorem mV{n:Int}(h:jm n 0=true):n=0:=bu.1 h
theorem qz{n m:Int}(hm:0<m)(h:jm n m=true):1≤n∧n≤m:=by unfold jm at h;rw[if_neg (by grind[bu])]at h;simp_all[gZ,iw]
theorem vF{α:Type}{l:List α}(h:zF l.length=0):l=[]:=by simp_all
theorem len1{α:Type}{l:List α}(h:1≤zF l.length∧zF l.length≤1):∃x,l=[x]:=by grind[bn,List.length_eq_one_iff]
theorem mD{a:TA}(hr:iY a=true):RA a:=by
 obtain⟨f,p,n,t,ws,bs⟩:=a;unfold iY at hr;simp only at hr;rcases acd f with ⟨hf,e⟩ | ⟨hf,e⟩ | ⟨hf,e⟩ | ⟨hf,e⟩ | ⟨hf,e⟩ | ⟨hf,e⟩ | ⟨hf,e⟩ | ⟨hf,e⟩<;>rw[e]at hr<;>simp only[vD,zO,Bool.false_or,Bool.true_or,Bool.not_false,Bool.not_true,true_and,and_true]at hr
 ·obtain⟨h1,h2,h3,h4⟩:=hr
  have h2:=qz (by decide) h2;rw[bu.1 h1,vF (mV h3),vF (mV h4)];exact .bits f p n hf h2.1 h2.2
 ·obtain⟨h1,h2,h3,h4⟩:=hr
  have h2:=qz (by decide) h2;rw[bu.1 h1,vF (mV h3),vF (mV h4)];exact .words f p n hf h2.1 h2.2
 ·obtain⟨h1,h2,h3,h4⟩:=hr
  obtain⟨b,rfl⟩:=len1 (qz (by decide) h3);rw[bu.1 h1,mV h2,vF (mV h4),hf];exact .coil p b
 ·obtain⟨h1,h2,h3,h4⟩:=hr
  obtain⟨b,rfl⟩:=len1 (qz (by decide) h4);rw[bu.1 h1,mV h2,vF (mV h3),hf];exact .word p b
 ·obtain⟨h1,h2,h3,h4,h5⟩:=hr
  have h3:=qz (by decide) h3;have e4:=vF (mV h4);subst e4;rw[bu.1 h1,<- bu.1 h5,hf];rw[bn]at h3;exact .coils p bs (by omega) (by omega)
 ·obtain⟨h1,h2,h3,h4,h5⟩:=hr
  have h4:=qz (by decide) h4;have e3:=vF (mV h3);subst e3;have e5:(ws.length:Int)=n:=by simp_all[bu]
  rw[bu.1 h1,<- e5,hf];rw[bn]at h4;exact .regs p ws (by omega) (by omega)
 ·obtain⟨h2,h3,h4⟩:=hr
  have h2:=qz (by decide) h2;have h4:=qz (by decide) h4;rw[vF (mV h3),hf];rw[bn]at h4;exact .swap p n t ws (by omega) (by omega) h2.1 h2.2
 grind
def jJ(a:TA):List Int :=
 if a.1=5 then a.1::two a.2.1++two (if a.2.2.2.2.2.headD false=true then 65280 else 0)
 else if a.1=6 then a.1::two a.2.1++a.2.2.2.2.1.flatMap two
 else if a.1=15 then a.1::two a.2.1++two a.2.2.1++[(gy a.2.2.2.2.2.length:Int)]++iJ a.2.2.2.2.2
 else if a.1=16 then a.1::two a.2.1++two a.2.2.1++[2*(a.2.2.2.2.1.length:Int)]++a.2.2.2.2.1.flatMap two
 else if a.1=23 then a.1::two a.2.1++two a.2.2.1++two a.2.2.2.1++two (a.2.2.2.2.1.length:Int)++[2*(a.2.2.2.2.1.length:Int)]++a.2.2.2.2.1.flatMap two
 else a.1::two a.2.1++two a.2.2.1
theorem xE(l:List Int):(l.flatMap two).length=2*l.length:=by
 induction l with
 | nil=>rfl
 | cons x r ih=>grind[zZ,two]
theorem Jj(x:Int):(two x).length=2:=rfl
theorem rM{a:TA}(h:RA a):5≤(jJ a).length∧(jJ a).length≤253:=by
 cases h with
 | bits f p n hf h1 h2=>rcases hf with rfl | rfl<;>exact⟨Nat.le.refl,(by decide:5≤253)⟩
 | words f p n hf h1 h2=>rcases hf with rfl | rfl<;>exact⟨Nat.le.refl,(by decide:5≤253)⟩
 | coil p b=>exact⟨Nat.le.refl,(by decide:5≤253)⟩
 | word p x=>exact⟨Nat.le.refl,(by decide:5≤253)⟩
 | coils p l h1 h2 =>
  show 5≤((15:Int)::two p++two _++[_]++iJ l).length∧((15:Int)::two p++two _++[_]++iJ l).length≤253;grind[zZ,List.length_cons,List.length_nil,qT,Jj,gy]
 | regs p l h1 h2 =>
  show 5≤((16:Int)::two p++two _++[_]++l.flatMap two).length∧((16:Int)::two p++two _++[_]++l.flatMap two).length≤253;grind[zZ,List.length_cons,List.length_nil,xE,Jj]
 | swap p n t l h1 h2 h3 h4 =>
  show 5≤((23:Int)::two p++two _++two _++two _++[_]++l.flatMap two).length∧((23:Int)::two p++two _++two _++two _++[_]++l.flatMap two).length≤253;grind[zZ,List.length_cons,List.length_nil,xE,Jj]
abbrev BO:=Option (As [.sl (.int .u8),.int .i64])
theorem bK5(p:Int)(b:Bool)(out:List Int):Ba 5 p 0 0 [] [b] 0 1 0 false false out=zC (nW ([if b=true then 65280 else 0],out,())) fun y=>(some (y.1,0,()):BO):=by cases b<;>rfl
theorem bK6(p x:Int)(out:List Int):Ba 6 p 0 0 [x] [] 0 0 1 false false out=zC (nW ([x],out,())) fun y=>(some (y.1,0,()):BO):=rfl
theorem aEg(p n:Int)(l:List Bool)(out:List Int):Ba 15 p n 0 [] l 1968 1968 0 false true out =
  zC (Hl (l,())) fun y=>need (small (out.length+1)) (need (small ((out++[zF (y.1.length%256)]).length+y.1.length)) (some (out++[zF (y.1.length%256)]++y.1,0,()):BO)):=rfl
theorem aEh(p n:Int)(l out:List Int):Ba 16 p n 0 l [] 123 0 123 false true out =
  need (small (out.length+1)) (zC (nW (l,out++[cvt .u8 (mul .i64 2 (zF l.length))],())) fun y=>(some (y.1,0,()):BO)):=rfl
theorem aEi(p n t:Int)(l out:List Int):Ba 23 p n t l [] 125 0 121 true false out =
  zC (nW ([t,zF (l.length%65536)],out,())) fun y=>need (small (y.1.length+1)) (zC (nW (l,y.1++[cvt .u8 (mul .i64 2 (zF l.length))],())) fun y=>(some (y.1,0,()):BO)):=rfl
theorem KX(x:Int){out:List Int}(h:out.length≤900000):nW ([x],out,())=some (out++two x,()):=by grind[uf]
theorem KY{a:TA}(h:OkA a):Eg (a,())=if iY a=true then some (jJ a,0,()) else some ([],12,()):=by
 show U5 Ba a=_;unfold U5;rw[right_eq h,zD]
 cases hr:iY a with
 | false=>rfl
 | true =>
  have hra:=mD hr;rw[if_neg (by decide),if_pos rfl,rJ,zD];clear hr h;have hin:∀f p:Int,nW ([p],[f],())=some (f::two p,()):=fun f p=>KX p (by simp);have hin2:∀f p n:Int,nW ([n],f::two p,())=some (f::two p++two n,()):=fun f p n=>KX n (by simp[two])
  cases hra with
  | bits f p n hf h1 h2 =>
   rcases hf with rfl | rfl<;>rw[hin,zD,if_pos (by rfl),hin2,zD]
   ·rfl
   rfl
  | words f p n hf h1 h2 =>
   rcases hf with rfl | rfl<;>rw[hin,zD,if_pos (by rfl),hin2,zD]
   ·rfl
   rfl
  | coil p b =>
   rw[hin,zD,if_neg (by show ¬ gt 0 0=true;decide)];exact (bK5 p b _).trans (by rw[KX _ (by simp[two]),zD];rfl)
  | word p x =>
   rw[hin,zD,if_neg (by show ¬ gt 0 0=true;decide)];exact (bK6 p x _).trans (by simp_all[KX,two,zD,jJ])
  | coils p l h1 h2 =>
   rw[hin,zD,if_pos (by rfl),hin2,zD];refine (aEg p _ l _).trans ?_;rw[RX (by omega),zD,jw (by simp[two]),jw (by grind[two,qT,gy])];refine congrArg (fun x=>some (x,0,())) ?_;have e:gy l.length%256=gy l.length:=by grind[gy]
   rw[qT,e];rfl
  | regs p l h1 h2 =>
   rw[hin,zD,if_pos (by rfl),hin2,zD];refine (aEh p _ l _).trans ?_;rw[jw (by simp[two]),nE (by grind) (by grind),sZ,uf (by grind[two]),zD];refine congrArg (fun x=>some (x,0,())) ?_;have e:(2*zF l.length)%256=2*(l.length:Int):=by grind
   rw[e];rfl
  | swap p n t l h1 h2 h3 h4 =>
   rw[hin,zD,if_pos (by rfl),hin2,zD];refine (aEi p n t l _).trans ?_;rw[uf (by simp[two]),zD,jw (by simp[two]),nE (by grind) (by grind),sZ,uf (by grind[two]),zD];refine congrArg (fun x=>some (x,0,())) ?_;have e:(2*zF l.length)%256=2*(l.length:Int):=by grind
   have e2:zF (l.length%65536)=(l.length:Int):=by grind
   simp_all[jJ]
end Go.Proofs.Lx
end
noncomputable section
namespace Pl
open Go Ev Sx
theorem FR{α β:Type}{s1:List α}{s2:List β}(h:s1.length=s2.length){i:Nat}{x:α×β}(hx:(s1.zip s2)[i]? = some x):s1[i]? = some x.1∧s2[i]? = some x.2:=by grind
theorem B6{α:Type}[DecidableEq α]{ne:α->α->Bool}(hne:∀a b,ne a b=!decide (a=b)):∀(s1 s2:List α),s1.length=s2.length ->
  goL (R:=Bool×Unit) (fun (_:Unit) (x:α×α) k=>if ne x.1 x.2=true then some (false,()) else k ()) (fun _=>some (true,())) (s1.zip s2) ()=some (decide (s1=s2),())
 | [],[],_=>rfl
 | a::r,b::q,h=>by
  rw[List.zip_cons_cons];show (if ne a b=true then some (false,()) else goL _ _ (r.zip q) ())=_;rw[hne];by_cases e:a=b
  ·subst e
   rw[if_neg (by simp),B6 hne r q (by simp_all)];simp
  simp_all
end Pl
namespace Go.Proofs.Lx
open Go Ev Sx Pl
set_option maxRecDepth 100000
theorem wo{s1 s2:List Int}(h:s1.length≤1000000):wZ (s1,s2,())=some (decide (s1=s2),()):=by
 show V4 NL s1 s2=_;unfold V4;by_cases hl:s1.length=s2.length
 ·rw[if_neg (by simp_all[fQ,bn])]
  unfold NL;have hz:(s1.zip s2).length=s1.length:=by simp_all
  rw[<- B6 (ne:=nei) (fun a b=>by rfl) s1 s2 hl];refine qy (xs:=s1.zip s2) (mk:=fun i _=>(s1,s2,zF s1.length,(i:Int))) ?_ ?_ s1.length 0 () _ (by omega) (by omega)
  ·intro self i acc x hx
   have hi:=(List.getElem?_eq_some_iff.1 hx).1;obtain⟨h1,h2⟩:=FR hl hx;show NK _ s1 s2 (zF s1.length) (i:Int)=_;unfold NK;rw[if_pos (by grind[dw,bn]),gu h1,zD,gu h2,zD,iT (by omega)]
  simp_all[NK,zF,Nat,Int,if_neg,dw,bn]
 ·rw[if_pos (by grind[fQ,bn]),decide_eq_false (fun e=>hl (by rw[e]))]
theorem acg{s1 s2:List Bool}(h:s1.length≤1000000):Od (s1,s2,())=some (decide (s1=s2),()):=by
 show WK Oc s1 s2=_;unfold WK;by_cases hl:s1.length=s2.length
 ·rw[if_neg (by simp_all[fQ,bn])]
  unfold Oc;have hz:(s1.zip s2).length=s1.length:=by simp_all
  rw[<- B6 (ne:=neb) (fun a b=>by rfl) s1 s2 hl];refine qy (xs:=s1.zip s2) (mk:=fun i _=>(s1,s2,zF s1.length,(i:Int))) ?_ ?_ s1.length 0 () _ (by omega) (by omega)
  ·intro self i acc x hx
   have hi:=(List.getElem?_eq_some_iff.1 hx).1;obtain⟨h1,h2⟩:=FR hl hx;show Ob _ s1 s2 (zF s1.length) (i:Int)=_;unfold Ob;rw[if_pos (by grind[dw,bn]),gu h1,zD,gu h2,zD,iT (by omega)]
  simp_all[Ob,zF,Nat,Int,if_neg,dw,bn]
 ·rw[if_pos (by grind[fQ,bn]),decide_eq_false (fun e=>hl (by rw[e]))]
abbrev BB:=Option (As [.bool])
theorem jS{p:Prop}[Decidable p]{b:Bool}{k:BB}{q:Bool}(h:b=true↔p)(hk:p->k=some (q,())):(if b=true then k else some (false,()))=some (decide p && q,()):=by grind
instance decA5:DecidableEq (Int×Int×Int×List Int×List Bool):=inferInstance
instance decA:DecidableEq TA:=inferInstance
abbrev TP:=Int×Int×Int×Int×Bool×TA×Int×Int×Int
instance decP1:DecidableEq (TA×Int×Int×Int):=inferInstance
instance decP2:DecidableEq (Int×Bool×TA×Int×Int×Int):=inferInstance
instance decP:DecidableEq TP:=inferInstance
theorem RY{a b:Bool}:eqb a b=true↔a=b:=by cases a<;>cases b<;>decide
theorem nY{s:List Int}(h:s.length≤1000000):mZ (s,())=some (s,()):=by
 show aes s=_;unfold aes;split
 ·rename_i h0
  rw[vF (bu.1 h0)];rfl
 grind[jw]
theorem Ca{s:List Bool}(h:s.length≤1000000):A9 (s,())=some (s,()):=by
 show aeG s=_;unfold aeG;split
 ·rename_i h0
  rw[vF (bu.1 h0)];rfl
 grind[jw]
def kJ(tx unit:Int)(pdu:List Int):List Int:=[tx / 256%256,tx%256,0,0,0,(pdu.length+1:Nat)%256,unit]++pdu
theorem apP{tx unit:Int}{pdu:List Int}(h1:1≤pdu.length)(h2:pdu.length≤253):Ni ((tx,unit,pdu),())=some (kJ tx unit pdu,0,()):=by show U8 ae5 (tx,unit,pdu)=_;unfold U8;rw[if_neg (by grind[dw,bn])];show U7 (zF pdu.length) (gt (zF pdu.length) 253) (tx,unit,pdu)=_;unfold U7;dsimp only;have e:add .i64 7 (zF pdu.length)=((7+pdu.length:Nat):Int):=qP (n:=7) (by omega);rw[if_neg (by grind[jD,bn]),e,eu (RV (by omega)),eu (by grind[BR]),jw (by omega),jw (by omega),sZ,sZ,sZ,aad _ _ (by decide),bn,iT (by omega)];rfl
def jA(link unit tx:Int)(a:TA):List Int:=if link=2 then kJ tx unit (jJ a) else iF (unit::jJ a)
theorem RZ{unit:Int}{pdu:List Int}(hu:1≤unit)(hu2:unit≤247)(h1:1≤pdu.length)(h2:pdu.length≤253):Nl (unit,pdu,())=some (iF (unit::pdu),0,()):=by
 show Vn afj unit pdu=_;unfold Vn;have e:Eh (unit,())=some (true,()):=by show Nk unit=_;simp_all[Nk,if_pos,gZ,iw]
 rw[e,zD,if_neg (by decide),if_neg (by grind[dw,bn])];show Vm unit pdu (gt (zF pdu.length) 253)=_;unfold Vm;rw[if_neg (by grind[jD,bn]),jw (by omega),put_eq (by grind),zD]
structure OkP(p:TP):Prop where
 u0:1≤p.1
 u1:p.1≤247
 l:p.2.1=1∨p.2.1=2
 t0:1≤p.2.2.1
 t1:p.2.2.1≤100000
 r0:0≤p.2.2.2.1
 r1:p.2.2.2.1≤1000
 a:OkA p.2.2.2.2.2.1
 x0:0≤p.2.2.2.2.2.2.1
 x1:p.2.2.2.2.2.2.1≤65535
def wu(link tx:Int):Int:=if link=2 then (tx+1)%65536 else tx
def ug(p:TP):TP:=(p.1,p.2.1,p.2.2.1,p.2.2.2.1,p.2.2.2.2.1,p.2.2.2.2.2.1,wu p.2.1 p.2.2.2.2.2.2.1,p.2.2.1,p.2.2.2.2.2.2.2.2)
def zm(p:TP):List Int:=jA p.2.1 p.1 (wu p.2.1 p.2.2.2.2.2.2.1) p.2.2.2.2.2.1
theorem vG(b:List Int):(iF b).length=b.length+2:=by simp[iF]
def zA:TA:=(0,0,0,0,[],[])
def wz(p:TP)(a:TA):TP:=(p.1,p.2.1,p.2.2.1,p.2.2.2.1,true,a,p.2.2.2.2.2.2.1,p.2.2.2.2.2.2.2.1,p.2.2.2.1)
def fK(p:TP):TP:=(p.1,p.2.1,p.2.2.1,p.2.2.2.1,false,zA,p.2.2.2.2.2.2.1,0,0)
def aah(p:TP)(n:Int):TP:=(p.1,p.2.1,p.2.2.1,p.2.2.2.1,p.2.2.2.2.1,p.2.2.2.2.2.1,p.2.2.2.2.2.2.1,n,p.2.2.2.2.2.2.2.2)
def sI(p:TP)(n m:Int):TP:=(p.1,p.2.1,p.2.2.1,p.2.2.2.1,p.2.2.2.2.1,p.2.2.2.2.2.1,p.2.2.2.2.2.2.1,n,m)
def kK(p:TP):TP×List Int×Bool :=
 if p.2.2.2.2.1=true then
  if p.2.2.2.2.2.2.2.1=1 then
   if 0<p.2.2.2.2.2.2.2.2 then (ug (sI p 0 (p.2.2.2.2.2.2.2.2 - 1)),zm (sI p 0 (p.2.2.2.2.2.2.2.2 - 1)),false)
   else (fK p,[],true)
  else (aah p (p.2.2.2.2.2.2.2.1 - 1),[],false)
 else (p,[],false)
def uO(u l t r:Int):Bool:=decide ((1≤u∧u≤247)∧(l=1∨l=2)∧(1≤t∧t≤100000)∧0≤r∧r≤1000)
def zP:TP:=(0,0,0,0,false,zA,0,0,0)
end Go.Proofs.Lx
end
noncomputable section
namespace Pl
open Go Ev Sx
theorem aEj{y:Int}(h0:0≤y)(h1:y≤255):shl .u16 (cvt .u16 y) 8=256*y:=by
 rw[zk];unfold shl;have:min (8:Int).toNat IntKind.u16.bits=8:=by decide
 grind[BU]
theorem ati{a b:Int}(ha:0≤a)(ha2:a≤255)(hb:0≤b)(hb':b≤255):bor .u16 (256*a) b=256*a+b:=by
 obtain⟨n,rfl⟩:=zN ha;obtain⟨m,rfl⟩:=zN hb;unfold bor;rw[BU]
 have e1:(BitVec.ofInt IntKind.u16.bits (256*(n:Int))).toNat=256*n:=by
  rw[BitVec.toNat_ofInt];have:((2 ^ IntKind.u16.bits:Nat):Int)=65536:=by decide
  grind
 have e2:(BitVec.ofInt IntKind.u16.bits (m:Int)).toNat=m:=by
  rw[BitVec.toNat_ofInt];have:((2 ^ IntKind.u16.bits:Nat):Int)=65536:=by decide
  grind
 rw[BitVec.toNat_or,e1,e2];have e3:256*n ||| m=256*n+m:=by have:=Nat.two_pow_add_eq_or_of_lt (i:=8) (b:=m) (by omega) n;simp_all
 omega
theorem alQ{a b:Int}:bor .u16 a b=bor .u16 b a:=by grind[bor,BitVec.or_comm]
def iK(y z:Int):Int:=bor .u16 (shl .u16 (cvt .u16 y) 8) (cvt .u16 z)
theorem PS(y z:Int):0≤iK y z∧iK y z<65536:=RU _
theorem C9{y z:Int}(h0:0≤y)(h1:y≤255)(h2:0≤z)(h3:z≤255):iK y z=256*y+z:=by unfold iK;rw[aEj h0 h1,zk];grind[ati]
def iL(b:List Int):List Int:=(List.range (b.length / 2)).map fun i=>iK (b.getD (2*i) 0) (b.getD (2*i+1) 0)
end Pl
namespace Go.Proofs.Lx
open Go Ev Sx Pl
set_option maxRecDepth 100000
abbrev TR:=Int×Int×List Bool×List Int×Int×Int
instance decR5:DecidableEq (Int×List Bool×List Int×Int×Int):=inferInstance
instance decR:DecidableEq TR:=inferInstance
def zR:TR:=(0,0,[],[],0,0)
structure SmR(r:TR):Prop where
 b:r.2.2.1.length≤100000
 w:r.2.2.2.1.length≤100000
theorem wB:SmR zR:=⟨by decide,by decide⟩
theorem qd{a b:TR}(h:SmR a):vo (a,b,())=some (decide (a=b),()):=by show aha a b=_;unfold aha;have h1:=h.b;have h2:=h.w;rw[wo (by omega),zD,acg (by omega),zD];obtain⟨a1,a2,a3,a4,a5,a6⟩:=a;obtain⟨b1,b2,b3,b4,b5,b6⟩:=b;rw[jS (bu) fun _=>jS (bu) fun _=>jS (bu) fun _=>jS (bu) fun _=>jS (p:=a3=b3) (by simp) fun _=>rfl];refine congrArg (fun x=>some (x,())) ?_;grind
def exR(r:TR):Bool:=decide (r.1<128) && (decide (1≤r.2.1) && (decide (r.2.1≤4) && decide (r=(rem r.1 128,r.2.1,[],[],0,0))))
def zn(r:TR):Bool:=decide (8≤r.2.2.1.length) && (decide (r.2.2.1.length≤2000) && (decide (r.2.2.1.length%8=0) && decide (r=(r.1,0,r.2.2.1,[],0,0))))
def qU(r:TR):Bool:=decide (1≤r.2.2.2.1.length) && (decide (r.2.2.2.1.length≤125) && decide (r=(r.1,0,[],r.2.2.2.1,0,0)))
def obR(r:TR):Bool:=decide (r.2.2.1.length=1) && decide (r=(r.1,0,r.2.2.1,[],r.2.2.2.2.1,0))
def owR(r:TR):Bool:=decide (r.2.2.2.1.length=1) && decide (r=(r.1,0,[],r.2.2.2.1,r.2.2.2.2.1,0))
def ctR(k:Int)(r:TR):Bool:=decide (1≤r.2.2.2.2.2) && (decide (r.2.2.2.2.2≤k) && decide (r=(r.1,0,[],[],r.2.2.2.2.1,r.2.2.2.2.2)))
theorem PT{r:TR}(h:SmR r):Er ((),r,())=some (exR r,()):=by show ahb () r=_;unfold ahb exR;have e:kI (r.1,r.2.1,())=some ((rem r.1 128,r.2.1,[],[],0,0),()):=rfl;rw[e,zD,qd h,zD];rw[jS (dw) fun _=>jS (gZ) fun _=>jS (iw) fun _=>rfl]
theorem Jk{r:TR}(h:SmR r):w9 ((),r,())=some (zn r,()):=by show ahd () r=_;unfold ahd zn;rw[qd h,zD];rw[jS (p:=8≤r.2.2.1.length) (by grind[gZ,bn]) fun _=>jS (p:=r.2.2.1.length≤2000) (by grind[iw,bn]) fun _=>jS (p:=r.2.2.1.length%8=0) (by grind[bu,bn,rem,Int,Nat,uN]) fun _=>rfl]
theorem ER{r:TR}(h:SmR r):xV ((),r,())=some (qU r,()):=by show ahf () r=_;unfold ahf qU;rw[qd h,zD];rw[jS (p:=1≤r.2.2.2.1.length) (by grind[gZ,bn]) fun _=>jS (p:=r.2.2.2.1.length≤125) (by grind[iw,bn]) fun _=>rfl]
theorem PU{r:TR}(h:SmR r):Es ((),r,())=some (obR r,()):=by show ahh () r=_;unfold ahh obR;rw[qd h,zD];rw[jS (p:=r.2.2.1.length=1) (by grind[bu,bn]) fun _=>rfl]
theorem PV{r:TR}(h:SmR r):Et ((),r,())=some (owR r,()):=by show ahj () r=_;unfold ahj owR;rw[qd h,zD];rw[jS (p:=r.2.2.2.1.length=1) (by grind[bu,bn]) fun _=>rfl]
theorem Cb{r:TR}{k:Int}(h:SmR r):xg (k,r,())=some (ctR k r,()):=by show ahl k r=_;unfold ahl ctR;rw[qd h,zD];rw[jS (gZ) fun _=>jS (iw) fun _=>rfl]
def oO(r:TR):Bool:=if nei r.2.1 0=true then exR r else if eqi r.1 1=true then zn r else if eqi r.1 2=true then zn r else if eqi r.1 3=true then qU r else if eqi r.1 4=true then qU r else if eqi r.1 23=true then qU r else
 if eqi r.1 5=true then obR r else if eqi r.1 6=true then owR r else if eqi r.1 15=true then ctR 1968 r else if eqi r.1 16=true then ctR 123 r else false
theorem ach{r:TR}(h:SmR r):WM (r,())=some (oO r,()):=by
 show ahn r=_;unfold ahn oO;rw[PT h,Jk h,ER h,PU h,PV h,Cb h,Cb h];simp only[zD]
 repeat (first | rfl | split)
def exB(r:TR):List Int:=[add .u8 r.1 128,r.2.1]
def Jl(r:TR):List Int:=r.1::(gy r.2.2.1.length:Int)%256::iJ r.2.2.1
def wC(r:TR):List Int:=[r.1,2*(r.2.2.2.1.length:Int)%256]++r.2.2.2.1.flatMap two
def obB(r:TR):List Int:=r.1::two r.2.2.2.2.1++two (if r.2.2.1.headD false=true then 65280 else 0)
def owB(r:TR):List Int:=r.1::two r.2.2.2.2.1++two (r.2.2.2.1.headD 0)
def ctB(r:TR):List Int:=r.1::two r.2.2.2.2.1++two r.2.2.2.2.2
theorem rZ{l out:List Int}(h:out.length+2*l.length≤1000000):Bn (l,out,())=some (out++l.flatMap two,()):=by
 show Xb Ou l out=_;unfold Xb Ou;refine (oN (xs:=l) (mk:=fun i acc=>(l,zF l.length,(i:Int),acc)) (stp:=fun o y=>o++two y) (fin:=fun acc=>some (acc,())) (fun i acc=>acc.length≤out.length+2*i) ?_ ?_ ?_ l.length 0 out _ (by omega) (by omega) (by omega)).trans ?_
 ·intro self i acc x hx hI
  have hi:=(List.getElem?_eq_some_iff.1 hx).1;show Ot _ l (zF l.length) (i:Int) acc=_;unfold Ot;rw[if_pos (by grind[dw,bn]),gu hx,zD,jw (by omega),ace,iT (by omega)]
 ·grind[two]
 ·simp_all[Ot,zF,Int,if_neg,dw,bn]
 ·rw[List.drop_zero,vZ]
theorem aci(r:TR):Ic ((),r,())=some (exB r,()):=rfl
theorem R3{r:TR}(h:SmR r):Bl ((),r,())=some (Jl r,()):=by show ahA () r=_;unfold ahA;have hb:=h.b;rw[RX hb,zD,jw (by grind[qT,gy]),qT];rfl
theorem PW{r:TR}(h:SmR r):xq ((),r,())=some (wC r,()):=by show ahH () r=_;unfold ahH;have hw:=h.w;rw[nE (by grind) (by grind),sZ,rZ (by grind),zD];rfl
theorem acj{r:TR}(h:obR r=true):Ii ((),r,())=some (obB r,()):=by
 unfold obR at h;rw[zO]at h;obtain⟨x,hx⟩:=List.length_eq_one_iff.1 (of_decide_eq_true h.1);show Xf Ov () r=_;unfold Xf;rw[hx,iX,zD];have key:∀(v:Int) (r2:Int) (r3:List Bool) (r4:List Int) (r6:Int),Ov v r.1 r2 r3 r4 r.2.2.2.2.1 r6=some (r.1::two r.2.2.2.2.1++two v,()):=fun v r2 r3 r4 r6=>by unfold Ov ahM;rw[rZ (by simp),zD];simp
 unfold obB;rw[hx]
 cases x with
 | true=>rw[if_pos rfl,key];rfl
 | false=>rw[if_neg (by decide),key];rfl
theorem vH{R:Type}{eq:R->R->Bool}(h:∀x,eq x x=true)(o:R):amb eq [some o,some o]=some o:=by show (if eq o o=true then some o else none)=_;simp_all
theorem eqAs_refl:∀(rs:List Ty) (x:As rs),au rs x x=true
 | [],_=>rfl
 | t::r,x=>by simp_all[eqV,au,PR,eqAs_refl]
theorem ack{r:TR}(h:owR r=true):Ij ((),r,())=some (owB r,()):=by unfold owR at h;rw[zO]at h;obtain⟨x,hx⟩:=List.length_eq_one_iff.1 (of_decide_eq_true h.1);show ahP () r=_;grind[ahP,iX,rZ,vH,eqAs_refl,owB]
theorem PX(k:Int)(r:TR):Bp (k,r,())=some (ctB r,()):=by show ahR k r=_;grind[ahR,rZ,ctB]
theorem zo{b:List Int}(h:b.length≤100000):Ig (b,())=some (iL b,()):=by
 show WX Oo b=_;unfold WX;have hq:quo .i64 (zF b.length) 2=((b.length / 2:Nat):Int):=pz (d:=2) (by omega);rw[hq,eu (by rfl),eu (nG _),zQ,jw (by omega),kD];unfold Oo iL;refine (vE (mk:=fun i=>(b,zF (b.length / 2),(i:Int),(List.range i).map (fun i=>iK (b.getD (2*i) 0) (b.getD (2*i+1) 0))++(zE (b.length / 2) (0:Int)).drop i)) (N:=b.length / 2) ?_ ?_ (b.length / 2) 0 _ (by omega) (by omega))
 ·intro self i hi
  show Om _ b (zF (b.length / 2)) (i:Int) _=_;unfold Om;have hm:mul .i64 2 (i:Int)=((2*i:Nat):Int):=by grind[nE]
  have h1:b[2*i]? = some (b[2*i]'(by omega)):=zV (by omega);have h2:b[2*i+1]? = some (b[2*i+1]'(by omega)):=zV (by omega);have ho:((List.range i).map (fun i=>iK (b.getD (2*i) 0) (b.getD (2*i+1) 0))++(zE (b.length / 2) (0:Int)).drop i)[i]? = some (((List.range i).map (fun i=>iK (b.getD (2*i) 0) (b.getD (2*i+1) 0))++(zE (b.length / 2) (0:Int)).drop i)[i]'(by grind)):=zV (by grind);rw[if_pos (by grind[dw,bn]),hm,iT (by omega),gu h1,gu h2,gu ho,iT (by omega),zQ];grind[bor,shl,cvt,iK,BX]
 simp_all[Om,zF,Nat,Int,if_neg,dw,bn,List.drop_of_length_le,List.append_nil]
end Go.Proofs.Lx
end
noncomputable section
namespace Go.Proofs.Lx
open Go Ev Sx Pl
set_option maxRecDepth 100000
theorem qA(b:List Int):(iL b).length=b.length / 2:=by simp[iL]
theorem mF(b:List Int):(lV b).length=8*b.length:=by simp[lV]
def exC(x y:Int):TR:=(rem x 128,y,[],[],0,0)
def vI(x:Int)(r:List Int):TR:=(x,0,lV r,[],0,0)
def oz(x:Int)(r:List Int):TR:=(x,0,[],iL r,0,0)
def pY(f:Int->Int->TR)(r:List Int):TR:=match iL r with
 | p::q::_=>f p q
 | _=>zR
def obC(x:Int):List Int->TR:=pY fun p q=>(x,0,[eqi q 65280],[],p,0)
def owC(x:Int):List Int->TR:=pY fun p q=>(x,0,[],[q],p,0)
def ctC(x:Int):List Int->TR:=pY fun p q=>(x,0,[],[],p,q)
theorem lG{α:Type}(x:α)(r:List α):cut (x::r) 1 (zF (x::r).length)=some r:=RP x r
theorem R4{α:Type}(x y:α)(r:List α):cut (x::y::r) 2 (zF (x::y::r).length)=some r:=by have:=lF (xs:=x::y::r) (i:=2) (by simp);simp_all
theorem atj(x y:Int)(r:List Int):WS ((),x::y::r,())=some (exC x y,()):=rfl
theorem aqZ(x y:Int){r:List Int}(h:r.length≤1000):Ol ((),x::y::r,())=some (vI x r,()):=by show ahz () (x::y::r)=_;unfold ahz;rw[iX,zD,R4,zD,B5 (by omega),zD];rfl
theorem alR(x y:Int){r:List Int}(h:r.length≤1000):Ih ((),x::y::r,())=some (oz x r,()):=by show ahE () (x::y::r)=_;unfold ahE;rw[iX,zD,R4,zD,zo (by omega),zD];rfl
theorem zq(l:List Int):(l.length<2∧∀(f:Int->Int->TR),(match l with | p::q::_=>f p q | _=>zR)=zR)∨∃p q r,l=p::q::r:=by
 match l with
 | []=>simp
 | [_]=>simp
 | p::q::r=>simp
theorem at_one{α:Type}(p q:α)(r:List α):at? (p::q::r) 1=some q:=rfl
theorem atl(x:Int){r:List Int}(h:r.length≤1000):Xd ((),x::r,())=some (obC x r,()):=by
 show ahI () (x::r)=_;unfold ahI obC pY;rw[lG,zD,zo (by omega),zD];rcases zq (iL r) with ⟨h1,h2⟩ | ⟨p,q,s,h1⟩
 ·dsimp only
  rw[h2,if_pos (by grind[dw,bn])];rfl
 ·dsimp only
  rw[h1,if_neg (by grind[dw,bn]),iX,iX,at_one];rfl
theorem atm(x:Int){r:List Int}(h:r.length≤1000):Xg ((),x::r,())=some (owC x r,()):=by
 show ahN () (x::r)=_;unfold ahN owC pY;rw[lG,zD,zo (by omega),zD];rcases zq (iL r) with ⟨h1,h2⟩ | ⟨p,q,s,h1⟩
 ·dsimp only
  rw[h2,if_pos (by grind[dw,bn])];rfl
 ·dsimp only
  rw[h1,if_neg (by grind[dw,bn]),iX,iX,at_one];rfl
theorem atn(k x:Int){r:List Int}(h:r.length≤1000):Ox (k,x::r,())=some (ctC x r,()):=by
 show ahQ k (x::r)=_;unfold ahQ ctC pY;rw[lG,zD,zo (by omega),zD];rcases zq (iL r) with ⟨h1,h2⟩ | ⟨p,q,s,h1⟩
 ·dsimp only
  rw[h2,if_pos (by grind[dw,bn])];rfl
 ·dsimp only
  rw[h1,if_neg (by grind[dw,bn]),iX,iX,at_one];rfl
theorem rO{f:Int->Int->TR}(h:∀p q,SmR (f p q))(r:List Int):SmR (pY f r):=by grind[pY,wB]
def oP(b:List Int)(c:TR)(ok:Bool)(w:List Int):TR×Int:=if ok=true then if eqs (toS w) (toS b)=true then (c,0) else (zR,13) else (zR,13)
theorem xX{b:List Int}{c:TR}{ok:Bool}{w:List Int}{rd:Option (TR×Unit)}{rt:TR->Option (Bool×Unit)}{wt:TR->Option (List Int×Unit)}(h1:rd=some (c,()))(h2:rt c=some (ok,()))(h3:ok=true->wt c=some (w,())) :
  (zC rd fun y=>zC (rt y.1) fun y_1=>if (!y_1.1)=true then some ((0,0,[],[],0,0),13,()) else zC (wt y.1) fun y_2=>zC (oK (y_2.1,b,())) fun y_3=>if (!y_3.1)=true then some ((0,0,[],[],0,0),13,()) else (some (y.1,0,()):Option (TR×Int×Unit)))=some ((oP b c ok w).1,(oP b c ok w).2,()):=by
 rw[h1,zD,h2,zD];unfold oP
 cases ok with
 | false=>rfl
 | true =>
  rw[if_neg (by decide),h3 rfl,zD,if_pos rfl];show zC (some (eqs (toS w) (toS b),())) _=_;rw[zD];cases eqs (toS w) (toS b)<;>rfl
theorem nT{c:Prop}[Decidable c]{A B:Option (TR×Int×Unit)}{a b:TR×Int}(h1:A=some (a.1,a.2,()))(h2:B=some (b.1,b.2,())):(if c then A else B)=some ((if c then a else b).1,(if c then a else b).2,()):=by grind
def iH(x y:Int)(r:List Int):TR×Int:=if 251<r.length then (zR,13) else if lt x 128=true then
   if eqi x 1=true then oP (x::y::r) (vI x r) (zn (vI x r)) (Jl (vI x r)) else if eqi x 2=true then oP (x::y::r) (vI x r) (zn (vI x r)) (Jl (vI x r)) else
   if eqi x 3=true then oP (x::y::r) (oz x r) (qU (oz x r)) (wC (oz x r)) else if eqi x 4=true then oP (x::y::r) (oz x r) (qU (oz x r)) (wC (oz x r)) else
   if eqi x 23=true then oP (x::y::r) (oz x r) (qU (oz x r)) (wC (oz x r)) else if eqi x 5=true then oP (x::y::r) (obC x (y::r)) (obR (obC x (y::r))) (obB (obC x (y::r))) else
   if eqi x 6=true then oP (x::y::r) (owC x (y::r)) (owR (owC x (y::r))) (owB (owC x (y::r))) else if eqi x 15=true then oP (x::y::r) (ctC x (y::r)) (ctR 1968 (ctC x (y::r))) (ctB (ctC x (y::r))) else
   if eqi x 16=true then oP (x::y::r) (ctC x (y::r)) (ctR 123 (ctC x (y::r))) (ctB (ctC x (y::r))) else (zR,13)
  else oP (x::y::r) (exC x y) (exR (exC x y)) (exB (exC x y))
def lX:List Int->TR×Int
 | x::y::r=>iH x y r
 | _=>(zR,13)
theorem PY(b:List Int):Ik (b,())=some ((lX b).1,(lX b).2,()):=by
 show Xi Xj b=_;unfold Xi
 match b with
 | []=>rfl
 | [_]=>rfl
 | x::y::r =>
  rw[if_neg (by grind[dw,bn])];show _=some ((iH x y r).1,(iH x y r).2,());unfold Xj ahV iH;by_cases hl:251<r.length
  ·rw[if_pos (by grind[jD,bn]),if_pos hl]
   rfl
  ·rw[if_neg (by grind[jD,bn]),if_neg hl,iX,zD,zD]
   have sb:SmR (vI x r):=⟨by show (lV r).length≤_;grind[mF],by show 0≤100000;decide⟩;have sw:SmR (oz x r):=⟨by show 0≤100000;decide,by show (iL r).length≤_;grind[qA]⟩;have so:SmR (obC x (y::r)):=rO (fun p q=>⟨by simp,by simp⟩) _;have su:SmR (owC x (y::r)):=rO (fun p q=>⟨by simp,by simp⟩) _;have sc:SmR (ctC x (y::r)):=rO (fun p q=>⟨by simp,by simp⟩) _;have se:SmR (exC x y):=⟨by show 0≤100000;decide,by show 0≤100000;decide⟩;have hr:(y::r).length≤1000:=by grind
   have kb:=xX (b:=x::y::r) (rt:=fun c=>w9 ((),c,())) (wt:=fun c=>Bl ((),c,())) (aqZ x y (by omega)) (Jk sb) (fun _=>R3 sb);have kw:=xX (b:=x::y::r) (rt:=fun c=>xV ((),c,())) (wt:=fun c=>xq ((),c,())) (alR x y (by omega)) (ER sw) (fun _=>PW sw);have ko:=xX (b:=x::y::r) (rt:=fun c=>Es ((),c,())) (wt:=fun c=>Ii ((),c,())) (atl x hr) (PU so) (fun h=>acj h);have ku:=xX (b:=x::y::r) (rt:=fun c=>Et ((),c,())) (wt:=fun c=>Ij ((),c,())) (atm x hr) (PV su) (fun h=>ack h);have kc:=fun k=>xX (b:=x::y::r) (rt:=fun c=>xg (k,c,())) (wt:=fun c=>Bp (k,c,())) (atn k x hr) (Cb sc) (fun _=>PX k _);have ke:=xX (b:=x::y::r) (rt:=fun c=>Er ((),c,())) (wt:=fun c=>Ic ((),c,())) (atj x y r) (PT se) (fun _=>aci _);exact nT (nT kb (nT kb (nT kw (nT kw (nT kw (nT ko (nT ku (nT (kc _) (nT (kc _) rfl))))))))) ke
def cutV(b:List Int):List Int×Int :=
 if b.length<2 then ([],10) else
 if pM (b.take (b.length - 2))=iK (b.getD (b.length - 1) 0) (b.getD (b.length - 2) 0) then (b.take (b.length - 2),0) else ([],11)
theorem alS{α:Type}{z:α}{n:Nat}{y:List α}(h:y.length=n):List.take (zI (zF (zG (zE n z)))) y++List.drop (0+zG (List.take (zI (zF (zG (zE n z)))) y)) (zE n z)=y:=by grind
theorem acm{α:Type}{z:α}{n:Nat}{y:List α}(h:n≤y.length):List.take (zI (zF (zG (zE n z)))) y++List.drop (0+zG (List.take (zI (zF (zG (zE n z)))) y)) (zE n z)=y.take n:=by simp_all
theorem aq0{b:List Int}(h:b.length≤100000):KU (b,())=some ((cutV b).1,(cutV b).2,()):=by
 show Xz b=_;unfold Xz cutV;by_cases h2:b.length<2
 ·rw[if_pos (by grind[dw,bn]),if_pos h2]
 ·have e1:sub .i64 (zF b.length) 2=((b.length - 2:Nat):Int):=by grind[kV,bn]
  have g1:b[b.length - 2]? = some (b[b.length - 2]'(by omega)):=zV (by omega);have g2:b[b.length - 2+1]? = some (b[b.length - 2+1]'(by omega)):=zV (by omega);rw[if_neg (by grind[dw,bn]),if_neg h2,e1,oM (by omega),zD,iT (by omega),gu g1,zD,gu g2,zD,ab9 (by grind),zD]
  have e2:bor .u16 (cvt .u16 (b[b.length - 2]'(by omega))) (shl .u16 (cvt .u16 (b[b.length - 2+1]'(by omega))) 8)=iK (b.getD (b.length - 1) 0) (b.getD (b.length - 2) 0):=by
   rw[alQ];have e3:b.length - 1=b.length - 2+1:=by omega
   rw[e3,zX,zX,g1,g2];rfl
  rw[e2];by_cases hs:pM (b.take (b.length - 2))=iK (b.getD (b.length - 1) 0) (b.getD (b.length - 2) 0)
  ·rw[if_neg (by simp_all[fQ]),if_pos hs,eu (by rfl),eu (nG _),zQ,jw (by omega),eu (by simp_all[iw,kD,bn]),acm (by omega)]
  simp_all[if_pos,fQ,if_neg]
theorem acn(u:Int):Eh (u,())=some (decide (1≤u) && decide (u≤247),()):=by show Nk u=_;unfold Nk;rw[jS (gZ) fun _=>rfl];rfl
def gW(b:List Int):Int×List Int×Int :=
 if b.length<4∨256<b.length then (0,[],10) else
 if (cutV b).2≠0 then (0,[],(cutV b).2) else
 match (cutV b).1 with
 | []=>(0,[],10)
 | x::r=>if (decide (1≤x) && decide (x≤247))=true then (x,r,0) else (0,[],10)
theorem alT{b:List Int}(h:(cutV b).2=0):(cutV b).1.length=b.length - 2:=by unfold cutV at h ⊢;grind
theorem Da(b:List Int):Io (b,())=some ((gW b).1,(gW b).2.1,(gW b).2.2,()):=by
 show XC XD b=_;have K:∀t,XD b t=XB b t:=fun _=>rfl;unfold XC gW;rw[K,K];by_cases h:b.length<4
 ·rw[if_pos (by rw[dw,bn];omega),if_pos (.inl h)]
  rfl
 ·rw[if_neg (by rw[dw,bn];omega)]
  unfold XB;by_cases h2:256<b.length
  ·rw[if_pos (by rw[jD,bn];omega),if_pos (.inr h2)]
  ·rw[if_neg (by rw[jD,bn];omega),if_neg (by omega),aq0 (by omega),zD]
   dsimp only;by_cases h3:(cutV b).2=0
   ·rw[if_neg (by rw[fQ];exact fun e=>e h3),if_neg (fun e=>e h3)]
    have hl:=alT h3
    match hc:(cutV b).1 with
    | []=>rw[hc]at hl;simp at hl;omega
    | x::r =>
     rw[iX,zD,acn,zD,zD];show _=some ((if (decide (1≤x) && decide (x≤247))=true then (x,r,0) else (0,[],10)).1,(if (decide (1≤x) && decide (x≤247))=true then (x,r,0) else (0,[],10)).2.1,(if (decide (1≤x) && decide (x≤247))=true then (x,r,0) else (0,[],10)).2.2,())
     cases decide (1≤x) && decide (x≤247) with
     | false=>rfl
     | true =>
      have e:cut (x::r) 1 (zF (x::r).length)=some r:=RP x r;rw[if_neg (by decide),e,zD,eu (by rw[iw];omega),eu (by rw[iw];omega),if_pos rfl]
   ·rw[if_pos (by rw[fQ];exact h3),if_pos h3]
def zu(unit:Int)(b:List Int):Option TR :=
 if (gW b).2.2≠0 then none else if (gW b).1≠unit then none else
 if (lX (gW b).2.1).2≠0 then none else some (lX (gW b).2.1).1
def qV:Option TR->Option (TR×Bool×Unit)
 | some r=>some (r,true,())
 | none=>some (zR,false,())
def mW(b2 b3 b4 b5:Int):Bool:=!nei b2 0 && (!nei b3 0 && (!nei b4 0 && (!lt b5 2 && !gt (cvt .i64 b5) 254)))
theorem aai{self:List Int->Int->Option (As [.bool])}{b:List Int}{i y:Int}(hi:i<5)(hl:i<zF b.length)(hy:at? b i=some y) :
  Eu (Ew self) self b i=if nei y 0=true then some (false,()) else self b (add .i64 i 1):=by
 have e5:eqi i 5=false:=by rw[<- Bool.not_eq_true,bu];omega
 unfold Eu;rw[if_pos (by grind[dw]),dw.2 hl];unfold Ew Xm;rw[if_pos rfl,if_pos (dw.2 hi),hy,zD];unfold Xp Xn
 cases nei y 0 with
 | true=>rfl
 | false =>
  simp only[e5,Bool.false_eq_true,if_false];rfl
theorem ato{self:List Int->Int->Option (As [.bool])}{b:List Int}{y:Int}(hl:5<zF b.length)(hy:at? b 5=some y) :
  Eu (Ew self) self b 5=if lt y 2=true then some (false,()) else if gt (cvt .i64 y) 254=true then some (false,()) else self b 6:=by
 unfold Eu;rw[if_pos (by decide),dw.2 hl];unfold Ew Xm;rw[if_pos rfl,if_neg (by decide)];unfold Xp Xn;rw[if_neg (by decide),if_pos (by decide),hy,zD,zD];rfl
theorem aco(b0 b1 b2 b3 b4 b5 b6 b7:Int)(r:List Int):Xq (b0::b1::b2::b3::b4::b5::b6::b7::r,())=some (mW b2 b3 b4 b5,()):=by
 show Xo Oy _=_;unfold Xo Oy mW;have hlen:(zF (b0::b1::b2::b3::b4::b5::b6::b7::r).length)=(r.length:Int)+8:=by rfl
 generalize hb:b0::b1::b2::b3::b4::b5::b6::b7::r=b at hlen ⊢;have h2:at? b 2=some b2:=by rw[<- hb];rfl
 have h3:at? b 3=some b3:=by rw[<- hb];rfl
 have h4:at? b 4=some b4:=by rw[<- hb];rfl
 have h5:at? b 5=some b5:=by rw[<- hb];rfl
 have key:∀n:Nat,cu (fun (self:(List Int)×(Int)->Option (As [.bool])) (s:(List Int)×(Int))=>Eu (Ew (fun b i=>self (b,i))) (fun b i=>self (b,i)) s.1 s.2) (n+5) (b,2) =
   some (!nei b2 0 && (!nei b3 0 && (!nei b4 0 && (!lt b5 2 && !gt (cvt .i64 b5) 254))),()):=by
  intro n;rw[lN];refine (aai (by decide) (by omega) h2).trans ?_
  cases nei b2 0 with
  | true=>rfl
  | false =>
   rw[if_neg (by decide),lN];refine (aai (i:=3) (by decide) (by omega) h3).trans ?_
   cases nei b3 0 with
   | true=>rfl
   | false =>
    rw[if_neg (by decide),lN];refine (aai (i:=4) (by decide) (by omega) h4).trans ?_
    cases nei b4 0 with
    | true=>rfl
    | false =>
     rw[if_neg (by decide),lN];refine (ato (by omega) h5).trans ?_
     cases lt b5 2 with
     | true=>rfl
     | false =>
      cases gt (cvt .i64 b5) 254 with
      | true=>rfl
      | false =>
       rfl
 simp_all
def zM:Int×Int×List Int:=(0,0,[])
def gB:List Int->(Int×Int×List Int)×Int
 | b0::b1::b2::b3::b4::b5::b6::r =>
  if r=[] then (zM,10) else if mW b2 b3 b4 b5=true then if (r.length:Int)+1=b5 then ((iK b0 b1,b6,r),0) else (zM,10) else (zM,10)
 | _=>(zM,10)
theorem wD{b:List Int}(hl:b.length≤100000)(hb:∀x∈b,0≤x∧x≤255):Ey (b,())=some ((gB b).1,(gB b).2,()):=by
 show Xv Xw b=_;unfold Xv;have short:b.length≤7->Oz (b,())=some (zM,0,()):=fun h=>by show Il Xu b=_;unfold Il;rw[if_pos (by grind[iw,bn])];rfl
 have shortP:b.length≤7->gB b=(zM,10):=fun h=>by
  match b with
  | [] | [_] | [_,_] | [_,_,_] | [_,_,_,_] | [_,_,_,_,_] | [_,_,_,_,_,_]=>rfl
  | [_,_,_,_,_,_,_]=>rfl
  | _::_::_::_::_::_::_::_::_=>simp_all
 by_cases hs:b.length≤7
 ·rw[short hs,shortP hs]
  rfl
 ·match b with
  | [] | [_] | [_,_] | [_,_,_] | [_,_,_,_] | [_,_,_,_,_] | [_,_,_,_,_,_]=>rfl
  | [_,_,_,_,_,_,_]=>rfl
  | b0::b1::b2::b3::b4::b5::b6::b7::r =>
   have h5:=hb b5 (by simp);have hlr:r.length≤100000:=by grind
   have e5:cvt .i64 b5=b5:=iU (by omega) (by omega)
   have hF:Oz (b0::b1::b2::b3::b4::b5::b6::b7::r,())=if mW b2 b3 b4 b5=true then if (r.length:Int)+2<b5 then some (zM,0,()) else some ((iK b0 b1,b6,(b7::r).take (b5 - 1).toNat),6+b5,()) else some (zM,0,()):=by
    show Il Xu _=_;unfold Il;rw[if_neg (by grind[iw,bn]),aco,zD]
    cases hbg:mW b2 b3 b4 b5 with
    | false=>rfl
    | true =>
     rw[if_pos rfl];have h52:2≤b5:=by unfold mW at hbg;simp only[zO,Bool.not_eq_true',<- Bool.not_eq_true]at hbg;simp_all[dw]
     show Xt _ false 0 0=_;unfold Xt;have g5:at? (b0::b1::b2::b3::b4::b5::b6::b7::r) 5=some b5:=rfl;have ea:add .i64 6 (cvt .i64 b5)=6+b5:=by grind[jO]
     rw[if_neg (by decide),g5,zD,ea];by_cases hlt:(r.length:Int)+2<b5
     ·rw[if_pos (by grind[dw,bn]),if_pos hlt]
      rfl
     ·have es:sub .i64 (6+b5) 7=(((b5 - 1).toNat:Nat):Int):=by grind[kV]
      have ec:cut (b0::b1::b2::b3::b4::b5::b6::b7::r) 7 (6+b5)=some ((b7::r).take (b5 - 1).toNat):=by
       have:=xW (xs:=b0::b1::b2::b3::b4::b5::b6::b7::r) (i:=7) (j:=7+(b5 - 1).toNat) (by omega) (by grind);have e:((7+(b5 - 1).toNat:Nat):Int)=6+b5:=by omega
       rw[e,Nat.add_comm 7 (b5 - 1).toNat]at this;exact this
      rw[if_neg (by grind[dw,bn]),if_neg hlt,es,eu (by rfl),eu (nG _),zQ,jw (by omega),ec,zD,eu (by simp_all[iw,kD,bn])];have hlen:((b7::r).take (b5 - 1).toNat).length=(b5 - 1).toNat:=by grind
      rw[alS hlen];rfl
   rw[hF];have K:∀(t:Bool) (y1 y2:Int) (y3:List Int),Xw t 0 0 (y1,y2,y3)=if t=true then some (zM,10,()) else some ((y1,y2,y3),0,()):=fun t y1 y2 y3=>rfl;show _=some ((gB (b0::b1::b2::b3::b4::b5::b6::b7::r)).1,(gB (b0::b1::b2::b3::b4::b5::b6::b7::r)).2,());unfold gB;dsimp only;have hne:¬ (b7::r=[]):=by simp
   rw[if_neg hne]
   cases hbg:mW b2 b3 b4 b5 with
   | false=>rfl
   | true =>
    simp only[if_true];have h52:2≤b5:=by unfold mW at hbg;simp only[zO,Bool.not_eq_true',<- Bool.not_eq_true]at hbg;simp_all[dw]
    by_cases hlt:(r.length:Int)+2<b5
    ·have hq:¬ (((b7::r).length:Int)+1=b5):=by grind
     rw[if_pos hlt,if_neg hq];rfl
    ·rw[if_neg hlt,zD]
     dsimp only;rw[if_neg (by grind[bu]),K];by_cases he:(r.length:Int)+2=b5
     ·have e1:nei (6+b5) (zF (b0::b1::b2::b3::b4::b5::b6::b7::r).length)=false:=by rw[<- Bool.not_eq_true,fQ,bn];grind
      have hq:((b7::r).length:Int)+1=b5:=by grind
      rw[e1,if_pos hq];grind[List.take_of_length_le]
     ·have hq:¬ (((b7::r).length:Int)+1=b5):=by grind
      rw[if_neg hq,if_pos (by grind[fQ,bn])]
def Cc(unit tx:Int)(b:List Int):Option TR :=
 if (gB b).2≠0 then none else if (gB b).1.2.1≠unit then none else if (gB b).1.1≠tx then none else
 if (lX (gB b).1.2.2).2≠0 then none else some (lX (gB b).1.2.2).1
def Db(a:TA):Option TR :=
 if a.1=5 then some (5,0,[a.2.2.2.2.2.headD false],[],a.2.1,0) else if a.1=6 then some (6,0,[],[a.2.2.2.2.1.headD 0],a.2.1,0) else
 if a.1=15∨a.1=16 then some (a.1,0,[],[],a.2.1,a.2.2.1) else none
theorem aq1{a:TA}(h:OkA a)(hr:iY a=true):vw (a,())=qV (Db a):=by
 show Ib Oe WO a=_;unfold Ib;rw[right_eq h,zD,hr];clear h;have hra:=mD hr;clear hr
 cases hra with
 | bits f p n hf h1 h2=>rcases hf with rfl | rfl<;>rfl
 | words f p n hf h1 h2=>rcases hf with rfl | rfl<;>rfl
 | coil p b=>rfl
 | word p x=>rfl
 | coils p l h1 h2=>rfl
 | regs p l h1 h2=>rfl
 | swap p n t l h1 h2 h3 h4=>rfl
theorem JW(v:Bool):∀(s:List Bool) (n:Nat),∃k:Int,goL (R:=Int×Unit) (fun (_:Unit) (x:Bool×Nat) k=>if eqb v x.1=true then some ((x.2:Int),()) else k ()) (fun _=>some (-1,())) (s.zipIdx n) ()=some (k,())∧(0≤k↔v∈s)
 | [],n=>⟨-1,rfl,by simp⟩
 | a::r,n=>by
  rw[List.zipIdx_cons];obtain⟨k,h1,h2⟩:=JW v r (n+1);by_cases e:v=a
  ·refine⟨(n:Int),?_,by simp[e]⟩
   show (if eqb v a=true then _ else _)=_;rw[if_pos (RY.2 e)]
  ·refine⟨k,?_,?_⟩
   ·show (if eqb v a=true then _ else _)=_
    rw[if_neg (fun h=>e (RY.1 h))];exact h1
   ·rw[h2]
    simp[e]
theorem contains_eq{s:List Bool}(v:Bool)(h:s.length≤1000000):Bj (s,v,())=some (decide (v∈s),()):=by
 obtain⟨k,h1,h2⟩:=JW v s 0
 have e:ag3 (s,v,())=some (k,()):=by
  rw[<- h1];show WG Oa s v=_;unfold WG Oa;have hz:(s.zipIdx 0).length=s.length:=by simp
  refine qy (xs:=s.zipIdx 0) (mk:=fun i _=>(s,v,zF s.length,(i:Int))) ?_ ?_ s.length 0 () _ (by rw[hz];omega) (by omega)
  ·intro self i acc x hx
   have hi:=(List.getElem?_eq_some_iff.1 hx).1;rw[hz]at hi;have hx2:s[i]? = some x.1∧x.2=i:=by rw[List.getElem?_zipIdx]at hx;obtain⟨y,hy,rfl⟩:=Option.map_eq_some_iff.1 hx;exact⟨hy,by simp⟩
   show H9 _ s v (zF s.length) (i:Int)=_;unfold H9;rw[if_pos (by rw[dw,bn];omega),gu hx2.1,zD,iT (by omega),hx2.2]
  ·intro self acc
   show H9 _ s v (zF s.length) (((s.zipIdx 0).length:Nat):Int)=_;unfold H9;rw[hz,if_neg (by rw[dw,bn];omega)]
 show ag4 s v=_;unfold ag4;rw[e,zD];refine congrArg (fun x=>some (x,())) ?_;rw[atf];by_cases hv:v∈s
 ·rw[decide_eq_true hv,decide_eq_true (h2.2 hv)]
 ·rw[decide_eq_false hv,decide_eq_false (fun h=>hv (h2.1 h))]
def uh(a:TA)(r:TR):Bool :=
 iY a && (oO r && (decide (a.1=r.1) && (if r.2.1≠0 then true else match Db a with
  | some e=>decide (e=r)
  | none=>if 0<r.2.2.1.length then decide ((r.2.2.1.length:Int)=(a.2.2.1+7) / 8*8) && !decide (true∈r.2.2.1.drop a.2.2.1.toNat) else decide ((r.2.2.2.1.length:Int)=a.2.2.1))))
theorem atp{a:TA}{r:TR}(h:OkA a)(hr:iY a=true)(hs:SmR r)(t:Bool):Og t a.1 a.2.1 a.2.2.1 a.2.2.2.1 a.2.2.2.2.1 a.2.2.2.2.2 r.1 r.2.1 r.2.2.1 r.2.2.2.1 r.2.2.2.2.1 r.2.2.2.2.2 =
  some (!t && (if r.2.1≠0 then true else match Db a with
  | some e=>decide (e=r)
  | none=>if 0<r.2.2.1.length then decide ((r.2.2.1.length:Int)=(a.2.2.1+7) / 8*8) && !decide (true∈r.2.2.1.drop a.2.2.1.toNat) else decide ((r.2.2.2.1.length:Int)=a.2.2.1)),()):=by
 unfold Og ahv
 cases t with
 | true=>rfl
 | false =>
  rw[if_neg (by decide),Bool.not_false,Bool.true_and];by_cases h0:r.2.1=0
  ·rw[if_neg (by rw[fQ];exact fun e=>e h0)]
   simp only[ne_eq,h0,not_true_eq_false,if_false];have he:vw ((a.1,a.2.1,a.2.2.1,a.2.2.2.1,a.2.2.2.2.1,a.2.2.2.2.2),())=qV (Db a):=aq1 h hr;rw[he]
   cases hv:Db a with
   | some e =>
    have hse:SmR e:=by
     unfold Db at hv;split at hv
     ·cases hv;exact⟨by show 1≤100000;decide,by show 0≤100000;decide⟩
     ·split at hv
      ·cases hv;exact⟨by show 0≤100000;decide,by show 1≤100000;decide⟩
      ·split at hv
       ·cases hv;exact⟨by show 0≤100000;decide,by show 0≤100000;decide⟩
       ·cases hv
    have e2:=qd (b:=r) hse;rw[<- h0];show zC (vo (e,r,())) _=_;rw[e2];rfl
   | none =>
    have hm0:=h.m0;have hm1:=h.m1;have hb:=hs.b;have hw:=hs.w;show (if gt (zF r.2.2.1.length) 0=true then _ else _)=_;by_cases hbl:0<r.2.2.1.length
    ·rw[if_pos (by rw[jD,bn];omega),if_pos hbl]
     obtain⟨m,hm⟩:=zN hm0;have e1:mul .i64 (quo .i64 (add .i64 (cvt .i64 a.2.2.1) 7) 8) 8=(a.2.2.1+7) / 8*8:=by rw[hm,iU (by omega) (by omega),show (7:Int)=((7:Nat):Int) from rfl,qP (by omega)];have:=pz (i:=m+7) (d:=8) (by omega);rw[show (8:Int)=((8:Nat):Int) from rfl,this,nE (by omega) (by omega)];omega
     rw[e1];by_cases hq:(r.2.2.1.length:Int)=(a.2.2.1+7) / 8*8
     ·rw[if_pos (by rw[bu,bn];exact hq),decide_eq_true hq,iU (by omega) (by omega),hm,lF (by omega),zD,contains_eq true (by simp;omega),zD,zQ]
      rfl
     ·rw[if_neg (by rw[bu,bn];exact hq),decide_eq_false hq]
      rfl
    ·rw[if_neg (by rw[jD,bn];omega),if_neg hbl,iU (by omega) (by omega)]
     refine congrArg (fun x=>some (x,())) ?_;rw[bn];rw[Bool.eq_iff_iff,bu,decide_eq_true_eq]
  ·rw[if_pos (by rw[fQ];exact h0),if_pos h0]
theorem aq2{a:TA}{r:TR}(h:OkA a)(hs:SmR r):Oh (a,r,())=some (uh a r,()):=by
 show WR Og a r=_;unfold WR uh;rw[right_eq h,zD,ach hs,zD]
 cases hr:iY a with
 | false=>rfl
 | true =>
  rw[if_neg (by decide)]
  cases hq:oO r with
  | false=>rfl
  | true =>
   rw[if_neg (by decide),atp h hr hs];refine congrArg (fun x=>some (x,())) ?_;have e:(!nei a.1 r.1)=decide (a.1=r.1):=by rw[Bool.eq_iff_iff,Bool.not_eq_true',<- Bool.not_eq_true,fQ,decide_eq_true_eq];exact Decidable.not_not
   rw[e];rfl
theorem nU{b:List Int}{c:TR}{ok:Bool}{w:List Int}(h:SmR c):SmR (oP b c ok w).1:=by
 unfold oP;split
 ·split
  ·exact h
  ·exact wB
 ·exact wB
theorem JX(b:List Int):SmR (lX b).1:=by
 match b with
 | []=>exact wB
 | [_]=>exact wB
 | x::y::r =>
  show SmR (iH x y r).1;unfold iH;by_cases hl:251<r.length
  ·rw[if_pos hl];exact wB
  ·rw[if_neg hl]
   have sb:SmR (vI x r):=⟨by show (lV r).length≤_;rw[mF];omega,by show 0≤100000;decide⟩;have sw:SmR (oz x r):=⟨by show 0≤100000;decide,by show (iL r).length≤_;rw[qA];omega⟩;have so:SmR (obC x (y::r)):=rO (fun p q=>⟨by show 1≤100000;decide,by show 0≤100000;decide⟩) _;have su:SmR (owC x (y::r)):=rO (fun p q=>⟨by show 0≤100000;decide,by show 1≤100000;decide⟩) _;have sc:SmR (ctC x (y::r)):=rO (fun p q=>⟨by show 0≤100000;decide,by show 0≤100000;decide⟩) _;have se:SmR (exC x y):=⟨by show 0≤100000;decide,by show 0≤100000;decide⟩
   have step:∀{c:Prop} [Decidable c] {A B:TR×Int},SmR A.1->SmR B.1->SmR (if c then A else B).1:=fun {c} _ {A B} h1 h2=>by
    by_cases hc:c
    ·rw[if_pos hc];exact h1
    ·rw[if_neg hc];exact h2
   exact step (step (nU sb) (step (nU sb) (step (nU sw) (step (nU sw) (step (nU sw) (step (nU so) (step (nU su) (step (nU sc) (step (nU sc) wB))))))))) (nU se)
def qW(p:TP)(b:List Int):Option TR:=if p.2.1=2 then Cc p.1 p.2.2.2.2.2.2.1 b else zu p.1 b
theorem PZ{p:TP}{b:List Int}{r:TR}(h:qW p b=some r):SmR r:=by
 unfold qW at h;split at h
 ·unfold Cc at h
  split at h
  ·cases h
  ·split at h
   ·cases h
   ·split at h
    ·cases h
    ·split at h
     ·cases h
     ·cases h;exact JX _
 ·unfold zu at h
  split at h
  ·cases h
  ·split at h
   ·cases h
   ·split at h
    ·cases h
    ·cases h;exact JX _
def pE(p:TP)(b:List Int):Option TR:=if p.2.2.2.2.1=true then (qW p b).bind fun r=>if uh p.2.2.2.2.2.1 r=true then some r else none else none
def outT(p:TP):Option TR->Option (TP×TR×Bool×Unit)
 | some r=>some (fK p,r,true,())
 | none=>some (p,zR,false,())
end Go.Proofs.Lx
end
noncomputable section
namespace Pl
open Go Ev Sx
theorem ok8{x:Int}(h:(Lit.int .u8 x).wf=true):0≤x∧x≤255:=by simp[Lit.wf]at h;have e1:IntKind.u8.min=0:=rfl;have e2:IntKind.u8.max=255:=rfl;omega
theorem ok16{x:Int}(h:(Lit.int .u16 x).wf=true):0≤x∧x≤65535:=by simp[Lit.wf]at h;have e1:IntKind.u16.min=0:=rfl;have e2:IntKind.u16.max=65535:=rfl;omega
end Pl
namespace Go.Proofs.Lx
open Go Ev Sx Pl
set_option maxRecDepth 100000
theorem uj:OkA zA:=⟨by decide,by decide,by decide,by decide,by decide,by decide,by decide,by decide,by simp[zA],by decide,by decide⟩
theorem aaj{u l t r:Int}(h:uO u l t r=true):OkP (u,l,t,r,false,zA,0,0,0):=by have h:=of_decide_eq_true h;exact⟨h.1.1,h.1.2,h.2.1,h.2.2.1.1,h.2.2.1.2,h.2.2.2.1,h.2.2.2.2,uj,by show (0:Int)≤0;decide,by show (0:Int)≤65535;decide⟩
end Go.Proofs.Lx
end
noncomputable section
namespace Pl
open Go Ev Sx
theorem lY(y z:Int)(r:List Int):iL (y::z::r)=iK y z::iL r:=by
 unfold iL;have e:(y::z::r).length / 2=r.length / 2+1:=by grind
 rw[e,List.range_succ_eq_map,List.map_cons,List.map_map]
 congr 1
end Pl
namespace Go.Proofs.Lx
open Go Ev Sx Pl
set_option maxRecDepth 100000
theorem rP{x:Int}(h0:0≤x)(h1:x≤65535):iK (x / 256%256) (x%256)=x:=by grind[C9]
theorem vJ{x:Int}(h0:0≤x)(h1:x≤65535)(r:List Int):iL (x / 256%256::x%256::r)=x::iL r:=by rw[lY,rP h0 h1]
theorem uk:∀{l:List Int},(∀x∈l,0≤x∧x≤65535)->iL (l.flatMap two)=l
 | [],_=>rfl
 | x::r,h=>by rw[List.flatMap_cons];show iL (x / 256%256::x%256::r.flatMap two)=_;have hx:=h x (by simp);rw[vJ hx.1 hx.2,uk fun y hy=>h y (List.mem_cons_of_mem _ hy)]
theorem JY{t:List Bool}(h:t.length≤8):0≤jP t∧jP t<256:=by have h1:=wm t;have h2:2 ^ t.length≤2 ^ 8:=Nat.pow_le_pow_right (by decide) h;grind
theorem unpack_pack(l:List Bool):(lV (iJ l)).take l.length=l:=by
 apply List.ext_getElem?;intro i;rw[List.getElem?_take];by_cases hi:i<l.length
 ·rw[if_pos hi]
  unfold lV;have hm:i<8*(iJ l).length:=by grind[qT,gy]
  rw[List.getElem?_map,List.getElem?_range hm,Option.map_some];have hq:i / 8<gy l.length:=by grind[gy]
  have e:(iJ l).getD (i / 8) 0=jP ((l.drop (8*(i / 8))).take 8):=by simp_all[iJ,zX,List.getElem?_map,List.getElem?_range]
  have hr:=JY (t:=(l.drop (8*(i / 8))).take 8) (by grind);rw[e,aqY hr.1 hr.2 (Nat.mod_lt _ (by decide)),JV];have e2:((l.drop (8*(i / 8))).take 8).getD (i%8) false=l[i]:=by grind
  simp_all
 grind
abbrev tup(p:TP):TP:=(p.1,p.2.1,p.2.2.1,p.2.2.2.1,p.2.2.2.2.1,(p.2.2.2.2.2.1.1,p.2.2.2.2.2.1.2.1,p.2.2.2.2.2.1.2.2.1,p.2.2.2.2.2.1.2.2.2.1,p.2.2.2.2.2.1.2.2.2.2.1,p.2.2.2.2.2.1.2.2.2.2.2),p.2.2.2.2.2.2.1,p.2.2.2.2.2.2.2.1,p.2.2.2.2.2.2.2.2)
theorem wF(l:Int){x:Int}(h0:0≤x)(h1:x≤65535):0≤wu l x∧wu l x≤65535:=by grind[wu]
theorem lQ(x:Int):∀y∈two x,0≤y∧y≤255:=by intro y hy;simp[two]at hy;omega
theorem uo(l:List Int):∀y∈l.flatMap two,0≤y∧y≤255:=by intro y hy;obtain⟨x,_,hx⟩:=List.mem_flatMap.1 hy;exact lQ x y hx
theorem FT(l:List Bool):∀y∈iJ l,0≤y∧y≤255:=by intro y hy;unfold iJ at hy;obtain⟨j,_,rfl⟩:=List.mem_map.1 hy;have:=JY (t:=(l.drop (8*j)).take 8) (by grind);omega
theorem uq{a:TA}(h:RA a):∀y∈jJ a,0≤y∧y≤255:=by
 have app:∀{l r:List Int},(∀y∈l,0≤y∧y≤255)->(∀y∈r,0≤y∧y≤255)->∀y∈l++r,0≤y∧y≤255:=fun h1 h2 y hy=>by grind
 have con:∀{x:Int} {r:List Int},(0≤x∧x≤255)->(∀y∈r,0≤y∧y≤255)->∀y∈x::r,0≤y∧y≤255:=fun h1 h2 y hy=>by grind
 have nil:∀y∈([]:List Int),0≤y∧y≤255:=fun y hy=>by cases hy
 cases h with
 | bits f p n hf h1 h2 =>
  rcases hf with rfl | rfl
  ·show ∀y∈(1:Int)::two p++two n,0≤y∧y≤255
   grind[lQ]
  ·show ∀y∈(2:Int)::two p++two n,0≤y∧y≤255
   grind[lQ]
 | words f p n hf h1 h2 =>
  rcases hf with rfl | rfl
  ·show ∀y∈(3:Int)::two p++two n,0≤y∧y≤255
   grind[lQ]
  ·show ∀y∈(4:Int)::two p++two n,0≤y∧y≤255
   grind[lQ]
 | coil p b =>
  show ∀y∈(5:Int)::two p++two (if b=true then 65280 else 0),0≤y∧y≤255;grind[lQ]
 | word p x =>
  show ∀y∈(6:Int)::two p++[x].flatMap two,0≤y∧y≤255;grind[lQ,uo]
 | coils p l h1 h2 =>
  show ∀y∈(15:Int)::two p++two (l.length:Int)++[(gy l.length:Int)]++iJ l,0≤y∧y≤255;exact app (app (app (con (by decide) (lQ p)) (lQ _)) (con (by grind[gy]) nil)) (FT l)
 | regs p l h1 h2 =>
  show ∀y∈(16:Int)::two p++two (l.length:Int)++[2*(l.length:Int)]++l.flatMap two,0≤y∧y≤255;grind[lQ,uo]
 | swap p n t l h1 h2 h3 h4 =>
  show ∀y∈(23:Int)::two p++two n++two t++two (l.length:Int)++[2*(l.length:Int)]++l.flatMap two,0≤y∧y≤255;exact app (app (app (app (app (con (by decide) (lQ p)) (lQ _)) (lQ _)) (lQ _)) (con (by omega) nil)) (uo l)
theorem aBV{tx unit:Int}{pdu:List Int}(h1:1≤pdu.length)(h2:pdu.length≤253)(ht:0≤tx)(ht2:tx≤65535)(hu:0≤unit)(hu2:unit≤255)(hb:∀y∈pdu,0≤y∧y≤255):Ey (kJ tx unit pdu,())=some ((tx,unit,pdu),0,()):=by
 have hall:∀y∈kJ tx unit pdu,0≤y∧y≤255:=by intro y hy;unfold kJ at hy;grind
 rw[wD (by simp[kJ];omega) hall]
 have e:gB (kJ tx unit pdu)=((tx,unit,pdu),0):=by
  show (if pdu=[] then _ else if mW 0 0 0 (((pdu.length+1:Nat):Int)%256)=true then if (pdu.length:Int)+1=((pdu.length+1:Nat):Int)%256 then ((iK (tx / 256%256) (tx%256),unit,pdu),0) else (zM,10) else (zM,10))=_;have hne:¬ pdu=[]:=by grind
  have hbg:mW 0 0 0 (((pdu.length+1:Nat):Int)%256)=true:=by
   unfold mW;have q1:lt (((pdu.length+1:Nat):Int)%256) 2=false:=by rw[<- Bool.not_eq_true,dw];omega
   have q2:gt (cvt .i64 (((pdu.length+1:Nat):Int)%256)) 254=false:=by rw[<- Bool.not_eq_true,jD,iU (by omega) (by omega)];omega
   rw[q1,q2];rfl
  rw[if_neg hne,if_pos hbg,if_pos (by omega),rP ht ht2]
 rw[e]
theorem aBW{unit:Int}{pdu:List Int}(h1:1≤pdu.length)(h2:pdu.length≤253)(hu:1≤unit)(hu2:unit≤247):Io (iF (unit::pdu),())=some (unit,pdu,0,()):=by
 rw[Da];have hs:=zl (unit::pdu)
 have hc:cutV (iF (unit::pdu))=(unit::pdu,0):=by
  unfold cutV;have hl:=vG (unit::pdu);have e0:(iF (unit::pdu)).length - 2=(unit::pdu).length:=by omega
  have et:(iF (unit::pdu)).take (unit::pdu).length=unit::pdu:=by grind[iF,List.take_left]
  have e1:(iF (unit::pdu)).getD ((iF (unit::pdu)).length - 1) 0=pM (unit::pdu) / 256:=by simp_all[iF,zX,List.getElem?_append_right]
  have e2:(iF (unit::pdu)).getD (unit::pdu).length 0=pM (unit::pdu)%256:=by simp_all[zX,iF,List.getElem?_append_right]
  rw[if_neg (by omega),e0,et,e1,e2,C9 (by omega) (by omega) (by omega) (by omega),if_pos (by omega)]
 simp_all[gW,iF,vG,if_neg,Int,decide_eq_true]
end Go.Proofs.Lx
end
noncomputable section
namespace Go.Proofs.Lx
open Go Ev Sx Pl
set_option maxRecDepth 100000
theorem oQ{b:List Int}(h:b.length≤100000):xx (b,())=some (iL b,()):=by
 show XR OE b=_;unfold XR;have hq:quo .i64 (zF b.length) 2=((b.length / 2:Nat):Int):=pz (d:=2) (by omega);rw[hq,eu (by rfl),eu (nG _),zQ,jw (by omega),kD];unfold OE iL;refine (vE (mk:=fun i=>(b,zF (b.length / 2),(i:Int),(List.range i).map (fun i=>iK (b.getD (2*i) 0) (b.getD (2*i+1) 0))++(zE (b.length / 2) (0:Int)).drop i)) (N:=b.length / 2) ?_ ?_ (b.length / 2) 0 _ (by omega) (by omega))
 ·intro self i hi
  show OD _ b (zF (b.length / 2)) (i:Int) _=_;unfold OD;have hm:mul .i64 2 (i:Int)=((2*i:Nat):Int):=by grind[nE]
  have h1:b[2*i]? = some (b[2*i]'(by omega)):=zV (by omega);have h2:b[2*i+1]? = some (b[2*i+1]'(by omega)):=zV (by omega);have ho:((List.range i).map (fun i=>iK (b.getD (2*i) 0) (b.getD (2*i+1) 0))++(zE (b.length / 2) (0:Int)).drop i)[i]? = some (((List.range i).map (fun i=>iK (b.getD (2*i) 0) (b.getD (2*i+1) 0))++(zE (b.length / 2) (0:Int)).drop i)[i]'(by grind)):=zV (by grind);rw[if_pos (by grind[dw,bn]),hm,iT (by omega),gu h1,gu h2,gu ho,iT (by omega),zQ];grind[bor,shl,cvt,iK,BX]
 simp_all[OD,zF,Nat,Int,if_neg,dw,bn,List.drop_of_length_le,List.append_nil]
theorem aq3(p x y:Int):rH ((6,p,0,0,[],[]),(0,0,1,false,false),[x,y],())=some ((6,p,0,0,[iK x y],[]),true,()):=by show zC (xx ([x,y],())) (fun z=>some ((6,p,0,0,z.1,[]),true,()))=_;rw[oQ (by simp),zD,lY];rfl
theorem alU(p k:Int)(l:List Bool)(h1:1≤l.length)(h2:l.length≤1968):rH ((15,p,(l.length:Int),0,[],[]),(1968,1968,0,false,true),k::iJ l,())=some ((15,p,(l.length:Int),0,[],l),true,()):=by
 have hlen:=qT l;show (if lt (zF (k::iJ l).length) 2=true then _ else zC (cut (k::iJ l) 1 (zF (k::iJ l).length)) (fun y=>zC (Ie (y,())) fun y=>if lt (zF y.1.length) (cvt .i64 (l.length:Int))=true then some ((0,0,0,0,[],[]),false,()) else zC (cut y.1 0 (l.length:Int)) fun y_1=>need (le (l.length:Int) (l.length:Int)) (need (le (l.length:Int) (zF y.1.length)) (some ((15,p,(l.length:Int),0,[],y_1),true,())))))=_;have hN:1≤gy l.length∧gy l.length≤300:=by grind[gy]
 have hu:l.length≤(lV (iJ l)).length:=by grind[mF,qT,gy]
 rw[if_neg (by grind[dw,bn,List.length_cons,qT]),lG,zD,B5 (by omega),zD,iU (by omega) (by omega)];simp_all[if_neg,dw,bn,oM,zD,eu,iw,unpack_pack]
theorem aq4(p n k:Int)(l:List Int)(h:∀x∈l,0≤x∧x≤65535)(h1:1≤l.length)(h2:l.length≤123):rH ((16,p,n,0,[],[]),(123,0,123,false,true),k::l.flatMap two,())=some ((16,p,n,0,l,[]),true,()):=by have hlen:=xE l;show (if lt (zF (k::l.flatMap two).length) 2=true then _ else zC (cut (k::l.flatMap two) 1 (zF (k::l.flatMap two).length)) (fun y=>zC (xx (y,())) fun y=>some ((16,p,n,0,y.1,[]),true,())))=_;rw[if_neg (by grind[dw,bn,List.length_cons]),lG,zD,oQ (by omega),zD,uk h]
theorem aq5(p n t k:Int)(l:List Int)(h:∀x∈l,0≤x∧x≤65535)(h1:1≤l.length)(h2:l.length≤123):rH ((23,p,n,t,[],[]),(125,0,121,true,false),k::l.flatMap two,())=some ((23,p,n,t,l,[]),true,()):=by have hlen:=xE l;show (if lt (zF (k::l.flatMap two).length) 2=true then _ else zC (cut (k::l.flatMap two) 1 (zF (k::l.flatMap two).length)) (fun y=>zC (xx (y,())) fun y=>some ((23,p,n,t,y.1,[]),true,())))=_;rw[if_neg (by grind[dw,bn,List.length_cons]),lG,zD,oQ (by omega),zD,uk h]
theorem rQ{f p1 p2 n1 n2:Int}{r:List Int}(hr:r.length≤248){m bb ww:Int}{tt ee:Bool}(hs:shp f=some (m,bb,ww,tt,ee))(hm:gt m 0=true) :
  Br (f::p1::p2::n1::n2::r,())=y8 (iK p1 p2::iK n1 n2::iL r) r 0 0 0 0 m bb ww tt ee f (iK p1 p2) (iK n1 n2) 0:=by
 show xA EA _=_;unfold xA;rw[if_neg (by grind[dw,bn])];have hg:gt (zF (f::p1::p2::n1::n2::r).length) 253=false:=by rw[<- Bool.not_eq_true,jD,bn];grind
 rw[hg];show Bq y8 _ false 0 0 0 0=_;unfold Bq;have ec3:cut (f::p1::p2::n1::n2::r) 3 (zF (f::p1::p2::n1::n2::r).length)=some (n1::n2::r):=lF (i:=3) (by simp);have ec5:cut (f::p1::p2::n1::n2::r) 5 (zF (f::p1::p2::n1::n2::r).length)=some r:=lF (i:=5) (by simp);rw[if_neg (by decide),iX,zD,rJ,zD];unfold Ji;rw[hs];rw[if_neg (by simp),lG,zD,oQ (by grind),zD,zD,lY,lY,iX,zD,ec3,zD];simp_all[Option.getD,if_pos,at_one,zD]
theorem P4{f p1 p2 n1 n2:Int}{bb ww:Int}{tt ee:Bool}(hs:shp f=some (0,bb,ww,tt,ee)) :
  Br ([f,p1,p2,n1,n2],())=y8 [iK p1 p2,iK n1 n2] [n1,n2] 0 0 0 0 0 bb ww tt ee f (iK p1 p2) 0 0:=by
 show Bq y8 [f,p1,p2,n1,n2] false 0 0 0 0=_;unfold Bq;have ec3:cut [f,p1,p2,n1,n2] 3 (zF [f,p1,p2,n1,n2].length)=some [n1,n2]:=rfl;rw[if_neg (by decide),iX,zD,rJ,zD];unfold Ji;rw[hs];rw[if_neg (by simp),lG,zD,oQ (by simp),zD,zD,lY,lY,iX,zD,ec3,zD,if_neg (by simp_all[gt])];rfl
theorem aq6{a:TA}(h:OkA a)(hr:iY a=true):Br (jJ a,())=some (a,true,()):=by
 have hra:=mD hr;have hp:=rP h.at0 h.at1;have hn:=rP h.m0 h.m1;have ht:=rP h.t0 h.t1;have hw:=h.w;clear hr h
 cases hra with
 | bits f p n hf h1 h2 =>
  dsimp only at hp hn;rcases hf with rfl | rfl
  ·refine (rQ (f:=1) (r:=[]) (by simp) (m:=2000) (bb:=0) (ww:=0) (tt:=false) (ee:=false) rfl rfl).trans ?_
   rw[hp,hn];rfl
  ·refine (rQ (f:=2) (r:=[]) (by simp) (m:=2000) (bb:=0) (ww:=0) (tt:=false) (ee:=false) rfl rfl).trans ?_
   rw[hp,hn];rfl
 | words f p n hf h1 h2 =>
  dsimp only at hp hn;rcases hf with rfl | rfl
  ·refine (rQ (f:=3) (r:=[]) (by simp) (m:=125) (bb:=0) (ww:=0) (tt:=false) (ee:=false) rfl rfl).trans ?_
   rw[hp,hn];rfl
  ·refine (rQ (f:=4) (r:=[]) (by simp) (m:=125) (bb:=0) (ww:=0) (tt:=false) (ee:=false) rfl rfl).trans ?_
   rw[hp,hn];rfl
 | coil p b =>
  dsimp only at hp
  cases b with
  | true =>
   refine (P4 (f:=5) (n1:=65280 / 256%256) (n2:=65280%256) (bb:=1) (ww:=0) (tt:=false) (ee:=false) rfl).trans ?_;rw[hp];rfl
  | false =>
   refine (P4 (f:=5) (n1:=0 / 256%256) (n2:=0%256) (bb:=1) (ww:=0) (tt:=false) (ee:=false) rfl).trans ?_;rw[hp];rfl
 | word p x =>
  dsimp only at hp hw;have hx:=hw x (by simp);refine (P4 (f:=6) (n1:=x / 256%256) (n2:=x%256) (bb:=0) (ww:=1) (tt:=false) (ee:=false) rfl).trans ?_;rw[hp];show zC (rH ((6,p,0,0,[],[]),(0,0,1,false,false),[x / 256%256,x%256],())) (fun y=>some (y.1,y.2.1,()))=_;grind[aq3,rP]
 | coils p l h1 h2 =>
  dsimp only at hp hn;have hN:gy l.length≤247:=by grind[gy]
  refine (rQ (f:=15) (r:=(gy l.length:Int)::iJ l) (by grind[List.length_cons,qT]) (m:=1968) (bb:=1968) (ww:=0) (tt:=false) (ee:=true) rfl rfl).trans ?_;rw[hp,hn];show zC (rH ((15,p,(l.length:Int),0,[],[]),(1968,1968,0,false,true),(gy l.length:Int)::iJ l,())) (fun y=>some (y.1,y.2.1,()))=_;grind[alU]
 | regs p l h1 h2 =>
  dsimp only at hp hn hw;refine (rQ (f:=16) (r:=2*(l.length:Int)::l.flatMap two) (by grind[List.length_cons,xE]) (m:=123) (bb:=0) (ww:=123) (tt:=false) (ee:=true) rfl rfl).trans ?_;rw[hp,hn];show zC (rH ((16,p,(l.length:Int),0,[],[]),(123,0,123,false,true),2*(l.length:Int)::l.flatMap two,())) (fun y=>some (y.1,y.2.1,()))=_;grind[aq4]
 | swap p n t l h1 h2 h3 h4 =>
  dsimp only at hp hn ht hw;refine (rQ (f:=23) (r:=t / 256%256::t%256::(l.length:Int) / 256%256::(l.length:Int)%256::2*(l.length:Int)::l.flatMap two) (by grind[List.length_cons,xE]) (m:=125) (bb:=0) (ww:=121) (tt:=true) (ee:=false) rfl rfl).trans ?_;rw[hp,hn,lY,ht];show (if lt (zF (t / 256%256::t%256::(l.length:Int) / 256%256::(l.length:Int)%256::2*(l.length:Int)::l.flatMap two).length) 4=true then some ((0,0,0,0,[],[]),false,()) else zC (cut (t / 256%256::t%256::(l.length:Int) / 256%256::(l.length:Int)%256::2*(l.length:Int)::l.flatMap two) 4 (zF (t / 256%256::t%256::(l.length:Int) / 256%256::(l.length:Int)%256::2*(l.length:Int)::l.flatMap two).length)) (fun y_1=>zC (rH ((23,p,n,t,[],[]),(125,0,121,true,false),y_1,())) (fun y=>some (y.1,y.2.1,()))))=_;have ec:cut (t / 256%256::t%256::(l.length:Int) / 256%256::(l.length:Int)%256::2*(l.length:Int)::l.flatMap two) 4 (zF (t / 256%256::t%256::(l.length:Int) / 256%256::(l.length:Int)%256::2*(l.length:Int)::l.flatMap two).length)=some (2*(l.length:Int)::l.flatMap two):=lF (i:=4) (by simp);rw[if_neg (by grind[dw,bn,List.length_cons]),ec,zD,aq5 p n t _ l hw h1 (by omega),zD]
theorem acp{a:TA}(h:OkA a)(hr:iY a=true):X5 (jJ a,())=some (a,0,()):=by
 show Iw X4 (jJ a)=_;unfold Iw;have e:oK (jJ a,jJ a,())=some (true,()):=by show some (eqs (toS (jJ a)) (toS (jJ a)),())=_;rw[Jh.2 rfl]
 rw[aq6 h hr,zD,if_neg (by simp),KY h,if_pos hr,zD,if_neg (by simp_all[nei])];dsimp only;rw[e];rfl
structure OkR(r:TR):Prop where
 f0:0≤r.1
 f1:r.1≤255
 e0:0≤r.2.1
 e1:r.2.1≤255
 w:∀x∈r.2.2.2.1,0≤x∧x≤65535
 at0:0≤r.2.2.2.2.1
 at1:r.2.2.2.2.1≤65535
 m0:0≤r.2.2.2.2.2
 m1:r.2.2.2.2.2≤65535
 lb:r.2.2.1.length≤100000
 lw:r.2.2.2.1.length≤100000
inductive RR:TR->Prop where
 | ex (f e:Int) (h0:0≤f) (h:f<128) (h1:1≤e) (h2:e≤4):RR (f,e,[],[],0,0)
 | bits (f:Int) (l:List Bool) (hf:f=1∨f=2) (h1:8≤l.length) (h2:l.length≤2000) (h3:l.length%8=0):RR (f,0,l,[],0,0)
 | words (f:Int) (l:List Int) (hf:f=3∨f=4∨f=23) (h1:1≤l.length) (h2:l.length≤125):RR (f,0,[],l,0,0)
 | coil (b:Bool) (p:Int):RR (5,0,[b],[],p,0)
 | word (x p:Int):RR (6,0,[],[x],p,0)
 | coils (p n:Int) (h1:1≤n) (h2:n≤1968):RR (15,0,[],[],p,n)
 | regs (p n:Int) (h1:1≤n) (h2:n≤123):RR (16,0,[],[],p,n)
theorem FU{f:Int}(h0:0≤f)(h:f<128):rem f 128=f:=by grind[rem,kC]
def kG(r:TR):List Int:=if nei r.2.1 0=true then exB r else if eqi r.1 1=true then Jl r else if eqi r.1 2=true then Jl r else if eqi r.1 3=true then wC r else if eqi r.1 4=true then wC r else if eqi r.1 23=true then wC r else
 if eqi r.1 5=true then obB r else if eqi r.1 6=true then owB r else if eqi r.1 15=true then ctB r else if eqi r.1 16=true then ctB r else []
theorem mH{b:List Int}{c:TR}{ok:Bool}(h:ok=true):oP b c ok b=(c,0):=by unfold oP;rw[if_pos h,if_pos (Jh.2 rfl)]
theorem zw{r:TR}(h:RR r):2≤(kG r).length∧(kG r).length≤253:=by
 cases h with
 | ex f e h0 h h1 h2 =>
  unfold kG;rw[if_pos (by grind[fQ])];exact⟨Nat.le.refl,(by decide:2≤253)⟩
 | bits f l hf h1 h2 h3 =>
  have e:kG (f,0,l,[],0,0)=Jl (f,0,l,[],0,0):=by rcases hf with rfl | rfl<;>rfl
  rw[e];show 2≤(f::_::iJ l).length∧(f::_::iJ l).length≤253;grind[List.length_cons,qT,gy]
 | words f l hf h1 h2 =>
  have e:kG (f,0,[],l,0,0)=wC (f,0,[],l,0,0):=by rcases hf with rfl | rfl | rfl<;>rfl
  rw[e];show 2≤([f,_]++l.flatMap two).length∧([f,_]++l.flatMap two).length≤253;grind[zZ,List.length_cons,List.length_nil,xE]
 | coil b p=>exact⟨(by decide:2≤5),(by decide:5≤253)⟩
 | word x p=>exact⟨(by decide:2≤5),(by decide:5≤253)⟩
 | coils p n h1 h2=>exact⟨(by decide:2≤5),(by decide:5≤253)⟩
 | regs p n h1 h2=>exact⟨(by decide:2≤5),(by decide:5≤253)⟩
theorem uw{p q:Int}(h0:0≤p)(h1:p≤65535)(h2:0≤q)(h3:q≤65535):iL (two p++two q)=[p,q]:=by show iL (p / 256%256::p%256::q / 256%256::q%256::[])=_;rw[vJ h0 h1,vJ h2 h3];rfl
theorem QT{r:TR}(h:OkR r)(hr:RR r)(ok:oO r=true):lX (kG r)=(r,0):=by
 have hw:=h.w;have ha:=h.at0;have ha1:=h.at1;have hm:=h.m0;have hm1:=h.m1;clear h
 cases hr with
 | ex f e h0 h h1 h2 =>
  have ea:add .u8 f 128=f+128:=wu8 (by omega) (by omega);have eb:kG (f,e,[],[],0,0)=[f+128,e]:=by unfold kG;rw[if_pos (by grind[fQ])];simp_all[exB]
  have ec:exC (f+128) e=(f,e,[],[],0,0):=by grind[exC,rem,kC]
  rw[eb];show iH (f+128) e []=_;unfold iH;rw[if_neg (by decide),if_neg (by grind[dw]),ec];have eB:exB (f,e,[],[],0,0)=[f+128,e]:=by simp_all[exB]
  rw[eB];apply mH;unfold oO at ok;rw[if_pos (by grind[fQ])]at ok;exact ok
 | bits f l hf h1 h2 h3 =>
  have hN:gy l.length≤250:=by grind[gy]
  have hu:lV (iJ l)=l:=by grind[unpack_pack,List.take_of_length_le,mF,qT,gy]
  have ec:vI f (iJ l)=(f,0,l,[],0,0):=by simp_all[vI]
  rcases hf with rfl | rfl
  ·show iH 1 ((gy l.length:Int)%256) (iJ l)=_
   unfold iH;rw[if_neg (by grind[qT]),if_pos (by decide),if_pos (by decide),ec];exact mH ok
  ·show iH 2 ((gy l.length:Int)%256) (iJ l)=_
   unfold iH;rw[if_neg (by grind[qT]),if_pos (by decide),if_neg (by decide),if_pos (by decide),ec];exact mH ok
 | words f l hf h1 h2 =>
  have hlen:=xE l;have ec:oz f (l.flatMap two)=(f,0,[],l,0,0):=by simp_all[oz,uk]
  rcases hf with rfl | rfl | rfl
  ·show iH 3 (2*(l.length:Int)%256) (l.flatMap two)=_
   unfold iH;rw[if_neg (by omega),if_pos (by decide),if_neg (by decide),if_neg (by decide),if_pos (by decide),ec];exact mH ok
  ·show iH 4 (2*(l.length:Int)%256) (l.flatMap two)=_
   unfold iH;rw[if_neg (by omega),if_pos (by decide),if_neg (by decide),if_neg (by decide),if_neg (by decide),if_pos (by decide),ec];exact mH ok
  ·show iH 23 (2*(l.length:Int)%256) (l.flatMap two)=_
   unfold iH;rw[if_neg (by omega),if_pos (by decide),if_neg (by decide),if_neg (by decide),if_neg (by decide),if_neg (by decide),if_pos (by decide),ec];exact mH ok
 | coil b p =>
  have ec:obC 5 (two p++two (if b=true then 65280 else 0))=(5,0,[b],[],p,0):=by unfold obC pY;rw[uw ha ha1 (by omega) (by omega)];cases b<;>rfl
  show iH 5 (p / 256%256) (p%256::two (if b=true then 65280 else 0))=_;have eq:(p / 256%256)::(p%256::two (if b=true then 65280 else 0))=two p++two (if b=true then 65280 else 0):=rfl;unfold iH;rw[if_neg (by show ¬ 251<3;decide),if_pos (by decide),if_neg (by decide),if_neg (by decide),if_neg (by decide),if_neg (by decide),if_neg (by decide),if_pos (by decide),eq,ec];exact mH ok
 | word x p =>
  have hx:=hw x (by simp);have ec:owC 6 (two p++two x)=(6,0,[],[x],p,0):=by simp_all[owC,pY,uw]
  show iH 6 (p / 256%256) (p%256::two x)=_;have eq:(p / 256%256)::(p%256::two x)=two p++two x:=rfl;unfold iH;rw[if_neg (by show ¬ 251<3;decide),if_pos (by decide),if_neg (by decide),if_neg (by decide),if_neg (by decide),if_neg (by decide),if_neg (by decide),if_neg (by decide),if_pos (by decide),eq,ec];exact mH ok
 | coils p n h1 h2 =>
  have ec:ctC 15 (two p++two n)=(15,0,[],[],p,n):=by simp_all[ctC,pY,uw]
  show iH 15 (p / 256%256) (p%256::two n)=_;have eq:(p / 256%256)::(p%256::two n)=two p++two n:=rfl;unfold iH;rw[if_neg (by show ¬ 251<3;decide),if_pos (by decide),if_neg (by decide),if_neg (by decide),if_neg (by decide),if_neg (by decide),if_neg (by decide),if_neg (by decide),if_neg (by decide),if_pos (by decide),eq,ec];exact mH ok
 | regs p n h1 h2 =>
  have ec:ctC 16 (two p++two n)=(16,0,[],[],p,n):=by simp_all[ctC,pY,uw]
  show iH 16 (p / 256%256) (p%256::two n)=_;have eq:(p / 256%256)::(p%256::two n)=two p++two n:=rfl;unfold iH;rw[if_neg (by show ¬ 251<3;decide),if_pos (by decide),if_neg (by decide),if_neg (by decide),if_neg (by decide),if_neg (by decide),if_neg (by decide),if_neg (by decide),if_neg (by decide),if_neg (by decide),if_pos (by decide),eq,ec];exact mH ok
theorem zx{c:Bool}{w:Option (List Int×Unit)}{x:List Int}(hw:c=true->w=some (x,())) :
  (if c=true then zC w fun y=>(some (y.1,0,()):Option (As [.sl (.int .u8),.int .i64])) else some ([],13,()))=if c=true then some (x,0,()) else some ([],13,()):=by
 simp_all
abbrev RB:=Option (As [.sl (.int .u8),.int .i64])
theorem nV{c:Bool}{A B:RB}{ra rb:Bool}{xa xb:List Int}(h1:A=if ra=true then some (xa,0,()) else some ([],13,()))(h2:B=if rb=true then some (xb,0,()) else some ([],13,())) :
  (if c=true then A else B)=if (if c=true then ra else rb)=true then some ((if c=true then xa else xb),0,()) else some ([],13,()):=by
 grind
theorem acr{r:TR}(h:SmR r):PD (r,())=if oO r=true then some (kG r,0,()) else some ([],13,()):=by show ald r=_;unfold ald oO kG;rw[PT h,Jk h,ER h,PU h,PV h,Cb h,Cb h];simp only[zD];have wex:=zx (c:=exR r) (fun _=>aci r);have wbit:=zx (c:=zn r) (fun _=>R3 h);have wword:=zx (c:=qU r) (fun _=>PW h);have wob:=zx (c:=obR r) (fun hc=>acj hc);have wow:=zx (c:=owR r) (fun hc=>ack hc);have wc1:=zx (c:=ctR 1968 r) (fun _=>PX 1968 r);have wc2:=zx (c:=ctR 123 r) (fun _=>PX 123 r);exact nV wex (nV wbit (nV wbit (nV wword (nV wword (nV wword (nV wob (nV wow (nV wc1 (nV wc2 rfl)))))))))
theorem wH(b:List Int):∀x∈iL b,0≤x∧x≤65535:=by intro x hx;unfold iL at hx;obtain⟨i,_,rfl⟩:=List.mem_map.1 hx;have:=PS (b.getD (2*i) 0) (b.getD (2*i+1) 0);omega
theorem QU{f p n t:Int}(hf:0≤f∧f≤255)(hp:0≤p∧p≤65535)(hn:0≤n∧n≤65535)(ht:0≤t∧t≤65535)(s:Int×Int×Int×Bool×Bool){rest:List Int}(hl:rest.length≤300) :
  ∃(a:TA) (ok:Bool),rH ((f,p,n,t,[],[]),s,rest,())=some (a,ok,())∧(ok=true->OkA a):=by
 have mkw:∀l:List Int,(∀x∈l,0≤x∧x≤65535)->l.length≤100000->OkA (f,p,n,t,l,[]):=fun l h1 h2=>⟨hf.1,hf.2,hp.1,hp.2,hn.1,hn.2,ht.1,ht.2,h1,h2,Nat.zero_le _⟩;have mkb:∀l:List Bool,l.length≤100000->OkA (f,p,n,t,[],l):=fun l h2=>⟨hf.1,hf.2,hp.1,hp.2,hn.1,hn.2,ht.1,ht.2,(fun x hx=>by cases hx),Nat.zero_le _,h2⟩;show ∃(a:TA) (ok:Bool),XU aiD (f,p,n,t,[],[]) s rest=_∧_;unfold XU;dsimp only;by_cases h1:eqi (add .i64 s.2.1 s.2.2.1) 0=true
 ·simp_all
 ·rw[if_neg h1]
  by_cases h2:rest.length<2
  ·rw[if_pos (by grind[dw,bn])]
   simp
  ·rw[if_neg (by grind[dw,bn])]
   by_cases h5:eqi f 5=true
   ·rw[if_pos h5]
    match rest,h2 with
    | y::r,_ =>
     rw[iX,zD];exact⟨_,_,rfl,fun _=>mkb [nei y 0] (by simp)⟩
    | [],h2=>simp_all
   ·rw[if_neg h5]
    by_cases h6:eqi f 6=true
    ·rw[if_pos h6,oQ (by omega),zD]
     exact⟨_,_,rfl,fun _=>mkw _ (wH _) (by grind[qA])⟩
    ·rw[if_neg h6]
     match rest,h2 with
     | [],h2=>simp_all
     | y::r,_ =>
      have hr:r.length≤300:=by grind
      by_cases hb:gt s.2.1 0=true
      ·rw[if_pos hb,lG,zD,B5 (by omega),zD]
       dsimp only;rw[iU (by omega) (by omega)];by_cases hlt:lt (zF (lV r).length) n=true
       ·simp_all
       ·rw[if_neg hlt]
        rw[dw,bn,mF]at hlt;obtain⟨k,rfl⟩:=zN hn.1;rw[oM (by grind[mF]),zD,eu (by grind[iw]),eu (by grind[iw,bn,mF])];exact⟨_,_,rfl,fun _=>mkb _ (by grind)⟩
      ·rw[if_neg hb,lG,zD,oQ (by omega),zD]
       exact⟨_,_,rfl,fun _=>mkw _ (wH _) (by grind[qA])⟩
theorem aq7{b:List Int}(h:5≤b.length):∃f p1 p2 n1 n2 r,b=f::p1::p2::n1::n2::r:=by
 match b,h with
 | f::p1::p2::n1::n2::r,_=>simp
theorem acs{b:List Int}(hb:∀x∈b,0≤x∧x≤255):∃(a:TA) (ok:Bool),Br (b,())=some (a,ok,())∧(ok=true->OkA a):=by
 have bad:EA b true 0 0 0 0=some ((0,0,0,0,[],[]),false,()):=rfl;by_cases h5:b.length<5
 ·refine⟨(0,0,0,0,[],[]),false,?_,fun e=>by cases e⟩
  show xA EA b=_;unfold xA;rw[if_pos (by grind[dw,bn])];rfl
 ·by_cases h253:253<b.length
  ·refine⟨(0,0,0,0,[],[]),false,?_,fun e=>by cases e⟩
   show xA EA b=_;unfold xA;rw[if_neg (by grind[dw,bn]),show gt (zF b.length) 253=true from jD.2 (by grind)];rfl
  ·obtain⟨f,p1,p2,n1,n2,r,rfl⟩:=aq7 (b:=b) (by omega)
   have hf:0≤f∧f≤255:=hb f (by simp);have hr:r.length≤248:=by simp_all
   have hg:gt (zF (f::p1::p2::n1::n2::r).length) 253=false:=by rw[<- Bool.not_eq_true,jD,bn];omega
   have hm0:Br (f::p1::p2::n1::n2::r,())=Bq y8 (f::p1::p2::n1::n2::r) false 0 0 0 0:=by show xA EA _=_;unfold xA;rw[if_neg (by grind[dw,bn]),hg];rfl
   have ec3:cut (f::p1::p2::n1::n2::r) 3 (zF (f::p1::p2::n1::n2::r).length)=some (n1::n2::r):=lF (i:=3) (by simp);have ec5:cut (f::p1::p2::n1::n2::r) 5 (zF (f::p1::p2::n1::n2::r).length)=some r:=lF (i:=5) (by simp);have nn:∀x y,0≤iK x y∧iK x y≤65535:=fun x y=>by have:=PS x y;omega
   have tail:∀(l rest:List Int) (s:Int×Int×Int×Bool×Bool) (n:Int),(∃q,l=iK p1 p2::iK n1 n2::q∧(4≤rest.length->q ≠ []∧∀x∈q,0≤x∧x≤65535))->rest.length≤300->(0≤n∧n≤65535) ->
     ∃(a:TA) (ok:Bool),y8 l rest 0 0 0 0 s.1 s.2.1 s.2.2.1 s.2.2.2.1 s.2.2.2.2 f (iK p1 p2) n 0=some (a,ok,())∧(ok=true->OkA a):=by
    rintro l rest s n ⟨q,rfl,hq⟩ hrl hn;have k3:∀(rest:List Int) (t:Int),rest.length≤300->(0≤t∧t≤65535)->∃(a:TA) (ok:Bool),X3 rest 0 0 0 0 s.1 s.2.1 s.2.2.1 s.2.2.2.1 s.2.2.2.2 f (iK p1 p2) n t=some (a,ok,())∧(ok=true->OkA a):=fun rest t h1 h2=>by obtain⟨a,ok,e1,e2⟩:=QU hf (nn p1 p2) hn h2 s h1;refine⟨a,ok,?_,e2⟩;show zC (rH ((f,iK p1 p2,n,t,[],[]),s,rest,())) _=_;simp_all
    unfold y8 X0;by_cases ht:s.2.2.2.1=true
    ·rw[if_pos ht]
     by_cases h4:rest.length<4
     ·rw[if_pos (by grind[dw,bn])]
      simp
     ·rw[if_neg (by grind[dw,bn])]
      obtain⟨hq1,hq2⟩:=hq (by omega)
      match q,hq1,hq2 with
      | z::q,_,hq2 =>
       have hat:at? (iK p1 p2::iK n1 n2::z::q) 2=some z:=rfl;rw[hat,zD];have hc:cut rest 4 (zF rest.length)=some (rest.drop 4):=lF (i:=4) (by omega);rw[hc,zD];exact k3 _ z (by grind) (hq2 z (by simp))
      | [],hq1,_=>simp_all
    simp_all
   rw[hm0];unfold Bq;rw[if_neg (by decide),iX,zD,rJ,zD]
   cases hs:shp f with
   | none=>simp
   | some s =>
    dsimp only;rw[if_neg (by simp),lG,zD,oQ (by grind),zD,zD,lY,lY,iX,zD,ec3,zD];have hsd:Ji f=s:=by grind[Ji]
    rw[hsd];have hq4:4≤r.length->iL r ≠ []∧∀x∈iL r,0≤x∧x≤65535:=fun h=>⟨fun e=>by grind[qA],wH r⟩;by_cases hm:gt s.1 0=true
    ·rw[if_pos hm,at_one,zD,ec5,zD]
     exact tail _ r s _ ⟨iL r,rfl,hq4⟩ (by omega) (nn n1 n2)
    ·rw[if_neg hm]
     by_cases h4:4≤(n1::n2::r).length
     ·refine tail _ (n1::n2::r) s 0 ⟨iL r,rfl,fun _=>?_⟩ (by grind) ⟨by decide,by decide⟩
      refine⟨fun e=>?_,wH r⟩;grind[qA]
     ·exact tail _ (n1::n2::r) s 0 ⟨iL r,rfl,fun h=>absurd h h4⟩ (by omega) ⟨by decide,by decide⟩
theorem aak{b:List Int}(hb:∀x∈b,0≤x∧x≤255):∃(a:TA) (e:Int),X5 (b,())=some (a,e,())∧((e=0∧OkA a∧iY a=true∧toS (jJ a)=toS b)∨e=12):=by
 obtain⟨a,ok,h1,h2⟩:=acs hb;show ∃(a':TA) (e:Int),Iw X4 b=some (a',e,())∧_;unfold Iw;rw[h1,zD]
 cases ok with
 | false=>exact⟨_,_,rfl,.inr rfl⟩
 | true =>
  have ha:=h2 rfl;dsimp only;rw[if_neg (by decide),KY ha]
  cases hr:iY a with
  | false=>exact⟨_,_,rfl,.inr rfl⟩
  | true =>
   rw[if_pos rfl,zD,if_neg (show ¬ nei 0 0=true by decide)];dsimp only;have e:oK (jJ a,b,())=some (eqs (toS (jJ a)) (toS b),()):=rfl;rw[e,zD]
   cases he:eqs (toS (jJ a)) (toS b) with
   | false=>exact⟨_,_,rfl,.inr rfl⟩
   | true=>exact⟨a,0,rfl,.inl ⟨rfl,ha,hr,Jh.1 he⟩⟩
theorem alV{f:Int}{b:List Int}(hb:∀x∈f::b,0≤x∧x≤255):∃(a:TA) (e:Int),Bt (f::b,())=some (a,e,())∧((e=0∧OkA a∧iY a=true∧toS (jJ a)=toS (f::b))∨((e=1∨e=3)∧a=(f,0,0,0,[],[]))):=by
 obtain⟨a,e,h1,h2⟩:=aak hb;show ∃(a':TA) (e:Int),OG (f::b)=some (a',e,())∧_;unfold OG;rw[if_neg (by grind[bu,bn,List.length_cons]),h1,zD];dsimp only;rcases h2 with ⟨rfl,ha⟩ | rfl
 ·exact⟨a,0,rfl,.inl ⟨rfl,ha⟩⟩
 ·rw[if_neg (by decide),iX,zD,zD,rJ,zD]
  grind
end Go.Proofs.Lx
end
