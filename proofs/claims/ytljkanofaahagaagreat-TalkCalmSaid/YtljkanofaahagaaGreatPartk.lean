/- Proved in the last of these 16 parts (this is part 11): TalkCalm. Conditions: those of the given statement, and no others. -/
import Derived.Test.YtljkanofaahagaaGreatPartj
import Derived.Test.YtljkanofaahagaaGreatParte
set_option linter.unusedVariables false
set_option linter.unusedSimpArgs false
set_option linter.unusedSectionVars false
open Option renaming bind → zC, bind_some → zD
open List renaming replicate → zE, length → zG, getElem?_eq_getElem → zV, getD_eq_getElem?_getD → zX, length_append → zZ, length_replicate → kD
open Int renaming ofNat → zF, toNat → zI, eq_ofNat_of_zero_le → zN, toNat_natCast → zQ, tmod_eq_emod_of_nonneg → kC
open Bool renaming and_eq_true → zO
noncomputable section
namespace Pl
open Go Ev Sx
theorem pX{σ R α β:Type}{F:(σ->Option R)->σ->Option R}{mk:Nat->β->σ}{xs:List α}{stp:β->α->β}{fin:β->Option R}(Inv:Nat->β->Prop)
  (hs:∀self i acc x,xs[i]? = some x->Inv i acc->F self (mk i acc)=self (mk (i+1) (stp acc x)))
  (hi:∀i acc x,xs[i]? = some x->Inv i acc->Inv (i+1) (stp acc x))
  (he:∀self acc,Inv xs.length acc->F self (mk xs.length acc)=fin acc) :
  ∀(k i:Nat) (acc:β) (n:Nat),i+k=xs.length->k<n->Inv i acc->cu F n (mk i acc)=fin ((xs.drop i).foldl stp acc)
 | _,_,_,0,_,hn,_=>by omega
 | 0,i,acc,n+1,h,_,hI=>by
  have:i=xs.length:=by omega
  subst this;rw[nH,he _ _ hI,List.drop_length];rfl
 | k+1,i,acc,n+1,h,hn,hI=>by have hx:xs[i]? = some (xs[i]'(by omega)):=zV (by omega);rw[nH,hs _ _ _ _ hx hI,pX Inv hs hi he k (i+1) _ n (by omega) (by omega) (hi _ _ _ hx hI),List.drop_eq_getElem_cons (show i<xs.length by omega)];rfl
def goL{α β R:Type}(body:β->α->(β->Option R)->Option R)(fin:β->Option R):List α->β->Option R
 | [],acc=>fin acc
 | x::r,acc=>body acc x (goL body fin r)
theorem vO{σ R α β:Type}{F:(σ->Option R)->σ->Option R}{mk:Nat->β->σ}{xs:List α}{body:β->α->(β->Option R)->Option R}{fin:β->Option R}
  (hs:∀self i acc x,xs[i]? = some x->F self (mk i acc)=body acc x fun a=>self (mk (i+1) a))
  (he:∀self acc,F self (mk xs.length acc)=fin acc) :
  ∀(k i:Nat) (acc:β) (n:Nat),i+k=xs.length->k<n->cu F n (mk i acc)=goL body fin (xs.drop i) acc
 | _,_,_,0,_,hn=>by omega
 | 0,i,acc,n+1,h,_=>by
  have:i=xs.length:=by omega
  subst this;rw[nH,he,List.drop_length];rfl
 | k+1,i,acc,n+1,h,hn=>by
  have hx:xs[i]? = some (xs[i]'(by omega)):=zV (by omega);rw[nH,hs _ _ _ _ hx,List.drop_eq_getElem_cons (show i<xs.length by omega)];show _=body acc _ (goL body fin (xs.drop (i+1)))
  congr 1
  funext a;exact vO hs he k (i+1) a n (by omega) (by omega)
theorem xD{α β:Type}(f:α->List β):∀(xs:List α) (out:List β),xs.foldl (fun o x=>o++f x) out=out++xs.flatMap f
 | [],out=>by simp
 | x::r,out=>by simp[xD f r]
theorem wr8(x:Int):IntKind.u8.wrap x=x%256:=by simp only[IntKind.wrap,IntKind.signed,IntKind.bits];simp
theorem CS(x:Int):IntKind.u16.wrap x=x%65536:=by simp only[IntKind.wrap,IntKind.signed,IntKind.bits];simp
theorem uS(x:Int):cvt .u8 x=x%256:=wr8 x
theorem AF(x:Int):cvt .u16 x=x%65536:=CS x
theorem abx(k:IntKind)(x:Int)(hk:8≤k.bits):shr k x 8=x / 256:=by
 unfold shr;have:min (8:Int).toNat k.bits=8:=by have:(8:Int).toNat=8:=rfl;omega
 rw[this,Int.fdiv_eq_ediv_of_nonneg _ (by decide)];rfl
theorem aFV(k:IntKind)(x:Int)(hk:8≤k.bits):shr k x 4=x / 16:=by
 unfold shr;have:min (4:Int).toNat k.bits=4:=by have:(4:Int).toNat=4:=rfl;omega
 rw[this,Int.fdiv_eq_ediv_of_nonneg _ (by decide)];rfl
theorem TV(x:Int):0≤IntKind.u16.wrap x∧IntKind.u16.wrap x<65536:=by rw[CS];omega
theorem ado(x:Int):0≤lW .u16 x 15∧lW .u16 x 15<16:=by
 have h:(BitVec.ofInt IntKind.u16.bits x &&& BitVec.ofInt IntKind.u16.bits 15).toNat≤15:=by rw[BitVec.toNat_and];exact Nat.le_trans Nat.and_le_right (by decide)
 unfold lW;rw[CS];omega
end Pl
end
noncomputable section
namespace Pl
open Go Ev Sx
theorem nI{σ R:Type}{F:(σ->Option R)->σ->Option R}{mk:Nat->σ}{N:Nat}{r:Option R}(hs:∀self i,i<N->F self (mk i)=self (mk (i+1)))(he:∀self,F self (mk N)=r) :
  ∀(k i n:Nat),i+k=N->k<n->cu F n (mk i)=r
 | _,_,0,_,h=>by omega
 | 0,i,n+1,h,_=>by
  have:i=N:=by omega
  subst this;rw[nH,he]
 | k+1,i,n+1,h,hn=>by rw[nH,hs _ _ (by omega),nI hs he k (i+1) n (by omega) (by omega)]
theorem adp{α:Type}(p:List α)(x y:α)(q:List α):(p++x::q).set p.length y=p++y::q:=by rw[List.set_append_right _ _ (Nat.le_refl _),Nat.sub_self];rfl
end Pl
end
noncomputable section
namespace Go.Proofs.Lx
open Go Ev Sx Pl
set_option maxRecDepth 100000
def uT:List Int:=[0,52225,55297,5120,61441,15360,10240,58369,40961,27648,30720,46081,20480,39937,34817,17408]
theorem ano:WT ()=some (uT,()):=by kernel_rfl
def tab(i:Int):Int:=uT.getD i.toNat 0
theorem adq{i:Int}(h0:0≤i)(h1:i<16):at? uT i=some (tab i):=by
 obtain⟨n,rfl⟩:=zN h0;have:n<uT.length:=by show n<16;omega
 have e:uT[n]? = some (uT[n]'this):=zV this;rw[gZ e];unfold tab;rw[zQ,zX,e];rfl
def nib(s:Int):Int:=iU .u16 (shr .u16 s 4) (tab (lW .u16 s 15))
def uj(s c:Int):Int:=nib (nib (iU .u16 s (cvt .u16 c)))
theorem adr(s c:Int):0≤uj s c∧uj s c<65536:=TV _
theorem step_eq(s c:Int):Mi (s,c,uT,())=some (uj s c,uT,()):=by show WU s c uT=_;unfold WU;have h1:=ado (iU .u16 s (cvt .u16 c));rw[fT (fq.2 h1.2),adq h1.1 h1.2,zD,zD];have h2:=ado (iU .u16 (shr .u16 (iU .u16 s (cvt .u16 c)) 4) (tab (lW .u16 (iU .u16 s (cvt .u16 c)) 15)));rw[fT (fq.2 h2.2),adq h2.1 h2.2,zD,zD];rfl
def qE(b:List Int):Int:=b.foldl uj 65535
theorem AJ(b:List Int):0≤qE b∧qE b<65536:=by
 unfold qE
 have:∀(b:List Int) (s:Int),(0≤s∧s<65536)->0≤b.foldl uj s∧b.foldl uj s<65536:=by
  intro b
  induction b with
  | nil=>exact fun s h=>h
  | cons c r ih=>exact fun s _=>ih _ (adr s c)
 exact this b _ (by decide)
theorem ads{b:List Int}(h:b.length<4611686018427387904):Mj (b,())=some (qE b,()):=by
 show WW OA b=_;unfold WW;rw[ano,zD];rw[fT (by rfl),fT (by rfl)];unfold OA;refine (pX (xs:=b) (mk:=fun i acc=>(b,acc,zF b.length,(i:Int),uT)) (stp:=uj) (fin:=fun acc=>some (acc,())) (fun _ _=>True) ?_ (fun _ _ _ _ _=>trivial) ?_ b.length 0 65535 _ (by omega) (by omega) trivial).trans ?_
 ·intro self i acc x hx _
  have hi:=(List.getElem?_eq_some_iff.1 hx).1;show Jd _ b acc (zF b.length) (i:Int) uT=_;unfold Jd;rw[if_pos (by rw[fq,bu];omega),gZ hx,zD,step_eq,zD,jm (by omega)]
 ·intro self acc _
  show Jd _ b acc (zF b.length) (b.length:Int) uT=_;unfold Jd;rw[if_neg (by rw[fq,bu];omega)]
 ·rfl
theorem TW{n:Int}(h:0≤n):jR 0 n=true:=by
 unfold jR;split
 ·rfl
 ·exact decide_eq_true h
theorem oz(n:Int):jR n n=true:=by unfold jR;rw[if_pos rfl]
def two(x:Int):List Int:=[x / 256%256,x%256]
def iP(b:List Int):List Int:=b++[qE b%256,qE b / 256]
theorem put_eq{b:List Int}(h:b.length<1000000):BZ (b,())=some (iP b,()):=by
 show WZ b=_;unfold WZ;have hs:=AJ b;have e:add .i64 (zF b.length) 2=((b.length+2:Nat):Int):=by rw[bu];exact rW (m:=2) (by omega)
 rw[ads (by omega),zD,e,fT (TW (by omega)),fT (by rw[CP];omega),jJ (by omega),jJ (by simp;omega),uS,uS,abx _ _ (by decide)];have e2:qE b / 256%256=qE b / 256:=by omega
 rw[e2];rfl
abbrev TA:=Int×Int×Int×Int×List Int×List Bool
structure OkA(a:TA):Prop where
 f0:0≤a.1
 f1:a.1≤255
 at0:0≤a.2.1
 at1:a.2.1≤65535
 m0:0≤a.2.2.1
 m1:a.2.2.1≤65535
 t0:0≤a.2.2.2.1
 t1:a.2.2.2.1≤65535
 w:∀x∈a.2.2.2.2.1,0≤x∧x≤65535
 lw:a.2.2.2.2.1.length≤100000
 lb:a.2.2.2.2.2.length≤100000
def shp(f:Int):Option (Int×Int×Int×Bool×Bool) :=
 if eqi 1 f=true then some (2000,0,0,false,false) else if eqi 2 f=true then some (2000,0,0,false,false) else if eqi 3 f=true then some (125,0,0,false,false) else
 if eqi 4 f=true then some (125,0,0,false,false) else if eqi 5 f=true then some (0,1,0,false,false) else if eqi 6 f=true then some (0,0,1,false,false) else
 if eqi 15 f=true then some (1968,1968,0,false,true) else if eqi 16 f=true then some (123,0,123,false,true) else if eqi 23 f=true then some (125,0,121,true,false) else none
def Kn(f:Int):Int×Int×Int×Bool×Bool:=(shp f).getD (0,0,0,false,false)
theorem tH(f:Int):Al (f,())=some (Kn f,(shp f).isSome,()):=rfl
theorem adt(f:Int):((f=1∨f=2)∧shp f=some (2000,0,0,false,false))∨((f=3∨f=4)∧shp f=some (125,0,0,false,false))∨(f=5∧shp f=some (0,1,0,false,false)) ∨
  (f=6∧shp f=some (0,0,1,false,false))∨(f=15∧shp f=some (1968,1968,0,false,true))∨(f=16∧shp f=some (123,0,123,false,true))∨(f=23∧shp f=some (125,0,121,true,false)) ∨
  ((f≠1∧f≠2∧f≠3∧f≠4∧f≠5∧f≠6∧f≠15∧f≠16∧f≠23)∧shp f=none):=by
 by_cases h1:f=1
 ·subst h1;exact .inl ⟨.inl rfl,rfl⟩
 by_cases h2:f=2
 ·subst h2;exact .inl ⟨.inr rfl,rfl⟩
 by_cases h3:f=3
 ·subst h3;exact .inr (.inl ⟨.inl rfl,rfl⟩)
 by_cases h4:f=4
 ·subst h4;exact .inr (.inl ⟨.inr rfl,rfl⟩)
 by_cases h5:f=5
 ·subst h5;exact .inr (.inr (.inl ⟨rfl,rfl⟩))
 by_cases h6:f=6
 ·subst h6;exact .inr (.inr (.inr (.inl ⟨rfl,rfl⟩)))
 by_cases h7:f=15
 ·subst h7;exact .inr (.inr (.inr (.inr (.inl ⟨rfl,rfl⟩))))
 by_cases h8:f=16
 ·subst h8;exact .inr (.inr (.inr (.inr (.inr (.inl ⟨rfl,rfl⟩)))))
 by_cases h9:f=23
 ·subst h9;exact .inr (.inr (.inr (.inr (.inr (.inr (.inl ⟨rfl,rfl⟩))))))
 refine .inr (.inr (.inr (.inr (.inr (.inr (.inr ⟨⟨h1,h2,h3,h4,h5,h6,h7,h8,h9⟩,?_⟩))))));have e:∀n:Int,f≠n->¬ eqi n f=true:=fun n hn h=>hn (fo.1 h).symm;unfold shp;rw[if_neg (e _ h1),if_neg (e _ h2),if_neg (e _ h3),if_neg (e _ h4),if_neg (e _ h5),if_neg (e _ h6),if_neg (e _ h7),if_neg (e _ h8),if_neg (e _ h9)]
def jE(n most:Int):Bool:=if eqi most 0=true then eqi n 0 else if ge n 1=true then le n most else false
theorem CV(n most:Int):I8 (n,most,())=some (jE n most,()):=by
 show af7 n most=_;unfold af7 jE;split
 ·rfl
 ·split<;>rfl
def wN(a:TA)(s:Int×Int×Int×Bool×Bool):Bool:=(s.2.2.2.1 || eqi a.2.2.2.1 0) && (jE a.2.2.1 s.1 && (jE (zF a.2.2.2.2.2.length) s.2.1 && (jE (zF a.2.2.2.2.1.length) s.2.2.1 &&
 (!s.2.2.2.2 || eqi (zF a.2.2.2.2.2.length+zF a.2.2.2.2.1.length) a.2.2.1))))
def iR(a:TA):Bool:=match shp a.1 with
 | none=>false
 | some s=>wN a s
theorem anp(t:Bool)(a1 a2 a3 a4:Int)(a5:List Int)(a6:List Bool)(s1 s2 s3:Int)(s4 s5:Bool) :
  Wv t a1 a2 a3 a4 a5 a6 s1 s2 s3 s4 s5=some (!t && (!s5 || eqi (add .i64 (zF a6.length) (zF a5.length)) (cvt .i64 a3)),()):=by
 unfold Wv age;cases t<;>cases s5<;>rfl
theorem anq(t:Bool)(a1 a2 a3 a4:Int)(a5:List Int)(a6:List Bool)(s1 s2 s3:Int)(s4 s5:Bool) :
  Ou t a1 a2 a3 a4 a5 a6 s1 s2 s3 s4 s5=some (!t && (jE (cvt .i64 a3) s1 && (jE (zF a6.length) s2 && (jE (zF a5.length) s3 && (!s5 || eqi (add .i64 (zF a6.length) (zF a5.length)) (cvt .i64 a3))))),()):=by
 unfold Ou agc;rw[CV,CV,CV];simp only[zD,anp];cases t<;>cases jE (cvt .i64 a3) s1<;>cases jE (zF a6.length) s2<;>cases jE (zF a5.length) s3<;>rfl
theorem right_eq{a:TA}(h:OkA a):wD (a,())=some (iR a,()):=by
 show Wu Ou a=_;unfold Wu;have h1:=h.m0;have h2:=h.m1;have h3:=h.lw;have h4:=h.lb;rw[tH,zD];simp only[anq];rw[jr (by omega) (by omega),jS (by rw[bu,bu];omega) (by rw[bu,bu];omega)];unfold iR Kn
 cases shp a.1 with
 | none=>rfl
 | some s =>
  obtain⟨s1,s2,s3,s4,s5⟩:=s;unfold wN;have e:nei a.2.2.2.1 0=!eqi a.2.2.2.1 0:=rfl;rw[e];cases s4<;>cases eqi a.2.2.2.1 0<;>rfl
theorem adu{y:Int}:([cvt .u8 (shr .u16 y 8),cvt .u8 y]:List Int)=two y:=by rw[uS,uS,abx _ _ (by decide)];rfl
theorem vw{l out:List Int}(h:out.length+2*l.length≤1000000):oV (l,out,())=some (out++l.flatMap two,()):=by
 show WB Ox l out=_;unfold WB Ox;refine (pX (xs:=l) (mk:=fun i acc=>(l,zF l.length,(i:Int),acc)) (stp:=fun o y=>o++two y) (fin:=fun acc=>some (acc,())) (fun i acc=>acc.length≤out.length+2*i) ?_ ?_ ?_ l.length 0 out _ (by omega) (by omega) (by omega)).trans ?_
 ·intro self i acc x hx hI
  have hi:=(List.getElem?_eq_some_iff.1 hx).1;show I9 _ l (zF l.length) (i:Int) acc=_;unfold I9;rw[if_pos (by rw[fq,bu];omega),gZ hx,zD,jJ (by omega),adu,jm (by omega)]
 ·intro i acc x hx hI
  simp[two];omega
 ·intro self acc _
  show I9 _ l (zF l.length) (l.length:Int) acc=_;unfold I9;rw[if_neg (by rw[fq,bu];omega)]
 ·rw[List.drop_zero,xD]
end Go.Proofs.Lx
end
noncomputable section
namespace Pl
open Go Ev Sx
theorem wO{σ R:Type}{F:(σ->Option R)->σ->Option R}{mk:Nat->σ}{N:Nat}{r:Option R}(hs:∀self i,i<N->F self (mk i)=self (mk (i+1)))(he:∀self,F self (mk N)=r) :
  ∀(k i n:Nat),i+k=N->k<n->cu F n (mk i)=r
 | _,_,0,_,h=>by omega
 | 0,i,n+1,h,_=>by simp_all[nH]
 | k+1,i,n+1,h,hn=>by rw[nH,hs _ _ (by omega),wO hs he k (i+1) n (by omega) (by omega)]
theorem qw{i d:Nat}(hi:i<4611686018427387904):quo .i64 (i:Int) (d:Int)=((i / d:Nat):Int):=by unfold quo;have h:=Nat.div_le_self i d;grind[Int,Nat,Int.ofNat_tdiv,w64]
theorem vP{i d:Nat}:rem (i:Int) (d:Int)=((i%d:Nat):Int):=by rfl
theorem CX{α:Type}{f:Nat->α}{init:List α}{i:Nat}(hi:i<init.length):((List.range i).map f++init.drop i).set i (f i)=(List.range (i+1)).map f++init.drop (i+1):=by rw[List.drop_eq_getElem_cons hi,List.set_append_right _ _ (by simp)];simp only[List.length_map,List.length_range,Nat.sub_self,List.set_cons_zero,List.range_succ,List.map_append,List.map_cons,List.map_nil,List.append_assoc,List.singleton_append]
end Pl
namespace Go.Proofs.Lx
open Go Ev Sx Pl
set_option maxRecDepth 100000
def kM:List Bool->Int
 | []=>0
 | b::r=>(if b=true then 1 else 0)+2*kM r
theorem xE:∀t:List Bool,0≤kM t∧kM t<2 ^ t.length
 | []=>by simp[kM]
 | b::r=>by have:=xE r;grind[List.length_cons,Int.pow_succ,kM]
theorem G6(b:Bool):∀t:List Bool,kM (t++[b])=kM t+(if b=true then 2 ^ t.length else 0)
 | []=>by cases b<;>rfl
 | a::r=>by rw[List.cons_append];unfold kM;rw[G6 b r,List.length_cons,Int.pow_succ];cases b<;>simp<;>omega
theorem La:∀(t:List Bool) (k:Nat),kM t / 2 ^ k%2=(if t.getD k false=true then 1 else 0)
 | [],k=>by simp[kM]
 | b::r,0=>by unfold kM;cases b<;>simp<;>omega
 | b::r,k+1=>by
  have:=La r k;rw[List.getD_cons_succ,<- this]
  have e:((if b=true then (1:Int) else 0)+2*kM r) / 2 ^ (k+1)=kM r / 2 ^ k:=by
   rw[Int.pow_succ,Int.mul_comm (2 ^ k) 2,<- Int.ediv_ediv_of_nonneg (by decide)]
   congr 1
   split<;>omega
  show ((if b=true then (1:Int) else 0)+2*kM r) / 2 ^ (k+1)%2=_;rw[e]
def gT(n:Nat):Nat:=(n+7) / 8
def pz(bits:List Bool)(i:Nat):List Int:=(List.range (gT bits.length)).map fun j=>kM (((bits.take i).drop (8*j)).take 8)
def iW(bits:List Bool):List Int:=(List.range (gT bits.length)).map fun j=>kM ((bits.drop (8*j)).take 8)
theorem rY(bits:List Bool):(iW bits).length=gT bits.length:=by simp[iW]
theorem adv(bits:List Bool):pz bits bits.length=iW bits:=by unfold pz iW;simp
theorem aby(bits:List Bool):pz bits 0=zE (gT bits.length) 0:=by simp_all[pz,List.take_zero,List.drop_nil,List.take_nil,kM,List.map_const']
theorem abz{bits:List Bool}{i j:Nat}{y:Bool}(hy:bits[i]? = some y):((bits.take (i+1)).drop (8*j)).take 8=((bits.take i).drop (8*j)).take 8++(if j=i / 8 then [y] else []):=by
 have hi:=(List.getElem?_eq_some_iff.1 hy).1;have e:bits.take (i+1)=bits.take i++[y]:=by grind[List.take_add_one]
 have hl:(bits.take i).length=i:=by grind
 by_cases h:j=i / 8
 ·rw[if_pos h,e,List.drop_append_of_le_length (by omega)]
  grind[zZ,List.length_drop,List.length_singleton,List.take_of_length_le]
 ·rw[if_neg h,List.append_nil]
  grind[List.drop_of_length_le]
theorem abA{bits:List Bool}{i:Nat}{y:Bool}(hy:bits[i]? = some y) :
  ∃v,(pz bits i)[i / 8]? = some v∧0≤v∧v<2 ^ (i%8)∧pz bits (i+1)=(if y=true then (pz bits i).set (i / 8) (v+2 ^ (i%8)) else pz bits i):=by
 have hi:=(List.getElem?_eq_some_iff.1 hy).1;have hm:i / 8<gT bits.length:=by grind[gT]
 have hlen:((((bits.take i).drop (8*(i / 8))).take 8)).length=i%8:=by grind
 refine⟨kM (((bits.take i).drop (8*(i / 8))).take 8),?_,(xE _).1,?_,?_⟩
 ·simp_all[pz,List.getElem?_map,List.getElem?_range]
 ·have:=(xE (((bits.take i).drop (8*(i / 8))).take 8)).2
  simp_all
 ·apply List.ext_getElem?
  intro j;have hj:∀q,(pz bits q)[j]? = if j<gT bits.length then some (kM (((bits.take q).drop (8*j)).take 8)) else none:=by grind[pz,List.getElem?_range,List.getElem?_eq_none]
  rw[hj];by_cases hjm:j<gT bits.length
  ·rw[if_pos hjm,abz hy]
   by_cases hji:j=i / 8
   ·rw[if_pos hji,G6]
    grind
   grind
  grind
theorem asj{v:Int}{k:Nat}(h0:0≤v)(h1:v<2 ^ k)(hk:k<8):bor .u8 v (shl .u8 1 (k:Int))=v+2 ^ k:=by
 have key:∀(k:Fin 8) (v:Fin 128),v.1<2 ^ k.1->bor .u8 (v.1:Int) (shl .u8 1 (k.1:Int))=(v.1:Int)+2 ^ k.1:=by decide +kernel
 obtain⟨n,rfl⟩:=zN h0;have h2:n<2 ^ k:=by grind
 have h3:2 ^ k≤2 ^ 7:=Nat.pow_le_pow_right (by decide) (by omega);exact key ⟨k,hk⟩ ⟨n,by omega⟩ h2
theorem TX{bits:List Bool}(h:bits.length≤100000):Jb (bits,())=some (iW bits,()):=by
 show WI Oy bits=_
 have hK:Oy bits (gT bits.length:Int)=some (iW bits,()):=by
  unfold Oy WH;have hN:gT bits.length≤100000:=by unfold gT;omega
  rw[fT (by rw[iK];omega),fT (oz _),zQ,jJ (by omega)];unfold WJ;rw[<- aby,<- adv];refine wO (mk:=fun i=>(bits,zF bits.length,(i:Int),pz bits i)) (N:=bits.length) ?_ ?_ bits.length 0 _ (by omega) (by omega)
  ·intro self i hi
   have hy:bits[i]? = some (bits[i]'hi):=zV hi;obtain⟨v,hv,h0,h1,e⟩:=abA hy;show Ja _ bits (zF bits.length) (i:Int) (pz bits i)=_;unfold Ja;have hq:quo .i64 (i:Int) 8=((i / 8:Nat):Int):=qw (d:=8) (by omega);have hr:rem (i:Int) 8=((i%8:Nat):Int):=vP (d:=8);rw[if_pos (by rw[fq,bu];omega),gZ hy,zD,hq,hr,gZ hv,jm (by omega)];simp only[zD];rw[fT (by rw[iK];omega),asj h0 h1 (Nat.mod_lt _ (by decide)),zQ,e];split<;>rfl
  ·intro self
   show Ja _ bits (zF bits.length) (bits.length:Int) (pz bits bits.length)=_;unfold Ja;rw[if_neg (by rw[fq,bu];omega)]
 unfold WI;have hq:quo .i64 (zF bits.length) 8=((bits.length / 8:Nat):Int):=qw (d:=8) (by omega);rw[hq];split
 ·rename_i h1
  rw[jU,bu,show rem (bits.length:Int) 8=((bits.length%8:Nat):Int) from vP (d:=8)]at h1;rw[jm (by omega)];have:bits.length / 8+1=gT bits.length:=by unfold gT;omega
  rw[this];exact hK
 ·rename_i h1
  rw[jU,bu,show rem (bits.length:Int) 8=((bits.length%8:Nat):Int) from vP (d:=8)]at h1;have:bits.length / 8=gT bits.length:=by unfold gT;omega
  rw[this];exact hK
def CY(y:Int)(k:Nat):Bool:=eqi (lW .u8 (shr .u8 y (k:Int)) 1) 1
theorem asl{y:Int}{k:Nat}(h0:0≤y)(h1:y<256)(hk:k<8):CY y k=decide (y / 2 ^ k%2=1):=by
 have key:∀(k:Fin 8) (v:Fin 256),CY (v.1:Int) k.1=decide ((v.1:Int) / 2 ^ k.1%2=1):=by decide +kernel
 obtain⟨n,rfl⟩:=zN h0;exact key ⟨k,hk⟩ ⟨n,by omega⟩
def mO(b:List Int):List Bool:=(List.range (8*b.length)).map fun i=>CY (b.getD (i / 8) 0) (i%8)
theorem CZ{b:List Int}(h:b.length≤100000):Jt (b,())=some (mO b,()):=by
 show Yy PK b=_;unfold Yy;have hm:mul .i64 8 (zF b.length)=((8*b.length:Nat):Int):=by grind[ou,bu]
 rw[hm,fT (by rfl),fT (oz _),zQ,jJ (by omega),kD];unfold PK mO;refine (wO (mk:=fun i=>(b,zF (8*b.length),(i:Int),(List.range i).map (fun i=>CY (b.getD (i / 8) 0) (i%8))++(zE (8*b.length) false).drop i)) (N:=8*b.length) ?_ ?_ (8*b.length) 0 _ (by omega) (by omega))
 ·intro self i hi
  show PG _ b (zF (8*b.length)) (i:Int) _=_;unfold PG;have hq:quo .i64 (i:Int) 8=((i / 8:Nat):Int):=qw (d:=8) (by omega);have hr:rem (i:Int) 8=((i%8:Nat):Int):=vP (d:=8);have hlt:i / 8<b.length:=by omega
  have hb:b[i / 8]? = some (b[i / 8]'hlt):=zV hlt;have hlen:((List.range i).map (fun i=>CY (b.getD (i / 8) 0) (i%8))++(zE (8*b.length) false).drop i).length=8*b.length:=by grind
  have ho:((List.range i).map (fun i=>CY (b.getD (i / 8) 0) (i%8))++(zE (8*b.length) false).drop i)[i]? = some (((List.range i).map (fun i=>CY (b.getD (i / 8) 0) (i%8))++(zE (8*b.length) false).drop i)[i]'(by omega)):=zV (by omega);rw[if_pos (by grind[fq,bu]),hq,hr,gZ hb,zD,fT (by rfl),gZ ho,zD,zD,jm (by omega),zQ];grind[eqi,lW,u8,shr,Nat,Int,CY,CX]
 simp_all[PG,zF,Nat,Int,if_neg,fq,bu,List.drop_of_length_le,List.append_nil]
end Go.Proofs.Lx
end
noncomputable section
namespace Go.Proofs.Lx
open Go Ev Sx Pl
set_option maxRecDepth 100000
inductive RA:TA->Prop where
 | bits (f p n:Int) (hf:f=1∨f=2) (h1:1≤n) (h2:n≤2000):RA (f,p,n,0,[],[])
 | words (f p n:Int) (hf:f=3∨f=4) (h1:1≤n) (h2:n≤125):RA (f,p,n,0,[],[])
 | coil (p:Int) (b:Bool):RA (5,p,0,0,[],[b])
 | word (p:Int) (x:Int):RA (6,p,0,0,[x],[])
 | coils (p:Int) (l:List Bool) (h1:1≤l.length) (h2:l.length≤1968):RA (15,p,(l.length:Int),0,[],l)
 | regs (p:Int) (l:List Int) (h1:1≤l.length) (h2:l.length≤123):RA (16,p,(l.length:Int),0,l,[])
 | swap (p n t:Int) (l:List Int) (h1:1≤l.length) (h2:l.length≤121) (h3:1≤n) (h4:n≤125):RA (23,p,n,t,l,[])
theorem nJ{n:Int}(h:jE n 0=true):n=0:=fo.1 h
theorem rD{n m:Int}(hm:0<m)(h:jE n m=true):1≤n∧n≤m:=by unfold jE at h;rw[if_neg (by grind[fo])]at h;simp_all[iK,iO]
theorem wQ{α:Type}{l:List α}(h:zF l.length=0):l=[]:=by simp_all
theorem len1{α:Type}{l:List α}(h:1≤zF l.length∧zF l.length≤1):∃x,l=[x]:=by grind[bu,List.length_eq_one_iff]
theorem lD{a:TA}(hr:iR a=true):RA a:=by
 obtain⟨f,p,n,t,ws,bs⟩:=a;unfold iR at hr;simp only at hr;rcases adt f with ⟨hf,e⟩ | ⟨hf,e⟩ | ⟨hf,e⟩ | ⟨hf,e⟩ | ⟨hf,e⟩ | ⟨hf,e⟩ | ⟨hf,e⟩ | ⟨hf,e⟩<;>rw[e]at hr<;>simp only[wN,zO,Bool.false_or,Bool.true_or,Bool.not_false,Bool.not_true,true_and,and_true]at hr
 ·obtain⟨h1,h2,h3,h4⟩:=hr
  have h2:=rD (by decide) h2;rw[fo.1 h1,wQ (nJ h3),wQ (nJ h4)];exact .bits f p n hf h2.1 h2.2
 ·obtain⟨h1,h2,h3,h4⟩:=hr
  have h2:=rD (by decide) h2;rw[fo.1 h1,wQ (nJ h3),wQ (nJ h4)];exact .words f p n hf h2.1 h2.2
 ·obtain⟨h1,h2,h3,h4⟩:=hr
  obtain⟨b,rfl⟩:=len1 (rD (by decide) h3);rw[fo.1 h1,nJ h2,wQ (nJ h4),hf];exact .coil p b
 ·obtain⟨h1,h2,h3,h4⟩:=hr
  obtain⟨b,rfl⟩:=len1 (rD (by decide) h4);rw[fo.1 h1,nJ h2,wQ (nJ h3),hf];exact .word p b
 ·obtain⟨h1,h2,h3,h4,h5⟩:=hr
  have h3:=rD (by decide) h3;have e4:=wQ (nJ h4);subst e4;rw[fo.1 h1,<- fo.1 h5,hf];rw[bu]at h3;exact .coils p bs (by omega) (by omega)
 ·obtain⟨h1,h2,h3,h4,h5⟩:=hr
  have h4:=rD (by decide) h4;have e3:=wQ (nJ h3);subst e3;have e5:(ws.length:Int)=n:=by simp_all[fo]
  rw[fo.1 h1,<- e5,hf];rw[bu]at h4;exact .regs p ws (by omega) (by omega)
 ·obtain⟨h2,h3,h4⟩:=hr
  have h2:=rD (by decide) h2;have h4:=rD (by decide) h4;rw[wQ (nJ h3),hf];rw[bu]at h4;exact .swap p n t ws (by omega) (by omega) h2.1 h2.2
 grind
def jV(a:TA):List Int :=
 if a.1=5 then a.1::two a.2.1++two (if a.2.2.2.2.2.headD false=true then 65280 else 0)
 else if a.1=6 then a.1::two a.2.1++a.2.2.2.2.1.flatMap two
 else if a.1=15 then a.1::two a.2.1++two a.2.2.1++[(gT a.2.2.2.2.2.length:Int)]++iW a.2.2.2.2.2
 else if a.1=16 then a.1::two a.2.1++two a.2.2.1++[2*(a.2.2.2.2.1.length:Int)]++a.2.2.2.2.1.flatMap two
 else if a.1=23 then a.1::two a.2.1++two a.2.2.1++two a.2.2.2.1++two (a.2.2.2.2.1.length:Int)++[2*(a.2.2.2.2.1.length:Int)]++a.2.2.2.2.1.flatMap two
 else a.1::two a.2.1++two a.2.2.1
theorem yG(l:List Int):(l.flatMap two).length=2*l.length:=by
 induction l with
 | nil=>rfl
 | cons x r ih=>grind[zZ,two]
theorem Ko(x:Int):(two x).length=2:=rfl
theorem pY{a:TA}(h:RA a):5≤(jV a).length∧(jV a).length≤253:=by
 cases h with
 | bits f p n hf h1 h2=>rcases hf with rfl | rfl<;>exact⟨Nat.le.refl,(by decide:5≤253)⟩
 | words f p n hf h1 h2=>rcases hf with rfl | rfl<;>exact⟨Nat.le.refl,(by decide:5≤253)⟩
 | coil p b=>exact⟨Nat.le.refl,(by decide:5≤253)⟩
 | word p x=>exact⟨Nat.le.refl,(by decide:5≤253)⟩
 | coils p l h1 h2 =>
  show 5≤((15:Int)::two p++two _++[_]++iW l).length∧((15:Int)::two p++two _++[_]++iW l).length≤253;grind[zZ,List.length_cons,List.length_nil,rY,Ko,gT]
 | regs p l h1 h2 =>
  show 5≤((16:Int)::two p++two _++[_]++l.flatMap two).length∧((16:Int)::two p++two _++[_]++l.flatMap two).length≤253;grind[zZ,List.length_cons,List.length_nil,yG,Ko]
 | swap p n t l h1 h2 h3 h4 =>
  show 5≤((23:Int)::two p++two _++two _++two _++[_]++l.flatMap two).length∧((23:Int)::two p++two _++two _++two _++[_]++l.flatMap two).length≤253;grind[zZ,List.length_cons,List.length_nil,yG,Ko]
abbrev BO:=Option (As [.sl (.int .u8),.int .i64])
theorem bK5(p:Int)(b:Bool)(out:List Int):BV 5 p 0 0 [] [b] 0 1 0 false false out=zC (oV ([if b=true then 65280 else 0],out,())) fun y=>(some (y.1,0,()):BO):=by cases b<;>rfl
theorem bK6(p x:Int)(out:List Int):BV 6 p 0 0 [x] [] 0 0 1 false false out=zC (oV ([x],out,())) fun y=>(some (y.1,0,()):BO):=rfl
theorem aFW(p n:Int)(l:List Bool)(out:List Int):BV 15 p n 0 [] l 1968 1968 0 false true out =
  zC (Jb (l,())) fun y=>need (small (out.length+1)) (need (small ((out++[zF (y.1.length%256)]).length+y.1.length)) (some (out++[zF (y.1.length%256)]++y.1,0,()):BO)):=rfl
theorem aFX(p n:Int)(l out:List Int):BV 16 p n 0 l [] 123 0 123 false true out =
  need (small (out.length+1)) (zC (oV (l,out++[cvt .u8 (mul .i64 2 (zF l.length))],())) fun y=>(some (y.1,0,()):BO)):=rfl
theorem aFY(p n t:Int)(l out:List Int):BV 23 p n t l [] 125 0 121 true false out =
  zC (oV ([t,zF (l.length%65536)],out,())) fun y=>need (small (y.1.length+1)) (zC (oV (l,y.1++[cvt .u8 (mul .i64 2 (zF l.length))],())) fun y=>(some (y.1,0,()):BO)):=rfl
theorem Mq(x:Int){out:List Int}(h:out.length≤900000):oV ([x],out,())=some (out++two x,()):=by grind[vw]
theorem Mr{a:TA}(h:OkA a):Fj (a,())=if iR a=true then some (jV a,0,()) else some ([],12,()):=by
 show WM BV a=_;unfold WM;rw[right_eq h,zD]
 cases hr:iR a with
 | false=>rfl
 | true =>
  have hra:=lD hr;rw[if_neg (by decide),if_pos rfl,tH,zD];clear hr h;have hin:∀f p:Int,oV ([p],[f],())=some (f::two p,()):=fun f p=>Mq p (by simp);have hin2:∀f p n:Int,oV ([n],f::two p,())=some (f::two p++two n,()):=fun f p n=>Mq n (by simp[two])
  cases hra with
  | bits f p n hf h1 h2 =>
   rcases hf with rfl | rfl<;>rw[hin,zD,if_pos (by rfl),hin2,zD]
   ·rfl
   rfl
  | words f p n hf h1 h2 =>
   rcases hf with rfl | rfl<;>rw[hin,zD,if_pos (by rfl),hin2,zD]
   ·rfl
   rfl
  | coil p b =>
   rw[hin,zD,if_neg (by show ¬ gt 0 0=true;decide)];exact (bK5 p b _).trans (by rw[Mq _ (by simp[two]),zD];rfl)
  | word p x =>
   rw[hin,zD,if_neg (by show ¬ gt 0 0=true;decide)];exact (bK6 p x _).trans (by simp_all[Mq,two,zD,jV])
  | coils p l h1 h2 =>
   rw[hin,zD,if_pos (by rfl),hin2,zD];refine (aFW p _ l _).trans ?_;rw[TX (by omega),zD,jJ (by simp[two]),jJ (by grind[two,rY,gT])];refine congrArg (fun x=>some (x,0,())) ?_;have e:gT l.length%256=gT l.length:=by grind[gT]
   rw[rY,e];rfl
  | regs p l h1 h2 =>
   rw[hin,zD,if_pos (by rfl),hin2,zD];refine (aFX p _ l _).trans ?_;rw[jJ (by simp[two]),ou (by grind) (by grind),uS,vw (by grind[two]),zD];refine congrArg (fun x=>some (x,0,())) ?_;have e:(2*zF l.length)%256=2*(l.length:Int):=by grind
   rw[e];rfl
  | swap p n t l h1 h2 h3 h4 =>
   rw[hin,zD,if_pos (by rfl),hin2,zD];refine (aFY p n t l _).trans ?_;rw[vw (by simp[two]),zD,jJ (by simp[two]),ou (by grind) (by grind),uS,vw (by grind[two]),zD];refine congrArg (fun x=>some (x,0,())) ?_;have e:(2*zF l.length)%256=2*(l.length:Int):=by grind
   have e2:zF (l.length%65536)=(l.length:Int):=by grind
   simp_all[jV]
end Go.Proofs.Lx
end
noncomputable section
namespace Pl
open Go Ev Sx
theorem adw{α β:Type}{s1:List α}{s2:List β}(h:s1.length=s2.length){i:Nat}{x:α×β}(hx:(s1.zip s2)[i]? = some x):s1[i]? = some x.1∧s2[i]? = some x.2:=by grind
theorem QV{α:Type}[DecidableEq α]{ne:α->α->Bool}(hne:∀a b,ne a b=!decide (a=b)):∀(s1 s2:List α),s1.length=s2.length ->
  goL (R:=Bool×Unit) (fun (_:Unit) (x:α×α) k=>if ne x.1 x.2=true then some (false,()) else k ()) (fun _=>some (true,())) (s1.zip s2) ()=some (decide (s1=s2),())
 | [],[],_=>rfl
 | a::r,b::q,h=>by
  rw[List.zip_cons_cons];show (if ne a b=true then some (false,()) else goL _ _ (r.zip q) ())=_;rw[hne];by_cases e:a=b
  ·subst e
   rw[if_neg (by simp),QV hne r q (by simp_all)];simp
  simp_all
end Pl
namespace Go.Proofs.Lx
open Go Ev Sx Pl
set_option maxRecDepth 100000
theorem C4{s1 s2:List Int}(h:s1.length≤1000000):yj (s1,s2,())=some (decide (s1=s2),()):=by
 show XP O6 s1 s2=_;unfold XP;by_cases hl:s1.length=s2.length
 ·rw[if_neg (by simp_all[gP,bu])]
  unfold O6;have hz:(s1.zip s2).length=s1.length:=by simp_all
  rw[<- QV (ne:=nei) (fun a b=>by rfl) s1 s2 hl];refine vO (xs:=s1.zip s2) (mk:=fun i _=>(s1,s2,zF s1.length,(i:Int))) ?_ ?_ s1.length 0 () _ (by omega) (by omega)
  ·intro self i acc x hx
   have hi:=(List.getElem?_eq_some_iff.1 hx).1;obtain⟨h1,h2⟩:=adw hl hx;show O5 _ s1 s2 (zF s1.length) (i:Int)=_;unfold O5;rw[if_pos (by grind[fq,bu]),gZ h1,zD,gZ h2,zD,jm (by omega)]
  simp_all[O5,zF,Nat,Int,if_neg,fq,bu]
 ·rw[if_pos (by grind[gP,bu]),decide_eq_false (fun e=>hl (by rw[e]))]
theorem adx{s1 s2:List Bool}(h:s1.length≤1000000):Py (s1,s2,())=some (decide (s1=s2),()):=by
 show Yn Px s1 s2=_;unfold Yn;by_cases hl:s1.length=s2.length
 ·rw[if_neg (by simp_all[gP,bu])]
  unfold Px;have hz:(s1.zip s2).length=s1.length:=by simp_all
  rw[<- QV (ne:=neb) (fun a b=>by rfl) s1 s2 hl];refine vO (xs:=s1.zip s2) (mk:=fun i _=>(s1,s2,zF s1.length,(i:Int))) ?_ ?_ s1.length 0 () _ (by omega) (by omega)
  ·intro self i acc x hx
   have hi:=(List.getElem?_eq_some_iff.1 hx).1;obtain⟨h1,h2⟩:=adw hl hx;show Pw _ s1 s2 (zF s1.length) (i:Int)=_;unfold Pw;rw[if_pos (by grind[fq,bu]),gZ h1,zD,gZ h2,zD,jm (by omega)]
  simp_all[Pw,zF,Nat,Int,if_neg,fq,bu]
 ·rw[if_pos (by grind[gP,bu]),decide_eq_false (fun e=>hl (by rw[e]))]
abbrev BB:=Option (As [.bool])
theorem kS{p:Prop}[Decidable p]{b:Bool}{k:BB}{q:Bool}(h:b=true↔p)(hk:p->k=some (q,())):(if b=true then k else some (false,()))=some (decide p && q,()):=by grind
instance decA5:DecidableEq (Int×Int×Int×List Int×List Bool):=inferInstance
instance decA:DecidableEq TA:=inferInstance
abbrev TP:=Int×Int×Int×Int×Bool×TA×Int×Int×Int
instance decP1:DecidableEq (TA×Int×Int×Int):=inferInstance
instance decP2:DecidableEq (Int×Bool×TA×Int×Int×Int):=inferInstance
instance decP:DecidableEq TP:=inferInstance
theorem TY{a b:Bool}:eqb a b=true↔a=b:=by cases a<;>cases b<;>decide
theorem oZ{s:List Int}(h:s.length≤1000000):nR (s,())=some (s,()):=by
 show afO s=_;unfold afO;split
 ·rename_i h0
  rw[wQ (fo.1 h0)];rfl
 grind[jJ]
theorem C5{s:List Bool}(h:s.length≤1000000):BU (s,())=some (s,()):=by
 show af4 s=_;unfold af4;split
 ·rename_i h0
  rw[wQ (fo.1 h0)];rfl
 grind[jJ]
def kN(tx unit:Int)(pdu:List Int):List Int:=[tx / 256%256,tx%256,0,0,0,(pdu.length+1:Nat)%256,unit]++pdu
theorem aq7{tx unit:Int}{pdu:List Int}(h1:1≤pdu.length)(h2:pdu.length≤253):Oz ((tx,unit,pdu),())=some (kN tx unit pdu,0,()):=by show WQ agx (tx,unit,pdu)=_;unfold WQ;rw[if_neg (by grind[fq,bu])];show WO (zF pdu.length) (gt (zF pdu.length) 253) (tx,unit,pdu)=_;unfold WO;dsimp only;have e:add .i64 7 (zF pdu.length)=((7+pdu.length:Nat):Int):=rW (n:=7) (by omega);rw[if_neg (by grind[jU,bu]),e,fT (TW (by omega)),fT (by grind[CP]),jJ (by omega),jJ (by omega),uS,uS,uS,abx _ _ (by decide),bu,jm (by omega)];rfl
def jo(link unit tx:Int)(a:TA):List Int:=if link=2 then kN tx unit (jV a) else iP (unit::jV a)
theorem T3{unit:Int}{pdu:List Int}(hu:1≤unit)(hu2:unit≤247)(h1:1≤pdu.length)(h2:pdu.length≤253):OC (unit,pdu,())=some (iP (unit::pdu),0,()):=by
 show Xb agO unit pdu=_;unfold Xb;have e:Fp (unit,())=some (true,()):=by show OB unit=_;simp_all[OB,if_pos,iK,iO]
 rw[e,zD,if_neg (by decide),if_neg (by grind[fq,bu])];show Xa unit pdu (gt (zF pdu.length) 253)=_;unfold Xa;rw[if_neg (by grind[jU,bu]),jJ (by omega),put_eq (by grind),zD]
structure OkP(p:TP):Prop where
 u0:1≤p.1
 u1:p.1≤247
 l:p.2.1=1∨p.2.1=2
 t0:1≤p.2.2.1
 t1:p.2.2.1≤100000
 r0:0≤p.2.2.2.1
 r1:p.2.2.2.1≤1000
 a:OkA p.2.2.2.2.2.1
 x0:0≤p.2.2.2.2.2.2.1
 x1:p.2.2.2.2.2.2.1≤65535
def kP(link tx:Int):Int:=if link=2 then (tx+1)%65536 else tx
def mU(p:TP):TP:=(p.1,p.2.1,p.2.2.1,p.2.2.2.1,p.2.2.2.2.1,p.2.2.2.2.2.1,kP p.2.1 p.2.2.2.2.2.2.1,p.2.2.1,p.2.2.2.2.2.2.2.2)
def pE(p:TP):List Int:=jo p.2.1 p.1 (kP p.2.1 p.2.2.2.2.2.2.1) p.2.2.2.2.2.1
theorem qU(b:List Int):(iP b).length=b.length+2:=by simp[iP]
theorem xG{p:TP}(hr:iR p.2.2.2.2.2.1=true):8≤(pE p).length∧(pE p).length≤260:=by
 have hl:=pY (lD hr);unfold pE jo;split
 ·simp[kN];omega
 grind[qU]
def zA:TA:=(0,0,0,0,[],[])
def lS(p:TP)(a:TA):TP:=(p.1,p.2.1,p.2.2.1,p.2.2.2.1,true,a,p.2.2.2.2.2.2.1,p.2.2.2.2.2.2.2.1,p.2.2.2.1)
def cr(p:TP):TP:=(p.1,p.2.1,p.2.2.1,p.2.2.2.1,false,zA,p.2.2.2.2.2.2.1,0,0)
def G7(p:TP)(n:Int):TP:=(p.1,p.2.1,p.2.2.1,p.2.2.2.1,p.2.2.2.2.1,p.2.2.2.2.2.1,p.2.2.2.2.2.2.1,n,p.2.2.2.2.2.2.2.2)
def nK(p:TP)(n m:Int):TP:=(p.1,p.2.1,p.2.2.1,p.2.2.2.1,p.2.2.2.2.1,p.2.2.2.2.2.1,p.2.2.2.2.2.2.1,n,m)
def jB(p:TP):TP×List Int×Bool :=
 if p.2.2.2.2.1=true then
  if p.2.2.2.2.2.2.2.1=1 then
   if 0<p.2.2.2.2.2.2.2.2 then (mU (nK p 0 (p.2.2.2.2.2.2.2.2 - 1)),pE (nK p 0 (p.2.2.2.2.2.2.2.2 - 1)),false)
   else (cr p,[],true)
  else (G7 p (p.2.2.2.2.2.2.2.1 - 1),[],false)
 else (p,[],false)
def vQ(u l t r:Int):Bool:=decide ((1≤u∧u≤247)∧(l=1∨l=2)∧(1≤t∧t≤100000)∧0≤r∧r≤1000)
def zP:TP:=(0,0,0,0,false,zA,0,0,0)
end Go.Proofs.Lx
end
noncomputable section
namespace Pl
open Go Ev Sx
theorem aFZ{y:Int}(h0:0≤y)(h1:y≤255):shl .u16 (cvt .u16 y) 8=256*y:=by
 rw[AF];unfold shl;have:min (8:Int).toNat IntKind.u16.bits=8:=by decide
 grind[CS]
theorem auV{a b:Int}(ha:0≤a)(ha2:a≤255)(hb:0≤b)(hb':b≤255):bor .u16 (256*a) b=256*a+b:=by
 obtain⟨n,rfl⟩:=zN ha;obtain⟨m,rfl⟩:=zN hb;unfold bor;rw[CS]
 have e1:(BitVec.ofInt IntKind.u16.bits (256*(n:Int))).toNat=256*n:=by
  rw[BitVec.toNat_ofInt];have:((2 ^ IntKind.u16.bits:Nat):Int)=65536:=by decide
  grind
 have e2:(BitVec.ofInt IntKind.u16.bits (m:Int)).toNat=m:=by
  rw[BitVec.toNat_ofInt];have:((2 ^ IntKind.u16.bits:Nat):Int)=65536:=by decide
  grind
 rw[BitVec.toNat_or,e1,e2];have e3:256*n ||| m=256*n+m:=by have:=Nat.two_pow_add_eq_or_of_lt (i:=8) (b:=m) (by omega) n;simp_all
 omega
theorem anr{a b:Int}:bor .u16 a b=bor .u16 b a:=by grind[bor,BitVec.or_comm]
def iX(y z:Int):Int:=bor .u16 (shl .u16 (cvt .u16 y) 8) (cvt .u16 z)
theorem QW(y z:Int):0≤iX y z∧iX y z<65536:=TV _
theorem D9{y z:Int}(h0:0≤y)(h1:y≤255)(h2:0≤z)(h3:z≤255):iX y z=256*y+z:=by unfold iX;rw[aFZ h0 h1,AF];grind[auV]
def iY(b:List Int):List Int:=(List.range (b.length / 2)).map fun i=>iX (b.getD (2*i) 0) (b.getD (2*i+1) 0)
end Pl
namespace Go.Proofs.Lx
open Go Ev Sx Pl
set_option maxRecDepth 100000
abbrev TR:=Int×Int×List Bool×List Int×Int×Int
instance decR5:DecidableEq (Int×List Bool×List Int×Int×Int):=inferInstance
instance decR:DecidableEq TR:=inferInstance
def zR:TR:=(0,0,[],[],0,0)
structure SmR(r:TR):Prop where
 b:r.2.2.1.length≤100000
 w:r.2.2.2.1.length≤100000
theorem xH:SmR zR:=⟨by decide,by decide⟩
theorem qV{a b:TR}(h:SmR a):wH (a,b,())=some (decide (a=b),()):=by show aiJ a b=_;unfold aiJ;have h1:=h.b;have h2:=h.w;rw[C4 (by omega),zD,adx (by omega),zD];obtain⟨a1,a2,a3,a4,a5,a6⟩:=a;obtain⟨b1,b2,b3,b4,b5,b6⟩:=b;rw[kS (fo) fun _=>kS (fo) fun _=>kS (fo) fun _=>kS (fo) fun _=>kS (p:=a3=b3) (by simp) fun _=>rfl];refine congrArg (fun x=>some (x,())) ?_;grind
def exR(r:TR):Bool:=decide (r.1<128) && (decide (1≤r.2.1) && (decide (r.2.1≤4) && decide (r=(rem r.1 128,r.2.1,[],[],0,0))))
def AL(r:TR):Bool:=decide (8≤r.2.2.1.length) && (decide (r.2.2.1.length≤2000) && (decide (r.2.2.1.length%8=0) && decide (r=(r.1,0,r.2.2.1,[],0,0))))
def rZ(r:TR):Bool:=decide (1≤r.2.2.2.1.length) && (decide (r.2.2.2.1.length≤125) && decide (r=(r.1,0,[],r.2.2.2.1,0,0)))
def obR(r:TR):Bool:=decide (r.2.2.1.length=1) && decide (r=(r.1,0,r.2.2.1,[],r.2.2.2.2.1,0))
def owR(r:TR):Bool:=decide (r.2.2.2.1.length=1) && decide (r=(r.1,0,[],r.2.2.2.1,r.2.2.2.2.1,0))
def ctR(k:Int)(r:TR):Bool:=decide (1≤r.2.2.2.2.2) && (decide (r.2.2.2.2.2≤k) && decide (r=(r.1,0,[],[],r.2.2.2.2.1,r.2.2.2.2.2)))
theorem QX{r:TR}(h:SmR r):FB ((),r,())=some (exR r,()):=by show aiK () r=_;unfold aiK exR;have e:lF (r.1,r.2.1,())=some ((rem r.1 128,r.2.1,[],[],0,0),()):=rfl;rw[e,zD,qV h,zD];rw[kS (fq) fun _=>kS (iK) fun _=>kS (iO) fun _=>rfl]
theorem Kq{r:TR}(h:SmR r):yu ((),r,())=some (AL r,()):=by show aiM () r=_;unfold aiM AL;rw[qV h,zD];rw[kS (p:=8≤r.2.2.1.length) (by grind[iK,bu]) fun _=>kS (p:=r.2.2.1.length≤2000) (by grind[iO,bu]) fun _=>kS (p:=r.2.2.1.length%8=0) (by grind[fo,bu,rem,Int,Nat,vP]) fun _=>rfl]
theorem FZ{r:TR}(h:SmR r):yX ((),r,())=some (rZ r,()):=by show aiO () r=_;unfold aiO rZ;rw[qV h,zD];rw[kS (p:=1≤r.2.2.2.1.length) (by grind[iK,bu]) fun _=>kS (p:=r.2.2.2.1.length≤125) (by grind[iO,bu]) fun _=>rfl]
theorem QY{r:TR}(h:SmR r):FC ((),r,())=some (obR r,()):=by show aiQ () r=_;unfold aiQ obR;rw[qV h,zD];rw[kS (p:=r.2.2.1.length=1) (by grind[fo,bu]) fun _=>rfl]
theorem QZ{r:TR}(h:SmR r):FD ((),r,())=some (owR r,()):=by show aiS () r=_;unfold aiS owR;rw[qV h,zD];rw[kS (p:=r.2.2.2.1.length=1) (by grind[fo,bu]) fun _=>rfl]
theorem C6{r:TR}{k:Int}(h:SmR r):yw (k,r,())=some (ctR k r,()):=by show aiU k r=_;unfold aiU ctR;rw[qV h,zD];rw[kS (iK) fun _=>kS (iO) fun _=>rfl]
def pZ(r:TR):Bool:=if nei r.2.1 0=true then exR r else if eqi r.1 1=true then AL r else if eqi r.1 2=true then AL r else if eqi r.1 3=true then rZ r else if eqi r.1 4=true then rZ r else if eqi r.1 23=true then rZ r else
 if eqi r.1 5=true then obR r else if eqi r.1 6=true then owR r else if eqi r.1 15=true then ctR 1968 r else if eqi r.1 16=true then ctR 123 r else false
theorem ady{r:TR}(h:SmR r):Yo (r,())=some (pZ r,()):=by
 show aiW r=_;unfold aiW pZ;rw[QX h,Kq h,FZ h,QY h,QZ h,C6 h,C6 h];simp only[zD]
 repeat (first | rfl | split)
def exB(r:TR):List Int:=[add .u8 r.1 128,r.2.1]
def Kr(r:TR):List Int:=r.1::(gT r.2.2.1.length:Int)%256::iW r.2.2.1
def xI(r:TR):List Int:=[r.1,2*(r.2.2.2.1.length:Int)%256]++r.2.2.2.1.flatMap two
def obB(r:TR):List Int:=r.1::two r.2.2.2.2.1++two (if r.2.2.1.headD false=true then 65280 else 0)
def owB(r:TR):List Int:=r.1::two r.2.2.2.2.1++two (r.2.2.2.1.headD 0)
def ctB(r:TR):List Int:=r.1::two r.2.2.2.2.1++two r.2.2.2.2.2
theorem uk{l out:List Int}(h:out.length+2*l.length≤1000000):Cf (l,out,())=some (out++l.flatMap two,()):=by
 show YE PS l out=_;unfold YE PS;refine (pX (xs:=l) (mk:=fun i acc=>(l,zF l.length,(i:Int),acc)) (stp:=fun o y=>o++two y) (fin:=fun acc=>some (acc,())) (fun i acc=>acc.length≤out.length+2*i) ?_ ?_ ?_ l.length 0 out _ (by omega) (by omega) (by omega)).trans ?_
 ·intro self i acc x hx hI
  have hi:=(List.getElem?_eq_some_iff.1 hx).1;show PR _ l (zF l.length) (i:Int) acc=_;unfold PR;rw[if_pos (by grind[fq,bu]),gZ hx,zD,jJ (by omega),adu,jm (by omega)]
 ·grind[two]
 ·simp_all[PR,zF,Int,if_neg,fq,bu]
 ·rw[List.drop_zero,xD]
theorem adz(r:TR):Js ((),r,())=some (exB r,()):=rfl
theorem T4{r:TR}(h:SmR r):Ce ((),r,())=some (Kr r,()):=by show ai9 () r=_;unfold ai9;have hb:=h.b;rw[TX hb,zD,jJ (by grind[rY,gT]),rY];rfl
theorem Q0{r:TR}(h:SmR r):yx ((),r,())=some (xI r,()):=by show ajg () r=_;unfold ajg;have hw:=h.w;rw[ou (by grind) (by grind),uS,uk (by grind),zD];rfl
theorem adA{r:TR}(h:obR r=true):Jw ((),r,())=some (obB r,()):=by
 unfold obR at h;rw[zO]at h;obtain⟨x,hx⟩:=List.length_eq_one_iff.1 (of_decide_eq_true h.1);show YI PT () r=_;unfold YI;rw[hx,jy,zD];have key:∀(v:Int) (r2:Int) (r3:List Bool) (r4:List Int) (r6:Int),PT v r.1 r2 r3 r4 r.2.2.2.2.1 r6=some (r.1::two r.2.2.2.2.1++two v,()):=fun v r2 r3 r4 r6=>by unfold PT ajl;rw[uk (by simp),zD];simp
 unfold obB;rw[hx]
 cases x with
 | true=>rw[if_pos rfl,key];rfl
 | false=>rw[if_neg (by decide),key];rfl
theorem wT{R:Type}{eq:R->R->Bool}(h:∀x,eq x x=true)(o:R):amb eq [some o,some o]=some o:=by show (if eq o o=true then some o else none)=_;simp_all
theorem eqAs_refl:∀(rs:List Ty) (x:As rs),ay rs x x=true
 | [],_=>rfl
 | t::r,x=>by simp_all[eqV,ay,QU,eqAs_refl]
theorem adB{r:TR}(h:owR r=true):Jy ((),r,())=some (owB r,()):=by unfold owR at h;rw[zO]at h;obtain⟨x,hx⟩:=List.length_eq_one_iff.1 (of_decide_eq_true h.1);show ajo () r=_;grind[ajo,jy,uk,wT,eqAs_refl,owB]
theorem Q5(k:Int)(r:TR):Cg (k,r,())=some (ctB r,()):=by show ajq k r=_;grind[ajq,uk,ctB]
theorem AO{b:List Int}(h:b.length≤100000):Ju (b,())=some (iY b,()):=by
 show YA PO b=_;unfold YA;have hq:quo .i64 (zF b.length) 2=((b.length / 2:Nat):Int):=qw (d:=2) (by omega);rw[hq,fT (by rfl),fT (oz _),zQ,jJ (by omega),kD];unfold PO iY;refine (wO (mk:=fun i=>(b,zF (b.length / 2),(i:Int),(List.range i).map (fun i=>iX (b.getD (2*i) 0) (b.getD (2*i+1) 0))++(zE (b.length / 2) (0:Int)).drop i)) (N:=b.length / 2) ?_ ?_ (b.length / 2) 0 _ (by omega) (by omega))
 ·intro self i hi
  show PN _ b (zF (b.length / 2)) (i:Int) _=_;unfold PN;have hm:mul .i64 2 (i:Int)=((2*i:Nat):Int):=by grind[ou]
  have h1:b[2*i]? = some (b[2*i]'(by omega)):=zV (by omega);have h2:b[2*i+1]? = some (b[2*i+1]'(by omega)):=zV (by omega);have ho:((List.range i).map (fun i=>iX (b.getD (2*i) 0) (b.getD (2*i+1) 0))++(zE (b.length / 2) (0:Int)).drop i)[i]? = some (((List.range i).map (fun i=>iX (b.getD (2*i) 0) (b.getD (2*i+1) 0))++(zE (b.length / 2) (0:Int)).drop i)[i]'(by grind)):=zV (by grind);rw[if_pos (by grind[fq,bu]),hm,jm (by omega),gZ h1,gZ h2,gZ ho,jm (by omega),zQ];grind[bor,shl,cvt,iX,CX]
 simp_all[PN,zF,Nat,Int,if_neg,fq,bu,List.drop_of_length_le,List.append_nil]
end Go.Proofs.Lx
end
noncomputable section
namespace Go.Proofs.Lx
open Go Ev Sx Pl
set_option maxRecDepth 100000
theorem rE(b:List Int):(iY b).length=b.length / 2:=by simp[iY]
theorem ng(b:List Int):(mO b).length=8*b.length:=by simp[mO]
def exC(x y:Int):TR:=(rem x 128,y,[],[],0,0)
def wU(x:Int)(r:List Int):TR:=(x,0,mO r,[],0,0)
def pF(x:Int)(r:List Int):TR:=(x,0,[],iY r,0,0)
def qP(f:Int->Int->TR)(r:List Int):TR:=match iY r with
 | p::q::_=>f p q
 | _=>zR
def obC(x:Int):List Int->TR:=qP fun p q=>(x,0,[eqi q 65280],[],p,0)
def owC(x:Int):List Int->TR:=qP fun p q=>(x,0,[],[q],p,0)
def ctC(x:Int):List Int->TR:=qP fun p q=>(x,0,[],[],p,q)
theorem l9{α:Type}(x:α)(r:List α):cut (x::r) 1 (zF (x::r).length)=some r:=TU x r
theorem T6{α:Type}(x y:α)(r:List α):cut (x::y::r) 2 (zF (x::y::r).length)=some r:=by have:=l7 (xs:=x::y::r) (i:=2) (by simp);simp_all
theorem auW(x y:Int)(r:List Int):Yu ((),x::y::r,())=some (exC x y,()):=rfl
theorem asn(x y:Int){r:List Int}(h:r.length≤1000):PL ((),x::y::r,())=some (wU x r,()):=by show ai8 () (x::y::r)=_;unfold ai8;rw[jy,zD,T6,zD,CZ (by omega),zD];rfl
theorem ant(x y:Int){r:List Int}(h:r.length≤1000):Jv ((),x::y::r,())=some (pF x r,()):=by show ajd () (x::y::r)=_;unfold ajd;rw[jy,zD,T6,zD,AO (by omega),zD];rfl
theorem AP(l:List Int):(l.length<2∧∀(f:Int->Int->TR),(match l with | p::q::_=>f p q | _=>zR)=zR)∨∃p q r,l=p::q::r:=by
 match l with
 | []=>simp
 | [_]=>simp
 | p::q::r=>simp
theorem at_one{α:Type}(p q:α)(r:List α):at? (p::q::r) 1=some q:=rfl
theorem auX(x:Int){r:List Int}(h:r.length≤1000):YG ((),x::r,())=some (obC x r,()):=by
 show ajh () (x::r)=_;unfold ajh obC qP;rw[l9,zD,AO (by omega),zD];rcases AP (iY r) with ⟨h1,h2⟩ | ⟨p,q,s,h1⟩
 ·dsimp only
  rw[h2,if_pos (by grind[fq,bu])];rfl
 ·dsimp only
  rw[h1,if_neg (by grind[fq,bu]),jy,jy,at_one];rfl
theorem auY(x:Int){r:List Int}(h:r.length≤1000):YJ ((),x::r,())=some (owC x r,()):=by
 show ajm () (x::r)=_;unfold ajm owC qP;rw[l9,zD,AO (by omega),zD];rcases AP (iY r) with ⟨h1,h2⟩ | ⟨p,q,s,h1⟩
 ·dsimp only
  rw[h2,if_pos (by grind[fq,bu])];rfl
 ·dsimp only
  rw[h1,if_neg (by grind[fq,bu]),jy,jy,at_one];rfl
theorem auZ(k x:Int){r:List Int}(h:r.length≤1000):PU (k,x::r,())=some (ctC x r,()):=by
 show ajp k (x::r)=_;unfold ajp ctC qP;rw[l9,zD,AO (by omega),zD];rcases AP (iY r) with ⟨h1,h2⟩ | ⟨p,q,s,h1⟩
 ·dsimp only
  rw[h2,if_pos (by grind[fq,bu])];rfl
 ·dsimp only
  rw[h1,if_neg (by grind[fq,bu]),jy,jy,at_one];rfl
theorem tJ{f:Int->Int->TR}(h:∀p q,SmR (f p q))(r:List Int):SmR (qP f r):=by grind[qP,xH]
def p8(b:List Int)(c:TR)(ok:Bool)(w:List Int):TR×Int:=if ok=true then if eqs (toS w) (toS b)=true then (c,0) else (zR,13) else (zR,13)
theorem yZ{b:List Int}{c:TR}{ok:Bool}{w:List Int}{rd:Option (TR×Unit)}{rt:TR->Option (Bool×Unit)}{wt:TR->Option (List Int×Unit)}(h1:rd=some (c,()))(h2:rt c=some (ok,()))(h3:ok=true->wt c=some (w,())) :
  (zC rd fun y=>zC (rt y.1) fun y_1=>if (!y_1.1)=true then some ((0,0,[],[],0,0),13,()) else zC (wt y.1) fun y_2=>zC (pU (y_2.1,b,())) fun y_3=>if (!y_3.1)=true then some ((0,0,[],[],0,0),13,()) else (some (y.1,0,()):Option (TR×Int×Unit)))=some ((p8 b c ok w).1,(p8 b c ok w).2,()):=by
 rw[h1,zD,h2,zD];unfold p8
 cases ok with
 | false=>rfl
 | true =>
  rw[if_neg (by decide),h3 rfl,zD,if_pos rfl];show zC (some (eqs (toS w) (toS b),())) _=_;rw[zD];cases eqs (toS w) (toS b)<;>rfl
theorem oN{c:Prop}[Decidable c]{A B:Option (TR×Int×Unit)}{a b:TR×Int}(h1:A=some (a.1,a.2,()))(h2:B=some (b.1,b.2,())):(if c then A else B)=some ((if c then a else b).1,(if c then a else b).2,()):=by grind
def iT(x y:Int)(r:List Int):TR×Int:=if 251<r.length then (zR,13) else if lt x 128=true then
   if eqi x 1=true then p8 (x::y::r) (wU x r) (AL (wU x r)) (Kr (wU x r)) else if eqi x 2=true then p8 (x::y::r) (wU x r) (AL (wU x r)) (Kr (wU x r)) else
   if eqi x 3=true then p8 (x::y::r) (pF x r) (rZ (pF x r)) (xI (pF x r)) else if eqi x 4=true then p8 (x::y::r) (pF x r) (rZ (pF x r)) (xI (pF x r)) else
   if eqi x 23=true then p8 (x::y::r) (pF x r) (rZ (pF x r)) (xI (pF x r)) else if eqi x 5=true then p8 (x::y::r) (obC x (y::r)) (obR (obC x (y::r))) (obB (obC x (y::r))) else
   if eqi x 6=true then p8 (x::y::r) (owC x (y::r)) (owR (owC x (y::r))) (owB (owC x (y::r))) else if eqi x 15=true then p8 (x::y::r) (ctC x (y::r)) (ctR 1968 (ctC x (y::r))) (ctB (ctC x (y::r))) else
   if eqi x 16=true then p8 (x::y::r) (ctC x (y::r)) (ctR 123 (ctC x (y::r))) (ctB (ctC x (y::r))) else (zR,13)
  else p8 (x::y::r) (exC x y) (exR (exC x y)) (exB (exC x y))
def mh:List Int->TR×Int
 | x::y::r=>iT x y r
 | _=>(zR,13)
theorem Q6(b:List Int):Jz (b,())=some ((mh b).1,(mh b).2,()):=by
 show YL YM b=_;unfold YL
 match b with
 | []=>rfl
 | [_]=>rfl
 | x::y::r =>
  rw[if_neg (by grind[fq,bu])];show _=some ((iT x y r).1,(iT x y r).2,());unfold YM aju iT;by_cases hl:251<r.length
  ·rw[if_pos (by grind[jU,bu]),if_pos hl]
   rfl
  ·rw[if_neg (by grind[jU,bu]),if_neg hl,jy,zD,zD]
   have sb:SmR (wU x r):=⟨by show (mO r).length≤_;grind[ng],by show 0≤100000;decide⟩;have sw:SmR (pF x r):=⟨by show 0≤100000;decide,by show (iY r).length≤_;grind[rE]⟩;have so:SmR (obC x (y::r)):=tJ (fun p q=>⟨by simp,by simp⟩) _;have su:SmR (owC x (y::r)):=tJ (fun p q=>⟨by simp,by simp⟩) _;have sc:SmR (ctC x (y::r)):=tJ (fun p q=>⟨by simp,by simp⟩) _;have se:SmR (exC x y):=⟨by show 0≤100000;decide,by show 0≤100000;decide⟩;have hr:(y::r).length≤1000:=by grind
   have kb:=yZ (b:=x::y::r) (rt:=fun c=>yu ((),c,())) (wt:=fun c=>Ce ((),c,())) (asn x y (by omega)) (Kq sb) (fun _=>T4 sb);have kw:=yZ (b:=x::y::r) (rt:=fun c=>yX ((),c,())) (wt:=fun c=>yx ((),c,())) (ant x y (by omega)) (FZ sw) (fun _=>Q0 sw);have ko:=yZ (b:=x::y::r) (rt:=fun c=>FC ((),c,())) (wt:=fun c=>Jw ((),c,())) (auX x hr) (QY so) (fun h=>adA h);have ku:=yZ (b:=x::y::r) (rt:=fun c=>FD ((),c,())) (wt:=fun c=>Jy ((),c,())) (auY x hr) (QZ su) (fun h=>adB h);have kc:=fun k=>yZ (b:=x::y::r) (rt:=fun c=>yw (k,c,())) (wt:=fun c=>Cg (k,c,())) (auZ k x hr) (C6 sc) (fun _=>Q5 k _);have ke:=yZ (b:=x::y::r) (rt:=fun c=>FB ((),c,())) (wt:=fun c=>Js ((),c,())) (auW x y r) (QX se) (fun _=>adz _);exact oN (oN kb (oN kb (oN kw (oN kw (oN kw (oN ko (oN ku (oN (kc _) (oN (kc _) rfl))))))))) ke
def cutV(b:List Int):List Int×Int :=
 if b.length<2 then ([],10) else
 if qE (b.take (b.length - 2))=iX (b.getD (b.length - 1) 0) (b.getD (b.length - 2) 0) then (b.take (b.length - 2),0) else ([],11)
theorem anu{α:Type}{z:α}{n:Nat}{y:List α}(h:y.length=n):List.take (zI (zF (zG (zE n z)))) y++List.drop (0+zG (List.take (zI (zF (zG (zE n z)))) y)) (zE n z)=y:=by grind
theorem adC{α:Type}{z:α}{n:Nat}{y:List α}(h:n≤y.length):List.take (zI (zF (zG (zE n z)))) y++List.drop (0+zG (List.take (zI (zF (zG (zE n z)))) y)) (zE n z)=y.take n:=by simp_all
theorem aso{b:List Int}(h:b.length≤100000):Ml (b,())=some ((cutV b).1,(cutV b).2,()):=by
 show Y0 b=_;unfold Y0 cutV;by_cases h2:b.length<2
 ·rw[if_pos (by grind[fq,bu]),if_pos h2]
 ·have e1:sub .i64 (zF b.length) 2=((b.length - 2:Nat):Int):=by grind[lQ,bu]
  have g1:b[b.length - 2]? = some (b[b.length - 2]'(by omega)):=zV (by omega);have g2:b[b.length - 2+1]? = some (b[b.length - 2+1]'(by omega)):=zV (by omega);rw[if_neg (by grind[fq,bu]),if_neg h2,e1,pW (by omega),zD,jm (by omega),gZ g1,zD,gZ g2,zD,ads (by grind),zD]
  have e2:bor .u16 (cvt .u16 (b[b.length - 2]'(by omega))) (shl .u16 (cvt .u16 (b[b.length - 2+1]'(by omega))) 8)=iX (b.getD (b.length - 1) 0) (b.getD (b.length - 2) 0):=by
   rw[anr];have e3:b.length - 1=b.length - 2+1:=by omega
   rw[e3,zX,zX,g1,g2];rfl
  rw[e2];by_cases hs:qE (b.take (b.length - 2))=iX (b.getD (b.length - 1) 0) (b.getD (b.length - 2) 0)
  ·rw[if_neg (by simp_all[gP]),if_pos hs,fT (by rfl),fT (oz _),zQ,jJ (by omega),fT (by simp_all[iO,kD,bu]),adC (by omega)]
  simp_all[if_pos,gP,if_neg]
theorem adD(u:Int):Fp (u,())=some (decide (1≤u) && decide (u≤247),()):=by show OB u=_;unfold OB;rw[kS (iK) fun _=>rfl];rfl
def iC(b:List Int):Int×List Int×Int :=
 if b.length<4∨256<b.length then (0,[],10) else
 if (cutV b).2≠0 then (0,[],(cutV b).2) else
 match (cutV b).1 with
 | []=>(0,[],10)
 | x::r=>if (decide (1≤x) && decide (x≤247))=true then (x,r,0) else (0,[],10)
theorem anv{b:List Int}(h:(cutV b).2=0):(cutV b).1.length=b.length - 2:=by unfold cutV at h ⊢;grind
theorem Ea(b:List Int):JC (b,())=some ((iC b).1,(iC b).2.1,(iC b).2.2,()):=by
 show Y3 Y4 b=_;have K:∀t,Y4 b t=Y2 b t:=fun _=>rfl;unfold Y3 iC;rw[K,K];by_cases h:b.length<4
 ·rw[if_pos (by rw[fq,bu];omega),if_pos (.inl h)]
  rfl
 ·rw[if_neg (by rw[fq,bu];omega)]
  unfold Y2;by_cases h2:256<b.length
  ·rw[if_pos (by rw[jU,bu];omega),if_pos (.inr h2)]
  ·rw[if_neg (by rw[jU,bu];omega),if_neg (by omega),aso (by omega),zD]
   dsimp only;by_cases h3:(cutV b).2=0
   ·rw[if_neg (by rw[gP];exact fun e=>e h3),if_neg (fun e=>e h3)]
    have hl:=anv h3
    match hc:(cutV b).1 with
    | []=>rw[hc]at hl;simp at hl;omega
    | x::r =>
     rw[jy,zD,adD,zD,zD];show _=some ((if (decide (1≤x) && decide (x≤247))=true then (x,r,0) else (0,[],10)).1,(if (decide (1≤x) && decide (x≤247))=true then (x,r,0) else (0,[],10)).2.1,(if (decide (1≤x) && decide (x≤247))=true then (x,r,0) else (0,[],10)).2.2,())
     cases decide (1≤x) && decide (x≤247) with
     | false=>rfl
     | true =>
      have e:cut (x::r) 1 (zF (x::r).length)=some r:=TU x r;rw[if_neg (by decide),e,zD,fT (by rw[iO];omega),fT (by rw[iO];omega),if_pos rfl]
   ·rw[if_pos (by rw[gP];exact h3),if_pos h3]
def yH(unit:Int)(b:List Int):Option TR :=
 if (iC b).2.2≠0 then none else if (iC b).1≠unit then none else
 if (mh (iC b).2.1).2≠0 then none else some (mh (iC b).2.1).1
def r9:Option TR->Option (TR×Bool×Unit)
 | some r=>some (r,true,())
 | none=>some (zR,false,())
def nL(b2 b3 b4 b5:Int):Bool:=!nei b2 0 && (!nei b3 0 && (!nei b4 0 && (!lt b5 2 && !gt (cvt .i64 b5) 254)))
theorem abB{self:List Int->Int->Option (As [.bool])}{b:List Int}{i y:Int}(hi:i<5)(hl:i<zF b.length)(hy:at? b i=some y) :
  FE (FF self) self b i=if nei y 0=true then some (false,()) else self b (add .i64 i 1):=by
 have e5:eqi i 5=false:=by rw[<- Bool.not_eq_true,fo];omega
 unfold FE;rw[if_pos (by grind[fq]),fq.2 hl];unfold FF YO;rw[if_pos rfl,if_pos (fq.2 hi),hy,zD];unfold YR YP
 cases nei y 0 with
 | true=>rfl
 | false =>
  simp only[e5,Bool.false_eq_true,if_false];rfl
theorem au0{self:List Int->Int->Option (As [.bool])}{b:List Int}{y:Int}(hl:5<zF b.length)(hy:at? b 5=some y) :
  FE (FF self) self b 5=if lt y 2=true then some (false,()) else if gt (cvt .i64 y) 254=true then some (false,()) else self b 6:=by
 unfold FE;rw[if_pos (by decide),fq.2 hl];unfold FF YO;rw[if_pos rfl,if_neg (by decide)];unfold YR YP;rw[if_neg (by decide),if_pos (by decide),hy,zD,zD];rfl
theorem adE(b0 b1 b2 b3 b4 b5 b6 b7:Int)(r:List Int):YS (b0::b1::b2::b3::b4::b5::b6::b7::r,())=some (nL b2 b3 b4 b5,()):=by
 show YQ PV _=_;unfold YQ PV nL;have hlen:(zF (b0::b1::b2::b3::b4::b5::b6::b7::r).length)=(r.length:Int)+8:=by rfl
 generalize hb:b0::b1::b2::b3::b4::b5::b6::b7::r=b at hlen ⊢;have h2:at? b 2=some b2:=by rw[<- hb];rfl
 have h3:at? b 3=some b3:=by rw[<- hb];rfl
 have h4:at? b 4=some b4:=by rw[<- hb];rfl
 have h5:at? b 5=some b5:=by rw[<- hb];rfl
 have key:∀n:Nat,cu (fun (self:(List Int)×(Int)->Option (As [.bool])) (s:(List Int)×(Int))=>FE (FF (fun b i=>self (b,i))) (fun b i=>self (b,i)) s.1 s.2) (n+5) (b,2) =
   some (!nei b2 0 && (!nei b3 0 && (!nei b4 0 && (!lt b5 2 && !gt (cvt .i64 b5) 254))),()):=by
  intro n;rw[nH];refine (abB (by decide) (by omega) h2).trans ?_
  cases nei b2 0 with
  | true=>rfl
  | false =>
   rw[if_neg (by decide),nH];refine (abB (i:=3) (by decide) (by omega) h3).trans ?_
   cases nei b3 0 with
   | true=>rfl
   | false =>
    rw[if_neg (by decide),nH];refine (abB (i:=4) (by decide) (by omega) h4).trans ?_
    cases nei b4 0 with
    | true=>rfl
    | false =>
     rw[if_neg (by decide),nH];refine (au0 (by omega) h5).trans ?_
     cases lt b5 2 with
     | true=>rfl
     | false =>
      cases gt (cvt .i64 b5) 254 with
      | true=>rfl
      | false =>
       rfl
 simp_all
def zM:Int×Int×List Int:=(0,0,[])
def gU:List Int->(Int×Int×List Int)×Int
 | b0::b1::b2::b3::b4::b5::b6::r =>
  if r=[] then (zM,10) else if nL b2 b3 b4 b5=true then if (r.length:Int)+1=b5 then ((iX b0 b1,b6,r),0) else (zM,10) else (zM,10)
 | _=>(zM,10)
theorem xJ{b:List Int}(hl:b.length≤100000)(hb:∀x∈b,0≤x∧x≤255):FH (b,())=some ((gU b).1,(gU b).2,()):=by
 show YW YX b=_;unfold YW;have short:b.length≤7->PW (b,())=some (zM,0,()):=fun h=>by show JA YV b=_;unfold JA;rw[if_pos (by grind[iO,bu])];rfl
 have shortP:b.length≤7->gU b=(zM,10):=fun h=>by
  match b with
  | [] | [_] | [_,_] | [_,_,_] | [_,_,_,_] | [_,_,_,_,_] | [_,_,_,_,_,_]=>rfl
  | [_,_,_,_,_,_,_]=>rfl
  | _::_::_::_::_::_::_::_::_=>simp_all
 by_cases hs:b.length≤7
 ·rw[short hs,shortP hs]
  rfl
 ·match b with
  | [] | [_] | [_,_] | [_,_,_] | [_,_,_,_] | [_,_,_,_,_] | [_,_,_,_,_,_]=>rfl
  | [_,_,_,_,_,_,_]=>rfl
  | b0::b1::b2::b3::b4::b5::b6::b7::r =>
   have h5:=hb b5 (by simp);have hlr:r.length≤100000:=by grind
   have e5:cvt .i64 b5=b5:=jr (by omega) (by omega)
   have hF:PW (b0::b1::b2::b3::b4::b5::b6::b7::r,())=if nL b2 b3 b4 b5=true then if (r.length:Int)+2<b5 then some (zM,0,()) else some ((iX b0 b1,b6,(b7::r).take (b5 - 1).toNat),6+b5,()) else some (zM,0,()):=by
    show JA YV _=_;unfold JA;rw[if_neg (by grind[iO,bu]),adE,zD]
    cases hbg:nL b2 b3 b4 b5 with
    | false=>rfl
    | true =>
     rw[if_pos rfl];have h52:2≤b5:=by unfold nL at hbg;simp only[zO,Bool.not_eq_true',<- Bool.not_eq_true]at hbg;simp_all[fq]
     show YU _ false 0 0=_;unfold YU;have g5:at? (b0::b1::b2::b3::b4::b5::b6::b7::r) 5=some b5:=rfl;have ea:add .i64 6 (cvt .i64 b5)=6+b5:=by grind[jS]
     rw[if_neg (by decide),g5,zD,ea];by_cases hlt:(r.length:Int)+2<b5
     ·rw[if_pos (by grind[fq,bu]),if_pos hlt]
      rfl
     ·have es:sub .i64 (6+b5) 7=(((b5 - 1).toNat:Nat):Int):=by grind[lQ]
      have ec:cut (b0::b1::b2::b3::b4::b5::b6::b7::r) 7 (6+b5)=some ((b7::r).take (b5 - 1).toNat):=by
       have:=yY (xs:=b0::b1::b2::b3::b4::b5::b6::b7::r) (i:=7) (j:=7+(b5 - 1).toNat) (by omega) (by grind);have e:((7+(b5 - 1).toNat:Nat):Int)=6+b5:=by omega
       rw[e,Nat.add_comm 7 (b5 - 1).toNat]at this;exact this
      rw[if_neg (by grind[fq,bu]),if_neg hlt,es,fT (by rfl),fT (oz _),zQ,jJ (by omega),ec,zD,fT (by simp_all[iO,kD,bu])];have hlen:((b7::r).take (b5 - 1).toNat).length=(b5 - 1).toNat:=by grind
      rw[anu hlen];rfl
   rw[hF];have K:∀(t:Bool) (y1 y2:Int) (y3:List Int),YX t 0 0 (y1,y2,y3)=if t=true then some (zM,10,()) else some ((y1,y2,y3),0,()):=fun t y1 y2 y3=>rfl;show _=some ((gU (b0::b1::b2::b3::b4::b5::b6::b7::r)).1,(gU (b0::b1::b2::b3::b4::b5::b6::b7::r)).2,());unfold gU;dsimp only;have hne:¬ (b7::r=[]):=by simp
   rw[if_neg hne]
   cases hbg:nL b2 b3 b4 b5 with
   | false=>rfl
   | true =>
    simp only[if_true];have h52:2≤b5:=by unfold nL at hbg;simp only[zO,Bool.not_eq_true',<- Bool.not_eq_true]at hbg;simp_all[fq]
    by_cases hlt:(r.length:Int)+2<b5
    ·have hq:¬ (((b7::r).length:Int)+1=b5):=by grind
     rw[if_pos hlt,if_neg hq];rfl
    ·rw[if_neg hlt,zD]
     dsimp only;rw[if_neg (by grind[fo]),K];by_cases he:(r.length:Int)+2=b5
     ·have e1:nei (6+b5) (zF (b0::b1::b2::b3::b4::b5::b6::b7::r).length)=false:=by rw[<- Bool.not_eq_true,gP,bu];grind
      have hq:((b7::r).length:Int)+1=b5:=by grind
      rw[e1,if_pos hq];grind[List.take_of_length_le]
     ·have hq:¬ (((b7::r).length:Int)+1=b5):=by grind
      rw[if_neg hq,if_pos (by grind[gP,bu])]
def AQ(unit tx:Int)(b:List Int):Option TR :=
 if (gU b).2≠0 then none else if (gU b).1.2.1≠unit then none else if (gU b).1.1≠tx then none else
 if (mh (gU b).1.2.2).2≠0 then none else some (mh (gU b).1.2.2).1
def Eb(a:TA):Option TR :=
 if a.1=5 then some (5,0,[a.2.2.2.2.2.headD false],[],a.2.1,0) else if a.1=6 then some (6,0,[],[a.2.2.2.2.1.headD 0],a.2.1,0) else
 if a.1=15∨a.1=16 then some (a.1,0,[],[],a.2.1,a.2.2.1) else none
theorem asq{a:TA}(h:OkA a)(hr:iR a=true):wI (a,())=r9 (Eb a):=by
 show Jr Pz Yq a=_;unfold Jr;rw[right_eq h,zD,hr];clear h;have hra:=lD hr;clear hr
 cases hra with
 | bits f p n hf h1 h2=>rcases hf with rfl | rfl<;>rfl
 | words f p n hf h1 h2=>rcases hf with rfl | rfl<;>rfl
 | coil p b=>rfl
 | word p x=>rfl
 | coils p l h1 h2=>rfl
 | regs p l h1 h2=>rfl
 | swap p n t l h1 h2 h3 h4=>rfl
theorem Lb(v:Bool):∀(s:List Bool) (n:Nat),∃k:Int,goL (R:=Int×Unit) (fun (_:Unit) (x:Bool×Nat) k=>if eqb v x.1=true then some ((x.2:Int),()) else k ()) (fun _=>some (-1,())) (s.zipIdx n) ()=some (k,())∧(0≤k↔v∈s)
 | [],n=>⟨-1,rfl,by simp⟩
 | a::r,n=>by
  rw[List.zipIdx_cons];obtain⟨k,h1,h2⟩:=Lb v r (n+1);by_cases e:v=a
  ·refine⟨(n:Int),?_,by simp[e]⟩
   show (if eqb v a=true then _ else _)=_;rw[if_pos (TY.2 e)]
  ·refine⟨k,?_,?_⟩
   ·show (if eqb v a=true then _ else _)=_
    rw[if_neg (fun h=>e (TY.1 h))];exact h1
   ·rw[h2]
    simp[e]
theorem contains_eq{s:List Bool}(v:Bool)(h:s.length≤1000000):Fx (s,v,())=some (decide (v∈s),()):=by
 obtain⟨k,h1,h2⟩:=Lb v s 0
 have e:aiC (s,v,())=some (k,()):=by
  rw[<- h1];show Yk Pv s v=_;unfold Yk Pv;have hz:(s.zipIdx 0).length=s.length:=by simp
  refine vO (xs:=s.zipIdx 0) (mk:=fun i _=>(s,v,zF s.length,(i:Int))) ?_ ?_ s.length 0 () _ (by rw[hz];omega) (by omega)
  ·intro self i acc x hx
   have hi:=(List.getElem?_eq_some_iff.1 hx).1;rw[hz]at hi;have hx2:s[i]? = some x.1∧x.2=i:=by rw[List.getElem?_zipIdx]at hx;obtain⟨y,hy,rfl⟩:=Option.map_eq_some_iff.1 hx;exact⟨hy,by simp⟩
   show Jp _ s v (zF s.length) (i:Int)=_;unfold Jp;rw[if_pos (by rw[fq,bu];omega),gZ hx2.1,zD,jm (by omega),hx2.2]
  ·intro self acc
   show Jp _ s v (zF s.length) (((s.zipIdx 0).length:Nat):Int)=_;unfold Jp;rw[hz,if_neg (by rw[fq,bu];omega)]
 show aiE s v=_;unfold aiE;rw[e,zD];refine congrArg (fun x=>some (x,())) ?_;rw[auT];by_cases hv:v∈s
 ·rw[decide_eq_true hv,decide_eq_true (h2.2 hv)]
 ·rw[decide_eq_false hv,decide_eq_false (fun h=>hv (h2.1 h))]
def nD(a:TA)(r:TR):Bool :=
 iR a && (pZ r && (decide (a.1=r.1) && (if r.2.1≠0 then true else match Eb a with
  | some e=>decide (e=r)
  | none=>if 0<r.2.2.1.length then decide ((r.2.2.1.length:Int)=(a.2.2.1+7) / 8*8) && !decide (true∈r.2.2.1.drop a.2.2.1.toNat) else decide ((r.2.2.2.1.length:Int)=a.2.2.1))))
theorem au1{a:TA}{r:TR}(h:OkA a)(hr:iR a=true)(hs:SmR r)(t:Bool):PD t a.1 a.2.1 a.2.2.1 a.2.2.2.1 a.2.2.2.2.1 a.2.2.2.2.2 r.1 r.2.1 r.2.2.1 r.2.2.2.1 r.2.2.2.2.1 r.2.2.2.2.2 =
  some (!t && (if r.2.1≠0 then true else match Eb a with
  | some e=>decide (e=r)
  | none=>if 0<r.2.2.1.length then decide ((r.2.2.1.length:Int)=(a.2.2.1+7) / 8*8) && !decide (true∈r.2.2.1.drop a.2.2.1.toNat) else decide ((r.2.2.2.1.length:Int)=a.2.2.1)),()):=by
 unfold PD ai4
 cases t with
 | true=>rfl
 | false =>
  rw[if_neg (by decide),Bool.not_false,Bool.true_and];by_cases h0:r.2.1=0
  ·rw[if_neg (by rw[gP];exact fun e=>e h0)]
   simp only[ne_eq,h0,not_true_eq_false,if_false];have he:wI ((a.1,a.2.1,a.2.2.1,a.2.2.2.1,a.2.2.2.2.1,a.2.2.2.2.2),())=r9 (Eb a):=asq h hr;rw[he]
   cases hv:Eb a with
   | some e =>
    have hse:SmR e:=by
     unfold Eb at hv;split at hv
     ·cases hv;exact⟨by show 1≤100000;decide,by show 0≤100000;decide⟩
     ·split at hv
      ·cases hv;exact⟨by show 0≤100000;decide,by show 1≤100000;decide⟩
      ·split at hv
       ·cases hv;exact⟨by show 0≤100000;decide,by show 0≤100000;decide⟩
       ·cases hv
    have e2:=qV (b:=r) hse;rw[<- h0];show zC (wH (e,r,())) _=_;rw[e2];rfl
   | none =>
    have hm0:=h.m0;have hm1:=h.m1;have hb:=hs.b;have hw:=hs.w;show (if gt (zF r.2.2.1.length) 0=true then _ else _)=_;by_cases hbl:0<r.2.2.1.length
    ·rw[if_pos (by rw[jU,bu];omega),if_pos hbl]
     obtain⟨m,hm⟩:=zN hm0;have e1:mul .i64 (quo .i64 (add .i64 (cvt .i64 a.2.2.1) 7) 8) 8=(a.2.2.1+7) / 8*8:=by rw[hm,jr (by omega) (by omega),show (7:Int)=((7:Nat):Int) from rfl,rW (by omega)];have:=qw (i:=m+7) (d:=8) (by omega);rw[show (8:Int)=((8:Nat):Int) from rfl,this,ou (by omega) (by omega)];omega
     rw[e1];by_cases hq:(r.2.2.1.length:Int)=(a.2.2.1+7) / 8*8
     ·rw[if_pos (by rw[fo,bu];exact hq),decide_eq_true hq,jr (by omega) (by omega),hm,l7 (by omega),zD,contains_eq true (by simp;omega),zD,zQ]
      rfl
     ·rw[if_neg (by rw[fo,bu];exact hq),decide_eq_false hq]
      rfl
    ·rw[if_neg (by rw[jU,bu];omega),if_neg hbl,jr (by omega) (by omega)]
     refine congrArg (fun x=>some (x,())) ?_;rw[bu];rw[Bool.eq_iff_iff,fo,decide_eq_true_eq]
  ·rw[if_pos (by rw[gP];exact h0),if_pos h0]
theorem asr{a:TA}{r:TR}(h:OkA a)(hs:SmR r):PE (a,r,())=some (nD a r,()):=by
 show Yt PD a r=_;unfold Yt nD;rw[right_eq h,zD,ady hs,zD]
 cases hr:iR a with
 | false=>rfl
 | true =>
  rw[if_neg (by decide)]
  cases hq:pZ r with
  | false=>rfl
  | true =>
   rw[if_neg (by decide),au1 h hr hs];refine congrArg (fun x=>some (x,())) ?_;have e:(!nei a.1 r.1)=decide (a.1=r.1):=by rw[Bool.eq_iff_iff,Bool.not_eq_true',<- Bool.not_eq_true,gP,decide_eq_true_eq];exact Decidable.not_not
   rw[e];rfl
theorem oO{b:List Int}{c:TR}{ok:Bool}{w:List Int}(h:SmR c):SmR (p8 b c ok w).1:=by
 unfold p8;split
 ·split
  ·exact h
  ·exact xH
 ·exact xH
theorem Lc(b:List Int):SmR (mh b).1:=by
 match b with
 | []=>exact xH
 | [_]=>exact xH
 | x::y::r =>
  show SmR (iT x y r).1;unfold iT;by_cases hl:251<r.length
  ·rw[if_pos hl];exact xH
  ·rw[if_neg hl]
   have sb:SmR (wU x r):=⟨by show (mO r).length≤_;rw[ng];omega,by show 0≤100000;decide⟩;have sw:SmR (pF x r):=⟨by show 0≤100000;decide,by show (iY r).length≤_;rw[rE];omega⟩;have so:SmR (obC x (y::r)):=tJ (fun p q=>⟨by show 1≤100000;decide,by show 0≤100000;decide⟩) _;have su:SmR (owC x (y::r)):=tJ (fun p q=>⟨by show 0≤100000;decide,by show 1≤100000;decide⟩) _;have sc:SmR (ctC x (y::r)):=tJ (fun p q=>⟨by show 0≤100000;decide,by show 0≤100000;decide⟩) _;have se:SmR (exC x y):=⟨by show 0≤100000;decide,by show 0≤100000;decide⟩
   have step:∀{c:Prop} [Decidable c] {A B:TR×Int},SmR A.1->SmR B.1->SmR (if c then A else B).1:=fun {c} _ {A B} h1 h2=>by
    by_cases hc:c
    ·rw[if_pos hc];exact h1
    ·rw[if_neg hc];exact h2
   exact step (step (oO sb) (step (oO sb) (step (oO sw) (step (oO sw) (step (oO sw) (step (oO so) (step (oO su) (step (oO sc) (step (oO sc) xH))))))))) (oO se)
def qx(p:TP)(b:List Int):Option TR:=if p.2.1=2 then AQ p.1 p.2.2.2.2.2.2.1 b else yH p.1 b
theorem Q7{p:TP}{b:List Int}{r:TR}(h:qx p b=some r):SmR r:=by
 unfold qx at h;split at h
 ·unfold AQ at h
  split at h
  ·cases h
  ·split at h
   ·cases h
   ·split at h
    ·cases h
    ·split at h
     ·cases h
     ·cases h;exact Lc _
 ·unfold yH at h
  split at h
  ·cases h
  ·split at h
   ·cases h
   ·split at h
    ·cases h
    ·cases h;exact Lc _
def kV(p:TP)(b:List Int):Option TR:=if p.2.2.2.2.1=true then (qx p b).bind fun r=>if nD p.2.2.2.2.2.1 r=true then some r else none else none
def outT(p:TP):Option TR->Option (TP×TR×Bool×Unit)
 | some r=>some (cr p,r,true,())
 | none=>some (p,zR,false,())
end Go.Proofs.Lx
end
noncomputable section
namespace Pl
open Go Ev Sx
theorem ok8{x:Int}(h:(Lit.int .u8 x).wf=true):0≤x∧x≤255:=by simp[Lit.wf]at h;have e1:IntKind.u8.min=0:=rfl;have e2:IntKind.u8.max=255:=rfl;omega
theorem ok16{x:Int}(h:(Lit.int .u16 x).wf=true):0≤x∧x≤65535:=by simp[Lit.wf]at h;have e1:IntKind.u16.min=0:=rfl;have e2:IntKind.u16.max=65535:=rfl;omega
end Pl
namespace Go.Proofs.Lx
open Go Ev Sx Pl
set_option maxRecDepth 100000
theorem vB:OkA zA:=⟨by decide,by decide,by decide,by decide,by decide,by decide,by decide,by decide,by simp[zA],by decide,by decide⟩
theorem abC{u l t r:Int}(h:vQ u l t r=true):OkP (u,l,t,r,false,zA,0,0,0):=by have h:=of_decide_eq_true h;exact⟨h.1.1,h.1.2,h.2.1,h.2.2.1.1,h.2.2.1.2,h.2.2.2.1,h.2.2.2.2,vB,by show (0:Int)≤0;decide,by show (0:Int)≤65535;decide⟩
end Go.Proofs.Lx
end
noncomputable section
namespace Pl
open Go Ev Sx
theorem mV(y z:Int)(r:List Int):iY (y::z::r)=iX y z::iY r:=by
 unfold iY;have e:(y::z::r).length / 2=r.length / 2+1:=by grind
 rw[e,List.range_succ_eq_map,List.map_cons,List.map_map]
 congr 1
end Pl
namespace Go.Proofs.Lx
open Go Ev Sx Pl
set_option maxRecDepth 100000
theorem tK{x:Int}(h0:0≤x)(h1:x≤65535):iX (x / 256%256) (x%256)=x:=by grind[D9]
theorem wV{x:Int}(h0:0≤x)(h1:x≤65535)(r:List Int):iY (x / 256%256::x%256::r)=x::iY r:=by rw[mV,tK h0 h1]
theorem vC:∀{l:List Int},(∀x∈l,0≤x∧x≤65535)->iY (l.flatMap two)=l
 | [],_=>rfl
 | x::r,h=>by rw[List.flatMap_cons];show iY (x / 256%256::x%256::r.flatMap two)=_;have hx:=h x (by simp);rw[wV hx.1 hx.2,vC fun y hy=>h y (List.mem_cons_of_mem _ hy)]
theorem Ld{t:List Bool}(h:t.length≤8):0≤kM t∧kM t<256:=by have h1:=xE t;have h2:2 ^ t.length≤2 ^ 8:=Nat.pow_le_pow_right (by decide) h;grind
theorem unpack_pack(l:List Bool):(mO (iW l)).take l.length=l:=by
 apply List.ext_getElem?;intro i;rw[List.getElem?_take];by_cases hi:i<l.length
 ·rw[if_pos hi]
  unfold mO;have hm:i<8*(iW l).length:=by grind[rY,gT]
  rw[List.getElem?_map,List.getElem?_range hm,Option.map_some];have hq:i / 8<gT l.length:=by grind[gT]
  have e:(iW l).getD (i / 8) 0=kM ((l.drop (8*(i / 8))).take 8):=by simp_all[iW,zX,List.getElem?_map,List.getElem?_range]
  have hr:=Ld (t:=(l.drop (8*(i / 8))).take 8) (by grind);rw[e,asl hr.1 hr.2 (Nat.mod_lt _ (by decide)),La];have e2:((l.drop (8*(i / 8))).take 8).getD (i%8) false=l[i]:=by grind
  simp_all
 grind
abbrev tup(p:TP):TP:=(p.1,p.2.1,p.2.2.1,p.2.2.2.1,p.2.2.2.2.1,(p.2.2.2.2.2.1.1,p.2.2.2.2.2.1.2.1,p.2.2.2.2.2.1.2.2.1,p.2.2.2.2.2.1.2.2.2.1,p.2.2.2.2.2.1.2.2.2.2.1,p.2.2.2.2.2.1.2.2.2.2.2),p.2.2.2.2.2.2.1,p.2.2.2.2.2.2.2.1,p.2.2.2.2.2.2.2.2)
theorem nS(l:Int){x:Int}(h0:0≤x)(h1:x≤65535):0≤kP l x∧kP l x≤65535:=by grind[kP]
theorem mJ(x:Int):∀y∈two x,0≤y∧y≤255:=by intro y hy;simp[two]at hy;omega
theorem vD(l:List Int):∀y∈l.flatMap two,0≤y∧y≤255:=by intro y hy;obtain⟨x,_,hx⟩:=List.mem_flatMap.1 hy;exact mJ x y hx
theorem G8(l:List Bool):∀y∈iW l,0≤y∧y≤255:=by intro y hy;unfold iW at hy;obtain⟨j,_,rfl⟩:=List.mem_map.1 hy;have:=Ld (t:=(l.drop (8*j)).take 8) (by grind);omega
theorem sj{a:TA}(h:RA a):∀y∈jV a,0≤y∧y≤255:=by
 have app:∀{l r:List Int},(∀y∈l,0≤y∧y≤255)->(∀y∈r,0≤y∧y≤255)->∀y∈l++r,0≤y∧y≤255:=fun h1 h2 y hy=>by grind
 have con:∀{x:Int} {r:List Int},(0≤x∧x≤255)->(∀y∈r,0≤y∧y≤255)->∀y∈x::r,0≤y∧y≤255:=fun h1 h2 y hy=>by grind
 have nil:∀y∈([]:List Int),0≤y∧y≤255:=fun y hy=>by cases hy
 cases h with
 | bits f p n hf h1 h2 =>
  rcases hf with rfl | rfl
  ·show ∀y∈(1:Int)::two p++two n,0≤y∧y≤255
   grind[mJ]
  ·show ∀y∈(2:Int)::two p++two n,0≤y∧y≤255
   grind[mJ]
 | words f p n hf h1 h2 =>
  rcases hf with rfl | rfl
  ·show ∀y∈(3:Int)::two p++two n,0≤y∧y≤255
   grind[mJ]
  ·show ∀y∈(4:Int)::two p++two n,0≤y∧y≤255
   grind[mJ]
 | coil p b =>
  show ∀y∈(5:Int)::two p++two (if b=true then 65280 else 0),0≤y∧y≤255;grind[mJ]
 | word p x =>
  show ∀y∈(6:Int)::two p++[x].flatMap two,0≤y∧y≤255;grind[mJ,vD]
 | coils p l h1 h2 =>
  show ∀y∈(15:Int)::two p++two (l.length:Int)++[(gT l.length:Int)]++iW l,0≤y∧y≤255;exact app (app (app (con (by decide) (mJ p)) (mJ _)) (con (by grind[gT]) nil)) (G8 l)
 | regs p l h1 h2 =>
  show ∀y∈(16:Int)::two p++two (l.length:Int)++[2*(l.length:Int)]++l.flatMap two,0≤y∧y≤255;grind[mJ,vD]
 | swap p n t l h1 h2 h3 h4 =>
  show ∀y∈(23:Int)::two p++two n++two t++two (l.length:Int)++[2*(l.length:Int)]++l.flatMap two,0≤y∧y≤255;exact app (app (app (app (app (con (by decide) (mJ p)) (mJ _)) (mJ _)) (mJ _)) (con (by omega) nil)) (vD l)
theorem aDr{tx unit:Int}{pdu:List Int}(h1:1≤pdu.length)(h2:pdu.length≤253)(ht:0≤tx)(ht2:tx≤65535)(hu:0≤unit)(hu2:unit≤255)(hb:∀y∈pdu,0≤y∧y≤255):FH (kN tx unit pdu,())=some ((tx,unit,pdu),0,()):=by
 have hall:∀y∈kN tx unit pdu,0≤y∧y≤255:=by intro y hy;unfold kN at hy;grind
 rw[xJ (by simp[kN];omega) hall]
 have e:gU (kN tx unit pdu)=((tx,unit,pdu),0):=by
  show (if pdu=[] then _ else if nL 0 0 0 (((pdu.length+1:Nat):Int)%256)=true then if (pdu.length:Int)+1=((pdu.length+1:Nat):Int)%256 then ((iX (tx / 256%256) (tx%256),unit,pdu),0) else (zM,10) else (zM,10))=_;have hne:¬ pdu=[]:=by grind
  have hbg:nL 0 0 0 (((pdu.length+1:Nat):Int)%256)=true:=by
   unfold nL;have q1:lt (((pdu.length+1:Nat):Int)%256) 2=false:=by rw[<- Bool.not_eq_true,fq];omega
   have q2:gt (cvt .i64 (((pdu.length+1:Nat):Int)%256)) 254=false:=by rw[<- Bool.not_eq_true,jU,jr (by omega) (by omega)];omega
   rw[q1,q2];rfl
  rw[if_neg hne,if_pos hbg,if_pos (by omega),tK ht ht2]
 rw[e]
theorem aDs{unit:Int}{pdu:List Int}(h1:1≤pdu.length)(h2:pdu.length≤253)(hu:1≤unit)(hu2:unit≤247):JC (iP (unit::pdu),())=some (unit,pdu,0,()):=by
 rw[Ea];have hs:=AJ (unit::pdu)
 have hc:cutV (iP (unit::pdu))=(unit::pdu,0):=by
  unfold cutV;have hl:=qU (unit::pdu);have e0:(iP (unit::pdu)).length - 2=(unit::pdu).length:=by omega
  have et:(iP (unit::pdu)).take (unit::pdu).length=unit::pdu:=by grind[iP,List.take_left]
  have e1:(iP (unit::pdu)).getD ((iP (unit::pdu)).length - 1) 0=qE (unit::pdu) / 256:=by simp_all[iP,zX,List.getElem?_append_right]
  have e2:(iP (unit::pdu)).getD (unit::pdu).length 0=qE (unit::pdu)%256:=by simp_all[zX,iP,List.getElem?_append_right]
  rw[if_neg (by omega),e0,et,e1,e2,D9 (by omega) (by omega) (by omega) (by omega),if_pos (by omega)]
 simp_all[iC,iP,qU,if_neg,Int,decide_eq_true]
end Go.Proofs.Lx
end
noncomputable section
namespace Go.Proofs.Lx
open Go Ev Sx Pl
set_option maxRecDepth 100000
theorem p9{b:List Int}(h:b.length≤100000):yC (b,())=some (iY b,()):=by
 show Zh P5 b=_;unfold Zh;have hq:quo .i64 (zF b.length) 2=((b.length / 2:Nat):Int):=qw (d:=2) (by omega);rw[hq,fT (by rfl),fT (oz _),zQ,jJ (by omega),kD];unfold P5 iY;refine (wO (mk:=fun i=>(b,zF (b.length / 2),(i:Int),(List.range i).map (fun i=>iX (b.getD (2*i) 0) (b.getD (2*i+1) 0))++(zE (b.length / 2) (0:Int)).drop i)) (N:=b.length / 2) ?_ ?_ (b.length / 2) 0 _ (by omega) (by omega))
 ·intro self i hi
  show P4 _ b (zF (b.length / 2)) (i:Int) _=_;unfold P4;have hm:mul .i64 2 (i:Int)=((2*i:Nat):Int):=by grind[ou]
  have h1:b[2*i]? = some (b[2*i]'(by omega)):=zV (by omega);have h2:b[2*i+1]? = some (b[2*i+1]'(by omega)):=zV (by omega);have ho:((List.range i).map (fun i=>iX (b.getD (2*i) 0) (b.getD (2*i+1) 0))++(zE (b.length / 2) (0:Int)).drop i)[i]? = some (((List.range i).map (fun i=>iX (b.getD (2*i) 0) (b.getD (2*i+1) 0))++(zE (b.length / 2) (0:Int)).drop i)[i]'(by grind)):=zV (by grind);rw[if_pos (by grind[fq,bu]),hm,jm (by omega),gZ h1,gZ h2,gZ ho,jm (by omega),zQ];grind[bor,shl,cvt,iX,CX]
 simp_all[P4,zF,Nat,Int,if_neg,fq,bu,List.drop_of_length_le,List.append_nil]
theorem ast(p x y:Int):tq ((6,p,0,0,[],[]),(0,0,1,false,false),[x,y],())=some ((6,p,0,0,[iX x y],[]),true,()):=by show zC (yC ([x,y],())) (fun z=>some ((6,p,0,0,z.1,[]),true,()))=_;rw[p9 (by simp),zD,mV];rfl
theorem anw(p k:Int)(l:List Bool)(h1:1≤l.length)(h2:l.length≤1968):tq ((15,p,(l.length:Int),0,[],[]),(1968,1968,0,false,true),k::iW l,())=some ((15,p,(l.length:Int),0,[],l),true,()):=by
 have hlen:=rY l;show (if lt (zF (k::iW l).length) 2=true then _ else zC (cut (k::iW l) 1 (zF (k::iW l).length)) (fun y=>zC (Jt (y,())) fun y=>if lt (zF y.1.length) (cvt .i64 (l.length:Int))=true then some ((0,0,0,0,[],[]),false,()) else zC (cut y.1 0 (l.length:Int)) fun y_1=>need (le (l.length:Int) (l.length:Int)) (need (le (l.length:Int) (zF y.1.length)) (some ((15,p,(l.length:Int),0,[],y_1),true,())))))=_;have hN:1≤gT l.length∧gT l.length≤300:=by grind[gT]
 have hu:l.length≤(mO (iW l)).length:=by grind[ng,rY,gT]
 rw[if_neg (by grind[fq,bu,List.length_cons,rY]),l9,zD,CZ (by omega),zD,jr (by omega) (by omega)];simp_all[if_neg,fq,bu,pW,zD,fT,iO,unpack_pack]
theorem asu(p n k:Int)(l:List Int)(h:∀x∈l,0≤x∧x≤65535)(h1:1≤l.length)(h2:l.length≤123):tq ((16,p,n,0,[],[]),(123,0,123,false,true),k::l.flatMap two,())=some ((16,p,n,0,l,[]),true,()):=by have hlen:=yG l;show (if lt (zF (k::l.flatMap two).length) 2=true then _ else zC (cut (k::l.flatMap two) 1 (zF (k::l.flatMap two).length)) (fun y=>zC (yC (y,())) fun y=>some ((16,p,n,0,y.1,[]),true,())))=_;rw[if_neg (by grind[fq,bu,List.length_cons]),l9,zD,p9 (by omega),zD,vC h]
theorem asv(p n t k:Int)(l:List Int)(h:∀x∈l,0≤x∧x≤65535)(h1:1≤l.length)(h2:l.length≤123):tq ((23,p,n,t,[],[]),(125,0,121,true,false),k::l.flatMap two,())=some ((23,p,n,t,l,[]),true,()):=by have hlen:=yG l;show (if lt (zF (k::l.flatMap two).length) 2=true then _ else zC (cut (k::l.flatMap two) 1 (zF (k::l.flatMap two).length)) (fun y=>zC (yC (y,())) fun y=>some ((23,p,n,t,y.1,[]),true,())))=_;rw[if_neg (by grind[fq,bu,List.length_cons]),l9,zD,p9 (by omega),zD,vC h]
theorem tL{f p1 p2 n1 n2:Int}{r:List Int}(hr:r.length≤248){m bb ww:Int}{tt ee:Bool}(hs:shp f=some (m,bb,ww,tt,ee))(hm:gt m 0=true) :
  Ci (f::p1::p2::n1::n2::r,())=Au (iX p1 p2::iX n1 n2::iY r) r 0 0 0 0 m bb ww tt ee f (iX p1 p2) (iX n1 n2) 0:=by
 show yD FJ _=_;unfold yD;rw[if_neg (by grind[fq,bu])];have hg:gt (zF (f::p1::p2::n1::n2::r).length) 253=false:=by rw[<- Bool.not_eq_true,jU,bu];grind
 rw[hg];show Ch Au _ false 0 0 0 0=_;unfold Ch;have ec3:cut (f::p1::p2::n1::n2::r) 3 (zF (f::p1::p2::n1::n2::r).length)=some (n1::n2::r):=l7 (i:=3) (by simp);have ec5:cut (f::p1::p2::n1::n2::r) 5 (zF (f::p1::p2::n1::n2::r).length)=some r:=l7 (i:=5) (by simp);rw[if_neg (by decide),jy,zD,tH,zD];unfold Kn;rw[hs];rw[if_neg (by simp),l9,zD,p9 (by grind),zD,zD,mV,mV,jy,zD,ec3,zD];simp_all[Option.getD,if_pos,at_one,zD]
theorem Q8{f p1 p2 n1 n2:Int}{bb ww:Int}{tt ee:Bool}(hs:shp f=some (0,bb,ww,tt,ee)) :
  Ci ([f,p1,p2,n1,n2],())=Au [iX p1 p2,iX n1 n2] [n1,n2] 0 0 0 0 0 bb ww tt ee f (iX p1 p2) 0 0:=by
 show Ch Au [f,p1,p2,n1,n2] false 0 0 0 0=_;unfold Ch;have ec3:cut [f,p1,p2,n1,n2] 3 (zF [f,p1,p2,n1,n2].length)=some [n1,n2]:=rfl;rw[if_neg (by decide),jy,zD,tH,zD];unfold Kn;rw[hs];rw[if_neg (by simp),l9,zD,p9 (by simp),zD,zD,mV,mV,jy,zD,ec3,zD,if_neg (by simp_all[gt])];rfl
theorem asw{a:TA}(h:OkA a)(hr:iR a=true):Ci (jV a,())=some (a,true,()):=by
 have hra:=lD hr;have hp:=tK h.at0 h.at1;have hn:=tK h.m0 h.m1;have ht:=tK h.t0 h.t1;have hw:=h.w;clear hr h
 cases hra with
 | bits f p n hf h1 h2 =>
  dsimp only at hp hn;rcases hf with rfl | rfl
  ·refine (tL (f:=1) (r:=[]) (by simp) (m:=2000) (bb:=0) (ww:=0) (tt:=false) (ee:=false) rfl rfl).trans ?_
   rw[hp,hn];rfl
  ·refine (tL (f:=2) (r:=[]) (by simp) (m:=2000) (bb:=0) (ww:=0) (tt:=false) (ee:=false) rfl rfl).trans ?_
   rw[hp,hn];rfl
 | words f p n hf h1 h2 =>
  dsimp only at hp hn;rcases hf with rfl | rfl
  ·refine (tL (f:=3) (r:=[]) (by simp) (m:=125) (bb:=0) (ww:=0) (tt:=false) (ee:=false) rfl rfl).trans ?_
   rw[hp,hn];rfl
  ·refine (tL (f:=4) (r:=[]) (by simp) (m:=125) (bb:=0) (ww:=0) (tt:=false) (ee:=false) rfl rfl).trans ?_
   rw[hp,hn];rfl
 | coil p b =>
  dsimp only at hp
  cases b with
  | true =>
   refine (Q8 (f:=5) (n1:=65280 / 256%256) (n2:=65280%256) (bb:=1) (ww:=0) (tt:=false) (ee:=false) rfl).trans ?_;rw[hp];rfl
  | false =>
   refine (Q8 (f:=5) (n1:=0 / 256%256) (n2:=0%256) (bb:=1) (ww:=0) (tt:=false) (ee:=false) rfl).trans ?_;rw[hp];rfl
 | word p x =>
  dsimp only at hp hw;have hx:=hw x (by simp);refine (Q8 (f:=6) (n1:=x / 256%256) (n2:=x%256) (bb:=0) (ww:=1) (tt:=false) (ee:=false) rfl).trans ?_;rw[hp];show zC (tq ((6,p,0,0,[],[]),(0,0,1,false,false),[x / 256%256,x%256],())) (fun y=>some (y.1,y.2.1,()))=_;grind[ast,tK]
 | coils p l h1 h2 =>
  dsimp only at hp hn;have hN:gT l.length≤247:=by grind[gT]
  refine (tL (f:=15) (r:=(gT l.length:Int)::iW l) (by grind[List.length_cons,rY]) (m:=1968) (bb:=1968) (ww:=0) (tt:=false) (ee:=true) rfl rfl).trans ?_;rw[hp,hn];show zC (tq ((15,p,(l.length:Int),0,[],[]),(1968,1968,0,false,true),(gT l.length:Int)::iW l,())) (fun y=>some (y.1,y.2.1,()))=_;grind[anw]
 | regs p l h1 h2 =>
  dsimp only at hp hn hw;refine (tL (f:=16) (r:=2*(l.length:Int)::l.flatMap two) (by grind[List.length_cons,yG]) (m:=123) (bb:=0) (ww:=123) (tt:=false) (ee:=true) rfl rfl).trans ?_;rw[hp,hn];show zC (tq ((16,p,(l.length:Int),0,[],[]),(123,0,123,false,true),2*(l.length:Int)::l.flatMap two,())) (fun y=>some (y.1,y.2.1,()))=_;grind[asu]
 | swap p n t l h1 h2 h3 h4 =>
  dsimp only at hp hn ht hw;refine (tL (f:=23) (r:=t / 256%256::t%256::(l.length:Int) / 256%256::(l.length:Int)%256::2*(l.length:Int)::l.flatMap two) (by grind[List.length_cons,yG]) (m:=125) (bb:=0) (ww:=121) (tt:=true) (ee:=false) rfl rfl).trans ?_;rw[hp,hn,mV,ht];show (if lt (zF (t / 256%256::t%256::(l.length:Int) / 256%256::(l.length:Int)%256::2*(l.length:Int)::l.flatMap two).length) 4=true then some ((0,0,0,0,[],[]),false,()) else zC (cut (t / 256%256::t%256::(l.length:Int) / 256%256::(l.length:Int)%256::2*(l.length:Int)::l.flatMap two) 4 (zF (t / 256%256::t%256::(l.length:Int) / 256%256::(l.length:Int)%256::2*(l.length:Int)::l.flatMap two).length)) (fun y_1=>zC (tq ((23,p,n,t,[],[]),(125,0,121,true,false),y_1,())) (fun y=>some (y.1,y.2.1,()))))=_;have ec:cut (t / 256%256::t%256::(l.length:Int) / 256%256::(l.length:Int)%256::2*(l.length:Int)::l.flatMap two) 4 (zF (t / 256%256::t%256::(l.length:Int) / 256%256::(l.length:Int)%256::2*(l.length:Int)::l.flatMap two).length)=some (2*(l.length:Int)::l.flatMap two):=l7 (i:=4) (by simp);rw[if_neg (by grind[fq,bu,List.length_cons]),ec,zD,asv p n t _ l hw h1 (by omega),zD]
theorem adF{a:TA}(h:OkA a)(hr:iR a=true):Zq (jV a,())=some (a,0,()):=by
 show JI Zp (jV a)=_;unfold JI;have e:pU (jV a,jV a,())=some (true,()):=by show some (eqs (toS (jV a)) (toS (jV a)),())=_;rw[Km.2 rfl]
 rw[asw h hr,zD,if_neg (by simp),Mr h,if_pos hr,zD,if_neg (by simp_all[nei])];dsimp only;rw[e];rfl
structure OkR(r:TR):Prop where
 f0:0≤r.1
 f1:r.1≤255
 e0:0≤r.2.1
 e1:r.2.1≤255
 w:∀x∈r.2.2.2.1,0≤x∧x≤65535
 at0:0≤r.2.2.2.2.1
 at1:r.2.2.2.2.1≤65535
 m0:0≤r.2.2.2.2.2
 m1:r.2.2.2.2.2≤65535
 lb:r.2.2.1.length≤100000
 lw:r.2.2.2.1.length≤100000
inductive RR:TR->Prop where
 | ex (f e:Int) (h0:0≤f) (h:f<128) (h1:1≤e) (h2:e≤4):RR (f,e,[],[],0,0)
 | bits (f:Int) (l:List Bool) (hf:f=1∨f=2) (h1:8≤l.length) (h2:l.length≤2000) (h3:l.length%8=0):RR (f,0,l,[],0,0)
 | words (f:Int) (l:List Int) (hf:f=3∨f=4∨f=23) (h1:1≤l.length) (h2:l.length≤125):RR (f,0,[],l,0,0)
 | coil (b:Bool) (p:Int):RR (5,0,[b],[],p,0)
 | word (x p:Int):RR (6,0,[],[x],p,0)
 | coils (p n:Int) (h1:1≤n) (h2:n≤1968):RR (15,0,[],[],p,n)
 | regs (p n:Int) (h1:1≤n) (h2:n≤123):RR (16,0,[],[],p,n)
theorem G9{f:Int}(h0:0≤f)(h:f<128):rem f 128=f:=by grind[rem,kC]
def kU(r:TR):List Int:=if nei r.2.1 0=true then exB r else if eqi r.1 1=true then Kr r else if eqi r.1 2=true then Kr r else if eqi r.1 3=true then xI r else if eqi r.1 4=true then xI r else if eqi r.1 23=true then xI r else
 if eqi r.1 5=true then obB r else if eqi r.1 6=true then owB r else if eqi r.1 15=true then ctB r else if eqi r.1 16=true then ctB r else []
theorem ni{b:List Int}{c:TR}{ok:Bool}(h:ok=true):p8 b c ok b=(c,0):=by unfold p8;rw[if_pos h,if_pos (Km.2 rfl)]
theorem qW{r:TR}(h:RR r):2≤(kU r).length∧(kU r).length≤253:=by
 cases h with
 | ex f e h0 h h1 h2 =>
  unfold kU;rw[if_pos (by grind[gP])];exact⟨Nat.le.refl,(by decide:2≤253)⟩
 | bits f l hf h1 h2 h3 =>
  have e:kU (f,0,l,[],0,0)=Kr (f,0,l,[],0,0):=by rcases hf with rfl | rfl<;>rfl
  rw[e];show 2≤(f::_::iW l).length∧(f::_::iW l).length≤253;grind[List.length_cons,rY,gT]
 | words f l hf h1 h2 =>
  have e:kU (f,0,[],l,0,0)=xI (f,0,[],l,0,0):=by rcases hf with rfl | rfl | rfl<;>rfl
  rw[e];show 2≤([f,_]++l.flatMap two).length∧([f,_]++l.flatMap two).length≤253;grind[zZ,List.length_cons,List.length_nil,yG]
 | coil b p=>exact⟨(by decide:2≤5),(by decide:5≤253)⟩
 | word x p=>exact⟨(by decide:2≤5),(by decide:5≤253)⟩
 | coils p n h1 h2=>exact⟨(by decide:2≤5),(by decide:5≤253)⟩
 | regs p n h1 h2=>exact⟨(by decide:2≤5),(by decide:5≤253)⟩
theorem vE{p q:Int}(h0:0≤p)(h1:p≤65535)(h2:0≤q)(h3:q≤65535):iY (two p++two q)=[p,q]:=by show iY (p / 256%256::p%256::q / 256%256::q%256::[])=_;rw[wV h0 h1,wV h2 h3];rfl
theorem yI{r:TR}(h:OkR r)(hr:RR r)(ok:pZ r=true):mh (kU r)=(r,0):=by
 have hw:=h.w;have ha:=h.at0;have ha1:=h.at1;have hm:=h.m0;have hm1:=h.m1;clear h
 cases hr with
 | ex f e h0 h h1 h2 =>
  have ea:add .u8 f 128=f+128:=wu8 (by omega) (by omega);have eb:kU (f,e,[],[],0,0)=[f+128,e]:=by unfold kU;rw[if_pos (by grind[gP])];simp_all[exB]
  have ec:exC (f+128) e=(f,e,[],[],0,0):=by grind[exC,rem,kC]
  rw[eb];show iT (f+128) e []=_;unfold iT;rw[if_neg (by decide),if_neg (by grind[fq]),ec];have eB:exB (f,e,[],[],0,0)=[f+128,e]:=by simp_all[exB]
  rw[eB];apply ni;unfold pZ at ok;rw[if_pos (by grind[gP])]at ok;exact ok
 | bits f l hf h1 h2 h3 =>
  have hN:gT l.length≤250:=by grind[gT]
  have hu:mO (iW l)=l:=by grind[unpack_pack,List.take_of_length_le,ng,rY,gT]
  have ec:wU f (iW l)=(f,0,l,[],0,0):=by simp_all[wU]
  rcases hf with rfl | rfl
  ·show iT 1 ((gT l.length:Int)%256) (iW l)=_
   unfold iT;rw[if_neg (by grind[rY]),if_pos (by decide),if_pos (by decide),ec];exact ni ok
  ·show iT 2 ((gT l.length:Int)%256) (iW l)=_
   unfold iT;rw[if_neg (by grind[rY]),if_pos (by decide),if_neg (by decide),if_pos (by decide),ec];exact ni ok
 | words f l hf h1 h2 =>
  have hlen:=yG l;have ec:pF f (l.flatMap two)=(f,0,[],l,0,0):=by simp_all[pF,vC]
  rcases hf with rfl | rfl | rfl
  ·show iT 3 (2*(l.length:Int)%256) (l.flatMap two)=_
   unfold iT;rw[if_neg (by omega),if_pos (by decide),if_neg (by decide),if_neg (by decide),if_pos (by decide),ec];exact ni ok
  ·show iT 4 (2*(l.length:Int)%256) (l.flatMap two)=_
   unfold iT;rw[if_neg (by omega),if_pos (by decide),if_neg (by decide),if_neg (by decide),if_neg (by decide),if_pos (by decide),ec];exact ni ok
  ·show iT 23 (2*(l.length:Int)%256) (l.flatMap two)=_
   unfold iT;rw[if_neg (by omega),if_pos (by decide),if_neg (by decide),if_neg (by decide),if_neg (by decide),if_neg (by decide),if_pos (by decide),ec];exact ni ok
 | coil b p =>
  have ec:obC 5 (two p++two (if b=true then 65280 else 0))=(5,0,[b],[],p,0):=by unfold obC qP;rw[vE ha ha1 (by omega) (by omega)];cases b<;>rfl
  show iT 5 (p / 256%256) (p%256::two (if b=true then 65280 else 0))=_;have eq:(p / 256%256)::(p%256::two (if b=true then 65280 else 0))=two p++two (if b=true then 65280 else 0):=rfl;unfold iT;rw[if_neg (by show ¬ 251<3;decide),if_pos (by decide),if_neg (by decide),if_neg (by decide),if_neg (by decide),if_neg (by decide),if_neg (by decide),if_pos (by decide),eq,ec];exact ni ok
 | word x p =>
  have hx:=hw x (by simp);have ec:owC 6 (two p++two x)=(6,0,[],[x],p,0):=by simp_all[owC,qP,vE]
  show iT 6 (p / 256%256) (p%256::two x)=_;have eq:(p / 256%256)::(p%256::two x)=two p++two x:=rfl;unfold iT;rw[if_neg (by show ¬ 251<3;decide),if_pos (by decide),if_neg (by decide),if_neg (by decide),if_neg (by decide),if_neg (by decide),if_neg (by decide),if_neg (by decide),if_pos (by decide),eq,ec];exact ni ok
 | coils p n h1 h2 =>
  have ec:ctC 15 (two p++two n)=(15,0,[],[],p,n):=by simp_all[ctC,qP,vE]
  show iT 15 (p / 256%256) (p%256::two n)=_;have eq:(p / 256%256)::(p%256::two n)=two p++two n:=rfl;unfold iT;rw[if_neg (by show ¬ 251<3;decide),if_pos (by decide),if_neg (by decide),if_neg (by decide),if_neg (by decide),if_neg (by decide),if_neg (by decide),if_neg (by decide),if_neg (by decide),if_pos (by decide),eq,ec];exact ni ok
 | regs p n h1 h2 =>
  have ec:ctC 16 (two p++two n)=(16,0,[],[],p,n):=by simp_all[ctC,qP,vE]
  show iT 16 (p / 256%256) (p%256::two n)=_;have eq:(p / 256%256)::(p%256::two n)=two p++two n:=rfl;unfold iT;rw[if_neg (by show ¬ 251<3;decide),if_pos (by decide),if_neg (by decide),if_neg (by decide),if_neg (by decide),if_neg (by decide),if_neg (by decide),if_neg (by decide),if_neg (by decide),if_neg (by decide),if_pos (by decide),eq,ec];exact ni ok
theorem AR{c:Bool}{w:Option (List Int×Unit)}{x:List Int}(hw:c=true->w=some (x,())) :
  (if c=true then zC w fun y=>(some (y.1,0,()):Option (As [.sl (.int .u8),.int .i64])) else some ([],13,()))=if c=true then some (x,0,()) else some ([],13,()):=by
 simp_all
abbrev RB:=Option (As [.sl (.int .u8),.int .i64])
theorem oP{c:Bool}{A B:RB}{ra rb:Bool}{xa xb:List Int}(h1:A=if ra=true then some (xa,0,()) else some ([],13,()))(h2:B=if rb=true then some (xb,0,()) else some ([],13,())) :
  (if c=true then A else B)=if (if c=true then ra else rb)=true then some ((if c=true then xa else xb),0,()) else some ([],13,()):=by
 grind
theorem adG{r:TR}(h:SmR r):QO (r,())=if pZ r=true then some (kU r,0,()) else some ([],13,()):=by show amR r=_;unfold amR pZ kU;rw[QX h,Kq h,FZ h,QY h,QZ h,C6 h,C6 h];simp only[zD];have wex:=AR (c:=exR r) (fun _=>adz r);have wbit:=AR (c:=AL r) (fun _=>T4 h);have wword:=AR (c:=rZ r) (fun _=>Q0 h);have wob:=AR (c:=obR r) (fun hc=>adA hc);have wow:=AR (c:=owR r) (fun hc=>adB hc);have wc1:=AR (c:=ctR 1968 r) (fun _=>Q5 1968 r);have wc2:=AR (c:=ctR 123 r) (fun _=>Q5 123 r);exact oP wex (oP wbit (oP wbit (oP wword (oP wword (oP wword (oP wob (oP wow (oP wc1 (oP wc2 rfl)))))))))
theorem xK(b:List Int):∀x∈iY b,0≤x∧x≤65535:=by intro x hx;unfold iY at hx;obtain⟨i,_,rfl⟩:=List.mem_map.1 hx;have:=QW (b.getD (2*i) 0) (b.getD (2*i+1) 0);omega
theorem SI{f p n t:Int}(hf:0≤f∧f≤255)(hp:0≤p∧p≤65535)(hn:0≤n∧n≤65535)(ht:0≤t∧t≤65535)(s:Int×Int×Int×Bool×Bool){rest:List Int}(hl:rest.length≤300) :
  ∃(a:TA) (ok:Bool),tq ((f,p,n,t,[],[]),s,rest,())=some (a,ok,())∧(ok=true->OkA a):=by
 have mkw:∀l:List Int,(∀x∈l,0≤x∧x≤65535)->l.length≤100000->OkA (f,p,n,t,l,[]):=fun l h1 h2=>⟨hf.1,hf.2,hp.1,hp.2,hn.1,hn.2,ht.1,ht.2,h1,h2,Nat.zero_le _⟩;have mkb:∀l:List Bool,l.length≤100000->OkA (f,p,n,t,[],l):=fun l h2=>⟨hf.1,hf.2,hp.1,hp.2,hn.1,hn.2,ht.1,ht.2,(fun x hx=>by cases hx),Nat.zero_le _,h2⟩;show ∃(a:TA) (ok:Bool),Zj akc (f,p,n,t,[],[]) s rest=_∧_;unfold Zj;dsimp only;by_cases h1:eqi (add .i64 s.2.1 s.2.2.1) 0=true
 ·simp_all
 ·rw[if_neg h1]
  by_cases h2:rest.length<2
  ·rw[if_pos (by grind[fq,bu])]
   simp
  ·rw[if_neg (by grind[fq,bu])]
   by_cases h5:eqi f 5=true
   ·rw[if_pos h5]
    match rest,h2 with
    | y::r,_ =>
     rw[jy,zD];exact⟨_,_,rfl,fun _=>mkb [nei y 0] (by simp)⟩
    | [],h2=>simp_all
   ·rw[if_neg h5]
    by_cases h6:eqi f 6=true
    ·rw[if_pos h6,p9 (by omega),zD]
     exact⟨_,_,rfl,fun _=>mkw _ (xK _) (by grind[rE])⟩
    ·rw[if_neg h6]
     match rest,h2 with
     | [],h2=>simp_all
     | y::r,_ =>
      have hr:r.length≤300:=by grind
      by_cases hb:gt s.2.1 0=true
      ·rw[if_pos hb,l9,zD,CZ (by omega),zD]
       dsimp only;rw[jr (by omega) (by omega)];by_cases hlt:lt (zF (mO r).length) n=true
       ·simp_all
       ·rw[if_neg hlt]
        rw[fq,bu,ng]at hlt;obtain⟨k,rfl⟩:=zN hn.1;rw[pW (by grind[ng]),zD,fT (by grind[iO]),fT (by grind[iO,bu,ng])];exact⟨_,_,rfl,fun _=>mkb _ (by grind)⟩
      ·rw[if_neg hb,l9,zD,p9 (by omega),zD]
       exact⟨_,_,rfl,fun _=>mkw _ (xK _) (by grind[rE])⟩
theorem asx{b:List Int}(h:5≤b.length):∃f p1 p2 n1 n2 r,b=f::p1::p2::n1::n2::r:=by
 match b,h with
 | f::p1::p2::n1::n2::r,_=>simp
theorem adH{b:List Int}(hb:∀x∈b,0≤x∧x≤255):∃(a:TA) (ok:Bool),Ci (b,())=some (a,ok,())∧(ok=true->OkA a):=by
 have bad:FJ b true 0 0 0 0=some ((0,0,0,0,[],[]),false,()):=rfl;by_cases h5:b.length<5
 ·refine⟨(0,0,0,0,[],[]),false,?_,fun e=>by cases e⟩
  show yD FJ b=_;unfold yD;rw[if_pos (by grind[fq,bu])];rfl
 ·by_cases h253:253<b.length
  ·refine⟨(0,0,0,0,[],[]),false,?_,fun e=>by cases e⟩
   show yD FJ b=_;unfold yD;rw[if_neg (by grind[fq,bu]),show gt (zF b.length) 253=true from jU.2 (by grind)];rfl
  ·obtain⟨f,p1,p2,n1,n2,r,rfl⟩:=asx (b:=b) (by omega)
   have hf:0≤f∧f≤255:=hb f (by simp);have hr:r.length≤248:=by simp_all
   have hg:gt (zF (f::p1::p2::n1::n2::r).length) 253=false:=by rw[<- Bool.not_eq_true,jU,bu];omega
   have hm0:Ci (f::p1::p2::n1::n2::r,())=Ch Au (f::p1::p2::n1::n2::r) false 0 0 0 0:=by show yD FJ _=_;unfold yD;rw[if_neg (by grind[fq,bu]),hg];rfl
   have ec3:cut (f::p1::p2::n1::n2::r) 3 (zF (f::p1::p2::n1::n2::r).length)=some (n1::n2::r):=l7 (i:=3) (by simp);have ec5:cut (f::p1::p2::n1::n2::r) 5 (zF (f::p1::p2::n1::n2::r).length)=some r:=l7 (i:=5) (by simp);have nn:∀x y,0≤iX x y∧iX x y≤65535:=fun x y=>by have:=QW x y;omega
   have tail:∀(l rest:List Int) (s:Int×Int×Int×Bool×Bool) (n:Int),(∃q,l=iX p1 p2::iX n1 n2::q∧(4≤rest.length->q ≠ []∧∀x∈q,0≤x∧x≤65535))->rest.length≤300->(0≤n∧n≤65535) ->
     ∃(a:TA) (ok:Bool),Au l rest 0 0 0 0 s.1 s.2.1 s.2.2.1 s.2.2.2.1 s.2.2.2.2 f (iX p1 p2) n 0=some (a,ok,())∧(ok=true->OkA a):=by
    rintro l rest s n ⟨q,rfl,hq⟩ hrl hn;have k3:∀(rest:List Int) (t:Int),rest.length≤300->(0≤t∧t≤65535)->∃(a:TA) (ok:Bool),akf rest 0 0 0 0 s.1 s.2.1 s.2.2.1 s.2.2.2.1 s.2.2.2.2 f (iX p1 p2) n t=some (a,ok,())∧(ok=true->OkA a):=fun rest t h1 h2=>by obtain⟨a,ok,e1,e2⟩:=SI hf (nn p1 p2) hn h2 s h1;refine⟨a,ok,?_,e2⟩;show zC (tq ((f,iX p1 p2,n,t,[],[]),s,rest,())) _=_;simp_all
    unfold Au Zo;by_cases ht:s.2.2.2.1=true
    ·rw[if_pos ht]
     by_cases h4:rest.length<4
     ·rw[if_pos (by grind[fq,bu])]
      simp
     ·rw[if_neg (by grind[fq,bu])]
      obtain⟨hq1,hq2⟩:=hq (by omega)
      match q,hq1,hq2 with
      | z::q,_,hq2 =>
       have hat:at? (iX p1 p2::iX n1 n2::z::q) 2=some z:=rfl;rw[hat,zD];have hc:cut rest 4 (zF rest.length)=some (rest.drop 4):=l7 (i:=4) (by omega);rw[hc,zD];exact k3 _ z (by grind) (hq2 z (by simp))
      | [],hq1,_=>simp_all
    simp_all
   rw[hm0];unfold Ch;rw[if_neg (by decide),jy,zD,tH,zD]
   cases hs:shp f with
   | none=>simp
   | some s =>
    dsimp only;rw[if_neg (by simp),l9,zD,p9 (by grind),zD,zD,mV,mV,jy,zD,ec3,zD];have hsd:Kn f=s:=by grind[Kn]
    rw[hsd];have hq4:4≤r.length->iY r ≠ []∧∀x∈iY r,0≤x∧x≤65535:=fun h=>⟨fun e=>by grind[rE],xK r⟩;by_cases hm:gt s.1 0=true
    ·rw[if_pos hm,at_one,zD,ec5,zD]
     exact tail _ r s _ ⟨iY r,rfl,hq4⟩ (by omega) (nn n1 n2)
    ·rw[if_neg hm]
     by_cases h4:4≤(n1::n2::r).length
     ·refine tail _ (n1::n2::r) s 0 ⟨iY r,rfl,fun _=>?_⟩ (by grind) ⟨by decide,by decide⟩
      refine⟨fun e=>?_,xK r⟩;grind[rE]
     ·exact tail _ (n1::n2::r) s 0 ⟨iY r,rfl,fun h=>absurd h h4⟩ (by omega) ⟨by decide,by decide⟩
theorem abD{b:List Int}(hb:∀x∈b,0≤x∧x≤255):∃(a:TA) (e:Int),Zq (b,())=some (a,e,())∧((e=0∧OkA a∧iR a=true∧toS (jV a)=toS b)∨e=12):=by
 obtain⟨a,ok,h1,h2⟩:=adH hb;show ∃(a':TA) (e:Int),JI Zp b=some (a',e,())∧_;unfold JI;rw[h1,zD]
 cases ok with
 | false=>exact⟨_,_,rfl,.inr rfl⟩
 | true =>
  have ha:=h2 rfl;dsimp only;rw[if_neg (by decide),Mr ha]
  cases hr:iR a with
  | false=>exact⟨_,_,rfl,.inr rfl⟩
  | true =>
   rw[if_pos rfl,zD,if_neg (show ¬ nei 0 0=true by decide)];dsimp only;have e:pU (jV a,b,())=some (eqs (toS (jV a)) (toS b),()):=rfl;rw[e,zD]
   cases he:eqs (toS (jV a)) (toS b) with
   | false=>exact⟨_,_,rfl,.inr rfl⟩
   | true=>exact⟨a,0,rfl,.inl ⟨rfl,ha,hr,Km.1 he⟩⟩
theorem anx{f:Int}{b:List Int}(hb:∀x∈f::b,0≤x∧x≤255):∃(a:TA) (e:Int),Cj (f::b,())=some (a,e,())∧((e=0∧OkA a∧iR a=true∧toS (jV a)=toS (f::b))∨((e=1∨e=3)∧a=(f,0,0,0,[],[]))):=by
 obtain⟨a,e,h1,h2⟩:=abD hb;show ∃(a':TA) (e:Int),P6 (f::b)=some (a',e,())∧_;unfold P6;rw[if_neg (by grind[fo,bu,List.length_cons]),h1,zD];dsimp only;rcases h2 with ⟨rfl,ha⟩ | rfl
 ·exact⟨a,0,rfl,.inl ⟨rfl,ha⟩⟩
 ·rw[if_neg (by decide),jy,zD,zD,tH,zD]
  grind
end Go.Proofs.Lx
end
