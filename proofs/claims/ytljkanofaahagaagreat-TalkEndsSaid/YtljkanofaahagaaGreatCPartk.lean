/- Proved in the last of these 15 parts (this is part 11): TalkEnds. Conditions: those of the given statement, and no others. -/
import Derived.Test.YtljkanofaahagaaGreatCPartd
import Derived.Test.YtljkanofaahagaaGreatCPartj
import Derived.Test.YtljkanofaahagaaGreatCParte
set_option linter.unusedVariables false
set_option linter.unusedSimpArgs false
set_option linter.unusedSectionVars false
open Option renaming bind → zC, bind_some → zD
open List renaming replicate → zE, length → zG, getElem?_eq_getElem → zV, getD_eq_getElem?_getD → zX, length_append → zZ, length_replicate → kD
open Int renaming ofNat → zF, toNat → zI, eq_ofNat_of_zero_le → zN, toNat_natCast → zQ, tmod_eq_emod_of_nonneg → kC
open Bool renaming and_eq_true → zO
noncomputable section
namespace Pl
open Go Ev Sx
set_option maxRecDepth 10000
theorem jM{σ R:Type}(F:(σ->Option R)->σ->Option R)(n:Nat)(s:σ):bu F (n+1) s=F (bu F n) s:=rfl
theorem mh{σ R:Type}{F:(σ->Option R)->σ->Option R}{Inv:σ->Prop}{μ:σ->Nat}{G:σ->Option R}
  (step:∀self s,Inv s->(∀s',Inv s'->μ s'<μ s->self s'=G s')->F self s=G s):∀(n:Nat) (s:σ),Inv s->μ s<n->bu F n s=G s
 | 0,s,_,h=>by omega
 | n+1,s,hs,h=>by rw[jM];exact step _ s hs fun s' hs' hlt=>mh step n s' hs' (by omega)
theorem w64{x:Int}(h1:-9223372036854775808≤x)(h2:x≤9223372036854775807):IntKind.i64.wrap x=x:=by simp only[IntKind.wrap,IntKind.signed,IntKind.bits];simp;omega
theorem wu8{x:Int}(h1:0≤x)(h2:x≤255):IntKind.u8.wrap x=x:=by simp only[IntKind.wrap,IntKind.signed,IntKind.bits];simp;omega
theorem Yz{x:Int}(h1:0≤x)(h2:x≤65535):IntKind.u16.wrap x=x:=by simp only[IntKind.wrap,IntKind.signed,IntKind.bits];simp;omega
theorem aqP{x:Int}(h1:0≤x)(h2:x≤4294967295):IntKind.u32.wrap x=x:=by simp only[IntKind.wrap,IntKind.signed,IntKind.bits];simp;omega
theorem jg{a b:Int}(h1:-9223372036854775808≤a+b)(h2:a+b≤9223372036854775807):add .i64 a b=a+b:=w64 h1 h2
theorem lH{a b:Int}(h1:-9223372036854775808≤a - b)(h2:a - b≤9223372036854775807):sub .i64 a b=a - b:=w64 h1 h2
theorem nX{a b:Int}(h1:-9223372036854775808≤a*b)(h2:a*b≤9223372036854775807):mul .i64 a b=a*b:=w64 h1 h2
theorem iI{a:Int}(h1:-9223372036854775808≤a)(h2:a≤9223372036854775807):cvt .i64 a=a:=w64 h1 h2
theorem iD{n:Nat}(h:n<4611686018427387904):add .i64 (n:Int) 1=((n+1:Nat):Int):=by rw[jg (by omega) (by omega)];rfl
theorem qX{n m:Nat}(h:n+m<4611686018427387904):add .i64 (n:Int) (m:Int)=((n+m:Nat):Int):=by rw[jg (by omega) (by omega)];rfl
theorem ay(n:Nat):zF n=(n:Int):=rfl
theorem cu{a b:Int}:lt a b=true↔a<b:=by simp[lt]
theorem gM{a b:Int}:le a b=true↔a≤b:=by simp[le]
theorem gq{a b:Int}:gt a b=true↔b<a:=by simp[gt]
theorem gY{a b:Int}:ge a b=true↔b≤a:=by simp[ge]
theorem dw{a b:Int}:eqi a b=true↔a=b:=by simp[eqi]
theorem fo{a b:Int}:nei a b=true↔a≠b:=by simp[nei]
theorem H7{a b:List UInt8}:eqs a b=true↔a=b:=by simp[eqs]
theorem AO{n:Nat}:small n=true↔n≤1073741824:=by simp[small]
theorem pR(a b:Int):lt a b=decide (a<b):=rfl
theorem le_dec(a b:Int):le a b=decide (a≤b):=rfl
theorem AP(a b:Int):gt a b=decide (b<a):=rfl
theorem aqQ(a b:Int):ge a b=decide (b≤a):=rfl
theorem eu{b:Bool}{β:Type}{k:Option β}(h:b=true):need b k=k:=by unfold need;rw[if_pos h]
theorem iT{n:Nat}{β:Type}{k:Option β}(h:n≤1073741824):need (small n) k=k:=eu (AO.2 h)
theorem fI{α:Type}{s:List α}{i:Nat}{c:α}(h:s[i]? = some c):at? s (i:Int)=some c:=by unfold at?;simp[h]
theorem iG{α:Type}(c:α)(q:List α):at? (c::q) 0=some c:=rfl
theorem drop_nil{α:Type}{s:List α}{i:Nat}(h:s.drop i=[]):s.length≤i:=by have:=congrArg zG h;simp at this;omega
theorem wN{α:Type}{xs:List α}{i j:Nat}(h1:i≤j)(h2:j≤xs.length):cut xs (i:Int) (j:Int)=some ((xs.take j).drop i):=by unfold cut;rw[if_pos ⟨by omega,by omega,by omega⟩];simp
theorem kG{α:Type}{xs:List α}{i:Nat}(h:i≤xs.length):cut xs (i:Int) (zF xs.length)=some (xs.drop i):=by rw[ay,wN h (Nat.le_refl _)];simp
theorem pU{α:Type}{xs:List α}{j:Nat}(h:j≤xs.length):cut xs 0 (j:Int)=some (xs.take j):=by have:=wN (xs:=xs) (Nat.zero_le j) h;simpa using this
theorem Qp{α:Type}(c:α)(q:List α):cut (c::q) 1 (zF (c::q).length)=some q:=by have:=kG (xs:=c::q) (i:=1) (by simp);simpa using this
theorem Og:∀(t:Ty) (x:Vl t),eqV t x x=true:=by
 have hl:∀{α:Type} {f:α->α->Bool},(∀a,f a a=true)->∀x:List α,eqL f x x=true:=fun h x=>by
  induction x with
  | nil=>rfl
  | cons a q ih=>simp[eqL,h,ih]
 intro t
 induction t with
 | int k=>intro x;simp[eqV,eqi]
 | bool=>intro x;simp[eqV,eqb]
 | str=>intro x;simp[eqV,eqs]
 | sl t ih=>intro x;exact hl ih x
 | pr a b iha ihb=>intro x;simp[eqV,iha,ihb]
 | wr a ih=>intro x;exact ih x
 | un=>intro x;rfl
 | ar n t ih=>intro x;exact hl ih x
 | mp k v ihk ihv=>intro x;exact hl (fun a=>by rw[ihk,ihv];rfl) x
theorem eqAs_refl:∀(rs:List Ty) (x:As rs),au rs x x=true
 | [],_=>rfl
 | t::r,x=>by simp[au,Og,eqAs_refl r]
theorem qB{R:Type}{eq:R->R->Bool}(h:∀x,eq x x=true)(a:Option R):amb eq [a,a]=a:=by cases a<;>simp[amb,CS,h]
theorem aqR{R:Type}{eq:R->R->Bool}(h:∀x,eq x x=true)(a:Option R):amb eq [a,a,a]=a:=by cases a<;>simp[amb,CS,h]
end Pl
end
noncomputable section
namespace Pl
open Go Ev Sx
theorem nK{σ R α β:Type}{F:(σ->Option R)->σ->Option R}{mk:Nat->β->σ}{xs:List α}{stp:β->α->β}{fin:β->Option R}(Inv:Nat->β->Prop)
  (hs:∀self i acc x,xs[i]? = some x->Inv i acc->F self (mk i acc)=self (mk (i+1) (stp acc x)))
  (hi:∀i acc x,xs[i]? = some x->Inv i acc->Inv (i+1) (stp acc x))
  (he:∀self acc,Inv xs.length acc->F self (mk xs.length acc)=fin acc) :
  ∀(k i:Nat) (acc:β) (n:Nat),i+k=xs.length->k<n->Inv i acc->bu F n (mk i acc)=fin ((xs.drop i).foldl stp acc)
 | _,_,_,0,_,hn,_=>by omega
 | 0,i,acc,n+1,h,_,hI=>by
  have:i=xs.length:=by omega
  subst this;rw[jM,he _ _ hI,List.drop_length];rfl
 | k+1,i,acc,n+1,h,hn,hI=>by have hx:xs[i]? = some (xs[i]'(by omega)):=zV (by omega);rw[jM,hs _ _ _ _ hx hI,nK Inv hs hi he k (i+1) _ n (by omega) (by omega) (hi _ _ _ hx hI),List.drop_eq_getElem_cons (show i<xs.length by omega)];rfl
def goL{α β R:Type}(body:β->α->(β->Option R)->Option R)(fin:β->Option R):List α->β->Option R
 | [],acc=>fin acc
 | x::r,acc=>body acc x (goL body fin r)
theorem qC{σ R α β:Type}{F:(σ->Option R)->σ->Option R}{mk:Nat->β->σ}{xs:List α}{body:β->α->(β->Option R)->Option R}{fin:β->Option R}
  (hs:∀self i acc x,xs[i]? = some x->F self (mk i acc)=body acc x fun a=>self (mk (i+1) a))
  (he:∀self acc,F self (mk xs.length acc)=fin acc) :
  ∀(k i:Nat) (acc:β) (n:Nat),i+k=xs.length->k<n->bu F n (mk i acc)=goL body fin (xs.drop i) acc
 | _,_,_,0,_,hn=>by omega
 | 0,i,acc,n+1,h,_=>by
  have:i=xs.length:=by omega
  subst this;rw[jM,he,List.drop_length];rfl
 | k+1,i,acc,n+1,h,hn=>by
  have hx:xs[i]? = some (xs[i]'(by omega)):=zV (by omega);rw[jM,hs _ _ _ _ hx,List.drop_eq_getElem_cons (show i<xs.length by omega)];show _=body acc _ (goL body fin (xs.drop (i+1)))
  congr 1
  funext a;exact qC hs he k (i+1) a n (by omega) (by omega)
theorem uT{α β:Type}(f:α->List β):∀(xs:List α) (out:List β),xs.foldl (fun o x=>o++f x) out=out++xs.flatMap f
 | [],out=>by simp
 | x::r,out=>by simp[uT f r]
theorem wr8(x:Int):IntKind.u8.wrap x=x%256:=by simp only[IntKind.wrap,IntKind.signed,IntKind.bits];simp
theorem H8(x:Int):IntKind.u16.wrap x=x%65536:=by simp only[IntKind.wrap,IntKind.signed,IntKind.bits];simp
theorem rO(x:Int):cvt .u8 x=x%256:=wr8 x
theorem BV(x:Int):cvt .u16 x=x%65536:=H8 x
theorem YA(k:IntKind)(x:Int)(hk:8≤k.bits):shr k x 8=x / 256:=by
 unfold shr;have:min (8:Int).toNat k.bits=8:=by have:(8:Int).toNat=8:=rfl;omega
 rw[this,Int.fdiv_eq_ediv_of_nonneg _ (by decide)];rfl
theorem Qq(x:Int):0≤IntKind.u16.wrap x∧IntKind.u16.wrap x<65536:=by rw[H8];omega
theorem ZT(x:Int):0≤lJ .u16 x 15∧lJ .u16 x 15<16:=by
 have h:(BitVec.ofInt IntKind.u16.bits x &&& BitVec.ofInt IntKind.u16.bits 15).toNat≤15:=by rw[BitVec.toNat_and];exact Nat.le_trans Nat.and_le_right (by decide)
 unfold lJ;rw[H8];omega
end Pl
end
noncomputable section
namespace Pl
open Go Ev Sx
theorem lN{σ R:Type}{F:(σ->Option R)->σ->Option R}{mk:Nat->σ}{N:Nat}{r:Option R}(hs:∀self i,i<N->F self (mk i)=self (mk (i+1)))(he:∀self,F self (mk N)=r) :
  ∀(k i n:Nat),i+k=N->k<n->bu F n (mk i)=r
 | _,_,0,_,h=>by omega
 | 0,i,n+1,h,_=>by
  have:i=N:=by omega
  subst this;rw[jM,he]
 | k+1,i,n+1,h,hn=>by rw[jM,hs _ _ (by omega),lN hs he k (i+1) n (by omega) (by omega)]
theorem ZU{α:Type}(p:List α)(x y:α)(q:List α):(p++x::q).set p.length y=p++y::q:=by rw[List.set_append_right _ _ (Nat.le_refl _),Nat.sub_self];rfl
end Pl
end
noncomputable section
namespace Go.Proofs.Lx
open Go Ev Sx Pl
set_option maxRecDepth 100000
def rP:List Int:=[0,52225,55297,5120,61441,15360,10240,58369,40961,27648,30720,46081,20480,39937,34817,17408]
theorem aki:TH ()=some (rP,()):=by kernel_rfl
def tab(i:Int):Int:=rP.getD i.toNat 0
theorem ZV{i:Int}(h0:0≤i)(h1:i<16):at? rP i=some (tab i):=by
 obtain⟨n,rfl⟩:=zN h0;have:n<rP.length:=by show n<16;omega
 have e:rP[n]? = some (rP[n]'this):=zV this;rw[fI e];unfold tab;rw[zQ,zX,e];rfl
def nib(s:Int):Int:=iE .u16 (shr .u16 s 4) (tab (lJ .u16 s 15))
def x9(s c:Int):Int:=nib (nib (iE .u16 s (cvt .u16 c)))
theorem ZW(s c:Int):0≤x9 s c∧x9 s c<65536:=Qq _
theorem step_eq(s c:Int):JD (s,c,rP,())=some (x9 s c,rP,()):=by show ado s c rP=_;unfold ado;have h1:=ZT (iE .u16 s (cvt .u16 c));rw[eu (cu.2 h1.2),ZV h1.1 h1.2,zD,zD];have h2:=ZT (iE .u16 (shr .u16 (iE .u16 s (cvt .u16 c)) 4) (tab (lJ .u16 (iE .u16 s (cvt .u16 c)) 15)));rw[eu (cu.2 h2.2),ZV h2.1 h2.2,zD,zD];rfl
def rQ(b:List Int):Int:=b.foldl x9 65535
theorem DN(b:List Int):0≤rQ b∧rQ b<65536:=by
 unfold rQ
 have:∀(b:List Int) (s:Int),(0≤s∧s<65536)->0≤b.foldl x9 s∧b.foldl x9 s<65536:=by
  intro b
  induction b with
  | nil=>exact fun s h=>h
  | cons c r ih=>exact fun s _=>ih _ (ZW s c)
 exact this b _ (by decide)
theorem ZX{b:List Int}(h:b.length<4611686018427387904):TK (b,())=some (rQ b,()):=by
 show TJ LQ b=_;unfold TJ;rw[aki,zD];rw[eu (by rfl),eu (by rfl)];unfold LQ;refine (nK (xs:=b) (mk:=fun i acc=>(b,acc,zF b.length,(i:Int),rP)) (stp:=x9) (fin:=fun acc=>some (acc,())) (fun _ _=>True) ?_ (fun _ _ _ _ _=>trivial) ?_ b.length 0 65535 _ (by omega) (by omega) trivial).trans ?_
 ·intro self i acc x hx _
  have hi:=(List.getElem?_eq_some_iff.1 hx).1;show F8 _ b acc (zF b.length) (i:Int) rP=_;unfold F8;rw[if_pos (by rw[cu,ay];omega),fI hx,zD,step_eq,zD,iD (by omega)]
 ·intro self acc _
  show F8 _ b acc (zF b.length) (b.length:Int) rP=_;unfold F8;rw[if_neg (by rw[cu,ay];omega)]
 ·rfl
theorem Qr{n:Int}(h:0≤n):iX 0 n=true:=by
 unfold iX;split
 ·rfl
 ·exact decide_eq_true h
theorem mq(n:Int):iX n n=true:=by unfold iX;rw[if_pos rfl]
def two(x:Int):List Int:=[x / 256%256,x%256]
def jT(b:List Int):List Int:=b++[rQ b%256,rQ b / 256]
theorem put_eq{b:List Int}(h:b.length<1000000):Ab (b,())=some (jT b,()):=by
 show TM b=_;unfold TM;have hs:=DN b;have e:add .i64 (zF b.length) 2=((b.length+2:Nat):Int):=by rw[ay];exact qX (m:=2) (by omega)
 rw[ZX (by omega),zD,e,eu (Qr (by omega)),eu (by rw[AO];omega),iT (by omega),iT (by simp;omega),rO,rO,YA _ _ (by decide)];have e2:rQ b / 256%256=rQ b / 256:=by omega
 rw[e2];rfl
abbrev TA:=Int×Int×Int×Int×List Int×List Bool
structure OkA(a:TA):Prop where
 f0:0≤a.1
 f1:a.1≤255
 at0:0≤a.2.1
 at1:a.2.1≤65535
 m0:0≤a.2.2.1
 m1:a.2.2.1≤65535
 t0:0≤a.2.2.2.1
 t1:a.2.2.2.1≤65535
 w:∀x∈a.2.2.2.2.1,0≤x∧x≤65535
 lw:a.2.2.2.2.1.length≤100000
 lb:a.2.2.2.2.2.length≤100000
def shp(f:Int):Option (Int×Int×Int×Bool×Bool) :=
 if eqi 1 f=true then some (2000,0,0,false,false) else if eqi 2 f=true then some (2000,0,0,false,false) else if eqi 3 f=true then some (125,0,0,false,false) else
 if eqi 4 f=true then some (125,0,0,false,false) else if eqi 5 f=true then some (0,1,0,false,false) else if eqi 6 f=true then some (0,0,1,false,false) else
 if eqi 15 f=true then some (1968,1968,0,false,true) else if eqi 16 f=true then some (123,0,123,false,true) else if eqi 23 f=true then some (125,0,121,true,false) else none
def H9(f:Int):Int×Int×Int×Bool×Bool:=(shp f).getD (0,0,0,false,false)
theorem qD(f:Int):xP (f,())=some (H9 f,(shp f).isSome,()):=rfl
theorem ZY(f:Int):((f=1∨f=2)∧shp f=some (2000,0,0,false,false))∨((f=3∨f=4)∧shp f=some (125,0,0,false,false))∨(f=5∧shp f=some (0,1,0,false,false)) ∨
  (f=6∧shp f=some (0,0,1,false,false))∨(f=15∧shp f=some (1968,1968,0,false,true))∨(f=16∧shp f=some (123,0,123,false,true))∨(f=23∧shp f=some (125,0,121,true,false)) ∨
  ((f≠1∧f≠2∧f≠3∧f≠4∧f≠5∧f≠6∧f≠15∧f≠16∧f≠23)∧shp f=none):=by
 by_cases h1:f=1
 ·subst h1;exact .inl ⟨.inl rfl,rfl⟩
 by_cases h2:f=2
 ·subst h2;exact .inl ⟨.inr rfl,rfl⟩
 by_cases h3:f=3
 ·subst h3;exact .inr (.inl ⟨.inl rfl,rfl⟩)
 by_cases h4:f=4
 ·subst h4;exact .inr (.inl ⟨.inr rfl,rfl⟩)
 by_cases h5:f=5
 ·subst h5;exact .inr (.inr (.inl ⟨rfl,rfl⟩))
 by_cases h6:f=6
 ·subst h6;exact .inr (.inr (.inr (.inl ⟨rfl,rfl⟩)))
 by_cases h7:f=15
 ·subst h7;exact .inr (.inr (.inr (.inr (.inl ⟨rfl,rfl⟩))))
 by_cases h8:f=16
 ·subst h8;exact .inr (.inr (.inr (.inr (.inr (.inl ⟨rfl,rfl⟩)))))
 by_cases h9:f=23
 ·subst h9;exact .inr (.inr (.inr (.inr (.inr (.inr (.inl ⟨rfl,rfl⟩))))))
 refine .inr (.inr (.inr (.inr (.inr (.inr (.inr ⟨⟨h1,h2,h3,h4,h5,h6,h7,h8,h9⟩,?_⟩))))));have e:∀n:Int,f≠n->¬ eqi n f=true:=fun n hn h=>hn (dw.1 h).symm;unfold shp;rw[if_neg (e _ h1),if_neg (e _ h2),if_neg (e _ h3),if_neg (e _ h4),if_neg (e _ h5),if_neg (e _ h6),if_neg (e _ h7),if_neg (e _ h8),if_neg (e _ h9)]
def iL(n most:Int):Bool:=if eqi most 0=true then eqi n 0 else if ge n 1=true then le n most else false
theorem AQ(n most:Int):F3 (n,most,())=some (iL n most,()):=by
 show acM n most=_;unfold acM iL;split
 ·rfl
 ·split<;>rfl
def uj(a:TA)(s:Int×Int×Int×Bool×Bool):Bool:=(s.2.2.2.1 || eqi a.2.2.2.1 0) && (iL a.2.2.1 s.1 && (iL (zF a.2.2.2.2.2.length) s.2.1 && (iL (zF a.2.2.2.2.1.length) s.2.2.1 &&
 (!s.2.2.2.2 || eqi (zF a.2.2.2.2.2.length+zF a.2.2.2.2.1.length) a.2.2.1))))
def iq(a:TA):Bool:=match shp a.1 with
 | none=>false
 | some s=>uj a s
theorem akj(t:Bool)(a1 a2 a3 a4:Int)(a5:List Int)(a6:List Bool)(s1 s2 s3:Int)(s4 s5:Bool) :
  Ti t a1 a2 a3 a4 a5 a6 s1 s2 s3 s4 s5=some (!t && (!s5 || eqi (add .i64 (zF a6.length) (zF a5.length)) (cvt .i64 a3)),()):=by
 unfold Ti acS;cases t<;>cases s5<;>rfl
theorem akk(t:Bool)(a1 a2 a3 a4:Int)(a5:List Int)(a6:List Bool)(s1 s2 s3:Int)(s4 s5:Bool) :
  LH t a1 a2 a3 a4 a5 a6 s1 s2 s3 s4 s5=some (!t && (iL (cvt .i64 a3) s1 && (iL (zF a6.length) s2 && (iL (zF a5.length) s3 && (!s5 || eqi (add .i64 (zF a6.length) (zF a5.length)) (cvt .i64 a3))))),()):=by
 unfold LH acR;rw[AQ,AQ,AQ];simp only[zD,akj];cases t<;>cases iL (cvt .i64 a3) s1<;>cases iL (zF a6.length) s2<;>cases iL (zF a5.length) s3<;>rfl
theorem right_eq{a:TA}(h:OkA a):tX (a,())=some (iq a,()):=by
 show Tg LH a=_;unfold Tg;have h1:=h.m0;have h2:=h.m1;have h3:=h.lw;have h4:=h.lb;rw[qD,zD];simp only[akk];rw[iI (by omega) (by omega),jg (by rw[ay,ay];omega) (by rw[ay,ay];omega)];unfold iq H9
 cases shp a.1 with
 | none=>rfl
 | some s =>
  obtain⟨s1,s2,s3,s4,s5⟩:=s;unfold uj;have e:nei a.2.2.2.1 0=!eqi a.2.2.2.1 0:=rfl;rw[e];cases s4<;>cases eqi a.2.2.2.1 0<;>rfl
theorem ZZ{y:Int}:([cvt .u8 (shr .u16 y 8),cvt .u8 y]:List Int)=two y:=by rw[rO,rO,YA _ _ (by decide)];rfl
theorem sF{l out:List Int}(h:out.length+2*l.length≤1000000):mW (l,out,())=some (out++l.flatMap two,()):=by
 show Tp LK l out=_;unfold Tp LK;refine (nK (xs:=l) (mk:=fun i acc=>(l,zF l.length,(i:Int),acc)) (stp:=fun o y=>o++two y) (fin:=fun acc=>some (acc,())) (fun i acc=>acc.length≤out.length+2*i) ?_ ?_ ?_ l.length 0 out _ (by omega) (by omega) (by omega)).trans ?_
 ·intro self i acc x hx hI
  have hi:=(List.getElem?_eq_some_iff.1 hx).1;show F4 _ l (zF l.length) (i:Int) acc=_;unfold F4;rw[if_pos (by rw[cu,ay];omega),fI hx,zD,iT (by omega),ZZ,iD (by omega)]
 ·intro i acc x hx hI
  simp[two];omega
 ·intro self acc _
  show F4 _ l (zF l.length) (l.length:Int) acc=_;unfold F4;rw[if_neg (by rw[cu,ay];omega)]
 ·rw[List.drop_zero,uT]
end Go.Proofs.Lx
end
noncomputable section
namespace Pl
open Go Ev Sx
theorem uk{σ R:Type}{F:(σ->Option R)->σ->Option R}{mk:Nat->σ}{N:Nat}{r:Option R}(hs:∀self i,i<N->F self (mk i)=self (mk (i+1)))(he:∀self,F self (mk N)=r) :
  ∀(k i n:Nat),i+k=N->k<n->bu F n (mk i)=r
 | _,_,0,_,h=>by omega
 | 0,i,n+1,h,_=>by simp_all[jM]
 | k+1,i,n+1,h,hn=>by rw[jM,hs _ _ (by omega),uk hs he k (i+1) n (by omega) (by omega)]
theorem o9{i d:Nat}(hi:i<4611686018427387904):quo .i64 (i:Int) (d:Int)=((i / d:Nat):Int):=by unfold quo;have h:=Nat.div_le_self i d;grind[Int,Nat,Int.ofNat_tdiv,w64]
theorem wO{i d:Nat}:rem (i:Int) (d:Int)=((i%d:Nat):Int):=by rfl
theorem AR{α:Type}{f:Nat->α}{init:List α}{i:Nat}(hi:i<init.length):((List.range i).map f++init.drop i).set i (f i)=(List.range (i+1)).map f++init.drop (i+1):=by rw[List.drop_eq_getElem_cons hi,List.set_append_right _ _ (by simp)];simp only[List.length_map,List.length_range,Nat.sub_self,List.set_cons_zero,List.range_succ,List.map_append,List.map_cons,List.map_nil,List.append_assoc,List.singleton_append]
end Pl
namespace Go.Proofs.Lx
open Go Ev Sx Pl
set_option maxRecDepth 100000
def jv:List Bool->Int
 | []=>0
 | b::r=>(if b=true then 1 else 0)+2*jv r
theorem uU:∀t:List Bool,0≤jv t∧jv t<2 ^ t.length
 | []=>by simp[jv]
 | b::r=>by have:=uU r;grind[List.length_cons,Int.pow_succ,jv]
theorem EH(b:Bool):∀t:List Bool,jv (t++[b])=jv t+(if b=true then 2 ^ t.length else 0)
 | []=>by cases b<;>rfl
 | a::r=>by rw[List.cons_append];unfold jv;rw[EH b r,List.length_cons,Int.pow_succ];cases b<;>simp<;>omega
theorem IU:∀(t:List Bool) (k:Nat),jv t / 2 ^ k%2=(if t.getD k false=true then 1 else 0)
 | [],k=>by simp[jv]
 | b::r,0=>by unfold jv;cases b<;>simp<;>omega
 | b::r,k+1=>by
  have:=IU r k;rw[List.getD_cons_succ,<- this]
  have e:((if b=true then (1:Int) else 0)+2*jv r) / 2 ^ (k+1)=jv r / 2 ^ k:=by
   rw[Int.pow_succ,Int.mul_comm (2 ^ k) 2,<- Int.ediv_ediv_of_nonneg (by decide)]
   congr 1
   split<;>omega
  show ((if b=true then (1:Int) else 0)+2*jv r) / 2 ^ (k+1)%2=_;rw[e]
def fu(n:Nat):Nat:=(n+7) / 8
def nk(bits:List Bool)(i:Nat):List Int:=(List.range (fu bits.length)).map fun j=>jv (((bits.take i).drop (8*j)).take 8)
def gK(bits:List Bool):List Int:=(List.range (fu bits.length)).map fun j=>jv ((bits.drop (8*j)).take 8)
theorem pV(bits:List Bool):(gK bits).length=fu bits.length:=by simp[gK]
theorem Z0(bits:List Bool):nk bits bits.length=gK bits:=by unfold nk gK;simp
theorem YB(bits:List Bool):nk bits 0=zE (fu bits.length) 0:=by simp_all[nk,List.take_zero,List.drop_nil,List.take_nil,jv,List.map_const']
theorem YC{bits:List Bool}{i j:Nat}{y:Bool}(hy:bits[i]? = some y):((bits.take (i+1)).drop (8*j)).take 8=((bits.take i).drop (8*j)).take 8++(if j=i / 8 then [y] else []):=by
 have hi:=(List.getElem?_eq_some_iff.1 hy).1;have e:bits.take (i+1)=bits.take i++[y]:=by grind[List.take_add_one]
 have hl:(bits.take i).length=i:=by grind
 by_cases h:j=i / 8
 ·rw[if_pos h,e,List.drop_append_of_le_length (by omega)]
  grind[zZ,List.length_drop,List.length_singleton,List.take_of_length_le]
 ·rw[if_neg h,List.append_nil]
  grind[List.drop_of_length_le]
theorem YD{bits:List Bool}{i:Nat}{y:Bool}(hy:bits[i]? = some y) :
  ∃v,(nk bits i)[i / 8]? = some v∧0≤v∧v<2 ^ (i%8)∧nk bits (i+1)=(if y=true then (nk bits i).set (i / 8) (v+2 ^ (i%8)) else nk bits i):=by
 have hi:=(List.getElem?_eq_some_iff.1 hy).1;have hm:i / 8<fu bits.length:=by grind[fu]
 have hlen:((((bits.take i).drop (8*(i / 8))).take 8)).length=i%8:=by grind
 refine⟨jv (((bits.take i).drop (8*(i / 8))).take 8),?_,(uU _).1,?_,?_⟩
 ·simp_all[nk,List.getElem?_map,List.getElem?_range]
 ·have:=(uU (((bits.take i).drop (8*(i / 8))).take 8)).2
  simp_all
 ·apply List.ext_getElem?
  intro j;have hj:∀q,(nk bits q)[j]? = if j<fu bits.length then some (jv (((bits.take q).drop (8*j)).take 8)) else none:=by grind[nk,List.getElem?_range,List.getElem?_eq_none]
  rw[hj];by_cases hjm:j<fu bits.length
  ·rw[if_pos hjm,YC hy]
   by_cases hji:j=i / 8
   ·rw[if_pos hji,EH]
    grind
   grind
  grind
theorem an3{v:Int}{k:Nat}(h0:0≤v)(h1:v<2 ^ k)(hk:k<8):bor .u8 v (shl .u8 1 (k:Int))=v+2 ^ k:=by
 have key:∀(k:Fin 8) (v:Fin 128),v.1<2 ^ k.1->bor .u8 (v.1:Int) (shl .u8 1 (k.1:Int))=(v.1:Int)+2 ^ k.1:=by decide +kernel
 obtain⟨n,rfl⟩:=zN h0;have h2:n<2 ^ k:=by grind
 have h3:2 ^ k≤2 ^ 7:=Nat.pow_le_pow_right (by decide) (by omega);exact key ⟨k,hk⟩ ⟨n,by omega⟩ h2
theorem Qs{bits:List Bool}(h:bits.length≤100000):F6 (bits,())=some (gK bits,()):=by
 show Tv LM bits=_
 have hK:LM bits (fu bits.length:Int)=some (gK bits,()):=by
  unfold LM ac1;have hN:fu bits.length≤100000:=by unfold fu;omega
  rw[eu (by rw[gY];omega),eu (mq _),zQ,iT (by omega)];unfold Tw;rw[<- YB,<- Z0];refine uk (mk:=fun i=>(bits,zF bits.length,(i:Int),nk bits i)) (N:=bits.length) ?_ ?_ bits.length 0 _ (by omega) (by omega)
  ·intro self i hi
   have hy:bits[i]? = some (bits[i]'hi):=zV hi;obtain⟨v,hv,h0,h1,e⟩:=YD hy;show F5 _ bits (zF bits.length) (i:Int) (nk bits i)=_;unfold F5;have hq:quo .i64 (i:Int) 8=((i / 8:Nat):Int):=o9 (d:=8) (by omega);have hr:rem (i:Int) 8=((i%8:Nat):Int):=wO (d:=8);rw[if_pos (by rw[cu,ay];omega),fI hy,zD,hq,hr,fI hv,iD (by omega)];simp only[zD];rw[eu (by rw[gY];omega),an3 h0 h1 (Nat.mod_lt _ (by decide)),zQ,e];split<;>rfl
  ·intro self
   show F5 _ bits (zF bits.length) (bits.length:Int) (nk bits bits.length)=_;unfold F5;rw[if_neg (by rw[cu,ay];omega)]
 unfold Tv;have hq:quo .i64 (zF bits.length) 8=((bits.length / 8:Nat):Int):=o9 (d:=8) (by omega);rw[hq];split
 ·rename_i h1
  rw[gq,ay,show rem (bits.length:Int) 8=((bits.length%8:Nat):Int) from wO (d:=8)]at h1;rw[iD (by omega)];have:bits.length / 8+1=fu bits.length:=by unfold fu;omega
  rw[this];exact hK
 ·rename_i h1
  rw[gq,ay,show rem (bits.length:Int) 8=((bits.length%8:Nat):Int) from wO (d:=8)]at h1;have:bits.length / 8=fu bits.length:=by unfold fu;omega
  rw[this];exact hK
def AU(y:Int)(k:Nat):Bool:=eqi (lJ .u8 (shr .u8 y (k:Int)) 1) 1
theorem an4{y:Int}{k:Nat}(h0:0≤y)(h1:y<256)(hk:k<8):AU y k=decide (y / 2 ^ k%2=1):=by
 have key:∀(k:Fin 8) (v:Fin 256),AU (v.1:Int) k.1=decide ((v.1:Int) / 2 ^ k.1%2=1):=by decide +kernel
 obtain⟨n,rfl⟩:=zN h0;exact key ⟨k,hk⟩ ⟨n,by omega⟩
def kR(b:List Int):List Bool:=(List.range (8*b.length)).map fun i=>AU (b.getD (i / 8) 0) (i%8)
theorem AV{b:List Int}(h:b.length≤100000):Gs (b,())=some (kR b,()):=by
 show Vh MY b=_;unfold Vh;have hm:mul .i64 8 (zF b.length)=((8*b.length:Nat):Int):=by grind[nX,ay]
 rw[hm,eu (by rfl),eu (mq _),zQ,iT (by omega),kD];unfold MY kR;refine (uk (mk:=fun i=>(b,zF (8*b.length),(i:Int),(List.range i).map (fun i=>AU (b.getD (i / 8) 0) (i%8))++(zE (8*b.length) false).drop i)) (N:=8*b.length) ?_ ?_ (8*b.length) 0 _ (by omega) (by omega))
 ·intro self i hi
  show MX _ b (zF (8*b.length)) (i:Int) _=_;unfold MX;have hq:quo .i64 (i:Int) 8=((i / 8:Nat):Int):=o9 (d:=8) (by omega);have hr:rem (i:Int) 8=((i%8:Nat):Int):=wO (d:=8);have hlt:i / 8<b.length:=by omega
  have hb:b[i / 8]? = some (b[i / 8]'hlt):=zV hlt;have hlen:((List.range i).map (fun i=>AU (b.getD (i / 8) 0) (i%8))++(zE (8*b.length) false).drop i).length=8*b.length:=by grind
  have ho:((List.range i).map (fun i=>AU (b.getD (i / 8) 0) (i%8))++(zE (8*b.length) false).drop i)[i]? = some (((List.range i).map (fun i=>AU (b.getD (i / 8) 0) (i%8))++(zE (8*b.length) false).drop i)[i]'(by omega)):=zV (by omega);rw[if_pos (by grind[cu,ay]),hq,hr,fI hb,zD,eu (by rfl),fI ho,zD,zD,iD (by omega),zQ];grind[eqi,lJ,u8,shr,Nat,Int,AU,AR]
 simp_all[MX,zF,Nat,Int,if_neg,cu,ay,List.drop_of_length_le,List.append_nil]
end Go.Proofs.Lx
end
noncomputable section
namespace Go.Proofs.Lx
open Go Ev Sx Pl
set_option maxRecDepth 100000
inductive RA:TA->Prop where
 | bits (f p n:Int) (hf:f=1∨f=2) (h1:1≤n) (h2:n≤2000):RA (f,p,n,0,[],[])
 | words (f p n:Int) (hf:f=3∨f=4) (h1:1≤n) (h2:n≤125):RA (f,p,n,0,[],[])
 | coil (p:Int) (b:Bool):RA (5,p,0,0,[],[b])
 | word (p:Int) (x:Int):RA (6,p,0,0,[x],[])
 | coils (p:Int) (l:List Bool) (h1:1≤l.length) (h2:l.length≤1968):RA (15,p,(l.length:Int),0,[],l)
 | regs (p:Int) (l:List Int) (h1:1≤l.length) (h2:l.length≤123):RA (16,p,(l.length:Int),0,l,[])
 | swap (p n t:Int) (l:List Int) (h1:1≤l.length) (h2:l.length≤121) (h3:1≤n) (h4:n≤125):RA (23,p,n,t,l,[])
theorem lQ{n:Int}(h:iL n 0=true):n=0:=dw.1 h
theorem pq{n m:Int}(hm:0<m)(h:iL n m=true):1≤n∧n≤m:=by unfold iL at h;rw[if_neg (by grind[dw])]at h;simp_all[gY,gM]
theorem uo{α:Type}{l:List α}(h:zF l.length=0):l=[]:=by simp_all
theorem len1{α:Type}{l:List α}(h:1≤zF l.length∧zF l.length≤1):∃x,l=[x]:=by grind[ay,List.length_eq_one_iff]
theorem lS{a:TA}(hr:iq a=true):RA a:=by
 obtain⟨f,p,n,t,ws,bs⟩:=a;unfold iq at hr;simp only at hr;rcases ZY f with ⟨hf,e⟩ | ⟨hf,e⟩ | ⟨hf,e⟩ | ⟨hf,e⟩ | ⟨hf,e⟩ | ⟨hf,e⟩ | ⟨hf,e⟩ | ⟨hf,e⟩<;>rw[e]at hr<;>simp only[uj,zO,Bool.false_or,Bool.true_or,Bool.not_false,Bool.not_true,true_and,and_true]at hr
 ·obtain⟨h1,h2,h3,h4⟩:=hr
  have h2:=pq (by decide) h2;rw[dw.1 h1,uo (lQ h3),uo (lQ h4)];exact .bits f p n hf h2.1 h2.2
 ·obtain⟨h1,h2,h3,h4⟩:=hr
  have h2:=pq (by decide) h2;rw[dw.1 h1,uo (lQ h3),uo (lQ h4)];exact .words f p n hf h2.1 h2.2
 ·obtain⟨h1,h2,h3,h4⟩:=hr
  obtain⟨b,rfl⟩:=len1 (pq (by decide) h3);rw[dw.1 h1,lQ h2,uo (lQ h4),hf];exact .coil p b
 ·obtain⟨h1,h2,h3,h4⟩:=hr
  obtain⟨b,rfl⟩:=len1 (pq (by decide) h4);rw[dw.1 h1,lQ h2,uo (lQ h3),hf];exact .word p b
 ·obtain⟨h1,h2,h3,h4,h5⟩:=hr
  have h3:=pq (by decide) h3;have e4:=uo (lQ h4);subst e4;rw[dw.1 h1,<- dw.1 h5,hf];rw[ay]at h3;exact .coils p bs (by omega) (by omega)
 ·obtain⟨h1,h2,h3,h4,h5⟩:=hr
  have h4:=pq (by decide) h4;have e3:=uo (lQ h3);subst e3;have e5:(ws.length:Int)=n:=by simp_all[dw]
  rw[dw.1 h1,<- e5,hf];rw[ay]at h4;exact .regs p ws (by omega) (by omega)
 ·obtain⟨h2,h3,h4⟩:=hr
  have h2:=pq (by decide) h2;have h4:=pq (by decide) h4;rw[uo (lQ h3),hf];rw[ay]at h4;exact .swap p n t ws (by omega) (by omega) h2.1 h2.2
 grind
def jr(a:TA):List Int :=
 if a.1=5 then a.1::two a.2.1++two (if a.2.2.2.2.2.headD false=true then 65280 else 0)
 else if a.1=6 then a.1::two a.2.1++a.2.2.2.2.1.flatMap two
 else if a.1=15 then a.1::two a.2.1++two a.2.2.1++[(fu a.2.2.2.2.2.length:Int)]++gK a.2.2.2.2.2
 else if a.1=16 then a.1::two a.2.1++two a.2.2.1++[2*(a.2.2.2.2.1.length:Int)]++a.2.2.2.2.1.flatMap two
 else if a.1=23 then a.1::two a.2.1++two a.2.2.1++two a.2.2.2.1++two (a.2.2.2.2.1.length:Int)++[2*(a.2.2.2.2.1.length:Int)]++a.2.2.2.2.1.flatMap two
 else a.1::two a.2.1++two a.2.2.1
theorem vW(l:List Int):(l.flatMap two).length=2*l.length:=by
 induction l with
 | nil=>rfl
 | cons x r ih=>grind[zZ,two]
theorem Ia(x:Int):(two x).length=2:=rfl
theorem uq{a:TA}(h:RA a):5≤(jr a).length∧(jr a).length≤253:=by
 cases h with
 | bits f p n hf h1 h2=>rcases hf with rfl | rfl<;>exact⟨Nat.le.refl,(by decide:5≤253)⟩
 | words f p n hf h1 h2=>rcases hf with rfl | rfl<;>exact⟨Nat.le.refl,(by decide:5≤253)⟩
 | coil p b=>exact⟨Nat.le.refl,(by decide:5≤253)⟩
 | word p x=>exact⟨Nat.le.refl,(by decide:5≤253)⟩
 | coils p l h1 h2 =>
  show 5≤((15:Int)::two p++two _++[_]++gK l).length∧((15:Int)::two p++two _++[_]++gK l).length≤253;grind[zZ,List.length_cons,List.length_nil,pV,Ia,fu]
 | regs p l h1 h2 =>
  show 5≤((16:Int)::two p++two _++[_]++l.flatMap two).length∧((16:Int)::two p++two _++[_]++l.flatMap two).length≤253;grind[zZ,List.length_cons,List.length_nil,vW,Ia]
 | swap p n t l h1 h2 h3 h4 =>
  show 5≤((23:Int)::two p++two _++two _++two _++[_]++l.flatMap two).length∧((23:Int)::two p++two _++two _++two _++[_]++l.flatMap two).length≤253;grind[zZ,List.length_cons,List.length_nil,vW,Ia]
abbrev BO:=Option (As [.sl (.int .u8),.int .i64])
theorem bK5(p:Int)(b:Bool)(out:List Int):z8 5 p 0 0 [] [b] 0 1 0 false false out=zC (mW ([if b=true then 65280 else 0],out,())) fun y=>(some (y.1,0,()):BO):=by cases b<;>rfl
theorem bK6(p x:Int)(out:List Int):z8 6 p 0 0 [x] [] 0 0 1 false false out=zC (mW ([x],out,())) fun y=>(some (y.1,0,()):BO):=rfl
theorem aBd(p n:Int)(l:List Bool)(out:List Int):z8 15 p n 0 [] l 1968 1968 0 false true out =
  zC (F6 (l,())) fun y=>need (small (out.length+1)) (need (small ((out++[zF (y.1.length%256)]).length+y.1.length)) (some (out++[zF (y.1.length%256)]++y.1,0,()):BO)):=rfl
theorem aBe(p n:Int)(l out:List Int):z8 16 p n 0 l [] 123 0 123 false true out =
  need (small (out.length+1)) (zC (mW (l,out++[cvt .u8 (mul .i64 2 (zF l.length))],())) fun y=>(some (y.1,0,()):BO)):=rfl
theorem aBf(p n t:Int)(l out:List Int):z8 23 p n t l [] 125 0 121 true false out =
  zC (mW ([t,zF (l.length%65536)],out,())) fun y=>need (small (y.1.length+1)) (zC (mW (l,y.1++[cvt .u8 (mul .i64 2 (zF l.length))],())) fun y=>(some (y.1,0,()):BO)):=rfl
theorem JG(x:Int){out:List Int}(h:out.length≤900000):mW ([x],out,())=some (out++two x,()):=by grind[sF]
theorem JH{a:TA}(h:OkA a):C8 (a,())=if iq a=true then some (jr a,0,()) else some ([],12,()):=by
 show Tz z8 a=_;unfold Tz;rw[right_eq h,zD]
 cases hr:iq a with
 | false=>rfl
 | true =>
  have hra:=lS hr;rw[if_neg (by decide),if_pos rfl,qD,zD];clear hr h;have hin:∀f p:Int,mW ([p],[f],())=some (f::two p,()):=fun f p=>JG p (by simp);have hin2:∀f p n:Int,mW ([n],f::two p,())=some (f::two p++two n,()):=fun f p n=>JG n (by simp[two])
  cases hra with
  | bits f p n hf h1 h2 =>
   rcases hf with rfl | rfl<;>rw[hin,zD,if_pos (by rfl),hin2,zD]
   ·rfl
   rfl
  | words f p n hf h1 h2 =>
   rcases hf with rfl | rfl<;>rw[hin,zD,if_pos (by rfl),hin2,zD]
   ·rfl
   rfl
  | coil p b =>
   rw[hin,zD,if_neg (by show ¬ gt 0 0=true;decide)];exact (bK5 p b _).trans (by rw[JG _ (by simp[two]),zD];rfl)
  | word p x =>
   rw[hin,zD,if_neg (by show ¬ gt 0 0=true;decide)];exact (bK6 p x _).trans (by simp_all[JG,two,zD,jr])
  | coils p l h1 h2 =>
   rw[hin,zD,if_pos (by rfl),hin2,zD];refine (aBd p _ l _).trans ?_;rw[Qs (by omega),zD,iT (by simp[two]),iT (by grind[two,pV,fu])];refine congrArg (fun x=>some (x,0,())) ?_;have e:fu l.length%256=fu l.length:=by grind[fu]
   rw[pV,e];rfl
  | regs p l h1 h2 =>
   rw[hin,zD,if_pos (by rfl),hin2,zD];refine (aBe p _ l _).trans ?_;rw[iT (by simp[two]),nX (by grind) (by grind),rO,sF (by grind[two]),zD];refine congrArg (fun x=>some (x,0,())) ?_;have e:(2*zF l.length)%256=2*(l.length:Int):=by grind
   rw[e];rfl
  | swap p n t l h1 h2 h3 h4 =>
   rw[hin,zD,if_pos (by rfl),hin2,zD];refine (aBf p n t l _).trans ?_;rw[sF (by simp[two]),zD,iT (by simp[two]),nX (by grind) (by grind),rO,sF (by grind[two]),zD];refine congrArg (fun x=>some (x,0,())) ?_;have e:(2*zF l.length)%256=2*(l.length:Int):=by grind
   have e2:zF (l.length%65536)=(l.length:Int):=by grind
   simp_all[jr]
end Go.Proofs.Lx
end
noncomputable section
namespace Pl
open Go Ev Sx
theorem Oh{α β:Type}{s1:List α}{s2:List β}(h:s1.length=s2.length){i:Nat}{x:α×β}(hx:(s1.zip s2)[i]? = some x):s1[i]? = some x.1∧s2[i]? = some x.2:=by grind
theorem EI{α:Type}[DecidableEq α]{ne:α->α->Bool}(hne:∀a b,ne a b=!decide (a=b)):∀(s1 s2:List α),s1.length=s2.length ->
  goL (R:=Bool×Unit) (fun (_:Unit) (x:α×α) k=>if ne x.1 x.2=true then some (false,()) else k ()) (fun _=>some (true,())) (s1.zip s2) ()=some (decide (s1=s2),())
 | [],[],_=>rfl
 | a::r,b::q,h=>by
  rw[List.zip_cons_cons];show (if ne a b=true then some (false,()) else goL _ _ (r.zip q) ())=_;rw[hne];by_cases e:a=b
  ·subst e
   rw[if_neg (by simp),EI hne r q (by simp_all)];simp
  simp_all
end Pl
namespace Go.Proofs.Lx
open Go Ev Sx Pl
set_option maxRecDepth 100000
theorem AX{s1 s2:List Int}(h:s1.length≤1000000):vJ (s1,s2,())=some (decide (s1=s2),()):=by
 show UC Mr s1 s2=_;unfold UC;by_cases hl:s1.length=s2.length
 ·rw[if_neg (by simp_all[fo,ay])]
  unfold Mr;have hz:(s1.zip s2).length=s1.length:=by simp_all
  rw[<- EI (ne:=nei) (fun a b=>by rfl) s1 s2 hl];refine qC (xs:=s1.zip s2) (mk:=fun i _=>(s1,s2,zF s1.length,(i:Int))) ?_ ?_ s1.length 0 () _ (by omega) (by omega)
  ·intro self i acc x hx
   have hi:=(List.getElem?_eq_some_iff.1 hx).1;obtain⟨h1,h2⟩:=Oh hl hx;show Mq _ s1 s2 (zF s1.length) (i:Int)=_;unfold Mq;rw[if_pos (by grind[cu,ay]),fI h1,zD,fI h2,zD,iD (by omega)]
  simp_all[Mq,zF,Nat,Int,if_neg,cu,ay]
 ·rw[if_pos (by grind[fo,ay]),decide_eq_false (fun e=>hl (by rw[e]))]
theorem Z4{s1 s2:List Bool}(h:s1.length≤1000000):MS (s1,s2,())=some (decide (s1=s2),()):=by
 show U7 MR s1 s2=_;unfold U7;by_cases hl:s1.length=s2.length
 ·rw[if_neg (by simp_all[fo,ay])]
  unfold MR;have hz:(s1.zip s2).length=s1.length:=by simp_all
  rw[<- EI (ne:=neb) (fun a b=>by rfl) s1 s2 hl];refine qC (xs:=s1.zip s2) (mk:=fun i _=>(s1,s2,zF s1.length,(i:Int))) ?_ ?_ s1.length 0 () _ (by omega) (by omega)
  ·intro self i acc x hx
   have hi:=(List.getElem?_eq_some_iff.1 hx).1;obtain⟨h1,h2⟩:=Oh hl hx;show MQ _ s1 s2 (zF s1.length) (i:Int)=_;unfold MQ;rw[if_pos (by grind[cu,ay]),fI h1,zD,fI h2,zD,iD (by omega)]
  simp_all[MQ,zF,Nat,Int,if_neg,cu,ay]
 ·rw[if_pos (by grind[fo,ay]),decide_eq_false (fun e=>hl (by rw[e]))]
abbrev BB:=Option (As [.bool])
theorem jw{p:Prop}[Decidable p]{b:Bool}{k:BB}{q:Bool}(h:b=true↔p)(hk:p->k=some (q,())):(if b=true then k else some (false,()))=some (decide p && q,()):=by grind
instance decA5:DecidableEq (Int×Int×Int×List Int×List Bool):=inferInstance
instance decA:DecidableEq TA:=inferInstance
abbrev TP:=Int×Int×Int×Int×Bool×TA×Int×Int×Int
instance decP1:DecidableEq (TA×Int×Int×Int):=inferInstance
instance decP2:DecidableEq (Int×Bool×TA×Int×Int×Int):=inferInstance
instance decP:DecidableEq TP:=inferInstance
theorem Qt{a b:Bool}:eqb a b=true↔a=b:=by cases a<;>cases b<;>decide
theorem mX{s:List Int}(h:s.length≤1000000):lW (s,())=some (s,()):=by
 show acp s=_;unfold acp;split
 ·rename_i h0
  rw[uo (dw.1 h0)];rfl
 grind[iT]
theorem AY{s:List Bool}(h:s.length≤1000000):zU (s,())=some (s,()):=by
 show acH s=_;unfold acH;split
 ·rename_i h0
  rw[uo (dw.1 h0)];rfl
 grind[iT]
def jJ(tx unit:Int)(pdu:List Int):List Int:=[tx / 256%256,tx%256,0,0,0,(pdu.length+1:Nat)%256,unit]++pdu
theorem am6{tx unit:Int}{pdu:List Int}(h1:1≤pdu.length)(h2:pdu.length≤253):LP ((tx,unit,pdu),())=some (jJ tx unit pdu,0,()):=by show TD ade (tx,unit,pdu)=_;unfold TD;rw[if_neg (by grind[cu,ay])];show TC (zF pdu.length) (gt (zF pdu.length) 253) (tx,unit,pdu)=_;unfold TC;dsimp only;have e:add .i64 7 (zF pdu.length)=((7+pdu.length:Nat):Int):=qX (n:=7) (by omega);rw[if_neg (by grind[gq,ay]),e,eu (Qr (by omega)),eu (by grind[AO]),iT (by omega),iT (by omega),rO,rO,rO,YA _ _ (by decide),ay,iD (by omega)];rfl
def qY(link unit tx:Int)(a:TA):List Int:=if link=2 then jJ tx unit (jr a) else jT (unit::jr a)
theorem Qu{unit:Int}{pdu:List Int}(hu:1≤unit)(hu2:unit≤247)(h1:1≤pdu.length)(h2:pdu.length≤253):LV (unit,pdu,())=some (jT (unit::pdu),0,()):=by
 show TT adw unit pdu=_;unfold TT;have e:C9 (unit,())=some (true,()):=by show LU unit=_;simp_all[LU,if_pos,gY,gM]
 rw[e,zD,if_neg (by decide),if_neg (by grind[cu,ay])];show TQ unit pdu (gt (zF pdu.length) 253)=_;unfold TQ;rw[if_neg (by grind[gq,ay]),iT (by omega),put_eq (by grind),zD]
structure OkP(p:TP):Prop where
 u0:1≤p.1
 u1:p.1≤247
 l:p.2.1=1∨p.2.1=2
 t0:1≤p.2.2.1
 t1:p.2.2.1≤100000
 r0:0≤p.2.2.2.1
 r1:p.2.2.2.1≤1000
 a:OkA p.2.2.2.2.2.1
 x0:0≤p.2.2.2.2.2.2.1
 x1:p.2.2.2.2.2.2.1≤65535
def kT(link tx:Int):Int:=if link=2 then (tx+1)%65536 else tx
def sG(p:TP):TP:=(p.1,p.2.1,p.2.2.1,p.2.2.2.1,p.2.2.2.2.1,p.2.2.2.2.2.1,kT p.2.1 p.2.2.2.2.2.2.1,p.2.2.1,p.2.2.2.2.2.2.2.2)
def yc(p:TP):List Int:=qY p.2.1 p.1 (kT p.2.1 p.2.2.2.2.2.2.1) p.2.2.2.2.2.1
theorem yg(b:List Int):(jT b).length=b.length+2:=by simp[jT]
theorem Z5{p:TP}(hr:iq p.2.2.2.2.2.1=true):8≤(yc p).length∧(yc p).length≤260:=by
 have hl:=uq (lS hr);unfold yc qY;split
 ·simp[jJ];omega
 grind[yg]
def zA:TA:=(0,0,0,0,[],[])
def oI(p:TP)(a:TA):TP:=(p.1,p.2.1,p.2.2.1,p.2.2.2.1,true,a,p.2.2.2.2.2.2.1,p.2.2.2.2.2.2.2.1,p.2.2.2.1)
def lI(p:TP):TP:=(p.1,p.2.1,p.2.2.1,p.2.2.2.1,false,zA,p.2.2.2.2.2.2.1,0,0)
def sZ(u l t r:Int):Bool:=decide ((1≤u∧u≤247)∧(l=1∨l=2)∧(1≤t∧t≤100000)∧0≤r∧r≤1000)
def zP:TP:=(0,0,0,0,false,zA,0,0,0)
end Go.Proofs.Lx
end
noncomputable section
namespace Pl
open Go Ev Sx
theorem aBg{y:Int}(h0:0≤y)(h1:y≤255):shl .u16 (cvt .u16 y) 8=256*y:=by
 rw[BV];unfold shl;have:min (8:Int).toNat IntKind.u16.bits=8:=by decide
 grind[H8]
theorem aqS{a b:Int}(ha:0≤a)(ha2:a≤255)(hb:0≤b)(hb':b≤255):bor .u16 (256*a) b=256*a+b:=by
 obtain⟨n,rfl⟩:=zN ha;obtain⟨m,rfl⟩:=zN hb;unfold bor;rw[H8]
 have e1:(BitVec.ofInt IntKind.u16.bits (256*(n:Int))).toNat=256*n:=by
  rw[BitVec.toNat_ofInt];have:((2 ^ IntKind.u16.bits:Nat):Int)=65536:=by decide
  grind
 have e2:(BitVec.ofInt IntKind.u16.bits (m:Int)).toNat=m:=by
  rw[BitVec.toNat_ofInt];have:((2 ^ IntKind.u16.bits:Nat):Int)=65536:=by decide
  grind
 rw[BitVec.toNat_or,e1,e2];have e3:256*n ||| m=256*n+m:=by have:=Nat.two_pow_add_eq_or_of_lt (i:=8) (b:=m) (by omega) n;simp_all
 omega
theorem akl{a b:Int}:bor .u16 a b=bor .u16 b a:=by grind[bor,BitVec.or_comm]
def gP(y z:Int):Int:=bor .u16 (shl .u16 (cvt .u16 y) 8) (cvt .u16 z)
theorem Oi(y z:Int):0≤gP y z∧gP y z<65536:=Qq _
theorem Qv{y z:Int}(h0:0≤y)(h1:y≤255)(h2:0≤z)(h3:z≤255):gP y z=256*y+z:=by unfold gP;rw[aBg h0 h1,BV];grind[aqS]
def gT(b:List Int):List Int:=(List.range (b.length / 2)).map fun i=>gP (b.getD (2*i) 0) (b.getD (2*i+1) 0)
end Pl
namespace Go.Proofs.Lx
open Go Ev Sx Pl
set_option maxRecDepth 100000
abbrev TR:=Int×Int×List Bool×List Int×Int×Int
instance decR5:DecidableEq (Int×List Bool×List Int×Int×Int):=inferInstance
instance decR:DecidableEq TR:=inferInstance
def zR:TR:=(0,0,[],[],0,0)
structure SmR(r:TR):Prop where
 b:r.2.2.1.length≤100000
 w:r.2.2.2.1.length≤100000
theorem uV:SmR zR:=⟨by decide,by decide⟩
theorem oN{a b:TR}(h:SmR a):tZ (a,b,())=some (decide (a=b),()):=by show aft a b=_;unfold aft;have h1:=h.b;have h2:=h.w;rw[AX (by omega),zD,Z4 (by omega),zD];obtain⟨a1,a2,a3,a4,a5,a6⟩:=a;obtain⟨b1,b2,b3,b4,b5,b6⟩:=b;rw[jw (dw) fun _=>jw (dw) fun _=>jw (dw) fun _=>jw (dw) fun _=>jw (p:=a3=b3) (by simp) fun _=>rfl];refine congrArg (fun x=>some (x,())) ?_;grind
def exR(r:TR):Bool:=decide (r.1<128) && (decide (1≤r.2.1) && (decide (r.2.1≤4) && decide (r=(rem r.1 128,r.2.1,[],[],0,0))))
def yh(r:TR):Bool:=decide (8≤r.2.2.1.length) && (decide (r.2.2.1.length≤2000) && (decide (r.2.2.1.length%8=0) && decide (r=(r.1,0,r.2.2.1,[],0,0))))
def pW(r:TR):Bool:=decide (1≤r.2.2.2.1.length) && (decide (r.2.2.2.1.length≤125) && decide (r=(r.1,0,[],r.2.2.2.1,0,0)))
def obR(r:TR):Bool:=decide (r.2.2.1.length=1) && decide (r=(r.1,0,r.2.2.1,[],r.2.2.2.2.1,0))
def owR(r:TR):Bool:=decide (r.2.2.2.1.length=1) && decide (r=(r.1,0,[],r.2.2.2.1,r.2.2.2.2.1,0))
def ctR(k:Int)(r:TR):Bool:=decide (1≤r.2.2.2.2.2) && (decide (r.2.2.2.2.2≤k) && decide (r=(r.1,0,[],[],r.2.2.2.2.1,r.2.2.2.2.2)))
theorem Oj{r:TR}(h:SmR r):Dg ((),r,())=some (exR r,()):=by show afu () r=_;unfold afu exR;have e:jI (r.1,r.2.1,())=some ((rem r.1 128,r.2.1,[],[],0,0),()):=rfl;rw[e,zD,oN h,zD];rw[jw (cu) fun _=>jw (gY) fun _=>jw (gM) fun _=>rfl]
theorem Ib{r:TR}(h:SmR r):vL ((),r,())=some (yh r,()):=by show afw () r=_;unfold afw yh;rw[oN h,zD];rw[jw (p:=8≤r.2.2.1.length) (by grind[gY,ay]) fun _=>jw (p:=r.2.2.1.length≤2000) (by grind[gM,ay]) fun _=>jw (p:=r.2.2.1.length%8=0) (by grind[dw,ay,rem,Int,Nat,wO]) fun _=>rfl]
theorem DR{r:TR}(h:SmR r):wK ((),r,())=some (pW r,()):=by show afy () r=_;unfold afy pW;rw[oN h,zD];rw[jw (p:=1≤r.2.2.2.1.length) (by grind[gY,ay]) fun _=>jw (p:=r.2.2.2.1.length≤125) (by grind[gM,ay]) fun _=>rfl]
theorem Ol{r:TR}(h:SmR r):Dh ((),r,())=some (obR r,()):=by show afA () r=_;unfold afA obR;rw[oN h,zD];rw[jw (p:=r.2.2.1.length=1) (by grind[dw,ay]) fun _=>rfl]
theorem Om{r:TR}(h:SmR r):Di ((),r,())=some (owR r,()):=by show afC () r=_;unfold afC owR;rw[oN h,zD];rw[jw (p:=r.2.2.2.1.length=1) (by grind[dw,ay]) fun _=>rfl]
theorem AZ{r:TR}{k:Int}(h:SmR r):vM (k,r,())=some (ctR k r,()):=by show afE k r=_;unfold afE ctR;rw[oN h,zD];rw[jw (gY) fun _=>jw (gM) fun _=>rfl]
def nL(r:TR):Bool:=if nei r.2.1 0=true then exR r else if eqi r.1 1=true then yh r else if eqi r.1 2=true then yh r else if eqi r.1 3=true then pW r else if eqi r.1 4=true then pW r else if eqi r.1 23=true then pW r else
 if eqi r.1 5=true then obR r else if eqi r.1 6=true then owR r else if eqi r.1 15=true then ctR 1968 r else if eqi r.1 16=true then ctR 123 r else false
theorem Z6{r:TR}(h:SmR r):U8 (r,())=some (nL r,()):=by
 show afG r=_;unfold afG nL;rw[Oj h,Ib h,DR h,Ol h,Om h,AZ h,AZ h];simp only[zD]
 repeat (first | rfl | split)
def exB(r:TR):List Int:=[add .u8 r.1 128,r.2.1]
def Ic(r:TR):List Int:=r.1::(fu r.2.2.1.length:Int)%256::gK r.2.2.1
def uW(r:TR):List Int:=[r.1,2*(r.2.2.2.1.length:Int)%256]++r.2.2.2.1.flatMap two
def obB(r:TR):List Int:=r.1::two r.2.2.2.2.1++two (if r.2.2.1.headD false=true then 65280 else 0)
def owB(r:TR):List Int:=r.1::two r.2.2.2.2.1++two (r.2.2.2.1.headD 0)
def ctB(r:TR):List Int:=r.1::two r.2.2.2.2.1++two r.2.2.2.2.2
theorem qO{l out:List Int}(h:out.length+2*l.length≤1000000):Aj (l,out,())=some (out++l.flatMap two,()):=by
 show Vo M5 l out=_;unfold Vo M5;refine (nK (xs:=l) (mk:=fun i acc=>(l,zF l.length,(i:Int),acc)) (stp:=fun o y=>o++two y) (fin:=fun acc=>some (acc,())) (fun i acc=>acc.length≤out.length+2*i) ?_ ?_ ?_ l.length 0 out _ (by omega) (by omega) (by omega)).trans ?_
 ·intro self i acc x hx hI
  have hi:=(List.getElem?_eq_some_iff.1 hx).1;show M4 _ l (zF l.length) (i:Int) acc=_;unfold M4;rw[if_pos (by grind[cu,ay]),fI hx,zD,iT (by omega),ZZ,iD (by omega)]
 ·grind[two]
 ·simp_all[M4,zF,Int,if_neg,cu,ay]
 ·rw[List.drop_zero,uT]
theorem Z7(r:TR):Gr ((),r,())=some (exB r,()):=rfl
theorem Qw{r:TR}(h:SmR r):Ai ((),r,())=some (Ic r,()):=by show afT () r=_;unfold afT;have hb:=h.b;rw[Qs hb,zD,iT (by grind[pV,fu]),pV];rfl
theorem Oo{r:TR}(h:SmR r):vN ((),r,())=some (uW r,()):=by show af0 () r=_;unfold af0;have hw:=h.w;rw[nX (by grind) (by grind),rO,qO (by grind),zD];rfl
theorem Z8{r:TR}(h:obR r=true):Gw ((),r,())=some (obB r,()):=by
 unfold obR at h;rw[zO]at h;obtain⟨x,hx⟩:=List.length_eq_one_iff.1 (of_decide_eq_true h.1);show Vs M6 () r=_;unfold Vs;rw[hx,iG,zD];have key:∀(v:Int) (r2:Int) (r3:List Bool) (r4:List Int) (r6:Int),M6 v r.1 r2 r3 r4 r.2.2.2.2.1 r6=some (r.1::two r.2.2.2.2.1++two v,()):=fun v r2 r3 r4 r6=>by unfold M6 af6;rw[qO (by simp),zD];simp
 unfold obB;rw[hx]
 cases x with
 | true=>rw[if_pos rfl,key];rfl
 | false=>rw[if_neg (by decide),key];rfl
theorem uw{R:Type}{eq:R->R->Bool}(h:∀x,eq x x=true)(o:R):amb eq [some o,some o]=some o:=by show (if eq o o=true then some o else none)=_;simp_all
theorem eqAs_refl:∀(rs:List Ty) (x:As rs),au rs x x=true
 | [],_=>rfl
 | t::r,x=>by simp_all[eqV,au,Og,eqAs_refl]
theorem Z9{r:TR}(h:owR r=true):Gx ((),r,())=some (owB r,()):=by unfold owR at h;rw[zO]at h;obtain⟨x,hx⟩:=List.length_eq_one_iff.1 (of_decide_eq_true h.1);show af9 () r=_;grind[af9,iG,qO,uw,eqAs_refl,owB]
theorem Ot(k:Int)(r:TR):Ak (k,r,())=some (ctB r,()):=by show agb k r=_;grind[agb,qO,ctB]
theorem yj{b:List Int}(h:b.length≤100000):Gu (b,())=some (gT b,()):=by
 show Vj M3 b=_;unfold Vj;have hq:quo .i64 (zF b.length) 2=((b.length / 2:Nat):Int):=o9 (d:=2) (by omega);rw[hq,eu (by rfl),eu (mq _),zQ,iT (by omega),kD];unfold M3 gT;refine (uk (mk:=fun i=>(b,zF (b.length / 2),(i:Int),(List.range i).map (fun i=>gP (b.getD (2*i) 0) (b.getD (2*i+1) 0))++(zE (b.length / 2) (0:Int)).drop i)) (N:=b.length / 2) ?_ ?_ (b.length / 2) 0 _ (by omega) (by omega))
 ·intro self i hi
  show M0 _ b (zF (b.length / 2)) (i:Int) _=_;unfold M0;have hm:mul .i64 2 (i:Int)=((2*i:Nat):Int):=by grind[nX]
  have h1:b[2*i]? = some (b[2*i]'(by omega)):=zV (by omega);have h2:b[2*i+1]? = some (b[2*i+1]'(by omega)):=zV (by omega);have ho:((List.range i).map (fun i=>gP (b.getD (2*i) 0) (b.getD (2*i+1) 0))++(zE (b.length / 2) (0:Int)).drop i)[i]? = some (((List.range i).map (fun i=>gP (b.getD (2*i) 0) (b.getD (2*i+1) 0))++(zE (b.length / 2) (0:Int)).drop i)[i]'(by grind)):=zV (by grind);rw[if_pos (by grind[cu,ay]),hm,iD (by omega),fI h1,fI h2,fI ho,iD (by omega),zQ];grind[bor,shl,cvt,gP,AR]
 simp_all[M0,zF,Nat,Int,if_neg,cu,ay,List.drop_of_length_le,List.append_nil]
end Go.Proofs.Lx
end
noncomputable section
namespace Go.Proofs.Lx
open Go Ev Sx Pl
set_option maxRecDepth 100000
theorem pz(b:List Int):(gT b).length=b.length / 2:=by simp[gT]
theorem lu(b:List Int):(kR b).length=8*b.length:=by simp[kR]
def exC(x y:Int):TR:=(rem x 128,y,[],[],0,0)
def uy(x:Int)(r:List Int):TR:=(x,0,kR r,[],0,0)
def nu(x:Int)(r:List Int):TR:=(x,0,[],gT r,0,0)
def oJ(f:Int->Int->TR)(r:List Int):TR:=match gT r with
 | p::q::_=>f p q
 | _=>zR
def obC(x:Int):List Int->TR:=oJ fun p q=>(x,0,[eqi q 65280],[],p,0)
def owC(x:Int):List Int->TR:=oJ fun p q=>(x,0,[],[q],p,0)
def ctC(x:Int):List Int->TR:=oJ fun p q=>(x,0,[],[],p,q)
theorem kH{α:Type}(x:α)(r:List α):cut (x::r) 1 (zF (x::r).length)=some r:=Qp x r
theorem Qx{α:Type}(x y:α)(r:List α):cut (x::y::r) 2 (zF (x::y::r).length)=some r:=by have:=kG (xs:=x::y::r) (i:=2) (by simp);simp_all
theorem aqT(x y:Int)(r:List Int):Ve ((),x::y::r,())=some (exC x y,()):=rfl
theorem an5(x y:Int){r:List Int}(h:r.length≤1000):MZ ((),x::y::r,())=some (uy x r,()):=by show afS () (x::y::r)=_;unfold afS;rw[iG,zD,Qx,zD,AV (by omega),zD];rfl
theorem akm(x y:Int){r:List Int}(h:r.length≤1000):Gv ((),x::y::r,())=some (nu x r,()):=by show afX () (x::y::r)=_;unfold afX;rw[iG,zD,Qx,zD,yj (by omega),zD];rfl
theorem yt(l:List Int):(l.length<2∧∀(f:Int->Int->TR),(match l with | p::q::_=>f p q | _=>zR)=zR)∨∃p q r,l=p::q::r:=by
 match l with
 | []=>simp
 | [_]=>simp
 | p::q::r=>simp
theorem at_one{α:Type}(p q:α)(r:List α):at? (p::q::r) 1=some q:=rfl
theorem aqU(x:Int){r:List Int}(h:r.length≤1000):Vq ((),x::r,())=some (obC x r,()):=by
 show af2 () (x::r)=_;unfold af2 obC oJ;rw[kH,zD,yj (by omega),zD];rcases yt (gT r) with ⟨h1,h2⟩ | ⟨p,q,s,h1⟩
 ·dsimp only
  rw[h2,if_pos (by grind[cu,ay])];rfl
 ·dsimp only
  rw[h1,if_neg (by grind[cu,ay]),iG,iG,at_one];rfl
theorem aqV(x:Int){r:List Int}(h:r.length≤1000):Vt ((),x::r,())=some (owC x r,()):=by
 show af7 () (x::r)=_;unfold af7 owC oJ;rw[kH,zD,yj (by omega),zD];rcases yt (gT r) with ⟨h1,h2⟩ | ⟨p,q,s,h1⟩
 ·dsimp only
  rw[h2,if_pos (by grind[cu,ay])];rfl
 ·dsimp only
  rw[h1,if_neg (by grind[cu,ay]),iG,iG,at_one];rfl
theorem aqW(k x:Int){r:List Int}(h:r.length≤1000):M7 (k,x::r,())=some (ctC x r,()):=by
 show aga k (x::r)=_;unfold aga ctC oJ;rw[kH,zD,yj (by omega),zD];rcases yt (gT r) with ⟨h1,h2⟩ | ⟨p,q,s,h1⟩
 ·dsimp only
  rw[h2,if_pos (by grind[cu,ay])];rfl
 ·dsimp only
  rw[h1,if_neg (by grind[cu,ay]),iG,iG,at_one];rfl
theorem qE{f:Int->Int->TR}(h:∀p q,SmR (f p q))(r:List Int):SmR (oJ f r):=by grind[oJ,uV]
def nM(b:List Int)(c:TR)(ok:Bool)(w:List Int):TR×Int:=if ok=true then if eqs (toS w) (toS b)=true then (c,0) else (zR,13) else (zR,13)
theorem wQ{b:List Int}{c:TR}{ok:Bool}{w:List Int}{rd:Option (TR×Unit)}{rt:TR->Option (Bool×Unit)}{wt:TR->Option (List Int×Unit)}(h1:rd=some (c,()))(h2:rt c=some (ok,()))(h3:ok=true->wt c=some (w,())) :
  (zC rd fun y=>zC (rt y.1) fun y_1=>if (!y_1.1)=true then some ((0,0,[],[],0,0),13,()) else zC (wt y.1) fun y_2=>zC (nI (y_2.1,b,())) fun y_3=>if (!y_3.1)=true then some ((0,0,[],[],0,0),13,()) else (some (y.1,0,()):Option (TR×Int×Unit)))=some ((nM b c ok w).1,(nM b c ok w).2,()):=by
 rw[h1,zD,h2,zD];unfold nM
 cases ok with
 | false=>rfl
 | true =>
  rw[if_neg (by decide),h3 rfl,zD,if_pos rfl];show zC (some (eqs (toS w) (toS b),())) _=_;rw[zD];cases eqs (toS w) (toS b)<;>rfl
theorem mR{c:Prop}[Decidable c]{A B:Option (TR×Int×Unit)}{a b:TR×Int}(h1:A=some (a.1,a.2,()))(h2:B=some (b.1,b.2,())):(if c then A else B)=some ((if c then a else b).1,(if c then a else b).2,()):=by grind
def gI(x y:Int)(r:List Int):TR×Int:=if 251<r.length then (zR,13) else if lt x 128=true then
   if eqi x 1=true then nM (x::y::r) (uy x r) (yh (uy x r)) (Ic (uy x r)) else if eqi x 2=true then nM (x::y::r) (uy x r) (yh (uy x r)) (Ic (uy x r)) else
   if eqi x 3=true then nM (x::y::r) (nu x r) (pW (nu x r)) (uW (nu x r)) else if eqi x 4=true then nM (x::y::r) (nu x r) (pW (nu x r)) (uW (nu x r)) else
   if eqi x 23=true then nM (x::y::r) (nu x r) (pW (nu x r)) (uW (nu x r)) else if eqi x 5=true then nM (x::y::r) (obC x (y::r)) (obR (obC x (y::r))) (obB (obC x (y::r))) else
   if eqi x 6=true then nM (x::y::r) (owC x (y::r)) (owR (owC x (y::r))) (owB (owC x (y::r))) else if eqi x 15=true then nM (x::y::r) (ctC x (y::r)) (ctR 1968 (ctC x (y::r))) (ctB (ctC x (y::r))) else
   if eqi x 16=true then nM (x::y::r) (ctC x (y::r)) (ctR 123 (ctC x (y::r))) (ctB (ctC x (y::r))) else (zR,13)
  else nM (x::y::r) (exC x y) (exR (exC x y)) (exB (exC x y))
def kU:List Int->TR×Int
 | x::y::r=>gI x y r
 | _=>(zR,13)
theorem Ou(b:List Int):Gy (b,())=some ((kU b).1,(kU b).2,()):=by
 show Vv Vw b=_;unfold Vv
 match b with
 | []=>rfl
 | [_]=>rfl
 | x::y::r =>
  rw[if_neg (by grind[cu,ay])];show _=some ((gI x y r).1,(gI x y r).2,());unfold Vw agh gI;by_cases hl:251<r.length
  ·rw[if_pos (by grind[gq,ay]),if_pos hl]
   rfl
  ·rw[if_neg (by grind[gq,ay]),if_neg hl,iG,zD,zD]
   have sb:SmR (uy x r):=⟨by show (kR r).length≤_;grind[lu],by show 0≤100000;decide⟩;have sw:SmR (nu x r):=⟨by show 0≤100000;decide,by show (gT r).length≤_;grind[pz]⟩;have so:SmR (obC x (y::r)):=qE (fun p q=>⟨by simp,by simp⟩) _;have su:SmR (owC x (y::r)):=qE (fun p q=>⟨by simp,by simp⟩) _;have sc:SmR (ctC x (y::r)):=qE (fun p q=>⟨by simp,by simp⟩) _;have se:SmR (exC x y):=⟨by show 0≤100000;decide,by show 0≤100000;decide⟩;have hr:(y::r).length≤1000:=by grind
   have kb:=wQ (b:=x::y::r) (rt:=fun c=>vL ((),c,())) (wt:=fun c=>Ai ((),c,())) (an5 x y (by omega)) (Ib sb) (fun _=>Qw sb);have kw:=wQ (b:=x::y::r) (rt:=fun c=>wK ((),c,())) (wt:=fun c=>vN ((),c,())) (akm x y (by omega)) (DR sw) (fun _=>Oo sw);have ko:=wQ (b:=x::y::r) (rt:=fun c=>Dh ((),c,())) (wt:=fun c=>Gw ((),c,())) (aqU x hr) (Ol so) (fun h=>Z8 h);have ku:=wQ (b:=x::y::r) (rt:=fun c=>Di ((),c,())) (wt:=fun c=>Gx ((),c,())) (aqV x hr) (Om su) (fun h=>Z9 h);have kc:=fun k=>wQ (b:=x::y::r) (rt:=fun c=>vM (k,c,())) (wt:=fun c=>Ak (k,c,())) (aqW k x hr) (AZ sc) (fun _=>Ot k _);have ke:=wQ (b:=x::y::r) (rt:=fun c=>Dg ((),c,())) (wt:=fun c=>Gr ((),c,())) (aqT x y r) (Oj se) (fun _=>Z7 _);exact mR (mR kb (mR kb (mR kw (mR kw (mR kw (mR ko (mR ku (mR (kc _) (mR (kc _) rfl))))))))) ke
def cutV(b:List Int):List Int×Int :=
 if b.length<2 then ([],10) else
 if rQ (b.take (b.length - 2))=gP (b.getD (b.length - 1) 0) (b.getD (b.length - 2) 0) then (b.take (b.length - 2),0) else ([],11)
theorem akn{α:Type}{z:α}{n:Nat}{y:List α}(h:y.length=n):List.take (zI (zF (zG (zE n z)))) y++List.drop (0+zG (List.take (zI (zF (zG (zE n z)))) y)) (zE n z)=y:=by grind
theorem aaa{α:Type}{z:α}{n:Nat}{y:List α}(h:n≤y.length):List.take (zI (zF (zG (zE n z)))) y++List.drop (0+zG (List.take (zI (zF (zG (zE n z)))) y)) (zE n z)=y.take n:=by simp_all
theorem an6{b:List Int}(h:b.length≤100000):JE (b,())=some ((cutV b).1,(cutV b).2,()):=by
 show VK b=_;unfold VK cutV;by_cases h2:b.length<2
 ·rw[if_pos (by grind[cu,ay]),if_pos h2]
 ·have e1:sub .i64 (zF b.length) 2=((b.length - 2:Nat):Int):=by grind[lH,ay]
  have g1:b[b.length - 2]? = some (b[b.length - 2]'(by omega)):=zV (by omega);have g2:b[b.length - 2+1]? = some (b[b.length - 2+1]'(by omega)):=zV (by omega);rw[if_neg (by grind[cu,ay]),if_neg h2,e1,pU (by omega),zD,iD (by omega),fI g1,zD,fI g2,zD,ZX (by grind),zD]
  have e2:bor .u16 (cvt .u16 (b[b.length - 2]'(by omega))) (shl .u16 (cvt .u16 (b[b.length - 2+1]'(by omega))) 8)=gP (b.getD (b.length - 1) 0) (b.getD (b.length - 2) 0):=by
   rw[akl];have e3:b.length - 1=b.length - 2+1:=by omega
   rw[e3,zX,zX,g1,g2];rfl
  rw[e2];by_cases hs:rQ (b.take (b.length - 2))=gP (b.getD (b.length - 1) 0) (b.getD (b.length - 2) 0)
  ·rw[if_neg (by simp_all[fo]),if_pos hs,eu (by rfl),eu (mq _),zQ,iT (by omega),eu (by simp_all[gM,kD,ay]),aaa (by omega)]
  simp_all[if_pos,fo,if_neg]
theorem aab(u:Int):C9 (u,())=some (decide (1≤u) && decide (u≤247),()):=by show LU u=_;unfold LU;rw[jw (gY) fun _=>rfl];rfl
def gF(b:List Int):Int×List Int×Int :=
 if b.length<4∨256<b.length then (0,[],10) else
 if (cutV b).2≠0 then (0,[],(cutV b).2) else
 match (cutV b).1 with
 | []=>(0,[],10)
 | x::r=>if (decide (1≤x) && decide (x≤247))=true then (x,r,0) else (0,[],10)
theorem ako{b:List Int}(h:(cutV b).2=0):(cutV b).1.length=b.length - 2:=by unfold cutV at h ⊢;grind
theorem BX(b:List Int):GB (b,())=some ((gF b).1,(gF b).2.1,(gF b).2.2,()):=by
 show VN VO b=_;have K:∀t,VO b t=VM b t:=fun _=>rfl;unfold VN gF;rw[K,K];by_cases h:b.length<4
 ·rw[if_pos (by rw[cu,ay];omega),if_pos (.inl h)]
  rfl
 ·rw[if_neg (by rw[cu,ay];omega)]
  unfold VM;by_cases h2:256<b.length
  ·rw[if_pos (by rw[gq,ay];omega),if_pos (.inr h2)]
  ·rw[if_neg (by rw[gq,ay];omega),if_neg (by omega),an6 (by omega),zD]
   dsimp only;by_cases h3:(cutV b).2=0
   ·rw[if_neg (by rw[fo];exact fun e=>e h3),if_neg (fun e=>e h3)]
    have hl:=ako h3
    match hc:(cutV b).1 with
    | []=>rw[hc]at hl;simp at hl;omega
    | x::r =>
     rw[iG,zD,aab,zD,zD];show _=some ((if (decide (1≤x) && decide (x≤247))=true then (x,r,0) else (0,[],10)).1,(if (decide (1≤x) && decide (x≤247))=true then (x,r,0) else (0,[],10)).2.1,(if (decide (1≤x) && decide (x≤247))=true then (x,r,0) else (0,[],10)).2.2,())
     cases decide (1≤x) && decide (x≤247) with
     | false=>rfl
     | true =>
      have e:cut (x::r) 1 (zF (x::r).length)=some r:=Qp x r;rw[if_neg (by decide),e,zD,eu (by rw[gM];omega),eu (by rw[gM];omega),if_pos rfl]
   ·rw[if_pos (by rw[fo];exact h3),if_pos h3]
def A7(unit:Int)(b:List Int):Option TR :=
 if (gF b).2.2≠0 then none else if (gF b).1≠unit then none else
 if (kU (gF b).2.1).2≠0 then none else some (kU (gF b).2.1).1
def pX:Option TR->Option (TR×Bool×Unit)
 | some r=>some (r,true,())
 | none=>some (zR,false,())
def lT(b2 b3 b4 b5:Int):Bool:=!nei b2 0 && (!nei b3 0 && (!nei b4 0 && (!lt b5 2 && !gt (cvt .i64 b5) 254)))
theorem YE{self:List Int->Int->Option (As [.bool])}{b:List Int}{i y:Int}(hi:i<5)(hl:i<zF b.length)(hy:at? b i=some y) :
  Dj (Dk self) self b i=if nei y 0=true then some (false,()) else self b (add .i64 i 1):=by
 have e5:eqi i 5=false:=by rw[<- Bool.not_eq_true,dw];omega
 unfold Dj;rw[if_pos (by grind[cu]),cu.2 hl];unfold Dk Vy;rw[if_pos rfl,if_pos (cu.2 hi),hy,zD];unfold VB Vz
 cases nei y 0 with
 | true=>rfl
 | false =>
  simp only[e5,Bool.false_eq_true,if_false];rfl
theorem aqX{self:List Int->Int->Option (As [.bool])}{b:List Int}{y:Int}(hl:5<zF b.length)(hy:at? b 5=some y) :
  Dj (Dk self) self b 5=if lt y 2=true then some (false,()) else if gt (cvt .i64 y) 254=true then some (false,()) else self b 6:=by
 unfold Dj;rw[if_pos (by decide),cu.2 hl];unfold Dk Vy;rw[if_pos rfl,if_neg (by decide)];unfold VB Vz;rw[if_neg (by decide),if_pos (by decide),hy,zD,zD];rfl
theorem aac(b0 b1 b2 b3 b4 b5 b6 b7:Int)(r:List Int):VC (b0::b1::b2::b3::b4::b5::b6::b7::r,())=some (lT b2 b3 b4 b5,()):=by
 show VA M8 _=_;unfold VA M8 lT;have hlen:(zF (b0::b1::b2::b3::b4::b5::b6::b7::r).length)=(r.length:Int)+8:=by rfl
 generalize hb:b0::b1::b2::b3::b4::b5::b6::b7::r=b at hlen ⊢;have h2:at? b 2=some b2:=by rw[<- hb];rfl
 have h3:at? b 3=some b3:=by rw[<- hb];rfl
 have h4:at? b 4=some b4:=by rw[<- hb];rfl
 have h5:at? b 5=some b5:=by rw[<- hb];rfl
 have key:∀n:Nat,bu (fun (self:(List Int)×(Int)->Option (As [.bool])) (s:(List Int)×(Int))=>Dj (Dk (fun b i=>self (b,i))) (fun b i=>self (b,i)) s.1 s.2) (n+5) (b,2) =
   some (!nei b2 0 && (!nei b3 0 && (!nei b4 0 && (!lt b5 2 && !gt (cvt .i64 b5) 254))),()):=by
  intro n;rw[jM];refine (YE (by decide) (by omega) h2).trans ?_
  cases nei b2 0 with
  | true=>rfl
  | false =>
   rw[if_neg (by decide),jM];refine (YE (i:=3) (by decide) (by omega) h3).trans ?_
   cases nei b3 0 with
   | true=>rfl
   | false =>
    rw[if_neg (by decide),jM];refine (YE (i:=4) (by decide) (by omega) h4).trans ?_
    cases nei b4 0 with
    | true=>rfl
    | false =>
     rw[if_neg (by decide),jM];refine (aqX (by omega) h5).trans ?_
     cases lt b5 2 with
     | true=>rfl
     | false =>
      cases gt (cvt .i64 b5) 254 with
      | true=>rfl
      | false =>
       rfl
 simp_all
def zM:Int×Int×List Int:=(0,0,[])
def fC:List Int->(Int×Int×List Int)×Int
 | b0::b1::b2::b3::b4::b5::b6::r =>
  if r=[] then (zM,10) else if lT b2 b3 b4 b5=true then if (r.length:Int)+1=b5 then ((gP b0 b1,b6,r),0) else (zM,10) else (zM,10)
 | _=>(zM,10)
theorem uX{b:List Int}(hl:b.length≤100000)(hb:∀x∈b,0≤x∧x≤255):Dl (b,())=some ((fC b).1,(fC b).2,()):=by
 show VG VH b=_;unfold VG;have short:b.length≤7->M9 (b,())=some (zM,0,()):=fun h=>by show Gz VF b=_;unfold Gz;rw[if_pos (by grind[gM,ay])];rfl
 have shortP:b.length≤7->fC b=(zM,10):=fun h=>by
  match b with
  | [] | [_] | [_,_] | [_,_,_] | [_,_,_,_] | [_,_,_,_,_] | [_,_,_,_,_,_]=>rfl
  | [_,_,_,_,_,_,_]=>rfl
  | _::_::_::_::_::_::_::_::_=>simp_all
 by_cases hs:b.length≤7
 ·rw[short hs,shortP hs]
  rfl
 ·match b with
  | [] | [_] | [_,_] | [_,_,_] | [_,_,_,_] | [_,_,_,_,_] | [_,_,_,_,_,_]=>rfl
  | [_,_,_,_,_,_,_]=>rfl
  | b0::b1::b2::b3::b4::b5::b6::b7::r =>
   have h5:=hb b5 (by simp);have hlr:r.length≤100000:=by grind
   have e5:cvt .i64 b5=b5:=iI (by omega) (by omega)
   have hF:M9 (b0::b1::b2::b3::b4::b5::b6::b7::r,())=if lT b2 b3 b4 b5=true then if (r.length:Int)+2<b5 then some (zM,0,()) else some ((gP b0 b1,b6,(b7::r).take (b5 - 1).toNat),6+b5,()) else some (zM,0,()):=by
    show Gz VF _=_;unfold Gz;rw[if_neg (by grind[gM,ay]),aac,zD]
    cases hbg:lT b2 b3 b4 b5 with
    | false=>rfl
    | true =>
     rw[if_pos rfl];have h52:2≤b5:=by unfold lT at hbg;simp only[zO,Bool.not_eq_true',<- Bool.not_eq_true]at hbg;simp_all[cu]
     show VE _ false 0 0=_;unfold VE;have g5:at? (b0::b1::b2::b3::b4::b5::b6::b7::r) 5=some b5:=rfl;have ea:add .i64 6 (cvt .i64 b5)=6+b5:=by grind[jg]
     rw[if_neg (by decide),g5,zD,ea];by_cases hlt:(r.length:Int)+2<b5
     ·rw[if_pos (by grind[cu,ay]),if_pos hlt]
      rfl
     ·have es:sub .i64 (6+b5) 7=(((b5 - 1).toNat:Nat):Int):=by grind[lH]
      have ec:cut (b0::b1::b2::b3::b4::b5::b6::b7::r) 7 (6+b5)=some ((b7::r).take (b5 - 1).toNat):=by
       have:=wN (xs:=b0::b1::b2::b3::b4::b5::b6::b7::r) (i:=7) (j:=7+(b5 - 1).toNat) (by omega) (by grind);have e:((7+(b5 - 1).toNat:Nat):Int)=6+b5:=by omega
       rw[e,Nat.add_comm 7 (b5 - 1).toNat]at this;exact this
      rw[if_neg (by grind[cu,ay]),if_neg hlt,es,eu (by rfl),eu (mq _),zQ,iT (by omega),ec,zD,eu (by simp_all[gM,kD,ay])];have hlen:((b7::r).take (b5 - 1).toNat).length=(b5 - 1).toNat:=by grind
      rw[akn hlen];rfl
   rw[hF];have K:∀(t:Bool) (y1 y2:Int) (y3:List Int),VH t 0 0 (y1,y2,y3)=if t=true then some (zM,10,()) else some ((y1,y2,y3),0,()):=fun t y1 y2 y3=>rfl;show _=some ((fC (b0::b1::b2::b3::b4::b5::b6::b7::r)).1,(fC (b0::b1::b2::b3::b4::b5::b6::b7::r)).2,());unfold fC;dsimp only;have hne:¬ (b7::r=[]):=by simp
   rw[if_neg hne]
   cases hbg:lT b2 b3 b4 b5 with
   | false=>rfl
   | true =>
    simp only[if_true];have h52:2≤b5:=by unfold lT at hbg;simp only[zO,Bool.not_eq_true',<- Bool.not_eq_true]at hbg;simp_all[cu]
    by_cases hlt:(r.length:Int)+2<b5
    ·have hq:¬ (((b7::r).length:Int)+1=b5):=by grind
     rw[if_pos hlt,if_neg hq];rfl
    ·rw[if_neg hlt,zD]
     dsimp only;rw[if_neg (by grind[dw]),K];by_cases he:(r.length:Int)+2=b5
     ·have e1:nei (6+b5) (zF (b0::b1::b2::b3::b4::b5::b6::b7::r).length)=false:=by rw[<- Bool.not_eq_true,fo,ay];grind
      have hq:((b7::r).length:Int)+1=b5:=by grind
      rw[e1,if_pos hq];grind[List.take_of_length_le]
     ·have hq:¬ (((b7::r).length:Int)+1=b5):=by grind
      rw[if_neg hq,if_pos (by grind[fo,ay])]
def A8(unit tx:Int)(b:List Int):Option TR :=
 if (fC b).2≠0 then none else if (fC b).1.2.1≠unit then none else if (fC b).1.1≠tx then none else
 if (kU (fC b).1.2.2).2≠0 then none else some (kU (fC b).1.2.2).1
def BZ(a:TA):Option TR :=
 if a.1=5 then some (5,0,[a.2.2.2.2.2.headD false],[],a.2.1,0) else if a.1=6 then some (6,0,[],[a.2.2.2.2.1.headD 0],a.2.1,0) else
 if a.1=15∨a.1=16 then some (a.1,0,[],[],a.2.1,a.2.2.1) else none
theorem an7{a:TA}(h:OkA a)(hr:iq a=true):uf (a,())=pX (BZ a):=by
 show Gq MU Va a=_;unfold Gq;rw[right_eq h,zD,hr];clear h;have hra:=lS hr;clear hr
 cases hra with
 | bits f p n hf h1 h2=>rcases hf with rfl | rfl<;>rfl
 | words f p n hf h1 h2=>rcases hf with rfl | rfl<;>rfl
 | coil p b=>rfl
 | word p x=>rfl
 | coils p l h1 h2=>rfl
 | regs p l h1 h2=>rfl
 | swap p n t l h1 h2 h3 h4=>rfl
theorem IV(v:Bool):∀(s:List Bool) (n:Nat),∃k:Int,goL (R:=Int×Unit) (fun (_:Unit) (x:Bool×Nat) k=>if eqb v x.1=true then some ((x.2:Int),()) else k ()) (fun _=>some (-1,())) (s.zipIdx n) ()=some (k,())∧(0≤k↔v∈s)
 | [],n=>⟨-1,rfl,by simp⟩
 | a::r,n=>by
  rw[List.zipIdx_cons];obtain⟨k,h1,h2⟩:=IV v r (n+1);by_cases e:v=a
  ·refine⟨(n:Int),?_,by simp[e]⟩
   show (if eqb v a=true then _ else _)=_;rw[if_pos (Qt.2 e)]
  ·refine⟨k,?_,?_⟩
   ·show (if eqb v a=true then _ else _)=_
    rw[if_neg (fun h=>e (Qt.1 h))];exact h1
   ·rw[h2]
    simp[e]
theorem contains_eq{s:List Bool}(v:Bool)(h:s.length≤1000000):Gn (s,v,())=some (decide (v∈s),()):=by
 obtain⟨k,h1,h2⟩:=IV v s 0
 have e:afm (s,v,())=some (k,()):=by
  rw[<- h1];show U4 MP s v=_;unfold U4 MP;have hz:(s.zipIdx 0).length=s.length:=by simp
  refine qC (xs:=s.zipIdx 0) (mk:=fun i _=>(s,v,zF s.length,(i:Int))) ?_ ?_ s.length 0 () _ (by rw[hz];omega) (by omega)
  ·intro self i acc x hx
   have hi:=(List.getElem?_eq_some_iff.1 hx).1;rw[hz]at hi;have hx2:s[i]? = some x.1∧x.2=i:=by rw[List.getElem?_zipIdx]at hx;obtain⟨y,hy,rfl⟩:=Option.map_eq_some_iff.1 hx;exact⟨hy,by simp⟩
   show Gm _ s v (zF s.length) (i:Int)=_;unfold Gm;rw[if_pos (by rw[cu,ay];omega),fI hx2.1,zD,iD (by omega),hx2.2]
  ·intro self acc
   show Gm _ s v (zF s.length) (((s.zipIdx 0).length:Nat):Int)=_;unfold Gm;rw[hz,if_neg (by rw[cu,ay];omega)]
 show afo s v=_;unfold afo;rw[e,zD];refine congrArg (fun x=>some (x,())) ?_;rw[aqQ];by_cases hv:v∈s
 ·rw[decide_eq_true hv,decide_eq_true (h2.2 hv)]
 ·rw[decide_eq_false hv,decide_eq_false (fun h=>hv (h2.1 h))]
def mD(a:TA)(r:TR):Bool :=
 iq a && (nL r && (decide (a.1=r.1) && (if r.2.1≠0 then true else match BZ a with
  | some e=>decide (e=r)
  | none=>if 0<r.2.2.1.length then decide ((r.2.2.1.length:Int)=(a.2.2.1+7) / 8*8) && !decide (true∈r.2.2.1.drop a.2.2.1.toNat) else decide ((r.2.2.2.1.length:Int)=a.2.2.1))))
theorem aqY{a:TA}{r:TR}(h:OkA a)(hr:iq a=true)(hs:SmR r)(t:Bool):MV t a.1 a.2.1 a.2.2.1 a.2.2.2.1 a.2.2.2.2.1 a.2.2.2.2.2 r.1 r.2.1 r.2.2.1 r.2.2.2.1 r.2.2.2.2.1 r.2.2.2.2.2 =
  some (!t && (if r.2.1≠0 then true else match BZ a with
  | some e=>decide (e=r)
  | none=>if 0<r.2.2.1.length then decide ((r.2.2.1.length:Int)=(a.2.2.1+7) / 8*8) && !decide (true∈r.2.2.1.drop a.2.2.1.toNat) else decide ((r.2.2.2.1.length:Int)=a.2.2.1)),()):=by
 unfold MV afO
 cases t with
 | true=>rfl
 | false =>
  rw[if_neg (by decide),Bool.not_false,Bool.true_and];by_cases h0:r.2.1=0
  ·rw[if_neg (by rw[fo];exact fun e=>e h0)]
   simp only[ne_eq,h0,not_true_eq_false,if_false];have he:uf ((a.1,a.2.1,a.2.2.1,a.2.2.2.1,a.2.2.2.2.1,a.2.2.2.2.2),())=pX (BZ a):=an7 h hr;rw[he]
   cases hv:BZ a with
   | some e =>
    have hse:SmR e:=by
     unfold BZ at hv;split at hv
     ·cases hv;exact⟨by show 1≤100000;decide,by show 0≤100000;decide⟩
     ·split at hv
      ·cases hv;exact⟨by show 0≤100000;decide,by show 1≤100000;decide⟩
      ·split at hv
       ·cases hv;exact⟨by show 0≤100000;decide,by show 0≤100000;decide⟩
       ·cases hv
    have e2:=oN (b:=r) hse;rw[<- h0];show zC (tZ (e,r,())) _=_;rw[e2];rfl
   | none =>
    have hm0:=h.m0;have hm1:=h.m1;have hb:=hs.b;have hw:=hs.w;show (if gt (zF r.2.2.1.length) 0=true then _ else _)=_;by_cases hbl:0<r.2.2.1.length
    ·rw[if_pos (by rw[gq,ay];omega),if_pos hbl]
     obtain⟨m,hm⟩:=zN hm0;have e1:mul .i64 (quo .i64 (add .i64 (cvt .i64 a.2.2.1) 7) 8) 8=(a.2.2.1+7) / 8*8:=by rw[hm,iI (by omega) (by omega),show (7:Int)=((7:Nat):Int) from rfl,qX (by omega)];have:=o9 (i:=m+7) (d:=8) (by omega);rw[show (8:Int)=((8:Nat):Int) from rfl,this,nX (by omega) (by omega)];omega
     rw[e1];by_cases hq:(r.2.2.1.length:Int)=(a.2.2.1+7) / 8*8
     ·rw[if_pos (by rw[dw,ay];exact hq),decide_eq_true hq,iI (by omega) (by omega),hm,kG (by omega),zD,contains_eq true (by simp;omega),zD,zQ]
      rfl
     ·rw[if_neg (by rw[dw,ay];exact hq),decide_eq_false hq]
      rfl
    ·rw[if_neg (by rw[gq,ay];omega),if_neg hbl,iI (by omega) (by omega)]
     refine congrArg (fun x=>some (x,())) ?_;rw[ay];rw[Bool.eq_iff_iff,dw,decide_eq_true_eq]
  ·rw[if_pos (by rw[fo];exact h0),if_pos h0]
theorem an8{a:TA}{r:TR}(h:OkA a)(hs:SmR r):MW (a,r,())=some (mD a r,()):=by
 show Vd MV a r=_;unfold Vd mD;rw[right_eq h,zD,Z6 hs,zD]
 cases hr:iq a with
 | false=>rfl
 | true =>
  rw[if_neg (by decide)]
  cases hq:nL r with
  | false=>rfl
  | true =>
   rw[if_neg (by decide),aqY h hr hs];refine congrArg (fun x=>some (x,())) ?_;have e:(!nei a.1 r.1)=decide (a.1=r.1):=by rw[Bool.eq_iff_iff,Bool.not_eq_true',<- Bool.not_eq_true,fo,decide_eq_true_eq];exact Decidable.not_not
   rw[e];rfl
theorem mU{b:List Int}{c:TR}{ok:Bool}{w:List Int}(h:SmR c):SmR (nM b c ok w).1:=by
 unfold nM;split
 ·split
  ·exact h
  ·exact uV
 ·exact uV
theorem IW(b:List Int):SmR (kU b).1:=by
 match b with
 | []=>exact uV
 | [_]=>exact uV
 | x::y::r =>
  show SmR (gI x y r).1;unfold gI;by_cases hl:251<r.length
  ·rw[if_pos hl];exact uV
  ·rw[if_neg hl]
   have sb:SmR (uy x r):=⟨by show (kR r).length≤_;rw[lu];omega,by show 0≤100000;decide⟩;have sw:SmR (nu x r):=⟨by show 0≤100000;decide,by show (gT r).length≤_;rw[pz];omega⟩;have so:SmR (obC x (y::r)):=qE (fun p q=>⟨by show 1≤100000;decide,by show 0≤100000;decide⟩) _;have su:SmR (owC x (y::r)):=qE (fun p q=>⟨by show 0≤100000;decide,by show 1≤100000;decide⟩) _;have sc:SmR (ctC x (y::r)):=qE (fun p q=>⟨by show 0≤100000;decide,by show 0≤100000;decide⟩) _;have se:SmR (exC x y):=⟨by show 0≤100000;decide,by show 0≤100000;decide⟩
   have step:∀{c:Prop} [Decidable c] {A B:TR×Int},SmR A.1->SmR B.1->SmR (if c then A else B).1:=fun {c} _ {A B} h1 h2=>by
    by_cases hc:c
    ·rw[if_pos hc];exact h1
    ·rw[if_neg hc];exact h2
   exact step (step (mU sb) (step (mU sb) (step (mU sw) (step (mU sw) (step (mU sw) (step (mU so) (step (mU su) (step (mU sc) (step (mU sc) uV))))))))) (mU se)
def sH(p:TP)(b:List Int):Option TR:=if p.2.1=2 then A8 p.1 p.2.2.2.2.2.2.1 b else A7 p.1 b
theorem Ov{p:TP}{b:List Int}{r:TR}(h:sH p b=some r):SmR r:=by
 unfold sH at h;split at h
 ·unfold A8 at h
  split at h
  ·cases h
  ·split at h
   ·cases h
   ·split at h
    ·cases h
    ·split at h
     ·cases h
     ·cases h;exact IW _
 ·unfold A7 at h
  split at h
  ·cases h
  ·split at h
   ·cases h
   ·split at h
    ·cases h
    ·cases h;exact IW _
def qP(p:TP)(b:List Int):Option TR:=if p.2.2.2.2.1=true then (sH p b).bind fun r=>if mD p.2.2.2.2.2.1 r=true then some r else none else none
def outT(p:TP):Option TR->Option (TP×TR×Bool×Unit)
 | some r=>some (lI p,r,true,())
 | none=>some (p,zR,false,())
end Go.Proofs.Lx
end
noncomputable section
namespace Pl
open Go Ev Sx
theorem ok8{x:Int}(h:(Lit.int .u8 x).wf=true):0≤x∧x≤255:=by simp[Lit.wf]at h;have e1:IntKind.u8.min=0:=rfl;have e2:IntKind.u8.max=255:=rfl;omega
theorem ok16{x:Int}(h:(Lit.int .u16 x).wf=true):0≤x∧x≤65535:=by simp[Lit.wf]at h;have e1:IntKind.u16.min=0:=rfl;have e2:IntKind.u16.max=65535:=rfl;omega
end Pl
namespace Go.Proofs.Lx
open Go Ev Sx Pl
set_option maxRecDepth 100000
theorem yu:OkA zA:=⟨by decide,by decide,by decide,by decide,by decide,by decide,by decide,by decide,by simp[zA],by decide,by decide⟩
theorem YF{u l t r:Int}(h:sZ u l t r=true):OkP (u,l,t,r,false,zA,0,0,0):=by have h:=of_decide_eq_true h;exact⟨h.1.1,h.1.2,h.2.1,h.2.2.1.1,h.2.2.1.2,h.2.2.2.1,h.2.2.2.2,yu,by show (0:Int)≤0;decide,by show (0:Int)≤65535;decide⟩
end Go.Proofs.Lx
end
noncomputable section
namespace Pl
open Go Ev Sx
theorem kV(y z:Int)(r:List Int):gT (y::z::r)=gP y z::gT r:=by
 unfold gT;have e:(y::z::r).length / 2=r.length / 2+1:=by grind
 rw[e,List.range_succ_eq_map,List.map_cons,List.map_map]
 congr 1
end Pl
namespace Go.Proofs.Lx
open Go Ev Sx Pl
set_option maxRecDepth 100000
theorem qF{x:Int}(h0:0≤x)(h1:x≤65535):gP (x / 256%256) (x%256)=x:=by grind[Qv]
theorem uz{x:Int}(h0:0≤x)(h1:x≤65535)(r:List Int):gT (x / 256%256::x%256::r)=x::gT r:=by rw[kV,qF h0 h1]
theorem sI:∀{l:List Int},(∀x∈l,0≤x∧x≤65535)->gT (l.flatMap two)=l
 | [],_=>rfl
 | x::r,h=>by rw[List.flatMap_cons];show gT (x / 256%256::x%256::r.flatMap two)=_;have hx:=h x (by simp);rw[uz hx.1 hx.2,sI fun y hy=>h y (List.mem_cons_of_mem _ hy)]
theorem IX{t:List Bool}(h:t.length≤8):0≤jv t∧jv t<256:=by have h1:=uU t;have h2:2 ^ t.length≤2 ^ 8:=Nat.pow_le_pow_right (by decide) h;grind
theorem unpack_pack(l:List Bool):(kR (gK l)).take l.length=l:=by
 apply List.ext_getElem?;intro i;rw[List.getElem?_take];by_cases hi:i<l.length
 ·rw[if_pos hi]
  unfold kR;have hm:i<8*(gK l).length:=by grind[pV,fu]
  rw[List.getElem?_map,List.getElem?_range hm,Option.map_some];have hq:i / 8<fu l.length:=by grind[fu]
  have e:(gK l).getD (i / 8) 0=jv ((l.drop (8*(i / 8))).take 8):=by simp_all[gK,zX,List.getElem?_map,List.getElem?_range]
  have hr:=IX (t:=(l.drop (8*(i / 8))).take 8) (by grind);rw[e,an4 hr.1 hr.2 (Nat.mod_lt _ (by decide)),IU];have e2:((l.drop (8*(i / 8))).take 8).getD (i%8) false=l[i]:=by grind
  simp_all
 grind
abbrev tup(p:TP):TP:=(p.1,p.2.1,p.2.2.1,p.2.2.2.1,p.2.2.2.2.1,(p.2.2.2.2.2.1.1,p.2.2.2.2.2.1.2.1,p.2.2.2.2.2.1.2.2.1,p.2.2.2.2.2.1.2.2.2.1,p.2.2.2.2.2.1.2.2.2.2.1,p.2.2.2.2.2.1.2.2.2.2.2),p.2.2.2.2.2.2.1,p.2.2.2.2.2.2.2.1,p.2.2.2.2.2.2.2.2)
theorem qZ(l:Int){x:Int}(h0:0≤x)(h1:x≤65535):0≤kT l x∧kT l x≤65535:=by grind[kT]
theorem kN(x:Int):∀y∈two x,0≤y∧y≤255:=by intro y hy;simp[two]at hy;omega
theorem sJ(l:List Int):∀y∈l.flatMap two,0≤y∧y≤255:=by intro y hy;obtain⟨x,_,hx⟩:=List.mem_flatMap.1 hy;exact kN x y hx
theorem EJ(l:List Bool):∀y∈gK l,0≤y∧y≤255:=by intro y hy;unfold gK at hy;obtain⟨j,_,rfl⟩:=List.mem_map.1 hy;have:=IX (t:=(l.drop (8*j)).take 8) (by grind);omega
theorem yw{a:TA}(h:RA a):∀y∈jr a,0≤y∧y≤255:=by
 have app:∀{l r:List Int},(∀y∈l,0≤y∧y≤255)->(∀y∈r,0≤y∧y≤255)->∀y∈l++r,0≤y∧y≤255:=fun h1 h2 y hy=>by grind
 have con:∀{x:Int} {r:List Int},(0≤x∧x≤255)->(∀y∈r,0≤y∧y≤255)->∀y∈x::r,0≤y∧y≤255:=fun h1 h2 y hy=>by grind
 have nil:∀y∈([]:List Int),0≤y∧y≤255:=fun y hy=>by cases hy
 cases h with
 | bits f p n hf h1 h2 =>
  rcases hf with rfl | rfl
  ·show ∀y∈(1:Int)::two p++two n,0≤y∧y≤255
   grind[kN]
  ·show ∀y∈(2:Int)::two p++two n,0≤y∧y≤255
   grind[kN]
 | words f p n hf h1 h2 =>
  rcases hf with rfl | rfl
  ·show ∀y∈(3:Int)::two p++two n,0≤y∧y≤255
   grind[kN]
  ·show ∀y∈(4:Int)::two p++two n,0≤y∧y≤255
   grind[kN]
 | coil p b =>
  show ∀y∈(5:Int)::two p++two (if b=true then 65280 else 0),0≤y∧y≤255;grind[kN]
 | word p x =>
  show ∀y∈(6:Int)::two p++[x].flatMap two,0≤y∧y≤255;grind[kN,sJ]
 | coils p l h1 h2 =>
  show ∀y∈(15:Int)::two p++two (l.length:Int)++[(fu l.length:Int)]++gK l,0≤y∧y≤255;exact app (app (app (con (by decide) (kN p)) (kN _)) (con (by grind[fu]) nil)) (EJ l)
 | regs p l h1 h2 =>
  show ∀y∈(16:Int)::two p++two (l.length:Int)++[2*(l.length:Int)]++l.flatMap two,0≤y∧y≤255;grind[kN,sJ]
 | swap p n t l h1 h2 h3 h4 =>
  show ∀y∈(23:Int)::two p++two n++two t++two (l.length:Int)++[2*(l.length:Int)]++l.flatMap two,0≤y∧y≤255;exact app (app (app (app (app (con (by decide) (kN p)) (kN _)) (kN _)) (kN _)) (con (by omega) nil)) (sJ l)
theorem azr{tx unit:Int}{pdu:List Int}(h1:1≤pdu.length)(h2:pdu.length≤253)(ht:0≤tx)(ht2:tx≤65535)(hu:0≤unit)(hu2:unit≤255)(hb:∀y∈pdu,0≤y∧y≤255):Dl (jJ tx unit pdu,())=some ((tx,unit,pdu),0,()):=by
 have hall:∀y∈jJ tx unit pdu,0≤y∧y≤255:=by intro y hy;unfold jJ at hy;grind
 rw[uX (by simp[jJ];omega) hall]
 have e:fC (jJ tx unit pdu)=((tx,unit,pdu),0):=by
  show (if pdu=[] then _ else if lT 0 0 0 (((pdu.length+1:Nat):Int)%256)=true then if (pdu.length:Int)+1=((pdu.length+1:Nat):Int)%256 then ((gP (tx / 256%256) (tx%256),unit,pdu),0) else (zM,10) else (zM,10))=_;have hne:¬ pdu=[]:=by grind
  have hbg:lT 0 0 0 (((pdu.length+1:Nat):Int)%256)=true:=by
   unfold lT;have q1:lt (((pdu.length+1:Nat):Int)%256) 2=false:=by rw[<- Bool.not_eq_true,cu];omega
   have q2:gt (cvt .i64 (((pdu.length+1:Nat):Int)%256)) 254=false:=by rw[<- Bool.not_eq_true,gq,iI (by omega) (by omega)];omega
   rw[q1,q2];rfl
  rw[if_neg hne,if_pos hbg,if_pos (by omega),qF ht ht2]
 rw[e]
theorem azs{unit:Int}{pdu:List Int}(h1:1≤pdu.length)(h2:pdu.length≤253)(hu:1≤unit)(hu2:unit≤247):GB (jT (unit::pdu),())=some (unit,pdu,0,()):=by
 rw[BX];have hs:=DN (unit::pdu)
 have hc:cutV (jT (unit::pdu))=(unit::pdu,0):=by
  unfold cutV;have hl:=yg (unit::pdu);have e0:(jT (unit::pdu)).length - 2=(unit::pdu).length:=by omega
  have et:(jT (unit::pdu)).take (unit::pdu).length=unit::pdu:=by grind[jT,List.take_left]
  have e1:(jT (unit::pdu)).getD ((jT (unit::pdu)).length - 1) 0=rQ (unit::pdu) / 256:=by simp_all[jT,zX,List.getElem?_append_right]
  have e2:(jT (unit::pdu)).getD (unit::pdu).length 0=rQ (unit::pdu)%256:=by simp_all[zX,jT,List.getElem?_append_right]
  rw[if_neg (by omega),e0,et,e1,e2,Qv (by omega) (by omega) (by omega) (by omega),if_pos (by omega)]
 simp_all[gF,jT,yg,if_neg,Int,decide_eq_true]
end Go.Proofs.Lx
end
noncomputable section
namespace Go.Proofs.Lx
open Go Ev Sx Pl
set_option maxRecDepth 100000
theorem nN{b:List Int}(h:b.length≤100000):vQ (b,())=some (gT b,()):=by
 show V3 Nh b=_;unfold V3;have hq:quo .i64 (zF b.length) 2=((b.length / 2:Nat):Int):=o9 (d:=2) (by omega);rw[hq,eu (by rfl),eu (mq _),zQ,iT (by omega),kD];unfold Nh gT;refine (uk (mk:=fun i=>(b,zF (b.length / 2),(i:Int),(List.range i).map (fun i=>gP (b.getD (2*i) 0) (b.getD (2*i+1) 0))++(zE (b.length / 2) (0:Int)).drop i)) (N:=b.length / 2) ?_ ?_ (b.length / 2) 0 _ (by omega) (by omega))
 ·intro self i hi
  show Ng _ b (zF (b.length / 2)) (i:Int) _=_;unfold Ng;have hm:mul .i64 2 (i:Int)=((2*i:Nat):Int):=by grind[nX]
  have h1:b[2*i]? = some (b[2*i]'(by omega)):=zV (by omega);have h2:b[2*i+1]? = some (b[2*i+1]'(by omega)):=zV (by omega);have ho:((List.range i).map (fun i=>gP (b.getD (2*i) 0) (b.getD (2*i+1) 0))++(zE (b.length / 2) (0:Int)).drop i)[i]? = some (((List.range i).map (fun i=>gP (b.getD (2*i) 0) (b.getD (2*i+1) 0))++(zE (b.length / 2) (0:Int)).drop i)[i]'(by grind)):=zV (by grind);rw[if_pos (by grind[cu,ay]),hm,iD (by omega),fI h1,fI h2,fI ho,iD (by omega),zQ];grind[bor,shl,cvt,gP,AR]
 simp_all[Ng,zF,Nat,Int,if_neg,cu,ay,List.drop_of_length_le,List.append_nil]
theorem an9(p x y:Int):qA ((6,p,0,0,[],[]),(0,0,1,false,false),[x,y],())=some ((6,p,0,0,[gP x y],[]),true,()):=by show zC (vQ ([x,y],())) (fun z=>some ((6,p,0,0,z.1,[]),true,()))=_;rw[nN (by simp),zD,kV];rfl
theorem akp(p k:Int)(l:List Bool)(h1:1≤l.length)(h2:l.length≤1968):qA ((15,p,(l.length:Int),0,[],[]),(1968,1968,0,false,true),k::gK l,())=some ((15,p,(l.length:Int),0,[],l),true,()):=by
 have hlen:=pV l;show (if lt (zF (k::gK l).length) 2=true then _ else zC (cut (k::gK l) 1 (zF (k::gK l).length)) (fun y=>zC (Gs (y,())) fun y=>if lt (zF y.1.length) (cvt .i64 (l.length:Int))=true then some ((0,0,0,0,[],[]),false,()) else zC (cut y.1 0 (l.length:Int)) fun y_1=>need (le (l.length:Int) (l.length:Int)) (need (le (l.length:Int) (zF y.1.length)) (some ((15,p,(l.length:Int),0,[],y_1),true,())))))=_;have hN:1≤fu l.length∧fu l.length≤300:=by grind[fu]
 have hu:l.length≤(kR (gK l)).length:=by grind[lu,pV,fu]
 rw[if_neg (by grind[cu,ay,List.length_cons,pV]),kH,zD,AV (by omega),zD,iI (by omega) (by omega)];simp_all[if_neg,cu,ay,pU,zD,eu,gM,unpack_pack]
theorem aoa(p n k:Int)(l:List Int)(h:∀x∈l,0≤x∧x≤65535)(h1:1≤l.length)(h2:l.length≤123):qA ((16,p,n,0,[],[]),(123,0,123,false,true),k::l.flatMap two,())=some ((16,p,n,0,l,[]),true,()):=by have hlen:=vW l;show (if lt (zF (k::l.flatMap two).length) 2=true then _ else zC (cut (k::l.flatMap two) 1 (zF (k::l.flatMap two).length)) (fun y=>zC (vQ (y,())) fun y=>some ((16,p,n,0,y.1,[]),true,())))=_;rw[if_neg (by grind[cu,ay,List.length_cons]),kH,zD,nN (by omega),zD,sI h]
theorem aob(p n t k:Int)(l:List Int)(h:∀x∈l,0≤x∧x≤65535)(h1:1≤l.length)(h2:l.length≤123):qA ((23,p,n,t,[],[]),(125,0,121,true,false),k::l.flatMap two,())=some ((23,p,n,t,l,[]),true,()):=by have hlen:=vW l;show (if lt (zF (k::l.flatMap two).length) 2=true then _ else zC (cut (k::l.flatMap two) 1 (zF (k::l.flatMap two).length)) (fun y=>zC (vQ (y,())) fun y=>some ((23,p,n,t,y.1,[]),true,())))=_;rw[if_neg (by grind[cu,ay,List.length_cons]),kH,zD,nN (by omega),zD,sI h]
theorem qG{f p1 p2 n1 n2:Int}{r:List Int}(hr:r.length≤248){m bb ww:Int}{tt ee:Bool}(hs:shp f=some (m,bb,ww,tt,ee))(hm:gt m 0=true) :
  Am (f::p1::p2::n1::n2::r,())=xV (gP p1 p2::gP n1 n2::gT r) r 0 0 0 0 m bb ww tt ee f (gP p1 p2) (gP n1 n2) 0:=by
 show vR Dm _=_;unfold vR;rw[if_neg (by grind[cu,ay])];have hg:gt (zF (f::p1::p2::n1::n2::r).length) 253=false:=by rw[<- Bool.not_eq_true,gq,ay];grind
 rw[hg];show Al xV _ false 0 0 0 0=_;unfold Al;have ec3:cut (f::p1::p2::n1::n2::r) 3 (zF (f::p1::p2::n1::n2::r).length)=some (n1::n2::r):=kG (i:=3) (by simp);have ec5:cut (f::p1::p2::n1::n2::r) 5 (zF (f::p1::p2::n1::n2::r).length)=some r:=kG (i:=5) (by simp);rw[if_neg (by decide),iG,zD,qD,zD];unfold H9;rw[hs];rw[if_neg (by simp),kH,zD,nN (by grind),zD,zD,kV,kV,iG,zD,ec3,zD];simp_all[Option.getD,if_pos,at_one,zD]
theorem Ox{f p1 p2 n1 n2:Int}{bb ww:Int}{tt ee:Bool}(hs:shp f=some (0,bb,ww,tt,ee)) :
  Am ([f,p1,p2,n1,n2],())=xV [gP p1 p2,gP n1 n2] [n1,n2] 0 0 0 0 0 bb ww tt ee f (gP p1 p2) 0 0:=by
 show Al xV [f,p1,p2,n1,n2] false 0 0 0 0=_;unfold Al;have ec3:cut [f,p1,p2,n1,n2] 3 (zF [f,p1,p2,n1,n2].length)=some [n1,n2]:=rfl;rw[if_neg (by decide),iG,zD,qD,zD];unfold H9;rw[hs];rw[if_neg (by simp),kH,zD,nN (by simp),zD,zD,kV,kV,iG,zD,ec3,zD,if_neg (by simp_all[gt])];rfl
theorem aoc{a:TA}(h:OkA a)(hr:iq a=true):Am (jr a,())=some (a,true,()):=by
 have hra:=lS hr;have hp:=qF h.at0 h.at1;have hn:=qF h.m0 h.m1;have ht:=qF h.t0 h.t1;have hw:=h.w;clear hr h
 cases hra with
 | bits f p n hf h1 h2 =>
  dsimp only at hp hn;rcases hf with rfl | rfl
  ·refine (qG (f:=1) (r:=[]) (by simp) (m:=2000) (bb:=0) (ww:=0) (tt:=false) (ee:=false) rfl rfl).trans ?_
   rw[hp,hn];rfl
  ·refine (qG (f:=2) (r:=[]) (by simp) (m:=2000) (bb:=0) (ww:=0) (tt:=false) (ee:=false) rfl rfl).trans ?_
   rw[hp,hn];rfl
 | words f p n hf h1 h2 =>
  dsimp only at hp hn;rcases hf with rfl | rfl
  ·refine (qG (f:=3) (r:=[]) (by simp) (m:=125) (bb:=0) (ww:=0) (tt:=false) (ee:=false) rfl rfl).trans ?_
   rw[hp,hn];rfl
  ·refine (qG (f:=4) (r:=[]) (by simp) (m:=125) (bb:=0) (ww:=0) (tt:=false) (ee:=false) rfl rfl).trans ?_
   rw[hp,hn];rfl
 | coil p b =>
  dsimp only at hp
  cases b with
  | true =>
   refine (Ox (f:=5) (n1:=65280 / 256%256) (n2:=65280%256) (bb:=1) (ww:=0) (tt:=false) (ee:=false) rfl).trans ?_;rw[hp];rfl
  | false =>
   refine (Ox (f:=5) (n1:=0 / 256%256) (n2:=0%256) (bb:=1) (ww:=0) (tt:=false) (ee:=false) rfl).trans ?_;rw[hp];rfl
 | word p x =>
  dsimp only at hp hw;have hx:=hw x (by simp);refine (Ox (f:=6) (n1:=x / 256%256) (n2:=x%256) (bb:=0) (ww:=1) (tt:=false) (ee:=false) rfl).trans ?_;rw[hp];show zC (qA ((6,p,0,0,[],[]),(0,0,1,false,false),[x / 256%256,x%256],())) (fun y=>some (y.1,y.2.1,()))=_;grind[an9,qF]
 | coils p l h1 h2 =>
  dsimp only at hp hn;have hN:fu l.length≤247:=by grind[fu]
  refine (qG (f:=15) (r:=(fu l.length:Int)::gK l) (by grind[List.length_cons,pV]) (m:=1968) (bb:=1968) (ww:=0) (tt:=false) (ee:=true) rfl rfl).trans ?_;rw[hp,hn];show zC (qA ((15,p,(l.length:Int),0,[],[]),(1968,1968,0,false,true),(fu l.length:Int)::gK l,())) (fun y=>some (y.1,y.2.1,()))=_;grind[akp]
 | regs p l h1 h2 =>
  dsimp only at hp hn hw;refine (qG (f:=16) (r:=2*(l.length:Int)::l.flatMap two) (by grind[List.length_cons,vW]) (m:=123) (bb:=0) (ww:=123) (tt:=false) (ee:=true) rfl rfl).trans ?_;rw[hp,hn];show zC (qA ((16,p,(l.length:Int),0,[],[]),(123,0,123,false,true),2*(l.length:Int)::l.flatMap two,())) (fun y=>some (y.1,y.2.1,()))=_;grind[aoa]
 | swap p n t l h1 h2 h3 h4 =>
  dsimp only at hp hn ht hw;refine (qG (f:=23) (r:=t / 256%256::t%256::(l.length:Int) / 256%256::(l.length:Int)%256::2*(l.length:Int)::l.flatMap two) (by grind[List.length_cons,vW]) (m:=125) (bb:=0) (ww:=121) (tt:=true) (ee:=false) rfl rfl).trans ?_;rw[hp,hn,kV,ht];show (if lt (zF (t / 256%256::t%256::(l.length:Int) / 256%256::(l.length:Int)%256::2*(l.length:Int)::l.flatMap two).length) 4=true then some ((0,0,0,0,[],[]),false,()) else zC (cut (t / 256%256::t%256::(l.length:Int) / 256%256::(l.length:Int)%256::2*(l.length:Int)::l.flatMap two) 4 (zF (t / 256%256::t%256::(l.length:Int) / 256%256::(l.length:Int)%256::2*(l.length:Int)::l.flatMap two).length)) (fun y_1=>zC (qA ((23,p,n,t,[],[]),(125,0,121,true,false),y_1,())) (fun y=>some (y.1,y.2.1,()))))=_;have ec:cut (t / 256%256::t%256::(l.length:Int) / 256%256::(l.length:Int)%256::2*(l.length:Int)::l.flatMap two) 4 (zF (t / 256%256::t%256::(l.length:Int) / 256%256::(l.length:Int)%256::2*(l.length:Int)::l.flatMap two).length)=some (2*(l.length:Int)::l.flatMap two):=kG (i:=4) (by simp);rw[if_neg (by grind[cu,ay,List.length_cons]),ec,zD,aob p n t _ l hw h1 (by omega),zD]
theorem aad{a:TA}(h:OkA a)(hr:iq a=true):V8 (jr a,())=some (a,0,()):=by
 show GK V7 (jr a)=_;unfold GK;have e:nI (jr a,jr a,())=some (true,()):=by show some (eqs (toS (jr a)) (toS (jr a)),())=_;rw[H7.2 rfl]
 rw[aoc h hr,zD,if_neg (by simp),JH h,if_pos hr,zD,if_neg (by simp_all[nei])];dsimp only;rw[e];rfl
structure OkR(r:TR):Prop where
 f0:0≤r.1
 f1:r.1≤255
 e0:0≤r.2.1
 e1:r.2.1≤255
 w:∀x∈r.2.2.2.1,0≤x∧x≤65535
 at0:0≤r.2.2.2.2.1
 at1:r.2.2.2.2.1≤65535
 m0:0≤r.2.2.2.2.2
 m1:r.2.2.2.2.2≤65535
 lb:r.2.2.1.length≤100000
 lw:r.2.2.2.1.length≤100000
inductive RR:TR->Prop where
 | ex (f e:Int) (h0:0≤f) (h:f<128) (h1:1≤e) (h2:e≤4):RR (f,e,[],[],0,0)
 | bits (f:Int) (l:List Bool) (hf:f=1∨f=2) (h1:8≤l.length) (h2:l.length≤2000) (h3:l.length%8=0):RR (f,0,l,[],0,0)
 | words (f:Int) (l:List Int) (hf:f=3∨f=4∨f=23) (h1:1≤l.length) (h2:l.length≤125):RR (f,0,[],l,0,0)
 | coil (b:Bool) (p:Int):RR (5,0,[b],[],p,0)
 | word (x p:Int):RR (6,0,[],[x],p,0)
 | coils (p n:Int) (h1:1≤n) (h2:n≤1968):RR (15,0,[],[],p,n)
 | regs (p n:Int) (h1:1≤n) (h2:n≤123):RR (16,0,[],[],p,n)
theorem EK{f:Int}(h0:0≤f)(h:f<128):rem f 128=f:=by grind[rem,kC]
def jN(r:TR):List Int:=if nei r.2.1 0=true then exB r else if eqi r.1 1=true then Ic r else if eqi r.1 2=true then Ic r else if eqi r.1 3=true then uW r else if eqi r.1 4=true then uW r else if eqi r.1 23=true then uW r else
 if eqi r.1 5=true then obB r else if eqi r.1 6=true then owB r else if eqi r.1 15=true then ctB r else if eqi r.1 16=true then ctB r else []
theorem lC{b:List Int}{c:TR}{ok:Bool}(h:ok=true):nM b c ok b=(c,0):=by unfold nM;rw[if_pos h,if_pos (H7.2 rfl)]
theorem DT{r:TR}(h:RR r):2≤(jN r).length∧(jN r).length≤253:=by
 cases h with
 | ex f e h0 h h1 h2 =>
  unfold jN;rw[if_pos (by grind[fo])];exact⟨Nat.le.refl,(by decide:2≤253)⟩
 | bits f l hf h1 h2 h3 =>
  have e:jN (f,0,l,[],0,0)=Ic (f,0,l,[],0,0):=by rcases hf with rfl | rfl<;>rfl
  rw[e];show 2≤(f::_::gK l).length∧(f::_::gK l).length≤253;grind[List.length_cons,pV,fu]
 | words f l hf h1 h2 =>
  have e:jN (f,0,[],l,0,0)=uW (f,0,[],l,0,0):=by rcases hf with rfl | rfl | rfl<;>rfl
  rw[e];show 2≤([f,_]++l.flatMap two).length∧([f,_]++l.flatMap two).length≤253;grind[zZ,List.length_cons,List.length_nil,vW]
 | coil b p=>exact⟨(by decide:2≤5),(by decide:5≤253)⟩
 | word x p=>exact⟨(by decide:2≤5),(by decide:5≤253)⟩
 | coils p n h1 h2=>exact⟨(by decide:2≤5),(by decide:5≤253)⟩
 | regs p n h1 h2=>exact⟨(by decide:2≤5),(by decide:5≤253)⟩
theorem sK{p q:Int}(h0:0≤p)(h1:p≤65535)(h2:0≤q)(h3:q≤65535):gT (two p++two q)=[p,q]:=by show gT (p / 256%256::p%256::q / 256%256::q%256::[])=_;rw[uz h0 h1,uz h2 h3];rfl
theorem Pv{r:TR}(h:OkR r)(hr:RR r)(ok:nL r=true):kU (jN r)=(r,0):=by
 have hw:=h.w;have ha:=h.at0;have ha1:=h.at1;have hm:=h.m0;have hm1:=h.m1;clear h
 cases hr with
 | ex f e h0 h h1 h2 =>
  have ea:add .u8 f 128=f+128:=wu8 (by omega) (by omega);have eb:jN (f,e,[],[],0,0)=[f+128,e]:=by unfold jN;rw[if_pos (by grind[fo])];simp_all[exB]
  have ec:exC (f+128) e=(f,e,[],[],0,0):=by grind[exC,rem,kC]
  rw[eb];show gI (f+128) e []=_;unfold gI;rw[if_neg (by decide),if_neg (by grind[cu]),ec];have eB:exB (f,e,[],[],0,0)=[f+128,e]:=by simp_all[exB]
  rw[eB];apply lC;unfold nL at ok;rw[if_pos (by grind[fo])]at ok;exact ok
 | bits f l hf h1 h2 h3 =>
  have hN:fu l.length≤250:=by grind[fu]
  have hu:kR (gK l)=l:=by grind[unpack_pack,List.take_of_length_le,lu,pV,fu]
  have ec:uy f (gK l)=(f,0,l,[],0,0):=by simp_all[uy]
  rcases hf with rfl | rfl
  ·show gI 1 ((fu l.length:Int)%256) (gK l)=_
   unfold gI;rw[if_neg (by grind[pV]),if_pos (by decide),if_pos (by decide),ec];exact lC ok
  ·show gI 2 ((fu l.length:Int)%256) (gK l)=_
   unfold gI;rw[if_neg (by grind[pV]),if_pos (by decide),if_neg (by decide),if_pos (by decide),ec];exact lC ok
 | words f l hf h1 h2 =>
  have hlen:=vW l;have ec:nu f (l.flatMap two)=(f,0,[],l,0,0):=by simp_all[nu,sI]
  rcases hf with rfl | rfl | rfl
  ·show gI 3 (2*(l.length:Int)%256) (l.flatMap two)=_
   unfold gI;rw[if_neg (by omega),if_pos (by decide),if_neg (by decide),if_neg (by decide),if_pos (by decide),ec];exact lC ok
  ·show gI 4 (2*(l.length:Int)%256) (l.flatMap two)=_
   unfold gI;rw[if_neg (by omega),if_pos (by decide),if_neg (by decide),if_neg (by decide),if_neg (by decide),if_pos (by decide),ec];exact lC ok
  ·show gI 23 (2*(l.length:Int)%256) (l.flatMap two)=_
   unfold gI;rw[if_neg (by omega),if_pos (by decide),if_neg (by decide),if_neg (by decide),if_neg (by decide),if_neg (by decide),if_pos (by decide),ec];exact lC ok
 | coil b p =>
  have ec:obC 5 (two p++two (if b=true then 65280 else 0))=(5,0,[b],[],p,0):=by unfold obC oJ;rw[sK ha ha1 (by omega) (by omega)];cases b<;>rfl
  show gI 5 (p / 256%256) (p%256::two (if b=true then 65280 else 0))=_;have eq:(p / 256%256)::(p%256::two (if b=true then 65280 else 0))=two p++two (if b=true then 65280 else 0):=rfl;unfold gI;rw[if_neg (by show ¬ 251<3;decide),if_pos (by decide),if_neg (by decide),if_neg (by decide),if_neg (by decide),if_neg (by decide),if_neg (by decide),if_pos (by decide),eq,ec];exact lC ok
 | word x p =>
  have hx:=hw x (by simp);have ec:owC 6 (two p++two x)=(6,0,[],[x],p,0):=by simp_all[owC,oJ,sK]
  show gI 6 (p / 256%256) (p%256::two x)=_;have eq:(p / 256%256)::(p%256::two x)=two p++two x:=rfl;unfold gI;rw[if_neg (by show ¬ 251<3;decide),if_pos (by decide),if_neg (by decide),if_neg (by decide),if_neg (by decide),if_neg (by decide),if_neg (by decide),if_neg (by decide),if_pos (by decide),eq,ec];exact lC ok
 | coils p n h1 h2 =>
  have ec:ctC 15 (two p++two n)=(15,0,[],[],p,n):=by simp_all[ctC,oJ,sK]
  show gI 15 (p / 256%256) (p%256::two n)=_;have eq:(p / 256%256)::(p%256::two n)=two p++two n:=rfl;unfold gI;rw[if_neg (by show ¬ 251<3;decide),if_pos (by decide),if_neg (by decide),if_neg (by decide),if_neg (by decide),if_neg (by decide),if_neg (by decide),if_neg (by decide),if_neg (by decide),if_pos (by decide),eq,ec];exact lC ok
 | regs p n h1 h2 =>
  have ec:ctC 16 (two p++two n)=(16,0,[],[],p,n):=by simp_all[ctC,oJ,sK]
  show gI 16 (p / 256%256) (p%256::two n)=_;have eq:(p / 256%256)::(p%256::two n)=two p++two n:=rfl;unfold gI;rw[if_neg (by show ¬ 251<3;decide),if_pos (by decide),if_neg (by decide),if_neg (by decide),if_neg (by decide),if_neg (by decide),if_neg (by decide),if_neg (by decide),if_neg (by decide),if_neg (by decide),if_pos (by decide),eq,ec];exact lC ok
theorem yx{c:Bool}{w:Option (List Int×Unit)}{x:List Int}(hw:c=true->w=some (x,())) :
  (if c=true then zC w fun y=>(some (y.1,0,()):Option (As [.sl (.int .u8),.int .i64])) else some ([],13,()))=if c=true then some (x,0,()) else some ([],13,()):=by
 simp_all
abbrev RB:=Option (As [.sl (.int .u8),.int .i64])
theorem mV{c:Bool}{A B:RB}{ra rb:Bool}{xa xb:List Int}(h1:A=if ra=true then some (xa,0,()) else some ([],13,()))(h2:B=if rb=true then some (xb,0,()) else some ([],13,())) :
  (if c=true then A else B)=if (if c=true then ra else rb)=true then some ((if c=true then xa else xb),0,()) else some ([],13,()):=by
 grind
theorem aae{r:TR}(h:SmR r):Oa (r,())=if nL r=true then some (jN r,0,()) else some ([],13,()):=by show ajO r=_;unfold ajO nL jN;rw[Oj h,Ib h,DR h,Ol h,Om h,AZ h,AZ h];simp only[zD];have wex:=yx (c:=exR r) (fun _=>Z7 r);have wbit:=yx (c:=yh r) (fun _=>Qw h);have wword:=yx (c:=pW r) (fun _=>Oo h);have wob:=yx (c:=obR r) (fun hc=>Z8 hc);have wow:=yx (c:=owR r) (fun hc=>Z9 hc);have wc1:=yx (c:=ctR 1968 r) (fun _=>Ot 1968 r);have wc2:=yx (c:=ctR 123 r) (fun _=>Ot 123 r);exact mV wex (mV wbit (mV wbit (mV wword (mV wword (mV wword (mV wob (mV wow (mV wc1 (mV wc2 rfl)))))))))
theorem uY(b:List Int):∀x∈gT b,0≤x∧x≤65535:=by intro x hx;unfold gT at hx;obtain⟨i,_,rfl⟩:=List.mem_map.1 hx;have:=Oi (b.getD (2*i) 0) (b.getD (2*i+1) 0);omega
theorem Pw{f p n t:Int}(hf:0≤f∧f≤255)(hp:0≤p∧p≤65535)(hn:0≤n∧n≤65535)(ht:0≤t∧t≤65535)(s:Int×Int×Int×Bool×Bool){rest:List Int}(hl:rest.length≤300) :
  ∃(a:TA) (ok:Bool),qA ((f,p,n,t,[],[]),s,rest,())=some (a,ok,())∧(ok=true->OkA a):=by
 have mkw:∀l:List Int,(∀x∈l,0≤x∧x≤65535)->l.length≤100000->OkA (f,p,n,t,l,[]):=fun l h1 h2=>⟨hf.1,hf.2,hp.1,hp.2,hn.1,hn.2,ht.1,ht.2,h1,h2,Nat.zero_le _⟩;have mkb:∀l:List Bool,l.length≤100000->OkA (f,p,n,t,[],l):=fun l h2=>⟨hf.1,hf.2,hp.1,hp.2,hn.1,hn.2,ht.1,ht.2,(fun x hx=>by cases hx),Nat.zero_le _,h2⟩;show ∃(a:TA) (ok:Bool),V5 ag3 (f,p,n,t,[],[]) s rest=_∧_;unfold V5;dsimp only;by_cases h1:eqi (add .i64 s.2.1 s.2.2.1) 0=true
 ·simp_all
 ·rw[if_neg h1]
  by_cases h2:rest.length<2
  ·rw[if_pos (by grind[cu,ay])]
   simp
  ·rw[if_neg (by grind[cu,ay])]
   by_cases h5:eqi f 5=true
   ·rw[if_pos h5]
    match rest,h2 with
    | y::r,_ =>
     rw[iG,zD];exact⟨_,_,rfl,fun _=>mkb [nei y 0] (by simp)⟩
    | [],h2=>simp_all
   ·rw[if_neg h5]
    by_cases h6:eqi f 6=true
    ·rw[if_pos h6,nN (by omega),zD]
     exact⟨_,_,rfl,fun _=>mkw _ (uY _) (by grind[pz])⟩
    ·rw[if_neg h6]
     match rest,h2 with
     | [],h2=>simp_all
     | y::r,_ =>
      have hr:r.length≤300:=by grind
      by_cases hb:gt s.2.1 0=true
      ·rw[if_pos hb,kH,zD,AV (by omega),zD]
       dsimp only;rw[iI (by omega) (by omega)];by_cases hlt:lt (zF (kR r).length) n=true
       ·simp_all
       ·rw[if_neg hlt]
        rw[cu,ay,lu]at hlt;obtain⟨k,rfl⟩:=zN hn.1;rw[pU (by grind[lu]),zD,eu (by grind[gM]),eu (by grind[gM,ay,lu])];exact⟨_,_,rfl,fun _=>mkb _ (by grind)⟩
      ·rw[if_neg hb,kH,zD,nN (by omega),zD]
       exact⟨_,_,rfl,fun _=>mkw _ (uY _) (by grind[pz])⟩
theorem aod{b:List Int}(h:5≤b.length):∃f p1 p2 n1 n2 r,b=f::p1::p2::n1::n2::r:=by
 match b,h with
 | f::p1::p2::n1::n2::r,_=>simp
theorem aaf{b:List Int}(hb:∀x∈b,0≤x∧x≤255):∃(a:TA) (ok:Bool),Am (b,())=some (a,ok,())∧(ok=true->OkA a):=by
 have bad:Dm b true 0 0 0 0=some ((0,0,0,0,[],[]),false,()):=rfl;by_cases h5:b.length<5
 ·refine⟨(0,0,0,0,[],[]),false,?_,fun e=>by cases e⟩
  show vR Dm b=_;unfold vR;rw[if_pos (by grind[cu,ay])];rfl
 ·by_cases h253:253<b.length
  ·refine⟨(0,0,0,0,[],[]),false,?_,fun e=>by cases e⟩
   show vR Dm b=_;unfold vR;rw[if_neg (by grind[cu,ay]),show gt (zF b.length) 253=true from gq.2 (by grind)];rfl
  ·obtain⟨f,p1,p2,n1,n2,r,rfl⟩:=aod (b:=b) (by omega)
   have hf:0≤f∧f≤255:=hb f (by simp);have hr:r.length≤248:=by simp_all
   have hg:gt (zF (f::p1::p2::n1::n2::r).length) 253=false:=by rw[<- Bool.not_eq_true,gq,ay];omega
   have hm0:Am (f::p1::p2::n1::n2::r,())=Al xV (f::p1::p2::n1::n2::r) false 0 0 0 0:=by show vR Dm _=_;unfold vR;rw[if_neg (by grind[cu,ay]),hg];rfl
   have ec3:cut (f::p1::p2::n1::n2::r) 3 (zF (f::p1::p2::n1::n2::r).length)=some (n1::n2::r):=kG (i:=3) (by simp);have ec5:cut (f::p1::p2::n1::n2::r) 5 (zF (f::p1::p2::n1::n2::r).length)=some r:=kG (i:=5) (by simp);have nn:∀x y,0≤gP x y∧gP x y≤65535:=fun x y=>by have:=Oi x y;omega
   have tail:∀(l rest:List Int) (s:Int×Int×Int×Bool×Bool) (n:Int),(∃q,l=gP p1 p2::gP n1 n2::q∧(4≤rest.length->q ≠ []∧∀x∈q,0≤x∧x≤65535))->rest.length≤300->(0≤n∧n≤65535) ->
     ∃(a:TA) (ok:Bool),xV l rest 0 0 0 0 s.1 s.2.1 s.2.2.1 s.2.2.2.1 s.2.2.2.2 f (gP p1 p2) n 0=some (a,ok,())∧(ok=true->OkA a):=by
    rintro l rest s n ⟨q,rfl,hq⟩ hrl hn;have k3:∀(rest:List Int) (t:Int),rest.length≤300->(0≤t∧t≤65535)->∃(a:TA) (ok:Bool),aha rest 0 0 0 0 s.1 s.2.1 s.2.2.1 s.2.2.2.1 s.2.2.2.2 f (gP p1 p2) n t=some (a,ok,())∧(ok=true->OkA a):=fun rest t h1 h2=>by obtain⟨a,ok,e1,e2⟩:=Pw hf (nn p1 p2) hn h2 s h1;refine⟨a,ok,?_,e2⟩;show zC (qA ((f,gP p1 p2,n,t,[],[]),s,rest,())) _=_;simp_all
    unfold xV ag9;by_cases ht:s.2.2.2.1=true
    ·rw[if_pos ht]
     by_cases h4:rest.length<4
     ·rw[if_pos (by grind[cu,ay])]
      simp
     ·rw[if_neg (by grind[cu,ay])]
      obtain⟨hq1,hq2⟩:=hq (by omega)
      match q,hq1,hq2 with
      | z::q,_,hq2 =>
       have hat:at? (gP p1 p2::gP n1 n2::z::q) 2=some z:=rfl;rw[hat,zD];have hc:cut rest 4 (zF rest.length)=some (rest.drop 4):=kG (i:=4) (by omega);rw[hc,zD];exact k3 _ z (by grind) (hq2 z (by simp))
      | [],hq1,_=>simp_all
    simp_all
   rw[hm0];unfold Al;rw[if_neg (by decide),iG,zD,qD,zD]
   cases hs:shp f with
   | none=>simp
   | some s =>
    dsimp only;rw[if_neg (by simp),kH,zD,nN (by grind),zD,zD,kV,kV,iG,zD,ec3,zD];have hsd:H9 f=s:=by grind[H9]
    rw[hsd];have hq4:4≤r.length->gT r ≠ []∧∀x∈gT r,0≤x∧x≤65535:=fun h=>⟨fun e=>by grind[pz],uY r⟩;by_cases hm:gt s.1 0=true
    ·rw[if_pos hm,at_one,zD,ec5,zD]
     exact tail _ r s _ ⟨gT r,rfl,hq4⟩ (by omega) (nn n1 n2)
    ·rw[if_neg hm]
     by_cases h4:4≤(n1::n2::r).length
     ·refine tail _ (n1::n2::r) s 0 ⟨gT r,rfl,fun _=>?_⟩ (by grind) ⟨by decide,by decide⟩
      refine⟨fun e=>?_,uY r⟩;grind[pz]
     ·exact tail _ (n1::n2::r) s 0 ⟨gT r,rfl,fun h=>absurd h h4⟩ (by omega) ⟨by decide,by decide⟩
theorem YG{b:List Int}(hb:∀x∈b,0≤x∧x≤255):∃(a:TA) (e:Int),V8 (b,())=some (a,e,())∧((e=0∧OkA a∧iq a=true∧toS (jr a)=toS b)∨e=12):=by
 obtain⟨a,ok,h1,h2⟩:=aaf hb;show ∃(a':TA) (e:Int),GK V7 b=some (a',e,())∧_;unfold GK;rw[h1,zD]
 cases ok with
 | false=>exact⟨_,_,rfl,.inr rfl⟩
 | true =>
  have ha:=h2 rfl;dsimp only;rw[if_neg (by decide),JH ha]
  cases hr:iq a with
  | false=>exact⟨_,_,rfl,.inr rfl⟩
  | true =>
   rw[if_pos rfl,zD,if_neg (show ¬ nei 0 0=true by decide)];dsimp only;have e:nI (jr a,b,())=some (eqs (toS (jr a)) (toS b),()):=rfl;rw[e,zD]
   cases he:eqs (toS (jr a)) (toS b) with
   | false=>exact⟨_,_,rfl,.inr rfl⟩
   | true=>exact⟨a,0,rfl,.inl ⟨rfl,ha,hr,H7.1 he⟩⟩
theorem akq{f:Int}{b:List Int}(hb:∀x∈f::b,0≤x∧x≤255):∃(a:TA) (e:Int),Ao (f::b,())=some (a,e,())∧((e=0∧OkA a∧iq a=true∧toS (jr a)=toS (f::b))∨((e=1∨e=3)∧a=(f,0,0,0,[],[]))):=by
 obtain⟨a,e,h1,h2⟩:=YG hb;show ∃(a':TA) (e:Int),Ni (f::b)=some (a',e,())∧_;unfold Ni;rw[if_neg (by grind[dw,ay,List.length_cons]),h1,zD];dsimp only;rcases h2 with ⟨rfl,ha⟩ | rfl
 ·exact⟨a,0,rfl,.inl ⟨rfl,ha⟩⟩
 ·rw[if_neg (by decide),iG,zD,zD,qD,zD]
  grind
end Go.Proofs.Lx
end
