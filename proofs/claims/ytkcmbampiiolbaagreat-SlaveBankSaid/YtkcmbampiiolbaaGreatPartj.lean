/- Proved in the last of these 13 parts (this is part 10): SlaveBank returns true, whatever the link, the bank, the ticks and what comes. Conditions: those of the given statement, and no others. -/
import Derived.Test.YtkcmbampiiolbaaGreatParti
import Derived.Test.YtkcmbampiiolbaaGreatParte
set_option linter.unusedVariables false
set_option linter.unusedSimpArgs false
set_option linter.unusedSectionVars false
section
namespace Go.Proofs.Lx
open Go Ev Sx Pl
set_option maxRecDepth 100000
abbrev TA:=Int×Int×Int×Int×List Int×List Bool
structure OkA (a:TA):Prop where
 f0:0≤a.1
 f1:a.1≤255
 at0:0≤a.2.1
 at1:a.2.1≤65535
 m0:0≤a.2.2.1
 m1:a.2.2.1≤65535
 t0:0≤a.2.2.2.1
 t1:a.2.2.2.1≤65535
 w:∀ x ∈ a.2.2.2.2.1,0≤x∧x≤65535
 lw:a.2.2.2.2.1.length≤100000
 lb:a.2.2.2.2.2.length≤100000
def shp (f:Int):Option (Int×Int×Int×Bool×Bool) :=
 if eqi 1 f=true then some (2000,0,0,false,false) else if eqi 2 f=true then some (2000,0,0,false,false) else if eqi 3 f=true then some (125,0,0,false,false) else
 if eqi 4 f=true then some (125,0,0,false,false) else if eqi 5 f=true then some (0,1,0,false,false) else if eqi 6 f=true then some (0,0,1,false,false) else
 if eqi 15 f=true then some (1968,1968,0,false,true) else if eqi 16 f=true then some (123,0,123,false,true) else if eqi 23 f=true then some (125,0,121,true,false) else none
def shpD (f:Int):Int×Int×Int×Bool×Bool:=(shp f).getD (0,0,0,false,false)
theorem shape_eq (f:Int):qc4_ (f,())=some (shpD f,(shp f).isSome,()):=rfl
theorem shp_cases (f:Int):((f=1∨f=2)∧shp f=some (2000,0,0,false,false))∨((f=3∨f=4)∧shp f=some (125,0,0,false,false))∨(f=5∧shp f=some (0,1,0,false,false)) ∨
  (f=6∧shp f=some (0,0,1,false,false))∨(f=15∧shp f=some (1968,1968,0,false,true))∨(f=16∧shp f=some (123,0,123,false,true))∨(f=23∧shp f=some (125,0,121,true,false)) ∨
  ((f ≠ 1∧f ≠ 2∧f ≠ 3∧f ≠ 4∧f ≠ 5∧f ≠ 6∧f ≠ 15∧f ≠ 16∧f ≠ 23)∧shp f=none):=by
 by_cases h1:f=1
 ·subst h1; exact .inl ⟨.inl rfl,rfl⟩
 by_cases h2:f=2
 ·subst h2; exact .inl ⟨.inr rfl,rfl⟩
 by_cases h3:f=3
 ·subst h3; exact .inr (.inl ⟨.inl rfl,rfl⟩)
 by_cases h4:f=4
 ·subst h4; exact .inr (.inl ⟨.inr rfl,rfl⟩)
 by_cases h5:f=5
 ·subst h5; exact .inr (.inr (.inl ⟨rfl,rfl⟩))
 by_cases h6:f=6
 ·subst h6; exact .inr (.inr (.inr (.inl ⟨rfl,rfl⟩)))
 by_cases h7:f=15
 ·subst h7; exact .inr (.inr (.inr (.inr (.inl ⟨rfl,rfl⟩))))
 by_cases h8:f=16
 ·subst h8; exact .inr (.inr (.inr (.inr (.inr (.inl ⟨rfl,rfl⟩)))))
 by_cases h9:f=23
 ·subst h9; exact .inr (.inr (.inr (.inr (.inr (.inr (.inl ⟨rfl,rfl⟩))))))
 refine .inr (.inr (.inr (.inr (.inr (.inr (.inr ⟨⟨h1,h2,h3,h4,h5,h6,h7,h8,h9⟩,?_⟩))))))
 have e:∀ n:Int,f ≠ n->¬ eqi n f=true:=fun n hn h=>hn (q4_.1 h).symm
 unfold shp
 rw [if_neg (e _ h1),if_neg (e _ h2),if_neg (e _ h3),if_neg (e _ h4),if_neg (e _ h5),if_neg (e _ h6),if_neg (e _ h7),if_neg (e _ h8),if_neg (e _ h9)]
def withinV (n most:Int):Bool:=if eqi most 0=true then eqi n 0 else if ge n 1=true then le n most else false
theorem within_eq (n most:Int):qj0_ (n,most,())=some (withinV n most,()):=by
 show qqn_ n most=_
 unfold qqn_ withinV
 split
 ·rfl
 ·split <;> rfl
def rightS (a:TA) (s:Int×Int×Int×Bool×Bool):Bool:=(s.2.2.2.1 || eqi a.2.2.2.1 0) && (withinV a.2.2.1 s.1 && (withinV (Int.ofNat a.2.2.2.2.2.length) s.2.1 && (withinV (Int.ofNat a.2.2.2.2.1.length) s.2.2.1 &&
 (!s.2.2.2.2 || eqi (Int.ofNat a.2.2.2.2.2.length + Int.ofNat a.2.2.2.2.1.length) a.2.2.1))))
def q21_ (a:TA):Bool:=match shp a.1 with
 | none=>false
 | some s=>rightS a s
theorem right_K2 (t:Bool) (a1 a2 a3 a4:Int) (a5:List Int) (a6:List Bool) (s1 s2 s3:Int) (s4 s5:Bool) :
  qi5_ t a1 a2 a3 a4 a5 a6 s1 s2 s3 s4 s5=some (!t && (!s5 || eqi (add .i64 (Int.ofNat a6.length) (Int.ofNat a5.length)) (cvt .i64 a3)),()):=by
 unfold qi5_ qrs_
 cases t <;> cases s5 <;> rfl
theorem right_K1 (t:Bool) (a1 a2 a3 a4:Int) (a5:List Int) (a6:List Bool) (s1 s2 s3:Int) (s4 s5:Bool) :
  qem_ t a1 a2 a3 a4 a5 a6 s1 s2 s3 s4 s5=some (!t && (withinV (cvt .i64 a3) s1 && (withinV (Int.ofNat a6.length) s2 && (withinV (Int.ofNat a5.length) s3 && (!s5 || eqi (add .i64 (Int.ofNat a6.length) (Int.ofNat a5.length)) (cvt .i64 a3))))),()):=by
 unfold qem_ qs7_
 rw [within_eq,within_eq,within_eq]
 simp only [Option.bind_some,right_K2]
 cases t <;> cases withinV (cvt .i64 a3) s1 <;> cases withinV (Int.ofNat a6.length) s2 <;> cases withinV (Int.ofNat a5.length) s3 <;> rfl
theorem right_eq {a:TA} (h:OkA a):q9p_ (a,())=some (q21_ a,()):=by
 show qno_ qem_ a=_
 unfold qno_
 have h1:=h.m0
 have h2:=h.m1
 have h3:=h.lw
 have h4:=h.lb
 rw [shape_eq,Option.bind_some]
 simp only [right_K1]
 rw [cvt64 (by omega) (by omega),add64 (by rw [q1_,q1_]; omega) (by rw [q1_,q1_]; omega)]
 unfold q21_ shpD
 cases shp a.1 with
 | none=>rfl
 | some s =>
  obtain ⟨s1,s2,s3,s4,s5⟩:=s
  unfold rightS
  have e:nei a.2.2.2.1 0=!eqi a.2.2.2.1 0:=rfl
  rw [e]
  cases s4 <;> cases eqi a.2.2.2.1 0 <;> rfl
theorem two_eq {y:Int}:([cvt .u8 (shr .u16 y 8),cvt .u8 y]:List Int)=two y:=by
 rw [cvt8,cvt8,shr8 _ _ (by decide)]
 rfl
theorem numbers_eq {l out:List Int} (h:out.length + 2 * l.length≤1000000):q1z_ (l,out,())=some (out++l.flatMap two,()):=by
 show qif_ qel_ l out=_
 unfold qif_ qel_
 refine (loop_idx (xs:=l) (mk:=fun i acc=>(l,Int.ofNat l.length,(i:Int),acc)) (stp:=fun o y=>o++two y) (fin:=fun acc=>some (acc,())) (fun i acc=>acc.length≤out.length + 2 * i) ?_ ?_ ?_ l.length 0 out _ (by omega) (by omega) (by omega)).trans ?_
 ·intro self i acc x hx hI
  have hi:=(List.getElem?_eq_some_iff.1 hx).1
  show qaf_ _ l (Int.ofNat l.length) (i:Int) acc=_
  unfold qaf_
  rw [if_pos (by rw [q7_,q1_]; omega),qj_ hx,Option.bind_some,qm_ (by omega),two_eq,q15_ (by omega)]
 ·intro i acc x hx hI
  simp [two]
  omega
 ·intro self acc _
  show qaf_ _ l (Int.ofNat l.length) (l.length:Int) acc=_
  unfold qaf_
  rw [if_neg (by rw [q7_,q1_]; omega)]
 ·rw [List.drop_zero,foldl_app]
end Go.Proofs.Lx
end
section
namespace Pl
open Go Ev Sx
theorem loop_det {σ R:Type} {F:(σ->Option R)->σ->Option R} {mk:Nat->σ} {N:Nat} {r:Option R} (hs:∀ self i,i < N->F self (mk i)=self (mk (i + 1))) (he:∀ self,F self (mk N)=r) :
  ∀ (k i n:Nat),i + k=N->k < n->loopF F n (mk i)=r
 | _,_,0,_,h=>by omega
 | 0,i,n + 1,h,_=>by
  have:i=N:=by omega
  subst this
  rw [q20_,he]
 | k + 1,i,n + 1,h,hn=>by rw [q20_,hs _ _ (by omega),loop_det hs he k (i + 1) n (by omega) (by omega)]
theorem quo_nat {i d:Nat} (hi:i < 4611686018427387904):quo .i64 (i:Int) (d:Int)=((i / d:Nat):Int):=by
 unfold quo
 have h:=Nat.div_le_self i d
 have e:(i:Int).tdiv (d:Int)=((i / d:Nat):Int):=by rw [Int.ofNat_tdiv]
 rw [e]
 generalize i / d=q at h ⊢
 exact w64 (by omega) (by omega)
theorem rem_nat {i d:Nat}:rem (i:Int) (d:Int)=((i % d:Nat):Int):=by
 unfold rem
 rw [Int.ofNat_tmod]
theorem fill_step {α:Type} {f:Nat->α} {init:List α} {i:Nat} (hi:i < init.length):((List.range i).map f++init.drop i).set i (f i)=(List.range (i + 1)).map f++init.drop (i + 1):=by
 rw [List.drop_eq_getElem_cons hi,List.set_append_right _ _ (by simp)]
 simp only [List.length_map,List.length_range,Nat.sub_self,List.set_cons_zero,List.range_succ,List.map_append,List.map_cons,List.map_nil,List.append_assoc,List.singleton_append]
end Pl
namespace Go.Proofs.Lx
open Go Ev Sx Pl
set_option maxRecDepth 100000
def byteV:List Bool->Int
 | []=>0
 | b::r=>(if b=true then 1 else 0) + 2 * byteV r
theorem byteV_rng:∀ t:List Bool,0≤byteV t∧byteV t < 2 ^ t.length
 | []=>by simp [byteV]
 | b::r=>by
  have:=byteV_rng r
  rw [List.length_cons,Int.pow_succ]
  unfold byteV
  split <;> omega
theorem byteV_snoc (b:Bool):∀ t:List Bool,byteV (t++[b])=byteV t + (if b=true then 2 ^ t.length else 0)
 | []=>by cases b <;> rfl
 | a::r=>by
  rw [List.cons_append]
  unfold byteV
  rw [byteV_snoc b r,List.length_cons,Int.pow_succ]
  cases b <;> simp <;> omega
theorem byteV_bit:∀ (t:List Bool) (k:Nat),byteV t / 2 ^ k % 2=(if t.getD k false=true then 1 else 0)
 | [],k=>by simp [byteV]
 | b::r,0=>by
  unfold byteV
  cases b <;> simp <;> omega
 | b::r,k + 1=>by
  have:=byteV_bit r k
  rw [List.getD_cons_succ,<- this]
  have e:((if b=true then (1:Int) else 0) + 2 * byteV r) / 2 ^ (k + 1)=byteV r / 2 ^ k:=by
   rw [Int.pow_succ,Int.mul_comm (2 ^ k) 2,<- Int.ediv_ediv_of_nonneg (by decide)]
   congr 1
   split <;> omega
  show ((if b=true then (1:Int) else 0) + 2 * byteV r) / 2 ^ (k + 1) % 2=_
  rw [e]
def packN (n:Nat):Nat:=(n + 7) / 8
def packP (bits:List Bool) (i:Nat):List Int:=(List.range (packN bits.length)).map fun j=>byteV (((bits.take i).drop (8 * j)).take 8)
def packS (bits:List Bool):List Int:=(List.range (packN bits.length)).map fun j=>byteV ((bits.drop (8 * j)).take 8)
theorem packP_len (bits:List Bool) (i:Nat):(packP bits i).length=packN bits.length:=by simp [packP]
theorem q7s_ (bits:List Bool):(packS bits).length=packN bits.length:=by simp [packS]
theorem packP_all (bits:List Bool):packP bits bits.length=packS bits:=by unfold packP packS; rw [List.take_length]
theorem packP_zero (bits:List Bool):packP bits 0=List.replicate (packN bits.length) 0:=by
 unfold packP
 rw [List.take_zero]
 simp only [List.drop_nil,List.take_nil,byteV]
 exact List.map_const' ..|>.trans (by simp)
theorem chunk_next {bits:List Bool} {i j:Nat} {y:Bool} (hy:bits[i]? = some y):((bits.take (i + 1)).drop (8 * j)).take 8=((bits.take i).drop (8 * j)).take 8++(if j=i / 8 then [y] else []):=by
 have hi:=(List.getElem?_eq_some_iff.1 hy).1
 have e:bits.take (i + 1)=bits.take i++[y]:=by rw [List.take_add_one,hy]; rfl
 have hl:(bits.take i).length=i:=by rw [List.length_take]; omega
 by_cases h:j=i / 8
 ·rw [if_pos h,e,List.drop_append_of_le_length (by omega)]
  have h1:((bits.take i).drop (8 * j)++[y]).length≤8:=by rw [List.length_append,List.length_drop,hl,List.length_singleton]; omega
  rw [List.take_of_length_le h1,List.take_of_length_le (l:=(bits.take i).drop (8 * j)) (by rw [List.length_drop,hl]; omega)]
 ·rw [if_neg h,List.append_nil]
  by_cases h2:8 * j≤i
  ·rw [e,List.drop_append_of_le_length (by omega),List.take_append_of_le_length (by simp; omega)]
  ·rw [List.drop_of_length_le (by simp; omega),List.drop_of_length_le (by simp; omega)]
theorem packP_next {bits:List Bool} {i:Nat} {y:Bool} (hy:bits[i]? = some y) :
  ∃ v,(packP bits i)[i / 8]? = some v∧0≤v∧v < 2 ^ (i % 8)∧packP bits (i + 1)=(if y=true then (packP bits i).set (i / 8) (v + 2 ^ (i % 8)) else packP bits i):=by
 have hi:=(List.getElem?_eq_some_iff.1 hy).1
 have hm:i / 8 < packN bits.length:=by unfold packN; omega
 have hlen:((((bits.take i).drop (8 * (i / 8))).take 8)).length=i % 8:=by simp; omega
 refine ⟨byteV (((bits.take i).drop (8 * (i / 8))).take 8),?_,(byteV_rng _).1,?_,?_⟩
 ·unfold packP
  rw [List.getElem?_map,List.getElem?_range hm]
  rfl
 ·have:=(byteV_rng (((bits.take i).drop (8 * (i / 8))).take 8)).2
  rwa [hlen] at this
 ·apply List.ext_getElem?
  intro j
  have hj:∀ q,(packP bits q)[j]? = if j < packN bits.length then some (byteV (((bits.take q).drop (8 * j)).take 8)) else none:=by
   intro q
   unfold packP
   rw [List.getElem?_map]
   split
   ·rename_i h; rw [List.getElem?_range h]; rfl
   ·rename_i h; rw [List.getElem?_eq_none (by simp; omega)]; rfl
  rw [hj]
  by_cases hjm:j < packN bits.length
  ·rw [if_pos hjm,chunk_next hy]
   by_cases hji:j=i / 8
   ·rw [if_pos hji,byteV_snoc]
    cases y with
    | true =>
     rw [if_pos rfl,if_pos rfl,hji,hlen,List.getElem?_set_self (by rw [packP_len]; exact hm)]
    | false =>
     rw [if_neg (by decide),if_neg (by decide),hj,if_pos hjm,Int.add_zero]
   ·rw [if_neg hji,List.append_nil]
    cases y with
    | true=>rw [if_pos rfl,List.getElem?_set_ne (by omega),hj,if_pos hjm]
    | false=>rw [if_neg (by decide),hj,if_pos hjm]
  ·rw [if_neg hjm]
   cases y with
   | true=>rw [if_pos rfl,List.getElem?_set_ne (by omega),hj,if_neg hjm]
   | false=>rw [if_neg (by decide),hj,if_neg hjm]
theorem bor_bit {v:Int} {k:Nat} (h0:0≤v) (h1:v < 2 ^ k) (hk:k < 8):bor .u8 v (shl .u8 1 (k:Int))=v + 2 ^ k:=by
 have key:∀ (k:Fin 8) (v:Fin 128),v.1 < 2 ^ k.1->bor .u8 (v.1:Int) (shl .u8 1 (k.1:Int))=(v.1:Int) + 2 ^ k.1:=by decide +kernel
 obtain ⟨n,rfl⟩:=Int.eq_ofNat_of_zero_le h0
 have h2:n < 2 ^ k:=by exact_mod_cast h1
 have h3:2 ^ k≤2 ^ 7:=Nat.pow_le_pow_right (by decide) (by omega)
 exact key ⟨k,hk⟩ ⟨n,by omega⟩ h2
theorem pack_eq {bits:List Bool} (h:bits.length≤100000):qlt_ (bits,())=some (packS bits,()):=by
 show qpf_ qgz_ bits=_
 have hK:qgz_ bits (packN bits.length:Int)=some (packS bits,()):=by
  unfold qgz_ qte_
  have hN:packN bits.length≤100000:=by unfold packN; omega
  rw [q8_ (by rw [q12_]; omega),q8_ (capOk_self _),Int.toNat_natCast,qm_ (by omega)]
  unfold qpe_
  rw [<- packP_zero,<- packP_all]
  refine loop_det (mk:=fun i=>(bits,Int.ofNat bits.length,(i:Int),packP bits i)) (N:=bits.length) ?_ ?_ bits.length 0 _ (by omega) (by omega)
  ·intro self i hi
   have hy:bits[i]? = some (bits[i]'hi):=List.getElem?_eq_getElem hi
   obtain ⟨v,hv,h0,h1,e⟩:=packP_next hy
   show qgx_ _ bits (Int.ofNat bits.length) (i:Int) (packP bits i)=_
   unfold qgx_
   have hq:quo .i64 (i:Int) 8=((i / 8:Nat):Int):=quo_nat (d:=8) (by omega)
   have hr:rem (i:Int) 8=((i % 8:Nat):Int):=rem_nat (d:=8)
   rw [if_pos (by rw [q7_,q1_]; omega),qj_ hy,Option.bind_some,hq,hr,qj_ hv,q15_ (by omega)]
   simp only [Option.bind_some]
   rw [q8_ (by rw [q12_]; omega),bor_bit h0 h1 (Nat.mod_lt _ (by decide)),Int.toNat_natCast,e]
   split <;> rfl
  ·intro self
   show qgx_ _ bits (Int.ofNat bits.length) (bits.length:Int) (packP bits bits.length)=_
   unfold qgx_
   rw [if_neg (by rw [q7_,q1_]; omega)]
 unfold qpf_
 have hq:quo .i64 (Int.ofNat bits.length) 8=((bits.length / 8:Nat):Int):=quo_nat (d:=8) (by omega)
 rw [hq]
 split
 ·rename_i h1
  rw [gt_iff,q1_,show rem (bits.length:Int) 8=((bits.length % 8:Nat):Int) from rem_nat (d:=8)] at h1
  rw [q15_ (by omega)]
  have:bits.length / 8 + 1=packN bits.length:=by unfold packN; omega
  rw [this]
  exact hK
 ·rename_i h1
  rw [gt_iff,q1_,show rem (bits.length:Int) 8=((bits.length % 8:Nat):Int) from rem_nat (d:=8)] at h1
  have:bits.length / 8=packN bits.length:=by unfold packN; omega
  rw [this]
  exact hK
def bitV (y:Int) (k:Nat):Bool:=eqi (band .u8 (shr .u8 y (k:Int)) 1) 1
theorem bitV_eq {y:Int} {k:Nat} (h0:0≤y) (h1:y < 256) (hk:k < 8):bitV y k=decide (y / 2 ^ k % 2=1):=by
 have key:∀ (k:Fin 8) (v:Fin 256),bitV (v.1:Int) k.1=decide ((v.1:Int) / 2 ^ k.1 % 2=1):=by decide +kernel
 obtain ⟨n,rfl⟩:=Int.eq_ofNat_of_zero_le h0
 exact key ⟨k,hk⟩ ⟨n,by omega⟩
def unpackS (b:List Int):List Bool:=(List.range (8 * b.length)).map fun i=>bitV (b.getD (i / 8) 0) (i % 8)
theorem unpack_eq {b:List Int} (h:b.length≤100000):qf9_ (b,())=some (unpackS b,()):=by
 show qkm_ qg5_ b=_
 unfold qkm_
 have hm:mul .i64 8 (Int.ofNat b.length)=((8 * b.length:Nat):Int):=by
  rw [mul64 (by rw [q1_]; omega) (by rw [q1_]; omega)]
  simp
 rw [hm,q8_ (by rw [q12_]; omega),q8_ (capOk_self _),Int.toNat_natCast,qm_ (by omega),List.length_replicate]
 unfold qg5_ unpackS
 refine (loop_det (mk:=fun i=>(b,Int.ofNat (8 * b.length),(i:Int),(List.range i).map (fun i=>bitV (b.getD (i / 8) 0) (i % 8))++(List.replicate (8 * b.length) false).drop i)) (N:=8 * b.length) ?_ ?_ (8 * b.length) 0 _ (by omega) (by omega))
 ·intro self i hi
  show qbo_ _ b (Int.ofNat (8 * b.length)) (i:Int) _=_
  unfold qbo_
  have hq:quo .i64 (i:Int) 8=((i / 8:Nat):Int):=quo_nat (d:=8) (by omega)
  have hr:rem (i:Int) 8=((i % 8:Nat):Int):=rem_nat (d:=8)
  have hlt:i / 8 < b.length:=by omega
  have hb:b[i / 8]? = some (b[i / 8]'hlt):=List.getElem?_eq_getElem hlt
  have hlen:((List.range i).map (fun i=>bitV (b.getD (i / 8) 0) (i % 8))++(List.replicate (8 * b.length) false).drop i).length=8 * b.length:=by simp; omega
  have ho:((List.range i).map (fun i=>bitV (b.getD (i / 8) 0) (i % 8))++(List.replicate (8 * b.length) false).drop i)[i]? = some (((List.range i).map (fun i=>bitV (b.getD (i / 8) 0) (i % 8))++(List.replicate (8 * b.length) false).drop i)[i]'(by omega)):=List.getElem?_eq_getElem (by omega)
  rw [if_pos (by rw [q7_,q1_]; omega),hq,hr,qj_ hb,Option.bind_some,q8_ (by rw [q12_]; omega),qj_ ho,Option.bind_some,Option.bind_some,q15_ (by omega),Int.toNat_natCast]
  have e:eqi (band .u8 (shr .u8 (b[i / 8]'hlt) ((i % 8:Nat):Int)) 1) 1=bitV (b.getD (i / 8) 0) (i % 8):=by
   rw [List.getD_eq_getElem?_getD,hb]
   rfl
  rw [e,fill_step (f:=fun i=>bitV (b.getD (i / 8) 0) (i % 8)) (by simp; omega)]
 ·intro self
  show qbo_ _ b (Int.ofNat (8 * b.length)) ((8 * b.length:Nat):Int) _=_
  unfold qbo_
  rw [if_neg (by rw [q7_,q1_]; omega),List.drop_of_length_le (by simp),List.append_nil]
end Go.Proofs.Lx
end
section
namespace Go.Proofs.Lx
open Go Ev Sx Pl
set_option maxRecDepth 100000
inductive RA:TA->Prop where
 | bits (f p n:Int) (hf:f=1∨f=2) (h1:1≤n) (h2:n≤2000):RA (f,p,n,0,[],[])
 | words (f p n:Int) (hf:f=3∨f=4) (h1:1≤n) (h2:n≤125):RA (f,p,n,0,[],[])
 | coil (p:Int) (b:Bool):RA (5,p,0,0,[],[b])
 | word (p:Int) (x:Int):RA (6,p,0,0,[x],[])
 | coils (p:Int) (l:List Bool) (h1:1≤l.length) (h2:l.length≤1968):RA (15,p,(l.length:Int),0,[],l)
 | regs (p:Int) (l:List Int) (h1:1≤l.length) (h2:l.length≤123):RA (16,p,(l.length:Int),0,l,[])
 | swap (p n t:Int) (l:List Int) (h1:1≤l.length) (h2:l.length≤121) (h3:1≤n) (h4:n≤125):RA (23,p,n,t,l,[])
theorem within0 {n:Int} (h:withinV n 0=true):n=0:=q4_.1 h
theorem within1 {n m:Int} (hm:0 < m) (h:withinV n m=true):1≤n∧n≤m:=by
 unfold withinV at h
 rw [if_neg (by rw [q4_]; omega)] at h
 split at h
 ·rename_i h1; exact ⟨q12_.1 h1,qs_.1 h⟩
 ·cases h
theorem len0 {α:Type} {l:List α} (h:Int.ofNat l.length=0):l=[]:=by
 rw [q1_] at h
 exact List.eq_nil_of_length_eq_zero (by omega)
theorem len1 {α:Type} {l:List α} (h:1≤Int.ofNat l.length∧Int.ofNat l.length≤1):∃ x,l=[x]:=by
 rw [q1_] at h
 exact List.length_eq_one_iff.1 (by omega)
theorem q5a_ {a:TA} (hr:q21_ a=true):RA a:=by
 obtain ⟨f,p,n,t,ws,bs⟩:=a
 unfold q21_ at hr
 simp only at hr
 rcases shp_cases f with ⟨hf,e⟩ | ⟨hf,e⟩ | ⟨hf,e⟩ | ⟨hf,e⟩ | ⟨hf,e⟩ | ⟨hf,e⟩ | ⟨hf,e⟩ | ⟨hf,e⟩ <;> rw [e] at hr <;> simp only [rightS,Bool.and_eq_true,Bool.false_or,Bool.true_or,Bool.not_false,Bool.not_true,true_and,and_true] at hr
 ·obtain ⟨h1,h2,h3,h4⟩:=hr
  have h2:=within1 (by decide) h2
  rw [q4_.1 h1,len0 (within0 h3),len0 (within0 h4)]
  exact .bits f p n hf h2.1 h2.2
 ·obtain ⟨h1,h2,h3,h4⟩:=hr
  have h2:=within1 (by decide) h2
  rw [q4_.1 h1,len0 (within0 h3),len0 (within0 h4)]
  exact .words f p n hf h2.1 h2.2
 ·obtain ⟨h1,h2,h3,h4⟩:=hr
  obtain ⟨b,rfl⟩:=len1 (within1 (by decide) h3)
  rw [q4_.1 h1,within0 h2,len0 (within0 h4),hf]
  exact .coil p b
 ·obtain ⟨h1,h2,h3,h4⟩:=hr
  obtain ⟨b,rfl⟩:=len1 (within1 (by decide) h4)
  rw [q4_.1 h1,within0 h2,len0 (within0 h3),hf]
  exact .word p b
 ·obtain ⟨h1,h2,h3,h4,h5⟩:=hr
  have h3:=within1 (by decide) h3
  have e4:=len0 (within0 h4)
  subst e4
  rw [q4_.1 h1,<- q4_.1 h5,hf]
  rw [q1_] at h3
  exact .coils p bs (by omega) (by omega)
 ·obtain ⟨h1,h2,h3,h4,h5⟩:=hr
  have h4:=within1 (by decide) h4
  have e3:=len0 (within0 h3)
  subst e3
  have e5:(ws.length:Int)=n:=by have:=q4_.1 h5; simpa using this
  rw [q4_.1 h1,<- e5,hf]
  rw [q1_] at h4
  exact .regs p ws (by omega) (by omega)
 ·obtain ⟨h2,h3,h4⟩:=hr
  have h2:=within1 (by decide) h2
  have h4:=within1 (by decide) h4
  rw [len0 (within0 h3),hf]
  rw [q1_] at h4
  exact .swap p n t ws (by omega) (by omega) h2.1 h2.2
 ·cases hr
def askB (a:TA):List Int :=
 if a.1=5 then a.1::two a.2.1++two (if a.2.2.2.2.2.headD false=true then 65280 else 0)
 else if a.1=6 then a.1::two a.2.1++a.2.2.2.2.1.flatMap two
 else if a.1=15 then a.1::two a.2.1++two a.2.2.1++[(packN a.2.2.2.2.2.length:Int)]++packS a.2.2.2.2.2
 else if a.1=16 then a.1::two a.2.1++two a.2.2.1++[2 * (a.2.2.2.2.1.length:Int)]++a.2.2.2.2.1.flatMap two
 else if a.1=23 then a.1::two a.2.1++two a.2.2.1++two a.2.2.2.1++two (a.2.2.2.2.1.length:Int)++[2 * (a.2.2.2.2.1.length:Int)]++a.2.2.2.2.1.flatMap two
 else a.1::two a.2.1++two a.2.2.1
theorem q7j_ (l:List Int):(l.flatMap two).length=2 * l.length:=by
 induction l with
 | nil=>rfl
 | cons x r ih=>rw [List.flatMap_cons,List.length_append,ih]; simp [two]; omega
theorem two_len (x:Int):(two x).length=2:=rfl
theorem askB_len {a:TA} (h:RA a):5≤(askB a).length∧(askB a).length≤253:=by
 cases h with
 | bits f p n hf h1 h2=>rcases hf with rfl | rfl <;> exact ⟨Nat.le.refl,(by decide:5≤253)⟩
 | words f p n hf h1 h2=>rcases hf with rfl | rfl <;> exact ⟨Nat.le.refl,(by decide:5≤253)⟩
 | coil p b=>exact ⟨Nat.le.refl,(by decide:5≤253)⟩
 | word p x=>exact ⟨Nat.le.refl,(by decide:5≤253)⟩
 | coils p l h1 h2 =>
  show 5≤((15:Int)::two p++two _++[_]++packS l).length∧((15:Int)::two p++two _++[_]++packS l).length≤253
  simp only [List.length_append,List.length_cons,List.length_nil,q7s_,two_len]
  unfold packN
  omega
 | regs p l h1 h2 =>
  show 5≤((16:Int)::two p++two _++[_]++l.flatMap two).length∧((16:Int)::two p++two _++[_]++l.flatMap two).length≤253
  simp only [List.length_append,List.length_cons,List.length_nil,q7j_,two_len]
  omega
 | swap p n t l h1 h2 h3 h4 =>
  show 5≤((23:Int)::two p++two _++two _++two _++[_]++l.flatMap two).length∧((23:Int)::two p++two _++two _++two _++[_]++l.flatMap two).length≤253
  simp only [List.length_append,List.length_cons,List.length_nil,q7j_,two_len]
  omega
abbrev BO:=Option (As [.sl (.int .u8),.int .i64])
theorem bK0 (f p n s1:Int) (out:List Int) (h5:f=1∨f=2∨f=3∨f=4):q5l_ f p n 0 [] [] s1 0 0 false false out=some (out,0,()):=by
 rcases h5 with rfl | rfl | rfl | rfl <;> rfl
theorem bK5 (p:Int) (b:Bool) (out:List Int):q5l_ 5 p 0 0 [] [b] 0 1 0 false false out=Option.bind (q1z_ ([if b=true then 65280 else 0],out,())) fun y=>(some (y.1,0,()):BO):=by
 cases b <;> rfl
theorem bK6 (p x:Int) (out:List Int):q5l_ 6 p 0 0 [x] [] 0 0 1 false false out=Option.bind (q1z_ ([x],out,())) fun y=>(some (y.1,0,()):BO):=rfl
theorem bK15 (p n:Int) (l:List Bool) (out:List Int):q5l_ 15 p n 0 [] l 1968 1968 0 false true out =
  Option.bind (qlt_ (l,())) fun y=>need (small (out.length + 1)) (need (small ((out++[Int.ofNat (y.1.length % 256)]).length + y.1.length)) (some (out++[Int.ofNat (y.1.length % 256)]++y.1,0,()):BO)):=rfl
theorem bK16 (p n:Int) (l out:List Int):q5l_ 16 p n 0 l [] 123 0 123 false true out =
  need (small (out.length + 1)) (Option.bind (q1z_ (l,out++[cvt .u8 (mul .i64 2 (Int.ofNat l.length))],())) fun y=>(some (y.1,0,()):BO)):=rfl
theorem bK23 (p n t:Int) (l out:List Int):q5l_ 23 p n t l [] 125 0 121 true false out =
  Option.bind (q1z_ ([t,Int.ofNat (l.length % 65536)],out,())) fun y=>need (small (y.1.length + 1)) (Option.bind (q1z_ (l,y.1++[cvt .u8 (mul .i64 2 (Int.ofNat l.length))],())) fun y=>(some (y.1,0,()):BO)):=rfl
theorem nums1 (x:Int) {out:List Int} (h:out.length≤900000):q1z_ ([x],out,())=some (out++two x,()):=by
 rw [numbers_eq (by simp; omega)]
 simp
theorem quj_ {a:TA} (h:OkA a):q3f_ (a,())=if q21_ a=true then some (askB a,0,()) else some ([],12,()):=by
 show qn1_ q5l_ a=_
 unfold qn1_
 rw [right_eq h,Option.bind_some]
 cases hr:q21_ a with
 | false=>rfl
 | true =>
  have hra:=q5a_ hr
  rw [if_neg (by decide),if_pos rfl,shape_eq,Option.bind_some]
  clear hr h
  have hin:∀ f p:Int,q1z_ ([p],[f],())=some (f::two p,()):=fun f p=>nums1 p (by simp)
  have hin2:∀ f p n:Int,q1z_ ([n],f::two p,())=some (f::two p++two n,()):=fun f p n=>nums1 n (by simp [two])
  cases hra with
  | bits f p n hf h1 h2 =>
   rcases hf with rfl | rfl <;> rw [hin,Option.bind_some,if_pos (by rfl),hin2,Option.bind_some]
   ·exact bK0 1 p n 2000 _ (.inl rfl)
   ·exact bK0 2 p n 2000 _ (.inr (.inl rfl))
  | words f p n hf h1 h2 =>
   rcases hf with rfl | rfl <;> rw [hin,Option.bind_some,if_pos (by rfl),hin2,Option.bind_some]
   ·exact bK0 3 p n 125 _ (.inr (.inr (.inl rfl)))
   ·exact bK0 4 p n 125 _ (.inr (.inr (.inr rfl)))
  | coil p b =>
   rw [hin,Option.bind_some,if_neg (by show ¬ gt 0 0=true; decide)]
   exact (bK5 p b _).trans (by rw [nums1 _ (by simp [two]),Option.bind_some]; rfl)
  | word p x =>
   rw [hin,Option.bind_some,if_neg (by show ¬ gt 0 0=true; decide)]
   exact (bK6 p x _).trans (by rw [nums1 _ (by simp [two]),Option.bind_some]; simp [askB])
  | coils p l h1 h2 =>
   rw [hin,Option.bind_some,if_pos (by rfl),hin2,Option.bind_some]
   refine (bK15 p _ l _).trans ?_
   rw [pack_eq (by omega),Option.bind_some,qm_ (by simp [two]),qm_ (by simp [two,q7s_,packN]; omega)]
   refine congrArg (fun x=>some (x,0,())) ?_
   have e:packN l.length % 256=packN l.length:=by unfold packN; omega
   rw [q7s_,e]
   rfl
  | regs p l h1 h2 =>
   rw [hin,Option.bind_some,if_pos (by rfl),hin2,Option.bind_some]
   refine (bK16 p _ l _).trans ?_
   rw [qm_ (by simp [two]),mul64 (by rw [q1_]; omega) (by rw [q1_]; omega),cvt8,numbers_eq (by simp [two]; omega),Option.bind_some]
   refine congrArg (fun x=>some (x,0,())) ?_
   have e:(2 * Int.ofNat l.length) % 256=2 * (l.length:Int):=by rw [q1_]; omega
   rw [e]
   rfl
  | swap p n t l h1 h2 h3 h4 =>
   rw [hin,Option.bind_some,if_pos (by rfl),hin2,Option.bind_some]
   refine (bK23 p n t l _).trans ?_
   rw [numbers_eq (by simp [two]),Option.bind_some,qm_ (by simp [two]),mul64 (by rw [q1_]; omega) (by rw [q1_]; omega),cvt8,numbers_eq (by simp [two]; omega),Option.bind_some]
   refine congrArg (fun x=>some (x,0,())) ?_
   have e:(2 * Int.ofNat l.length) % 256=2 * (l.length:Int):=by rw [q1_]; omega
   have e2:Int.ofNat (l.length % 65536)=(l.length:Int):=by rw [q1_]; omega
   rw [e,e2]
   simp [askB]
end Go.Proofs.Lx
end
section
namespace Pl
open Go Ev Sx
theorem zip_at {α β:Type} {s1:List α} {s2:List β} (h:s1.length=s2.length) {i:Nat} {x:α×β} (hx:(s1.zip s2)[i]? = some x):s1[i]? = some x.1∧s2[i]? = some x.2:=by
 rw [List.getElem?_zip_eq_some] at hx
 exact hx
theorem goL_eq {α:Type} [DecidableEq α] {ne:α->α->Bool} (hne:∀ a b,ne a b=!decide (a=b)):∀ (s1 s2:List α),s1.length=s2.length ->
  goL (R:=Bool×Unit) (fun (_:Unit) (x:α×α) k=>if ne x.1 x.2=true then some (false,()) else k ()) (fun _=>some (true,())) (s1.zip s2) ()=some (decide (s1=s2),())
 | [],[],_=>rfl
 | a::r,b::q,h=>by
  rw [List.zip_cons_cons]
  show (if ne a b=true then some (false,()) else goL _ _ (r.zip q) ())=_
  rw [hne]
  by_cases e:a=b
  ·subst e
   rw [if_neg (by simp),goL_eq hne r q (by simpa using h)]
   simp
  ·rw [if_pos (by simp [e])]
   simp [e]
end Pl
namespace Go.Proofs.Lx
open Go Ev Sx Pl
set_option maxRecDepth 100000
theorem equalW_eq {s1 s2:List Int} (h:s1.length≤1000000):q30_ (s1,s2,())=some (decide (s1=s2),()):=by
 show q7t_ q53_ s1 s2=_
 unfold q7t_
 by_cases hl:s1.length=s2.length
 ·rw [if_neg (by rw [qk_,q1_,q1_]; omega)]
  unfold q53_
  have hz:(s1.zip s2).length=s1.length:=by rw [List.length_zip]; omega
  rw [<- goL_eq (ne:=nei) (fun a b=>by simp [nei]; rfl) s1 s2 hl]
  refine loop_go (xs:=s1.zip s2) (mk:=fun i _=>(s1,s2,Int.ofNat s1.length,(i:Int))) ?_ ?_ s1.length 0 () _ (by rw [hz]; omega) (by omega)
  ·intro self i acc x hx
   have hi:=(List.getElem?_eq_some_iff.1 hx).1
   obtain ⟨h1,h2⟩:=zip_at hl hx
   show q3r_ _ s1 s2 (Int.ofNat s1.length) (i:Int)=_
   unfold q3r_
   rw [if_pos (by rw [q7_,q1_]; omega),qj_ h1,Option.bind_some,qj_ h2,Option.bind_some,q15_ (by omega)]
  ·intro self acc
   show q3r_ _ s1 s2 (Int.ofNat s1.length) (((s1.zip s2).length:Nat):Int)=_
   unfold q3r_
   rw [if_neg (by rw [q7_,q1_]; omega)]
 ·rw [if_pos (by rw [qk_,q1_,q1_]; omega),decide_eq_false (fun e=>hl (by rw [e]))]
theorem equalB_eq {s1 s2:List Bool} (h:s1.length≤1000000):q6o_ (s1,s2,())=some (decide (s1=s2),()):=by
 show q8u_ q6b_ s1 s2=_
 unfold q8u_
 by_cases hl:s1.length=s2.length
 ·rw [if_neg (by rw [qk_,q1_,q1_]; omega)]
  unfold q6b_
  have hz:(s1.zip s2).length=s1.length:=by rw [List.length_zip]; omega
  rw [<- goL_eq (ne:=neb) (fun a b=>by cases a <;> cases b <;> rfl) s1 s2 hl]
  refine loop_go (xs:=s1.zip s2) (mk:=fun i _=>(s1,s2,Int.ofNat s1.length,(i:Int))) ?_ ?_ s1.length 0 () _ (by rw [hz]; omega) (by omega)
  ·intro self i acc x hx
   have hi:=(List.getElem?_eq_some_iff.1 hx).1
   obtain ⟨h1,h2⟩:=zip_at hl hx
   show q4g_ _ s1 s2 (Int.ofNat s1.length) (i:Int)=_
   unfold q4g_
   rw [if_pos (by rw [q7_,q1_]; omega),qj_ h1,Option.bind_some,qj_ h2,Option.bind_some,q15_ (by omega)]
  ·intro self acc
   show q4g_ _ s1 s2 (Int.ofNat s1.length) (((s1.zip s2).length:Nat):Int)=_
   unfold q4g_
   rw [if_neg (by rw [q7_,q1_]; omega)]
 ·rw [if_pos (by rw [qk_,q1_,q1_]; omega),decide_eq_false (fun e=>hl (by rw [e]))]
abbrev BB:=Option (As [.bool])
theorem if_dec {p:Prop} [Decidable p] {b:Bool} {k:BB} {q:Bool} (h:b=true ↔ p) (hk:p->k=some (q,())):(if b=true then k else some (false,()))=some (decide p && q,()):=by
 by_cases hp:p
 ·rw [if_pos (h.2 hp),hk hp,decide_eq_true hp]; rfl
 ·rw [if_neg (fun e=>hp (h.1 e)),decide_eq_false hp]; rfl
instance decA5:DecidableEq (Int×Int×Int×List Int×List Bool):=inferInstance
instance decA:DecidableEq TA:=inferInstance
abbrev TP:=Int×Int×Int×Int×Bool×TA×Int×Int×Int
instance decP1:DecidableEq (TA×Int×Int×Int):=inferInstance
instance decP2:DecidableEq (Int×Bool×TA×Int×Int×Int):=inferInstance
instance decP:DecidableEq TP:=inferInstance
theorem eqb_iff {a b:Bool}:eqb a b=true ↔ a=b:=by cases a <;> cases b <;> decide
theorem q4t_ {s:List Int} (h:s.length≤1000000):qf_ (s,())=some (s,()):=by
 show qbk_ s=_
 unfold qbk_
 split
 ·rename_i h0
  rw [len0 (q4_.1 h0)]
  rfl
 ·rw [qm_ (by omega)]
  all_goals rfl
theorem cloneB_eq {s:List Bool} (h:s.length≤1000000):q63_ (s,())=some (s,()):=by
 show qe0_ s=_
 unfold qe0_
 split
 ·rename_i h0
  rw [len0 (q4_.1 h0)]
  rfl
 ·rw [qm_ (by omega)]
  all_goals rfl
def mbapV (tx unit:Int) (pdu:List Int):List Int:=[tx / 256 % 256,tx % 256,0,0,0,(pdu.length + 1:Nat) % 256,unit]++pdu
theorem q1az_ {tx unit:Int} {pdu:List Int} (h1:1≤pdu.length) (h2:pdu.length≤253):qq7_ ((tx,unit,pdu),())=some (mbapV tx unit pdu,0,()):=by
 show qoe_ qmu_ (tx,unit,pdu)=_
 unfold qoe_
 rw [if_neg (by rw [q7_]; simp only [q1_]; omega)]
 show qmd_ (Int.ofNat pdu.length) (gt (Int.ofNat pdu.length) 253) (tx,unit,pdu)=_
 unfold qmd_
 dsimp only
 have e:add .i64 7 (Int.ofNat pdu.length)=((7 + pdu.length:Nat):Int):=addn64 (n:=7) (by omega)
 rw [if_neg (by rw [gt_iff,q1_]; omega),e,q8_ (capOk_0 (by omega)),q8_ (by rw [small_iff]; omega),qm_ (by omega),qm_ (by simp; omega),cvt8,cvt8,cvt8,shr8 _ _ (by decide),q1_,q15_ (by omega)]
 rfl
theorem rtub_eq {unit:Int} {pdu:List Int} (hu:1≤unit) (hu2:unit≤247) (h1:1≤pdu.length) (h2:pdu.length≤253):qq4_ (unit,pdu,())=some (putV (unit::pdu),0,()):=by
 show qo2_ qnr_ unit pdu=_
 unfold qo2_
 have e:qfo_ (unit,())=some (true,()):=by
  show qgg_ unit=_
  unfold qgg_
  rw [if_pos (q12_.2 hu),qs_.2 hu2]
 rw [e,Option.bind_some,if_neg (by decide),if_neg (by rw [q7_,q1_]; omega)]
 show qo6_ unit pdu (gt (Int.ofNat pdu.length) 253)=_
 unfold qo6_
 rw [if_neg (by rw [gt_iff,q1_]; omega),qm_ (by omega),put_eq (by simp; omega),Option.bind_some]
structure OkP (p:TP):Prop where
 u0:1≤p.1
 u1:p.1≤247
 l:p.2.1=1∨p.2.1=2
 t0:1≤p.2.2.1
 t1:p.2.2.1≤100000
 r0:0≤p.2.2.2.1
 r1:p.2.2.2.1≤1000
 a:OkA p.2.2.2.2.2.1
 x0:0≤p.2.2.2.2.2.2.1
 x1:p.2.2.2.2.2.2.1≤65535
def zA:TA:=(0,0,0,0,[],[])
end Go.Proofs.Lx
end
section
namespace Pl
open Go Ev Sx
theorem shl8 {y:Int} (h0:0≤y) (h1:y≤255):shl .u16 (cvt .u16 y) 8=256 * y:=by
 rw [cvt16]
 unfold shl
 have:min (8:Int).toNat IntKind.u16.bits=8:=by decide
 rw [this,wr16]
 omega
theorem bor_hi {a b:Int} (ha:0≤a) (ha2:a≤255) (hb:0≤b) (hb':b≤255):bor .u16 (256 * a) b=256 * a + b:=by
 obtain ⟨n,rfl⟩:=Int.eq_ofNat_of_zero_le ha
 obtain ⟨m,rfl⟩:=Int.eq_ofNat_of_zero_le hb
 unfold bor
 rw [wr16]
 have e1:(BitVec.ofInt IntKind.u16.bits (256 * (n:Int))).toNat=256 * n:=by
  rw [BitVec.toNat_ofInt]
  have:((2 ^ IntKind.u16.bits:Nat):Int)=65536:=by decide
  rw [this]
  omega
 have e2:(BitVec.ofInt IntKind.u16.bits (m:Int)).toNat=m:=by
  rw [BitVec.toNat_ofInt]
  have:((2 ^ IntKind.u16.bits:Nat):Int)=65536:=by decide
  rw [this]
  omega
 rw [BitVec.toNat_or,e1,e2]
 have e3:256 * n ||| m=256 * n + m:=by
  have:=Nat.two_pow_add_eq_or_of_lt (i:=8) (b:=m) (by omega) n
  rw [show (2:Nat) ^ 8=256 from rfl] at this
  exact this.symm
 rw [e3]
 omega
theorem bor_comm {a b:Int}:bor .u16 a b=bor .u16 b a:=by
 unfold bor
 rw [BitVec.or_comm]
def numV (y z:Int):Int:=bor .u16 (shl .u16 (cvt .u16 y) 8) (cvt .u16 z)
theorem numV_rng (y z:Int):0≤numV y z∧numV y z < 65536:=u16_rng _
theorem numV_eq {y z:Int} (h0:0≤y) (h1:y≤255) (h2:0≤z) (h3:z≤255):numV y z=256 * y + z:=by
 unfold numV
 rw [shl8 h0 h1,cvt16]
 have:z % 65536=z:=by omega
 rw [this,bor_hi h0 h1 h2 h3]
def listS (b:List Int):List Int:=(List.range (b.length / 2)).map fun i=>numV (b.getD (2 * i) 0) (b.getD (2 * i + 1) 0)
end Pl
namespace Go.Proofs.Lx
open Go Ev Sx Pl
set_option maxRecDepth 100000
abbrev TR:=Int×Int×List Bool×List Int×Int×Int
instance decR5:DecidableEq (Int×List Bool×List Int×Int×Int):=inferInstance
instance decR:DecidableEq TR:=inferInstance
def zR:TR:=(0,0,[],[],0,0)
structure SmR (r:TR):Prop where
 b:r.2.2.1.length≤100000
 w:r.2.2.2.1.length≤100000
theorem sameR_eq {a b:TR} (h:SmR a):q9h_ (a,b,())=some (decide (a=b),()):=by
 show qr0_ a b=_
 unfold qr0_
 have h1:=h.b
 have h2:=h.w
 rw [equalW_eq (by omega),Option.bind_some,equalB_eq (by omega),Option.bind_some]
 obtain ⟨a1,a2,a3,a4,a5,a6⟩:=a
 obtain ⟨b1,b2,b3,b4,b5,b6⟩:=b
 rw [if_dec (q4_) fun _=>if_dec (q4_) fun _=>if_dec (q4_) fun _=>if_dec (q4_) fun _=>if_dec (p:=a3=b3) (by simp) fun _=>rfl]
 refine congrArg (fun x=>some (x,())) ?_
 rw [Bool.eq_iff_iff]
 simp only [Bool.and_eq_true,decide_eq_true_eq,Prod.ext_iff]
 constructor
 ·rintro ⟨h1,h2,h3,h4,h5,h6⟩; exact ⟨h1,h2,h5,h6,h3,h4⟩
 ·rintro ⟨h1,h2,h5,h6,h3,h4⟩; exact ⟨h1,h2,h3,h4,h5,h6⟩
def exR (r:TR):Bool:=decide (r.1 < 128) && (decide (1≤r.2.1) && (decide (r.2.1≤4) && decide (r=(rem r.1 128,r.2.1,[],[],0,0))))
def bitR (r:TR):Bool:=decide (8≤r.2.2.1.length) && (decide (r.2.2.1.length≤2000) && (decide (r.2.2.1.length % 8=0) && decide (r=(r.1,0,r.2.2.1,[],0,0))))
def wordR (r:TR):Bool:=decide (1≤r.2.2.2.1.length) && (decide (r.2.2.2.1.length≤125) && decide (r=(r.1,0,[],r.2.2.2.1,0,0)))
def obR (r:TR):Bool:=decide (r.2.2.1.length=1) && decide (r=(r.1,0,r.2.2.1,[],r.2.2.2.2.1,0))
def owR (r:TR):Bool:=decide (r.2.2.2.1.length=1) && decide (r=(r.1,0,[],r.2.2.2.1,r.2.2.2.2.1,0))
def ctR (k:Int) (r:TR):Bool:=decide (1≤r.2.2.2.2.2) && (decide (r.2.2.2.2.2≤k) && decide (r=(r.1,0,[],[],r.2.2.2.2.1,r.2.2.2.2.2)))
theorem exR_eq {r:TR} (h:SmR r):q2q_ ((),r,())=some (exR r,()):=by
 show qar_ () r=_
 unfold qar_ exR
 have e:ql_ (r.1,r.2.1,())=some ((rem r.1 128,r.2.1,[],[],0,0),()):=rfl
 rw [e,Option.bind_some,sameR_eq h,Option.bind_some]
 rw [if_dec (q7_) fun _=>if_dec (q12_) fun _=>if_dec (qs_) fun _=>rfl]
theorem bitR_eq {r:TR} (h:SmR r):q1f_ ((),r,())=some (bitR r,()):=by
 show qcu_ () r=_
 unfold qcu_ bitR
 rw [sameR_eq h,Option.bind_some]
 rw [if_dec (p:=8≤r.2.2.1.length) (by rw [q12_,q1_]; omega) fun _=>if_dec (p:=r.2.2.1.length≤2000) (by rw [qs_,q1_]; omega) fun _=>if_dec (p:=r.2.2.1.length % 8=0) (by rw [q4_,q1_,show rem (r.2.2.1.length:Int) 8=((r.2.2.1.length % 8:Nat):Int) from rem_nat (d:=8)]; omega) fun _=>rfl]
theorem wordR_eq {r:TR} (h:SmR r):q1c_ ((),r,())=some (wordR r,()):=by
 show qbm_ () r=_
 unfold qbm_ wordR
 rw [sameR_eq h,Option.bind_some]
 rw [if_dec (p:=1≤r.2.2.2.1.length) (by rw [q12_,q1_]; omega) fun _=>if_dec (p:=r.2.2.2.1.length≤125) (by rw [qs_,q1_]; omega) fun _=>rfl]
theorem obR_eq {r:TR} (h:SmR r):q3n_ ((),r,())=some (obR r,()):=by
 show qeb_ () r=_
 unfold qeb_ obR
 rw [sameR_eq h,Option.bind_some]
 rw [if_dec (p:=r.2.2.1.length=1) (by rw [q4_,q1_]; omega) fun _=>rfl]
theorem owR_eq {r:TR} (h:SmR r):q3g_ ((),r,())=some (owR r,()):=by
 show qd7_ () r=_
 unfold qd7_ owR
 rw [sameR_eq h,Option.bind_some]
 rw [if_dec (p:=r.2.2.2.1.length=1) (by rw [q4_,q1_]; omega) fun _=>rfl]
theorem ctR_eq {r:TR} {k:Int} (h:SmR r):q1x_ (k,r,())=some (ctR k r,()):=by
 show qf6_ k r=_
 unfold qf6_ ctR
 rw [sameR_eq h,Option.bind_some]
 rw [if_dec (q12_) fun _=>if_dec (qs_) fun _=>rfl]
def rightR (r:TR):Bool:=if nei r.2.1 0=true then exR r else if eqi r.1 1=true then bitR r else if eqi r.1 2=true then bitR r else if eqi r.1 3=true then wordR r else if eqi r.1 4=true then wordR r else if eqi r.1 23=true then wordR r else
 if eqi r.1 5=true then obR r else if eqi r.1 6=true then owR r else if eqi r.1 15=true then ctR 1968 r else if eqi r.1 16=true then ctR 123 r else false
def exB (r:TR):List Int:=[add .u8 r.1 128,r.2.1]
def bitB (r:TR):List Int:=r.1::(packN r.2.2.1.length:Int) % 256::packS r.2.2.1
def wordB (r:TR):List Int:=[r.1,2 * (r.2.2.2.1.length:Int) % 256]++r.2.2.2.1.flatMap two
def obB (r:TR):List Int:=r.1::two r.2.2.2.2.1++two (if r.2.2.1.headD false=true then 65280 else 0)
def owB (r:TR):List Int:=r.1::two r.2.2.2.2.1++two (r.2.2.2.1.headD 0)
def ctB (r:TR):List Int:=r.1::two r.2.2.2.2.1++two r.2.2.2.2.2
theorem rnumbers_eq {l out:List Int} (h:out.length + 2 * l.length≤1000000):q5q_ (l,out,())=some (out++l.flatMap two,()):=by
 show qfv_ qam_ l out=_
 unfold qfv_ qam_
 refine (loop_idx (xs:=l) (mk:=fun i acc=>(l,Int.ofNat l.length,(i:Int),acc)) (stp:=fun o y=>o++two y) (fin:=fun acc=>some (acc,())) (fun i acc=>acc.length≤out.length + 2 * i) ?_ ?_ ?_ l.length 0 out _ (by omega) (by omega) (by omega)).trans ?_
 ·intro self i acc x hx hI
  have hi:=(List.getElem?_eq_some_iff.1 hx).1
  show q81_ _ l (Int.ofNat l.length) (i:Int) acc=_
  unfold q81_
  rw [if_pos (by rw [q7_,q1_]; omega),qj_ hx,Option.bind_some,qm_ (by omega),two_eq,q15_ (by omega)]
 ·intro i acc x hx hI
  simp [two]
  omega
 ·intro self acc _
  show q81_ _ l (Int.ofNat l.length) (l.length:Int) acc=_
  unfold q81_
  rw [if_neg (by rw [q7_,q1_]; omega)]
 ·rw [List.drop_zero,foldl_app]
theorem exB_eq (r:TR):q3h_ ((),r,())=some (exB r,()):=rfl
theorem bitB_eq {r:TR} (h:SmR r):q24_ ((),r,())=some (bitB r,()):=by
 show qd8_ () r=_
 unfold qd8_
 have hb:=h.b
 rw [pack_eq hb,Option.bind_some,qm_ (by rw [q7s_]; unfold packN; omega),q7s_]
 rfl
theorem wordB_eq {r:TR} (h:SmR r):q2d_ ((),r,())=some (wordB r,()):=by
 show qbl_ () r=_
 unfold qbl_
 have hw:=h.w
 rw [mul64 (by rw [q1_]; omega) (by rw [q1_]; omega),cvt8,rnumbers_eq (by simp; omega),Option.bind_some]
 rfl
theorem obB_eq {r:TR} (h:obR r=true):q3q_ ((),r,())=some (obB r,()):=by
 unfold obR at h
 rw [Bool.and_eq_true] at h
 obtain ⟨x,hx⟩:=List.length_eq_one_iff.1 (of_decide_eq_true h.1)
 show q8v_ q4k_ () r=_
 unfold q8v_
 rw [hx,q1m_,Option.bind_some]
 have key:∀ (v:Int) (r2:Int) (r3:List Bool) (r4:List Int) (r6:Int),q4k_ v r.1 r2 r3 r4 r.2.2.2.2.1 r6=some (r.1::two r.2.2.2.2.1++two v,()):=fun v r2 r3 r4 r6=>by
  unfold q4k_ qeg_
  rw [rnumbers_eq (by simp),Option.bind_some]
  simp
 unfold obB
 rw [hx]
 cases x with
 | true=>rw [if_pos rfl,key]; rfl
 | false=>rw [if_neg (by decide),key]; rfl
theorem amb_same {R:Type} {eq:R->R->Bool} (h:∀ x,eq x x=true) (o:R):amb eq [some o,some o]=some o:=by
 show (if eq o o=true then some o else none)=_
 rw [if_pos (h o)]
theorem eqAs_refl:∀ (rs:List Ty) (x:As rs),eqAs rs x x=true
 | [],_=>rfl
 | t::r,x=>by
  show (eqV t x.1 x.1 && eqAs r x.2 x.2)=true
  rw [eqV_refl,eqAs_refl r]
  rfl
theorem owB_eq {r:TR} (h:owR r=true):q4b_ ((),r,())=some (owB r,()):=by
 unfold owR at h
 rw [Bool.and_eq_true] at h
 obtain ⟨x,hx⟩:=List.length_eq_one_iff.1 (of_decide_eq_true h.1)
 show qcw_ () r=_
 unfold qcw_
 rw [hx,q1m_,Option.bind_some,rnumbers_eq (by simp),Option.bind_some,amb_same (eqAs_refl _)]
 unfold owB
 rw [hx]
 simp
theorem ctB_eq (k:Int) (r:TR):q2t_ (k,r,())=some (ctB r,()):=by
 show qf2_ k r=_
 unfold qf2_
 rw [rnumbers_eq (by simp),Option.bind_some]
 simp [ctB]
end Go.Proofs.Lx
end
section
namespace Go.Proofs.Lx
open Go Ev Sx Pl
set_option maxRecDepth 100000
theorem listS_len (b:List Int):(listS b).length=b.length / 2:=by simp [listS]
theorem unpackS_len (b:List Int):(unpackS b).length=8 * b.length:=by simp [unpackS]
theorem cut_tail {α:Type} (x:α) (r:List α):cut (x::r) 1 (Int.ofNat (x::r).length)=some r:=cut_one x r
theorem cut_two {α:Type} (x y:α) (r:List α):cut (x::y::r) 2 (Int.ofNat (x::y::r).length)=some r:=by
 have:=cut_from (xs:=x::y::r) (i:=2) (by simp)
 simpa using this
theorem at_one {α:Type} (p q:α) (r:List α):at? (p::q::r) 1=some q:=rfl
end Go.Proofs.Lx
end
section
namespace Go.Proofs.Lx
open Go Ev Sx Pl
set_option maxRecDepth 100000
def cutV (b:List Int):List Int×Int :=
 if b.length < 2 then ([],10) else
 if sumV (b.take (b.length - 2))=numV (b.getD (b.length - 1) 0) (b.getD (b.length - 2) 0) then (b.take (b.length - 2),0) else ([],11)
theorem fill_all {α:Type} {z:α} {n:Nat} {y:List α} (h:y.length=n):List.take (Int.toNat (Int.ofNat (List.length (List.replicate n z)))) y++List.drop (0 + List.length (List.take (Int.toNat (Int.ofNat (List.length (List.replicate n z)))) y)) (List.replicate n z)=y:=by
 rw [List.length_replicate,q1_,Int.toNat_natCast,List.take_of_length_le (by omega),List.drop_of_length_le (by simp; omega)]
 simp
theorem fill_take {α:Type} {z:α} {n:Nat} {y:List α} (h:n≤y.length):List.take (Int.toNat (Int.ofNat (List.length (List.replicate n z)))) y++List.drop (0 + List.length (List.take (Int.toNat (Int.ofNat (List.length (List.replicate n z)))) y)) (List.replicate n z)=y.take n:=by
 rw [List.length_replicate,q1_,Int.toNat_natCast,List.drop_of_length_le (by simp; omega)]
 simp
theorem ccut_eq {b:List Int} (h:b.length≤100000):qxp_ (b,())=some ((cutV b).1,(cutV b).2,()):=by
 show qus_ b=_
 unfold qus_ cutV
 by_cases h2:b.length < 2
 ·rw [if_pos (by rw [q7_,q1_]; omega),if_pos h2]
 ·have e1:sub .i64 (Int.ofNat b.length) 2=((b.length - 2:Nat):Int):=by
   rw [sub64 (by rw [q1_]; omega) (by rw [q1_]; omega),q1_]
   omega
  have g1:b[b.length - 2]? = some (b[b.length - 2]'(by omega)):=List.getElem?_eq_getElem (by omega)
  have g2:b[b.length - 2 + 1]? = some (b[b.length - 2 + 1]'(by omega)):=List.getElem?_eq_getElem (by omega)
  rw [if_neg (by rw [q7_,q1_]; omega),if_neg h2,e1,cut_to (by omega),Option.bind_some,q15_ (by omega),qj_ g1,Option.bind_some,qj_ g2,Option.bind_some,sum_eq (by simp; omega),Option.bind_some]
  have e2:bor .u16 (cvt .u16 (b[b.length - 2]'(by omega))) (shl .u16 (cvt .u16 (b[b.length - 2 + 1]'(by omega))) 8)=numV (b.getD (b.length - 1) 0) (b.getD (b.length - 2) 0):=by
   rw [bor_comm]
   have e3:b.length - 1=b.length - 2 + 1:=by omega
   rw [e3,List.getD_eq_getElem?_getD,List.getD_eq_getElem?_getD,g1,g2]
   rfl
  rw [e2]
  by_cases hs:sumV (b.take (b.length - 2))=numV (b.getD (b.length - 1) 0) (b.getD (b.length - 2) 0)
  ·rw [if_neg (by rw [qk_]; exact fun e=>e hs),if_pos hs,q8_ (by rw [q12_]; omega),q8_ (capOk_self _),Int.toNat_natCast,qm_ (by omega),q8_ (by rw [qs_]; simp only [List.length_replicate,q1_]; omega),fill_take (by omega)]
  ·rw [if_pos (by rw [qk_]; exact hs),if_neg hs]
theorem isUnit_eq (u:Int):qfo_ (u,())=some (decide (1≤u) && decide (u≤247),()):=by
 show qgg_ u=_
 unfold qgg_
 rw [if_dec (q12_) fun _=>rfl]
 rfl
def rtuV (b:List Int):Int×List Int×Int :=
 if b.length < 4∨256 < b.length then (0,[],10) else
 if (cutV b).2 ≠ 0 then (0,[],(cutV b).2) else
 match (cutV b).1 with
 | []=>(0,[],10)
 | x::r=>if (decide (1≤x) && decide (x≤247))=true then (x,r,0) else (0,[],10)
theorem cutV_len {b:List Int} (h:(cutV b).2=0):(cutV b).1.length=b.length - 2:=by
 unfold cutV at h ⊢
 split
 ·rename_i h1; rw [if_pos h1] at h; cases h
 ·rename_i h1
  rw [if_neg h1] at h
  split
  ·simp
  ·rename_i h2; rw [if_neg h2] at h; cases h
theorem rtup_eq (b:List Int):qps_ (b,())=some ((rtuV b).1,(rtuV b).2.1,(rtuV b).2.2,()):=by
 show qmh_ qi3_ b=_
 have K:∀ t,qi3_ b t=qns_ b t:=fun _=>rfl
 unfold qmh_ rtuV
 rw [K,K]
 by_cases h:b.length < 4
 ·rw [if_pos (by rw [q7_,q1_]; omega),if_pos (.inl h)]
  rfl
 ·rw [if_neg (by rw [q7_,q1_]; omega)]
  unfold qns_
  by_cases h2:256 < b.length
  ·rw [if_pos (by rw [gt_iff,q1_]; omega),if_pos (.inr h2)]
  ·rw [if_neg (by rw [gt_iff,q1_]; omega),if_neg (by omega),ccut_eq (by omega),Option.bind_some]
   dsimp only
   by_cases h3:(cutV b).2=0
   ·rw [if_neg (by rw [qk_]; exact fun e=>e h3),if_neg (fun e=>e h3)]
    have hl:=cutV_len h3
    match hc:(cutV b).1 with
    | []=>rw [hc] at hl; simp at hl; omega
    | x::r =>
     rw [q1m_,Option.bind_some,isUnit_eq,Option.bind_some,Option.bind_some]
     show _=some ((if (decide (1≤x) && decide (x≤247))=true then (x,r,0) else (0,[],10)).1,(if (decide (1≤x) && decide (x≤247))=true then (x,r,0) else (0,[],10)).2.1,(if (decide (1≤x) && decide (x≤247))=true then (x,r,0) else (0,[],10)).2.2,())
     cases decide (1≤x) && decide (x≤247) with
     | false=>rfl
     | true =>
      have e:cut (x::r) 1 (Int.ofNat (x::r).length)=some r:=cut_one x r
      rw [if_neg (by decide),e,Option.bind_some,q8_ (by rw [qs_]; omega),q8_ (by rw [qs_]; omega),if_pos rfl]
   ·rw [if_pos (by rw [qk_]; exact h3),if_pos h3]
def beginsV (b2 b3 b4 b5:Int):Bool:=!nei b2 0 && (!nei b3 0 && (!nei b4 0 && (!lt b5 2 && !gt (cvt .i64 b5) 254)))
theorem bstep {self:List Int->Int->Option (As [.bool])} {b:List Int} {i y:Int} (hi:i < 5) (hl:i < Int.ofNat b.length) (hy:at? b i=some y) :
  q6n_ (q4z_ self) self b i=if nei y 0=true then some (false,()) else self b (add .i64 i 1):=by
 have e5:eqi i 5=false:=by
  rw [<- Bool.not_eq_true,q4_]
  omega
 unfold q6n_
 rw [if_pos (by rw [q7_]; omega),q7_.2 hl]
 unfold q4z_ qj1_
 rw [if_pos rfl,if_pos (q7_.2 hi),hy,Option.bind_some]
 unfold qen_ qis_
 cases nei y 0 with
 | true=>rfl
 | false =>
  simp only [e5,Bool.false_eq_true,if_false]
  rfl
theorem bstep5 {self:List Int->Int->Option (As [.bool])} {b:List Int} {y:Int} (hl:5 < Int.ofNat b.length) (hy:at? b 5=some y) :
  q6n_ (q4z_ self) self b 5=if lt y 2=true then some (false,()) else if gt (cvt .i64 y) 254=true then some (false,()) else self b 6:=by
 unfold q6n_
 rw [if_pos (by decide),q7_.2 hl]
 unfold q4z_ qj1_
 rw [if_pos rfl,if_neg (by decide)]
 unfold qen_ qis_
 rw [if_neg (by decide),if_pos (by decide),hy,Option.bind_some,Option.bind_some]
 cases lt y 2 with
 | true=>rfl
 | false=>cases gt (cvt .i64 y) 254 <;> rfl
theorem bstep6 {self:List Int->Int->Option (As [.bool])} {b:List Int}:q6n_ (q4z_ self) self b 6=some (true,()):=rfl
theorem begins_eq (b0 b1 b2 b3 b4 b5 b6 b7:Int) (r:List Int):qjz_ (b0::b1::b2::b3::b4::b5::b6::b7::r,())=some (beginsV b2 b3 b4 b5,()):=by
 show qix_ qe4_ _=_
 unfold qix_ qe4_ beginsV
 have hlen:(Int.ofNat (b0::b1::b2::b3::b4::b5::b6::b7::r).length)=(r.length:Int) + 8:=by rw [q1_]; simp; omega
 generalize hb:b0::b1::b2::b3::b4::b5::b6::b7::r=b at hlen ⊢
 have h2:at? b 2=some b2:=by rw [<- hb]; rfl
 have h3:at? b 3=some b3:=by rw [<- hb]; rfl
 have h4:at? b 4=some b4:=by rw [<- hb]; rfl
 have h5:at? b 5=some b5:=by rw [<- hb]; rfl
 have key:∀ n:Nat,loopF (fun (self:(List Int)×(Int)->Option (As [.bool])) (s:(List Int)×(Int))=>q6n_ (q4z_ (fun b i=>self (b,i))) (fun b i=>self (b,i)) s.1 s.2) (n + 5) (b,2) =
   some (!nei b2 0 && (!nei b3 0 && (!nei b4 0 && (!lt b5 2 && !gt (cvt .i64 b5) 254))),()):=by
  intro n
  rw [q20_]
  refine (bstep (by decide) (by rw [hlen]; omega) h2).trans ?_
  cases nei b2 0 with
  | true=>rfl
  | false =>
   rw [if_neg (by decide),q20_]
   refine (bstep (i:=3) (by decide) (by rw [hlen]; omega) h3).trans ?_
   cases nei b3 0 with
   | true=>rfl
   | false =>
    rw [if_neg (by decide),q20_]
    refine (bstep (i:=4) (by decide) (by rw [hlen]; omega) h4).trans ?_
    cases nei b4 0 with
    | true=>rfl
    | false =>
     rw [if_neg (by decide),q20_]
     refine (bstep5 (by rw [hlen]; omega) h5).trans ?_
     cases lt b5 2 with
     | true=>rfl
     | false =>
      cases gt (cvt .i64 b5) 254 with
      | true=>rfl
      | false =>
       rw [if_neg (by decide),if_neg (by decide),q20_]
       exact bstep6
 exact key 18446744073709551611
def zM:Int×Int×List Int:=(0,0,[])
def mbapP:List Int->(Int×Int×List Int)×Int
 | b0::b1::b2::b3::b4::b5::b6::r =>
  if r=[] then (zM,10) else if beginsV b2 b3 b4 b5=true then if (r.length:Int) + 1=b5 then ((numV b0 b1,b6,r),0) else (zM,10) else (zM,10)
 | _=>(zM,10)
theorem mparse_eq {b:List Int} (hl:b.length≤100000) (hb:∀ x ∈ b,0≤x∧x≤255):qn2_ (b,())=some ((mbapP b).1,(mbapP b).2,()):=by
 show ql1_ qg7_ b=_
 unfold ql1_
 have short:b.length≤7->qii_ (b,())=some (zM,0,()):=fun h=>by
  show qbw_ qgh_ b=_
  unfold qbw_
  rw [if_pos (by rw [qs_,q1_]; omega)]
  rfl
 have shortP:b.length≤7->mbapP b=(zM,10):=fun h=>by
  match b with
  | [] | [_] | [_,_] | [_,_,_] | [_,_,_,_] | [_,_,_,_,_] | [_,_,_,_,_,_]=>rfl
  | [_,_,_,_,_,_,_]=>rfl
  | _::_::_::_::_::_::_::_::_=>exact absurd h (by simp)
 by_cases hs:b.length≤7
 ·rw [short hs,shortP hs]
  rfl
 ·match b with
  | [] | [_] | [_,_] | [_,_,_] | [_,_,_,_] | [_,_,_,_,_] | [_,_,_,_,_,_]=>simp at hs
  | [_,_,_,_,_,_,_]=>simp at hs
  | b0::b1::b2::b3::b4::b5::b6::b7::r =>
   have h5:=hb b5 (by simp)
   have hlr:r.length≤100000:=by simp at hl; omega
   have e5:cvt .i64 b5=b5:=cvt64 (by omega) (by omega)
   have hF:qii_ (b0::b1::b2::b3::b4::b5::b6::b7::r,())=if beginsV b2 b3 b4 b5=true then if (r.length:Int) + 2 < b5 then some (zM,0,()) else some ((numV b0 b1,b6,(b7::r).take (b5 - 1).toNat),6 + b5,()) else some (zM,0,()):=by
    show qbw_ qgh_ _=_
    unfold qbw_
    rw [if_neg (by rw [qs_,q1_]; simp; omega),begins_eq,Option.bind_some]
    cases hbg:beginsV b2 b3 b4 b5 with
    | false=>rfl
    | true =>
     rw [if_pos rfl]
     have h52:2≤b5:=by
      unfold beginsV at hbg
      simp only [Bool.and_eq_true,Bool.not_eq_true',<- Bool.not_eq_true] at hbg
      have:=hbg.2.2.2.1
      rw [q7_] at this
      omega
     show qlb_ _ false 0 0=_
     unfold qlb_
     have g5:at? (b0::b1::b2::b3::b4::b5::b6::b7::r) 5=some b5:=rfl
     have ea:add .i64 6 (cvt .i64 b5)=6 + b5:=by rw [e5,add64 (by omega) (by omega)]
     rw [if_neg (by decide),g5,Option.bind_some,ea]
     by_cases hlt:(r.length:Int) + 2 < b5
     ·rw [if_pos (by rw [q7_,q1_]; simp; omega),if_pos hlt]
      rfl
     ·have es:sub .i64 (6 + b5) 7=(((b5 - 1).toNat:Nat):Int):=by rw [sub64 (by omega) (by omega)]; omega
      have ec:cut (b0::b1::b2::b3::b4::b5::b6::b7::r) 7 (6 + b5)=some ((b7::r).take (b5 - 1).toNat):=by
       have:=cut_nat (xs:=b0::b1::b2::b3::b4::b5::b6::b7::r) (i:=7) (j:=7 + (b5 - 1).toNat) (by omega) (by simp; omega)
       have e:((7 + (b5 - 1).toNat:Nat):Int)=6 + b5:=by omega
       rw [e,Nat.add_comm 7 (b5 - 1).toNat] at this
       exact this
      rw [if_neg (by rw [q7_,q1_]; simp; omega),if_neg hlt,es,q8_ (by rw [q12_]; omega),q8_ (capOk_self _),Int.toNat_natCast,qm_ (by omega),ec,Option.bind_some,q8_ (by rw [qs_]; simp only [List.length_replicate,q1_]; omega)]
      have hlen:((b7::r).take (b5 - 1).toNat).length=(b5 - 1).toNat:=by rw [List.length_take,List.length_cons]; omega
      rw [fill_all hlen]
      rfl
   rw [hF]
   have K:∀ (t:Bool) (y1 y2:Int) (y3:List Int),qg7_ t 0 0 (y1,y2,y3)=if t=true then some (zM,10,()) else some ((y1,y2,y3),0,()):=fun t y1 y2 y3=>rfl
   show _=some ((mbapP (b0::b1::b2::b3::b4::b5::b6::b7::r)).1,(mbapP (b0::b1::b2::b3::b4::b5::b6::b7::r)).2,())
   unfold mbapP
   dsimp only
   have hne:¬ (b7::r=[]):=by simp
   rw [if_neg hne]
   cases hbg:beginsV b2 b3 b4 b5 with
   | false=>rfl
   | true =>
    simp only [if_true]
    have h52:2≤b5:=by
     unfold beginsV at hbg
     simp only [Bool.and_eq_true,Bool.not_eq_true',<- Bool.not_eq_true] at hbg
     have:=hbg.2.2.2.1
     rw [q7_] at this
     omega
    by_cases hlt:(r.length:Int) + 2 < b5
    ·have hq:¬ (((b7::r).length:Int) + 1=b5):=by simp; omega
     rw [if_pos hlt,if_neg hq]
     rfl
    ·rw [if_neg hlt,Option.bind_some]
     dsimp only
     rw [if_neg (by rw [q4_]; omega),K]
     by_cases he:(r.length:Int) + 2=b5
     ·have e1:nei (6 + b5) (Int.ofNat (b0::b1::b2::b3::b4::b5::b6::b7::r).length)=false:=by
       rw [<- Bool.not_eq_true,qk_,q1_]
       simp
       omega
      have hq:((b7::r).length:Int) + 1=b5:=by simp; omega
      rw [e1,if_pos hq]
      have e2:(b7::r).take (b5 - 1).toNat=b7::r:=List.take_of_length_le (by simp; omega)
      rw [e2]
      rfl
     ·have hq:¬ (((b7::r).length:Int) + 1=b5):=by simp; omega
      rw [if_neg hq,if_pos (by rw [qk_,q1_]; simp; omega)]
end Go.Proofs.Lx
end
section
namespace Go.Proofs.Lx
open Go Ev Sx Pl
set_option maxRecDepth 100000
theorem goL_index (v:Bool):∀ (s:List Bool) (n:Nat),∃ k:Int,goL (R:=Int×Unit) (fun (_:Unit) (x:Bool×Nat) k=>if eqb v x.1=true then some ((x.2:Int),()) else k ()) (fun _=>some (-1,())) (s.zipIdx n) ()=some (k,())∧(0≤k ↔ v ∈ s)
 | [],n=>⟨-1,rfl,by simp⟩
 | a::r,n=>by
  rw [List.zipIdx_cons]
  obtain ⟨k,h1,h2⟩:=goL_index v r (n + 1)
  by_cases e:v=a
  ·refine ⟨(n:Int),?_,by simp [e]⟩
   show (if eqb v a=true then _ else _)=_
   rw [if_pos (eqb_iff.2 e)]
  ·refine ⟨k,?_,?_⟩
   ·show (if eqb v a=true then _ else _)=_
    rw [if_neg (fun h=>e (eqb_iff.1 h))]
    exact h1
   ·rw [h2]
    simp [e]
theorem contains_eq {s:List Bool} (v:Bool) (h:s.length≤1000000):q66_ (s,v,())=some (decide (v ∈ s),()):=by
 obtain ⟨k,h1,h2⟩:=goL_index v s 0
 have e:qck_ (s,v,())=some (k,()):=by
  rw [<- h1]
  show q90_ q6f_ s v=_
  unfold q90_ q6f_
  have hz:(s.zipIdx 0).length=s.length:=by simp
  refine loop_go (xs:=s.zipIdx 0) (mk:=fun i _=>(s,v,Int.ofNat s.length,(i:Int))) ?_ ?_ s.length 0 () _ (by rw [hz]; omega) (by omega)
  ·intro self i acc x hx
   have hi:=(List.getElem?_eq_some_iff.1 hx).1
   rw [hz] at hi
   have hx2:s[i]? = some x.1∧x.2=i:=by
    rw [List.getElem?_zipIdx] at hx
    obtain ⟨y,hy,rfl⟩:=Option.map_eq_some_iff.1 hx
    exact ⟨hy,by simp⟩
   show q4l_ _ s v (Int.ofNat s.length) (i:Int)=_
   unfold q4l_
   rw [if_pos (by rw [q7_,q1_]; omega),qj_ hx2.1,Option.bind_some,q15_ (by omega),hx2.2]
  ·intro self acc
   show q4l_ _ s v (Int.ofNat s.length) (((s.zipIdx 0).length:Nat):Int)=_
   unfold q4l_
   rw [hz,if_neg (by rw [q7_,q1_]; omega)]
 show qax_ s v=_
 unfold qax_
 rw [e,Option.bind_some]
 refine congrArg (fun x=>some (x,())) ?_
 rw [ge_dec]
 by_cases hv:v ∈ s
 ·rw [decide_eq_true hv,decide_eq_true (h2.2 hv)]
 ·rw [decide_eq_false hv,decide_eq_false (fun h=>hv (h2.1 h))]
end Go.Proofs.Lx
end
section
namespace Go.Proofs.Lx
open Go Ev Sx Pl
set_option maxRecDepth 100000
end Go.Proofs.Lx
end
section
namespace Pl
open Go Ev Sx
theorem ok8 {x:Int} (h:(Lit.int .u8 x).wf=true):0≤x∧x≤255:=by
 simp [Lit.wf] at h
 have e1:IntKind.u8.min=0:=rfl
 have e2:IntKind.u8.max=255:=rfl
 omega
theorem ok16 {x:Int} (h:(Lit.int .u16 x).wf=true):0≤x∧x≤65535:=by
 simp [Lit.wf] at h
 have e1:IntKind.u16.min=0:=rfl
 have e2:IntKind.u16.max=65535:=rfl
 omega
end Pl
namespace Go.Proofs.Lx
open Go Ev Sx Pl
set_option maxRecDepth 100000
def fewV (ws:List Int) (bs:List Bool):Bool:=decide (ws.length≤200) && decide (bs.length≤2100)
theorem few_eq (ws:List Int) (bs:List Bool):qxn_ (ws,bs,())=some (fewV ws bs,()):=by
 show qun_ ws bs=_
 unfold qun_ fewV
 by_cases h:ws.length≤200
 ·rw [if_pos (by rw [qs_,q1_]; omega),decide_eq_true h,Bool.true_and,le_dec]
  refine congrArg (fun x=>some (x,())) ?_
  rw [q1_]
  by_cases h2:bs.length≤2100
  ·rw [decide_eq_true h2,decide_eq_true (by omega)]
  ·rw [decide_eq_false h2,decide_eq_false (by omega)]
 ·rw [if_neg (by rw [qs_,q1_]; omega),decide_eq_false h]
  rfl
theorem few_iff {ws:List Int} {bs:List Bool}:fewV ws bs=true ↔ ws.length≤200∧bs.length≤2100:=by simp [fewV]
end Go.Proofs.Lx
end
section
namespace Pl
open Go Ev Sx
theorem listS_two (y z:Int) (r:List Int):listS (y::z::r)=numV y z::listS r:=by
 unfold listS
 have e:(y::z::r).length / 2=r.length / 2 + 1:=by simp; omega
 rw [e,List.range_succ_eq_map,List.map_cons,List.map_map]
 congr 1
end Pl
namespace Go.Proofs.Lx
open Go Ev Sx Pl
set_option maxRecDepth 100000
theorem numV_two {x:Int} (h0:0≤x) (h1:x≤65535):numV (x / 256 % 256) (x % 256)=x:=by
 rw [numV_eq (by omega) (by omega) (by omega) (by omega)]
 omega
theorem listS_of_two {x:Int} (h0:0≤x) (h1:x≤65535) (r:List Int):listS (x / 256 % 256::x % 256::r)=x::listS r:=by rw [listS_two,numV_two h0 h1]
theorem listS_flat:∀ {l:List Int},(∀ x ∈ l,0≤x∧x≤65535)->listS (l.flatMap two)=l
 | [],_=>rfl
 | x::r,h=>by
  rw [List.flatMap_cons]
  show listS (x / 256 % 256::x % 256::r.flatMap two)=_
  have hx:=h x (by simp)
  rw [listS_of_two hx.1 hx.2,listS_flat fun y hy=>h y (List.mem_cons_of_mem _ hy)]
theorem byteV_256 {t:List Bool} (h:t.length≤8):0≤byteV t∧byteV t < 256:=by
 have h1:=byteV_rng t
 have h2:2 ^ t.length≤2 ^ 8:=Nat.pow_le_pow_right (by decide) h
 have h3:((2 ^ t.length:Nat):Int)=(2:Int) ^ t.length:=by norm_cast
 have h4:(2:Nat) ^ 8=256:=by decide
 exact ⟨h1.1,by omega⟩
theorem unpack_pack (l:List Bool):(unpackS (packS l)).take l.length=l:=by
 apply List.ext_getElem?
 intro i
 rw [List.getElem?_take]
 by_cases hi:i < l.length
 ·rw [if_pos hi]
  unfold unpackS
  have hm:i < 8 * (packS l).length:=by rw [q7s_]; unfold packN; omega
  rw [List.getElem?_map,List.getElem?_range hm,Option.map_some]
  have hq:i / 8 < packN l.length:=by unfold packN; omega
  have e:(packS l).getD (i / 8) 0=byteV ((l.drop (8 * (i / 8))).take 8):=by
   unfold packS
   rw [List.getD_eq_getElem?_getD,List.getElem?_map,List.getElem?_range hq]
   rfl
  have hr:=byteV_256 (t:=(l.drop (8 * (i / 8))).take 8) (by simp; omega)
  rw [e,bitV_eq hr.1 hr.2 (Nat.mod_lt _ (by decide)),byteV_bit]
  have e2:((l.drop (8 * (i / 8))).take 8).getD (i % 8) false=l[i]:=by
   rw [List.getD_eq_getElem?_getD,List.getElem?_take,if_pos (Nat.mod_lt _ (by decide)),List.getElem?_drop]
   have:8 * (i / 8) + i % 8=i:=by omega
   rw [this,List.getElem?_eq_getElem hi]
   rfl
  rw [e2,List.getElem?_eq_getElem hi]
  cases l[i] <;> rfl
 ·rw [if_neg hi,List.getElem?_eq_none (by omega)]
abbrev tup (p:TP):TP:=(p.1,p.2.1,p.2.2.1,p.2.2.2.1,p.2.2.2.2.1,(p.2.2.2.2.2.1.1,p.2.2.2.2.2.1.2.1,p.2.2.2.2.2.1.2.2.1,p.2.2.2.2.2.1.2.2.2.1,p.2.2.2.2.2.1.2.2.2.2.1,p.2.2.2.2.2.1.2.2.2.2.2),p.2.2.2.2.2.2.1,p.2.2.2.2.2.2.2.1,p.2.2.2.2.2.2.2.2)
theorem beg_rng {link timeout retries:Int} (h1:0≤link) (h2:0≤timeout) (h3:0≤retries):(add .u8 1 (rem link 2)=1 + link % 2)∧(add .i64 1 (cvt .i64 (rem timeout 20))=1 + timeout % 20)∧cvt .i64 (rem retries 6)=retries % 6:=by
 have e1:rem link 2=link % 2:=by unfold rem; exact Int.tmod_eq_emod_of_nonneg h1
 have e2:rem timeout 20=timeout % 20:=by unfold rem; exact Int.tmod_eq_emod_of_nonneg h2
 have e3:rem retries 6=retries % 6:=by unfold rem; exact Int.tmod_eq_emod_of_nonneg h3
 rw [e1,e2,e3,cvt64 (by omega) (by omega),cvt64 (by omega) (by omega),add64 (by omega) (by omega)]
 refine ⟨?_,rfl,rfl⟩
 unfold add
 rw [wu8 (by omega) (by omega)]
theorem q2s_ (x:Int):∀ y ∈ two x,0≤y∧y≤255:=by
 intro y hy
 simp [two] at hy
 rcases hy with rfl | rfl <;> omega
theorem flat_bytes (l:List Int):∀ y ∈ l.flatMap two,0≤y∧y≤255:=by
 intro y hy
 obtain ⟨x,_,hx⟩:=List.mem_flatMap.1 hy
 exact q2s_ x y hx
theorem pack_bytes (l:List Bool):∀ y ∈ packS l,0≤y∧y≤255:=by
 intro y hy
 unfold packS at hy
 obtain ⟨j,_,rfl⟩:=List.mem_map.1 hy
 have:=byteV_256 (t:=(l.drop (8 * j)).take 8) (by simp; omega)
 omega
theorem askB_bytes {a:TA} (h:RA a):∀ y ∈ askB a,0≤y∧y≤255:=by
 have app:∀ {l r:List Int},(∀ y ∈ l,0≤y∧y≤255)->(∀ y ∈ r,0≤y∧y≤255)->∀ y ∈ l++r,0≤y∧y≤255:=fun h1 h2 y hy=>by
  rcases List.mem_append.1 hy with h | h
  ·exact h1 y h
  ·exact h2 y h
 have con:∀ {x:Int} {r:List Int},(0≤x∧x≤255)->(∀ y ∈ r,0≤y∧y≤255)->∀ y ∈ x::r,0≤y∧y≤255:=fun h1 h2 y hy=>by
  rcases List.mem_cons.1 hy with h | h
  ·subst h; exact h1
  ·exact h2 y h
 have nil:∀ y ∈ ([]:List Int),0≤y∧y≤255:=fun y hy=>by cases hy
 cases h with
 | bits f p n hf h1 h2 =>
  rcases hf with rfl | rfl
  ·show ∀ y ∈ (1:Int)::two p++two n,0≤y∧y≤255
   exact app (con (by decide) (q2s_ p)) (q2s_ n)
  ·show ∀ y ∈ (2:Int)::two p++two n,0≤y∧y≤255
   exact app (con (by decide) (q2s_ p)) (q2s_ n)
 | words f p n hf h1 h2 =>
  rcases hf with rfl | rfl
  ·show ∀ y ∈ (3:Int)::two p++two n,0≤y∧y≤255
   exact app (con (by decide) (q2s_ p)) (q2s_ n)
  ·show ∀ y ∈ (4:Int)::two p++two n,0≤y∧y≤255
   exact app (con (by decide) (q2s_ p)) (q2s_ n)
 | coil p b =>
  show ∀ y ∈ (5:Int)::two p++two (if b=true then 65280 else 0),0≤y∧y≤255
  exact app (con (by decide) (q2s_ p)) (q2s_ _)
 | word p x =>
  show ∀ y ∈ (6:Int)::two p++[x].flatMap two,0≤y∧y≤255
  exact app (con (by decide) (q2s_ p)) (flat_bytes _)
 | coils p l h1 h2 =>
  show ∀ y ∈ (15:Int)::two p++two (l.length:Int)++[(packN l.length:Int)]++packS l,0≤y∧y≤255
  exact app (app (app (con (by decide) (q2s_ p)) (q2s_ _)) (con (by unfold packN; omega) nil)) (pack_bytes l)
 | regs p l h1 h2 =>
  show ∀ y ∈ (16:Int)::two p++two (l.length:Int)++[2 * (l.length:Int)]++l.flatMap two,0≤y∧y≤255
  exact app (app (app (con (by decide) (q2s_ p)) (q2s_ _)) (con (by omega) nil)) (flat_bytes l)
 | swap p n t l h1 h2 h3 h4 =>
  show ∀ y ∈ (23:Int)::two p++two n++two t++two (l.length:Int)++[2 * (l.length:Int)]++l.flatMap two,0≤y∧y≤255
  exact app (app (app (app (app (con (by decide) (q2s_ p)) (q2s_ _)) (q2s_ _)) (q2s_ _)) (con (by omega) nil)) (flat_bytes l)
end Go.Proofs.Lx
end
section
namespace Go.Proofs.Lx
open Go Ev Sx Pl
set_option maxRecDepth 100000
theorem alist_eq {b:List Int} (h:b.length≤100000):qb4_ (b,())=some (listS b,()):=by
 show qpa_ qjq_ b=_
 unfold qpa_
 have hq:quo .i64 (Int.ofNat b.length) 2=((b.length / 2:Nat):Int):=quo_nat (d:=2) (by omega)
 rw [hq,q8_ (by rw [q12_]; omega),q8_ (capOk_self _),Int.toNat_natCast,qm_ (by omega),List.length_replicate]
 unfold qjq_ listS
 refine (loop_det (mk:=fun i=>(b,Int.ofNat (b.length / 2),(i:Int),(List.range i).map (fun i=>numV (b.getD (2 * i) 0) (b.getD (2 * i + 1) 0))++(List.replicate (b.length / 2) (0:Int)).drop i)) (N:=b.length / 2) ?_ ?_ (b.length / 2) 0 _ (by omega) (by omega))
 ·intro self i hi
  show qgy_ _ b (Int.ofNat (b.length / 2)) (i:Int) _=_
  unfold qgy_
  have hm:mul .i64 2 (i:Int)=((2 * i:Nat):Int):=by
   rw [mul64 (by omega) (by omega)]
   simp
  have h1:b[2 * i]? = some (b[2 * i]'(by omega)):=List.getElem?_eq_getElem (by omega)
  have h2:b[2 * i + 1]? = some (b[2 * i + 1]'(by omega)):=List.getElem?_eq_getElem (by omega)
  have ho:((List.range i).map (fun i=>numV (b.getD (2 * i) 0) (b.getD (2 * i + 1) 0))++(List.replicate (b.length / 2) (0:Int)).drop i)[i]? = some (((List.range i).map (fun i=>numV (b.getD (2 * i) 0) (b.getD (2 * i + 1) 0))++(List.replicate (b.length / 2) (0:Int)).drop i)[i]'(by simp; omega)):=List.getElem?_eq_getElem (by simp; omega)
  rw [if_pos (by rw [q7_,q1_]; omega),hm,q15_ (by omega),qj_ h1,qj_ h2,qj_ ho,q15_ (by omega),Int.toNat_natCast]
  simp only [Option.bind_some]
  have e:bor .u16 (shl .u16 (cvt .u16 (b[2 * i]'(by omega))) 8) (cvt .u16 (b[2 * i + 1]'(by omega)))=numV (b.getD (2 * i) 0) (b.getD (2 * i + 1) 0):=by
   rw [List.getD_eq_getElem?_getD,List.getD_eq_getElem?_getD,h1,h2]
   rfl
  rw [e,fill_step (f:=fun i=>numV (b.getD (2 * i) 0) (b.getD (2 * i + 1) 0)) (by simp; omega)]
 ·intro self
  show qgy_ _ b (Int.ofNat (b.length / 2)) ((b.length / 2:Nat):Int) _=_
  unfold qgy_
  rw [if_neg (by rw [q7_,q1_]; omega),List.drop_of_length_le (by simp),List.append_nil]
theorem wr_word (p x y:Int):q3l_ ((6,p,0,0,[],[]),(0,0,1,false,false),[x,y],())=some ((6,p,0,0,[numV x y],[]),true,()):=by
 show Option.bind (qb4_ ([x,y],())) (fun z=>some ((6,p,0,0,z.1,[]),true,()))=_
 rw [alist_eq (by show 2≤100000; decide),Option.bind_some,listS_two]
 rfl
theorem wr_coils (p k:Int) (l:List Bool) (h1:1≤l.length) (h2:l.length≤1968):q3l_ ((15,p,(l.length:Int),0,[],[]),(1968,1968,0,false,true),k::packS l,())=some ((15,p,(l.length:Int),0,[],l),true,()):=by
 have hlen:=q7s_ l
 show (if lt (Int.ofNat (k::packS l).length) 2=true then _ else Option.bind (cut (k::packS l) 1 (Int.ofNat (k::packS l).length)) (fun y=>Option.bind (qf9_ (y,())) fun y=>if lt (Int.ofNat y.1.length) (cvt .i64 (l.length:Int))=true then some ((0,0,0,0,[],[]),false,()) else Option.bind (cut y.1 0 (l.length:Int)) fun y_1=>need (le (l.length:Int) (l.length:Int)) (need (le (l.length:Int) (Int.ofNat y.1.length)) (some ((15,p,(l.length:Int),0,[],y_1),true,())))))=_
 have hN:1≤packN l.length∧packN l.length≤300:=by unfold packN; omega
 have hu:l.length≤(unpackS (packS l)).length:=by rw [unpackS_len,q7s_]; unfold packN; omega
 rw [if_neg (by rw [q7_,q1_,List.length_cons,q7s_]; omega),cut_tail,Option.bind_some,unpack_eq (by rw [q7s_]; omega),Option.bind_some,cvt64 (by omega) (by omega)]
 dsimp only
 rw [if_neg (by rw [q7_,q1_]; omega),cut_to hu,Option.bind_some,q8_ (by rw [qs_]; omega),q8_ (by rw [qs_,q1_]; omega),unpack_pack]
theorem wr_regs (p n k:Int) (l:List Int) (h:∀ x ∈ l,0≤x∧x≤65535) (h1:1≤l.length) (h2:l.length≤123):q3l_ ((16,p,n,0,[],[]),(123,0,123,false,true),k::l.flatMap two,())=some ((16,p,n,0,l,[]),true,()):=by
 have hlen:=q7j_ l
 show (if lt (Int.ofNat (k::l.flatMap two).length) 2=true then _ else Option.bind (cut (k::l.flatMap two) 1 (Int.ofNat (k::l.flatMap two).length)) (fun y=>Option.bind (qb4_ (y,())) fun y=>some ((16,p,n,0,y.1,[]),true,())))=_
 rw [if_neg (by rw [q7_,q1_,List.length_cons,hlen]; omega),cut_tail,Option.bind_some,alist_eq (by omega),Option.bind_some,listS_flat h]
theorem wr_swap (p n t k:Int) (l:List Int) (h:∀ x ∈ l,0≤x∧x≤65535) (h1:1≤l.length) (h2:l.length≤123):q3l_ ((23,p,n,t,[],[]),(125,0,121,true,false),k::l.flatMap two,())=some ((23,p,n,t,l,[]),true,()):=by
 have hlen:=q7j_ l
 show (if lt (Int.ofNat (k::l.flatMap two).length) 2=true then _ else Option.bind (cut (k::l.flatMap two) 1 (Int.ofNat (k::l.flatMap two).length)) (fun y=>Option.bind (qb4_ (y,())) fun y=>some ((23,p,n,t,y.1,[]),true,())))=_
 rw [if_neg (by rw [q7_,q1_,List.length_cons,hlen]; omega),cut_tail,Option.bind_some,alist_eq (by omega),Option.bind_some,listS_flat h]
theorem rd_many {f p1 p2 n1 n2:Int} {r:List Int} (hr:r.length≤248) {m bb ww:Int} {tt ee:Bool} (hs:shp f=some (m,bb,ww,tt,ee)) (hm:gt m 0=true) :
  qfm_ (f::p1::p2::n1::n2::r,())=q6u_ (numV p1 p2::numV n1 n2::listS r) r 0 0 0 0 m bb ww tt ee f (numV p1 p2) (numV n1 n2) 0:=by
 show q6t_ q9t_ _=_
 unfold q6t_
 rw [if_neg (by rw [q7_,q1_]; simp; omega)]
 have hg:gt (Int.ofNat (f::p1::p2::n1::n2::r).length) 253=false:=by
  rw [<- Bool.not_eq_true,gt_iff,q1_]; simp; omega
 rw [hg]
 show q9z_ q6u_ _ false 0 0 0 0=_
 unfold q9z_
 have ec3:cut (f::p1::p2::n1::n2::r) 3 (Int.ofNat (f::p1::p2::n1::n2::r).length)=some (n1::n2::r):=cut_from (i:=3) (by simp)
 have ec5:cut (f::p1::p2::n1::n2::r) 5 (Int.ofNat (f::p1::p2::n1::n2::r).length)=some r:=cut_from (i:=5) (by simp)
 rw [if_neg (by decide),q1m_,Option.bind_some,shape_eq,Option.bind_some]
 unfold shpD
 rw [hs]
 rw [if_neg (by show ¬ (!true)=true; decide),cut_tail,Option.bind_some,alist_eq (by simp; omega),Option.bind_some,Option.bind_some,listS_two,listS_two,q1m_,Option.bind_some,ec3,Option.bind_some]
 dsimp only [Option.getD]
 rw [if_pos hm,at_one,Option.bind_some,ec5,Option.bind_some]
theorem rd_one {f p1 p2 n1 n2:Int} {bb ww:Int} {tt ee:Bool} (hs:shp f=some (0,bb,ww,tt,ee)) :
  qfm_ ([f,p1,p2,n1,n2],())=q6u_ [numV p1 p2,numV n1 n2] [n1,n2] 0 0 0 0 0 bb ww tt ee f (numV p1 p2) 0 0:=by
 show q9z_ q6u_ [f,p1,p2,n1,n2] false 0 0 0 0=_
 unfold q9z_
 have ec3:cut [f,p1,p2,n1,n2] 3 (Int.ofNat [f,p1,p2,n1,n2].length)=some [n1,n2]:=rfl
 rw [if_neg (by decide),q1m_,Option.bind_some,shape_eq,Option.bind_some]
 unfold shpD
 rw [hs]
 rw [if_neg (by show ¬ (!true)=true; decide),cut_tail,Option.bind_some,alist_eq (by simp),Option.bind_some,Option.bind_some,listS_two,listS_two,q1m_,Option.bind_some,ec3,Option.bind_some,if_neg (by show ¬ gt 0 0=true; decide)]
 rfl
theorem read_eq {a:TA} (h:OkA a) (hr:q21_ a=true):qfm_ (askB a,())=some (a,true,()):=by
 have hra:=q5a_ hr
 have hp:=numV_two h.at0 h.at1
 have hn:=numV_two h.m0 h.m1
 have ht:=numV_two h.t0 h.t1
 have hw:=h.w
 clear hr h
 cases hra with
 | bits f p n hf h1 h2 =>
  dsimp only at hp hn
  rcases hf with rfl | rfl
  ·refine (rd_many (f:=1) (r:=[]) (by show 0≤248; decide) (m:=2000) (bb:=0) (ww:=0) (tt:=false) (ee:=false) rfl rfl).trans ?_
   rw [hp,hn]; rfl
  ·refine (rd_many (f:=2) (r:=[]) (by show 0≤248; decide) (m:=2000) (bb:=0) (ww:=0) (tt:=false) (ee:=false) rfl rfl).trans ?_
   rw [hp,hn]; rfl
 | words f p n hf h1 h2 =>
  dsimp only at hp hn
  rcases hf with rfl | rfl
  ·refine (rd_many (f:=3) (r:=[]) (by show 0≤248; decide) (m:=125) (bb:=0) (ww:=0) (tt:=false) (ee:=false) rfl rfl).trans ?_
   rw [hp,hn]; rfl
  ·refine (rd_many (f:=4) (r:=[]) (by show 0≤248; decide) (m:=125) (bb:=0) (ww:=0) (tt:=false) (ee:=false) rfl rfl).trans ?_
   rw [hp,hn]; rfl
 | coil p b =>
  dsimp only at hp
  cases b with
  | true =>
   refine (rd_one (f:=5) (n1:=65280 / 256 % 256) (n2:=65280 % 256) (bb:=1) (ww:=0) (tt:=false) (ee:=false) rfl).trans ?_
   rw [hp]; rfl
  | false =>
   refine (rd_one (f:=5) (n1:=0 / 256 % 256) (n2:=0 % 256) (bb:=1) (ww:=0) (tt:=false) (ee:=false) rfl).trans ?_
   rw [hp]; rfl
 | word p x =>
  dsimp only at hp hw
  have hx:=hw x (by simp)
  refine (rd_one (f:=6) (n1:=x / 256 % 256) (n2:=x % 256) (bb:=0) (ww:=1) (tt:=false) (ee:=false) rfl).trans ?_
  rw [hp]
  show Option.bind (q3l_ ((6,p,0,0,[],[]),(0,0,1,false,false),[x / 256 % 256,x % 256],())) (fun y=>some (y.1,y.2.1,()))=_
  rw [wr_word,Option.bind_some,numV_two hx.1 hx.2]
 | coils p l h1 h2 =>
  dsimp only at hp hn
  have hN:packN l.length≤247:=by unfold packN; omega
  refine (rd_many (f:=15) (r:=(packN l.length:Int)::packS l) (by rw [List.length_cons,q7s_]; omega) (m:=1968) (bb:=1968) (ww:=0) (tt:=false) (ee:=true) rfl rfl).trans ?_
  rw [hp,hn]
  show Option.bind (q3l_ ((15,p,(l.length:Int),0,[],[]),(1968,1968,0,false,true),(packN l.length:Int)::packS l,())) (fun y=>some (y.1,y.2.1,()))=_
  rw [wr_coils p _ l h1 h2,Option.bind_some]
 | regs p l h1 h2 =>
  dsimp only at hp hn hw
  refine (rd_many (f:=16) (r:=2 * (l.length:Int)::l.flatMap two) (by rw [List.length_cons,q7j_]; omega) (m:=123) (bb:=0) (ww:=123) (tt:=false) (ee:=true) rfl rfl).trans ?_
  rw [hp,hn]
  show Option.bind (q3l_ ((16,p,(l.length:Int),0,[],[]),(123,0,123,false,true),2 * (l.length:Int)::l.flatMap two,())) (fun y=>some (y.1,y.2.1,()))=_
  rw [wr_regs p _ _ l hw h1 h2,Option.bind_some]
 | swap p n t l h1 h2 h3 h4 =>
  dsimp only at hp hn ht hw
  refine (rd_many (f:=23) (r:=t / 256 % 256::t % 256::(l.length:Int) / 256 % 256::(l.length:Int) % 256::2 * (l.length:Int)::l.flatMap two) (by simp only [List.length_cons,q7j_]; omega) (m:=125) (bb:=0) (ww:=121) (tt:=true) (ee:=false) rfl rfl).trans ?_
  rw [hp,hn,listS_two,ht]
  show (if lt (Int.ofNat (t / 256 % 256::t % 256::(l.length:Int) / 256 % 256::(l.length:Int) % 256::2 * (l.length:Int)::l.flatMap two).length) 4=true then some ((0,0,0,0,[],[]),false,()) else Option.bind (cut (t / 256 % 256::t % 256::(l.length:Int) / 256 % 256::(l.length:Int) % 256::2 * (l.length:Int)::l.flatMap two) 4 (Int.ofNat (t / 256 % 256::t % 256::(l.length:Int) / 256 % 256::(l.length:Int) % 256::2 * (l.length:Int)::l.flatMap two).length)) (fun y_1=>Option.bind (q3l_ ((23,p,n,t,[],[]),(125,0,121,true,false),y_1,())) (fun y=>some (y.1,y.2.1,()))))=_
  have ec:cut (t / 256 % 256::t % 256::(l.length:Int) / 256 % 256::(l.length:Int) % 256::2 * (l.length:Int)::l.flatMap two) 4 (Int.ofNat (t / 256 % 256::t % 256::(l.length:Int) / 256 % 256::(l.length:Int) % 256::2 * (l.length:Int)::l.flatMap two).length)=some (2 * (l.length:Int)::l.flatMap two):=cut_from (i:=4) (by simp)
  rw [if_neg (by rw [q7_,q1_]; simp only [List.length_cons]; omega),ec,Option.bind_some,wr_swap p n t _ l hw h1 (by omega),Option.bind_some]
theorem aparse_eq {a:TA} (h:OkA a) (hr:q21_ a=true):qpz_ (askB a,())=some (a,0,()):=by
 show qev_ qhk_ (askB a)=_
 unfold qev_
 have e:qw_ (askB a,askB a,())=some (true,()):=by
  show some (eqs (toS (askB a)) (toS (askB a)),())=_
  rw [eqs_iff.2 rfl]
 rw [read_eq h hr,Option.bind_some,if_neg (by show ¬ (!true)=true; decide),quj_ h,if_pos hr,Option.bind_some,if_neg (by show ¬ nei 0 0=true; decide)]
 dsimp only
 rw [e]
 rfl
end Go.Proofs.Lx
end
section
namespace Go.Proofs.Lx
open Go Ev Sx Pl
set_option maxRecDepth 100000
structure OkR (r:TR):Prop where
 f0:0≤r.1
 f1:r.1≤255
 e0:0≤r.2.1
 e1:r.2.1≤255
 w:∀ x ∈ r.2.2.2.1,0≤x∧x≤65535
 at0:0≤r.2.2.2.2.1
 at1:r.2.2.2.2.1≤65535
 m0:0≤r.2.2.2.2.2
 m1:r.2.2.2.2.2≤65535
 lb:r.2.2.1.length≤100000
 lw:r.2.2.2.1.length≤100000
inductive RR:TR->Prop where
 | ex (f e:Int) (h0:0≤f) (h:f < 128) (h1:1≤e) (h2:e≤4):RR (f,e,[],[],0,0)
 | bits (f:Int) (l:List Bool) (hf:f=1∨f=2) (h1:8≤l.length) (h2:l.length≤2000) (h3:l.length % 8=0):RR (f,0,l,[],0,0)
 | words (f:Int) (l:List Int) (hf:f=3∨f=4∨f=23) (h1:1≤l.length) (h2:l.length≤125):RR (f,0,[],l,0,0)
 | coil (b:Bool) (p:Int):RR (5,0,[b],[],p,0)
 | word (x p:Int):RR (6,0,[],[x],p,0)
 | coils (p n:Int) (h1:1≤n) (h2:n≤1968):RR (15,0,[],[],p,n)
 | regs (p n:Int) (h1:1≤n) (h2:n≤123):RR (16,0,[],[],p,n)
theorem rem128 {f:Int} (h0:0≤f) (h:f < 128):rem f 128=f:=by
 unfold rem
 rw [Int.tmod_eq_emod_of_nonneg h0]
 omega
def repB (r:TR):List Int:=if nei r.2.1 0=true then exB r else if eqi r.1 1=true then bitB r else if eqi r.1 2=true then bitB r else if eqi r.1 3=true then wordB r else if eqi r.1 4=true then wordB r else if eqi r.1 23=true then wordB r else
 if eqi r.1 5=true then obB r else if eqi r.1 6=true then owB r else if eqi r.1 15=true then ctB r else if eqi r.1 16=true then ctB r else []
theorem repB_len {r:TR} (h:RR r):2≤(repB r).length∧(repB r).length≤253:=by
 cases h with
 | ex f e h0 h h1 h2 =>
  unfold repB
  rw [if_pos (by rw [qk_]; show e ≠ 0; omega)]
  exact ⟨Nat.le.refl,(by decide:2≤253)⟩
 | bits f l hf h1 h2 h3 =>
  have e:repB (f,0,l,[],0,0)=bitB (f,0,l,[],0,0):=by rcases hf with rfl | rfl <;> rfl
  rw [e]
  show 2≤(f::_::packS l).length∧(f::_::packS l).length≤253
  simp only [List.length_cons,q7s_]
  unfold packN
  omega
 | words f l hf h1 h2 =>
  have e:repB (f,0,[],l,0,0)=wordB (f,0,[],l,0,0):=by rcases hf with rfl | rfl | rfl <;> rfl
  rw [e]
  show 2≤([f,_]++l.flatMap two).length∧([f,_]++l.flatMap two).length≤253
  simp only [List.length_append,List.length_cons,List.length_nil,q7j_]
  omega
 | coil b p=>exact ⟨(by decide:2≤5),(by decide:5≤253)⟩
 | word x p=>exact ⟨(by decide:2≤5),(by decide:5≤253)⟩
 | coils p n h1 h2=>exact ⟨(by decide:2≤5),(by decide:5≤253)⟩
 | regs p n h1 h2=>exact ⟨(by decide:2≤5),(by decide:5≤253)⟩
end Go.Proofs.Lx
end
section
namespace Go.Proofs.Lx
open Go Ev Sx Pl
set_option maxRecDepth 100000
theorem wr_if {c:Bool} {w:Option (List Int×Unit)} {x:List Int} (hw:c=true->w=some (x,())) :
  (if c=true then Option.bind w fun y=>(some (y.1,0,()):Option (As [.sl (.int .u8),.int .i64])) else some ([],13,()))=if c=true then some (x,0,()) else some ([],13,()):=by
 by_cases h:c=true
 ·rw [if_pos h,if_pos h,hw h]
  rfl
 ·rw [if_neg h,if_neg h]
abbrev RB:=Option (As [.sl (.int .u8),.int .i64])
theorem if_step {c:Bool} {A B:RB} {ra rb:Bool} {xa xb:List Int} (h1:A=if ra=true then some (xa,0,()) else some ([],13,())) (h2:B=if rb=true then some (xb,0,()) else some ([],13,())) :
  (if c=true then A else B)=if (if c=true then ra else rb)=true then some ((if c=true then xa else xb),0,()) else some ([],13,()):=by
 cases c with
 | true=>exact h1
 | false=>exact h2
theorem rbytes_eq {r:TR} (h:SmR r):qd3_ (r,())=if rightR r=true then some (repB r,0,()) else some ([],13,()):=by
 show qp2_ r=_
 unfold qp2_ rightR repB
 rw [exR_eq h,bitR_eq h,wordR_eq h,obR_eq h,owR_eq h,ctR_eq h,ctR_eq h]
 simp only [Option.bind_some]
 have wex:=wr_if (c:=exR r) (fun _=>exB_eq r)
 have wbit:=wr_if (c:=bitR r) (fun _=>bitB_eq h)
 have wword:=wr_if (c:=wordR r) (fun _=>wordB_eq h)
 have wob:=wr_if (c:=obR r) (fun hc=>obB_eq hc)
 have wow:=wr_if (c:=owR r) (fun hc=>owB_eq hc)
 have wc1:=wr_if (c:=ctR 1968 r) (fun _=>ctB_eq 1968 r)
 have wc2:=wr_if (c:=ctR 123 r) (fun _=>ctB_eq 123 r)
 exact if_step wex (if_step wbit (if_step wbit (if_step wword (if_step wword (if_step wword (if_step wob (if_step wow (if_step wc1 (if_step wc2 rfl)))))))))
theorem listS_rng (b:List Int):∀ x ∈ listS b,0≤x∧x≤65535:=by
 intro x hx
 unfold listS at hx
 obtain ⟨i,_,rfl⟩:=List.mem_map.1 hx
 have:=numV_rng (b.getD (2 * i) 0) (b.getD (2 * i + 1) 0)
 omega
theorem written_any {f p n t:Int} (hf:0≤f∧f≤255) (hp:0≤p∧p≤65535) (hn:0≤n∧n≤65535) (ht:0≤t∧t≤65535) (s:Int×Int×Int×Bool×Bool) {rest:List Int} (hl:rest.length≤300) :
  ∃ (a:TA) (ok:Bool),q3l_ ((f,p,n,t,[],[]),s,rest,())=some (a,ok,())∧(ok=true->OkA a):=by
 have mkw:∀ l:List Int,(∀ x ∈ l,0≤x∧x≤65535)->l.length≤100000->OkA (f,p,n,t,l,[]):=fun l h1 h2=>⟨hf.1,hf.2,hp.1,hp.2,hn.1,hn.2,ht.1,ht.2,h1,h2,Nat.zero_le _⟩
 have mkb:∀ l:List Bool,l.length≤100000->OkA (f,p,n,t,[],l):=fun l h2=>⟨hf.1,hf.2,hp.1,hp.2,hn.1,hn.2,ht.1,ht.2,(fun x hx=>by cases hx),Nat.zero_le _,h2⟩
 show ∃ (a:TA) (ok:Bool),qie_ qiq_ (f,p,n,t,[],[]) s rest=_∧_
 unfold qie_
 dsimp only
 by_cases h1:eqi (add .i64 s.2.1 s.2.2.1) 0=true
 ·rw [if_pos h1]
  exact ⟨_,_,rfl,fun _=>mkw [] (fun x hx=>by cases hx) (Nat.zero_le _)⟩
 ·rw [if_neg h1]
  by_cases h2:rest.length < 2
  ·rw [if_pos (by rw [q7_,q1_]; omega)]
   exact ⟨_,_,rfl,fun e=>by cases e⟩
  ·rw [if_neg (by rw [q7_,q1_]; omega)]
   by_cases h5:eqi f 5=true
   ·rw [if_pos h5]
    match rest,h2 with
    | y::r,_ =>
     rw [q1m_,Option.bind_some]
     exact ⟨_,_,rfl,fun _=>mkb [nei y 0] (by show 1≤100000; decide)⟩
    | [],h2=>exact absurd (by decide) h2
   ·rw [if_neg h5]
    by_cases h6:eqi f 6=true
    ·rw [if_pos h6,alist_eq (by omega),Option.bind_some]
     exact ⟨_,_,rfl,fun _=>mkw _ (listS_rng _) (by rw [listS_len]; omega)⟩
    ·rw [if_neg h6]
     match rest,h2 with
     | [],h2=>exact absurd (by decide) h2
     | y::r,_ =>
      have hr:r.length≤300:=by simp at hl; omega
      by_cases hb:gt s.2.1 0=true
      ·rw [if_pos hb,cut_tail,Option.bind_some,unpack_eq (by omega),Option.bind_some]
       dsimp only
       rw [cvt64 (by omega) (by omega)]
       by_cases hlt:lt (Int.ofNat (unpackS r).length) n=true
       ·rw [if_pos hlt]
        exact ⟨_,_,rfl,fun e=>by cases e⟩
       ·rw [if_neg hlt]
        rw [q7_,q1_,unpackS_len] at hlt
        obtain ⟨k,rfl⟩:=Int.eq_ofNat_of_zero_le hn.1
        rw [cut_to (by rw [unpackS_len]; omega),Option.bind_some,q8_ (by rw [qs_]; omega),q8_ (by rw [qs_,q1_,unpackS_len]; omega)]
        exact ⟨_,_,rfl,fun _=>mkb _ (by rw [List.length_take,unpackS_len]; omega)⟩
      ·rw [if_neg hb,cut_tail,Option.bind_some,alist_eq (by omega),Option.bind_some]
       exact ⟨_,_,rfl,fun _=>mkw _ (listS_rng _) (by rw [listS_len]; omega)⟩
theorem five_of {b:List Int} (h:5≤b.length):∃ f p1 p2 n1 n2 r,b=f::p1::p2::n1::n2::r:=by
 match b,h with
 | f::p1::p2::n1::n2::r,_=>exact ⟨f,p1,p2,n1,n2,r,rfl⟩
theorem aread_any {b:List Int} (hb:∀ x ∈ b,0≤x∧x≤255):∃ (a:TA) (ok:Bool),qfm_ (b,())=some (a,ok,())∧(ok=true->OkA a):=by
 have bad:q9t_ b true 0 0 0 0=some ((0,0,0,0,[],[]),false,()):=rfl
 by_cases h5:b.length < 5
 ·refine ⟨(0,0,0,0,[],[]),false,?_,fun e=>by cases e⟩
  show q6t_ q9t_ b=_
  unfold q6t_
  rw [if_pos (by rw [q7_,q1_]; omega)]
  exact bad
 ·by_cases h253:253 < b.length
  ·refine ⟨(0,0,0,0,[],[]),false,?_,fun e=>by cases e⟩
   show q6t_ q9t_ b=_
   unfold q6t_
   rw [if_neg (by rw [q7_,q1_]; omega),show gt (Int.ofNat b.length) 253=true from gt_iff.2 (by rw [q1_]; omega)]
   exact bad
  ·obtain ⟨f,p1,p2,n1,n2,r,rfl⟩:=five_of (b:=b) (by omega)
   have hf:0≤f∧f≤255:=hb f (by simp)
   have hr:r.length≤248:=by simp at h253; omega
   have hg:gt (Int.ofNat (f::p1::p2::n1::n2::r).length) 253=false:=by
    rw [<- Bool.not_eq_true,gt_iff,q1_]; simp; omega
   have hm0:qfm_ (f::p1::p2::n1::n2::r,())=q9z_ q6u_ (f::p1::p2::n1::n2::r) false 0 0 0 0:=by
    show q6t_ q9t_ _=_
    unfold q6t_
    rw [if_neg (by rw [q7_,q1_]; simp; omega),hg]
    rfl
   have ec3:cut (f::p1::p2::n1::n2::r) 3 (Int.ofNat (f::p1::p2::n1::n2::r).length)=some (n1::n2::r):=cut_from (i:=3) (by simp)
   have ec5:cut (f::p1::p2::n1::n2::r) 5 (Int.ofNat (f::p1::p2::n1::n2::r).length)=some r:=cut_from (i:=5) (by simp)
   have nn:∀ x y,0≤numV x y∧numV x y≤65535:=fun x y=>by have:=numV_rng x y; omega
   have tail:∀ (l rest:List Int) (s:Int×Int×Int×Bool×Bool) (n:Int),(∃ q,l=numV p1 p2::numV n1 n2::q∧(4≤rest.length->q ≠ []∧∀ x ∈ q,0≤x∧x≤65535))->rest.length≤300->(0≤n∧n≤65535) ->
     ∃ (a:TA) (ok:Bool),q6u_ l rest 0 0 0 0 s.1 s.2.1 s.2.2.1 s.2.2.2.1 s.2.2.2.2 f (numV p1 p2) n 0=some (a,ok,())∧(ok=true->OkA a):=by
    rintro l rest s n ⟨q,rfl,hq⟩ hrl hn
    have k3:∀ (rest:List Int) (t:Int),rest.length≤300->(0≤t∧t≤65535)->∃ (a:TA) (ok:Bool),qpb_ rest 0 0 0 0 s.1 s.2.1 s.2.2.1 s.2.2.2.1 s.2.2.2.2 f (numV p1 p2) n t=some (a,ok,())∧(ok=true->OkA a):=fun rest t h1 h2=>by
     obtain ⟨a,ok,e1,e2⟩:=written_any hf (nn p1 p2) hn h2 s h1
     refine ⟨a,ok,?_,e2⟩
     show Option.bind (q3l_ ((f,numV p1 p2,n,t,[],[]),s,rest,())) _=_
     rw [e1]
     rfl
    unfold q6u_ qt7_
    by_cases ht:s.2.2.2.1=true
    ·rw [if_pos ht]
     by_cases h4:rest.length < 4
     ·rw [if_pos (by rw [q7_,q1_]; omega)]
      exact ⟨_,_,rfl,fun e=>by cases e⟩
     ·rw [if_neg (by rw [q7_,q1_]; omega)]
      obtain ⟨hq1,hq2⟩:=hq (by omega)
      match q,hq1,hq2 with
      | z::q,_,hq2 =>
       have hat:at? (numV p1 p2::numV n1 n2::z::q) 2=some z:=rfl
       rw [hat,Option.bind_some]
       have hc:cut rest 4 (Int.ofNat rest.length)=some (rest.drop 4):=cut_from (i:=4) (by omega)
       rw [hc,Option.bind_some]
       exact k3 _ z (by rw [List.length_drop]; omega) (hq2 z (by simp))
      | [],hq1,_=>exact absurd rfl hq1
    ·rw [if_neg ht]
     exact k3 rest 0 hrl ⟨by decide,by decide⟩
   rw [hm0]
   unfold q9z_
   rw [if_neg (by decide),q1m_,Option.bind_some,shape_eq,Option.bind_some]
   cases hs:shp f with
   | none=>exact ⟨_,false,rfl,fun e=>by cases e⟩
   | some s =>
    dsimp only
    rw [if_neg (by show ¬ (!true)=true; decide),cut_tail,Option.bind_some,alist_eq (by simp; omega),Option.bind_some,Option.bind_some,listS_two,listS_two,q1m_,Option.bind_some,ec3,Option.bind_some]
    have hsd:shpD f=s:=by unfold shpD; rw [hs]; rfl
    rw [hsd]
    have hq4:4≤r.length->listS r ≠ []∧∀ x ∈ listS r,0≤x∧x≤65535:=fun h=>⟨fun e=>by have:=listS_len r; rw [e] at this; simp at this; omega,listS_rng r⟩
    by_cases hm:gt s.1 0=true
    ·rw [if_pos hm,at_one,Option.bind_some,ec5,Option.bind_some]
     exact tail _ r s _ ⟨listS r,rfl,hq4⟩ (by omega) (nn n1 n2)
    ·rw [if_neg hm]
     by_cases h4:4≤(n1::n2::r).length
     ·refine tail _ (n1::n2::r) s 0 ⟨listS r,rfl,fun _=>?_⟩ (by simp; omega) ⟨by decide,by decide⟩
      refine ⟨fun e=>?_,listS_rng r⟩
      have:=listS_len r
      rw [e] at this
      simp at this h4
      omega
     ·exact tail _ (n1::n2::r) s 0 ⟨listS r,rfl,fun h=>absurd h h4⟩ (by simp; omega) ⟨by decide,by decide⟩
theorem aparse_any {b:List Int} (hb:∀ x ∈ b,0≤x∧x≤255):∃ (a:TA) (e:Int),qpz_ (b,())=some (a,e,())∧((e=0∧OkA a∧q21_ a=true∧toS (askB a)=toS b)∨e=12):=by
 obtain ⟨a,ok,h1,h2⟩:=aread_any hb
 show ∃ (a':TA) (e:Int),qev_ qhk_ b=some (a',e,())∧_
 unfold qev_
 rw [h1,Option.bind_some]
 cases ok with
 | false=>exact ⟨_,_,rfl,.inr rfl⟩
 | true =>
  have ha:=h2 rfl
  dsimp only
  rw [if_neg (by decide),quj_ ha]
  cases hr:q21_ a with
  | false=>exact ⟨_,_,rfl,.inr rfl⟩
  | true =>
   rw [if_pos rfl,Option.bind_some,if_neg (show ¬ nei 0 0=true by decide)]
   dsimp only
   have e:qw_ (askB a,b,())=some (eqs (toS (askB a)) (toS b),()):=rfl
   rw [e,Option.bind_some]
   cases he:eqs (toS (askB a)) (toS b) with
   | false=>exact ⟨_,_,rfl,.inr rfl⟩
   | true=>exact ⟨a,0,rfl,.inl ⟨rfl,ha,hr,eqs_iff.1 he⟩⟩
theorem look_any {f:Int} {b:List Int} (hb:∀ x ∈ f::b,0≤x∧x≤255):∃ (a:TA) (e:Int),qfd_ (f::b,())=some (a,e,())∧((e=0∧OkA a∧q21_ a=true∧toS (askB a)=toS (f::b))∨((e=1∨e=3)∧a=(f,0,0,0,[],[]))):=by
 obtain ⟨a,e,h1,h2⟩:=aparse_any hb
 show ∃ (a':TA) (e:Int),qk4_ (f::b)=some (a',e,())∧_
 unfold qk4_
 rw [if_neg (by rw [q4_,q1_,List.length_cons]; omega),h1,Option.bind_some]
 dsimp only
 rcases h2 with ⟨rfl,ha⟩ | rfl
 ·exact ⟨a,0,rfl,.inl ⟨rfl,ha⟩⟩
 ·rw [if_neg (by decide),q1m_,Option.bind_some,Option.bind_some,shape_eq,Option.bind_some]
  dsimp only
  split
  ·exact ⟨_,_,rfl,.inr ⟨.inl rfl,rfl⟩⟩
  ·exact ⟨_,_,rfl,.inr ⟨.inr rfl,rfl⟩⟩
end Go.Proofs.Lx
end
section
namespace Go.Proofs.Lx
open Go Ev Sx Pl
set_option maxRecDepth 100000
abbrev TArea:=Int×Int×Bool×Bool×Bool
def covS (x:TArea) (i:Int):Bool:=decide (1≤x.2.1∧x.1≤i∧i < x.1 + x.2.1)
def qt_ (l:List TArea) (i:Int):Option TArea:=l.find? fun x=>covS x i
def wantF (w:TArea->Bool) (l:List TArea) (i:Int):Bool:=match qt_ l i with
 | some x=>w x
 | none=>false
def eachS (w:TArea->Bool) (l:List TArea) (p:Int) (m:Nat):Bool:=(List.range m).all fun k=>wantF w l (p + (k:Int))
def OkAr (x:TArea):Prop:=-9223372036854775808≤x.1∧x.1≤9223372036854775807∧-9223372036854775808≤x.2.1∧x.2.1≤9223372036854775807
theorem capOk_sf (n:Int):capOk n n=true:=by
 unfold capOk
 rw [if_pos rfl]
theorem meet_gen {x:TArea} {p e:Int} (h0:0≤p) (hpe:p≤e) (he:e≤1000000000000) (hx:OkAr x) :
  ∃ f t,q72_ (x,p,e,())=some (f,t,())∧p≤f∧f≤e∧t≤e∧∀ i,p≤i->i < e->(covS x i=true ↔ f≤i∧i < t):=by
 obtain ⟨x1,x2,x3,x4⟩:=hx
 show ∃ f t,qle_ qc1_ x p e=_∧_
 unfold qle_
 have none:∃ f t,qc1_ p e true x=some (f,t,())∧f=p∧t=p:=⟨p,p,rfl,rfl,rfl⟩
 by_cases hm:x.2.1 < 1
 ·rw [if_pos (q7_.2 hm)]
  obtain ⟨f,t,h1,rfl,rfl⟩:=none
  refine ⟨_,_,h1,Int.le_refl _,hpe,hpe,fun i hi hie=>?_⟩
  unfold covS
  rw [decide_eq_true_eq]
  omega
 ·rw [if_neg (fun h=>hm (q7_.1 h))]
  by_cases ha:e≤x.1
  ·rw [q12_.2 ha]
   obtain ⟨f,t,h1,rfl,rfl⟩:=none
   refine ⟨_,_,h1,Int.le_refl _,hpe,hpe,fun i hi hie=>?_⟩
   unfold covS
   rw [decide_eq_true_eq]
   omega
  ·rw [show ge x.1 e=false from decide_eq_false ha]
   have K3:∀ t,qgc_ p t x=some (if p < x.1 then x.1 else p,t,()):=fun t=>by
    unfold qgc_ qqu_
    simp only [gt_iff]
   have K2t:qby_ p e e true x=some (if p < x.1 then x.1 else p,(if x.1 + x.2.1 < e then x.1 + x.2.1 else e),())∨¬ (x.1 < 0∨x.2.1 < e - x.1):=by
    by_cases hc:x.1 < 0∨x.2.1 < e - x.1
    ·left
     unfold qby_ qlg_
     have hadd:add .i64 x.1 x.2.1=x.1 + x.2.1:=add64 (by omega) (by omega)
     rw [if_pos rfl,K3,hadd]
     simp only [q7_]
    ·exact .inr hc
   have fin:∀ t,(t=(if x.1 + x.2.1 < e then x.1 + x.2.1 else e))->p≤(if p < x.1 then x.1 else p)∧(if p < x.1 then x.1 else p)≤e∧t≤e∧∀ i,p≤i->i < e->(covS x i=true ↔ (if p < x.1 then x.1 else p)≤i∧i < t):=fun t ht=>by
    subst ht
    refine ⟨by split <;> omega,by split <;> omega,by split <;> omega,fun i hi hie=>?_⟩
    unfold covS
    rw [decide_eq_true_eq]
    split <;> split <;> omega
   unfold qc1_ qqz_
   rw [if_neg (by decide)]
   by_cases hn:x.1 < 0
   ·rw [if_pos (q7_.2 hn)]
    rcases K2t with h | h
    ·obtain ⟨g1,g2,g3,g4⟩:=fin _ rfl
     exact ⟨_,_,h,g1,g2,g3,g4⟩
    ·exact absurd (.inl hn) h
   ·rw [if_neg (fun h=>hn (q7_.1 h)),sub64 (by omega) (by omega)]
    by_cases hc:x.2.1 < e - x.1
    ·rw [q7_.2 hc]
     rcases K2t with h | h
     ·obtain ⟨g1,g2,g3,g4⟩:=fin _ rfl
      exact ⟨_,_,h,g1,g2,g3,g4⟩
     ·exact absurd (.inr hc) h
    ·rw [show lt x.2.1 (e - x.1)=false from decide_eq_false hc]
     unfold qby_ qlg_
     rw [if_neg (by decide),K3]
     obtain ⟨g1,g2,g3,g4⟩:=fin e (by rw [if_neg (by omega)])
     exact ⟨_,_,rfl,g1,g2,g3,g4⟩
theorem first_take {l:List TArea} {t:Nat} {i:Int} {y:TArea} (h:qt_ (l.take t) i=some y):qt_ l i=some y:=by
 have:qt_ l i=(qt_ (l.take t) i).or (qt_ (l.drop t) i):=by
  unfold qt_
  rw [<- List.find?_append,List.take_append_drop]
 rw [this,h]
 rfl
theorem first_next {l:List TArea} {t:Nat} (ht:t < l.length) (i:Int):qt_ (l.take (t + 1)) i=(qt_ (l.take t) i).or (if covS l[t] i=true then some l[t] else none):=by
 unfold qt_
 rw [List.take_succ_eq_append_getElem ht,List.find?_append]
 congr 1
 simp only [List.find?_cons,List.find?_nil]
 cases covS l[t] i <;> rfl
def MetI (w:TArea->Bool) (l:List TArea) (p:Int) (m:Nat) (c:Int->Bool) (met:List Bool) (left:Int):Prop :=
 met.length=m∧left=((met.countP fun b=>!b:Nat):Int)∧∀ k:Nat,k < m->met[k]? = some (c (p + (k:Int)))∧(c (p + (k:Int))=true->wantF w l (p + (k:Int))=true)
theorem met_0 (w:TArea->Bool) (l:List TArea) (p:Int) (m:Nat):MetI w l p m (fun i=>(qt_ (l.take 0) i).isSome) (List.replicate m false) (m:Int):=by
 refine ⟨List.length_replicate ..,?_,fun k hk=>⟨?_,fun e=>by cases e⟩⟩
 ·rw [List.countP_replicate]
  rfl
 ·rw [List.getElem?_replicate,if_pos hk]
  rfl
theorem met_zero {w:TArea->Bool} {l:List TArea} {p:Int} {m:Nat} {c:Int->Bool} {met:List Bool} {left:Int} (h:MetI w l p m c met left) (h0:left=0):eachS w l p m=true:=by
 obtain ⟨h1,h2,h3⟩:=h
 unfold eachS
 rw [List.all_eq_true]
 intro k hk
 rw [List.mem_range] at hk
 obtain ⟨e1,e2⟩:=h3 k hk
 refine e2 ?_
 have hz:met.countP (fun b=>!b)=0:=by omega
 have:=List.countP_eq_zero.1 hz _ (List.mem_of_getElem? e1)
 simpa using this
theorem met_left {w:TArea->Bool} {l:List TArea} {p:Int} {m:Nat} {met:List Bool} {left:Int} (h:MetI w l p m (fun i=>(qt_ l i).isSome) met left) (h0:left ≠ 0):eachS w l p m=false:=by
 obtain ⟨h1,h2,h3⟩:=h
 rw [<- Bool.not_eq_true]
 intro hall
 unfold eachS at hall
 rw [List.all_eq_true] at hall
 apply h0
 rw [h2]
 have:met.countP (fun b=>!b)=0:=by
  rw [List.countP_eq_zero]
  intro b hb
  obtain ⟨k,hk,rfl⟩:=List.getElem_of_mem hb
  have e1:=(h3 k (by omega)).1
  have hw:=hall k (List.mem_range.2 (by omega))
  unfold wantF at hw
  rw [List.getElem?_eq_getElem hk] at e1
  dsimp only at e1
  cases hf:qt_ l (p + (k:Int)) with
  | none=>rw [hf] at hw; cases hw
  | some y =>
   rw [hf] at e1
   have e1:met[k]=true:=by simpa using e1
   rw [e1]
   decide
 rw [this]
 rfl
theorem met_false {w:TArea->Bool} {l:List TArea} {p:Int} {m k:Nat} (hk:k < m) (h:wantF w l (p + (k:Int))=false):eachS w l p m=false:=by
 rw [<- Bool.not_eq_true]
 intro hall
 unfold eachS at hall
 rw [List.all_eq_true] at hall
 have:=hall k (List.mem_range.2 hk)
 rw [h] at this
 cases this
theorem q55_ {w:TArea->Bool} {l:List TArea} {p:Int} {m:Nat} {c c':Int->Bool} {met:List Bool} {left:Int} (h:MetI w l p m c met left) (hc:∀ k:Nat,k < m->c' (p + (k:Int))=c (p + (k:Int))):MetI w l p m c' met left :=
 ⟨h.1,h.2.1,fun k hk=>by rw [hc k hk]; exact h.2.2 k hk⟩
theorem met_set {w:TArea->Bool} {l:List TArea} {p:Int} {m k:Nat} {c:Int->Bool} {met:List Bool} {left:Int} (h:MetI w l p m c met left) (hk:k < m) (hf:c (p + (k:Int))=false) (hw:wantF w l (p + (k:Int))=true) :
  MetI w l p m (fun i=>c i || decide (i=p + (k:Int))) (met.set k true) (left - 1):=by
 obtain ⟨h1,h2,h3⟩:=h
 have hg:=(h3 k hk).1
 have hkl:k < met.length:=by omega
 rw [List.getElem?_eq_getElem hkl,hf] at hg
 have hg:met[k]=false:=by simpa using hg
 refine ⟨by simp [h1],?_,fun j hj=>?_⟩
 ·have hpos:0 < met.countP (fun b=>!b):=by
   rw [List.countP_pos_iff]
   exact ⟨met[k],List.getElem_mem hkl,by rw [hg]; rfl⟩
  rw [List.countP_set hkl,hg,h2]
  simp only [Bool.not_false,if_true,Bool.not_true,Bool.false_eq_true,if_false]
  omega
 ·obtain ⟨e1,e2⟩:=h3 j hj
  dsimp only
  by_cases hjk:k=j
  ·subst hjk
   refine ⟨?_,fun _=>hw⟩
   rw [List.getElem?_set_self hkl,decide_eq_true rfl,Bool.or_true]
  ·have:¬ (p + (j:Int)=p + (k:Int)):=by omega
   refine ⟨?_,fun e=>?_⟩
   ·rw [List.getElem?_set_ne hjk,e1,decide_eq_false this,Bool.or_false]
   ·rw [decide_eq_false this,Bool.or_false] at e
    exact e2 e
def qq3_ (u1:Int->Int->Int->List (Int×Int×Bool×Bool×Bool)->Int->Int->List Bool->Option (As [.bool])):=(fun (self:(Int)×(Int)×(Int)×(Int)×(Int)×(List (Int×Int×Bool×Bool×Bool))×(Int)×(Int)×(List Bool)×(Int×Int×Bool×Bool×Bool)->Option (As [.bool])) (s:(Int)×(Int)×(Int)×(Int)×(Int)×(List (Int×Int×Bool×Bool×Bool))×(Int)×(Int)×(List Bool)×(Int×Int×Bool×Bool×Bool))=>qak_ (q61_ u1 (fun at' many left to' i t19 t20 t21 met x=>self (at',many,left,to',i,t19,t20,t21,met,x))) u1 (fun at' many left to' i t19 t20 t21 met x=>self (at',many,left,to',i,t19,t20,t21,met,x)) s.1 s.2.1 s.2.2.1 s.2.2.2.1 s.2.2.2.2.1 s.2.2.2.2.2.1 s.2.2.2.2.2.2.1 s.2.2.2.2.2.2.2.1 s.2.2.2.2.2.2.2.2.1 s.2.2.2.2.2.2.2.2.2)
theorem qvk_ (u1:Int->Int->Int->List (Int×Int×Bool×Bool×Bool)->Int->Int->List Bool->Option (As [.bool])) (self:(Int)×(Int)×(Int)×(Int)×(Int)×(List (Int×Int×Bool×Bool×Bool))×(Int)×(Int)×(List Bool)×(Int×Int×Bool×Bool×Bool)->Option (As [.bool])) (at' many left to' i:Int) (t19:List (Int×Int×Bool×Bool×Bool)) (t20 t21:Int) (met:List Bool) (x:Int×Int×Bool×Bool×Bool):qq3_ u1 self (at',many,left,to',i,t19,t20,t21,met,x)=qak_ (q61_ u1 (fun at' many left to' i t19 t20 t21 met x=>self (at',many,left,to',i,t19,t20,t21,met,x))) u1 (fun at' many left to' i t19 t20 t21 met x=>self (at',many,left,to',i,t19,t20,t21,met,x)) at' many left to' i t19 t20 t21 met x:=rfl
theorem qvn_ (u1:Int->Int->Int->List (Int×Int×Bool×Bool×Bool)->Int->Int->List Bool->Option (As [.bool])) (at' many left to' i:Int) (t19:List (Int×Int×Bool×Bool×Bool)) (t20 t21:Int) (met:List Bool) (x:Int×Int×Bool×Bool×Bool):q5v_ u1 at' many left to' i t19 t20 t21 met x=loopF (qq3_ u1) 18446744073709551616 (at',many,left,to',i,t19,t20,t21,met,x):=rfl
def qpo_ :=(fun (self:(Int)×(Int)×(Int)×(List (Int×Int×Bool×Bool×Bool))×(Int)×(Int)×(List Bool)->Option (As [.bool])) (s:(Int)×(Int)×(Int)×(List (Int×Int×Bool×Bool×Bool))×(Int)×(Int)×(List Bool))=>qan_ (q85_) (q5v_ (fun at' many left t19 t20 t21 met=>self (at',many,left,t19,t20,t21,met))) (fun at' many left t19 t20 t21 met=>self (at',many,left,t19,t20,t21,met)) s.1 s.2.1 s.2.2.1 s.2.2.2.1 s.2.2.2.2.1 s.2.2.2.2.2.1 s.2.2.2.2.2.2)
theorem qvi_  (self:(Int)×(Int)×(Int)×(List (Int×Int×Bool×Bool×Bool))×(Int)×(Int)×(List Bool)->Option (As [.bool])) (at':Int) (many:Int) (left:Int) (t19:List (Int×Int×Bool×Bool×Bool)) (t20:Int) (t21:Int) (met:List Bool):qpo_ self (at',many,left,t19,t20,t21,met)=qan_ (q85_) (q5v_ (fun at' many left t19 t20 t21 met=>self (at',many,left,t19,t20,t21,met))) (fun at' many left t19 t20 t21 met=>self (at',many,left,t19,t20,t21,met)) at' many left t19 t20 t21 met:=rfl
theorem qvl_  (at':Int) (many:Int) (left:Int) (t19:List (Int×Int×Bool×Bool×Bool)) (t20:Int) (t21:Int) (met:List Bool):qb9_ at' many left t19 t20 t21 met=loopF (qpo_) 18446744073709551616 (at',many,left,t19,t20,t21,met):=rfl
def qpl_ (u1:Int->Int->Int->List (Int×Int×Bool×Bool×Bool)->Int->Int->List Bool->Option (As [.bool])):=(fun (self:(Int)×(Int)×(Int)×(Int)×(Int)×(List (Int×Int×Bool×Bool×Bool))×(Int)×(Int)×(List Bool)×(Int×Int×Bool×Bool×Bool)->Option (As [.bool])) (s:(Int)×(Int)×(Int)×(Int)×(Int)×(List (Int×Int×Bool×Bool×Bool))×(Int)×(Int)×(List Bool)×(Int×Int×Bool×Bool×Bool))=>qal_ (q5y_ u1 (fun at' many left to' i t19 t20 t21 met x=>self (at',many,left,to',i,t19,t20,t21,met,x))) u1 (fun at' many left to' i t19 t20 t21 met x=>self (at',many,left,to',i,t19,t20,t21,met,x)) s.1 s.2.1 s.2.2.1 s.2.2.2.1 s.2.2.2.2.1 s.2.2.2.2.2.1 s.2.2.2.2.2.2.1 s.2.2.2.2.2.2.2.1 s.2.2.2.2.2.2.2.2.1 s.2.2.2.2.2.2.2.2.2)
theorem qvh_ (u1:Int->Int->Int->List (Int×Int×Bool×Bool×Bool)->Int->Int->List Bool->Option (As [.bool])) (self:(Int)×(Int)×(Int)×(Int)×(Int)×(List (Int×Int×Bool×Bool×Bool))×(Int)×(Int)×(List Bool)×(Int×Int×Bool×Bool×Bool)->Option (As [.bool])) (at' many left to' i:Int) (t19:List (Int×Int×Bool×Bool×Bool)) (t20 t21:Int) (met:List Bool) (x:Int×Int×Bool×Bool×Bool):qpl_ u1 self (at',many,left,to',i,t19,t20,t21,met,x)=qal_ (q5y_ u1 (fun at' many left to' i t19 t20 t21 met x=>self (at',many,left,to',i,t19,t20,t21,met,x))) u1 (fun at' many left to' i t19 t20 t21 met x=>self (at',many,left,to',i,t19,t20,t21,met,x)) at' many left to' i t19 t20 t21 met x:=rfl
theorem qvu_ (u1:Int->Int->Int->List (Int×Int×Bool×Bool×Bool)->Int->Int->List Bool->Option (As [.bool])) (at' many left to' i:Int) (t19:List (Int×Int×Bool×Bool×Bool)) (t20 t21:Int) (met:List Bool) (x:Int×Int×Bool×Bool×Bool):q5w_ u1 at' many left to' i t19 t20 t21 met x=loopF (qpl_ u1) 18446744073709551616 (at',many,left,to',i,t19,t20,t21,met,x):=rfl
def qq8_ :=(fun (self:(Int)×(Int)×(Int)×(List (Int×Int×Bool×Bool×Bool))×(Int)×(Int)×(List Bool)->Option (As [.bool])) (s:(Int)×(Int)×(Int)×(List (Int×Int×Bool×Bool×Bool))×(Int)×(Int)×(List Bool))=>qav_ (q80_) (q5w_ (fun at' many left t19 t20 t21 met=>self (at',many,left,t19,t20,t21,met))) (fun at' many left t19 t20 t21 met=>self (at',many,left,t19,t20,t21,met)) s.1 s.2.1 s.2.2.1 s.2.2.2.1 s.2.2.2.2.1 s.2.2.2.2.2.1 s.2.2.2.2.2.2)
theorem qvj_  (self:(Int)×(Int)×(Int)×(List (Int×Int×Bool×Bool×Bool))×(Int)×(Int)×(List Bool)->Option (As [.bool])) (at':Int) (many:Int) (left:Int) (t19:List (Int×Int×Bool×Bool×Bool)) (t20:Int) (t21:Int) (met:List Bool):qq8_ self (at',many,left,t19,t20,t21,met)=qav_ (q80_) (q5w_ (fun at' many left t19 t20 t21 met=>self (at',many,left,t19,t20,t21,met))) (fun at' many left t19 t20 t21 met=>self (at',many,left,t19,t20,t21,met)) at' many left t19 t20 t21 met:=rfl
theorem qvm_  (at':Int) (many:Int) (left:Int) (t19:List (Int×Int×Bool×Bool×Bool)) (t20:Int) (t21:Int) (met:List Bool):qbc_ at' many left t19 t20 t21 met=loopF (qq8_) 18446744073709551616 (at',many,left,t19,t20,t21,met):=rfl
def qq5_ (u1:Int->Int->Int->List (Int×Int×Bool×Bool×Bool)->Int->Int->Int->Int->List Bool->Option (As [.bool,.int .i64,.int .i64])):=(fun (self:(Int)×(Int)×(Int)×(Int)×(Int)×(List (Int×Int×Bool×Bool×Bool))×(Int)×(Int)×(Int)×(Int)×(List Bool)×(Int×Int×Bool×Bool×Bool)->Option (As [.bool,.int .i64,.int .i64])) (s:(Int)×(Int)×(Int)×(Int)×(Int)×(List (Int×Int×Bool×Bool×Bool))×(Int)×(Int)×(Int)×(Int)×(List Bool)×(Int×Int×Bool×Bool×Bool))=>qb8_ (q5z_ u1 (fun at' many left to' i t19 t20 t21 o o_2 met x=>self (at',many,left,to',i,t19,t20,t21,o,o_2,met,x))) u1 (fun at' many left to' i t19 t20 t21 o o_2 met x=>self (at',many,left,to',i,t19,t20,t21,o,o_2,met,x)) s.1 s.2.1 s.2.2.1 s.2.2.2.1 s.2.2.2.2.1 s.2.2.2.2.2.1 s.2.2.2.2.2.2.1 s.2.2.2.2.2.2.2.1 s.2.2.2.2.2.2.2.2.1 s.2.2.2.2.2.2.2.2.2.1 s.2.2.2.2.2.2.2.2.2.2.1 s.2.2.2.2.2.2.2.2.2.2.2)
theorem qvo_ (u1:Int->Int->Int->List (Int×Int×Bool×Bool×Bool)->Int->Int->Int->Int->List Bool->Option (As [.bool,.int .i64,.int .i64])) (self:(Int)×(Int)×(Int)×(Int)×(Int)×(List (Int×Int×Bool×Bool×Bool))×(Int)×(Int)×(Int)×(Int)×(List Bool)×(Int×Int×Bool×Bool×Bool)->Option (As [.bool,.int .i64,.int .i64])) (at' many left to' i:Int) (t19:List (Int×Int×Bool×Bool×Bool)) (t20 t21 o o_2:Int) (met:List Bool) (x:Int×Int×Bool×Bool×Bool):qq5_ u1 self (at',many,left,to',i,t19,t20,t21,o,o_2,met,x)=qb8_ (q5z_ u1 (fun at' many left to' i t19 t20 t21 o o_2 met x=>self (at',many,left,to',i,t19,t20,t21,o,o_2,met,x))) u1 (fun at' many left to' i t19 t20 t21 o o_2 met x=>self (at',many,left,to',i,t19,t20,t21,o,o_2,met,x)) at' many left to' i t19 t20 t21 o o_2 met x:=rfl
theorem qvq_ (u1:Int->Int->Int->List (Int×Int×Bool×Bool×Bool)->Int->Int->Int->Int->List Bool->Option (As [.bool,.int .i64,.int .i64])) (at' many left to' i:Int) (t19:List (Int×Int×Bool×Bool×Bool)) (t20 t21 o o_2:Int) (met:List Bool) (x:Int×Int×Bool×Bool×Bool):q5t_ u1 at' many left to' i t19 t20 t21 o o_2 met x=loopF (qq5_ u1) 18446744073709551616 (at',many,left,to',i,t19,t20,t21,o,o_2,met,x):=rfl
def qq2_ :=(fun (self:(Int)×(Int)×(Int)×(List (Int×Int×Bool×Bool×Bool))×(Int)×(Int)×(Int)×(Int)×(List Bool)->Option (As [.bool,.int .i64,.int .i64])) (s:(Int)×(Int)×(Int)×(List (Int×Int×Bool×Bool×Bool))×(Int)×(Int)×(Int)×(Int)×(List Bool))=>qba_ (q87_) (q5t_ (fun at' many left t19 t20 t21 o o_2 met=>self (at',many,left,t19,t20,t21,o,o_2,met))) (fun at' many left t19 t20 t21 o o_2 met=>self (at',many,left,t19,t20,t21,o,o_2,met)) s.1 s.2.1 s.2.2.1 s.2.2.2.1 s.2.2.2.2.1 s.2.2.2.2.2.1 s.2.2.2.2.2.2.1 s.2.2.2.2.2.2.2.1 s.2.2.2.2.2.2.2.2)
theorem qvt_  (self:(Int)×(Int)×(Int)×(List (Int×Int×Bool×Bool×Bool))×(Int)×(Int)×(Int)×(Int)×(List Bool)->Option (As [.bool,.int .i64,.int .i64])) (at':Int) (many:Int) (left:Int) (t19:List (Int×Int×Bool×Bool×Bool)) (t20:Int) (t21:Int) (o:Int) (o_2:Int) (met:List Bool):qq2_ self (at',many,left,t19,t20,t21,o,o_2,met)=qba_ (q87_) (q5t_ (fun at' many left t19 t20 t21 o o_2 met=>self (at',many,left,t19,t20,t21,o,o_2,met))) (fun at' many left t19 t20 t21 o o_2 met=>self (at',many,left,t19,t20,t21,o,o_2,met)) at' many left t19 t20 t21 o o_2 met:=rfl
theorem qve_  (at':Int) (many:Int) (left:Int) (t19:List (Int×Int×Bool×Bool×Bool)) (t20:Int) (t21:Int) (o:Int) (o_2:Int) (met:List Bool):qb2_ at' many left t19 t20 t21 o o_2 met=loopF (qq2_) 18446744073709551616 (at',many,left,t19,t20,t21,o,o_2,met):=rfl
def qqa_ (u1:Int->Int->Int->List (Int×Int×Bool×Bool×Bool)->Int->Int->Int->Int->List Bool->Option (As [.bool,.int .i64,.int .i64])):=(fun (self:(Int)×(Int)×(Int)×(Int)×(Int)×(List (Int×Int×Bool×Bool×Bool))×(Int)×(Int)×(Int)×(Int)×(List Bool)×(Int×Int×Bool×Bool×Bool)->Option (As [.bool,.int .i64,.int .i64])) (s:(Int)×(Int)×(Int)×(Int)×(Int)×(List (Int×Int×Bool×Bool×Bool))×(Int)×(Int)×(Int)×(Int)×(List Bool)×(Int×Int×Bool×Bool×Bool))=>qaw_ (q5x_ u1 (fun at' many left to' i t19 t20 t21 o o_2 met x=>self (at',many,left,to',i,t19,t20,t21,o,o_2,met,x))) u1 (fun at' many left to' i t19 t20 t21 o o_2 met x=>self (at',many,left,to',i,t19,t20,t21,o,o_2,met,x)) s.1 s.2.1 s.2.2.1 s.2.2.2.1 s.2.2.2.2.1 s.2.2.2.2.2.1 s.2.2.2.2.2.2.1 s.2.2.2.2.2.2.2.1 s.2.2.2.2.2.2.2.2.1 s.2.2.2.2.2.2.2.2.2.1 s.2.2.2.2.2.2.2.2.2.2.1 s.2.2.2.2.2.2.2.2.2.2.2)
theorem qvr_ (u1:Int->Int->Int->List (Int×Int×Bool×Bool×Bool)->Int->Int->Int->Int->List Bool->Option (As [.bool,.int .i64,.int .i64])) (self:(Int)×(Int)×(Int)×(Int)×(Int)×(List (Int×Int×Bool×Bool×Bool))×(Int)×(Int)×(Int)×(Int)×(List Bool)×(Int×Int×Bool×Bool×Bool)->Option (As [.bool,.int .i64,.int .i64])) (at' many left to' i:Int) (t19:List (Int×Int×Bool×Bool×Bool)) (t20 t21 o o_2:Int) (met:List Bool) (x:Int×Int×Bool×Bool×Bool):qqa_ u1 self (at',many,left,to',i,t19,t20,t21,o,o_2,met,x)=qaw_ (q5x_ u1 (fun at' many left to' i t19 t20 t21 o o_2 met x=>self (at',many,left,to',i,t19,t20,t21,o,o_2,met,x))) u1 (fun at' many left to' i t19 t20 t21 o o_2 met x=>self (at',many,left,to',i,t19,t20,t21,o,o_2,met,x)) at' many left to' i t19 t20 t21 o o_2 met x:=rfl
theorem qvf_ (u1:Int->Int->Int->List (Int×Int×Bool×Bool×Bool)->Int->Int->Int->Int->List Bool->Option (As [.bool,.int .i64,.int .i64])) (at' many left to' i:Int) (t19:List (Int×Int×Bool×Bool×Bool)) (t20 t21 o o_2:Int) (met:List Bool) (x:Int×Int×Bool×Bool×Bool):q60_ u1 at' many left to' i t19 t20 t21 o o_2 met x=loopF (qqa_ u1) 18446744073709551616 (at',many,left,to',i,t19,t20,t21,o,o_2,met,x):=rfl
def qpm_ :=(fun (self:(Int)×(Int)×(Int)×(List (Int×Int×Bool×Bool×Bool))×(Int)×(Int)×(Int)×(Int)×(List Bool)->Option (As [.bool,.int .i64,.int .i64])) (s:(Int)×(Int)×(Int)×(List (Int×Int×Bool×Bool×Bool))×(Int)×(Int)×(Int)×(Int)×(List Bool))=>qb7_ (q86_) (q60_ (fun at' many left t19 t20 t21 o o_2 met=>self (at',many,left,t19,t20,t21,o,o_2,met))) (fun at' many left t19 t20 t21 o o_2 met=>self (at',many,left,t19,t20,t21,o,o_2,met)) s.1 s.2.1 s.2.2.1 s.2.2.2.1 s.2.2.2.2.1 s.2.2.2.2.2.1 s.2.2.2.2.2.2.1 s.2.2.2.2.2.2.2.1 s.2.2.2.2.2.2.2.2)
theorem qvp_  (self:(Int)×(Int)×(Int)×(List (Int×Int×Bool×Bool×Bool))×(Int)×(Int)×(Int)×(Int)×(List Bool)->Option (As [.bool,.int .i64,.int .i64])) (at':Int) (many:Int) (left:Int) (t19:List (Int×Int×Bool×Bool×Bool)) (t20:Int) (t21:Int) (o:Int) (o_2:Int) (met:List Bool):qpm_ self (at',many,left,t19,t20,t21,o,o_2,met)=qb7_ (q86_) (q60_ (fun at' many left t19 t20 t21 o o_2 met=>self (at',many,left,t19,t20,t21,o,o_2,met))) (fun at' many left t19 t20 t21 o o_2 met=>self (at',many,left,t19,t20,t21,o,o_2,met)) at' many left t19 t20 t21 o o_2 met:=rfl
theorem qvv_  (at':Int) (many:Int) (left:Int) (t19:List (Int×Int×Bool×Bool×Bool)) (t20:Int) (t21:Int) (o:Int) (o_2:Int) (met:List Bool):qau_ at' many left t19 t20 t21 o o_2 met=loopF (qpm_) 18446744073709551616 (at',many,left,t19,t20,t21,o,o_2,met):=rfl
theorem each_br_in (u1:Int->Int->Int->List TArea->Int->Int->List Bool->Option (As [.bool])) {w:TArea->Bool} {l:List TArea} {p:Int} {m t:Nat} {r:As [.bool]} (hp:0≤p) (hpm:p + (m:Int)≤1000000000000) (ht:t < l.length) (hw:∀ x,q1e_ (x,())=some (w x,())) {f to':Int} (hf:p≤f) (hfe:f≤p + (m:Int)) (hte:to'≤p + (m:Int))
  (hcov:∀ i,p≤i->i < p + (m:Int)->(covS l[t] i=true ↔ f≤i∧i < to')) (hR:∀ met left,MetI w l p m (fun i=>(qt_ (l.take (t + 1)) i).isSome) met left->u1 p (m:Int) left l (l.length:Int) (add .i64 (t:Int) 1) met=some r) (hr:eachS w l p m=false->r=(false,()))
  (met:List Bool) (left:Int) (h:MetI w l p m (fun i=>(qt_ (l.take t) i).isSome) met left) :
  q5v_ u1 p (m:Int) left to' f l (l.length:Int) (t:Int) met l[t]=some r:=by
 rw [qvn_]
 refine loopF_eq (Inv:=fun s=>∃ (i:Int) (met:List Bool) (left:Int),s=(p,(m:Int),left,to',i,l,(l.length:Int),(t:Int),met,l[t])∧f≤i∧(i≤to'∨i=f)∧MetI w l p m (fun j=>(qt_ (l.take t) j).isSome || (decide (f≤j) && decide (j < i))) met left)
  (μ:=fun s=>(to' - s.2.2.2.2.1).toNat) (G:=fun _=>some r) ?_ _ _ ⟨f,met,left,rfl,Int.le_refl _,.inr rfl,q55_ h fun k hk=>by
   have:(decide (f≤p + (k:Int)) && decide (p + (k:Int) < f))=false:=by
    by_cases hh:f≤p + (k:Int)
    ·rw [decide_eq_false (show ¬ (p + (k:Int) < f) by omega),Bool.and_false]
    ·rw [decide_eq_false hh,Bool.false_and]
   rw [this,Bool.or_false]⟩ (by dsimp only; omega)
 rintro self s ⟨i,met,left,rfl,hi1,hi2,hI⟩ ih
 rw [qvk_]
 unfold qak_
 by_cases hlt:i < to'
 ·rw [if_pos (q7_.2 hlt)]
  have hk:(i - p).toNat < m:=by omega
  have hki:p + (((i - p).toNat:Nat):Int)=i:=by omega
  have hs:sub .i64 i p=(((i - p).toNat:Nat):Int):=by rw [sub64 (by omega) (by omega)]; omega
  obtain ⟨g1,g2⟩:=hI.2.2 _ hk
  dsimp only at g1 g2
  rw [hki] at g1 g2
  have hdf:(decide (f≤i) && decide (i < i))=false:=by rw [decide_eq_false (show ¬ i < i by omega),Bool.and_false]
  rw [hdf,Bool.or_false] at g1 g2
  have K4:∀ left met,q61_ u1 (fun at' many left to' i t19 t20 t21 met x=>self (at',many,left,to',i,t19,t20,t21,met,x)) p (m:Int) left to' i l (l.length:Int) (t:Int) met l[t]=self (p,(m:Int),left,to',i + 1,l,(l.length:Int),(t:Int),met,l[t]):=fun left met=>by
   unfold q61_ qlq_
   rw [add64 (by omega) (by omega)]
  have hcong:∀ (k:Nat),k < m->∀ b:Bool,b=(((qt_ (l.take t) (p + (k:Int))).isSome || (decide (f≤p + (k:Int)) && decide (p + (k:Int) < i))) || decide (p + (k:Int)=i))->((qt_ (l.take t) (p + (k:Int))).isSome || (decide (f≤p + (k:Int)) && decide (p + (k:Int) < i + 1)))=b:=fun k hk b hc=>by
   rw [hc,Bool.or_assoc]
   congr 1
   rw [Bool.eq_iff_iff]
   simp only [Bool.or_eq_true,Bool.and_eq_true,decide_eq_true_eq]
   omega
  rw [hs,qj_ g1]
  simp only [Option.bind_some]
  cases hb:(qt_ (l.take t) i).isSome with
  | true =>
   rw [if_pos rfl,K4]
   refine ih _ ⟨i + 1,met,left,rfl,by omega,.inl (by omega),q55_ hI (fun k hk=>hcong k hk _ ?_)⟩ (by dsimp only; omega)
   by_cases hki':p + (k:Int)=i
   ·rw [hki',hb,Bool.true_or,Bool.true_or]
   ·rw [decide_eq_false hki',Bool.or_false]
  | false =>
   rw [if_neg (by decide),hw,Option.bind_some]
   dsimp only
   have hnone:qt_ (l.take t) i=none:=by simpa using hb
   have hfirst:qt_ l i=some l[t]:=by
    have hc:=(hcov i (by omega) (by omega)).2 ⟨hi1,hlt⟩
    have:=first_next ht i
    rw [hnone,hc] at this
    exact first_take this
   have hwf:wantF w l i=w l[t]:=by
    unfold wantF
    rw [hfirst]
   cases hwx:w l[t] with
   | false =>
    rw [if_pos (by decide)]
    rw [hr (met_false hk (by rw [hki,hwf,hwx]))]
   | true =>
    rw [if_neg (by decide)]
    have hset:=met_set hI hk (by rw [hki,hdf,Bool.or_false]; exact hb) (by rw [hki,hwf,hwx])
    rw [Int.toNat_natCast,K4]
    have hl1:sub .i64 left 1=left - 1:=by
     have:=hI.2.1
     have h2:=List.countP_le_length (p:=fun b:Bool=>!b) (l:=met)
     have h3:=hI.1
     rw [sub64 (by omega) (by omega)]
    rw [hl1]
    refine ih _ ⟨i + 1,_,_,rfl,by omega,.inl (by omega),q55_ hset (fun k hk=>hcong k hk _ ?_)⟩ (by dsimp only; omega)
    rw [hki]
 ·rw [if_neg (fun e=>hlt (q7_.1 e))]
  refine hR met left (q55_ hI fun k hk=>?_)
  have hc:=hcov (p + (k:Int)) (by omega) (by omega)
  rw [first_next ht]
  have hcb:covS l[t] (p + (k:Int))=(decide (f≤p + (k:Int)) && decide (p + (k:Int) < i)):=by
   rw [Bool.eq_iff_iff,hc]
   simp only [Bool.and_eq_true,decide_eq_true_eq]
   omega
  rw [<- hcb]
  cases hx:qt_ (l.take t) (p + (k:Int)) with
  | some y=>rfl
  | none =>
   cases covS l[t] (p + (k:Int)) <;> rfl
theorem each_br_eq {w:TArea->Bool} {l:List TArea} {p:Int} {m:Nat} (hp:0≤p) (hm:m≤1000000) (hpm:p≤1000000) (hl:l.length≤1000000) (ho:∀ x ∈ l,OkAr x) (hw:∀ x,q1e_ (x,())=some (w x,())):qgj_ (l,p,(m:Int),())=some (eachS w l p m,()):=by
 show qfz_ qb9_ l p (m:Int)=_
 unfold qfz_
 rw [q8_ (q12_.2 (by omega)),q8_ (capOk_sf _),Int.toNat_natCast,qm_ (by omega)]
 rw [qvl_]
 refine loopF_eq (Inv:=fun s=>∃ (t:Nat) (met:List Bool) (left:Int),s=(p,(m:Int),left,l,(l.length:Int),(t:Int),met)∧t≤l.length∧MetI w l p m (fun i=>(qt_ (l.take t) i).isSome) met left)
  (μ:=fun s=>(Int.ofNat l.length - s.2.2.2.2.2.1).toNat) (G:=fun _=>some (eachS w l p m,())) ?_ _ _ ⟨0,_,_,rfl,Nat.zero_le _,met_0 w l p m⟩ (by dsimp only; rw [q1_]; omega)
 rintro self s ⟨t,met,left,rfl,ht,hI⟩ ih
 rw [qvi_]
 unfold qan_
 have k2:q85_ left=some (eqi left 0,()):=rfl
 by_cases hlt:t < l.length
 ·have hg:=List.getElem?_eq_getElem hlt
  rw [if_pos (by rw [q7_]; omega),qj_ hg,Option.bind_some]
  by_cases h0:left=0
  ·rw [if_pos (q4_.2 h0),k2,q4_.2 h0,met_zero hI h0]
  ·rw [if_neg (fun e=>h0 (q4_.1 e)),add64 (by omega) (by omega)]
   obtain ⟨f,t',e1,e2,e3,e4,e5⟩:=meet_gen (x:=l[t]) (p:=p) (e:=p + (m:Int)) hp (by omega) (by omega) (ho _ (List.getElem_mem hlt))
   rw [e1,Option.bind_some]
   refine each_br_in _ hp (by omega) hlt hw e2 e3 e4 e5 (fun met left hI'=>?_) (fun e=>by rw [e]) met left hI
   rw [q15_ (by omega)]
   exact ih _ ⟨t + 1,met,left,rfl,by omega,hI'⟩ (by dsimp only; rw [q1_]; omega)
 ·have htl:t=l.length:=by omega
  subst htl
  rw [if_neg (by rw [q7_]; omega),k2]
  by_cases h0:left=0
  ·rw [q4_.2 h0,met_zero hI h0]
  ·rw [List.take_length] at hI
   rw [met_left hI h0,show eqi left 0=false from decide_eq_false h0]
theorem each_ur_in (u1:Int->Int->Int->List TArea->Int->Int->List Bool->Option (As [.bool])) {w:TArea->Bool} {l:List TArea} {p:Int} {m t:Nat} {r:As [.bool]} (hp:0≤p) (hpm:p + (m:Int)≤1000000000000) (ht:t < l.length) (hw:∀ x,q19_ (x,())=some (w x,())) {f to':Int} (hf:p≤f) (hfe:f≤p + (m:Int)) (hte:to'≤p + (m:Int))
  (hcov:∀ i,p≤i->i < p + (m:Int)->(covS l[t] i=true ↔ f≤i∧i < to')) (hR:∀ met left,MetI w l p m (fun i=>(qt_ (l.take (t + 1)) i).isSome) met left->u1 p (m:Int) left l (l.length:Int) (add .i64 (t:Int) 1) met=some r) (hr:eachS w l p m=false->r=(false,()))
  (met:List Bool) (left:Int) (h:MetI w l p m (fun i=>(qt_ (l.take t) i).isSome) met left) :
  q5w_ u1 p (m:Int) left to' f l (l.length:Int) (t:Int) met l[t]=some r:=by
 rw [qvu_]
 refine loopF_eq (Inv:=fun s=>∃ (i:Int) (met:List Bool) (left:Int),s=(p,(m:Int),left,to',i,l,(l.length:Int),(t:Int),met,l[t])∧f≤i∧(i≤to'∨i=f)∧MetI w l p m (fun j=>(qt_ (l.take t) j).isSome || (decide (f≤j) && decide (j < i))) met left)
  (μ:=fun s=>(to' - s.2.2.2.2.1).toNat) (G:=fun _=>some r) ?_ _ _ ⟨f,met,left,rfl,Int.le_refl _,.inr rfl,q55_ h fun k hk=>by
   have:(decide (f≤p + (k:Int)) && decide (p + (k:Int) < f))=false:=by
    by_cases hh:f≤p + (k:Int)
    ·rw [decide_eq_false (show ¬ (p + (k:Int) < f) by omega),Bool.and_false]
    ·rw [decide_eq_false hh,Bool.false_and]
   rw [this,Bool.or_false]⟩ (by dsimp only; omega)
 rintro self s ⟨i,met,left,rfl,hi1,hi2,hI⟩ ih
 rw [qvh_]
 unfold qal_
 by_cases hlt:i < to'
 ·rw [if_pos (q7_.2 hlt)]
  have hk:(i - p).toNat < m:=by omega
  have hki:p + (((i - p).toNat:Nat):Int)=i:=by omega
  have hs:sub .i64 i p=(((i - p).toNat:Nat):Int):=by rw [sub64 (by omega) (by omega)]; omega
  obtain ⟨g1,g2⟩:=hI.2.2 _ hk
  dsimp only at g1 g2
  rw [hki] at g1 g2
  have hdf:(decide (f≤i) && decide (i < i))=false:=by rw [decide_eq_false (show ¬ i < i by omega),Bool.and_false]
  rw [hdf,Bool.or_false] at g1 g2
  have K4:∀ left met,q5y_ u1 (fun at' many left to' i t19 t20 t21 met x=>self (at',many,left,to',i,t19,t20,t21,met,x)) p (m:Int) left to' i l (l.length:Int) (t:Int) met l[t]=self (p,(m:Int),left,to',i + 1,l,(l.length:Int),(t:Int),met,l[t]):=fun left met=>by
   unfold q5y_ qln_
   rw [add64 (by omega) (by omega)]
  have hcong:∀ (k:Nat),k < m->∀ b:Bool,b=(((qt_ (l.take t) (p + (k:Int))).isSome || (decide (f≤p + (k:Int)) && decide (p + (k:Int) < i))) || decide (p + (k:Int)=i))->((qt_ (l.take t) (p + (k:Int))).isSome || (decide (f≤p + (k:Int)) && decide (p + (k:Int) < i + 1)))=b:=fun k hk b hc=>by
   rw [hc,Bool.or_assoc]
   congr 1
   rw [Bool.eq_iff_iff]
   simp only [Bool.or_eq_true,Bool.and_eq_true,decide_eq_true_eq]
   omega
  rw [hs,qj_ g1]
  simp only [Option.bind_some]
  cases hb:(qt_ (l.take t) i).isSome with
  | true =>
   rw [if_pos rfl,K4]
   refine ih _ ⟨i + 1,met,left,rfl,by omega,.inl (by omega),q55_ hI (fun k hk=>hcong k hk _ ?_)⟩ (by dsimp only; omega)
   by_cases hki':p + (k:Int)=i
   ·rw [hki',hb,Bool.true_or,Bool.true_or]
   ·rw [decide_eq_false hki',Bool.or_false]
  | false =>
   rw [if_neg (by decide),hw,Option.bind_some]
   dsimp only
   have hnone:qt_ (l.take t) i=none:=by simpa using hb
   have hfirst:qt_ l i=some l[t]:=by
    have hc:=(hcov i (by omega) (by omega)).2 ⟨hi1,hlt⟩
    have:=first_next ht i
    rw [hnone,hc] at this
    exact first_take this
   have hwf:wantF w l i=w l[t]:=by
    unfold wantF
    rw [hfirst]
   cases hwx:w l[t] with
   | false =>
    rw [if_pos (by decide)]
    rw [hr (met_false hk (by rw [hki,hwf,hwx]))]
   | true =>
    rw [if_neg (by decide)]
    have hset:=met_set hI hk (by rw [hki,hdf,Bool.or_false]; exact hb) (by rw [hki,hwf,hwx])
    rw [Int.toNat_natCast,K4]
    have hl1:sub .i64 left 1=left - 1:=by
     have:=hI.2.1
     have h2:=List.countP_le_length (p:=fun b:Bool=>!b) (l:=met)
     have h3:=hI.1
     rw [sub64 (by omega) (by omega)]
    rw [hl1]
    refine ih _ ⟨i + 1,_,_,rfl,by omega,.inl (by omega),q55_ hset (fun k hk=>hcong k hk _ ?_)⟩ (by dsimp only; omega)
    rw [hki]
 ·rw [if_neg (fun e=>hlt (q7_.1 e))]
  refine hR met left (q55_ hI fun k hk=>?_)
  have hc:=hcov (p + (k:Int)) (by omega) (by omega)
  rw [first_next ht]
  have hcb:covS l[t] (p + (k:Int))=(decide (f≤p + (k:Int)) && decide (p + (k:Int) < i)):=by
   rw [Bool.eq_iff_iff,hc]
   simp only [Bool.and_eq_true,decide_eq_true_eq]
   omega
  rw [<- hcb]
  cases hx:qt_ (l.take t) (p + (k:Int)) with
  | some y=>rfl
  | none =>
   cases covS l[t] (p + (k:Int)) <;> rfl
theorem each_ur_eq {w:TArea->Bool} {l:List TArea} {p:Int} {m:Nat} (hp:0≤p) (hm:m≤1000000) (hpm:p≤1000000) (hl:l.length≤1000000) (ho:∀ x ∈ l,OkAr x) (hw:∀ x,q19_ (x,())=some (w x,())):qgo_ (l,p,(m:Int),())=some (eachS w l p m,()):=by
 show qfb_ qbc_ l p (m:Int)=_
 unfold qfb_
 rw [q8_ (q12_.2 (by omega)),q8_ (capOk_sf _),Int.toNat_natCast,qm_ (by omega)]
 rw [qvm_]
 refine loopF_eq (Inv:=fun s=>∃ (t:Nat) (met:List Bool) (left:Int),s=(p,(m:Int),left,l,(l.length:Int),(t:Int),met)∧t≤l.length∧MetI w l p m (fun i=>(qt_ (l.take t) i).isSome) met left)
  (μ:=fun s=>(Int.ofNat l.length - s.2.2.2.2.2.1).toNat) (G:=fun _=>some (eachS w l p m,())) ?_ _ _ ⟨0,_,_,rfl,Nat.zero_le _,met_0 w l p m⟩ (by dsimp only; rw [q1_]; omega)
 rintro self s ⟨t,met,left,rfl,ht,hI⟩ ih
 rw [qvj_]
 unfold qav_
 have k2:q80_ left=some (eqi left 0,()):=rfl
 by_cases hlt:t < l.length
 ·have hg:=List.getElem?_eq_getElem hlt
  rw [if_pos (by rw [q7_]; omega),qj_ hg,Option.bind_some]
  by_cases h0:left=0
  ·rw [if_pos (q4_.2 h0),k2,q4_.2 h0,met_zero hI h0]
  ·rw [if_neg (fun e=>h0 (q4_.1 e)),add64 (by omega) (by omega)]
   obtain ⟨f,t',e1,e2,e3,e4,e5⟩:=meet_gen (x:=l[t]) (p:=p) (e:=p + (m:Int)) hp (by omega) (by omega) (ho _ (List.getElem_mem hlt))
   rw [e1,Option.bind_some]
   refine each_ur_in _ hp (by omega) hlt hw e2 e3 e4 e5 (fun met left hI'=>?_) (fun e=>by rw [e]) met left hI
   rw [q15_ (by omega)]
   exact ih _ ⟨t + 1,met,left,rfl,by omega,hI'⟩ (by dsimp only; rw [q1_]; omega)
 ·have htl:t=l.length:=by omega
  subst htl
  rw [if_neg (by rw [q7_]; omega),k2]
  by_cases h0:left=0
  ·rw [q4_.2 h0,met_zero hI h0]
  ·rw [List.take_length] at hI
   rw [met_left hI h0,show eqi left 0=false from decide_eq_false h0]
theorem each_bw_in (u1:Int->Int->Int->List TArea->Int->Int->Int->Int->List Bool->Option (As [.bool,.int .i64,.int .i64])) {w:TArea->Bool} {l:List TArea} {p:Int} {m t:Nat} {r:As [.bool,.int .i64,.int .i64]} {o o2:Int} (hp:0≤p) (hpm:p + (m:Int)≤1000000000000) (ht:t < l.length) (hw:∀ x,q16_ (x,o,o2,())=some (w x,o,o2,())) {f to':Int} (hf:p≤f) (hfe:f≤p + (m:Int)) (hte:to'≤p + (m:Int))
  (hcov:∀ i,p≤i->i < p + (m:Int)->(covS l[t] i=true ↔ f≤i∧i < to')) (hR:∀ met left,MetI w l p m (fun i=>(qt_ (l.take (t + 1)) i).isSome) met left->u1 p (m:Int) left l (l.length:Int) (add .i64 (t:Int) 1) o o2 met=some r) (hr:eachS w l p m=false->r=(false,o,o2,()))
  (met:List Bool) (left:Int) (h:MetI w l p m (fun i=>(qt_ (l.take t) i).isSome) met left) :
  q5t_ u1 p (m:Int) left to' f l (l.length:Int) (t:Int) o o2 met l[t]=some r:=by
 rw [qvq_]
 refine loopF_eq (Inv:=fun s=>∃ (i:Int) (met:List Bool) (left:Int),s=(p,(m:Int),left,to',i,l,(l.length:Int),(t:Int),o,o2,met,l[t])∧f≤i∧(i≤to'∨i=f)∧MetI w l p m (fun j=>(qt_ (l.take t) j).isSome || (decide (f≤j) && decide (j < i))) met left)
  (μ:=fun s=>(to' - s.2.2.2.2.1).toNat) (G:=fun _=>some r) ?_ _ _ ⟨f,met,left,rfl,Int.le_refl _,.inr rfl,q55_ h fun k hk=>by
   have:(decide (f≤p + (k:Int)) && decide (p + (k:Int) < f))=false:=by
    by_cases hh:f≤p + (k:Int)
    ·rw [decide_eq_false (show ¬ (p + (k:Int) < f) by omega),Bool.and_false]
    ·rw [decide_eq_false hh,Bool.false_and]
   rw [this,Bool.or_false]⟩ (by dsimp only; omega)
 rintro self s ⟨i,met,left,rfl,hi1,hi2,hI⟩ ih
 rw [qvo_]
 unfold qb8_
 by_cases hlt:i < to'
 ·rw [if_pos (q7_.2 hlt)]
  have hk:(i - p).toNat < m:=by omega
  have hki:p + (((i - p).toNat:Nat):Int)=i:=by omega
  have hs:sub .i64 i p=(((i - p).toNat:Nat):Int):=by rw [sub64 (by omega) (by omega)]; omega
  obtain ⟨g1,g2⟩:=hI.2.2 _ hk
  dsimp only at g1 g2
  rw [hki] at g1 g2
  have hdf:(decide (f≤i) && decide (i < i))=false:=by rw [decide_eq_false (show ¬ i < i by omega),Bool.and_false]
  rw [hdf,Bool.or_false] at g1 g2
  have K4:∀ left met,q5z_ u1 (fun at' many left to' i t19 t20 t21 o o2 met x=>self (at',many,left,to',i,t19,t20,t21,o,o2,met,x)) p (m:Int) left to' i l (l.length:Int) (t:Int) o o2 met l[t]=self (p,(m:Int),left,to',i + 1,l,(l.length:Int),(t:Int),o,o2,met,l[t]):=fun left met=>by
   unfold q5z_ qls_
   rw [add64 (by omega) (by omega)]
  have hcong:∀ (k:Nat),k < m->∀ b:Bool,b=(((qt_ (l.take t) (p + (k:Int))).isSome || (decide (f≤p + (k:Int)) && decide (p + (k:Int) < i))) || decide (p + (k:Int)=i))->((qt_ (l.take t) (p + (k:Int))).isSome || (decide (f≤p + (k:Int)) && decide (p + (k:Int) < i + 1)))=b:=fun k hk b hc=>by
   rw [hc,Bool.or_assoc]
   congr 1
   rw [Bool.eq_iff_iff]
   simp only [Bool.or_eq_true,Bool.and_eq_true,decide_eq_true_eq]
   omega
  rw [hs,qj_ g1]
  simp only [Option.bind_some]
  cases hb:(qt_ (l.take t) i).isSome with
  | true =>
   rw [if_pos rfl,K4]
   refine ih _ ⟨i + 1,met,left,rfl,by omega,.inl (by omega),q55_ hI (fun k hk=>hcong k hk _ ?_)⟩ (by dsimp only; omega)
   by_cases hki':p + (k:Int)=i
   ·rw [hki',hb,Bool.true_or,Bool.true_or]
   ·rw [decide_eq_false hki',Bool.or_false]
  | false =>
   rw [if_neg (by decide),hw,Option.bind_some]
   dsimp only
   have hnone:qt_ (l.take t) i=none:=by simpa using hb
   have hfirst:qt_ l i=some l[t]:=by
    have hc:=(hcov i (by omega) (by omega)).2 ⟨hi1,hlt⟩
    have:=first_next ht i
    rw [hnone,hc] at this
    exact first_take this
   have hwf:wantF w l i=w l[t]:=by
    unfold wantF
    rw [hfirst]
   cases hwx:w l[t] with
   | false =>
    rw [if_pos (by decide)]
    rw [hr (met_false hk (by rw [hki,hwf,hwx]))]
   | true =>
    rw [if_neg (by decide)]
    have hset:=met_set hI hk (by rw [hki,hdf,Bool.or_false]; exact hb) (by rw [hki,hwf,hwx])
    rw [Int.toNat_natCast,K4]
    have hl1:sub .i64 left 1=left - 1:=by
     have:=hI.2.1
     have h2:=List.countP_le_length (p:=fun b:Bool=>!b) (l:=met)
     have h3:=hI.1
     rw [sub64 (by omega) (by omega)]
    rw [hl1]
    refine ih _ ⟨i + 1,_,_,rfl,by omega,.inl (by omega),q55_ hset (fun k hk=>hcong k hk _ ?_)⟩ (by dsimp only; omega)
    rw [hki]
 ·rw [if_neg (fun e=>hlt (q7_.1 e))]
  refine hR met left (q55_ hI fun k hk=>?_)
  have hc:=hcov (p + (k:Int)) (by omega) (by omega)
  rw [first_next ht]
  have hcb:covS l[t] (p + (k:Int))=(decide (f≤p + (k:Int)) && decide (p + (k:Int) < i)):=by
   rw [Bool.eq_iff_iff,hc]
   simp only [Bool.and_eq_true,decide_eq_true_eq]
   omega
  rw [<- hcb]
  cases hx:qt_ (l.take t) (p + (k:Int)) with
  | some y=>rfl
  | none =>
   cases covS l[t] (p + (k:Int)) <;> rfl
theorem each_bw_eq {w:TArea->Bool} {l:List TArea} {p:Int} {m:Nat} (hp:0≤p) (hm:m≤1000000) (hpm:p≤1000000) (hl:l.length≤1000000) (ho:∀ x ∈ l,OkAr x) {o o2:Int} (hw:∀ x,q16_ (x,o,o2,())=some (w x,o,o2,())):qgd_ (l,p,(m:Int),o,o2,())=some (eachS w l p m,o,o2,()):=by
 show qfa_ qb2_ l p (m:Int) o o2=_
 unfold qfa_
 rw [q8_ (q12_.2 (by omega)),q8_ (capOk_sf _),Int.toNat_natCast,qm_ (by omega)]
 rw [qve_]
 refine loopF_eq (Inv:=fun s=>∃ (t:Nat) (met:List Bool) (left:Int),s=(p,(m:Int),left,l,(l.length:Int),(t:Int),o,o2,met)∧t≤l.length∧MetI w l p m (fun i=>(qt_ (l.take t) i).isSome) met left)
  (μ:=fun s=>(Int.ofNat l.length - s.2.2.2.2.2.1).toNat) (G:=fun _=>some (eachS w l p m,o,o2,())) ?_ _ _ ⟨0,_,_,rfl,Nat.zero_le _,met_0 w l p m⟩ (by dsimp only; rw [q1_]; omega)
 rintro self s ⟨t,met,left,rfl,ht,hI⟩ ih
 rw [qvt_]
 unfold qba_
 have k2:q87_ left o o2=some (eqi left 0,o,o2,()):=rfl
 by_cases hlt:t < l.length
 ·have hg:=List.getElem?_eq_getElem hlt
  rw [if_pos (by rw [q7_]; omega),qj_ hg,Option.bind_some]
  by_cases h0:left=0
  ·rw [if_pos (q4_.2 h0),k2,q4_.2 h0,met_zero hI h0]
  ·rw [if_neg (fun e=>h0 (q4_.1 e)),add64 (by omega) (by omega)]
   obtain ⟨f,t',e1,e2,e3,e4,e5⟩:=meet_gen (x:=l[t]) (p:=p) (e:=p + (m:Int)) hp (by omega) (by omega) (ho _ (List.getElem_mem hlt))
   rw [e1,Option.bind_some]
   refine each_bw_in _ hp (by omega) hlt hw e2 e3 e4 e5 (fun met left hI'=>?_) (fun e=>by rw [e]) met left hI
   rw [q15_ (by omega)]
   exact ih _ ⟨t + 1,met,left,rfl,by omega,hI'⟩ (by dsimp only; rw [q1_]; omega)
 ·have htl:t=l.length:=by omega
  subst htl
  rw [if_neg (by rw [q7_]; omega),k2]
  by_cases h0:left=0
  ·rw [q4_.2 h0,met_zero hI h0]
  ·rw [List.take_length] at hI
   rw [met_left hI h0,show eqi left 0=false from decide_eq_false h0]
theorem each_uw_in (u1:Int->Int->Int->List TArea->Int->Int->Int->Int->List Bool->Option (As [.bool,.int .i64,.int .i64])) {w:TArea->Bool} {l:List TArea} {p:Int} {m t:Nat} {r:As [.bool,.int .i64,.int .i64]} {o o2:Int} (hp:0≤p) (hpm:p + (m:Int)≤1000000000000) (ht:t < l.length) (hw:∀ x,q11_ (x,o,o2,())=some (w x,o,o2,())) {f to':Int} (hf:p≤f) (hfe:f≤p + (m:Int)) (hte:to'≤p + (m:Int))
  (hcov:∀ i,p≤i->i < p + (m:Int)->(covS l[t] i=true ↔ f≤i∧i < to')) (hR:∀ met left,MetI w l p m (fun i=>(qt_ (l.take (t + 1)) i).isSome) met left->u1 p (m:Int) left l (l.length:Int) (add .i64 (t:Int) 1) o o2 met=some r) (hr:eachS w l p m=false->r=(false,o,o2,()))
  (met:List Bool) (left:Int) (h:MetI w l p m (fun i=>(qt_ (l.take t) i).isSome) met left) :
  q60_ u1 p (m:Int) left to' f l (l.length:Int) (t:Int) o o2 met l[t]=some r:=by
 rw [qvf_]
 refine loopF_eq (Inv:=fun s=>∃ (i:Int) (met:List Bool) (left:Int),s=(p,(m:Int),left,to',i,l,(l.length:Int),(t:Int),o,o2,met,l[t])∧f≤i∧(i≤to'∨i=f)∧MetI w l p m (fun j=>(qt_ (l.take t) j).isSome || (decide (f≤j) && decide (j < i))) met left)
  (μ:=fun s=>(to' - s.2.2.2.2.1).toNat) (G:=fun _=>some r) ?_ _ _ ⟨f,met,left,rfl,Int.le_refl _,.inr rfl,q55_ h fun k hk=>by
   have:(decide (f≤p + (k:Int)) && decide (p + (k:Int) < f))=false:=by
    by_cases hh:f≤p + (k:Int)
    ·rw [decide_eq_false (show ¬ (p + (k:Int) < f) by omega),Bool.and_false]
    ·rw [decide_eq_false hh,Bool.false_and]
   rw [this,Bool.or_false]⟩ (by dsimp only; omega)
 rintro self s ⟨i,met,left,rfl,hi1,hi2,hI⟩ ih
 rw [qvr_]
 unfold qaw_
 by_cases hlt:i < to'
 ·rw [if_pos (q7_.2 hlt)]
  have hk:(i - p).toNat < m:=by omega
  have hki:p + (((i - p).toNat:Nat):Int)=i:=by omega
  have hs:sub .i64 i p=(((i - p).toNat:Nat):Int):=by rw [sub64 (by omega) (by omega)]; omega
  obtain ⟨g1,g2⟩:=hI.2.2 _ hk
  dsimp only at g1 g2
  rw [hki] at g1 g2
  have hdf:(decide (f≤i) && decide (i < i))=false:=by rw [decide_eq_false (show ¬ i < i by omega),Bool.and_false]
  rw [hdf,Bool.or_false] at g1 g2
  have K4:∀ left met,q5x_ u1 (fun at' many left to' i t19 t20 t21 o o2 met x=>self (at',many,left,to',i,t19,t20,t21,o,o2,met,x)) p (m:Int) left to' i l (l.length:Int) (t:Int) o o2 met l[t]=self (p,(m:Int),left,to',i + 1,l,(l.length:Int),(t:Int),o,o2,met,l[t]):=fun left met=>by
   unfold q5x_ qll_
   rw [add64 (by omega) (by omega)]
  have hcong:∀ (k:Nat),k < m->∀ b:Bool,b=(((qt_ (l.take t) (p + (k:Int))).isSome || (decide (f≤p + (k:Int)) && decide (p + (k:Int) < i))) || decide (p + (k:Int)=i))->((qt_ (l.take t) (p + (k:Int))).isSome || (decide (f≤p + (k:Int)) && decide (p + (k:Int) < i + 1)))=b:=fun k hk b hc=>by
   rw [hc,Bool.or_assoc]
   congr 1
   rw [Bool.eq_iff_iff]
   simp only [Bool.or_eq_true,Bool.and_eq_true,decide_eq_true_eq]
   omega
  rw [hs,qj_ g1]
  simp only [Option.bind_some]
  cases hb:(qt_ (l.take t) i).isSome with
  | true =>
   rw [if_pos rfl,K4]
   refine ih _ ⟨i + 1,met,left,rfl,by omega,.inl (by omega),q55_ hI (fun k hk=>hcong k hk _ ?_)⟩ (by dsimp only; omega)
   by_cases hki':p + (k:Int)=i
   ·rw [hki',hb,Bool.true_or,Bool.true_or]
   ·rw [decide_eq_false hki',Bool.or_false]
  | false =>
   rw [if_neg (by decide),hw,Option.bind_some]
   dsimp only
   have hnone:qt_ (l.take t) i=none:=by simpa using hb
   have hfirst:qt_ l i=some l[t]:=by
    have hc:=(hcov i (by omega) (by omega)).2 ⟨hi1,hlt⟩
    have:=first_next ht i
    rw [hnone,hc] at this
    exact first_take this
   have hwf:wantF w l i=w l[t]:=by
    unfold wantF
    rw [hfirst]
   cases hwx:w l[t] with
   | false =>
    rw [if_pos (by decide)]
    rw [hr (met_false hk (by rw [hki,hwf,hwx]))]
   | true =>
    rw [if_neg (by decide)]
    have hset:=met_set hI hk (by rw [hki,hdf,Bool.or_false]; exact hb) (by rw [hki,hwf,hwx])
    rw [Int.toNat_natCast,K4]
    have hl1:sub .i64 left 1=left - 1:=by
     have:=hI.2.1
     have h2:=List.countP_le_length (p:=fun b:Bool=>!b) (l:=met)
     have h3:=hI.1
     rw [sub64 (by omega) (by omega)]
    rw [hl1]
    refine ih _ ⟨i + 1,_,_,rfl,by omega,.inl (by omega),q55_ hset (fun k hk=>hcong k hk _ ?_)⟩ (by dsimp only; omega)
    rw [hki]
 ·rw [if_neg (fun e=>hlt (q7_.1 e))]
  refine hR met left (q55_ hI fun k hk=>?_)
  have hc:=hcov (p + (k:Int)) (by omega) (by omega)
  rw [first_next ht]
  have hcb:covS l[t] (p + (k:Int))=(decide (f≤p + (k:Int)) && decide (p + (k:Int) < i)):=by
   rw [Bool.eq_iff_iff,hc]
   simp only [Bool.and_eq_true,decide_eq_true_eq]
   omega
  rw [<- hcb]
  cases hx:qt_ (l.take t) (p + (k:Int)) with
  | some y=>rfl
  | none =>
   cases covS l[t] (p + (k:Int)) <;> rfl
theorem each_uw_eq {w:TArea->Bool} {l:List TArea} {p:Int} {m:Nat} (hp:0≤p) (hm:m≤1000000) (hpm:p≤1000000) (hl:l.length≤1000000) (ho:∀ x ∈ l,OkAr x) {o o2:Int} (hw:∀ x,q11_ (x,o,o2,())=some (w x,o,o2,())):qgn_ (l,p,(m:Int),o,o2,())=some (eachS w l p m,o,o2,()):=by
 show qf4_ qau_ l p (m:Int) o o2=_
 unfold qf4_
 rw [q8_ (q12_.2 (by omega)),q8_ (capOk_sf _),Int.toNat_natCast,qm_ (by omega)]
 rw [qvv_]
 refine loopF_eq (Inv:=fun s=>∃ (t:Nat) (met:List Bool) (left:Int),s=(p,(m:Int),left,l,(l.length:Int),(t:Int),o,o2,met)∧t≤l.length∧MetI w l p m (fun i=>(qt_ (l.take t) i).isSome) met left)
  (μ:=fun s=>(Int.ofNat l.length - s.2.2.2.2.2.1).toNat) (G:=fun _=>some (eachS w l p m,o,o2,())) ?_ _ _ ⟨0,_,_,rfl,Nat.zero_le _,met_0 w l p m⟩ (by dsimp only; rw [q1_]; omega)
 rintro self s ⟨t,met,left,rfl,ht,hI⟩ ih
 rw [qvp_]
 unfold qb7_
 have k2:q86_ left o o2=some (eqi left 0,o,o2,()):=rfl
 by_cases hlt:t < l.length
 ·have hg:=List.getElem?_eq_getElem hlt
  rw [if_pos (by rw [q7_]; omega),qj_ hg,Option.bind_some]
  by_cases h0:left=0
  ·rw [if_pos (q4_.2 h0),k2,q4_.2 h0,met_zero hI h0]
  ·rw [if_neg (fun e=>h0 (q4_.1 e)),add64 (by omega) (by omega)]
   obtain ⟨f,t',e1,e2,e3,e4,e5⟩:=meet_gen (x:=l[t]) (p:=p) (e:=p + (m:Int)) hp (by omega) (by omega) (ho _ (List.getElem_mem hlt))
   rw [e1,Option.bind_some]
   refine each_uw_in _ hp (by omega) hlt hw e2 e3 e4 e5 (fun met left hI'=>?_) (fun e=>by rw [e]) met left hI
   rw [q15_ (by omega)]
   exact ih _ ⟨t + 1,met,left,rfl,by omega,hI'⟩ (by dsimp only; rw [q1_]; omega)
 ·have htl:t=l.length:=by omega
  subst htl
  rw [if_neg (by rw [q7_]; omega),k2]
  by_cases h0:left=0
  ·rw [q4_.2 h0,met_zero hI h0]
  ·rw [List.take_length] at hI
   rw [met_left hI h0,show eqi left 0=false from decide_eq_false h0]
end Go.Proofs.Lx
end
section
namespace Go.Proofs.Lx
open Go Ev Sx Pl
set_option maxRecDepth 100000
abbrev TCm:=Int×Int×Int×Int×Int
def RightL (l:TLs):Prop:=(l.1=0∧l.2=0)∨(l.1 ≠ 0∧(1≤l.2∨l.2=-1))
instance (l:TLs):Decidable (RightL l):=inferInstanceAs (Decidable (_∨_))
theorem lheld_eq (o:Int):q9l_ (o,())=some ((o,-1),()):=rfl
theorem lright_eq' (l:TLs):qtc_ (l,())=some (decide (RightL l),()):=by
 obtain ⟨o,n⟩:=l
 show qos_ (o,n)=_
 unfold qos_
 simp only [lheld_eq,Option.bind_some,q4_,q12_,Bool.and_true]
 by_cases h0:o=0
 ·rw [if_pos h0]
  congr 2
  rw [Bool.eq_iff_iff]
  simp [q4_,RightL,h0]
 ·rw [if_neg h0]
  by_cases h1:1≤n
  ·rw [if_pos h1]
   congr 2
   symm
   rw [decide_eq_true_eq]
   exact Or.inr ⟨h0,Or.inl h1⟩
  ·rw [if_neg h1]
   have e:(Option.bind (q9l_ (o,())) fun y=>some (eqi o y.1.1 && eqi n y.1.2,()):Option (As [.bool]))=some (eqi o o && eqi n (-1),()):=rfl
   refine Eq.trans e (congrArg (fun b=>some (b,())) ?_)
   rw [Bool.eq_iff_iff,Bool.and_eq_true,q4_,q4_,decide_eq_true_eq]
   constructor
   ·rintro ⟨_,e⟩
    exact Or.inr ⟨h0,Or.inr e⟩
   ·rintro (⟨e,_⟩ | ⟨_,e | e⟩)
    ·exact absurd e h0
    ·exact absurd e h1
    ·exact ⟨rfl,e⟩
def cntL (l:TLs):TLs:=if RightL l then l else (0,0)
theorem lcnt_eq (l:TLs):q7p_ (l,())=some (cntL l,()):=by
 show qlp_ l=_
 unfold qlp_ cntL
 rw [lright_eq',Option.bind_some]
 by_cases h:RightL l
 ·simp [h]
 ·simp [h]
theorem cnt_right {l:TLs} (h:RightL l):cntL l=l:=if_pos h
theorem lfree_eq {l:TLs} (h:RightL l):q5p_ (l,())=some (decide (l.1=0),()):=by
 show qqp_ l=_
 unfold qqp_
 rw [lcnt_eq,Option.bind_some,cnt_right h,Bool.and_true]
 congr 2
 rw [Bool.eq_iff_iff]
 simp only [Bool.and_eq_true,q4_,decide_eq_true_eq]
 unfold RightL at h
 omega
def takeL (l:TLs) (o t:Int):TLs:=if l=(o,-1) then l else (o,t)
theorem ltake_eq {l:TLs} {o t:Int} (h:RightL l) (ho:o ≠ 0) (ht:1≤t) (hf:l.1=0∨l.1=o):qr5_ (l,o,t,())=some (takeL l o t,0,()):=by
 obtain ⟨l1,l2⟩:=l
 show ql0_ ql3_ (l1,l2) o t=_
 unfold ql0_
 rw [lcnt_eq,Option.bind_some,cnt_right h]
 dsimp only
 rw [if_neg (fun e=>ho (q4_.1 e)),lt_dec,decide_eq_false (by omega)]
 show qks_ qg9_ o t false (l1,l2) (0,0)=_
 unfold qks_
 rw [if_neg (by decide),lfree_eq h,Option.bind_some]
 have K2:∀ b z,b=false->qg9_ o t b (l1,l2) z=some (takeL (l1,l2) o t,0,()):=fun b z hb=>by
  subst hb
  show qkn_ o t false (l1,l2) z=_
  unfold qkn_ takeL
  rw [if_neg (by decide),lheld_eq,Option.bind_some]
  simp only [Bool.and_true,Bool.and_eq_true,q4_,Prod.mk.injEq]
  split <;> rfl
 by_cases h0:l1=0
 ·rw [if_neg (by simp [h0])]
  exact K2 _ _ rfl
 ·rw [if_pos (by simp [h0])]
  refine K2 _ _ ?_
  rw [Bool.eq_false_iff]
  intro e
  exact qk_.1 e (by rcases hf with hf | hf; exact absurd hf h0; exact hf)
theorem lhold_eq {l:TLs} {o:Int} (h:RightL l) (ho:o ≠ 0) (hf:l.1=o):quf_ (l,o,())=some ((o,-1),0,()):=by
 show qqy_ l o=_
 unfold qqy_
 rw [lcnt_eq,Option.bind_some,cnt_right h]
 dsimp only
 rw [if_neg (fun e=>ho (q4_.1 e)),if_neg (fun e=>qk_.1 e hf),lheld_eq,Option.bind_some]
def tickL (l:TLs):TLs×Bool:=if l.1=0∨l.2=-1 then (l,false) else if l.2=1 then ((0,0),true) else ((l.1,l.2 - 1),false)
theorem ltick_eq {l:TLs} (h:RightL l) (hb:l.2≤9223372036854775807):qrf_ (l,())=some ((tickL l).1,(tickL l).2,()):=by
 obtain ⟨l1,l2⟩:=l
 show qla_ ql9_ (l1,l2)=_
 unfold qla_ tickL
 rw [lcnt_eq,Option.bind_some,cnt_right h,lfree_eq h,Option.bind_some]
 dsimp only at hb ⊢
 by_cases h0:l1=0
 ·rw [if_pos (by simp [h0]),if_pos (Or.inl h0)]
  rfl
 ·rw [if_neg (by simp [h0]),lheld_eq,Option.bind_some]
  show qkq_ _ (l1,l2) (0,0)=_
  unfold qkq_
  dsimp only
  have e1:(eqi l1 l1 && (eqi l2 (-1) && true))=decide (l2=-1):=by
   rw [Bool.eq_iff_iff]
   simp [q4_]
  rw [e1]
  by_cases h2:l2=-1
  ·rw [if_pos (decide_eq_true h2),if_pos (Or.inr h2)]
  ·rw [if_neg (show ¬ decide (l2=-1)=true from fun e=>h2 (of_decide_eq_true e)),if_neg (show ¬ (l1=0∨l2=-1) by omega)]
   have h3:1≤l2:=by
    rcases h with h | h
    ·exact absurd h.1 h0
    ·rcases h.2 with h | h
     ·exact h
     ·exact absurd h h2
   rw [sub64 (by omega) (by omega)]
   by_cases h4:l2=1
   ·rw [if_pos (q4_.2 (by omega)),if_pos h4]
   ·rw [if_neg (fun e=>h4 (by have:=q4_.1 e; omega)),if_neg h4]
def fitsB (x:TBlk):Bool:=decide (x.2.length≤14∧0≤x.1∧x.1≤63∧x.1 + (x.2.length:Int)≤64)
theorem bfits_eq {x:TBlk} (h:x.2.length≤1000000):qa8_ (x,())=some (fitsB x,()):=by
 obtain ⟨p,w⟩:=x
 show qrt_ (p,w)=_
 unfold qrt_ fitsB
 simp only [qs_,q12_,q7_,q1_] at h ⊢
 by_cases h1:(w.length:Int)≤14
 ·rw [if_pos h1]
  by_cases h2:0≤p
  ·rw [if_pos h2]
   by_cases h3:p < 64
   ·rw [if_pos h3,add64 (by omega) (by omega),le_dec]
    congr 2
    rw [Bool.eq_iff_iff]
    simp only [decide_eq_true_eq]
    omega
   ·rw [if_neg h3]
    congr 2
    symm
    rw [decide_eq_false_iff_not]
    omega
  ·rw [if_neg h2]
   congr 2
   symm
   rw [decide_eq_false_iff_not]
   omega
 ·rw [if_neg h1]
  congr 2
  symm
  rw [decide_eq_false_iff_not]
  omega
def zB:TBlk:=(0,[])
def nzB (hv:List Bool) (bs:List TBlk):List TBlk:=List.zipWith (fun h b=>if h=true then b else zB) hv bs
theorem nzB_len {hv:List Bool} {bs:List TBlk} (h1:hv.length=8) (h2:bs.length=8):(nzB hv bs).length=8:=by unfold nzB; rw [List.length_zipWith]; omega
theorem nzB_at {hv:List Bool} {bs:List TBlk} {i:Nat} {h:Bool} {b:TBlk} (h1:hv[i]? = some h) (h2:bs[i]? = some b):(nzB hv bs)[i]? = some (if h=true then b else zB):=by
 unfold nzB
 rw [List.getElem?_zipWith,h1,h2]
theorem mix_set {α:Type} {xs ys:List α} (hl:xs.length=ys.length) {i:Nat} {y:α} (h:ys[i]? = some y):(ys.take i++xs.drop i).set i y=ys.take (i + 1)++xs.drop (i + 1):=by
 have hi:=(List.getElem?_eq_some_iff.1 h).1
 have hy:=(List.getElem?_eq_some_iff.1 h).2
 have e1:ys.take (i + 1)=ys.take i++[y]:=by rw [List.take_add_one,h]; rfl
 have e2:xs.drop i=xs[i]::xs.drop (i + 1):=List.drop_eq_getElem_cons (by omega)
 have e3:(ys.take i).length=i:=by rw [List.length_take]; omega
 rw [e1,e2,List.append_assoc,List.singleton_append]
 have:=set_at (ys.take i) xs[i] y (xs.drop (i + 1))
 rw [e3] at this
 exact this
theorem mix_at {α:Type} {xs ys:List α} (hl:xs.length=ys.length) {i j:Nat} (hj:i≤j):(ys.take i++xs.drop i)[j]? = xs[j]?:=by
 by_cases hi:i≤ys.length
 ·have e3:(ys.take i).length=i:=by rw [List.length_take]; omega
  rw [List.getElem?_append_right (by omega),e3,List.getElem?_drop]
  congr 1
  omega
 ·have h1:(ys.take i++xs.drop i).length≤j:=by
   rw [List.length_append,List.length_take,List.length_drop]
   omega
  rw [List.getElem?_eq_none h1,List.getElem?_eq_none (by omega)]
def ownA (a:TAg):TAg:=(a.1,a.2.1,a.2.2.1,a.2.2.2.1,a.2.2.2.2.1,(a.2.2.2.2.2.1.1,a.2.2.2.2.2.1.2.1,nzB a.2.2.2.2.2.1.2.1 a.2.2.2.2.2.1.2.2),a.2.2.2.2.2.2)
structure SzA (a:TAg):Prop where
 bk:a.1.length≤1000
 hv:a.2.2.2.2.2.1.2.1.length=8
 bs:a.2.2.2.2.2.1.2.2.length=8
 bw:∀ b ∈ a.2.2.2.2.2.1.2.2,b.2.length≤1000
theorem get_of {α:Type} {xs:List α} {i:Nat} (h:i < xs.length):∃ x,xs[i]? = some x:=⟨xs[i],List.getElem?_eq_getElem h⟩
theorem aown_eq {a:TAg} (h:SzA a):qf0_ (a,())=some (ownA a,()):=by
 obtain ⟨bk,ls,ph,tx,la,⟨st,hv,bs⟩,tk⟩:=a
 obtain ⟨hk,h1,h2,h3⟩:=h
 dsimp only at hk h1 h2 h3
 show qnm_ qe7_ (bk,ls,ph,tx,la,(st,hv,bs),tk)=_
 unfold qnm_
 rw [q4t_ (show bk.length≤1000000 by omega)]
 have hl:=nzB_len h1 h2
 show qe7_ 0 0 hv 0 [(bk,ls,ph,tx,la,(st,hv,bs),tk)] _=some ((bk,ls,ph,tx,la,(st,hv,nzB hv bs),tk),())
 unfold qe7_
 refine loop_dt (N:=8) (mk:=fun i=>(0,0,hv,(i:Int),[(bk,ls,ph,tx,la,(st,hv,(nzB hv bs).take i++bs.drop i),tk)],_)) ?_ ?_ 8 0 _ (by omega) (by omega)
 ·intro self i hi
  show qec_ (qef_ _) _ 0 0 hv (i:Int) [(bk,ls,ph,tx,la,(st,hv,(nzB hv bs).take i++bs.drop i),tk)] _=self (0,0,hv,((i + 1:Nat):Int),[(bk,ls,ph,tx,la,(st,hv,(nzB hv bs).take (i + 1)++bs.drop (i + 1)),tk)],_)
  obtain ⟨x,hx⟩:=get_of (xs:=hv) (i:=i) (by omega)
  obtain ⟨b,hb⟩:=get_of (xs:=bs) (i:=i) (by omega)
  have hm:at? ((nzB hv bs).take i++bs.drop i) (i:Int)=some b:=qj_ (by rw [mix_at (by omega) (Nat.le_refl _),hb])
  have hs:=mix_set (xs:=bs) (ys:=nzB hv bs) (by omega) (nzB_at hx hb)
  unfold qec_
  have l8:lt (i:Int) 8=true:=q7_.2 (by omega)
  have g0:ge (i:Int) 0=true:=q12_.2 (by omega)
  have K2:∀ y z,qef_ (fun a t2 t12 t13 a_2 t2_2=>self (a,t2,t12,t13,a_2,t2_2)) 0 0 (i:Int) hv (i:Int) [(bk,ls,ph,tx,la,(st,hv,(nzB hv bs).take i++bs.drop i),tk)] z y=self (0,0,hv,((i + 1:Nat):Int),[(bk,ls,ph,tx,la,(st,hv,((nzB hv bs).take i++bs.drop i).set i y),tk)],z):=fun y z=>by
   show qob_ _ _ _ _ _ _ _ _ _=_
   unfold qob_
   rw [q8_ g0,q8_ l8,q1m_,Option.bind_some]
   dsimp only
   rw [hm,Option.bind_some,q15_ (by omega)]
   rfl
  rw [if_pos l8,q8_ l8,qj_ hx,Option.bind_some]
  cases x with
  | true =>
   rw [if_pos rfl,q8_ g0,q8_ l8,q1m_,Option.bind_some]
   dsimp only
   rw [hm,Option.bind_some,q8_ g0,q8_ l8,Option.bind_some]
   dsimp only
   rw [hm,Option.bind_some,q4t_ (by have:=h3 b (List.mem_of_getElem? hb); omega),Option.bind_some,K2]
   rw [<- hs]
   rfl
  | false =>
   rw [if_neg (by decide),K2,<- hs]
   rfl
 ·intro self
  show qec_ (qef_ _) _ 0 0 hv (8:Int) [(bk,ls,ph,tx,la,(st,hv,(nzB hv bs).take 8++bs.drop 8),tk)] _=_
  unfold qec_
  rw [if_neg (by decide)]
  have e1:(nzB hv bs).take 8++bs.drop 8=nzB hv bs:=by
   rw [List.take_of_length_le (by omega),List.drop_eq_nil_of_le (by omega),List.append_nil]
  rw [e1]
  rfl
end Go.Proofs.Lx
end
