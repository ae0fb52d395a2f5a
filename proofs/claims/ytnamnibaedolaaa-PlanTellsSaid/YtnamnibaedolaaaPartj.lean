/- Part 10 of 14: PlanTells returns true, whatever it is given. Conditions: those of the given statement, no others. -/
import Derived.Test.YtnamnibaedolaaaParti
import Derived.Test.YtnamnibaedolaaaParte
import Derived.Test.YtnamnibaedolaaaPartf
set_option linter.unusedVariables false
set_option linter.unusedSimpArgs false
section
namespace Go.Proofs.Lx
open Go Ev Sx Pl
set_option maxRecDepth 10000
theorem rf_bound {z:Bool}:∀ {q:List UInt8} {n:Int} {pt:Bool} {bh ah:Nat} {N:Int} {B:Nat},rf z q n pt bh ah=some (N,B)->n≤1000000000000000009->N≤1000000000000000009∧B≤6
 | [],n,pt,bh,ah,N,B,h,hn=>by
  grind [rf]
 | c::q,n,pt,bh,ah,N,B,h,hn=>by
  unfold rf at h
  split at h
  ·exact rf_bound h hn
  ·split at h
   ·cases h
   ·rename_i h1 h2
    have hc:dg c=true:=by
     simp_all
    have:=dg_iff.1 hc
    exact rf_bound h (by omega)
theorem rf_frac {z:Bool}:∀ {r:List UInt8} {n:Int} {bh ah:Nat},0 < ah->0≤n ->
  ((∀ c ∈ r,dg c=true)->(rf z r n true bh ah=none∨rf z r n true bh ah=(if bh + r.length=0∨6 < bh + r.length then none else some (dvn n r,bh + r.length)))∧(dvn n r≤1000000000000000000->rf z r n true bh ah=(if bh + r.length=0∨6 < bh + r.length then none else some (dvn n r,bh + r.length)))) ∧
  ((¬ ∀ c ∈ r,dg c=true)->rf z r n true bh ah=none)
 | [],n,bh,ah,ha,hn=>by
  have e:rf z [] n true bh ah=(if bh + ([]:List UInt8).length=0∨6 < bh + ([]:List UInt8).length then none else some (dvn n [],bh + ([]:List UInt8).length)):=by
   show (if ah=0∨(true=true∧bh=0)∨6 < bh then none else some (n,bh))=(if bh + 0=0∨6 < bh + 0 then none else some (n,bh))
   grind
  simp_all
 | c::r,n,bh,ah,ha,hn=>by
  have h0:¬ (c=46∧true=false∧0 < ah):=by simp
  by_cases hc:dg c=true
  ·have hcv:=dg_iff.1 hc
   obtain ⟨i1,i2⟩:=rf_frac (z:=z) (r:=r) (n:=10 * n + ((c.toNat:Int) - 48)) (bh:=bh + 1) (ah:=ah) ha (by omega)
   have e2:bh + (c::r).length=bh + 1 + r.length:=by grind
   by_cases hg:100000000000000000 < n
   ·have e:rf z (c::r) n true bh ah=none:=by
     simp_all [rf,if_neg,if_pos]
    refine ⟨fun ha=>⟨.inl e,fun hle=>?_⟩,fun _=>e⟩
    have:=dvn_ge (q:=r) (n:=10 * n + ((c.toNat:Int) - 48)) (fun x hx=>ha x (List.mem_cons_of_mem _ hx)) (by omega)
    grind [dvn_cons]
   ·have e:rf z (c::r) n true bh ah=rf z r (10 * n + ((c.toNat:Int) - 48)) true (bh + 1) ah:=by
     simp_all [rf,if_neg]
    rw [e,e2,dvn_cons]
    grind
  simp_all [dg,rf,if_neg,if_pos,absurd,List.mem_cons_self]
theorem rf_whole {z:Bool} {tail:List UInt8}:∀ {w:List UInt8} {n:Int} {ah:Nat},46 ∉ w->0≤n ->
  ((∀ c ∈ w,dg c=true)->¬ (z=true∧ah≤1∧2≤ah + w.length∧w ≠ [])->(rf z (w++tail) n false 0 ah=none∨rf z (w++tail) n false 0 ah=rf z tail (dvn n w) false 0 (ah + w.length))∧(dvn n w≤1000000000000000000->rf z (w++tail) n false 0 ah=rf z tail (dvn n w) false 0 (ah + w.length))) ∧
  (((¬ ∀ c ∈ w,dg c=true)∨(z=true∧ah≤1∧2≤ah + w.length∧w ≠ []))->rf z (w++tail) n false 0 ah=none)
 | [],n,ah,h46,hn=>⟨fun _ _=>⟨.inr rfl,fun _=>rfl⟩,fun h=>by
  rcases h with h | h
  ·exact absurd (fun c hc=>by cases hc) h
  ·exact absurd rfl h.2.2.2⟩
 | c::w,n,ah,h46,hn=>by
  have hc46:c ≠ 46:=fun e=>h46 (by simp [e])
  have h0:¬ (c=46∧false=false∧0 < ah):=fun h=>hc46 h.1
  by_cases hc:dg c=true
  ·have hcv:=dg_iff.1 hc
   obtain ⟨i1,i2⟩:=rf_whole (z:=z) (tail:=tail) (w:=w) (n:=10 * n + ((c.toNat:Int) - 48)) (ah:=ah + 1) (fun h=>h46 (List.mem_cons_of_mem _ h)) (by omega)
   have e2:ah + (c::w).length=ah + 1 + w.length:=by simp; omega
   by_cases hz:ah=1∧z=true
   ·have e:rf z (c::w++tail) n false 0 ah=none:=by
     show rf z (c::(w++tail)) n false 0 ah=none
     unfold rf
     rw [if_neg h0,if_pos (.inr (.inl ⟨hz.1,hz.2,rfl⟩))]
    exact ⟨fun _ h=>absurd ⟨hz.2,by omega,by simp; omega,by simp⟩ h,fun _=>e⟩
   ·by_cases hg:100000000000000000 < n
    ·have e:rf z (c::w++tail) n false 0 ah=none:=by
      show rf z (c::(w++tail)) n false 0 ah=none
      unfold rf
      rw [if_neg h0,if_pos (.inr (.inr hg))]
     refine ⟨fun ha _=>⟨.inl e,fun hle=>?_⟩,fun _=>e⟩
     have:=dvn_ge (q:=w) (n:=10 * n + ((c.toNat:Int) - 48)) (fun x hx=>ha x (List.mem_cons_of_mem _ hx)) (by omega)
     rw [dvn_cons] at hle
     omega
    ·have e:rf z (c::w++tail) n false 0 ah=rf z (w++tail) (10 * n + ((c.toNat:Int) - 48)) false 0 (ah + 1):=by
      show rf z (c::(w++tail)) n false 0 ah=_
      conv=>lhs; unfold rf
      have hno:¬ (dg c=false∨(ah=1∧z=true∧false=false)∨100000000000000000 < n):=by
       rintro (h | h | h)
       ·rw [hc] at h; cases h
       ·exact hz ⟨h.1,h.2.1⟩
       ·exact hg h
      rw [if_neg h0,if_neg hno]
      rfl
     rw [e,e2,dvn_cons]
     refine ⟨fun ha hnz=>i1 (fun x hx=>ha x (List.mem_cons_of_mem _ hx)) (fun h=>hnz ⟨h.1,by omega,by omega,by simp⟩),fun h=>i2 ?_⟩
     rcases h with h | h
     ·refine .inl (fun hall=>h fun x hx=>?_)
      rcases List.mem_cons.1 hx with rfl | hx
      ·exact hc
      ·exact hall x hx
     ·have hne:ah ≠ 1:=fun e=>hz ⟨e,h.1⟩
      refine .inr ⟨h.1,by have:=h.2.1; omega,by have:=h.2.2.1; omega,fun hw=>?_⟩
      subst hw
      have:=h.2.2.1
      exact hz ⟨by simp at this; omega,h.1⟩
  ·have hc':dg c=false:=by simpa using hc
   have e:rf z (c::w++tail) n false 0 ah=none:=by
    show rf z (c::(w++tail)) n false 0 ah=none
    unfold rf
    rw [if_neg h0,if_pos (.inl hc')]
   exact ⟨fun h=>absurd (h c (List.mem_cons_self ..)) hc,fun _=>e⟩
def st0:Nat->Int->Int×Nat
 | 0,n=>(n,0)
 | d + 1,n=>if n.tmod 10=0 then st0 d (n.tdiv 10) else (n,d + 1)
def ofS (n:Int) (d:Nat):PR:=if 6 < (st0 d n).2∨1000000000000 < (st0 d n).1∨(st0 d n).1 < -1000000000000 then ((0,0),false) else (((st0 d n).1,((st0 d n).2:Int)),true)
theorem of_eq {n:Int} {d:Nat} (hd:d < 256) (h1:-9223372036854775807≤n) (h2:n≤9223372036854775807):q9u_ (n,(d:Int),())=some ((ofS n d).1,(ofS n d).2,()):=by
 have key:∀ (k:Nat) (st:Int×Int×Int×Int),(∃ (m:Int) (e:Nat),st=(m,(e:Int),0,0)∧e < 256∧-9223372036854775807≤m∧m≤9223372036854775807)->st.2.1.toNat < k ->
   loopF (fun (self:Int×Int×Int×Int->Option RP) (s:Int×Int×Int×Int)=>q42_ (q26_ (fun a b c d=>self (a,b,c,d))) (fun a b c d=>self (a,b,c,d)) s.1 s.2.1 s.2.2.1 s.2.2.2) k st=some ((ofS st.1 st.2.1.toNat).1,(ofS st.1 st.2.1.toNat).2,()):=by
  refine loopF_eq (σ:=Int×Int×Int×Int) (μ:=fun st=>st.2.1.toNat) (G:=fun st=>some ((ofS st.1 st.2.1.toNat).1,(ofS st.1 st.2.1.toNat).2,())) ?_
  rintro self st ⟨m,e,rfl,he,hm1,hm2⟩ ih
  simp only [Int.toNat_natCast] at ih ⊢
  unfold q42_
  have fin:st0 e m=(m,e)->q26_ (fun a b c d=>self (a,b,c,d)) m (e:Int) false 0 0=some ((ofS m e).1,(ofS m e).2,()):=fun hs=>by
   unfold q26_ q9a_ qd3_ qj6_ ofS
   rw [hs,if_neg (by decide)]
   have bad:qcz_ m (e:Int) true 0 0=some ((0,0),false,()):=rfl
   by_cases h6:6 < e
   ·rw [if_pos (by grind [q7_]),bad,if_pos (.inl h6)]
   ·rw [if_neg (by grind [q7_])]
    by_cases hb:1000000000000 < m
    ·simp_all [if_pos,q7_]
    ·rw [if_neg (by grind [q7_])]
     by_cases hs:m < -1000000000000
     ·simp_all [lt,q1_,if_pos]
     ·rw [show lt m (-1000000000000)=false by grind [lt],if_neg (by omega)]
      unfold qcz_ qjb_
      rw [if_neg (by decide)]
      grind [cvt,u8,Int,wu8]
  cases e with
  | zero =>
   rw [if_neg (by decide)]
   exact fin rfl
  | succ e =>
   rw [if_pos (by grind [q7_])]
   by_cases hr:m.tmod 10=0
   ·have e1:eqi (rem m 10) 0=true:=by rw [qb_]; exact hr
    rw [e1]
    unfold q26_ q9a_
    rw [if_pos rfl]
    have hq:-9223372036854775807≤m.tdiv 10∧m.tdiv 10≤9223372036854775807:=by
     grind
    have e2:quo .i64 m 10=m.tdiv 10:=w64 (by omega) (by omega)
    have e3:sub .i64 ((e + 1:Nat):Int) 1=(e:Int):=by grind [sub64]
    rw [e2,e3]
    have:=ih (m.tdiv 10,(e:Int),0,0) ⟨_,e,rfl,by omega,hq.1,hq.2⟩ (by simp)
    simp_all [Int.toNat_natCast,ofS,st0,if_pos]
   ·have e1:eqi (rem m 10) 0=false:=by simp_all [eqi,rem]
    simp_all [st0,if_neg]
 have:=key 18446744073709551616 (n,(d:Int),0,0) ⟨n,d,rfl,hd,h1,h2⟩ (by grind)
 refine Eq.trans this ?_
 simp
theorem st0_val (sg:Bool) (x:Int) (hx:0≤x):∀ (k:Nat) (r:List UInt8),r.length=k->(∀ c ∈ r,dg c=true) ->
  st0 k (if sg then -(dvn x r) else dvn x r)=((if sg then -(dvn x (qf_ r)) else dvn x (qf_ r)),(qf_ r).length)
 | 0,r,hl,_=>by
  have:r=[]:=List.eq_nil_of_length_eq_zero hl
  subst this
  rfl
 | k + 1,r,hl,hd=>by
  rcases snoc_cases r with rfl | ⟨p,c,rfl⟩
  ·grind
  ·simp at hl
   have hc:=hd c (by simp)
   have hcv:=dg_iff.1 hc
   have hp:∀ c ∈ p,dg c=true:=fun a ha=>hd a (by grind)
   have hge:=dvn_ge (n:=x) hp hx
   have e:dvn x (p++[c])=10 * dvn x p + ((c.toNat:Int) - 48):=by rw [dvn_app]; rfl
   have hmod:∀ y:Int,0≤y->(if sg then -y else y).tmod 10=(if sg then -(y % 10) else y % 10):=fun y hy=>by
    grind
   have hdiv:∀ y:Int,0≤y->(if sg then -y else y).tdiv 10=(if sg then -(y / 10) else y / 10):=fun y hy=>by
    cases sg
    ·grind
    simp_all [Int.neg_tdiv,Int.tdiv_eq_ediv_of_nonneg]
   unfold st0
   rw [e,hmod _ (by omega),hdiv _ (by omega)]
   have m1:(10 * dvn x p + ((c.toNat:Int) - 48)) % 10=(c.toNat:Int) - 48:=by omega
   have d1:(10 * dvn x p + ((c.toNat:Int) - 48)) / 10=dvn x p:=by omega
   rw [m1,d1]
   by_cases h48:c=48
   ·simp_all [if_pos,stripz_snoc0,st0_val]
   ·have:c.toNat ≠ 48:=fun h=>h48 (UInt8.toNat_inj.1 h)
    rw [if_neg (by omega),stripz_snoc p h48,e]
    simp [hl]
theorem dvn_strip:∀ (r:List UInt8) (x:Int),(∀ c ∈ r,dg c=true)->0≤x->dvn x r≤dvn x (qf_ r) * 10 ^ (r.length - (qf_ r).length)∧0≤dvn x (qf_ r):=by
 intro r
 generalize hk:r.length=k
 induction k generalizing r with
 | zero=>
  intro x _ hx
  have:r=[]:=List.eq_nil_of_length_eq_zero hk
  subst this
  exact ⟨by simp [qf_],hx⟩
 | succ k ih =>
  intro x hd hx
  rcases snoc_cases r with rfl | ⟨p,c,rfl⟩
  ·grind
  ·simp at hk
   have hp:∀ c ∈ p,dg c=true:=fun a ha=>hd a (by grind)
   by_cases h48:c=48
   ·subst h48
    obtain ⟨i1,i2⟩:=ih p hk x hp hx
    rw [stripz_snoc0]
    refine ⟨?_,i2⟩
    have e:dvn x (p++[48])=10 * dvn x p:=by simp_all [dvn_app,dvn,Int]
    have hlen:=stripz_len p
    have e2:k + 1 - (qf_ p).length=(k - (qf_ p).length) + 1:=by omega
    simp_all [Int.pow_succ,dvn,qf_,Int.mul_assoc,Int.mul_comm]
   ·rw [stripz_snoc p h48]
    have hge:=dvn_ge (n:=x) hd hx
    refine ⟨by simp [hk],by omega⟩
theorem refEnd_some (below:Bool) (w r:List UInt8) (hw:∀ c ∈ w,dg c=true) (hr:∀ c ∈ r,dg c=true) (h6:r.length≤6) (hN:dvn (dvn 0 w) r≤1000000000000000009) :
  refEnd below (some (dvn (dvn 0 w) r,r.length))=some ((if 1000000000000 < dvn (dvn 0 w) (qf_ r) then ((0,0),false) else ((if below then -(dvn (dvn 0 w) (qf_ r)) else dvn (dvn 0 w) (qf_ r),((qf_ r).length:Int)),true):PR).1,(if 1000000000000 < dvn (dvn 0 w) (qf_ r) then ((0,0),false) else ((if below then -(dvn (dvn 0 w) (qf_ r)) else dvn (dvn 0 w) (qf_ r),((qf_ r).length:Int)),true):PR).2,()):=by
 have h0:(0:Int)≤dvn 0 w:=dvn_ge hw (Int.le_refl _)
 have h1:=dvn_ge (n:=dvn 0 w) hr h0
 have h2:=dvn_ge (q:=qf_ r) (n:=dvn 0 w) (fun c hc=>hr c (stripz_mem hc)) h0
 have hsl:=stripz_len r
 have hv:=st0_val below (dvn 0 w) h0 r.length r rfl hr
 have key:ofS (if below then -(dvn (dvn 0 w) r) else dvn (dvn 0 w) r) r.length=(if 1000000000000 < dvn (dvn 0 w) (qf_ r) then ((0,0),false) else ((if below then -(dvn (dvn 0 w) (qf_ r)) else dvn (dvn 0 w) (qf_ r),((qf_ r).length:Int)),true):PR):=by
  unfold ofS
  grind
 rw [<- key]
 show qck_ q76_ below _ (r.length:Int) false 0 0=_
 unfold qck_
 rw [if_neg (by decide)]
 cases below
 ·rw [if_neg (by decide)]
  unfold q76_ qbg_
  rw [of_eq (by omega) (by omega) (by omega),Option.bind_some]
  rfl
 ·rw [if_pos rfl,neg64 (by omega) (by omega)]
  unfold q76_ qbg_
  rw [of_eq (by omega) (by omega) (by omega),Option.bind_some]
  rfl
theorem big_strip {w r:List UInt8} (hw:∀ c ∈ w,dg c=true) (hr:∀ c ∈ r,dg c=true) (h6:r.length≤6) (hN:1000000000000000000 < dvn (dvn 0 w) r):1000000000000 < dvn (dvn 0 w) (qf_ r):=by
 have h0:(0:Int)≤dvn 0 w:=dvn_ge hw (Int.le_refl _)
 obtain ⟨h1,h2⟩:=dvn_strip r (dvn 0 w) hr h0
 have hp:(10:Int) ^ (r.length - (qf_ r).length)≤10 ^ 6:=by
  have h':r.length - (qf_ r).length≤6:=by omega
  generalize r.length - (qf_ r).length=j at h'
  match j,h' with
  | 0,_=>decide
  | 1,_=>decide
  | 2,_=>decide
  | 3,_=>decide
  | 4,_=>decide
  | 5,_=>decide
  | 6,_=>decide
 have:=Int.mul_le_mul_of_nonneg_left hp h2
 omega
theorem refT (below:Bool) (t:List UInt8):refEnd below (rf (decide (t[0]? = some 48)) t 0 false 0 0)=some ((parseT below t).1,(parseT below t).2,()):=by
 have main:∀ (w r:List UInt8) (pt:Bool) (tail:List UInt8),46 ∉ w->(pt=false->r=[]∧tail=[])->(pt=true->tail=46::r)->t=w++tail->refEnd below (rf (decide (t[0]? = some 48)) t 0 false 0 0)=some ((parsePieces below w r pt).1,(parsePieces below w r pt).2,()):=by
  intro w r pt tail h46 hf ht he
  generalize hz:decide (t[0]? = some 48)=z
  obtain ⟨p1,p2⟩:=rf_whole (z:=z) (tail:=tail) (w:=w) (n:=0) (ah:=0) h46 (Int.le_refl _)
  rw [<- he] at p1 p2
  unfold parsePieces
  have hbadw:(digs w=false∨(1 < w.length∧w[0]? = some 48))->rf z t 0 false 0 0=none:=fun h=>by
   by_cases hw:w=[]
   ·subst hw
    simp at he
    subst he
    cases pt
    ·rw [(hf rfl).2]; rfl
    ·rw [ht rfl]
     unfold rf
     rw [if_neg (by simp),if_pos (.inl rfl)]
   ·apply p2
    by_cases hall:∀ c ∈ w,dg c=true
    ·right
     have hd:digs w=true:=digs_iff.2 ⟨hall,hw⟩
     rcases h with h | h
     ·rw [hd] at h; cases h
     ·refine ⟨?_,by omega,by omega,hw⟩
      rw [<- hz,he]
      cases w with
      | nil=>exact absurd rfl hw
      | cons a b=>simpa using h.2
    ·exact .inl hall
  by_cases hbw:digs w=false∨(1 < w.length∧w[0]? = some 48)
  ·rw [if_pos hbw,hbadw hbw]
   rfl
  ·rw [if_neg hbw]
   have hdw:digs w=true:=by
    cases h:digs w
    ·exact absurd (.inl h) hbw
    ·rfl
   obtain ⟨hw,hwne⟩:=digs_iff.1 hdw
   have hwl:0 < w.length:=List.length_pos_iff.2 hwne
   have h0:(0:Int)≤dvn 0 w:=dvn_ge hw (Int.le_refl _)
   obtain ⟨q1,q2⟩:=p1 hw (fun h=>by
    refine hbw (.inr ⟨by have:=h.2.2.1; omega,?_⟩)
    have:=h.1
    rw [<- hz,he] at this
    cases w with
    | nil=>exact absurd rfl hwne
    | cons a b=>simpa using this)
   rw [Nat.zero_add] at q1 q2
   have fin:(∀ c ∈ r,dg c=true)->r.length≤6->((rf z t 0 false 0 0=none∧1000000000000000000 < dvn (dvn 0 w) r)∨rf z t 0 false 0 0=some (dvn (dvn 0 w) r,r.length))->refEnd below (rf z t 0 false 0 0)=some ((if 1000000000000 < dvn (dvn 0 w) (qf_ r) then ((0,0),false) else ((if below then -(dvn (dvn 0 w) (qf_ r)) else dvn (dvn 0 w) (qf_ r),((qf_ r).length:Int)),true):PR).1,(if 1000000000000 < dvn (dvn 0 w) (qf_ r) then ((0,0),false) else ((if below then -(dvn (dvn 0 w) (qf_ r)) else dvn (dvn 0 w) (qf_ r),((qf_ r).length:Int)),true):PR).2,()):=fun hr h6 h=>by
    rcases h with ⟨h,hN⟩ | h
    ·rw [h,if_pos (big_strip hw hr h6 hN)]
     rfl
    ·have:=rf_bound h (by decide)
     rw [h]
     exact refEnd_some below w r hw hr h6 this.1
   cases pt
   ·obtain ⟨rfl,rfl⟩:=hf rfl
    rw [if_neg (by simp)]
    refine fin (fun c hc=>by cases hc) (by simp) ?_
    have e:rf z [] (dvn 0 w) false 0 w.length=some (dvn 0 w,0):=by
     unfold rf
     rw [if_neg (by simp; omega)]
    rw [e] at q1 q2
    by_cases hN:dvn 0 w≤1000000000000000000
    ·exact .inr (q2 hN)
    ·rcases q1 with h | h
     ·exact .inl ⟨h,by rw [dvn_nil]; omega⟩
     ·exact .inr h
   ·have htl:=ht rfl
    subst htl
    have e:rf z (46::r) (dvn 0 w) false 0 w.length=rf z r (dvn 0 w) true 0 w.length:=by
     conv=>lhs; unfold rf
     rw [if_pos ⟨rfl,rfl,hwl⟩]
    rw [e] at q1 q2
    obtain ⟨f1,f2⟩:=rf_frac (z:=z) (r:=r) (n:=dvn 0 w) (bh:=0) (ah:=w.length) hwl h0
    rw [Nat.zero_add] at f1
    have nn:rf z r (dvn 0 w) true 0 w.length=none->rf z t 0 false 0 0=none:=fun h=>by
     rcases q1 with h' | h'
     ·exact h'
     ·rw [h',h]
    by_cases hr:digs r=false∨6 < r.length
    ·rw [if_pos ⟨rfl,hr⟩]
     have:rf z t 0 false 0 0=none:=by
      apply nn
      by_cases hall:∀ c ∈ r,dg c=true
      ·obtain ⟨g1,g2⟩:=f1 hall
       have hc:r.length=0∨6 < r.length:=by
        rcases hr with hr | hr
        ·left
         by_cases hne:r=[]
         ·simp [hne]
         ·rw [digs_iff.2 ⟨hall,hne⟩] at hr; cases hr
        ·exact .inr hr
       rw [if_pos hc] at g1
       exact g1.elim id id
      ·exact f2 hall
     rw [this]
     rfl
    ·rw [if_neg (fun h=>hr h.2)]
     have hdr:digs r=true:=by
      cases h:digs r
      ·exact absurd (.inl h) hr
      ·rfl
     obtain ⟨hrd,hrne⟩:=digs_iff.1 hdr
     have h6:r.length≤6:=by omega
     have hpos:0 < r.length:=List.length_pos_iff.2 hrne
     obtain ⟨g1,g2⟩:=f1 hrd
     rw [if_neg (by omega)] at g1 g2
     have hge:=dvn_ge (n:=dvn 0 w) hrd h0
     refine fin hrd h6 ?_
     by_cases hN:dvn (dvn 0 w) r≤1000000000000000000
     ·right
      rw [q2 (by omega),g2 hN]
     ·rcases g1 with h | h
      ·exact .inl ⟨nn h,by omega⟩
      ·rcases q1 with h' | h'
       ·exact .inl ⟨h',by omega⟩
       ·right
        rw [h',h]
 rcases split_at 46 t with h46 | ⟨p,q,e,h46⟩
 ·rw [parseT_no h46]
  exact main t [] false [] h46 (fun _=>⟨rfl,rfl⟩) (fun h=>by cases h) (by simp)
 ·rw [e,parseT_yes h46,<- e]
  exact main p q true (46::q) h46 (fun h=>by cases h) (fun _=>rfl) e
theorem refParse_eq {s:List UInt8} (hl:s.length < 1000000):qd4_ (s,())=some ((parseS s).1,(parseS s).2,()):=by
 have go:∀ (t:List UInt8) (below:Bool),t.length < 1000000->qij_ t below 0 0=some ((parseT below t).1,(parseT below t).2,()):=fun t below ht=>by
  rw [<- refT]
  have:=ref_loop t below ht 18446744073709551616 (t,below,0,false,0,0,0,0,0) ⟨0,false,0,0,0,rfl,by omega,by omega,by omega,by omega⟩ (by omega)
  exact this
 show qc2_ q7y_ s=_
 unfold qc2_
 cases s with
 | nil =>
  rfl
 | cons a q =>
  rw [if_pos (by rw [q7_,q0_]; simp),at_zero,Option.bind_some]
  by_cases ha:a=45
  ·rw [(eqi_byte 45).2 ha]
   unfold q7y_ qbw_
   rw [if_pos rfl,cut_one,Option.bind_some]
   grind [parseS,parseT]
  ·have:eqi (Int.ofNat a.toNat) 45=false:=by
    cases h:eqi (Int.ofNat a.toNat) 45
    ·rfl
    ·exact absurd ((eqi_byte 45).1 h) ha
   simp_all [q7y_,qbw_,if_neg,parseS,parseT]
end Go.Proofs.Lx
end
section
namespace Go.Proofs.Lx
open Go Ev Sx Pl
set_option maxRecDepth 100000
theorem mill_loop (sg:Bool):∀ (r i v N:Nat),i + r=6->v * 10 ^ r≤1000000000000000000 ->
  loopF q8n_ (N + r + 1) (sgn sg v,(i:Int))=some (sgn sg (v * 10 ^ r),())
 | 0,i,v,N,h,hv=>by
  rw [q5_,qf9_]
  unfold q25_
  rw [if_neg (by rw [q1_]; omega),Nat.pow_zero,Nat.mul_one]
 | r + 1,i,v,N,h,hv=>by
  rw [q5_,qf9_]
  unfold q25_
  have hp:0 < 10 ^ r:=Nat.pow_pos (by omega)
  have e:v * 10 ^ (r + 1)=v * 10 * 10 ^ r:=by rw [Nat.pow_succ]; ac_rfl
  rw [e] at hv ⊢
  have hv10:v * 10≤1000000000000000000:=Nat.le_trans (Nat.le_mul_of_pos_right _ hp) hv
  rw [if_pos (by rw [q1_]; omega),q9_ (by omega)]
  have:mul .i64 (sgn sg v) 10=sgn sg (v * 10):=sgn_mul (w:=10) (by omega)
  rw [this]
  exact mill_loop sg r (i + 1) (v * 10) N (by omega) hv
theorem pow6 {D n:Nat} (hle:n≤1000000000000):n * 10 ^ (6 - D)≤1000000000000000000:=by
 have hpow:10 ^ (6 - D)≤10 ^ 6:=Nat.pow_le_pow_right (by omega) (by omega)
 have:n * 10 ^ (6 - D)≤1000000000000 * 10 ^ 6:=Nat.mul_le_mul hle hpow
 omega
theorem mill_eq {d:Int×Int} {sg:Bool} {n D:Nat} (h:RtD d sg n D):q65_ (d,())=some (sgn sg (n * 10 ^ (6 - D)),()):=by
 have h6:=h.d6
 have hle:=h.le
 show q6r_ q6e_ d=_
 unfold q6r_
 rw [h.e2,cvt64 (by omega) (by omega),qoe_]
 have e1:d.1=sgn sg n:=h.e1
 rw [e1]
 have:=mill_loop sg (6 - D) D n (18446744073709551615 - (6 - D)) (by omega) (pow6 hle)
 rw [show 18446744073709551615 - (6 - D) + (6 - D) + 1=18446744073709551616 by omega] at this
 exact this
def cmI (x y:Int):Int:=if lt x y then -1 else if gt x y then 1 else 0
theorem rcmp_eq {a b:Int×Int} {s1 s2:Bool} {n1 n2 D1 D2:Nat} (ha:RtD a s1 n1 D1) (hb:RtD b s2 n2 D2) :
  q8i_ (a,b,())=some (cmI (sgn s1 (n1 * 10 ^ (6 - D1))) (sgn s2 (n2 * 10 ^ (6 - D2))),()):=by
 show qlm_ a b=_
 unfold qlm_ cmI
 rw [mill_eq ha,Option.bind_some,mill_eq hb,Option.bind_some]
 dsimp only
 split
 ·rfl
 ·split <;> rfl
theorem ucmp_eq {a b:Int×Int} {s1 s2:Bool} {n1 n2 D1 D2:Nat} (ha:RtD a s1 n1 D1) (hb:RtD b s2 n2 D2) :
  q39_ (a,b,())=some (cmI (sgn s1 (n1 * 10 ^ (6 - D1))) (sgn s2 (n2 * 10 ^ (6 - D2))),()):=by
 have h1:=ha.d6
 have h2:=hb.d6
 have e1:a.1=sgn s1 n1:=ha.e1
 have e2:b.1=sgn s2 n2:=hb.e1
 have l1:=pow6 (D:=D1) ha.le
 have l2:=pow6 (D:=D2) hb.le
 show qgc_ qfo_ a b=_
 unfold qgc_
 rw [ha.right,Option.bind_some]
 dsimp only
 rw [if_neg (by decide),hb.right,Option.bind_some]
 dsimp only
 unfold qfo_ qly_ cmI
 rw [if_neg (by decide),ha.e2,hb.e2,cvt64 (by omega) (by omega),cvt64 (by omega) (by omega)]
 have q1:Sx.sub .i64 6 (D1:Int)=((6 - D1:Nat):Int):=by
  rw [sub64 (by omega) (by omega)]
  omega
 have q2:Sx.sub .i64 6 (D2:Int)=((6 - D2:Nat):Int):=by
  rw [sub64 (by omega) (by omega)]
  omega
 rw [q1,q2,power_eq (by omega),Option.bind_some,power_eq (by omega),Option.bind_some]
 dsimp only
 rw [e1,e2,sgn_mul (by omega),sgn_mul (by omega)]
 split
 ·rfl
 ·split <;> rfl
end Go.Proofs.Lx
end
section
namespace Go.Proofs.Lx
open Go Ev Sx Pl
set_option maxRecDepth 100000
def knS (name:List UInt8):Option (List UInt8×Int×Int) :=
 if eqs [] name=true then some ([],1,1) else if eqs [37] name=true then some ([],1,1) else if eqs [109] name=true then some ([109],1,1) else if eqs [99,109] name=true then some ([109],1,100) else if eqs [109,109] name=true then some ([109],1,1000) else if eqs [115] name=true then some ([115],1,1) else if eqs [109,115] name=true then some ([115],1,1000) else if eqs [109,105,110] name=true then some ([115],60,1) else if eqs [104] name=true then some ([115],3600,1) else if eqs [98,97,114] name=true then some ([98,97,114],1,1) else if eqs [109,98,97,114] name=true then some ([98,97,114],1,1000) else if eqs [107,80,97] name=true then some ([98,97,114],1,100) else if eqs [107,103] name=true then some ([107,103],1,1) else if eqs [103] name=true then some ([107,103],1,1000) else if eqs [116] name=true then some ([107,103],1000,1) else if eqs [108] name=true then some ([108],1,1) else if eqs [109,108] name=true then some ([108],1,1000) else if eqs [67] name=true then some ([67],1,1) else none
theorem uknown_eq (x:List UInt8):qd5_ (x,())=some ((knS x).getD ([],0,0),(knS x).isSome,()):=rfl
theorem eqs_f {a b:List UInt8} (h:¬ a=b):eqs a b=false:=by
 cases e:eqs a b with
 | true=>exact absurd (q1h_.1 e) h
 | false=>rfl
theorem known_same (x:List UInt8):q45_ (x,())=qd5_ (x,()):=by
 by_cases h:x=[]; ·subst h; kernel_rfl
 by_cases h1:x=[37]; ·subst h1; kernel_rfl
 by_cases h2:x=[109]; ·subst h2; kernel_rfl
 by_cases h3:x=[99,109]; ·subst h3; kernel_rfl
 by_cases h4:x=[109,109]; ·subst h4; kernel_rfl
 by_cases h5:x=[115]; ·subst h5; kernel_rfl
 by_cases h6:x=[109,115]; ·subst h6; kernel_rfl
 by_cases h7:x=[109,105,110]; ·subst h7; kernel_rfl
 by_cases h8:x=[104]; ·subst h8; kernel_rfl
 by_cases h9:x=[98,97,114]; ·subst h9; kernel_rfl
 by_cases h10:x=[109,98,97,114]; ·subst h10; kernel_rfl
 by_cases h11:x=[107,80,97]; ·subst h11; kernel_rfl
 by_cases h12:x=[107,103]; ·subst h12; kernel_rfl
 by_cases h13:x=[103]; ·subst h13; kernel_rfl
 by_cases h14:x=[116]; ·subst h14; kernel_rfl
 by_cases h15:x=[108]; ·subst h15; kernel_rfl
 by_cases h16:x=[109,108]; ·subst h16; kernel_rfl
 by_cases h17:x=[67]; ·subst h17; kernel_rfl
 rw [uknown_eq]
 show qbv_ qc5_ x=_
 unfold qbv_ qc5_ qi5_ qhg_ qhz_ knS
 rw [eqs_f h,eqs_f h1,eqs_f h2,eqs_f h3,eqs_f h4,eqs_f h5,eqs_f h6,eqs_f h7,eqs_f h8,eqs_f h9,eqs_f h10,eqs_f h11,eqs_f h12,eqs_f h13,eqs_f h14,eqs_f h15,eqs_f h16,eqs_f h17]
 rw [eqs_f (Ne.symm h),eqs_f (Ne.symm h1),eqs_f (Ne.symm h2),eqs_f (Ne.symm h3),eqs_f (Ne.symm h4),eqs_f (Ne.symm h5),eqs_f (Ne.symm h6),eqs_f (Ne.symm h7),eqs_f (Ne.symm h8),eqs_f (Ne.symm h9),eqs_f (Ne.symm h10),eqs_f (Ne.symm h11),eqs_f (Ne.symm h12),eqs_f (Ne.symm h13),eqs_f (Ne.symm h14),eqs_f (Ne.symm h15),eqs_f (Ne.symm h16),eqs_f (Ne.symm h17)]
 rfl
def rgt (d:Int×Int):Bool:=decide (-1000000000000≤d.1∧d.1≤1000000000000∧d.2≤6∧(d.2=0∨d.1.tmod 10 ≠ 0))
theorem right_eq (d:Int×Int):qq_ (d,())=some (rgt d,()):=by
 obtain ⟨x,y⟩:=d
 show q7e_ (x,y)=_
 unfold q7e_ rgt
 dsimp only
 by_cases h1:-1000000000000≤x
 ·rw [if_pos (ge_iff.2 h1)]
  by_cases h2:x≤1000000000000
  ·rw [if_pos (le_iff.2 h2)]
   by_cases h3:y≤6
   ·rw [if_pos (le_iff.2 h3)]
    by_cases h4:y=0
    ·rw [if_pos (qb_.2 h4),decide_eq_true ⟨h1,h2,h3,Or.inl h4⟩]
    ·rw [if_neg (fun e=>h4 (qb_.1 e))]
     by_cases h5:x.tmod 10=0
     ·have e:nei (rem x 10) 0=false:=by
       cases q:nei (rem x 10) 0 with
       | true=>exact absurd h5 (qh_.1 q)
       | false=>rfl
      rw [e,decide_eq_false]
      rintro ⟨_,_,_,h | h⟩
      ·exact h4 h
      ·exact h h5
     ·rw [qh_.2 (show rem x 10 ≠ 0 from h5),decide_eq_true ⟨h1,h2,h3,Or.inr h5⟩]
   ·rw [if_neg (fun e=>h3 (le_iff.1 e)),decide_eq_false (fun h=>h3 h.2.2.1)]
  ·rw [if_neg (fun e=>h2 (le_iff.1 e)),decide_eq_false (fun h=>h2 h.2.1)]
 ·rw [if_neg (fun e=>h1 (ge_iff.1 e)),decide_eq_false (fun h=>h1 h.1)]
theorem rright_eq (d:Int×Int):q1a_ (d,())=some (rgt d,()):=right_eq d
theorem rgt_rt {d:Int×Int} (h:rgt d=true) (h0:0≤d.2):∃ sg n D,RtD d sg n D:=by
 obtain ⟨x,y⟩:=d
 obtain ⟨h1,h2,h3,h4⟩:=of_decide_eq_true h
 have h0:0≤y:=h0
 have h3:y≤6:=h3
 obtain ⟨sg,n,hr⟩:=rtd_of (D:=y.toNat) ⟨h1,h2⟩ (by omega) (fun e=>by
  rcases h4 with h4 | h4
  ·have h4:y=0:=h4
   omega
  ·exact h4)
 rw [Int.toNat_of_nonneg h0] at hr
 exact ⟨sg,n,_,hr⟩
theorem times_same {d:Int×Int} (h0:0≤d.2) (num den:Int):∃ r:(Int×Int)×Bool,q43_ (d,num,den,())=some (r.1,r.2,())∧q6x_ (d,num,den,())=some (r.1,r.2,()):=by
 have hr:=right_eq d
 cases hg:rgt d with
 | false =>
  rw [hg] at hr
  exact ⟨((0,0),false),times_bad (.inl hr),rtimes_bad (.inl hr)⟩
 | true =>
  rw [hg] at hr
  by_cases hb:1≤num∧num≤1000000000∧1≤den∧den≤1000000000
  ·obtain ⟨sg,n,D,hd⟩:=rgt_rt hg h0
   have e1:num=(num.toNat:Int):=by omega
   have e2:den=(den.toNat:Int):=by omega
   rw [e1,e2]
   exact ⟨_,times_eq hd (by omega) (by omega),rtimes_eq hd (by omega) (by omega)⟩
  ·exact ⟨((0,0),false),times_bad (.inr ⟨hr,hb⟩),rtimes_bad (.inr ⟨hr,hb⟩)⟩
theorem to_end {d:Int×Int} (h0:0≤d.2) (t:Bool) (a b:Int) (x y:List UInt8×Int×Int) :
  ∃ r:(Int×Int)×Bool,q1r_ t d.1 d.2 a b x.1 x.2.1 x.2.2 y.1 y.2.1 y.2.2=some (r.1,r.2,())∧q44_ t d.1 d.2 a b x.1 x.2.1 x.2.2 y.1 y.2.1 y.2.2=some (r.1,r.2,()):=by
 unfold q1r_ qj9_ q44_ qn2_
 cases t with
 | true=>exact ⟨((0,0),false),rfl,rfl⟩
 | false =>
  rw [if_neg (by decide),if_neg (by decide)]
  obtain ⟨r,h1,h2⟩:=times_same (d:=(d.1,d.2)) h0 (mul .i64 x.2.1 y.2.2) (mul .i64 x.2.2 y.2.1)
  rw [h1,h2]
  exact ⟨r,rfl,rfl⟩
theorem to_same {d:Int×Int} (h0:0≤d.2) (f t:List UInt8):∃ r:(Int×Int)×Bool,q3n_ (d,f,t,())=some (r.1,r.2,())∧qiz_ (d,f,t,())=some (r.1,r.2,()):=by
 have e1:q3n_ (d,f,t,())=(if (!(knS f).isSome)=true then q1r_ true d.1 d.2 0 0 ((knS f).getD ([],0,0)).1 ((knS f).getD ([],0,0)).2.1 ((knS f).getD ([],0,0)).2.2 ((knS t).getD ([],0,0)).1 ((knS t).getD ([],0,0)).2.1 ((knS t).getD ([],0,0)).2.2 else if (!(knS t).isSome)=true then q1r_ true d.1 d.2 0 0 ((knS f).getD ([],0,0)).1 ((knS f).getD ([],0,0)).2.1 ((knS f).getD ([],0,0)).2.2 ((knS t).getD ([],0,0)).1 ((knS t).getD ([],0,0)).2.1 ((knS t).getD ([],0,0)).2.2 else q1r_ (nes ((knS f).getD ([],0,0)).1 ((knS t).getD ([],0,0)).1) d.1 d.2 0 0 ((knS f).getD ([],0,0)).1 ((knS f).getD ([],0,0)).2.1 ((knS f).getD ([],0,0)).2.2 ((knS t).getD ([],0,0)).1 ((knS t).getD ([],0,0)).2.1 ((knS t).getD ([],0,0)).2.2):=rfl
 have e2:qiz_ (d,f,t,())=(if (!(knS f).isSome)=true then q44_ true d.1 d.2 0 0 ((knS f).getD ([],0,0)).1 ((knS f).getD ([],0,0)).2.1 ((knS f).getD ([],0,0)).2.2 ((knS t).getD ([],0,0)).1 ((knS t).getD ([],0,0)).2.1 ((knS t).getD ([],0,0)).2.2 else if (!(knS t).isSome)=true then q44_ true d.1 d.2 0 0 ((knS f).getD ([],0,0)).1 ((knS f).getD ([],0,0)).2.1 ((knS f).getD ([],0,0)).2.2 ((knS t).getD ([],0,0)).1 ((knS t).getD ([],0,0)).2.1 ((knS t).getD ([],0,0)).2.2 else q44_ (nes ((knS f).getD ([],0,0)).1 ((knS t).getD ([],0,0)).1) d.1 d.2 0 0 ((knS f).getD ([],0,0)).1 ((knS f).getD ([],0,0)).2.1 ((knS f).getD ([],0,0)).2.2 ((knS t).getD ([],0,0)).1 ((knS t).getD ([],0,0)).2.1 ((knS t).getD ([],0,0)).2.2):=by
  show qj7_ q44_ d f t=_
  unfold qj7_
  rw [known_same f,known_same t,uknown_eq f,uknown_eq t,Option.bind_some,Option.bind_some]
 rw [e1,e2]
 generalize (knS f).getD ([],0,0)=x
 generalize (knS t).getD ([],0,0)=y
 split
 ·exact to_end h0 _ _ _ x y
 ·split
  ·exact to_end h0 _ _ _ x y
  ·exact to_end h0 _ _ _ x y
end Go.Proofs.Lx
end
section
namespace Go.Proofs.Lx
open Go Ev Sx Pl
set_option maxRecDepth 100000
theorem u16w (x:Int):IntKind.u16.wrap x=x % 65536:=by
 simp only [IntKind.wrap,IntKind.signed,IntKind.bits]
 simp
def wdSg (signed:Bool) (X:Int):Int×Bool:=if signed then (if -32768≤X∧X≤32767 then (X % 65536,true) else (0,false)) else if 0≤X∧X≤65535 then (X,true) else (0,false)
theorem uword_K2 (signed:Bool) (X:Int) (t:Bool) (ht:t=true ↔ (X < -32768∨65536≤X)):qdh_ signed X t=some ((wdSg signed X).1,(wdSg signed X).2,()):=by
 unfold qdh_ qk4_ wdSg
 by_cases h:t=true
 ·have hX:=ht.1 h
  rw [if_pos h]
  cases signed with
  | true=>rw [if_pos rfl,if_neg (by omega)]
  | false=>rw [if_neg (show ¬ (false=true) by decide),if_neg (by omega)]
 ·have hX:¬ (X < -32768∨65536≤X):=fun e=>h (ht.2 e)
  rw [if_neg h]
  cases signed with
  | true =>
   rw [if_pos (show (true=true) from rfl),if_pos (show (true=true) from rfl)]
   show Option.bind (qdp_ qdt_ X) _=_
   unfold qdp_ qdt_ qjq_
   rw [if_neg (by rw [q1_]; omega)]
   by_cases h2:X≤32767
   ·rw [if_neg (by rw [ge_iff]; omega),if_pos ⟨by omega,h2⟩]
    show some (IntKind.u16.wrap X,true,())=_
    rw [u16w]
   ·rw [if_pos (by rw [ge_iff]; omega),if_neg (by omega)]
    rfl
  | false =>
   rw [if_neg (show ¬ (false=true) by decide),if_neg (show ¬ (false=true) by decide)]
   by_cases h2:X < 0
   ·rw [if_pos (q1_.2 h2),if_neg (by omega)]
   ·rw [if_neg (fun e=>h2 (q1_.1 e)),if_pos ⟨by omega,by omega⟩]
    show some (IntKind.u16.wrap X,true,())=_
    rw [u16w,Int.emod_eq_of_lt (by omega) (by omega)]
theorem rword_K3 (signed:Bool) {X:Int} (hX:-1000000000000000000≤X∧X≤1000000000000000000):q3i_ signed X=some ((wdSg signed X).1,(wdSg signed X).2,()):=by
 have k5:∀ Y:Int,q8w_ Y=if 0≤Y∧Y≤65535 then some (Y,true,()) else some (0,false,()):=by
  intro Y
  unfold q8w_ qk0_ qk7_ qkr_
  by_cases h:Y < 0
  ·rw [if_pos (q1_.2 h),if_pos (show (true=true) from rfl),if_neg (by omega)]
  ·rw [if_neg (fun e=>h (q1_.1 e))]
   by_cases h2:65535 < Y
   ·rw [if_pos (q7_.2 h2),if_neg (by omega)]
   ·rw [if_neg (fun e=>h2 (q7_.1 e)),if_pos ⟨by omega,by omega⟩]
    show some (IntKind.u16.wrap Y,true,())=_
    rw [u16w,Int.emod_eq_of_lt (by omega) (by omega)]
 unfold q3i_ qki_ wdSg
 cases signed with
 | false =>
  rw [if_neg (show ¬ (false=true) by decide),if_neg (show ¬ (false=true) by decide),k5]
  split <;> rfl
 | true =>
  rw [if_pos (show (true=true) from rfl),if_pos (show (true=true) from rfl)]
  unfold qjx_ qk1_
  by_cases h:X < -32768
  ·rw [if_pos (q1_.2 h),if_pos (show (true=true) from rfl),if_neg (by omega)]
  ·rw [if_neg (fun e=>h (q1_.1 e))]
   by_cases h2:32767 < X
   ·rw [if_pos (q7_.2 h2),if_neg (by omega)]
   ·rw [if_neg (fun e=>h2 (q7_.1 e)),if_pos (show -32768≤X∧X≤32767 from ⟨by omega,by omega⟩)]
    by_cases h3:X < 0
    ·rw [if_pos (q1_.2 h3),add64 (by omega) (by omega),k5,if_pos ⟨by omega,by omega⟩]
     have:X % 65536=X + 65536:=by omega
     rw [this]
    ·rw [if_neg (fun e=>h3 (q1_.1 e)),k5,if_pos ⟨by omega,by omega⟩]
     have:X % 65536=X:=by omega
     rw [this]
theorem rword_loop (sg signed:Bool) (g:Nat) (hg:g≤6):∀ (r i v N:Nat),i + r=g->v * 10 ^ r≤1000000000000000000 ->
  loopF qfs_ (N + r + 1) ((g:Int),signed,sgn sg v,(i:Int))=q3i_ signed (sgn sg (v * 10 ^ r))
 | 0,i,v,N,h,hv=>by
  rw [q5_,qm6_]
  unfold q5s_
  rw [if_neg (by rw [q1_]; omega),Nat.pow_zero,Nat.mul_one]
 | r + 1,i,v,N,h,hv=>by
  rw [q5_,qm6_]
  unfold q5s_
  have hp:0 < 10 ^ r:=Nat.pow_pos (by omega)
  have e:v * 10 ^ (r + 1)=v * 10 * 10 ^ r:=by rw [Nat.pow_succ]; ac_rfl
  rw [e] at hv ⊢
  have hv10:v * 10≤1000000000000000000:=Nat.le_trans (Nat.le_mul_of_pos_right _ hp) hv
  rw [if_pos (by rw [q1_]; omega),q9_ (by omega)]
  have:mul .i64 (sgn sg v) 10=sgn sg (v * 10):=sgn_mul (w:=10) (by omega)
  rw [this]
  exact rword_loop sg signed g hg r (i + 1) (v * 10) N (by omega) hv
theorem sgn_b {sg:Bool} {v:Nat} (h:v≤1000000000000000000):-1000000000000000000≤sgn sg v∧sgn sg v≤1000000000000000000:=by
 unfold sgn
 split <;> omega
theorem word_same {d:Int×Int} (h0:0≤d.2) (digits:Int) (signed:Bool):∃ r:Int×Bool,q61_ (d,digits,signed,())=some (r.1,r.2,())∧qam_ (d,digits,signed,())=some (r.1,r.2,()):=by
 have e1:q61_ (d,digits,signed,())=qey_ q8z_ d digits signed:=rfl
 have e2:qam_ (d,digits,signed,())=qe5_ q91_ d digits signed:=rfl
 have bad1:q8z_ digits signed true d=some (0,false,()):=rfl
 have bad2:q91_ digits signed true d=some (0,false,()):=rfl
 rw [e1,e2]
 unfold qey_ qe5_
 rw [right_eq,rright_eq,Option.bind_some,Option.bind_some]
 dsimp only
 cases hg:rgt d with
 | false=>exact ⟨(0,false),by rw [if_pos (show ((!false)=true) from rfl),bad1],by rw [if_pos (show ((!false)=true) from rfl),bad2]⟩
 | true =>
  obtain ⟨sg,n,D,hd⟩:=rgt_rt hg h0
  have hD:=hd.d6
  rw [if_neg (show ¬ ((!true)=true) by decide),if_neg (show ¬ ((!true)=true) by decide),hd.e2,cvt64 (by omega) (by omega)]
  by_cases q:(D:Int)≤digits∧digits≤6
  ·obtain ⟨g,rfl⟩:∃ g:Nat,digits=(g:Int):=⟨digits.toNat,by omega⟩
   have hX:n * 10 ^ (g - D)≤1000000000000000000:=by
    have hpow:10 ^ (g - D)≤10 ^ 6:=Nat.pow_le_pow_right (by omega) (by omega)
    have:=Nat.mul_le_mul hd.le hpow
    omega
   have hb:=sgn_b (sg:=sg) hX
   refine ⟨wdSg signed (sgn sg (n * 10 ^ (g - D))),?_,?_⟩
   ·rw [if_neg (by rw [q1_]; omega)]
    have:gt (g:Int) 6=false:=by rw [gt_dec,decide_eq_false]; omega
    rw [this]
    unfold q8z_ qkt_
    rw [if_neg (show ¬ (false=true) by decide),hd.e2,cvt64 (by omega) (by omega)]
    have e3:Sx.sub .i64 (g:Int) (D:Int)=((g - D:Nat):Int):=by
     rw [sub64 (by omega) (by omega)]
     omega
    have e4:d.1=sgn sg n:=hd.e1
    rw [e3,power_eq (by omega),Option.bind_some]
    dsimp only
    rw [e4,sgn_mul (by omega)]
    generalize sgn sg (n * 10 ^ (g - D))=X at hb ⊢
    by_cases h1:X < -32768
    ·rw [if_pos (q1_.2 h1)]
     exact uword_K2 signed X true (by simp [h1])
    ·rw [if_neg (fun e=>h1 (q1_.1 e))]
     refine uword_K2 signed X _ ?_
     rw [ge_iff]
     omega
   ·rw [if_neg (by rw [q1_]; omega),if_neg (by rw [q7_]; omega)]
    have:gt (D:Int) (g:Int)=false:=by rw [gt_dec,decide_eq_false]; omega
    rw [this]
    unfold q91_ qjr_
    rw [if_neg (show ¬ (false=true) by decide),hd.e2,cvt64 (by omega) (by omega)]
    have e4:d.1=sgn sg n:=hd.e1
    rw [e4,qsv_]
    have:=rword_loop sg signed g (by omega) (g - D) D n (18446744073709551615 - (g - D)) (by omega) hX
    rw [show 18446744073709551615 - (g - D) + (g - D) + 1=18446744073709551616 by omega] at this
    refine Eq.trans this ?_
    exact rword_K3 signed hb
  ·refine ⟨(0,false),?_,?_⟩
   ·by_cases h1:digits < (D:Int)
    ·rw [if_pos (q1_.2 h1)]
     exact bad1
    ·rw [if_neg (fun e=>h1 (q1_.1 e)),q7_.2 (show 6 < digits by omega)]
     exact bad1
   ·by_cases h1:digits < 0
    ·rw [if_pos (q1_.2 h1)]
     exact bad2
    ·rw [if_neg (fun e=>h1 (q1_.1 e))]
     by_cases h2:6 < digits
     ·rw [if_pos (q7_.2 h2)]
      exact bad2
     ·rw [if_neg (fun e=>h2 (q7_.1 e)),q7_.2 (show digits < (D:Int) by omega)]
      exact bad2
end Go.Proofs.Lx
end
section
namespace Pl
open Go Ev Sx
theorem loop_idx {σ R α β:Type} {F:(σ->Option R)->σ->Option R} {mk:Nat->β->σ} {xs:List α} {stp:β->α->β} {fin:β->Option R} (Inv:Nat->β->Prop)
  (hs:∀ self i acc x,xs[i]? = some x->Inv i acc->F self (mk i acc)=self (mk (i + 1) (stp acc x)))
  (hi:∀ i acc x,xs[i]? = some x->Inv i acc->Inv (i + 1) (stp acc x))
  (he:∀ self acc,Inv xs.length acc->F self (mk xs.length acc)=fin acc) :
  ∀ (k i:Nat) (acc:β) (n:Nat),i + k=xs.length->k < n->Inv i acc->loopF F n (mk i acc)=fin ((xs.drop i).foldl stp acc)
 | _,_,_,0,_,hn,_=>by omega
 | 0,i,acc,n + 1,h,_,hI=>by
  have:i=xs.length:=by omega
  subst this
  rw [q5_,he _ _ hI,List.drop_length]
  rfl
 | k + 1,i,acc,n + 1,h,hn,hI=>by
  have hx:xs[i]? = some (xs[i]'(by omega)):=List.getElem?_eq_getElem (by omega)
  rw [q5_,hs _ _ _ _ hx hI,loop_idx Inv hs hi he k (i + 1) _ n (by omega) (by omega) (hi _ _ _ hx hI),List.drop_eq_getElem_cons (show i < xs.length by omega)]
  rfl
def goL {α β R:Type} (body:β->α->(β->Option R)->Option R) (fin:β->Option R):List α->β->Option R
 | [],acc=>fin acc
 | x::r,acc=>body acc x (goL body fin r)
theorem loop_go {σ R α β:Type} {F:(σ->Option R)->σ->Option R} {mk:Nat->β->σ} {xs:List α} {body:β->α->(β->Option R)->Option R} {fin:β->Option R}
  (hs:∀ self i acc x,xs[i]? = some x->F self (mk i acc)=body acc x fun a=>self (mk (i + 1) a))
  (he:∀ self acc,F self (mk xs.length acc)=fin acc) :
  ∀ (k i:Nat) (acc:β) (n:Nat),i + k=xs.length->k < n->loopF F n (mk i acc)=goL body fin (xs.drop i) acc
 | _,_,_,0,_,hn=>by omega
 | 0,i,acc,n + 1,h,_=>by
  have:i=xs.length:=by omega
  subst this
  rw [q5_,he,List.drop_length]
  rfl
 | k + 1,i,acc,n + 1,h,hn=>by
  have hx:xs[i]? = some (xs[i]'(by omega)):=List.getElem?_eq_getElem (by omega)
  rw [q5_,hs _ _ _ _ hx,List.drop_eq_getElem_cons (show i < xs.length by omega)]
  show _=body acc _ (goL body fin (xs.drop (i + 1)))
  congr 1
  funext a
  exact loop_go hs he k (i + 1) a n (by omega) (by omega)
end Pl
end
section
namespace Pl
open Go Ev Sx
theorem loop_dt {σ R:Type} {F:(σ->Option R)->σ->Option R} {mk:Nat->σ} {N:Nat} {r:Option R} (hs:∀ self i,i < N->F self (mk i)=self (mk (i + 1))) (he:∀ self,F self (mk N)=r) :
  ∀ (k i n:Nat),i + k=N->k < n->loopF F n (mk i)=r
 | _,_,0,_,h=>by omega
 | 0,i,n + 1,h,_=>by
  have:i=N:=by omega
  subst this
  rw [q5_,he]
 | k + 1,i,n + 1,h,hn=>by rw [q5_,hs _ _ (by omega),loop_dt hs he k (i + 1) n (by omega) (by omega)]
def goI {α β R:Type} (body:Nat->β->α->(β->Option R)->Option R) (fin:β->Option R):Nat->List α->β->Option R
 | _,[],acc=>fin acc
 | i,x::r,acc=>body i acc x (goI body fin (i + 1) r)
theorem loop_goi {σ R α β:Type} {F:(σ->Option R)->σ->Option R} {mk:Nat->β->σ} {xs:List α} {body:Nat->β->α->(β->Option R)->Option R} {fin:β->Option R}
  (hs:∀ self i acc x,xs[i]? = some x->F self (mk i acc)=body i acc x fun a=>self (mk (i + 1) a))
  (he:∀ self acc,F self (mk xs.length acc)=fin acc) :
  ∀ (k i:Nat) (acc:β) (n:Nat),i + k=xs.length->k < n->loopF F n (mk i acc)=goI body fin i (xs.drop i) acc
 | _,_,_,0,_,hn=>by omega
 | 0,i,acc,n + 1,h,_=>by
  have:i=xs.length:=by omega
  subst this
  rw [q5_,he,List.drop_length]
  rfl
 | k + 1,i,acc,n + 1,h,hn=>by
  have hx:xs[i]? = some (xs[i]'(by omega)):=List.getElem?_eq_getElem (by omega)
  rw [q5_,hs _ _ _ _ hx,List.drop_eq_getElem_cons (show i < xs.length by omega)]
  show _=body i acc _ (goI body fin (i + 1) (xs.drop (i + 1)))
  congr 1
  funext a
  exact loop_goi hs he k (i + 1) a n (by omega) (by omega)
end Pl
end
section
set_option maxRecDepth 100000
namespace Go.Proofs.Lx
open Go Ev Sx Pl
def isL (n:Nat):Bool:=(decide (97≤n) && decide (n≤122)) || (decide (65≤n) && decide (n≤90))
def w1 (n:Nat):Bool:=isL n || n == 37
def e1 (n:Nat):Bool:=n == 61
def wm (n:Nat):Bool:=isL n || isD n || n == 95 || n == 37
theorem tab {f:Int×Unit->Option (Bool×Unit)} {g:Nat->Bool} (h:((List.range 256).all fun n=>match f (Int.ofNat n,()) with
  | some y=>y.1 == g n
  | none=>false)=true) (c:UInt8):f (Int.ofNat c.toNat,())=some (g c.toNat,()):=by
 have:=all8 h c
 split at this
 ·rename_i y hy
  rw [hy]
  have:y.1=g c.toNat:=by simpa using this
  rw [<- this]
 ·cases this
def lowN (n:Nat):Bool:=decide (97≤n) && decide (n≤122)
def namN (n:Nat):Bool:=lowN n || isD n || n == 95
theorem lower_eq (c:UInt8):q3d_ (Int.ofNat c.toNat,())=some (lowN c.toNat,()):=tab (f:=q3d_) (g:=lowN) (by kernel_rfl) c
theorem rdigit_eq (c:UInt8):q4t_ (Int.ofNat c.toNat,())=some (isD c.toNat,()):=tab (f:=q4t_) (g:=isD) (by kernel_rfl) c
abbrev sRec:List UInt8:=[114,101,99,105,112,101]
abbrev sSlv:List UInt8:=[115,108,97,118,101]
abbrev sEnd:List UInt8:=[101,110,100]
def nameB (s:List UInt8):Bool:=s != [] && decide (s.length≤20) && lowN (s.headD 0).toNat && s.all (fun c=>namN c.toNat) && s != sRec && s != sSlv && s != sEnd
theorem goL_all {α R:Type} {p:α->Bool} {r0:Option R} {fin:Unit->Option R}:∀ xs:List α,goL (fun a c k=>if p c=true then k a else r0) fin xs ()=if xs.all p=true then fin () else r0
 | []=>rfl
 | x::q=>by
  show (if p x=true then goL _ fin q () else r0)=_
  rw [goL_all q,List.all_cons]
  cases p x <;> simp
theorem nes_val (a b:List UInt8):nes a b=(a != b):=by
 by_cases h:a=b
 ·subst h
  simp [nes]
 ·rw [nes_iff.2 h]
  simp [h]
theorem at_head {α:Type} {s:List α} (h:s ≠ []) (z:α):at? s 0=some (s.headD z):=by
 cases s with
 | nil=>exact absurd rfl h
 | cons a q=>rfl
theorem name_eq {s:List UInt8}:q6v_ (s,())=some (nameB s,()):=by
 show qb1_ qai_ s=_
 unfold qb1_
 have K1t:qai_ s true=some (false,()):=rfl
 by_cases h0:s=[]
 ·rw [if_pos (q1h_.2 h0),K1t,h0]
  rfl
 ·rw [if_neg (fun e=>h0 (q1h_.1 e))]
  by_cases h1:20 < s.length
  ·rw [if_pos (q7_.2 (by rw [q0_]; omega)),K1t]
   have:nameB s=false:=by unfold nameB; rw [decide_eq_false (show ¬ s.length≤20 by omega)]; simp
   rw [this]
  ·rw [if_neg (fun e=>h1 (by have:=q7_.1 e; rw [q0_] at this; omega)),at_head h0 0,Option.bind_some,lower_eq,Option.bind_some]
   cases h2:lowN (s.headD 0).toNat with
   | false =>
    rw [show (!(false,()).1)=true from rfl,K1t]
    have:nameB s=false:=by unfold nameB; rw [h2]; simp
    rw [this]
   | true =>
    show qay_ s (Int.ofNat s.length) 0=_
    unfold qay_
    refine (loop_go (xs:=s) (mk:=fun i (_:Unit)=>(s,Int.ofNat s.length,(i:Int))) (body:=fun a c k=>if namN c.toNat=true then k a else some (false,())) (fin:=fun _=>q8f_ s) ?_ ?_ s.length 0 () _ (by omega) (by omega)).trans ?_
    ·intro self i acc c hc
     have hi:=(List.getElem?_eq_some_iff.1 hc).1
     show q4b_ (q77_ fun s t18 t19=>self (s,t18,t19)) q8f_ _ s (Int.ofNat s.length) (i:Int)=_
     unfold q4b_
     have K3f:q77_ (fun s t18 t19=>self (s,t18,t19)) s (Int.ofNat s.length) (i:Int) false=self (s,Int.ofNat s.length,((i + 1:Nat):Int)):=by
      show qcs_ _ s (Int.ofNat s.length) (i:Int) false=_
      unfold qcs_
      rw [if_neg Bool.false_ne_true,q9_ (by omega)]
     rw [if_pos (by rw [q1_,q0_]; omega),q4_ hc,Option.bind_some,lower_eq,Option.bind_some]
     unfold namN
     cases e1:lowN c.toNat with
     | true=>rw [if_neg (by decide),K3f]; rfl
     | false =>
      rw [if_pos (by rfl),Option.bind_some,rdigit_eq,Option.bind_some]
      cases e2:isD c.toNat with
      | true=>rw [if_neg (by decide),K3f]; rfl
      | false =>
       rw [if_pos (by rfl),Option.bind_some]
       by_cases e3:c.toNat=95
       ·have:nei (Int.ofNat c.toNat) 95=false:=by rw [Bool.eq_false_iff]; exact fun e=>qh_.1 e (by rw [e3]; rfl)
        rw [this,K3f,if_pos (by simp [e3])]
       ·have:nei (Int.ofNat c.toNat) 95=true:=qh_.2 (fun e=>e3 (by have e:(c.toNat:Int)=95:=e; omega))
        rw [this,if_neg (by simp [e3])]
        rfl
    ·intro self acc
     show q4b_ (q77_ fun s t18 t19=>self (s,t18,t19)) q8f_ _ s (Int.ofNat s.length) (s.length:Int)=_
     unfold q4b_
     rw [if_neg (by rw [q1_,q0_]; omega)]
    ·rw [List.drop_zero,goL_all]
     show (if (s.all fun c=>namN c.toNat)=true then qat_ s else some (false,()))=_
     unfold qat_ nameB
     rw [h2,decide_eq_true (show s.length≤20 by omega),nes_val,nes_val,nes_val]
     have e0:(s != [])=true:=by simpa using h0
     rw [e0]
     cases (s.all fun c=>namN c.toNat) <;> cases (s != sRec) <;> cases (s != sSlv) <;> rfl
def unitB (s:List UInt8):Bool:=decide (s.length≤20) && match s with
 | []=>true
 | c::q=>w1 c.toNat && q.all (fun c=>wm c.toNat)
theorem unit_eq {s:List UInt8}:qcx_ (s,())=some (unitB s,()):=by
 show qc9_ q8c_ s=_
 unfold qc9_
 by_cases h1:20 < s.length
 ·rw [if_pos (q7_.2 (by rw [q0_]; omega))]
  have:unitB s=false:=by unfold unitB; rw [decide_eq_false (show ¬ s.length≤20 by omega)]; rfl
  rw [this]
 ·rw [if_neg (fun e=>h1 (by have:=q7_.1 e; rw [q0_] at this; omega))]
  have stp:∀ (self:(List UInt8)×(Int)×(Int)->Option (As [.bool])) (i:Nat) (c:UInt8),s[i]? = some c ->
    q4g_ (q7i_ fun s t10 t11=>self (s,t10,t11)) (fun s t10 t11=>self (s,t10,t11)) s (Int.ofNat s.length) (i:Int) =
    if (if i=0 then w1 c.toNat else wm c.toNat)=true then self (s,Int.ofNat s.length,((i + 1:Nat):Int)) else some (false,()):=fun self i c hc=>by
   have hi:=(List.getElem?_eq_some_iff.1 hc).1
   unfold q4g_
   have K3:∀ b,qcg_ (fun s t10 t11=>self (s,t10,t11)) s (Int.ofNat s.length) (i:Int) b=if b=true then some (false,()) else self (s,Int.ofNat s.length,((i + 1:Nat):Int)):=fun b=>by
    show qbb_ _ s (Int.ofNat s.length) (i:Int) b=_
    unfold qbb_
    rw [q9_ (by omega)]
   have K2:∀ b,q7i_ (fun s t10 t11=>self (s,t10,t11)) s (i:Int) (Int.ofNat c.toNat) b (Int.ofNat s.length) (i:Int)=if (b || (decide (i ≠ 0) && (isD c.toNat || c.toNat == 95)))=true then self (s,Int.ofNat s.length,((i + 1:Nat):Int)) else some (false,()):=fun b=>by
    show qcm_ (qcg_ fun s t10 t11=>self (s,t10,t11)) _ s (i:Int) (Int.ofNat c.toNat) b (Int.ofNat s.length) (i:Int)=_
    unfold qcm_
    simp only [K3]
    cases b with
    | true=>rfl
    | false =>
     rw [if_pos (by rfl)]
     by_cases h0:i=0
     ·rw [if_pos (qb_.2 (by omega)),decide_eq_false (show ¬ i ≠ 0 by omega)]
      rfl
     ·rw [if_neg (fun e=>h0 (by have:=qb_.1 e; omega)),decide_eq_true h0,rdigit_eq,Option.bind_some]
      cases e2:isD c.toNat with
      | true=>rfl
      | false =>
       rw [if_pos (by rfl)]
       have g3:nei (Int.ofNat c.toNat) 95=!(c.toNat == 95):=by
        apply Bool.eq_iff_iff.2
        rw [qh_]
        simp
        omega
       rw [g3]
       cases (c.toNat == 95) <;> rfl
   rw [if_pos (by rw [q1_,q0_]; omega),q4_ hc,Option.bind_some,lower_eq,Option.bind_some]
   simp only [K2]
   have g1:ge (Int.ofNat c.toNat) 65=decide (65≤c.toNat):=by
    show decide ((65:Int)≤(c.toNat:Int))=_
    apply Bool.eq_iff_iff.2; simp; omega
   have g2:le (Int.ofNat c.toNat) 90=decide (c.toNat≤90):=by
    show decide ((c.toNat:Int)≤90)=_
    apply Bool.eq_iff_iff.2; simp; omega
   have g3:eqi (Int.ofNat c.toNat) 37=(c.toNat == 37):=by
    apply Bool.eq_iff_iff.2
    rw [qb_]
    simp
    omega
   rw [g1,g2,g3]
   have hw:w1 c.toNat=(lowN c.toNat || (decide (65≤c.toNat) && decide (c.toNat≤90)) || c.toNat == 37):=by unfold w1 isL lowN; rfl
   have hm:wm c.toNat=(w1 c.toNat || isD c.toNat || c.toNat == 95):=by
    unfold wm w1
    cases isL c.toNat <;> cases isD c.toNat <;> cases (c.toNat == 95) <;> cases (c.toNat == 37) <;> rfl
   rw [hm,hw]
   by_cases h0:i=0
   ·rw [if_pos h0,decide_eq_false (show ¬ i ≠ 0 by omega)]
    cases lowN c.toNat <;> cases decide (65≤c.toNat) <;> cases decide (c.toNat≤90) <;> cases (c.toNat == 37) <;> rfl
   ·rw [if_neg h0,decide_eq_true h0]
    cases lowN c.toNat <;> cases decide (65≤c.toNat) <;> cases decide (c.toNat≤90) <;> cases (c.toNat == 37) <;> cases isD c.toNat <;> cases (c.toNat == 95) <;> rfl
  have fin:∀ (self:(List UInt8)×(Int)×(Int)->Option (As [.bool])),q4g_ (q7i_ fun s t10 t11=>self (s,t10,t11)) (fun s t10 t11=>self (s,t10,t11)) s (Int.ofNat s.length) (s.length:Int)=some (true,()):=fun self=>by
   unfold q4g_
   rw [if_neg (by rw [q1_,q0_]; omega)]
  show q8c_ s (Int.ofNat s.length) 0=_
  unfold q8c_
  match s,h1,stp,fin with
  | [],_,stp,fin=>rfl
  | c::q,h1,stp,fin =>
   rw [show (18446744073709551616:Nat)=18446744073709551615 + 1 from rfl,q5_]
   refine (stp _ 0 c rfl).trans ?_
   rw [if_pos rfl]
   have hu:unitB (c::q)=(w1 c.toNat && q.all (fun c=>wm c.toNat)):=by
    unfold unitB
    rw [decide_eq_true (show (c::q).length≤20 by omega)]
    rfl
   rw [hu]
   cases hc:w1 c.toNat with
   | false=>rfl
   | true =>
    rw [if_pos rfl]
    refine (loop_go (xs:=q) (mk:=fun i (_:Unit)=>(c::q,Int.ofNat (c::q).length,((i + 1:Nat):Int))) (body:=fun a x k=>if wm x.toNat=true then k a else some (false,())) (fin:=fun _=>some (true,())) ?_ ?_ q.length 0 () _ (by omega) (by rw [List.length_cons] at h1; omega)).trans ?_
    ·intro self i acc x hx
     have:=stp self (i + 1) x (by simpa using hx)
     rw [if_neg (show ¬ i + 1=0 by omega)] at this
     exact this
    ·intro self acc
     exact fin self
    ·rw [List.drop_zero,goL_all]
     cases (q.all fun c=>wm c.toNat) <;> rfl
abbrev TSet:=List UInt8×(Int×Int)×List UInt8×Int
abbrev TPart:=List UInt8×Int×List TSet
abbrev TRec:=List UInt8×List TPart
def setB (s:TSet):Bool:=nameB s.1 && (rgt s.2.1 && unitB s.2.2.1)
def partB (p:TPart):Bool:=nameB p.1 && (decide (p.2.2.length≤64) && p.2.2.all setB)
def rightB (r:TRec):Bool:=nameB r.1 && (decide (r.2.length≤8) && r.2.all partB)
theorem loop_all {σ R α:Type} {F:(σ->Option R)->σ->Option R} {mk:Nat->σ} {xs:List α} {p:α->Bool} {r0 fin:Option R}
  (hs:∀ self i x,xs[i]? = some x->F self (mk i)=if p x=true then self (mk (i + 1)) else r0) (he:∀ self,F self (mk xs.length)=fin) {n:Nat} (h:xs.length < n) :
  loopF F n (mk 0)=if xs.all p=true then fin else r0:=by
 have:=loop_go (xs:=xs) (mk:=fun i (_:Unit)=>mk i) (body:=fun a x k=>if p x=true then k a else r0) (fin:=fun _=>fin) (fun self i acc x hx=>hs self i x hx) (fun self _=>he self) xs.length 0 () n (by omega) h
 rw [List.drop_zero,goL_all] at this
 exact this
theorem gtn {n k:Nat}:gt (Int.ofNat n) (k:Int)=!decide (n≤k):=by
 apply Bool.eq_iff_iff.2
 rw [q7_,q0_]
 simp
theorem right_eq' {r:TRec} (h1:r.2.length≤1000000) (h2:∀ p ∈ r.2,p.2.2.length≤1000000):q57_ (r,())=some (rightB r,()):=by
 show q9p_ q9k_ r=_
 unfold q9p_
 have K1:∀ b,q9k_ b r=if b=true then some (false,()) else q69_ r.2 (Int.ofNat r.2.length) 0:=fun b=>rfl
 rw [name_eq,Option.bind_some]
 have e8:gt (Int.ofNat r.2.length) 8=!decide (r.2.length≤8):=gtn (k:=8)
 simp only [K1,e8]
 have K2:q69_ r.2 (Int.ofNat r.2.length) 0=if r.2.all partB=true then some (true,()) else some (false,()):=by
  unfold q69_
  refine loop_all (xs:=r.2) (mk:=fun i=>(r.2,Int.ofNat r.2.length,(i:Int))) (p:=partB) ?_ ?_ (by omega)
  ·intro self i p hp
   have hi:=(List.getElem?_eq_some_iff.1 hp).1
   have hps:=h2 p (List.mem_of_getElem? hp)
   show q3e_ (q9n_ fun t18 t19 t20=>self (t18,t19,t20)) _ r.2 (Int.ofNat r.2.length) (i:Int)=_
   unfold q3e_
   rw [if_pos (by rw [q1_,q0_]; omega),q4_ hp,Option.bind_some,name_eq,Option.bind_some]
   have K4:q6k_ (fun t18 t19 t20=>self (t18,t19,t20)) r.2 (Int.ofNat r.2.length) (i:Int) p.2.2 (Int.ofNat p.2.2.length) 0=if p.2.2.all setB=true then self (r.2,Int.ofNat r.2.length,((i + 1:Nat):Int)) else some (false,()):=by
    unfold q6k_
    refine loop_all (xs:=p.2.2) (mk:=fun k=>(r.2,Int.ofNat r.2.length,(i:Int),p.2.2,Int.ofNat p.2.2.length,(k:Int))) (p:=setB) ?_ ?_ (by omega)
    ·intro self4 k s hs
     have hk:=(List.getElem?_eq_some_iff.1 hs).1
     show q3f_ (q9t_ (fun t18 t19 t20=>self (t18,t19,t20)) fun t18 t19 t20 t35 t36 t37=>self4 (t18,t19,t20,t35,t36,t37)) _ _ r.2 (Int.ofNat r.2.length) (i:Int) p.2.2 (Int.ofNat p.2.2.length) (k:Int)=_
     unfold q3f_
     have K5:∀ b,q9t_ (fun t18 t19 t20=>self (t18,t19,t20)) (fun t18 t19 t20 t35 t36 t37=>self4 (t18,t19,t20,t35,t36,t37)) r.2 (Int.ofNat r.2.length) (i:Int) p.2.2 (Int.ofNat p.2.2.length) (k:Int) b=if b=true then some (false,()) else self4 (r.2,Int.ofNat r.2.length,(i:Int),p.2.2,Int.ofNat p.2.2.length,((k + 1:Nat):Int)):=fun b=>by
      show q9o_ _ _ r.2 (Int.ofNat r.2.length) (i:Int) p.2.2 (Int.ofNat p.2.2.length) (k:Int) b=_
      unfold q9o_
      rw [q9_ (by omega)]
     rw [if_pos (by rw [q1_,q0_]; omega),q4_ hs,Option.bind_some,name_eq,Option.bind_some,right_eq,Option.bind_some,unit_eq,Option.bind_some]
     simp only [K5]
     unfold setB
     cases nameB s.1 <;> cases rgt s.2.1 <;> cases unitB s.2.2.1 <;> rfl
    ·intro self4
     show q3f_ _ _ _ r.2 (Int.ofNat r.2.length) (i:Int) p.2.2 (Int.ofNat p.2.2.length) (p.2.2.length:Int)=_
     unfold q3f_
     rw [if_neg (by rw [q1_,q0_]; omega),q9_ (by omega)]
   have K3:∀ b,q9n_ (fun t18 t19 t20=>self (t18,t19,t20)) r.2 (Int.ofNat r.2.length) (i:Int) b p=if b=true then some (false,()) else if p.2.2.all setB=true then self (r.2,Int.ofNat r.2.length,((i + 1:Nat):Int)) else some (false,()):=fun b=>by
    show q9r_ (q6k_ fun t18 t19 t20=>self (t18,t19,t20)) _ r.2 (Int.ofNat r.2.length) (i:Int) b p=_
    unfold q9r_
    rw [K4]
   have e64:gt (Int.ofNat p.2.2.length) 64=!decide (p.2.2.length≤64):=gtn (k:=64)
   simp only [K3,e64]
   unfold partB
   cases nameB p.1 <;> cases decide (p.2.2.length≤64) <;> cases p.2.2.all setB <;> rfl
  ·intro self
   show q3e_ _ _ r.2 (Int.ofNat r.2.length) (r.2.length:Int)=_
   unfold q3e_
   rw [if_neg (by rw [q1_,q0_]; omega)]
 rw [K2]
 unfold rightB
 cases nameB r.1 <;> cases decide (r.2.length≤8) <;> cases r.2.all partB <;> rfl
end Go.Proofs.Lx
end
section
set_option maxRecDepth 100000
namespace Go.Proofs.Lx
open Go Ev Sx Pl
theorem stN_ne:∀ (k v:Nat),(stN k v).1 ≠ 0->(stN k v).2 % 10 ≠ 0
 | 0,v,h=>absurd rfl h
 | k + 1,v,h=>by
  rw [stN] at h ⊢
  by_cases hv:v % 10=0
  ·rw [if_pos hv] at h ⊢; exact stN_ne k _ h
  ·rw [if_neg hv] at h ⊢; exact hv
theorem rgt_sgn {sg:Bool} {w k:Nat} (h1:w≤1000000000000) (h2:k≤6) (h3:k ≠ 0->w % 10 ≠ 0):rgt (sgn sg w,(k:Int))=true:=by
 unfold rgt
 refine decide_eq_true ⟨?_,?_,by show (k:Int)≤6; omega,?_⟩
 ·unfold sgn; cases sg <;> simp <;> omega
 ·unfold sgn; cases sg <;> simp <;> omega
 ·by_cases hk:k=0
  ·left; show (k:Int)=0; omega
  ·right
   have:=h3 hk
   exact fun e=>this ((sgn_mod sg w).1 e)
theorem times_right {d:Int×Int} (h0:0≤d.2) {num den:Int} {r:Int×Int} (h:q43_ (d,num,den,())=some (r,true,())):rgt r=true∧0≤r.2:=by
 have hr:=right_eq d
 cases hg:rgt d with
 | false =>
  rw [hg] at hr
  rw [times_bad (.inl hr)] at h
  cases h
 | true =>
  rw [hg] at hr
  by_cases hb:1≤num∧num≤1000000000∧1≤den∧den≤1000000000
  ·obtain ⟨sg,n,D,hd⟩:=rgt_rt hg h0
   have e1:num=(num.toNat:Int):=by omega
   have e2:den=(den.toNat:Int):=by omega
   rw [e1,e2,times_eq hd (by omega) (by omega)] at h
   unfold timesN at h
   split at h
   ·unfold okN at h
    split at h
    ·rename_i hle
     generalize n * num.toNat * 1000000 / (den.toNat * 10 ^ D)=q at h hle
     have hs:=stN_spec 6 q
     have hn:=stN_ne 6 q
     cases h
     exact ⟨rgt_sgn hle hs.1 hn,by show (0:Int)≤((stN 6 q).1:Int); omega⟩
    ·cases h
   ·cases h
  ·rw [times_bad (.inr ⟨hr,hb⟩)] at h
   cases h
theorem to_right {d:Int×Int} (h0:0≤d.2) {f t:List UInt8} {r:Int×Int} (h:q3n_ (d,f,t,())=some (r,true,())):rgt r=true∧0≤r.2:=by
 have key:∀ (b:Bool) (x y:List UInt8×Int×Int),q1r_ b d.1 d.2 0 0 x.1 x.2.1 x.2.2 y.1 y.2.1 y.2.2=some (r,true,())->rgt r=true∧0≤r.2:=fun b x y h=>by
  unfold q1r_ qj9_ at h
  cases b with
  | true=>rw [if_pos rfl] at h; cases h
  | false =>
   rw [if_neg (by decide)] at h
   obtain ⟨z,h1,h2⟩:=Option.bind_eq_some_iff.1 h
   obtain ⟨z1,z2,z3⟩:=z
   cases h2
   exact times_right (d:=(d.1,d.2)) h0 h1
 have e1:q3n_ (d,f,t,())=(if (!(knS f).isSome)=true then q1r_ true d.1 d.2 0 0 ((knS f).getD ([],0,0)).1 ((knS f).getD ([],0,0)).2.1 ((knS f).getD ([],0,0)).2.2 ((knS t).getD ([],0,0)).1 ((knS t).getD ([],0,0)).2.1 ((knS t).getD ([],0,0)).2.2 else if (!(knS t).isSome)=true then q1r_ true d.1 d.2 0 0 ((knS f).getD ([],0,0)).1 ((knS f).getD ([],0,0)).2.1 ((knS f).getD ([],0,0)).2.2 ((knS t).getD ([],0,0)).1 ((knS t).getD ([],0,0)).2.1 ((knS t).getD ([],0,0)).2.2 else q1r_ (nes ((knS f).getD ([],0,0)).1 ((knS t).getD ([],0,0)).1) d.1 d.2 0 0 ((knS f).getD ([],0,0)).1 ((knS f).getD ([],0,0)).2.1 ((knS f).getD ([],0,0)).2.2 ((knS t).getD ([],0,0)).1 ((knS t).getD ([],0,0)).2.1 ((knS t).getD ([],0,0)).2.2):=rfl
 rw [e1] at h
 split at h
 ·exact key _ _ _ h
 ·split at h
  ·exact key _ _ _ h
  ·exact key _ _ _ h
theorem to_tot {d:Int×Int} (h0:0≤d.2) (f t:List UInt8):∃ r:(Int×Int)×Bool,q3n_ (d,f,t,())=some (r.1,r.2,())∧(r.2=true->rgt r.1=true∧0≤r.1.2):=by
 obtain ⟨r,h1,_⟩:=to_same h0 f t
 refine ⟨r,h1,fun e=>to_right h0 (f:=f) (t:=t) (r:=r.1) ?_⟩
 rw [h1,e]
theorem cmp_tot {a b:Int×Int} (ha:rgt a=true) (ha0:0≤a.2) (hb:rgt b=true) (hb0:0≤b.2):∃ c:Int,q39_ (a,b,())=some (c,()):=by
 obtain ⟨s1,n1,D1,h1⟩:=rgt_rt ha ha0
 obtain ⟨s2,n2,D2,h2⟩:=rgt_rt hb hb0
 exact ⟨_,ucmp_eq h1 h2⟩
end Go.Proofs.Lx
end
section
set_option maxRecDepth 100000
namespace Go.Proofs.Lx
open Go Ev Sx Pl
@[reducible] def zJ0:Type:=(List UInt8)×(List (List UInt8×List (List UInt8×Int×Int×Bool×(Int×Int)×(Int×Int)×List UInt8)))×(Int)×(Int)->Option (As [.int .i64,.bool])
def qmt_ :=(fun (self:zJ0) (s:(List UInt8)×(List (List UInt8×List (List UInt8×Int×Int×Bool×(Int×Int)×(Int×Int)×List UInt8)))×(Int)×(Int))=>q5i_ (fun slave t8 t9 t10=>self (slave,t8,t9,t10)) s.1 s.2.1 s.2.2.1 s.2.2.2)
@[reducible] def zJ1:Type:=List (List UInt8×List (List UInt8×Int×Int×Bool×(Int×Int)×(Int×Int)×List UInt8))
theorem qlv_  (self:zJ0) (slave:List UInt8) (t8:zJ1) (t9:Int) (t10:Int):qmt_ self (slave,t8,t9,t10)=q5i_ (fun slave t8 t9 t10=>self (slave,t8,t9,t10)) slave t8 t9 t10:=rfl
theorem qsw_  (slave:List UInt8) (t8:zJ1) (t9:Int) (t10:Int):qdm_ slave t8 t9 t10=loopF (qmt_) 18446744073709551616 (slave,t8,t9,t10):=rfl
@[reducible] def zJ2:Type:=(List UInt8)×(List (List UInt8×Int×Int×Bool×(Int×Int)×(Int×Int)×List UInt8))×(Int)×(Int)×(List UInt8×Int×Int×Bool×(Int×Int)×(Int×Int)×List UInt8)->Option (As [.pr .str (.pr (.int .i64) (.pr (.int .i64) (.pr .bool (.pr (.pr (.int .i64) (.int .u8)) (.pr (.pr (.int .i64) (.int .u8)) .str))))),.bool])
def qm2_ :=(fun (self:zJ2) (s:(List UInt8)×(List (List UInt8×Int×Int×Bool×(Int×Int)×(Int×Int)×List UInt8))×(Int)×(Int)×(List UInt8×Int×Int×Bool×(Int×Int)×(Int×Int)×List UInt8))=>q4m_ (qak_) (fun name t9 t10 t11 t4=>self (name,t9,t10,t11,t4)) s.1 s.2.1 s.2.2.1 s.2.2.2.1 s.2.2.2.2)
@[reducible] def zJ3:Type:=List (List UInt8×Int×Int×Bool×(Int×Int)×(Int×Int)×List UInt8)
@[reducible] def zJ4:Type:=List UInt8×Int×Int×Bool×(Int×Int)×(Int×Int)×List UInt8
theorem ql7_  (self:zJ2) (name:List UInt8) (t9:zJ3) (t10:Int) (t11:Int) (t4:zJ4):qm2_ self (name,t9,t10,t11,t4)=q4m_ (qak_) (fun name t9 t10 t11 t4=>self (name,t9,t10,t11,t4)) name t9 t10 t11 t4:=rfl
theorem qsj_  (name:List UInt8) (t9:zJ3) (t10:Int) (t11:Int) (t4:zJ4):qcn_ name t9 t10 t11 t4=loopF (qm2_) 18446744073709551616 (name,t9,t10,t11,t4):=rfl
@[reducible] def zJ5:Type:=(List (List UInt8×Int×Int×Bool×(Int×Int)×(Int×Int)×List UInt8))×(Int)×(Int)×(List (List UInt8×Unit))×(List (Int×Unit))->Option (As [.bool])
def qd1_ :=(fun (self:zJ5) (s:(List (List UInt8×Int×Int×Bool×(Int×Int)×(Int×Int)×List UInt8))×(Int)×(Int)×(List (List UInt8×Unit))×(List (Int×Unit)))=>q1t_ (q2e_ (fun t20 t21 t22 o o_2=>self (t20,t21,t22,o,o_2))) (fun t20 t21 t22 o o_2=>self (t20,t21,t22,o,o_2)) s.1 s.2.1 s.2.2.1 s.2.2.2.1 s.2.2.2.2)
@[reducible] def zJ6:Type:=List (List UInt8×Unit)
theorem qcv_  (self:zJ5) (t20:zJ3) (t21:Int) (t22:Int) (o:zJ6) (o_2:List (Int×Unit)):qd1_ self (t20,t21,t22,o,o_2)=q1t_ (q2e_ (fun t20 t21 t22 o o_2=>self (t20,t21,t22,o,o_2))) (fun t20 t21 t22 o o_2=>self (t20,t21,t22,o,o_2)) t20 t21 t22 o o_2:=rfl
theorem qm9_  (t20:zJ3) (t21:Int) (t22:Int) (o:zJ6) (o_2:List (Int×Unit)):q3w_ t20 t21 t22 o o_2=loopF (qd1_) 18446744073709551616 (t20,t21,t22,o,o_2):=rfl
@[reducible] def zJ7:Type:=(List (List UInt8×List (List UInt8×Int×Int×Bool×(Int×Int)×(Int×Int)×List UInt8)))×(Int)×(Int)×(List (List UInt8×Unit))->Option (As [.bool])
def qlr_ :=(fun (self:zJ7) (s:(List (List UInt8×List (List UInt8×Int×Int×Bool×(Int×Int)×(Int×Int)×List UInt8)))×(Int)×(Int)×(List (List UInt8×Unit)))=>q47_ (q8b_ (fun t15 t16 t17 o=>self (t15,t16,t17,o))) (fun t15 t16 t17 o=>self (t15,t16,t17,o)) s.1 s.2.1 s.2.2.1 s.2.2.2)
theorem ql4_  (self:zJ7) (t15:zJ1) (t16:Int) (t17:Int) (o:zJ6):qlr_ self (t15,t16,t17,o)=q47_ (q8b_ (fun t15 t16 t17 o=>self (t15,t16,t17,o))) (fun t15 t16 t17 o=>self (t15,t16,t17,o)) t15 t16 t17 o:=rfl
theorem qsl_  (t15:zJ1) (t16:Int) (t17:Int) (o:zJ6):qcq_ t15 t16 t17 o=loopF (qlr_) 18446744073709551616 (t15,t16,t17,o):=rfl
@[reducible] def zJ8:Type:=(List (List UInt8×List (List UInt8×Int×Int×Bool×(Int×Int)×(Int×Int)×List UInt8)))×(List (List UInt8×Int×List (List UInt8×(Int×Int)×List UInt8×Int)))×(Int)×(Int)×(Int×Int)×(List (List UInt8×Unit))->Option (As [.pr (.int .i64) (.int .i64)])
def qlt_ :=(fun (self:zJ8) (s:(List (List UInt8×List (List UInt8×Int×Int×Bool×(Int×Int)×(Int×Int)×List UInt8)))×(List (List UInt8×Int×List (List UInt8×(Int×Int)×List UInt8×Int)))×(Int)×(Int)×(Int×Int)×(List (List UInt8×Unit)))=>q4a_ (qal_ (fun t t28 t29 t30 t4 o=>self (t,t28,t29,t30,t4,o))) (fun t t28 t29 t30 t4 o=>self (t,t28,t29,t30,t4,o)) s.1 s.2.1 s.2.2.1 s.2.2.2.1 s.2.2.2.2.1 s.2.2.2.2.2)
@[reducible] def zJ9:Type:=List (List UInt8×Int×List (List UInt8×(Int×Int)×List UInt8×Int))
theorem ql3_  (self:zJ8) (t:zJ1) (t28:zJ9) (t29:Int) (t30:Int) (t4:Int×Int) (o:zJ6):qlt_ self (t,t28,t29,t30,t4,o)=q4a_ (qal_ (fun t t28 t29 t30 t4 o=>self (t,t28,t29,t30,t4,o))) (fun t t28 t29 t30 t4 o=>self (t,t28,t29,t30,t4,o)) t t28 t29 t30 t4 o:=rfl
theorem qsi_  (t:zJ1) (t28:zJ9) (t29:Int) (t30:Int) (t4:Int×Int) (o:zJ6):qbx_ t t28 t29 t30 t4 o=loopF (qlt_) 18446744073709551616 (t,t28,t29,t30,t4,o):=rfl
@[reducible] def zJ10:Type:=List (List UInt8×List (List UInt8×Int×Int×Bool×(Int×Int)×(Int×Int)×List UInt8))->List (List UInt8×Int×List (List UInt8×(Int×Int)×List UInt8×Int))->Int->Int->Int×Int->List (List UInt8×Unit)->Option (As [.pr (.int .i64) (.int .i64)])
@[reducible] def zJ11:Type:=(List (List UInt8×List (List UInt8×Int×Int×Bool×(Int×Int)×(Int×Int)×List UInt8)))×(Int)×(List (List UInt8×Int×List (List UInt8×(Int×Int)×List UInt8×Int)))×(Int)×(Int)×(List (List UInt8×(Int×Int)×List UInt8×Int))×(Int)×(Int)×(Int×Int)×(List (List UInt8×Unit))×(List (List UInt8×Unit))->Option (As [.pr (.int .i64) (.int .i64)])
def qlo_ (u2:zJ10):=(fun (self:zJ11) (s:(List (List UInt8×List (List UInt8×Int×Int×Bool×(Int×Int)×(Int×Int)×List UInt8)))×(Int)×(List (List UInt8×Int×List (List UInt8×(Int×Int)×List UInt8×Int)))×(Int)×(Int)×(List (List UInt8×(Int×Int)×List UInt8×Int))×(Int)×(Int)×(Int×Int)×(List (List UInt8×Unit))×(List (List UInt8×Unit)))=>q4i_ (q7l_ u2 (fun t i t28 t29 t30 t55 t56 t57 t4 o o_2=>self (t,i,t28,t29,t30,t55,t56,t57,t4,o,o_2))) u2 (fun t i t28 t29 t30 t55 t56 t57 t4 o o_2=>self (t,i,t28,t29,t30,t55,t56,t57,t4,o,o_2)) s.1 s.2.1 s.2.2.1 s.2.2.2.1 s.2.2.2.2.1 s.2.2.2.2.2.1 s.2.2.2.2.2.2.1 s.2.2.2.2.2.2.2.1 s.2.2.2.2.2.2.2.2.1 s.2.2.2.2.2.2.2.2.2.1 s.2.2.2.2.2.2.2.2.2.2)
theorem ql1_ (u2:zJ10) (self:zJ11) (t:zJ1) (i:Int) (t28:zJ9) (t29 t30:Int) (t55:List (List UInt8×(Int×Int)×List UInt8×Int)) (t56 t57:Int) (t4:Int×Int) (o o_2:zJ6):qlo_ u2 self (t,i,t28,t29,t30,t55,t56,t57,t4,o,o_2)=q4i_ (q7l_ u2 (fun t i t28 t29 t30 t55 t56 t57 t4 o o_2=>self (t,i,t28,t29,t30,t55,t56,t57,t4,o,o_2))) u2 (fun t i t28 t29 t30 t55 t56 t57 t4 o o_2=>self (t,i,t28,t29,t30,t55,t56,t57,t4,o,o_2)) t i t28 t29 t30 t55 t56 t57 t4 o o_2:=rfl
theorem qsk_ (u2:zJ10) (t:zJ1) (i:Int) (t28:zJ9) (t29 t30:Int) (t55:List (List UInt8×(Int×Int)×List UInt8×Int)) (t56 t57:Int) (t4:Int×Int) (o o_2:zJ6):q7b_ u2 t i t28 t29 t30 t55 t56 t57 t4 o o_2=loopF (qlo_ u2) 18446744073709551616 (t,i,t28,t29,t30,t55,t56,t57,t4,o,o_2):=rfl
end Go.Proofs.Lx
end
section
set_option maxRecDepth 100000
namespace Go.Proofs.Lx
open Go Ev Sx Pl
abbrev DecI:=Int×Int
abbrev TPt:=List UInt8×Int×Int×Bool×DecI×DecI×List UInt8
abbrev TDev:=List UInt8×List TPt
abbrev TTab:=List TDev
def srch {α:Type} (p:α->Bool):List α->Nat->Option (Nat×α)
 | [],_=>none
 | x::q,k=>if p x=true then some (k,x) else srch p q (k + 1)
theorem srch_none {α:Type} {p:α->Bool}:∀ {xs:List α} {k:Nat},srch p xs k=none->∀ x ∈ xs,p x=false
 | [],_,_,_,hx=>by cases hx
 | y::q,k,h,x,hx=>by
  unfold srch at h
  split at h
  ·cases h
  ·rename_i hy
   rcases List.mem_cons.1 hx with rfl | hx
   ·simpa using hy
   ·exact srch_none h x hx
theorem srch_some {α:Type} {p:α->Bool}:∀ {xs:List α} {k i:Nat} {x:α},srch p xs k=some (i,x)->k≤i∧xs[i - k]? = some x∧p x=true∧∀ (j:Nat) (y:α),j < i - k->xs[j]? = some y->p y=false
 | [],_,_,_,h=>by cases h
 | y::q,k,i,x,h=>by
  unfold srch at h
  split at h
  ·rename_i hy
   cases h
   exact ⟨Nat.le_refl _,by rw [Nat.sub_self]; rfl,hy,fun j y hj _=>by omega⟩
  ·rename_i hy
   obtain ⟨h1,h2,h3,h4⟩:=srch_some h
   refine ⟨by omega,?_,h3,fun j z hj hz=>?_⟩
   ·rw [show i - k=(i - (k + 1)) + 1 by omega,List.getElem?_cons_succ]
    exact h2
   ·cases j with
    | zero =>
     rw [List.getElem?_cons_zero] at hz
     cases hz
     simpa using hy
    | succ j=>exact h4 j z (by omega) (by rw [List.getElem?_cons_succ] at hz; exact hz)
theorem find_eq {t:TTab} {s:List UInt8} (ht:t.length≤1000000):q22_ (t,s,())=some (match srch (fun d=>eqs d.1 s) t 0 with
  | some z=>((z.1:Int),true,())
  | none=>(0,false,())):=by
 show qdm_ s t (Int.ofNat t.length) 0=_
 rw [qsw_]
 refine (loop_goi (xs:=t) (mk:=fun i (_:Unit)=>(s,t,Int.ofNat t.length,(i:Int))) (body:=fun i _ d k=>if eqs d.1 s=true then some ((i:Int),true,()) else k ()) (fin:=fun _=>some (0,false,())) ?_ ?_ t.length 0 () _ (by omega) (by omega)).trans ?_
 ·intro self i acc d hd
  have hi:=(List.getElem?_eq_some_iff.1 hd).1
  rw [qlv_]
  unfold q5i_
  rw [if_pos (by rw [q1_,q0_]; omega),q4_ hd,Option.bind_some,q9_ (by omega)]
 ·intro self acc
  rw [qlv_]
  unfold q5i_
  rw [if_neg (by rw [q1_,q0_]; omega)]
 ·rw [List.drop_zero]
  have key:∀ (q:TTab) (k:Nat),goI (fun (i:Nat) (_:Unit) (d:TDev) (k:Unit->Option (As [.int .i64,.bool]))=>if eqs d.1 s=true then some ((i:Int),true,()) else k ()) (fun _=>some (0,false,())) k q ()=some (match srch (fun d=>eqs d.1 s) q k with
    | some z=>((z.1:Int),true,())
    | none=>(0,false,())):=by
   intro q
   induction q with
   | nil=>intro k; rfl
   | cons d q ih =>
    intro k
    show (if eqs d.1 s=true then some ((k:Int),true,()) else goI _ _ (k + 1) q ())=_
    unfold srch
    by_cases h:eqs d.1 s=true
    ·rw [if_pos h,if_pos h]
    ·rw [if_neg h,if_neg h,ih]
  exact key t 0
def zPt:TPt:=([],0,0,false,(0,0),(0,0),[])
theorem point_eq {d:TDev} {s:List UInt8} (ht:d.2.length≤1000000):q34_ (d,s,())=some (match srch (fun p=>eqs p.1 s) d.2 0 with
  | some z=>(z.2,true,())
  | none=>(zPt,false,())):=by
 show qcn_ s d.2 (Int.ofNat d.2.length) 0 zPt=_
 rw [qsj_]
 refine (loop_goi (xs:=d.2) (mk:=fun i (_:Unit)=>(s,d.2,Int.ofNat d.2.length,(i:Int),zPt)) (body:=fun _ _ p k=>if eqs p.1 s=true then some (p,true,()) else k ()) (fin:=fun _=>some (zPt,false,())) ?_ ?_ d.2.length 0 () _ (by omega) (by omega)).trans ?_
 ·intro self i acc p hp
  have hi:=(List.getElem?_eq_some_iff.1 hp).1
  rw [ql7_]
  unfold q4m_
  rw [if_pos (by rw [q1_,q0_]; omega),q4_ hp,Option.bind_some,q9_ (by omega)]
 ·intro self acc
  rw [ql7_]
  unfold q4m_
  rw [if_neg (by rw [q1_,q0_]; omega)]
  rfl
 ·rw [List.drop_zero]
  have key:∀ (q:List TPt) (k:Nat),goI (fun (_:Nat) (_:Unit) (p:TPt) (k:Unit->Option (As q3l_.rs))=>if eqs p.1 s=true then some (p,true,()) else k ()) (fun _=>some (zPt,false,())) k q ()=some (match srch (fun p=>eqs p.1 s) q k with
    | some z=>(z.2,true,())
    | none=>(zPt,false,())):=by
   intro q
   induction q with
   | nil=>intro k; rfl
   | cons p q ih =>
    intro k
    show (if eqs p.1 s=true then some (p,true,()) else goI _ _ (k + 1) q ())=_
    unfold srch
    by_cases h:eqs p.1 s=true
    ·rw [if_pos h,if_pos h]
    ·rw [if_neg h,if_neg h,ih]
  exact key d.2 0
def Met {kt:Ty} (o:List (Vl kt×Unit)) (N:Vl kt->Prop):Prop:=∀ k,(dget kt o k).isSome=true ↔ N k
theorem dget_dput {kt:Ty} (hk:∀ a b:Vl kt,keq kt a b=true ↔ a=b) {V:Type} (k:Vl kt) (v:V) (j:Vl kt):∀ o:List (Vl kt×V),dget kt (dput kt o k v) j=if keq kt k j=true then some v else dget kt o j
 | []=>by
  show (if keq kt k j=true then some v else none)=_
  rfl
 | (a,b)::r=>by
  unfold dput
  by_cases h:keq kt a k=true
  ·rw [if_pos h]
   have e:=(hk _ _).1 h
   subst e
   unfold dget
   by_cases h2:keq kt a j=true
   ·rw [if_pos h2,if_pos h2]
   ·rw [if_neg h2,if_neg h2,if_neg h2]
  ·rw [if_neg h]
   unfold dget
   by_cases h2:keq kt a j=true
   ·rw [if_pos h2,if_pos h2]
    have:¬ keq kt k j=true:=fun e=>h (by rw [hk] at h2 e ⊢; rw [h2,e])
    rw [if_neg this]
   ·rw [if_neg h2,if_neg h2,dget_dput hk k v j r]
theorem keqS (a b:List UInt8):keq .str a b=true ↔ a=b:=by simp [keq,eqs]
theorem keqI (a b:Int):keq (.int .i64) a b=true ↔ a=b:=by simp [keq,eqi]
theorem Met.nil {kt:Ty}:Met (kt:=kt) [] (fun _=>False):=fun k=>by simp [dget]
theorem Met.put {kt:Ty} (hk:∀ a b:Vl kt,keq kt a b=true ↔ a=b) {o:List (Vl kt×Unit)} {N:Vl kt->Prop} (h:Met o N) (k:Vl kt):Met (dput kt o k ()) (fun j=>N j∨j=k):=fun j=>by
 rw [dget_dput hk]
 by_cases e:keq kt k j=true
 ·rw [if_pos e]
  have:=(hk _ _).1 e
  simp [this]
 ·rw [if_neg e,h j]
  exact ⟨.inl,fun x=>x.elim id fun q=>absurd ((hk _ _).2 q.symm) e⟩
end Go.Proofs.Lx
end
section
set_option maxRecDepth 100000
namespace Go.Proofs.Lx
open Go Ev Sx Pl
theorem vname_eq {s:List UInt8}:qb6_ (s,())=some (nameB s,()):=by
 show Option.bind (q57_ ((s,[]),())) (fun y=>some (y.1,()))=_
 rw [right_eq' (r:=(s,[])) (by simp) (by simp),Option.bind_some]
 show some (nameB s && (decide (0≤8) && true),())=_
 simp
def cmpV (a b:DecI):Int:=((q39_ (a,b,())).map (·.1)).getD 0
theorem cmp_eq {a b:DecI} (ha:rgt a=true) (ha0:0≤a.2) (hb:rgt b=true) (hb0:0≤b.2):q39_ (a,b,())=some (cmpV a b,()):=by
 obtain ⟨c,h⟩:=cmp_tot ha ha0 hb hb0
 unfold cmpV
 rw [h]
 rfl
def knB (u:List UInt8):Bool:=(knS u).isSome
def ptB (p:TPt):Bool:=nameB p.1 && (decide (0≤p.2.1∧p.2.1 < 64) && (decide (0≤p.2.2.1∧p.2.2.1≤6) && (rgt p.2.2.2.2.1 && (rgt p.2.2.2.2.2.1 && (!decide (0 < cmpV p.2.2.2.2.1 p.2.2.2.2.2.1) && knB p.2.2.2.2.2.2)))))
def PtR (p:TPt):Prop:=0≤p.2.2.2.2.1.2∧0≤p.2.2.2.2.2.1.2
theorem rpoint_eq {p:TPt} (h:PtR p):q1o_ (p,())=some (ptB p,()):=by
 show q59_ q2k_ p=_
 unfold q59_
 have K2:∀ b,q5a_ b p=if b=true then some (false,()) else some (knB p.2.2.2.2.2.2,()):=fun b=>by
  show q5f_ b p=_
  unfold q5f_
  rw [uknown_eq,Option.bind_some]
  rfl
 have K1f:q2k_ false p=some (rgt p.2.2.2.2.1 && (rgt p.2.2.2.2.2.1 && (!decide (0 < cmpV p.2.2.2.2.1 p.2.2.2.2.2.1) && knB p.2.2.2.2.2.2)),()):=by
  show q5d_ q5a_ false p=_
  unfold q5d_
  rw [if_neg (by decide),right_eq,Option.bind_some]
  dsimp only
  cases h1:rgt p.2.2.2.2.1 with
  | false=>rw [if_pos (by rfl),K2,if_pos (by rfl)]; rfl
  | true =>
   rw [if_neg (by decide),right_eq,Option.bind_some]
   dsimp only
   cases h2:rgt p.2.2.2.2.2.1 with
   | false=>rw [if_pos (by rfl),K2,if_pos (by rfl)]; rfl
   | true =>
    rw [if_neg (by decide),cmp_eq h1 h.1 h2 h.2,Option.bind_some,K2]
    dsimp only
    by_cases hc:0 < cmpV p.2.2.2.2.1 p.2.2.2.2.2.1
    ·rw [if_pos (q7_.2 hc),decide_eq_true hc]; rfl
    ·rw [if_neg (fun e=>hc (q7_.1 e)),decide_eq_false hc]; simp
 have K1t:q2k_ true p=some (false,()):=rfl
 rw [vname_eq,Option.bind_some]
 dsimp only
 unfold ptB
 cases hn:nameB p.1 with
 | false=>rw [if_pos (by rfl),K1t]; rfl
 | true =>
  rw [if_neg (by decide)]
  by_cases h1:p.2.1 < 0
  ·rw [if_pos (q1_.2 h1),K1t,decide_eq_false (by omega)]; rfl
  ·rw [if_neg (fun e=>h1 (q1_.1 e))]
   by_cases h2:64≤p.2.1
   ·rw [if_pos (ge_iff.2 h2),K1t,decide_eq_false (by omega)]; rfl
   ·rw [if_neg (fun e=>h2 (ge_iff.1 e)),decide_eq_true (show 0≤p.2.1∧p.2.1 < 64 by omega)]
    by_cases h3:p.2.2.1 < 0
    ·rw [if_pos (q1_.2 h3),K1t,decide_eq_false (by omega)]; rfl
    ·rw [if_neg (fun e=>h3 (q1_.1 e))]
     by_cases h4:6 < p.2.2.1
     ·rw [q7_.2 h4,K1t,decide_eq_false (by omega)]; rfl
     ·have:gt p.2.2.1 6=false:=by rw [gt_dec,decide_eq_false h4]
      rw [this,K1f,decide_eq_true (show 0≤p.2.2.1∧p.2.2.1≤6 by omega)]
      rfl
def devL:List TPt->List (List UInt8)->List Int->Bool
 | [],_,_=>true
 | p::q,N,A=>ptB p && (!decide (p.1 ∈ N) && (!decide (p.2.1 ∈ A) && devL q (p.1::N) (p.2.1::A)))
def devB (d:TDev):Bool:=nameB d.1 && (decide (d.2.length≤64) && devL d.2 [] [])
theorem Met.mem {kt:Ty} {o:List (Vl kt×Unit)} {N:Vl kt->Prop} (h:Met o N) {k:Vl kt} [Decidable (N k)]:isV .un (dget kt o k)=decide (N k):=by
 show (dget kt o k).isSome=_
 by_cases hn:N k
 ·rw [decide_eq_true hn,(h k).2 hn]
 ·rw [decide_eq_false hn]
  cases e:(dget kt o k).isSome with
  | false=>rfl
  | true=>exact absurd ((h k).1 e) hn
theorem Met.push {kt:Ty} (hk:∀ a b:Vl kt,keq kt a b=true ↔ a=b) {o:List (Vl kt×Unit)} {N:List (Vl kt)} (h:Met o (·∈ N)) (k:Vl kt):Met (dput kt o k ()) (·∈ k::N):=fun j=>by
 rw [(h.put hk k) j]
 simp only [List.mem_cons]
 constructor
 ·rintro (h | h)
  ·exact .inr h
  ·exact .inl h
 ·rintro (h | h)
  ·exact .inr h
  ·exact .inl h
theorem rdev_eq {d:TDev} (hr:∀ p ∈ d.2,PtR p) (hl:d.2.length≤1000000):q1i_ (d,())=some (devB d,()):=by
 have K1t:q1f_ true d=some (false,()):=rfl
 have K1f:q1f_ false d=some (devL d.2 [] [],()):=by
  show q3w_ d.2 (Int.ofNat d.2.length) 0 [] []=_
  rw [qm9_]
  refine (loop_go (xs:=d.2) (mk:=fun i (a:List (List UInt8×Unit)×List (Int×Unit))=>(d.2,Int.ofNat d.2.length,(i:Int),a.1,a.2))
   (body:=fun a p k=>(q1o_ (p,())).bind fun y=>if (!y.1)=true then some (false,()) else if isV .un (dget .str a.1 p.1)=true then some (false,()) else if isV .un (dget (.int .i64) a.2 p.2.1)=true then some (false,()) else k (dput .str a.1 p.1 (),dput (.int .i64) a.2 p.2.1 ()))
   (fin:=fun _=>some (true,())) ?_ ?_ d.2.length 0 ([],[]) _ (by omega) (by omega)).trans ?_
  ·intro self i a p hp
   have hi:=(List.getElem?_eq_some_iff.1 hp).1
   have K3:∀ (b:Bool) (o:zJ6) (o2:List (Int×Unit)),q2e_ (fun t20 t21 t22 o o_2=>self (t20,t21,t22,o,o_2)) d.2 (Int.ofNat d.2.length) (i:Int) b o o2=if b=true then some (false,()) else self (d.2,Int.ofNat d.2.length,((i + 1:Nat):Int),o,o2):=fun b o o2=>by
    show q3z_ _ d.2 (Int.ofNat d.2.length) (i:Int) b o o2=_
    unfold q3z_
    rw [q9_ (by omega)]
   rw [qcv_]
   unfold q1t_
   rw [if_pos (by rw [q1_,q0_]; omega),q4_ hp,Option.bind_some]
   simp only [K3]
   congr 1
   funext y
   cases y.1 with
   | false=>rfl
   | true =>
    simp only [Bool.not_true,Bool.not_not]
    cases isV .un (dget .str a.1 p.1) <;> cases isV .un (dget (.int .i64) a.2 p.2.1) <;> rfl
  ·intro self a
   rw [qcv_]
   unfold q1t_
   rw [if_neg (by rw [q1_,q0_]; omega)]
  ·rw [List.drop_zero]
   have key:∀ (q:List TPt) (o:zJ6) (o2:List (Int×Unit)) (N:List (List UInt8)) (A:List Int),(∀ p ∈ q,PtR p)->Met (kt:=.str) o (·∈ N)->Met (kt:=.int .i64) o2 (·∈ A) ->
     goL (fun (a:List (List UInt8×Unit)×List (Int×Unit)) (p:TPt) (k:List (List UInt8×Unit)×List (Int×Unit)->Option (As [.bool]))=>(q1o_ (p,())).bind fun y=>if (!y.1)=true then some (false,()) else if isV .un (dget .str a.1 p.1)=true then some (false,()) else if isV .un (dget (.int .i64) a.2 p.2.1)=true then some (false,()) else k (dput .str a.1 p.1 (),dput (.int .i64) a.2 p.2.1 ())) (fun _=>some (true,())) q (o,o2)=some (devL q N A,()):=by
    intro q
    induction q with
    | nil=>intro o o2 N A _ _ _; rfl
    | cons p q ih =>
     intro o o2 N A hq hN hA
     show ((q1o_ (p,())).bind fun y=>if (!y.1)=true then some (false,()) else if isV .un (dget .str o p.1)=true then some (false,()) else if isV .un (dget (.int .i64) o2 p.2.1)=true then some (false,()) else goL _ _ q (dput .str o p.1 (),dput (.int .i64) o2 p.2.1 ()))=_
     rw [rpoint_eq (hq p (by simp)),Option.bind_some,hN.mem,hA.mem,ih _ _ _ _ (fun x hx=>hq x (List.mem_cons_of_mem _ hx)) (hN.push keqS p.1) (hA.push keqI p.2.1)]
     rw [devL]
     dsimp only
     cases ptB p with
     | false=>rfl
     | true =>
      by_cases h1:p.1 ∈ N
      ·rw [if_neg (by decide),if_pos (decide_eq_true h1),decide_eq_true h1]; rfl
      ·rw [if_neg (by decide),if_neg (by simp [h1]),decide_eq_false h1]
       by_cases h2:p.2.1 ∈ A
       ·rw [if_pos (decide_eq_true h2),decide_eq_true h2]; rfl
       ·rw [if_neg (by simp [h2]),decide_eq_false h2]; simp
   exact key d.2 [] [] [] [] hr (fun k=>by simp [dget]) (fun k=>by simp [dget])
 show q3x_ q1f_ d=_
 unfold q3x_
 rw [vname_eq,Option.bind_some]
 dsimp only
 unfold devB
 cases nameB d.1 with
 | false=>rw [if_pos (by rfl),K1t]; rfl
 | true =>
  rw [if_neg (by decide)]
  have e:gt (Int.ofNat d.2.length) 64=!decide (d.2.length≤64):=gtn (k:=64)
  rw [e]
  by_cases h:d.2.length≤64
  ·rw [decide_eq_true h]
   show q1f_ false d=_
   rw [K1f]
   simp
  ·rw [decide_eq_false h]
   show q1f_ true d=_
   rw [K1t]
   rfl
def tabL:TTab->List (List UInt8)->Bool
 | [],_=>true
 | d::q,N=>devB d && (!decide (d.1 ∈ N) && tabL q (d.1::N))
def tabB (t:TTab):Bool:=decide (1≤t.length) && (decide (t.length≤8) && tabL t [])
def TabR (t:TTab):Prop:=t.length≤1000∧∀ d ∈ t,d.2.length≤1000∧∀ p ∈ d.2,PtR p
theorem right15_eq {t:TTab} (h:TabR t):qcw_ (t,())=some (tabB t,()):=by
 have hl:=h.1
 have K1t:q2w_ t true=some (false,()):=rfl
 have K1f:q2w_ t false=some (tabL t [],()):=by
  show qcq_ t (Int.ofNat t.length) 0 []=_
  rw [qsl_]
  refine (loop_go (xs:=t) (mk:=fun i (a:zJ6)=>(t,Int.ofNat t.length,(i:Int),a))
   (body:=fun a d k=>(q1i_ (d,())).bind fun y=>if (!y.1)=true then some (false,()) else if isV .un (dget .str a d.1)=true then some (false,()) else k (dput .str a d.1 ()))
   (fin:=fun _=>some (true,())) ?_ ?_ t.length 0 [] _ (by omega) (by omega)).trans ?_
  ·intro self i a d hd
   have hi:=(List.getElem?_eq_some_iff.1 hd).1
   have K3:∀ (b:Bool) (o:zJ6),q8b_ (fun t15 t16 t17 o=>self (t15,t16,t17,o)) t (Int.ofNat t.length) (i:Int) b o=if b=true then some (false,()) else self (t,Int.ofNat t.length,((i + 1:Nat):Int),o):=fun b o=>by
    show qaz_ _ t (Int.ofNat t.length) (i:Int) b o=_
    unfold qaz_
    rw [q9_ (by omega)]
   rw [ql4_]
   unfold q47_
   rw [if_pos (by rw [q1_,q0_]; omega),q4_ hd,Option.bind_some]
   simp only [K3]
   congr 1
   funext y
   cases y.1 with
   | false=>rfl
   | true =>
    simp only [Bool.not_true,Bool.not_not]
    cases isV .un (dget .str a d.1) <;> rfl
  ·intro self a
   rw [ql4_]
   unfold q47_
   rw [if_neg (by rw [q1_,q0_]; omega)]
  ·rw [List.drop_zero]
   have key:∀ (q:TTab) (o:zJ6) (N:List (List UInt8)),(∀ d ∈ q,d.2.length≤1000∧∀ p ∈ d.2,PtR p)->Met (kt:=.str) o (·∈ N) ->
     goL (fun (a:zJ6) (d:TDev) (k:List (List UInt8×Unit)->Option (As [.bool]))=>(q1i_ (d,())).bind fun y=>if (!y.1)=true then some (false,()) else if isV .un (dget .str a d.1)=true then some (false,()) else k (dput .str a d.1 ())) (fun _=>some (true,())) q o=some (tabL q N,()):=by
    intro q
    induction q with
    | nil=>intro o N _ _; rfl
    | cons d q ih =>
     intro o N hq hN
     show ((q1i_ (d,())).bind fun y=>if (!y.1)=true then some (false,()) else if isV .un (dget .str o d.1)=true then some (false,()) else goL _ _ q (dput .str o d.1 ()))=_
     have hd:=hq d (by simp)
     rw [rdev_eq hd.2 (by omega),Option.bind_some,hN.mem,ih _ _ (fun x hx=>hq x (List.mem_cons_of_mem _ hx)) (hN.push keqS d.1)]
     rw [tabL]
     dsimp only
     cases devB d with
     | false=>rfl
     | true =>
      by_cases h1:d.1 ∈ N
      ·rw [if_neg (by decide),if_pos (decide_eq_true h1),decide_eq_true h1]; rfl
      ·rw [if_neg (by decide),if_neg (by simp [h1]),decide_eq_false h1]; simp
   exact key t [] [] h.2 (fun k=>by simp [dget])
 show qby_ q2w_ t=_
 unfold qby_ tabB
 by_cases h1:1≤t.length
 ·rw [if_neg (by rw [q1_,q0_]; omega),decide_eq_true h1]
  have e:gt (Int.ofNat t.length) 8=!decide (t.length≤8):=gtn (k:=8)
  rw [e]
  by_cases h8:t.length≤8
  ·rw [decide_eq_true h8]
   show q2w_ t false=_
   rw [K1f]
   simp
  ·rw [decide_eq_false h8]
   show q2w_ t true=_
   rw [K1t]
   rfl
 ·rw [if_pos (by rw [q1_,q0_]; omega),K1t,decide_eq_false h1]; rfl
end Go.Proofs.Lx
end
section
set_option maxRecDepth 100000
namespace Go.Proofs.Lx
open Go Ev Sx Pl
def toS (d:DecI) (f t:List UInt8):DecI×Bool:=((q3n_ (d,f,t,())).map fun y=>(y.1,y.2.1)).getD ((0,0),false)
theorem to_eq {d:DecI} (h0:0≤d.2) (f t:List UInt8):q3n_ (d,f,t,())=some ((toS d f t).1,(toS d f t).2,())∧((toS d f t).2=true->rgt (toS d f t).1=true∧0≤(toS d f t).1.2):=by
 obtain ⟨r,h1,h2⟩:=to_tot h0 f t
 unfold toS
 rw [h1]
 exact ⟨rfl,h2⟩
def wdT (d:DecI) (digits:Int) (signed:Bool):Int×Bool:=((q61_ (d,digits,signed,())).map fun y=>(y.1,y.2.1)).getD (0,false)
theorem wd_total {d:DecI} (h0:0≤d.2) (digits:Int) (signed:Bool):q61_ (d,digits,signed,())=some ((wdT d digits signed).1,(wdT d digits signed).2,()):=by
 obtain ⟨r,h1,_⟩:=word_same h0 digits signed
 unfold wdT
 rw [h1]
 rfl
def wrdS (p:TPt) (s:TSet):Int×Int :=
 if (toS s.2.1 s.2.2.1 p.2.2.2.2.2.2).2=true then
  if cmpV (toS s.2.1 s.2.2.1 p.2.2.2.2.2.2).1 p.2.2.2.2.1 < 0∨0 < cmpV (toS s.2.1 s.2.2.1 p.2.2.2.2.2.2).1 p.2.2.2.2.2.1 then (0,153)
  else if (wdT (toS s.2.1 s.2.2.1 p.2.2.2.2.2.2).1 p.2.2.1 p.2.2.2.1).2=true then ((wdT (toS s.2.1 s.2.2.1 p.2.2.2.2.2.2).1 p.2.2.1 p.2.2.2.1).1,0) else (0,153)
 else (0,152)
theorem vword_eq {p:TPt} {s:TSet} (hp:PtR p) (hl:rgt p.2.2.2.2.1=true) (hh:rgt p.2.2.2.2.2.1=true) (hs:0≤s.2.1.2):q13_ (p,s,())=some ((wrdS p s).1,(wrdS p s).2,()):=by
 show qde_ qe3_ p s=_
 unfold qde_ wrdS
 obtain ⟨h1,h2⟩:=to_eq hs s.2.2.1 p.2.2.2.2.2.2
 rw [h1,Option.bind_some]
 dsimp only
 cases hb:(toS s.2.1 s.2.2.1 p.2.2.2.2.2.2).2 with
 | false=>rfl
 | true =>
  obtain ⟨h3,h4⟩:=h2 hb
  rw [if_neg (by decide),if_pos rfl,cmp_eq h3 h4 hl hp.1,Option.bind_some]
  have K1:∀ b,qe3_ b p (toS s.2.1 s.2.2.1 p.2.2.2.2.2.2).1=if b=true then some (0,153,()) else if (!(wdT (toS s.2.1 s.2.2.1 p.2.2.2.2.2.2).1 p.2.2.1 p.2.2.2.1).2)=true then some (0,153,()) else some ((wdT (toS s.2.1 s.2.2.1 p.2.2.2.2.2.2).1 p.2.2.1 p.2.2.2.1).1,0,()):=fun b=>by
   show qd7_ b p _=_
   unfold qd7_
   rw [wd_total h4,Option.bind_some]
  simp only [K1]
  by_cases c1:cmpV (toS s.2.1 s.2.2.1 p.2.2.2.2.2.2).1 p.2.2.2.2.1 < 0
  ·rw [if_pos (q1_.2 c1),if_pos trivial,if_pos (.inl c1)]
  ·rw [if_neg (fun e=>c1 (q1_.1 e)),cmp_eq h3 h4 hh hp.2,Option.bind_some]
   dsimp only
   by_cases c2:0 < cmpV (toS s.2.1 s.2.2.1 p.2.2.2.2.2.2).1 p.2.2.2.2.2.1
   ·rw [if_pos (q7_.2 c2),if_pos (.inr c2)]
   ·rw [if_neg (fun e=>c2 (q7_.1 e)),if_neg (show ¬ (_∨_) from fun e=>e.elim c1 c2)]
    cases (wdT (toS s.2.1 s.2.2.1 p.2.2.2.2.2.2).1 p.2.2.1 p.2.2.2.1).2 <;> rfl
theorem wrd_err (p:TPt) (s:TSet):(wrdS p s).2=0∨(wrdS p s).2=152∨(wrdS p s).2=153:=by
 unfold wrdS
 split
 ·split
  ·simp
  ·split <;> simp
 ·simp
def setsS (d:TDev):List TSet->List (List UInt8)->Option (Int×Int)
 | [],_=>none
 | s::q,N=>match srch (fun p=>eqs p.1 s.1) d.2 0 with
  | none=>some (151,s.2.2.2)
  | some z=>if s.1 ∈ N then some (151,s.2.2.2) else if (wrdS z.2 s).2=0 then setsS d q (s.1::N) else some ((wrdS z.2 s).2,s.2.2.2)
def partsS (t:TTab):List TPart->List (List UInt8)->Option (Int×Int)
 | [],_=>none
 | p::q,N=>match srch (fun d=>eqs d.1 p.1) t 0 with
  | none=>some (150,p.2.1)
  | some z=>if p.1 ∈ N then some (150,p.2.1) else match setsS z.2 p.2.2 [] with
   | some f=>some f
   | none=>partsS t q (p.1::N)
def checkS (t:TTab) (r:TRec):Int×Int:=if (tabB t && rightB r)=true then (partsS t r.2 []).getD (0,0) else (2,0)
def RecR (r:TRec):Prop:=r.2.length≤1000∧∀ p ∈ r.2,p.2.2.length≤1000∧∀ s ∈ p.2.2,0≤s.2.1.2
theorem devL_pt:∀ {q:List TPt} {N:List (List UInt8)} {A:List Int},devL q N A=true->∀ p ∈ q,ptB p=true
 | [],_,_,_,_,hp=>by cases hp
 | x::q,N,A,h,p,hp=>by
  rw [devL] at h
  simp only [Bool.and_eq_true] at h
  rcases List.mem_cons.1 hp with rfl | hp
  ·exact h.1
  ·exact devL_pt h.2.2.2 p hp
theorem tabL_dev:∀ {q:TTab} {N:List (List UInt8)},tabL q N=true->∀ d ∈ q,devB d=true
 | [],_,_,_,hp=>by cases hp
 | x::q,N,h,p,hp=>by
  rw [tabL] at h
  simp only [Bool.and_eq_true] at h
  rcases List.mem_cons.1 hp with rfl | hp
  ·exact h.1
  ·exact tabL_dev h.2.2 p hp
theorem dev_pt {d:TDev} (h:devB d=true):∀ p ∈ d.2,ptB p=true:=by
 unfold devB at h
 simp only [Bool.and_eq_true] at h
 exact devL_pt h.2.2
theorem ptB_rgt {p:TPt} (h:ptB p=true):rgt p.2.2.2.2.1=true∧rgt p.2.2.2.2.2.1=true:=by
 unfold ptB at h
 simp only [Bool.and_eq_true] at h
 exact ⟨h.2.2.2.1,h.2.2.2.2.1⟩
theorem srch_mem {α:Type} {p:α->Bool} {xs:List α} {i:Nat} {x:α} (h:srch p xs 0=some (i,x)):x ∈ xs∧xs[i]? = some x∧p x=true:=by
 obtain ⟨_,h2,h3,_⟩:=srch_some h
 rw [Nat.sub_zero] at h2
 exact ⟨List.mem_of_getElem? h2,h2,h3⟩
@[reducible] def zJ12:Type:=List (List UInt8×Unit)->Option (As [.pr (.int .i64) (.int .i64)])
theorem check_K4 {t:TTab} {d:TDev} {i:Nat} (hd:t[i]? = some d) (hdB:devB d=true) (hdl:d.2.length≤1000) (hdR:∀ p ∈ d.2,PtR p)
  (u2:TTab->List TPart->Int->Int->Int×Int->List (List UInt8×Unit)->Option (As [.pr (.int .i64) (.int .i64)])) (ps:List TPart) (n:Int) (k:Nat) (hk:k < 1000000) (ss:List TSet) (hss:ss.length≤1000) (hsR:∀ s ∈ ss,0≤s.2.1.2) (t4:Int×Int) (o:zJ6) :
  q7b_ u2 t (i:Int) ps n (k:Int) ss (Int.ofNat ss.length) 0 t4 o []=match setsS d ss [] with
   | some f=>some (f,())
   | none=>u2 t ps n ((k + 1:Nat):Int) t4 o:=by
 rw [qsk_]
 refine (loop_go (xs:=ss) (mk:=fun j (a:zJ6)=>(t,(i:Int),ps,n,(k:Int),ss,Int.ofNat ss.length,(j:Int),t4,o,a))
  (body:=fun a s kk=>(q34_ (d,s.1,())).bind fun y=>if (!y.2.1)=true then some ((151,s.2.2.2),()) else if isV .un (dget .str a s.1)=true then some ((151,s.2.2.2),()) else (q13_ (y.1,s,())).bind fun z=>if nei z.2.1 0=true then some ((z.2.1,s.2.2.2),()) else kk (dput .str a s.1 ()))
  (fin:=fun _=>u2 t ps n ((k + 1:Nat):Int) t4 o) ?_ ?_ ss.length 0 [] _ (by omega) (by omega)).trans ?_
 ·intro self j a s hs
  have hj:=(List.getElem?_eq_some_iff.1 hs).1
  have K6:∀ (b:Bool) (o2:zJ6) (p:TPt),qct_ u2 (fun t i t28 t29 t30 t55 t56 t57 t4 o o_2=>self (t,i,t28,t29,t30,t55,t56,t57,t4,o,o_2)) t (i:Int) ps n (k:Int) ss (Int.ofNat ss.length) (j:Int) b t4 o o2 s p =
    if b=true then some ((151,s.2.2.2),()) else (q13_ (p,s,())).bind fun z=>if nei z.2.1 0=true then some ((z.2.1,s.2.2.2),()) else self (t,(i:Int),ps,n,(k:Int),ss,Int.ofNat ss.length,((j + 1:Nat):Int),t4,o,o2):=fun b o2 p=>by
   show qco_ _ _ t (i:Int) ps n (k:Int) ss (Int.ofNat ss.length) (j:Int) b t4 o o2 s p=_
   unfold qco_
   rw [q9_ (by omega)]
  have K5:∀ (ok:Bool) (p:TPt),q7l_ u2 (fun t i t28 t29 t30 t55 t56 t57 t4 o o_2=>self (t,i,t28,t29,t30,t55,t56,t57,t4,o,o_2)) t (i:Int) ok ps n (k:Int) ss (Int.ofNat ss.length) (j:Int) t4 o a s p =
    if (!ok)=true then some ((151,s.2.2.2),()) else if isV .un (dget .str a s.1)=true then some ((151,s.2.2.2),()) else (q13_ (p,s,())).bind fun z=>if nei z.2.1 0=true then some ((z.2.1,s.2.2.2),()) else self (t,(i:Int),ps,n,(k:Int),ss,Int.ofNat ss.length,((j + 1:Nat):Int),t4,o,dput .str a s.1 ()):=fun ok p=>by
   show qbn_ (qct_ u2 _) _ _ t (i:Int) ok ps n (k:Int) ss (Int.ofNat ss.length) (j:Int) t4 o a s p=_
   unfold qbn_
   simp only [K6]
   cases ok with
   | false=>rfl
   | true =>
    simp only [Bool.not_true,Bool.not_not]
    cases isV .un (dget .str a s.1) <;> rfl
  rw [ql1_]
  unfold q4i_
  rw [if_pos (by rw [q1_,q0_]; omega),q4_ hs,Option.bind_some,q4_ hd,Option.bind_some,amb2 (eqAs_refl _)]
  simp only [K5]
 ·intro self a
  rw [ql1_]
  unfold q4i_
  rw [if_neg (by rw [q1_,q0_]; omega),q9_ (by omega)]
 ·rw [List.drop_zero]
  have key:∀ (q:List TSet) (a:zJ6) (N:List (List UInt8)),(∀ s ∈ q,0≤s.2.1.2)->Met (kt:=.str) a (·∈ N) ->
    goL (fun (a:zJ6) (s:TSet) (kk:zJ12)=>(q34_ (d,s.1,())).bind fun y=>if (!y.2.1)=true then some ((151,s.2.2.2),()) else if isV .un (dget .str a s.1)=true then some ((151,s.2.2.2),()) else (q13_ (y.1,s,())).bind fun z=>if nei z.2.1 0=true then some ((z.2.1,s.2.2.2),()) else kk (dput .str a s.1 ()))
     (fun _=>u2 t ps n ((k + 1:Nat):Int) t4 o) q a=match setsS d q N with
     | some f=>some (f,())
     | none=>u2 t ps n ((k + 1:Nat):Int) t4 o:=by
   intro q
   induction q with
   | nil=>intro a N _ _; rfl
   | cons s q ih =>
    intro a N hq hN
    show ((q34_ (d,s.1,())).bind fun y=>if (!y.2.1)=true then some ((151,s.2.2.2),()) else if isV .un (dget .str a s.1)=true then some ((151,s.2.2.2),()) else (q13_ (y.1,s,())).bind fun z=>if nei z.2.1 0=true then some ((z.2.1,s.2.2.2),()) else goL _ _ q (dput .str a s.1 ()))=_
    rw [point_eq (by omega),Option.bind_some,setsS,hN.mem,ih _ _ (fun x hx=>hq x (List.mem_cons_of_mem _ hx)) (hN.push keqS s.1)]
    cases hz:srch (fun p=>eqs p.1 s.1) d.2 0 with
    | none=>rfl
    | some z =>
     obtain ⟨z1,z2⟩:=z
     have hm:=(srch_mem hz).1
     have hr:=ptB_rgt (dev_pt hdB z2 hm)
     dsimp only
     rw [if_neg (by decide),vword_eq (hdR z2 hm) hr.1 hr.2 (hq s (by simp)),Option.bind_some]
     dsimp only
     by_cases h1:s.1 ∈ N
     ·rw [if_pos (decide_eq_true h1),if_pos h1]
     ·rw [if_neg (by simp [h1]),if_neg h1]
      by_cases h2:(wrdS z2 s).2=0
      ·rw [if_pos h2,if_neg (fun e=>qh_.1 e h2)]
      ·rw [if_neg h2,if_pos (qh_.2 h2)]
  exact key ss [] [] hsR (fun k=>by simp [dget])
theorem check_eq {t:TTab} {r:TRec} (ht:TabR t) (hr:RecR r):q99_ (t,r,())=some (checkS t r,()):=by
 have ht1:=ht.1
 have hr1:=hr.1
 have K1t:q2x_ t true r (0,0)=some ((2,0),()):=rfl
 have K1f:tabB t=true->q2x_ t false r (0,0)=some ((partsS t r.2 []).getD (0,0),()):=by
  intro hB
  have hdv:∀ d ∈ t,devB d=true:=by
   unfold tabB at hB
   simp only [Bool.and_eq_true] at hB
   exact tabL_dev hB.2.2
  show qbx_ t r.2 (Int.ofNat r.2.length) 0 (0,0) []=_
  rw [qsi_]
  refine (loop_go (xs:=r.2) (mk:=fun k (a:zJ6)=>(t,r.2,Int.ofNat r.2.length,(k:Int),((0,0):Int×Int),a))
   (body:=fun a p kk=>match srch (fun d=>eqs d.1 p.1) t 0 with
    | none=>some ((150,p.2.1),())
    | some z=>if isV .un (dget .str a p.1)=true then some ((150,p.2.1),()) else match setsS z.2 p.2.2 [] with
     | some f=>some (f,())
     | none=>kk (dput .str a p.1 ()))
   (fin:=fun _=>some ((0,0),())) ?_ ?_ r.2.length 0 [] _ (by omega) (by omega)).trans ?_
  ·intro self k a p hp
   have hk:=(List.getElem?_eq_some_iff.1 hp).1
   have hpm:=hr.2 p (List.mem_of_getElem? hp)
   rw [ql3_]
   unfold q4a_
   rw [if_pos (by rw [q1_,q0_]; omega),q4_ hp,Option.bind_some,find_eq (by omega),Option.bind_some]
   cases hz:srch (fun d=>eqs d.1 p.1) t 0 with
   | none=>rfl
   | some z =>
    obtain ⟨z1,z2⟩:=z
    obtain ⟨hm,hg,_⟩:=srch_mem hz
    have hd:=ht.2 z2 hm
    dsimp only
    rw [if_neg (by decide)]
    simp only [Bool.not_not]
    show qch_ (q7b_ _) _ t (z1:Int) r.2 (Int.ofNat r.2.length) (k:Int) _ (0,0) _ p=_
    unfold qch_
    rw [check_K4 hg (hdv z2 hm) hd.1 hd.2 _ r.2 _ k (by omega) p.2.2 hpm.1 hpm.2]
  ·intro self a
   rw [ql3_]
   unfold q4a_
   rw [if_neg (by rw [q1_,q0_]; omega)]
  ·rw [List.drop_zero]
   have key:∀ (q:List TPart) (a:zJ6) (N:List (List UInt8)),Met (kt:=.str) a (·∈ N) ->
     goL (fun (a:zJ6) (p:TPart) (kk:zJ12)=>match srch (fun d=>eqs d.1 p.1) t 0 with
      | none=>some ((150,p.2.1),())
      | some z=>if isV .un (dget .str a p.1)=true then some ((150,p.2.1),()) else match setsS z.2 p.2.2 [] with
       | some f=>some (f,())
       | none=>kk (dput .str a p.1 ())) (fun _=>some ((0,0),())) q a=some ((partsS t q N).getD (0,0),()):=by
    intro q
    induction q with
    | nil=>intro a N _; rfl
    | cons p q ih =>
     intro a N hN
     show (match srch (fun d=>eqs d.1 p.1) t 0 with
      | none=>some ((150,p.2.1),())
      | some z=>if isV .un (dget .str a p.1)=true then some ((150,p.2.1),()) else match setsS z.2 p.2.2 [] with
       | some f=>some (f,())
       | none=>goL _ _ q (dput .str a p.1 ()))=_
     rw [hN.mem,ih _ _ (hN.push keqS p.1),partsS]
     cases srch (fun d=>eqs d.1 p.1) t 0 with
     | none=>rfl
     | some z =>
      dsimp only
      by_cases h1:p.1 ∈ N
      ·rw [if_pos (decide_eq_true h1),if_pos h1]; rfl
      ·rw [if_neg (by simp [h1]),if_neg h1]
       cases setsS z.2 p.2.2 [] <;> rfl
   exact key r.2 [] [] (fun k=>by simp [dget])
 show qcf_ q2x_ t r=_
 unfold qcf_ checkS
 rw [right15_eq ht,Option.bind_some]
 dsimp only
 cases hB:tabB t with
 | false=>rw [if_pos (by rfl),K1t]; rfl
 | true =>
  rw [if_neg (by decide),right_eq' (by omega) (fun p hp=>by have:=(hr.2 p hp).1; omega),Option.bind_some]
  dsimp only
  cases rightB r with
  | false=>show q2x_ t true r (0,0)=_; rw [K1t]; rfl
  | true=>show q2x_ t false r (0,0)=_; rw [K1f hB]; rfl
end Go.Proofs.Lx
end
section
set_option maxRecDepth 100000
namespace Go.Proofs.Lx
open Go Ev Sx Pl
theorem loop_rel {σ R:Type} {F:(σ->Option R)->σ->Option R} {Inv:σ->Prop} {μ:σ->Nat} {Q:Option R->Prop}
  (step:∀ self s,Inv s->(∀ s',Inv s'->μ s' < μ s->Q (self s'))->Q (F self s)):∀ (n:Nat) (s:σ),Inv s->μ s < n->Q (loopF F n s)
 | 0,_,_,h=>by omega
 | n + 1,s,hs,h=>by
  rw [q5_]
  exact step _ s hs fun s' hs' hlt=>loop_rel step n s' hs' (by omega)
abbrev TTok:=Int×List UInt8×(Int×Int)×Int
abbrev RLex:=List TTok×(Int×Int)×Unit
abbrev ULex:=List UInt8->Int->Bool->Int->Int->Int->List TTok->Option RLex
def wordB (s:List UInt8):Bool:=decide (s.length≤20) && match s with
 | []=>false
 | c::q=>w1 c.toNat && q.all fun c=>wm c.toNat
theorem letter_eq (c:UInt8):q7o_ (Int.ofNat c.toNat,())=some (w1 c.toNat,()):=tab (f:=q7o_) (g:=w1) (by rfl) c
theorem digit_eq (c:UInt8):q70_ (Int.ofNat c.toNat,())=some (isD c.toNat,()):=tab (f:=q70_) (g:=isD) (by rfl) c
theorem goes1_eq (c:UInt8):q66_ (1,Int.ofNat c.toNat,())=some (wm c.toNat,()):=tab (f:=fun x=>q66_ (1,x.1,())) (g:=wm) (by rfl) c
def nmG (n:Nat):Bool:=isD n || n == 46 || n == 45
theorem goes2_eq (c:UInt8):q66_ (2,Int.ofNat c.toNat,())=some (nmG c.toNat,()):=tab (f:=fun x=>q66_ (2,x.1,())) (g:=nmG) (by rfl) c
def goG (k:Int) (n:Nat):Bool:=if k=1 then wm n else nmG n
theorem goes_eq {k:Int} (hk:k=1∨k=2) (c:UInt8):q66_ (k,Int.ofNat c.toNat,())=some (goG k c.toNat,()):=by
 rcases hk with rfl | rfl
 ·exact goes1_eq c
 ·exact goes2_eq c
theorem cut1 {s:List UInt8} {i:Nat} {c:UInt8} (h:s[i]? = some c):cut s (i:Int) ((i + 1:Nat):Int)=some [c]:=by
 obtain ⟨hi,h⟩:=List.getElem?_eq_some_iff.1 h
 rw [cut_nat (by omega) (by omega),List.drop_take,List.drop_eq_getElem_cons hi,h,show i + 1 - i=1 by omega]
 rfl
def MoreQ (u1:ULex) (text:List UInt8) (line:Int) (out:List TTok) (k n:Int) (t0:List UInt8) (i0:Nat) (r:Option RLex):Prop :=
 ∃ (j:Nat) (w:List UInt8),i0≤j∧j < text.length∧(k ≠ 3->w.all (fun c=>goG k c.toNat)=true)∧(t0++w).length≤j + 1 ∧
  r=q3o_ u1 text line (j:Int) 0 0 out k (t0++w) 0 0 n ∧
  (k ≠ 3->(text.drop (i0 + 1)).all (fun c=>goG k c.toNat)=true->w=text.drop (i0 + 1)∧j + 1=text.length)
theorem more_eq (u1:ULex) (text:List UInt8) (hl:text.length < 1000000) (line:Int) (out:List TTok) (k:Int) (hk:k=1∨k=2∨k=3) (n:Int) (t0:List UInt8) (i0:Nat) (hi0:i0 < text.length) (ht:t0.length≤i0 + 1) :
  MoreQ u1 text line out k n t0 i0 (q8s_ u1 text line (i0:Int) 0 0 out k t0 0 0 n):=by
 unfold q8s_
 refine loop_rel (Inv:=fun s=>∃ (i:Nat) (w:List UInt8),s=(text,line,(i:Int),0,0,out,k,t0++w,0,0,n)∧i0≤i∧i < text.length∧(k ≠ 3->w.all (fun c=>goG k c.toNat)=true)∧(t0++w).length≤i + 1∧w=(text.drop (i0 + 1)).take (i - i0))
  (μ:=fun s=>(text.length:Nat) - s.2.2.1.toNat) ?_ _ _ ⟨i0,[],by simp,by omega,hi0,fun _=>rfl,by simp_all,by simp⟩ (by omega)
 rintro self s ⟨i,w,rfl,h1,h2,h3,h4,h5⟩ ih
 dsimp only at ih ⊢
 have K13f:∀ sf,qew_ u1 sf text line (i:Int) false 0 0 out k (t0++w) 0 0 n=q3o_ u1 text line (i:Int) 0 0 out k (t0++w) 0 0 n:=fun _=>rfl
 have K13t:∀ sf,qew_ u1 sf text line (i:Int) true 0 0 out k (t0++w) 0 0 n=(cut text (add .i64 (i:Int) 1) (add .i64 (add .i64 (i:Int) 1) 1)).bind fun y=>need (small (List.length (t0++w) + List.length y)) (sf text line (add .i64 (i:Int) 1) 0 0 out k (t0++w++y) 0 0 n):=fun _=>rfl
 unfold qjp_
 simp only [K13f]
 rw [q9_ (by omega)]
 have stop:(k ≠ 3->(text.drop (i0 + 1)).all (fun c=>goG k c.toNat)=true->w=text.drop (i0 + 1)∧i + 1=text.length)->MoreQ u1 text line out k n t0 i0 (q3o_ u1 text line (i:Int) 0 0 out k (t0++w) 0 0 n):=fun h=>⟨i,w,h1,h2,h3,h4,rfl,h⟩
 by_cases h3k:k=3
 ·rw [if_neg (fun e=>qh_.1 e h3k)]
  grind
 ·have hk':k=1∨k=2:=by omega
  rw [if_pos (qh_.2 h3k)]
  by_cases hlt:i + 1 < text.length
  ·have hc:text[i + 1]? = some text[i + 1]:=List.getElem?_eq_getElem hlt
   generalize text[i + 1]=c at hc
   rw [if_pos (by grind [q1_,q0_]),q4_ hc,Option.bind_some,goes_eq hk',Option.bind_some]
   dsimp only
   have hd:(text.drop (i0 + 1))[i - i0]? = some c:=by grind
   cases hw:goG k c.toNat with
   | false =>
    grind
   | true =>
    rw [K13t,q9_ (by omega),q9_ (by omega),cut1 hc,Option.bind_some,q1v_ (by grind),List.append_assoc]
    refine ih (text,line,((i + 1:Nat):Int),0,0,out,k,t0++(w++[c]),0,0,n) ⟨i + 1,w++[c],rfl,by omega,hlt,fun _=>by grind,by grind,?_⟩ (by grind)
    rw [show i + 1 - i0=(i - i0) + 1 by omega,List.take_add_one,hd,h5]
    rfl
  ·rw [if_neg (by grind [q1_,q0_])]
   grind [List.take_of_length_le,List.length_drop]
theorem com_eq (u1:ULex) (text:List UInt8) (hl:text.length < 1000000) (line:Int) (sm:Bool) (out:List TTok) (i0:Nat) (hi0:i0 < text.length) :
  ∃ j:Nat,i0≤j∧j < text.length∧q56_ u1 text line sm (i0:Int) 0 0 out=u1 text line sm ((j + 1:Nat):Int) 0 0 out:=by
 unfold q56_
 refine loop_rel (Inv:=fun s=>∃ i:Nat,s=(text,line,sm,(i:Int),0,0,out)∧i0≤i∧i < text.length)
  (Q:=fun r=>∃ j:Nat,i0≤j∧j < text.length∧r=u1 text line sm ((j + 1:Nat):Int) 0 0 out) (μ:=fun s=>(text.length:Nat) - s.2.2.2.1.toNat) ?_ _ _ ⟨i0,rfl,by omega,hi0⟩ (by omega)
 rintro self s ⟨i,rfl,h1,h2⟩ ih
 dsimp only at ih ⊢
 have K8f:∀ sf,qgh_ u1 sf text line sm (i:Int) false 0 0 out=u1 text line sm (add .i64 (i:Int) 1) 0 0 out:=fun _=>rfl
 have K8t:∀ sf,qgh_ u1 sf text line sm (i:Int) true 0 0 out=sf text line sm (add .i64 (i:Int) 1) 0 0 out:=fun _=>rfl
 unfold qll_
 simp only [K8f]
 rw [q9_ (by omega)]
 by_cases hlt:i + 1 < text.length
 ·have hc:text[i + 1]? = some text[i + 1]:=List.getElem?_eq_getElem hlt
  generalize text[i + 1]=c at hc
  rw [if_pos (by grind [q1_,q0_]),q4_ hc,Option.bind_some]
  cases nei (Int.ofNat c.toNat) 10 with
  | false=>grind [q9_]
  | true =>
   rw [K8t,q9_ (by omega)]
   exact ih (text,line,sm,((i + 1:Nat):Int),0,0,out) ⟨i + 1,rfl,by omega,hlt⟩ (by grind)
 ·rw [if_neg (by grind [q1_,q0_])]
  grind
def TokOk (out:List TTok):Prop:=∀ t ∈ out,t.1=1->wordB t.2.1=true
def LexQ (r:Option RLex):Prop:=∃ l f,r=some (l,f,())∧TokOk l
theorem TokOk.push {out:List TTok} (h:TokOk out) {t:TTok} (ht:t.1=1->wordB t.2.1=true):TokOk (out++[t]):=fun x hx=>by
 rcases List.mem_append.1 hx with hx | hx
 ·exact h x hx
 simp_all
theorem tok_end (u1:ULex) (text:List UInt8) (line:Int) (j:Nat) (hj:j < 1000000) (out:List TTok) (ho:out.length≤1000000) (k:Int) (T:List UInt8) (hT:T.length < 1000000) (n:Int) :
  ((∃ e,q3o_ u1 text line (j:Int) 0 0 out k T 0 0 n=some ([],e,()))∧(k=1->20 < T.length)) ∨
  ((k=1->T.length≤20)∧∃ d,q3o_ u1 text line (j:Int) 0 0 out k T 0 0 n=u1 text line true ((j + 1:Nat):Int) 0 0 (out++[(k,T,d,n)])):=by
 have K16:∀ a b,q8q_ u1 text line (j:Int) 0 0 out k T a b n=u1 text line true ((j + 1:Nat):Int) 0 0 (out++[(k,T,(a,b),n)]):=fun a b=>by
  show need (small (out.length + 1)) (u1 text line true (add .i64 (j:Int) 1) 0 0 _)=_
  grind [q1v_,q9_]
 have K15t:q3h_ u1 text line (j:Int) true 0 0 out k T 0 0 n=some ([],(133,line),()):=rfl
 have K15f:((∃ e,q3h_ u1 text line (j:Int) false 0 0 out k T 0 0 n=some ([],e,()))∧k ≠ 1)∨∃ d,q3h_ u1 text line (j:Int) false 0 0 out k T 0 0 n=u1 text line true ((j + 1:Nat):Int) 0 0 (out++[(k,T,d,n)]):=by
  show ((∃ e,q95_ (q8q_ u1) _ text line (j:Int) false 0 0 out k T 0 0 n=some ([],e,()))∧_)∨∃ d,q95_ (q8q_ u1) _ text line (j:Int) false 0 0 out k T 0 0 n=_
  unfold q95_
  rw [if_neg (by decide),refParse_eq hT,Option.bind_some]
  simp only [K16]
  by_cases h2:eqi k 2=true
  ·rw [if_pos h2]
   cases (parseS T).2 with
   | true=>grind
   | false=>exact .inl ⟨⟨_,rfl⟩,fun e=>by rw [e] at h2; exact absurd h2 (by decide)⟩
  grind
 show ((∃ e,q8y_ (q3h_ u1) _ text line (j:Int) 0 0 out k T 0 0 n=some ([],e,()))∧_)∨(_∧∃ d,q8y_ (q3h_ u1) _ text line (j:Int) 0 0 out k T 0 0 n=_)
 unfold q8y_
 by_cases h1:k=1
 ·have e20:gt (Int.ofNat T.length) 20=!decide (T.length≤20):=gtn (k:=20)
  rw [if_pos (qb_.2 h1),e20]
  grind
 simp_all [if_neg,qb_,absurd]
theorem tok_all (u1:ULex) {text:List UInt8} (hl:text.length < 100000) (line:Int) {out:List TTok} (ho:out.length≤1000000) {k:Int} (hk:k=1∨k=2∨k=3) {i:Nat} {c:UInt8} (hc:text[i]? = some c) (hw:k=1->w1 c.toNat=true) :
  ((∃ e,qs_ u1 text line (i:Int) 0 0 out k [] 0 0 line=some ([],e,()))∧(k=1->(text.drop (i + 1)).all (fun c=>wm c.toNat)=true->20 < (text.drop i).length)) ∨
  ∃ (j:Nat) (T:List UInt8) (d:Int×Int),i≤j∧j < text.length∧(k=1->wordB T=true)∧qs_ u1 text line (i:Int) 0 0 out k [] 0 0 line=u1 text line true ((j + 1:Nat):Int) 0 0 (out++[(k,T,d,line)]) ∧
   (k=1->(text.drop (i + 1)).all (fun c=>wm c.toNat)=true->T=text.drop i∧j + 1=text.length):=by
 obtain ⟨hi,hx⟩:=List.getElem?_eq_some_iff.1 hc
 have K10:qs_ u1 text line (i:Int) 0 0 out k [] 0 0 line=q8s_ u1 text line (i:Int) 0 0 out k [c] 0 0 line:=by
  show (cut text (i:Int) (add .i64 (i:Int) 1)).bind _=_
  rw [q9_ (by omega),cut1 hc]
  rfl
 obtain ⟨j,w,h1,h2,h3,h4,h5,h6⟩:=more_eq u1 text (by omega) line out k hk line [c] i hi (by simp)
 have hd:text.drop i=[c]++text.drop (i + 1):=by simp_all [List.drop_eq_getElem_cons]
 rw [K10,h5]
 rcases tok_end u1 text line j (by omega) out ho k ([c]++w) (by omega) line with ⟨h,h'⟩ | ⟨h,d,h'⟩
 ·refine .inl ⟨h,fun h1 ha=>?_⟩
  subst h1
  have:=(h6 (by decide) ha).1
  simp_all
 ·refine .inr ⟨j,[c]++w,d,h1,h2,fun e=>?_,h',fun e ha=>?_⟩
  ·subst e
   unfold wordB
   rw [decide_eq_true (h rfl)]
   show (true && (w1 c.toNat && w.all fun c=>wm c.toNat))=true
   rw [hw rfl]
   exact h3 (by decide)
  ·subst e
   obtain ⟨e1,e2⟩:=h6 (by decide) ha
   simp_all
theorem q16g_ (u1:ULex) {text:List UInt8} (hl:text.length < 100000) (line:Int) (sm:Bool) {out:List TTok} (ho:out.length≤300000) (hO:TokOk out) {i:Nat} (hi:i≤text.length) {r:Option RLex}
  (hr:r=q1z_ (q4s_ u1) q7k_ u1 text line sm (i:Int) 0 0 out) :
  (∃ e,r=some ([],e,()))∨∃ (j:Nat) (line':Int) (sm':Bool) (out':List TTok),i < j∧j≤text.length + 1∧out'.length≤out.length + 1∧TokOk out'∧r=u1 text line' sm' (j:Int) 0 0 out':=by
 subst hr
 have K4:∀ o,q4v_ u1 text line (i:Int) 0 0 o=u1 text (add .i64 line 1) false ((i + 1:Nat):Int) 0 0 o:=fun o=>by
  show u1 text (add .i64 line 1) false (add .i64 (i:Int) 1) 0 0 o=_
  grind [q9_]
 have K2t:∃ o,o.length≤out.length + 1∧TokOk o∧q4s_ u1 text line sm (i:Int) true 0 0 out=u1 text (add .i64 line 1) false ((i + 1:Nat):Int) 0 0 o:=by
  cases sm with
  | true =>
   refine ⟨out++[(4,[],(0,0),line)],by simp,hO.push (fun h=>absurd (show (4:Int)=1 from h) (by decide)),?_⟩
   show need (small (out.length + 1)) (q4v_ u1 text line (i:Int) 0 0 _)=_
   grind [q1v_]
  | false=>exact ⟨out,by omega,hO,K4 out⟩
 unfold q1z_
 rw [if_pos (by grind [le_iff,q0_])]
 by_cases he:i=text.length
 ·rw [if_pos (by grind [qb_,q0_])]
  obtain ⟨o,h1,h2,h3⟩:=K2t
  exact .inr ⟨i + 1,_,_,o,by omega,by omega,h1,h2,h3⟩
 ·have hlt:i < text.length:=by omega
  have hc:text[i]? = some text[i]:=List.getElem?_eq_getElem hlt
  generalize text[i]=c at hc
  rw [if_neg (by grind [qb_,q0_]),q4_ hc,Option.bind_some]
  cases eqi (Int.ofNat c.toNat) 10 with
  | true =>
   obtain ⟨o,h1,h2,h3⟩:=K2t
   exact .inr ⟨i + 1,_,_,o,by omega,by omega,h1,h2,h3⟩
  | false =>
   show (∃ e,q4x_ (q4v_ u1) (q56_ u1) (qa6_ u1) u1 text line sm (i:Int) false 0 0 out=_)∨∃ (j:Nat) (line':Int) (sm':Bool) (out':List TTok),i < j∧j≤text.length + 1∧out'.length≤out.length + 1∧TokOk out'∧q4x_ (q4v_ u1) (q56_ u1) (qa6_ u1) u1 text line sm (i:Int) false 0 0 out=_
   unfold q4x_
   rw [if_neg (by decide),q4_ hc,Option.bind_some]
   by_cases h35:eqi (Int.ofNat c.toNat) 35=true
   ·rw [if_pos h35]
    obtain ⟨j,h1,h2,h3⟩:=com_eq u1 text (by omega) line sm out i hlt
    exact .inr ⟨j + 1,line,sm,out,by omega,by omega,by omega,hO,h3⟩
   ·rw [if_neg h35]
    have tk:∀ k,(k=1∨k=2∨k=3)->(k=1->w1 c.toNat=true)->(∃ e,qs_ u1 text line (i:Int) 0 0 out k [] 0 0 line=some ([],e,()))∨∃ (j:Nat) (line':Int) (sm':Bool) (out':List TTok),i < j∧j≤text.length + 1∧out'.length≤out.length + 1∧TokOk out'∧qs_ u1 text line (i:Int) 0 0 out k [] 0 0 line=u1 text line' sm' (j:Int) 0 0 out':=fun k hk hw=>by
     rcases tok_all u1 hl line (show out.length≤1000000 by omega) hk hc hw with h | ⟨j,T,d,h1,h2,h3,h4,_⟩
     ·simp_all
     ·exact .inr ⟨j + 1,line,true,out++[(k,T,d,line)],by omega,by omega,by simp,hO.push h3,h4⟩
    have K9:∀ b,(∃ e,q2b_ u1 text line sm (i:Int) (Int.ofNat c.toNat) b 0 0 out=some ([],e,()))∨∃ (j:Nat) (line':Int) (sm':Bool) (out':List TTok),i < j∧j≤text.length + 1∧out'.length≤out.length + 1∧TokOk out'∧q2b_ u1 text line sm (i:Int) (Int.ofNat c.toNat) b 0 0 out=u1 text line' sm' (j:Int) 0 0 out':=fun b=>by
     cases b with
     | true=>exact .inr ⟨i + 1,line,sm,out,by omega,by omega,by omega,hO,by rw [<- q9_ (by omega)]; rfl⟩
     | false =>
      have e9:q2b_ u1 text line sm (i:Int) (Int.ofNat c.toNat) false 0 0 out=if w1 c.toNat=true then qs_ u1 text line (i:Int) 0 0 out 1 [] 0 0 line else if (isD c.toNat || eqi (Int.ofNat c.toNat) 45)=true then qs_ u1 text line (i:Int) 0 0 out 2 [] 0 0 line else if eqi (Int.ofNat c.toNat) 61=true then qs_ u1 text line (i:Int) 0 0 out 3 [] 0 0 line else some ([],(131,line),()):=by
       show q7s_ (q4y_ u1) (qs_ u1) (qdn_ u1) u1 text line sm (i:Int) (Int.ofNat c.toNat) false 0 0 out=_
       unfold q7s_
       rw [if_neg (by decide),letter_eq,Option.bind_some,digit_eq,Option.bind_some]
       cases w1 c.toNat <;> cases isD c.toNat <;> cases eqi (Int.ofNat c.toNat) 45 <;> rfl
      rw [e9]
      split
      ·simp_all
      ·split
       ·simp_all
       ·split
        ·simp_all
        simp
    show (∃ e,q4w_ (q2b_ u1) u1 text line sm (i:Int) (Int.ofNat c.toNat) 0 0 out=_)∨∃ (j:Nat) (line':Int) (sm':Bool) (out':List TTok),i < j∧j≤text.length + 1∧out'.length≤out.length + 1∧TokOk out'∧q4w_ (q2b_ u1) u1 text line sm (i:Int) (Int.ofNat c.toNat) 0 0 out=_
    unfold q4w_
    split
    ·simp_all
    ·split
     ·simp_all
     ·exact K9 _
theorem lex_K3 (text:List UInt8) (u1:ULex) (line:Int) (sm:Bool) (out:List TTok) (i:Nat) (h:text.length < i):q1z_ (q4s_ u1) q7k_ u1 text line sm (i:Int) 0 0 out=some (out,(0,0),()):=by
 unfold q1z_
 rw [if_neg (by grind [le_iff,q0_])]
 rfl
theorem q16k_ (text:List UInt8):LexQ (qjm_ (text,())):=by
 show LexQ (q8h_ q8e_ text)
 unfold q8h_
 by_cases h:8192 < text.length
 ·rw [if_pos (q7_.2 (by grind))]
  exact ⟨_,_,rfl,fun _ h=>by cases h⟩
 ·rw [if_neg (fun e=>h (by grind [q7_,q0_]))]
  unfold q8e_
  refine loop_rel (Inv:=fun s=>∃ (i:Nat) (line:Int) (sm:Bool) (out:List TTok),s=(text,line,sm,(i:Int),0,0,out)∧TokOk out∧out.length≤i∧i≤text.length + 1) (Q:=LexQ) (μ:=fun s=>text.length + 2 - s.2.2.2.1.toNat) ?_ _ _ ⟨0,1,false,[],rfl,fun _ h=>(by cases h),by simp,by omega⟩ (by omega)
  rintro self s ⟨i,line,sm,out,rfl,h1,h2,h3⟩ ih
  dsimp only at ih ⊢
  by_cases hi:i≤text.length
  ·rcases q16g_ (fun text line some' i t3 t3_2 out=>self (text,line,some',i,t3,t3_2,out)) (by omega) line sm (by omega) h1 hi rfl with ⟨e,h⟩ | ⟨j,line',sm',out',h4,h5,h6,h7,h8⟩
   ·exact ⟨_,_,h,fun _ h=>by cases h⟩
   ·rw [h8]
    exact ih _ ⟨j,line',sm',out',rfl,h7,by omega,h5⟩ (by grind)
  ·rw [lex_K3 _ _ _ _ _ _ (by omega)]
   exact ⟨_,_,rfl,h1⟩
theorem q16h_ {s:List UInt8} (h:wordB s=true):∃ d,qjm_ (s,())=some ([(1,s,d,1),(4,[],(0,0),1)],(0,0),()):=by
 unfold wordB at h
 match s,h with
 | [],h=>grind
 | c::q,h =>
  simp only [Bool.and_eq_true,decide_eq_true_eq] at h
  obtain ⟨h20,hw,hq⟩:=h
  show ∃ d,q8h_ q8e_ (c::q)=_
  unfold q8h_
  rw [if_neg (fun e=>by grind [q7_,q0_])]
  unfold q8e_
  rw [show (18446744073709551616:Nat)=18446744073709551613 + 1 + 1 + 1 from rfl,q5_]
  dsimp only
  have e9:∀ (b:Bool) (u1:ULex),b=false->q2b_ u1 (c::q) 1 false 0 (Int.ofNat c.toNat) b 0 0 []=qs_ u1 (c::q) 1 0 0 0 [] 1 [] 0 0 1:=fun b u1 hb=>by
   subst hb
   show q7s_ (q4y_ u1) (qs_ u1) (qdn_ u1) u1 (c::q) 1 false 0 (Int.ofNat c.toNat) false 0 0 []=_
   unfold q7s_
   rw [if_neg (by decide),letter_eq,Option.bind_some,hw]
   rfl
  have hn:∀ (v:Nat) (z:Int),z=v->w1 v=false->eqi (Int.ofNat c.toNat) z=false:=fun v z hz hv=>by
   subst hz
   rw [Bool.eq_false_iff]
   grind [qb_,q0_]
  have e1:∀ u1:ULex,q1z_ (q4s_ u1) q7k_ u1 (c::q) 1 false 0 0 0 []=qs_ u1 (c::q) 1 0 0 0 [] 1 [] 0 0 1:=fun u1=>by
   unfold q1z_
   rw [if_pos (by rfl),if_neg (by grind [qb_,q0_,List.length_cons]),at_zero,Option.bind_some,hn 10 10 rfl (by decide)]
   show q4x_ (q4v_ u1) (q56_ u1) (qa6_ u1) u1 (c::q) 1 false 0 false 0 0 []=_
   unfold q4x_
   rw [if_neg (by decide),at_zero,Option.bind_some,hn 35 35 rfl (by decide),if_neg (by decide)]
   show q4w_ (q2b_ u1) u1 (c::q) 1 false 0 (Int.ofNat c.toNat) 0 0 []=_
   unfold q4w_
   rw [hn 9 9 rfl (by decide),if_neg (by decide),hn 13 13 rfl (by decide),if_neg (by decide)]
   exact e9 _ _ (hn 32 32 rfl (by decide))
  rw [e1]
  rcases tok_all (k:=1) (i:=0) (c:=c) (text:=c::q) (out:=[]) (fun text line some' i t3 t3_2 out=>loopF _ _ (text,line,some',i,t3,t3_2,out)) (by omega) 1 (by simp) (.inl rfl) rfl (fun _=>hw) with ⟨_,h⟩ | ⟨j,T,d,h1,h2,h3,h4,h5⟩
  ·grind
  ·obtain ⟨rfl,e2⟩:=h5 rfl hq
   refine ⟨d,h4.trans ?_⟩
   rw [e2,List.drop_zero,q5_]
   dsimp only
   have e3:∀ u1:ULex,q1z_ (q4s_ u1) q7k_ u1 (c::q) 1 true ((c::q).length:Int) 0 0 ([]++[(1,c::q,d,1)])=u1 (c::q) 2 false (((c::q).length + 1:Nat):Int) 0 0 [(1,c::q,d,1),(4,[],(0,0),1)]:=fun u1=>by
    unfold q1z_
    rw [if_pos (by grind [le_iff,q0_]),if_pos (by rw [qb_,q0_])]
    show need (small (([]++[(1,c::q,d,1)]:List TTok).length + 1)) (u1 (c::q) (add .i64 1 1) false (add .i64 ((c::q).length:Int) 1) 0 0 _)=_
    grind [q1v_,q9_]
   rw [e3,q5_]
   dsimp only
   rw [lex_K3 _ _ _ _ _ _ (by omega)]
theorem word_eq (s:List UInt8):qlg_ (s,())=some (wordB s,()):=by
 show qkm_ s=_
 unfold qkm_
 cases hw:wordB s with
 | true =>
  obtain ⟨d,h⟩:=q16h_ hw
  rw [h]
  show some (eqs s s,())=_
  rw [q1h_.2 rfl]
 | false =>
  obtain ⟨l,f,h,hO⟩:=q16k_ s
  rw [h,Option.bind_some]
  dsimp only
  split
  ·split
   ·rename_i h2
    have h2:=qb_.1 h2
    rw [q0_] at h2
    match l,h2,hO with
    | [],h2,_=>grind
    | t::q,_,hO =>
     rw [at_zero,Option.bind_some]
     split
     ·rename_i h1
      rw [Option.bind_some]
      have:=hO t (by simp) (qb_.1 h1)
      have:eqs t.2.1 s=false:=by
       rw [Bool.eq_false_iff]
       grind [q1h_]
      grind
     ·rfl
   ·rfl
  ·rfl
end Go.Proofs.Lx
end
section
set_option maxRecDepth 100000
namespace Go.Proofs.Lx
open Go Ev Sx Pl
theorem srch_loop {σ R α:Type} {F:(σ->Option R)->σ->Option R} {mk:Nat->σ} {xs:List α} {p:α->Bool} {yes:Nat->α->Option R} {no:Option R}
  (hs:∀ self i x,xs[i]? = some x->F self (mk i)=if p x=true then yes i x else self (mk (i + 1))) (he:∀ self,F self (mk xs.length)=no) {n:Nat} (h:xs.length < n) :
  loopF F n (mk 0)=match srch p xs 0 with
   | some z=>yes z.1 z.2
   | none=>no:=by
 have:=loop_goi (xs:=xs) (mk:=fun i (_:Unit)=>mk i) (body:=fun i a x k=>if p x=true then yes i x else k a) (fin:=fun _=>no) (fun self i acc x hx=>hs self i x hx) (fun self _=>he self) xs.length 0 () n (by omega) h
 rw [List.drop_zero] at this
 refine this.trans ?_
 have key:∀ (q:List α) (k:Nat),goI (fun i (a:Unit) x kk=>if p x=true then yes i x else kk a) (fun _=>no) k q ()=match srch p q k with
   | some z=>yes z.1 z.2
   | none=>no:=by
  intro q
  induction q with
  | nil=>intro k; rfl
  | cons x q ih =>
   intro k
   show (if p x=true then yes k x else goI _ _ (k + 1) q ())=_
   unfold srch
   cases p x with
   | true=>rfl
   | false=>exact ih (k + 1)
 exact key xs 0
theorem gtS {n k:Nat} {z:Int} (h:z=k):gt (Int.ofNat n) z=!decide (n≤k):=by subst h; exact gtn
theorem rname_eq {s:List UInt8}:q33_ (s,())=some (nameB s,()):=by
 show qe8_ q5u_ s=_
 unfold qe8_
 have K1t:q5u_ s true=some (false,()):=rfl
 by_cases h0:s=[]
 ·subst h0; rfl
 ·have hl:1≤s.length:=by
   cases s with
   | nil=>exact absurd rfl h0
   | cons c q=>simp
  rw [if_neg (fun e=>by have:=q1_.1 e; rw [q0_] at this; omega)]
  rw [gtS (k:=20) (z:=20) rfl]
  unfold nameB
  by_cases h1:s.length≤20
  ·rw [decide_eq_true h1,if_neg (by decide)]
   have e0:(s != [])=true:=by simpa using h0
   rw [e0]
   have q1:∀ a:List UInt8,eqs s a=!(s != a):=fun a=>by
    by_cases h:s=a
    ·subst h; simp [eqs]
    ·rw [Bool.eq_false_iff.2 (fun e=>h (q1h_.1 e))]; simp [h]
   have K1f:q5u_ s false=if (s.all fun c=>namN c.toNat)=true then some (true,()) else some (false,()):=by
    show qdr_ s 0=_
    unfold qdr_
    refine loop_all (xs:=s) (mk:=fun i=>(s,(i:Int))) (p:=fun c=>namN c.toNat) ?_ ?_ (by omega)
    ·intro self i c hc
     have hi:=(List.getElem?_eq_some_iff.1 hc).1
     dsimp only
     have K3:∀ b,qkv_ (fun s i=>self (s,i)) s (i:Int) b=if b=true then some (false,()) else self (s,((i + 1:Nat):Int)):=fun b=>by
      rw [<- q9_ (by omega)]; rfl
     unfold qdz_
     rw [if_pos (by rw [q1_,q0_]; omega),q4_ hc,Option.bind_some]
     simp only [K3]
     have g1:ge (Int.ofNat c.toNat) 97=decide (97≤c.toNat):=by
      apply Bool.eq_iff_iff.2; rw [ge_iff,q0_]; simp; omega
     have g2:le (Int.ofNat c.toNat) 122=decide (c.toNat≤122):=by
      apply Bool.eq_iff_iff.2; rw [le_iff,q0_]; simp; omega
     have g3:ge (Int.ofNat c.toNat) 48=decide (48≤c.toNat):=by
      apply Bool.eq_iff_iff.2; rw [ge_iff,q0_]; simp; omega
     have g4:le (Int.ofNat c.toNat) 57=decide (c.toNat≤57):=by
      apply Bool.eq_iff_iff.2; rw [le_iff,q0_]; simp; omega
     have g5:nei (Int.ofNat c.toNat) 95=!(c.toNat == 95):=by
      apply Bool.eq_iff_iff.2; rw [qh_,q0_]; simp; omega
     rw [g1,g2,g3,g4,g5]
     have e:namN c.toNat=((decide (97≤c.toNat) && decide (c.toNat≤122)) || (decide (48≤c.toNat) && decide (c.toNat≤57)) || c.toNat == 95):=rfl
     rw [e]
     cases decide (97≤c.toNat) <;> cases decide (c.toNat≤122) <;> cases decide (48≤c.toNat) <;> cases decide (c.toNat≤57) <;> cases (c.toNat == 95) <;> rfl
    ·intro self
     dsimp only
     unfold qdz_
     rw [if_neg (by rw [q1_,q0_]; omega)]
   rw [q1,q1,q1,at_head h0 0,Option.bind_some,Option.bind_some,K1t]
   have g1:lt (Int.ofNat (s.headD 0).toNat) 97=!decide (97≤(s.headD 0).toNat):=by
    apply Bool.eq_iff_iff.2; rw [q1_,q0_]; simp; omega
   have g2:gt (Int.ofNat (s.headD 0).toNat) 122=!decide ((s.headD 0).toNat≤122):=gtS (k:=122) (z:=122) rfl
   rw [g1,g2]
   have e:lowN (s.headD 0).toNat=(decide (97≤(s.headD 0).toNat) && decide ((s.headD 0).toNat≤122)):=rfl
   rw [e]
   cases (s != sRec) <;> cases (s != sSlv) <;> cases (s != sEnd) <;> cases decide (97≤(s.headD 0).toNat) <;> cases decide ((s.headD 0).toNat≤122) <;> cases ha:(s.all fun c=>namN c.toNat) <;>
    first | rfl | (show q5u_ s false=_; rw [K1f,ha]; rfl)
  ·rw [decide_eq_false h1,if_pos (by rfl),K1t]
   simp
theorem unit_word {u:List UInt8} (h:u ≠ []):unitB u=wordB u:=by
 cases u with
 | nil=>exact absurd rfl h
 | cons c q=>rfl
theorem rright14_eq {r:TRec} (h1:r.2.length≤1000000) (h2:∀ p ∈ r.2,p.2.2.length≤1000000):qd0_ (r,())=some (rightB r,()):=by
 show qaw_ qah_ r=_
 unfold qaw_
 have K2:qbl_ 0 r=if r.2.all partB=true then some (true,()) else some (false,()):=by
  unfold qbl_
  refine loop_all (xs:=r.2) (mk:=fun i=>((i:Int),r)) (p:=partB) ?_ ?_ (by omega)
  ·intro self i p hp
   have hi:=(List.getElem?_eq_some_iff.1 hp).1
   have hps:=h2 p (List.mem_of_getElem? hp)
   dsimp only
   unfold qcl_
   rw [if_pos (by rw [q1_,q0_]; omega),q4_ hp,Option.bind_some,rname_eq,Option.bind_some]
   have K4:qbc_ (fun i r=>self (i,r)) (i:Int) 0 r p=if p.2.2.all setB=true then self (((i + 1:Nat):Int),r) else some (false,()):=by
    unfold qbc_
    refine loop_all (xs:=p.2.2) (mk:=fun k=>((i:Int),(k:Int),r,p)) (p:=setB) ?_ ?_ (by omega)
    ·intro self4 k s hs
     have hk:=(List.getElem?_eq_some_iff.1 hs).1
     dsimp only
     have K5:∀ u2 sf b,qh1_ u2 sf (i:Int) (k:Int) b r p=if b=true then some (false,()) else sf (i:Int) ((k + 1:Nat):Int) r p:=fun _ _ b=>by
      rw [<- q9_ (by omega)]; rfl
     unfold qax_
     rw [if_pos (by rw [q1_,q0_]; omega),q4_ hs,Option.bind_some,rname_eq,Option.bind_some,rright_eq,Option.bind_some,word_eq,Option.bind_some]
     simp only [K5,nes_val]
     unfold setB
     by_cases hu:s.2.2.1=[]
     ·rw [hu]
      cases nameB s.1 <;> cases rgt s.2.1 <;> rfl
     ·have e0:(s.2.2.1 != [])=true:=by simpa using hu
      rw [e0,unit_word hu]
      cases nameB s.1 <;> cases rgt s.2.1 <;> cases wordB s.2.2.1 <;> rfl
    ·intro self4
     dsimp only
     unfold qax_
     rw [if_neg (by rw [q1_,q0_]; omega),<- q9_ (by omega)]
     rfl
   have K3:∀ b,qie_ (fun i r=>self (i,r)) (i:Int) b r p=if b=true then some (false,()) else if p.2.2.all setB=true then self (((i + 1:Nat):Int),r) else some (false,()):=fun b=>by
    rw [<- K4]; rfl
   rw [gtS (k:=64) (z:=64) rfl]
   simp only [K3]
   unfold partB
   cases nameB p.1 <;> cases decide (p.2.2.length≤64) <;> cases p.2.2.all setB <;> rfl
  ·intro self
   dsimp only
   unfold qcl_
   rw [if_neg (by rw [q1_,q0_]; omega)]
 have K1:∀ b,qah_ b r=if b=true then some (false,()) else if r.2.all partB=true then some (true,()) else some (false,()):=fun b=>by rw [<- K2]; rfl
 rw [rname_eq,Option.bind_some,gtS (k:=8) (z:=8) rfl]
 simp only [K1]
 unfold rightB
 cases nameB r.1 <;> cases decide (r.2.length≤8) <;> cases r.2.all partB <;> rfl
theorem rfind_eq {t:TTab} {s:List UInt8} (ht:t.length≤1000000):q8k_ (t,s,())=some (match srch (fun d=>eqs d.1 s) t 0 with
  | some z=>((z.1:Int),())
  | none=>(-1,())):=by
 show qeg_ t s 0=_
 unfold qeg_
 refine (srch_loop (xs:=t) (mk:=fun i=>(t,s,(i:Int))) (p:=fun d=>eqs d.1 s) (yes:=fun i _=>some ((i:Int),())) (no:=some (-1,())) ?_ ?_ (by omega)).trans ?_
 ·intro self i d hd
  have hi:=(List.getElem?_eq_some_iff.1 hd).1
  dsimp only
  unfold qeu_
  rw [if_pos (by rw [q1_,q0_]; omega),q4_ hd,Option.bind_some,q9_ (by omega)]
 ·intro self
  dsimp only
  unfold qeu_
  rw [if_neg (by rw [q1_,q0_]; omega)]
 ·cases srch (fun d=>eqs d.1 s) t 0 <;> rfl
theorem rpt_eq {d:TDev} {s:List UInt8} (ht:d.2.length≤1000000):q41_ (d,s,())=some (match srch (fun p=>eqs p.1 s) d.2 0 with
  | some z=>((z.1:Int),())
  | none=>(-1,())):=by
 show qae_ s 0 d=_
 unfold qae_
 refine (srch_loop (xs:=d.2) (mk:=fun i=>(s,(i:Int),d)) (p:=fun d=>eqs d.1 s) (yes:=fun i _=>some ((i:Int),())) (no:=some (-1,())) ?_ ?_ (by omega)).trans ?_
 ·intro self i p hp
  have hi:=(List.getElem?_eq_some_iff.1 hp).1
  dsimp only
  unfold qaf_
  rw [if_pos (by rw [q1_,q0_]; omega),q4_ hp,Option.bind_some,q9_ (by omega)]
 ·intro self
  dsimp only
  unfold qaf_
  rw [if_neg (by rw [q1_,q0_]; omega)]
 ·cases srch (fun p=>eqs p.1 s) d.2 0 <;> rfl
end Go.Proofs.Lx
end
section
set_option maxRecDepth 100000
namespace Go.Proofs.Lx
open Go Go.Proofs Ev Sx
def lpB:Code->Code
 | .loop c=>c
 | _=>.skip
noncomputable def wdC:Code:=bodyAt Try.prog 20
noncomputable def wd1:Code:=seqL wdC
noncomputable def wdX:Code:=seqL (seqR wdC)
noncomputable def wd4:Code:=seqL (seqR (seqR wdC))
noncomputable def wdY:Code:=seqR (seqR (seqR wdC))
noncomputable def wd5:Code:=seqL (seqL wdY)
noncomputable def wdL0:Code:=lpB (blkC (seqR (seqL wdY)))
noncomputable def wdZ:Code:=seqR wdY
noncomputable def wd6:Code:=seqL (seqL wdZ)
noncomputable def wdL2:Code:=lpB (blkC (seqR (seqL wdZ)))
noncomputable def wdE:Code:=seqR wdZ
theorem wd_eq:Try.f20.body=some (.seq wd1 (.seq wdX (.seq wd4 (.seq (.seq wd5 (.block 0 (.loop wdL0))) (.seq (.seq wd6 (.block 2 (.loop wdL2))) wdE))))):=rfl
noncomputable def wdH:Code:=seqL wdL2
noncomputable def wdI:Code:=seqL (seqR wdL2)
noncomputable def wdB:Code:=blkC (seqL (seqR (seqR wdL2)))
noncomputable def wdS:Code:=seqR (seqR (seqR wdL2))
noncomputable def wdB1:Code:=seqL wdB
noncomputable def wdB2:Code:=seqL (seqR wdB)
noncomputable def wdB3:Code:=seqL (seqR (seqR wdB))
noncomputable def wdB4:Code:=seqR (seqR (seqR wdB))
theorem wdL2_eq:wdL2 = .seq wdH (.seq wdI (.seq (.block 3 (.seq wdB1 (.seq wdB2 (.seq wdB3 wdB4)))) wdS)):=rfl
abbrev decT:Ty:=.pr (.int .i64) (.int .u8)
abbrev ptT:Ty:=.pr .str (.pr (.int .i64) (.pr (.int .i64) (.pr .bool (.pr decT (.pr decT .str)))))
abbrev devT:Ty:=.pr .str (.sl ptT)
abbrev tabT:Ty:=.sl devT
abbrev setT:Ty:=.pr .str (.pr decT (.pr .str (.int .i64)))
abbrev partT:Ty:=.pr .str (.pr (.int .i64) (.sl setT))
abbrev recT:Ty:=.pr .str (.sl partT)
abbrev fltT:Ty:=.pr (.int .i64) (.int .i64)
abbrev mT:Ty:=.mp kT uT
@[reducible] def vcS:Sh:=⟨[.d tabT,.d recT],[],[tabT,recT],[.d fltT],[],0,[fltT]⟩
@[reducible] def vfS:Sh:=⟨[.d tabT,.d .str],[],[tabT,.str],[.d (.int .i64),.d .bool],[],0,[.int .i64,.bool]⟩
@[reducible] def vwS:Sh:=⟨[.d ptT,.d setT],[],[ptT,setT],[.d (.int .u16),.d (.int .i64)],[],0,[.int .u16,.int .i64]⟩
abbrev Vc:=As vcS.ps->Option (As vcS.rs)
abbrev Vf:=As vfS.ps->Option (As vfS.rs)
abbrev Vw:=As vwS.ps->Option (As vwS.rs)
def wdEnv (vc:Vc) (vf:Vf) (vw:Vw):Env:=cts [(23,⟨vcS,vc⟩),(27,⟨vfS,vf⟩),(29,⟨vwS,vw⟩)]
def wS0 (t:Vl tabT) (r:Vl recT):St:={ fr:=[(0,.d tabT t),(1,.d recT r)],nt:=92,up:=[],own:=[],nx:=0,log:=[],ln:=0 }
def hW1:Hint:=⟨[],[0,3,4,5]⟩
def wFr (t:Vl tabT) (ps:List (Vl partT)) (n k:Int):Fr:=[(0,.d tabT t),(5,.pb 0 0),(38,.d (.sl partT) ps),(39,.d kT n),(40,.d kT k)]
def wOwn:List (Nat×Ent):=[(0,.box 50 [.d kT 0,.d kT 0])]
def wS3 (t:Vl tabT) (ps:List (Vl partT)) (v7:Value) (n k:Int):St:={ fr:=(7,.k v7)::wFr t ps n k,nt:=92,up:=[],own:=wOwn,nx:=1,log:=[],ln:=0 }
def hW2:Hint:=⟨[],[7,0,5,38,39,40]⟩
def hW3:Hint:=⟨[],[41,7,0,5,38,39,40]⟩
def wFr1 (t:Vl tabT) (ps:List (Vl partT)) (n k:Int):Fr:=[(0,.d tabT t),(5,.pb 1 0),(38,.d (.sl partT) ps),(39,.d kT n),(40,.d kT k)]
def wOwn1 (y:Vl partT):List (Nat×Ent):=[(0,.box 80 [.d .str y.1,.d kT y.2.1,.d (.sl setT) y.2.2]),(1,.box 50 [.d kT 0,.d kT 0])]
def wS4 (t:Vl tabT) (ps:List (Vl partT)) (v7:Value) (n k:Int) (y:Vl partT):St:={ fr:=(10,.pb 0 0)::(7,.k v7)::wFr1 t ps n k,nt:=92,up:=[],own:=wOwn1 y,nx:=2,log:=[],ln:=0 }
def hW4:Hint:=⟨[],[10,7,0,5,38,39,40]⟩
def wS5 (t:Vl tabT) (ps:List (Vl partT)) (v7:Value) (n k:Int) (y:Vl partT) (i:Int) (ok:Bool):St:={ fr:=(11,.d kT i)::(12,.d .bool ok)::(10,.pb 0 0)::(7,.k v7)::wFr1 t ps n k,nt:=92,up:=[],own:=wOwn1 y,nx:=2,log:=[],ln:=0 }
def hW5:Hint:=⟨[],[11,12,10,7,0,5,38,39,40]⟩
def wFr3 (t:Vl tabT) (ps:List (Vl partT)) (n k:Int):Fr:=[(0,.d tabT t),(5,.pb 3 0),(38,.d (.sl partT) ps),(39,.d kT n),(40,.d kT k)]
def wS6 (us:List Value) (t:Vl tabT) (ps:List (Vl partT)) (n k:Int) (y:Vl partT) (i:Int) (m:List (Int×Int)):St:={ fr:=(11,.d kT i)::(10,.pb 2 0)::(7,.row 0)::wFr3 t ps n k,nt:=92,up:=[],own:=[(0,.rowq 24 us i [.mp 1]),(1,.dm kT uT m),(2,.box 80 [.d .str y.1,.d kT y.2.1,.d (.sl setT) y.2.2]),(3,.box 50 [.d kT 0,.d kT 0])],nx:=4,log:=[],ln:=2 }
def hW6:Hint:=⟨[],[7,0,5,38,39,40]⟩
def hWl:Hint:=⟨[],[11,7,0,5,38,39,40,54,55,56]⟩
def hWm:Hint:=⟨[],[11,14,7,0,5,38,39,40,54,55,56,64,65,66]⟩
def hsW (q:Nat):Option Hint:=if q=6 then some hWl else if q=1638 then some hWm else none
abbrev RW:=Ex×St
noncomputable def kW:Kt RW:=fun e S'=>(nrm Try.prog hW6 S').bind fun S1=>some (e,S1)
abbrev NW:Nat:=18446744073709551616
noncomputable def clW (vc:Vc) (vf:Vf) (vw:Vw):Cl RW:=evC (R:=RW) Try.prog (wdEnv vc vf vw) NW (fun _ _=>false) 2
def lOwn (us:List Value) (i:Int) (m:List (Int×Int)):List (Nat×Ent):=[(0,.rowq 24 us i [.mp 1]),(1,.dm kT uT m),(2,.box 50 [.d kT 0,.d kT 0])]
def lFr (t:Vl tabT) (ps:List (Vl partT)) (n k:Int):Fr:=[(7,.row 0),(0,.d tabT t),(5,.pb 2 0),(38,.d (.sl partT) ps),(39,.d kT n),(40,.d kT k)]
def wL1 (us:List Value) (t:Vl tabT) (ps:List (Vl partT)) (n k i:Int) (ss:List (Vl setT)) (ns j:Int) (m:List (Int×Int)):St:={ fr:=(11,.d kT i)::(lFr t ps n k++[(54,.d (.sl setT) ss),(55,.d kT ns),(56,.d kT j)]),nt:=92,up:=[],own:=lOwn us i m,nx:=3,log:=[],ln:=2 }
def lOwn2 (us:List Value) (i:Int) (m:List (Int×Int)) (s:Vl setT):List (Nat×Ent):=[(0,.rowq 24 us i [.mp 1]),(1,.dm kT uT m),(2,.box 82 [.d .str s.1,.d kT s.2.1.1,.d (.int .u8) s.2.1.2,.d .str s.2.2.1,.d kT s.2.2.2]),(3,.box 50 [.d kT 0,.d kT 0])]
def wL2 (us:List Value) (t:Vl tabT) (ps:List (Vl partT)) (n k i:Int) (ss:List (Vl setT)) (ns j:Int) (s:Vl setT) (qs:List (Vl ptT)) (nq h:Int) (m:List (Int×Int)):St:={ fr:=(11,.d kT i)::(14,.pb 2 0)::(7,.row 0)::(0,.d tabT t)::(5,.pb 3 0)::(38,.d (.sl partT) ps)::(39,.d kT n)::(40,.d kT k)::(54,.d (.sl setT) ss)::(55,.d kT ns)::(56,.d kT j)::(64,.d (.sl ptT) qs)::(65,.d kT nq)::(66,.d kT h)::[],nt:=92,up:=[],own:=lOwn2 us i m s,nx:=4,log:=[],ln:=2 }
noncomputable def pW (vc:Vc) (vf:Vf) (vw:Vw) (J:Orc RW) (q:Nat) (us:Us RW) (S:St):Option RW:=pce Try.prog (wdEnv vc vf vw) (clW vc vf vw) NW hsW J q wdB4 1 kW [] us S
end Go.Proofs.Lx
end
section
set_option maxRecDepth 100000
namespace Go.Proofs.Lx
open Go Go.Proofs Ev Sx Pl
abbrev Mw:=List (Int×Int)
def wPts (vw:Vw) (s:Vl setT):List (Vl ptT)->Mw->Option Mw
 | [],m=>some m
 | p::q,m=>if eqs p.1 s.1=true then (vw (p,s,())).bind fun y=>wPts vw s q (dput kT m p.2.1 y.1) else wPts vw s q m
def wSets (vw:Vw) (qs:List (Vl ptT)):List (Vl setT)->Mw->Option Mw
 | [],m=>some m
 | s::r,m=>(wPts vw s qs m).bind fun m'=>wSets vw qs r m'
def wS7 (us:List Value) (t:Vl tabT) (ps:List (Vl partT)) (n k i:Int) (m:Mw):St:={ fr:=lFr t ps n k,nt:=92,up:=[],own:=lOwn us i m,nx:=3,log:=[],ln:=2 }
section
variable (vc:Vc) (vf:Vf) (vw:Vw) (us:List Value) (t:Vl tabT) (ps:List (Vl partT)) (n k i:Int)
theorem pw0_eq (J:Orc RW) (y:Vl partT) (m:Mw):evJ Try.prog (wdEnv vc vf vw) (clW vc vf vw) NW hsW J [] 1 wdB4 (wS6 us t ps n k y i m) kW=J 6 [] (wL1 us t ps n k i y.2.2 (Int.ofNat y.2.2.length) 0 m):=by kernel_rfl
theorem pw1_eq (J:Orc RW) (u1:St->Option RW) (ss:List (Vl setT)) (ns j:Int) (m:Mw):pW vc vf vw J 6 [u1] (wL1 us t ps n k i ss ns j m) =
  if lt j ns=true then (at? ss j).bind fun s=>(at? t i).bind fun d=>J 1638 [u1] (wL2 us t ps n k i ss ns j s d.2 (Int.ofNat (List.length d.2)) 0 m) else some (.n,wS7 us t ps n k i m):=by kernel_rfl
theorem pw2_eq (J:Orc RW) (u1 u2:St->Option RW) (ss:List (Vl setT)) (ns j:Int) (s:Vl setT) (qs:List (Vl ptT)) (nq h:Int) (m:Mw):pW vc vf vw J 1638 [u1,u2] (wL2 us t ps n k i ss ns j s qs nq h m) =
  if lt h nq=true then (at? qs h).bind fun p=>if eqs p.1 s.1=true then need (eqi i i) (if i=i∧Option.map aggD (Try.prog.underlying 24)=some false then
    (vw (p,s,())).bind fun y=>u2 (wL2 us t ps n k i ss ns j s qs nq (add .i64 h 1) (dput kT m p.2.1 y.1)) else none)
   else u2 (wL2 us t ps n k i ss ns j s qs nq (add .i64 h 1) m)
  else u1 (wL1 us t ps n k i ss ns (add .i64 j 1) m):=by kernel_rfl
noncomputable def JW:Orc RW:=fun q uu=>fnd Try.prog (wdEnv vc vf vw) (clW vc vf vw) NW hsW q wdB4 1 kW uu
theorem JW_pce {q:Nat} (hq:0 < q) (uu:Us RW) (S:St):JW vc vf vw q uu S=pW vc vf vw (JW vc vf vw) q uu S:=by
 have:=pce_eq (P:=Try.prog) (env:=wdEnv vc vf vw) (cl:=clW vc vf vw) (fuel:=NW) (hs:=hsW) (J:=JW vc vf vw) (q:=q) (c:=wdB4) (p:=1) (u0:=[]) (k:=kW) (us:=uu) (by decide) (In.one hq) (fun q uu' _=>rfl)
 exact (congrFun this S).symm
theorem pw_pts {qs:List (Vl ptT)} (hq:qs.length < 9223372036854775807) (u1:St->Option RW) (ss:List (Vl setT)) (ns j:Int) (s:Vl setT) (m:Mw) :
  JW vc vf vw 1638 [u1] (wL2 us t ps n k i ss ns j s qs (Int.ofNat qs.length) 0 m)=(wPts vw s qs m).bind fun m'=>u1 (wL1 us t ps n k i ss ns (add .i64 j 1) m'):=by
 rw [JW_pce vc vf vw (by decide)]
 have hl:lpAt 1638 wdB4 1 ([u1]:Us RW).length=true:=by kernel_rfl
 refine (pce_loop hl).trans ?_
 refine (loopF_sim (σ:=Int×Mw) (mk:=fun s2=>wL2 us t ps n k i ss ns j s qs (Int.ofNat qs.length) s2.1 s2.2)
  (G:=fun self s2=>if lt s2.1 (Int.ofNat qs.length)=true then (at? qs s2.1).bind fun p=>if eqs p.1 s.1=true then (vw (p,s,())).bind fun y=>self (add .i64 s2.1 1,dput kT s2.2 p.2.1 y.1) else self (add .i64 s2.1 1,s2.2) else u1 (wL1 us t ps n k i ss ns (add .i64 j 1) s2.2))
  (fun g s2=>?_) NW (0,m)).trans ?_
 ·refine (pw2_eq vc vf vw us t ps n k i _ u1 g ss ns j s qs _ s2.1 s2.2).trans ?_
  have hn:∀ K:Option RW,need (eqi i i) K=K:=fun K=>qp_ (qb_.2 rfl)
  have hx:Option.map aggD (Try.prog.underlying 24)=some false:=by kernel_rfl
  simp only [hn,hx,and_self,if_true]
 ·have key:∀ (c:Nat) (m:Mw) (N:Nat),c≤qs.length->qs.length - c < N->loopF (σ:=Int×Mw) (R:=RW) (fun self s2=>if lt s2.1 (Int.ofNat qs.length)=true then (at? qs s2.1).bind fun p=>if eqs p.1 s.1=true then (vw (p,s,())).bind fun y=>self (add .i64 s2.1 1,dput kT s2.2 p.2.1 y.1) else self (add .i64 s2.1 1,s2.2) else u1 (wL1 us t ps n k i ss ns (add .i64 j 1) s2.2)) N ((c:Int),m)=(wPts vw s (qs.drop c) m).bind fun m'=>u1 (wL1 us t ps n k i ss ns (add .i64 j 1) m'):=by
   intro c m N hc hN
   induction N generalizing c m with
   | zero=>omega
   | succ N ih =>
    rw [q5_]
    simp only
    by_cases hlt:c < qs.length
    ·rw [if_pos (by rw [q1_]; show (c:Int) < (qs.length:Int); omega),List.drop_eq_getElem_cons hlt]
     have ha:at? qs (c:Int)=some qs[c]:=by unfold at?; rw [if_pos (by omega),Int.toNat_natCast]; exact List.getElem?_eq_getElem hlt
     have hadd:add .i64 (c:Int) 1=((c + 1:Nat):Int):=by rw [add64 (by omega) (by omega)]; omega
     rw [ha,Option.bind_some,wPts]
     by_cases he:eqs (qs[c]).1 s.1=true
     ·rw [if_pos he,if_pos he,Option.bind_assoc]
      congr 1
      funext y
      rw [hadd]
      exact ih (c + 1) _ (by omega) (by omega)
     ·rw [if_neg he,if_neg he,hadd]
      exact ih (c + 1) _ (by omega) (by omega)
    ·obtain rfl:c=qs.length:=by omega
     rw [if_neg (by rw [q1_]; show ¬ (qs.length:Int) < (qs.length:Int); omega),List.drop_length]
     rfl
  exact key 0 m NW (by omega) (by show _ < 18446744073709551616; omega)
theorem pw_sets {ss:List (Vl setT)} {d:Vl devT} (hd:at? t i=some d) (hq:d.2.length < 9223372036854775807) (hs:ss.length < 9223372036854775807) (m:Mw) :
  JW vc vf vw 6 [] (wL1 us t ps n k i ss (Int.ofNat ss.length) 0 m)=(wSets vw d.2 ss m).bind fun m'=>some (.n,wS7 us t ps n k i m'):=by
 rw [JW_pce vc vf vw (by decide)]
 have hl:lpAt 6 wdB4 1 ([]:Us RW).length=true:=by kernel_rfl
 refine (pce_loop hl).trans ?_
 refine (loopF_sim (σ:=Int×Mw) (mk:=fun s2=>wL1 us t ps n k i ss (Int.ofNat ss.length) s2.1 s2.2)
  (G:=fun self s2=>if lt s2.1 (Int.ofNat ss.length)=true then (at? ss s2.1).bind fun s=>(wPts vw s d.2 s2.2).bind fun m'=>self (add .i64 s2.1 1,m') else some (.n,wS7 us t ps n k i s2.2))
  (fun g s2=>?_) NW (0,m)).trans ?_
 ·refine (pw1_eq vc vf vw us t ps n k i _ g ss _ s2.1 s2.2).trans ?_
  congr 1
  congr 1
  funext s
  rw [hd,Option.bind_some]
  exact pw_pts vc vf vw us t ps n k i hq g ss _ _ s _
 ·have key:∀ (c:Nat) (m:Mw) (N:Nat),c≤ss.length->ss.length - c < N->loopF (σ:=Int×Mw) (R:=RW) (fun self s2=>if lt s2.1 (Int.ofNat ss.length)=true then (at? ss s2.1).bind fun s=>(wPts vw s d.2 s2.2).bind fun m'=>self (add .i64 s2.1 1,m') else some (.n,wS7 us t ps n k i s2.2)) N ((c:Int),m)=(wSets vw d.2 (ss.drop c) m).bind fun m'=>some (.n,wS7 us t ps n k i m'):=by
   intro c m N hc hN
   induction N generalizing c m with
   | zero=>omega
   | succ N ih =>
    rw [q5_]
    simp only
    by_cases hlt:c < ss.length
    ·rw [if_pos (by rw [q1_]; show (c:Int) < (ss.length:Int); omega),List.drop_eq_getElem_cons hlt]
     have ha:at? ss (c:Int)=some ss[c]:=by unfold at?; rw [if_pos (by omega),Int.toNat_natCast]; exact List.getElem?_eq_getElem hlt
     have hadd:add .i64 (c:Int) 1=((c + 1:Nat):Int):=by rw [add64 (by omega) (by omega)]; omega
     rw [ha,Option.bind_some,wSets,Option.bind_assoc]
     congr 1
     funext y
     rw [hadd]
     exact ih (c + 1) _ (by omega) (by omega)
    ·obtain rfl:c=ss.length:=by omega
     rw [if_neg (by rw [q1_]; show ¬ (ss.length:Int) < (ss.length:Int); omega),List.drop_length]
     rfl
  exact key 0 m NW (by omega) (by show _ < 18446744073709551616; omega)
theorem pw_eq {y:Vl partT} {d:Vl devT} (hd:at? t i=some d) (hq:d.2.length < 9223372036854775807) (hs:y.2.2.length < 9223372036854775807) (m:Mw) :
  ev Try.prog (wdEnv vc vf vw) (clW vc vf vw) NW hsW 1 wdB4 (wS6 us t ps n k y i m) kW=(wSets vw d.2 y.2.2 m).bind fun m'=>some (.n,wS7 us t ps n k i m'):=by
 have h0:=evJ_eq (P:=Try.prog) (env:=wdEnv vc vf vw) (cl:=clW vc vf vw) (fuel:=NW) (hs:=hsW) (J:=JW vc vf vw) (c:=wdB4) (p:=1) (us:=[]) (S:=wS6 us t ps n k y i m) (k:=kW) (by decide) (fun q uu' _=>rfl)
 rw [<- h0,pw0_eq,pw_sets vc vf vw us t ps n k i hd hq hs]
end
end Go.Proofs.Lx
end
section
set_option maxRecDepth 100000
namespace Go.Proofs.Lx
open Go Go.Proofs Go.RowKit Ev Sx Pl
noncomputable def evF (N:Nat) (env:Env) (hs:Nat->Option Hint) (h:Hint) (c:Code) (S:St):Option (Ex×St):=ev Try.prog env (evC (R:=Ex×St) Try.prog env N (fun _ _=>false) 2) N hs 1 c S (fun e S'=>(nrm Try.prog h S').bind fun S1=>some (e,S1))
section
variable {B0:Nat->Prop} {p0:List Ev.Place} {F F':Lx} {pl:List Ev.Place} {own:List (Nat×Ent)} {w w':World}
theorem q15_ {N:Nat} {env:Env} {hs:Nat->Option Hint} {hint:Hint} (henv:EnvOk Try.prog (fun _=>True) env) {c:Code} {S S1:St} {e0:Ex} {l:List Value}
  (hb:∀ k,Bo pl S.own w k->B0 k) (h:Sto B0 p0 F pl S.own w) (hup:S.up=[]) (hnx:S.nx=pl.length) (hln:S.ln=p0.length) (hnt:l.length=S.nt) (hfr:FrD pl (lx pl S.own++F) w S.fr l)
  (hev:evF N env hs hint c S=some (e0,S1)) :
  CW Try.prog c (fun e a w'=>∃ pl' l',e=exOf e0∧a=mk l'∧l'.length=S1.nt∧pl'.length=S1.nx∧Sto B0 p0 F pl' S1.own w'∧FrD pl' (lx pl' S1.own++F) w' S1.fr l'∧Blw (Bo pl S.own w) w w') l w:=by
 refine ev_ok (R:=Ex×St) henv (evC_ok henv (fun _ _ h=>by cases h) 2) (Hn:=False) (fun h=>h.elim) c 1 _ pl S l w _ _ ?_ (h.rel hup hnx hln hnt hfr) hev (fun e wr' pl' S' l' w' h' _ hv=>?_)
 ·rintro c a a' w ⟨pl',l',he,_⟩
  exact absurd he.symm (exOf_panic c)
 ·obtain ⟨S2,h1,h2⟩:=qc_ hv
  cases h2
  obtain ⟨wr2,pl2,h3⟩:=nrm_ok h' h1
  obtain ⟨a,b⟩:=sto_of_rel hb h3
  exact ⟨pl2,l',rfl,rfl,h3.nt,h3.nx.symm,a,h3.fr,b⟩
end
abbrev mv (b:Nat):Value:=.map (some b)
abbrev nm:Value:=.map none
def FM (F:Lx) (g:Nat) (gs:List Nat):Lx:=F++(g::gs).map some
theorem FM_mem {F:Lx} {g:Nat} {gs:List Nat} {k:Nat}:some k ∈ FM F g gs ↔ some k ∈ F∨k ∈ g::gs:=by
 unfold FM
 rw [List.mem_append]
 constructor
 ·rintro (h | h)
  ·exact .inl h
  ·obtain ⟨a,h1,h2⟩:=List.mem_map.1 h
   cases h2
   exact .inr h1
 ·rintro (h | h)
  ·exact .inl h
  ·exact .inr (List.mem_map_of_mem (f:=some) h)
structure RowI (B0:Nat->Prop) (F:Lx) (w:World) (g n:Nat) (gs:List Nat) (xs:List Mw):Prop where
 bx:Bx w g (gs.map mv++List.replicate (n - gs.length) nm) 24
 le:gs.length≤n
 len:gs.length=xs.length
 maps:∀ (k b:Nat) (x:Mw),gs[k]? = some b->xs[k]? = some x->MapIs (keyV kT) (fun v:Int=>Value.int .u16 v) w b x
 nd:(g::gs).Nodup
 own:∀ k ∈ g::gs,B0 k
 far:∀ k ∈ g::gs,some k ∉ F
theorem RowI.lt {B0:Nat->Prop} {F:Lx} {w:World} {g n:Nat} {gs:List Nat} {xs:List Mw} (h:RowI B0 F w g n gs xs):∀ k ∈ g::gs,k < w.heap.size:=fun k hk=>by
 rcases List.mem_cons.1 hk with rfl | hk
 ·exact h.bx.lt
 ·obtain ⟨i,hi,he⟩:=List.getElem_of_mem hk
  have h1:gs[i]? = some k:=by rw [List.getElem?_eq_getElem hi,he]
  have h2:xs[i]? = some (xs[i]'(by rw [<- h.len]; exact hi)):=List.getElem?_eq_getElem _
  exact (h.maps i k _ h1 h2).lt
theorem MapIs.keep {K V:Type} {kv:K->Value} {vv:V->Value} {w w':World} {g:Nat} {x:List (K×V)} (h:MapIs kv vv w g x) (hk:w'.heap[g]? = w.heap[g]?):MapIs kv vv w' g x:=by
 obtain ⟨es,cl,a,b⟩:=h
 exact ⟨es,cl,hk.trans a,b⟩
theorem RowI.keep {B0:Nat->Prop} {F:Lx} {w w':World} {g n:Nat} {gs:List Nat} {xs:List Mw} (h:RowI B0 F w g n gs xs) (hk:∀ k ∈ g::gs,w'.heap[k]? = w.heap[k]?):RowI B0 F w' g n gs xs :=
 ⟨by unfold Bx; rw [hk g (by simp)]; exact h.bx,h.le,h.len,fun k b x h1 h2=>MapIs.keep (h.maps k b x h1 h2) (hk b (List.mem_cons_of_mem _ (List.mem_of_getElem? h1))),h.nd,h.own,h.far⟩
theorem frD_set {pl:List Ev.Place} {L:Lx} {w:World} {fr:Fr} {l:List Value} {j:Nat} {v:Value} (h:FrD pl L w fr l) (hj:Ev.get fr j=none):FrD pl L w fr (l.set j v):=fun t s hg=>by
 have hne:j ≠ t:=fun e=>by subst e; rw [hj] at hg; cases hg
 rw [List.getD_eq_getElem?_getD,List.getElem?_set_ne hne,<- List.getD_eq_getElem?_getD]
 exact h t s hg
theorem q1g_ {l:List Value} {j:Nat} {v:Value} (hl:j < l.length):(l.set j v).getD j undef=v:=by
 rw [List.getD_eq_getElem?_getD,List.getElem?_set_self hl]
 rfl
theorem q36_ {l:List Value} {j t:Nat} {v:Value} (h:j ≠ t):(l.set j v).getD t undef=l.getD t undef:=by
 rw [List.getD_eq_getElem?_getD,List.getElem?_set_ne h,<- List.getD_eq_getElem?_getD]
theorem wd4_ops:∃ id o1 o2 o3 o4,wd4 = .region id #[o1,o2,o3,o4] false∧o1={ o1 with dst:=some 24,op:=.move (.tmp 0),guard:=none }∧o2={ o2 with dst:=some 25,op:=.call { callee:=.builtin .len,args:=#[.tmp 24],argTypes:=#[39] },guard:=none } ∧
  o3={ o3 with dst:=some 26,op:=.makeSlice 54 (.tmp 25) (.tmp 25),guard:=none }∧o4={ o4 with dst:=some 7,op:=.assign (.tmp 26),guard:=none }:=⟨_,_,_,_,_,rfl,rfl,rfl,rfl,rfl⟩
theorem wd5_ops:∃ id o1 o2 o3,wd5 = .region id #[o1,o2,o3] false∧o1={ o1 with dst:=some 27,op:=.move (.tmp 7),guard:=none }∧o2={ o2 with dst:=some 28,op:=.call { callee:=.builtin .len,args:=#[.tmp 27],argTypes:=#[54] },guard:=none } ∧
  o3={ o3 with dst:=some 29,op:=.move (.const (.int .i64 0)),guard:=none }:=⟨_,_,_,_,rfl,rfl,rfl,rfl⟩
theorem ty24:TyRow Try.prog 24 (rpRaw 1) [nm]:=⟨⟨_,_,rfl,rfl,rfl,by decide,rfl,fun L w=>⟨rfl,rfl,by simp [Value.oneCell']⟩⟩,by decide⟩
theorem run_make24 {l:List Value} {w:World} {d:Option Tmp} {ty:TypeId} {pos:String} {af:Array Edge} {gd:Option (Nat×Bool)} {x:Operand} {n:Nat} (hx:Sx.ev l x = .int .i64 n) (hn:n≤1000) :
  ∃ w',(execOp (Sx.ev l) ⟨d,.makeSlice 54 x x,ty,pos,af,gd⟩).run Try.prog w = .ok (.value (.slice (some ⟨w.heap.size,0,none⟩) n n)) w'∧Fz [] w w'∧w'.heap.size=w.heap.size + 1∧Bx w' w.heap.size (List.replicate n nm) 24:=by
 obtain ⟨i,zv,hi,hz,hsz,hby,hzs,hzr⟩:=ty24.info
 have hz1:=(hzr [] w).1
 have hbb:(i.bytes:Int) * (n:Int)≤281474976710656:=by
  have h1:i.bytes * n≤131072000:=Nat.mul_le_mul hby hn
  have h2:((i.bytes * n:Nat):Int)≤(131072000:Nat):=Int.ofNat_le.2 h1
  rw [Int.natCast_mul] at h2
  omega
 have hrun:=run_make (P:=Try.prog) w 54 24 i zv (by kernel_rfl) hi hz .i64 .i64 n n (by omega) (Int.le_refl _) hbb (by omega)
 simp only [Int.toNat_natCast] at hrun
 refine ⟨w.alloc (.cells (madeCells zv.cells (n * i.size)) 24),?_,Fz.alloc _ _ _,by simp,?_⟩
 ·simp only [execOp,hx,Sem.run_bind,hrun,Result.andThen_ok,Sem.run_pure]
 ·unfold Bx
  have hfl:=madeCells_flatten zv.cells n
  rw [hzs] at hfl
  rw [hsz]
  have:(madeCells zv.cells (n * (rpRaw 1).size))=(List.replicate n nm).toArray:=by
   apply Array.ext'
   rw [hfl,hz1]
   simp
  rw [this]
  exact Sx.heap_last w _
theorem blw_alloc {B:Nat->Prop} {w w':World} (h:Fz [] w w'):Blw B w w':=blw_fz h (fun k hk=>by cases hk)
section
variable {B0:Nat->Prop} {F:Lx} {pl:List Ev.Place} {own:List (Nat×Ent)} {w:World} {l:List Value} {fr:Fr}
theorem wd4_wp {t:Vl tabT} {n:Nat} (hn:(show List (Vl devT) from t).length=n) (h2:n≤1000) (hst:Sto B0 [] F pl own w) (hB:∀ k,w.heap.size≤k->B0 k) (hl:l.length=92) (hfr:FrD pl (lx pl own++F) w fr l)
  (h0:Ev.get fr 0=some (.d tabT t)) (hno:∀ j ∈ [24,25,26,7],Ev.get fr j=none) :
  CW Try.prog wd4 (fun e a w'=>∃ l' g,e = .normal∧a=mk l'∧l'.length=92∧RowI B0 F w' g n [] []∧Sto B0 [] (FM F g []) pl own w'∧Blw B0 w w'∧FrD pl (lx pl own++FM F g []) w' fr l'∧l'.getD 7 undef = .slice (some ⟨g,0,none⟩) n n) l w:=by
 obtain ⟨id,o1,o2,o3,o4,e0,e1,e2,e3,e4⟩:=wd4_ops
 rw [e0,e1,e2,e3,e4]
 obtain ⟨cs0,⟨a0,c0,rfl,_,_⟩,hv0⟩:=hfr 0 _ h0
 have hv0:l.getD 0 undef = .slice a0 (show List (Vl devT) from t).length c0:=hv0
 rw [hn] at hv0
 refine cw_region (ops:=[_,_,_,_]) ?_
 refine wl_val (v:=.slice a0 n c0) rfl (run_move hv0) ?_
 have i1:Sx.ev (l.set 24 (.slice a0 n c0)) (.tmp 24) = .slice a0 n c0:=q1g_ (by omega)
 refine wl_val (v:=.int .i64 n) rfl (Sx.run_len_slice (e:=67) (by kernel_rfl) i1) ?_
 have i2:Sx.ev ((l.set 24 (.slice a0 n c0)).set 25 (.int .i64 n)) (.tmp 25) = .int .i64 n:=q1g_ (by simp; omega)
 obtain ⟨w1,r1,r2,r3,r4⟩:=run_make24 (w:=w) (d:=some 26) (ty:=o3.type) (pos:=o3.pos) (af:=o3.after) (gd:=none) i2 h2
 refine wl_val rfl r1 ?_
 refine wl_val (v:=.slice (some ⟨w.heap.size,0,none⟩) n n) rfl (run_assign (q1g_ (by simp [st]; omega))) ?_
 have hF:∀ k,some k ∈ FM F w.heap.size []->(some k ∈ F∨w.heap.size≤k)∧k < w1.heap.size:=fun k hk=>by
  rcases FM_mem.1 hk with h | h
  ·exact ⟨.inl h,by have:=(hst.far k h).2; omega⟩
  ·simp at h
   subst h
   exact ⟨.inr (Nat.le_refl _),by omega⟩
 have hst1:=hst.grow r2 hF
 refine wl_nil ⟨_,w.heap.size,rfl,rfl,by simp [st,hl],⟨by simpa using r4,by simp,rfl,(fun k b x h1 h2=>by cases h1),by simp,fun k hk=>?_,fun k hk=>?_⟩,hst1,blw_alloc r2,?_,?_⟩
 ·simp at hk; subst hk; exact hB _ (Nat.le_refl _)
 ·simp at hk; subst hk; exact fun hm=>by have:=(hst.far _ hm).2; omega
 ·have hE:Ext pl (lx pl own++F) w pl (lx pl own++FM F w.heap.size []) w1:=by
   have hs:Sub w (lx pl own++FM F w.heap.size []) (lx pl own++F):=fun k hk=>by
    rcases List.mem_append.1 hk with hk | hk
    ·exact .inl (List.mem_append_left _ hk)
    ·rcases (hF k hk).1 with h1 | h1
     ·exact .inl (List.mem_append_right _ h1)
     ·exact .inr h1
   exact ⟨fun _ _ h=>h,by intro α R cs x h; exact R.mono (R.grow h hs) r2.nil,by intro α R b o x h; exact (h.grow hs).mono r2.nil⟩
  show FrD _ _ _ fr ((((l.set 24 _).set 25 _).set 26 _).set 7 _)
  exact frD_set (frD_set (frD_set (frD_set (hfr.ext hE) (hno 24 (by simp))) (hno 25 (by simp))) (hno 26 (by simp))) (hno 7 (by simp))
 ·exact q1g_ (by simp [st]; omega)
end
end Go.Proofs.Lx
end
