/- Proved in the last of these 13 parts (this is part 11): SlaveModel returns true, whatever the link, the bank, the ticks and what comes. Conditions: those of the given statement, and no others. -/
import Derived.Test.YtkcmbampiiolbaaGreatPartj
import Derived.Test.YtkcmbampiiolbaaGreatParti
set_option linter.unusedVariables false
set_option linter.unusedSimpArgs false
set_option linter.unusedSectionVars false
section
namespace Go.Proofs.Lx
open Go Ev Sx Pl
set_option maxRecDepth 100000
def putA (a:TAg) (o t n:Int) (x:TBlk):TAg×Int :=
 if o=0∨t=0 then (a,2) else if a.2.1.1 ≠ 0∧a.2.1.1 ≠ o then (a,22) else if ¬ (a.2.2.1=1∧a.2.2.2.1=t) then (a,23)
 else ((a.1,takeL a.2.1 o a.2.2.2.2.2.2,a.2.2.1,a.2.2.2.1,a.2.2.2.2.1,putS a.2.2.2.2.2.1 n.toNat x,a.2.2.2.2.2.2),0)
theorem aput_eq {a:TAg} (h:OkG a) {o t n:Int} {x:TBlk} (hn:0≤n∧n≤7) (hf:fitsB x=true):q9h_ (a,o,t,n,x,())=some ((putA (ownA a) o t n x).1,(putA (ownA a) o t n x).2,()):=by
 show qmd_ qhl_ a o t n x=_
 unfold qmd_
 have h':=h.own
 rw [aown_eq h.sz,Option.bind_some]
 dsimp only
 generalize ownA a=g at h'
 have lr:=h'.lr
 have kr:=h'.kr
 have hx:x.2.length≤1000:=by have:=of_decide_eq_true hf; omega
 have K:∀ b z,qhl_ o t n 0 0 b [g] x [z]=some (if b=true then (g,2,()) else ((putA g o t n x).1,(putA g o t n x).2,()))∨¬ (b=true ↔ (o=0∨t=0)):=fun b z=>by
  by_cases hb:b=true ↔ (o=0∨t=0)
  ·left
   show qnc_ o t n 0 0 b [g] x [z]=_
   unfold qnc_
   cases b with
   | true=>rfl
   | false =>
    rw [if_neg (by decide),if_neg (by decide)]
    have h0:¬ (o=0∨t=0):=fun e=>Bool.false_ne_true (hb.2 e)
    unfold putA
    rw [if_neg h0]
    rw [q1b_,Option.bind_some,aothers_eq lr,Option.bind_some]
    by_cases q1:g.2.1.1 ≠ 0∧g.2.1.1 ≠ o
    ·rw [decide_eq_true q1,if_pos q1]
     rfl
    ·rw [decide_eq_false q1,if_neg (by decide),if_neg q1,Option.bind_some,ain_eq,Option.bind_some]
     by_cases q2:g.2.2.1=1∧g.2.2.2.1=t
     ·rw [decide_eq_true q2,if_neg (by decide),if_neg (fun e=>e q2),Option.bind_some,sput_eq h'.hl h'.sl h'.bb hx,if_pos hn,if_pos hf,Option.bind_some]
      dsimp only
      rw [if_neg (by decide),Option.bind_some]
      have:=ataken_eq (a:=(g.1,g.2.1,g.2.2.1,g.2.2.2.1,g.2.2.2.2.1,putS g.2.2.2.2.2.1 n.toNat x,g.2.2.2.2.2.2)) (o:=o) lr (by omega) kr.1 (by dsimp only; omega)
      show Option.bind (qc8_ ((g.1,g.2.1,g.2.2.1,g.2.2.2.1,g.2.2.2.2.1,putS g.2.2.2.2.2.1 n.toNat x,g.2.2.2.2.2.2),o,())) _=_
      rw [this]
      rfl
     ·rw [decide_eq_false q2,if_pos (by rfl),if_pos q2]
      rfl
  ·exact Or.inr hb
 have p2:o=0∨t=0->putA g o t n x=(g,2):=fun e=>if_pos e
 by_cases ho:o=0
 ·rw [if_pos (q4_.2 ho)]
  rcases K true _ with e | e
  ·rw [e,if_pos rfl,p2 (Or.inl ho)]
  ·exact absurd ⟨fun _=>Or.inl ho,fun _=>rfl⟩ e
 ·rw [if_neg (fun e=>ho (q4_.1 e))]
  rcases K (eqi t 0) ([],(0,0),0,0,0,zSt,0) with e | e
  ·refine e.trans ?_
   by_cases ht:t=0
   ·rw [if_pos (q4_.2 ht),p2 (Or.inr ht)]
   ·rw [if_neg (fun e=>ht (q4_.1 e))]
  ·exact absurd ⟨fun x=>Or.inr (q4_.1 x),fun x=>q4_.2 (x.resolve_left ho)⟩ e
def tickA (a:TAg):TAg:=if (tickL a.2.1).2=true then freeA a else (a.1,(tickL a.2.1).1,a.2.2)
theorem atick_eq {a:TAg} (h:OkG a):qv9_ (a,())=some (tickA (ownA a),()):=by
 show qre_ a=_
 unfold qre_ tickA
 have h':=h.own
 rw [aown_eq h.sz,Option.bind_some,ltick_eq h'.lr h'.l2,Option.bind_some,afreed_eq]
 dsimp only
 split <;> rfl
def bootA (a:TAg):TAg:=if a.2.2.1=1 then freeA a else a
theorem aboot_eq {a:TAg} (h:OkG a):qv3_ (a,())=some (bootA (ownA a),()):=by
 show qqx_ a=_
 unfold qqx_ bootA
 rw [aown_eq h.sz,Option.bind_some,afreed_eq]
 by_cases e:(ownA a).2.2.1=1
 ·rw [if_pos (q4_.2 e),if_pos e]
  rfl
 ·rw [if_neg (fun x=>e (q4_.1 x)),if_neg e]
def statA (a:TAg):List Int:=[a.2.1.1,a.2.2.1,a.2.2.2.1 / 65536,a.2.2.2.1 % 65536,a.2.2.2.2.1 / 65536,a.2.2.2.2.1 % 65536,((a.2.2.2.2.2.1.2.1.count true:Nat):Int),0]
theorem astatus_eq {a:TAg} (h:OkG a):q5_ (a,())=some (statA a,()):=by
 obtain ⟨bk,ls,ph,tx,la,⟨st,hv,bs⟩,tk⟩:=a
 have lr:=h.lr
 have pr:=h.pr
 have tr:=h.tr
 have ar:=h.ar
 have hl:=h.hl
 dsimp only at lr pr tr ar hl
 show qgq_ qbw_ (bk,ls,ph,tx,la,(st,hv,bs),tk)=_
 unfold qgq_
 have hc:hv.count true≤8:=by
  have:=List.count_le_length (a:=true) (l:=hv)
  omega
 have K:∀ o,qbw_ (bk,ls,ph,tx,la,(st,hv,bs),tk) o=some ([o,ph,tx / 65536,tx % 65536,la / 65536,la % 65536,((hv.count true:Nat):Int),0],()):=fun o=>by
  show qgv_ _ o=_
  unfold qgv_
  dsimp only
  rw [parts_eq tr.1 tr.2,Option.bind_some,parts_eq ar.1 ar.2,Option.bind_some,there_eq hl,Option.bind_some,show cvt .u16 ph=ph from wu16 pr.1 (by omega),show cvt .u16 ((hv.count true:Nat):Int)=_ from wu16 (by omega) (by omega)]
 rw [lfree_eq lr,Option.bind_some]
 dsimp only
 by_cases e:ls.1=0
 ·rw [decide_eq_true e,if_pos rfl,K]
  unfold statA
  dsimp only
  rw [e]
 ·rw [decide_eq_false e,if_neg (by decide),K]
  rfl
def zAg (b:List Int) (t:Int):TAg:=(b,(0,0),0,0,0,zSt,t)
theorem anew_eq {b:List Int} {t:Int} (hb:b.length≤1000000):qxh_ (b,t,())=some (if b.length=64 then if 1≤t then (zAg b t,0,()) else (zAg [] 0,2,()) else (zAg [] 0,21,())):=by
 show qs3_ b t=_
 unfold qs3_
 by_cases h:b.length=64
 ·rw [if_neg (fun e=>qf_.1 e (by rw [q1_]; omega)),if_pos h]
  by_cases h1:1≤t
  ·rw [if_neg (fun e=>by have:=q7_.1 e; omega),if_pos h1,q3v_ hb]
   rfl
  ·rw [if_pos (q7_.2 (by omega)),if_neg h1]
   rfl
 ·rw [if_pos (qf_.2 (by rw [q1_]; omega)),if_neg h]
  rfl
theorem blkS_zero:blkS zSt.2.1 zSt.2.2=[]:=rfl
theorem ok_free {bk:List Int} {la tk:Int} (bl:bk.length=64) (bw:∀ x ∈ bk,0≤x∧x≤65535) (ar:0≤la∧la≤4294967295) (kr:1≤tk∧tk≤9223372036854775807):OkG (bk,(0,0),0,0,la,zSt,tk) where
 bl:=bl
 bw:=bw
 lr:=Or.inl ⟨rfl,rfl⟩
 l1:=⟨by dsimp only; omega,by dsimp only; omega⟩
 l2:=by dsimp only; omega
 pr:=⟨by dsimp only; omega,by dsimp only; omega⟩
 tr:=⟨by dsimp only; omega,by dsimp only; omega⟩
 ar:=ar
 kr:=kr
 hl:=rfl
 sl:=rfl
 bb:=by dsimp only; decide
 wb:=by
  intro b hb w hw
  have:b=zB:=by revert hb; simp; exact fun e=>e
  rw [this] at hw
  cases hw
 fb:=fun b hb=>by rw [show blkS _ _=[] from blkS_zero] at hb; cases hb
 p0:=fun _=>⟨rfl,rfl,rfl,rfl⟩
 pn:=fun e=>absurd rfl e
 p1:=fun e=>absurd e (by dsimp only; omega)
 p2:=fun e=>absurd e (by dsimp only; omega)
theorem OkG.free {a:TAg} (h:OkG a):OkG (freeA a):=ok_free h.bl h.bw h.ar h.kr
theorem OkG.doS {a:TAg} (h:OkG a) {c:TCm} (h1:0≤c.1∧c.1≤65535) (h3:0≤c.2.2.1∧c.2.2.1≤4294967295) (hc:0≤c.2.2.2.1∧c.2.2.2.1≤65535):OkG (doS a c).1:=by
 unfold Lx.doS
 split
 ·exact h
 ·rename_i q0
  split
  ·exact h
  ·rename_i q1
   split
   ·split
    ·exact h
    ·rename_i q2
     split
     ·rename_i q3
      have hp:a.2.2.1 ≠ 0:=fun e=>by have:=(h.p0 e).2.1; omega
      have hn:=h.pn hp
      have hown:a.2.1.1=c.1:=by have:=hn.1; omega
      have hph:a.2.2.1=1∨a.2.2.1=2:=by have:=h.pr; omega
      have hkr:=h.kr
      rcases hph with e | e
      ·have ht:takeL a.2.1 c.1 a.2.2.2.2.2.2=(c.1,a.2.2.2.2.2.2):=by
        unfold takeL
        rw [if_neg]
        intro x
        have:=h.p1 e
        rw [x] at this
        dsimp only at this; omega
       rw [ht]
       exact { h with lr:=Or.inr ⟨by show c.1 ≠ 0; omega,Or.inl hkr.1⟩,l1:=h1,l2:=hkr.2,p0:=fun x=>absurd x hp,pn:=fun _=>⟨by show c.1 ≠ 0; omega,hn.2⟩,p1:=fun _=>hkr.1,p2:=fun x=>absurd (e.symm.trans x) (by decide) }
      ·have ht:takeL a.2.1 c.1 a.2.2.2.2.2.2=a.2.1:=by
        unfold takeL
        rw [if_pos]
        exact Prod.ext hown (h.p2 e).1
       rw [ht]
       exact h
     ·rename_i q3
      have hkr:=h.kr
      have har:=h.ar
      exact { ok_free h.bl h.bw h.ar h.kr with lr:=Or.inr ⟨by show c.1 ≠ 0; omega,Or.inl hkr.1⟩,l1:=h1,l2:=hkr.2,pr:=⟨by dsimp only; omega,by dsimp only; omega⟩,tr:=h3,p0:=fun x=>absurd x (show (1:Int) ≠ 0 by decide),pn:=fun _=>⟨by show c.1 ≠ 0; omega,by show a.2.2.2.2.1 < c.2.2.1; omega,rfl⟩,p1:=fun _=>hkr.1,p2:=fun x=>absurd x (show (1:Int) ≠ 2 by decide) }
   ·split
    ·split
     ·rename_i q2
      have hp:a.2.2.1 ≠ 0:=fun e=>by omega
      have hn:=h.pn hp
      refine { h with lr:=Or.inr ⟨by show c.1 ≠ 0; omega,Or.inr rfl⟩,l1:=h1,l2:=by dsimp only; omega,pr:=⟨by dsimp only; omega,by dsimp only; omega⟩,p0:=fun x=>absurd x (show (2:Int) ≠ 0 by decide),pn:=fun _=>⟨by show c.1 ≠ 0; omega,hn.2⟩,p1:=fun x=>absurd x (show (2:Int) ≠ 1 by decide),p2:=fun _=>⟨rfl,?_⟩ }
      rcases q2 with q2 | q2
      ·exact (h.p2 q2.1).2
      ·have hw:=q2.2.2
       unfold wholeA at hw
       rw [Bool.and_eq_true,Bool.and_eq_true,decide_eq_true_eq] at hw
       have hf:=of_decide_eq_true hw.2.1
       have hl:=h.hl
       have hcnt:((a.2.2.2.2.2.1.2.1.count true:Nat):Int)=c.2.2.2.1:=by
        obtain ⟨n,hn'⟩:=Int.eq_ofNat_of_zero_le hw.1.1
        rw [hn'] at hf ⊢
        have hv8:a.2.2.2.2.2.1.2.1=(List.range 8).map (fun (i:Nat)=>decide ((i:Int) < (n:Int))):=by
         apply List.ext_getElem?
         intro i
         by_cases hi:i < 8
         ·have:=hf i hi
          rw [List.getElem?_map,List.getElem?_range hi,Option.map_some,<- this,List.getD_eq_getElem?_getD,List.getElem?_eq_getElem (by omega)]
          rfl
         ·rw [List.getElem?_eq_none (by omega),List.getElem?_eq_none (by simp; omega)]
        have hn8:n≤8:=by have:=hw.1.2; omega
        rw [hv8]
        have:n=0∨n=1∨n=2∨n=3∨n=4∨n=5∨n=6∨n=7∨n=8:=by omega
        rcases this with rfl | rfl | rfl | rfl | rfl | rfl | rfl | rfl | rfl <;> rfl
       show firstN a.2.2.2.2.2.1.2.1 _=true
       rw [hcnt]
       exact hw.2.1
     ·exact h
    ·split
     ·split
      ·exact h
      ·split
       ·exact ok_free (overB_len h.bl h.fb) (overB_rng (P:=fun y=>0≤y∧y≤65535) h.bw (fun x hx=>h.wb x (blkS_mem hx))) h3 h.kr
       ·exact h
     ·split
      ·exact h
      ·split
       ·exact h.free
       ·exact h
theorem set_mem' {α:Type} {P:α->Prop} {xs:List α} {k:Nat} {x:α} (h:∀ y ∈ xs,P y) (hx:P x):∀ y ∈ xs.set k x,P y:=fun y hy=>by
 rcases List.mem_or_eq_of_mem_set hy with e | e
 ·exact h y e
 ·rw [e]; exact hx
theorem blkS_set {P:TBlk->Prop} {x:TBlk} (hx:P x):∀ {hv:List Bool} {bs:List TBlk} (k:Nat),(∀ b ∈ blkS hv bs,P b)->∀ b ∈ blkS (hv.set k true) (bs.set k x),P b
 | [],bs,k,_=>by intro b hb; simp [blkS] at hb
 | h::r,[],k,_=>by intro b hb; cases k <;> simp [blkS] at hb
 | h::r,c::q,0,hp=>by
  intro b hb
  rw [List.set_cons_zero,List.set_cons_zero] at hb
  unfold blkS at hb hp
  rw [List.zip_cons_cons,List.filter_cons,if_pos rfl,List.map_cons] at hb
  rcases List.mem_cons.1 hb with e | e
  ·rw [e]; exact hx
  ·refine hp b ?_
   rw [List.zip_cons_cons,List.filter_cons]
   split
   ·exact List.mem_cons_of_mem _ e
   ·exact e
 | h::r,c::q,k + 1,hp=>by
  intro b hb
  rw [List.set_cons_succ,List.set_cons_succ] at hb
  have hr:∀ b ∈ blkS r q,P b:=fun b hb=>hp b (by
   unfold blkS at hb ⊢
   rw [List.zip_cons_cons,List.filter_cons]
   split
   ·exact List.mem_cons_of_mem _ hb
   ·exact hb)
  have ih:=blkS_set hx k hr
  unfold blkS at hb hp ih
  rw [List.zip_cons_cons,List.filter_cons] at hb
  cases h with
  | true =>
   rw [if_pos rfl,List.map_cons] at hb
   rcases List.mem_cons.1 hb with e | e
   ·refine hp b ?_
    rw [List.zip_cons_cons,List.filter_cons,if_pos rfl,List.map_cons,e]
    exact List.mem_cons_self ..
   ·exact ih b e
  | false=>exact ih b hb
theorem OkG.putA {a:TAg} (h:OkG a) {o t n:Int} {x:TBlk} (ho:0≤o∧o≤65535) (hf:fitsB x=true) (hw:∀ w ∈ x.2,0≤w∧w≤65535):OkG (putA a o t n x).1:=by
 have hx:x.2.length≤1000:=by have:=of_decide_eq_true hf; omega
 unfold Lx.putA
 split
 ·exact h
 ·rename_i q0
  split
  ·exact h
  ·rename_i q1
   split
   ·exact h
   ·rename_i q2
    have q2:=Classical.not_not.1 q2
    have hkr:=h.kr
    have hp:a.2.2.1 ≠ 0:=by omega
    have hn:=h.pn hp
    have ht:takeL a.2.1 o a.2.2.2.2.2.2=(o,a.2.2.2.2.2.2):=by
     unfold takeL
     rw [if_neg]
     intro e
     have:=h.p1 q2.1
     rw [e] at this
     dsimp only at this; omega
    rw [ht]
    have hbs:∀ b ∈ a.2.2.2.2.2.1.2.2.set n.toNat x,b.2.length≤1000:=set_mem' (P:=fun (b:TBlk)=>b.2.length≤1000) h.bb hx
    have hws:∀ b ∈ a.2.2.2.2.2.1.2.2.set n.toNat x,∀ w ∈ b.2,0≤w∧w≤65535:=set_mem' (P:=fun (b:TBlk)=>∀ w ∈ b.2,0≤w∧w≤65535) h.wb hw
    have hhl:=h.hl
    have hsl:=h.sl
    exact { h with
     lr:=Or.inr ⟨by show o ≠ 0; omega,Or.inl hkr.1⟩
     l1:=ho
     l2:=hkr.2
     hl:=by show (a.2.2.2.2.2.1.2.1.set n.toNat true).length=8; rw [List.length_set]; exact hhl
     sl:=nzB_len (by rw [List.length_set]; exact hhl) (by rw [List.length_set]; exact hsl)
     bb:=nzB_mem (P:=fun b=>b.2.length≤1000) (by show (0:Nat)≤1000; omega) hbs
     wb:=nzB_mem (P:=fun b=>∀ w ∈ b.2,0≤w∧w≤65535) (by intro w hw; cases hw) hws
     fb:=by
      show ∀ b ∈ blkS (a.2.2.2.2.2.1.2.1.set n.toNat true) (nzB (a.2.2.2.2.2.1.2.1.set n.toNat true) (a.2.2.2.2.2.1.2.2.set n.toNat x)),fitsB b=true
      rw [blkS_nz]
      exact blkS_set hf _ h.fb
     p0:=fun e=>absurd e hp
     pn:=fun _=>⟨by show o ≠ 0; omega,hn.2⟩
     p1:=fun _=>hkr.1
     p2:=fun e=>absurd (q2.1.symm.trans e) (by decide) }
theorem OkG.tickA {a:TAg} (h:OkG a):OkG (tickA a):=by
 unfold Lx.tickA tickL
 by_cases q0:a.2.1.1=0∨a.2.1.2=-1
 ·rw [if_pos q0,if_neg (show ¬ (a.2.1,false).2=true from Bool.false_ne_true)]
  exact h
 ·rw [if_neg q0]
  by_cases q1:a.2.1.2=1
  ·rw [if_pos q1,if_pos rfl]
   exact h.free
  ·rw [if_neg q1,if_neg (show ¬ ((a.2.1.1,a.2.1.2 - 1),false).2=true from Bool.false_ne_true)]
   have hl2:=h.l2
   have lr:1≤a.2.1.2:=by
    have:=h.lr
    unfold RightL at this
    omega
   have hp:a.2.2.1 ≠ 0:=fun e=>by have:=(h.p0 e).1; omega
   have hn:=h.pn hp
   exact { h with
    lr:=Or.inr ⟨hn.1,Or.inl (by show 1≤a.2.1.2 - 1; omega)⟩
    l2:=by show a.2.1.2 - 1≤_; omega
    p0:=fun e=>absurd e hp
    pn:=fun _=>⟨hn.1,hn.2⟩
    p1:=fun _=>by show 1≤a.2.1.2 - 1; omega
    p2:=fun e=>by have:=(h.p2 e).1; omega }
theorem OkG.bootA {a:TAg} (h:OkG a):OkG (bootA a):=by
 unfold Lx.bootA
 split
 ·exact h.free
 ·exact h
end Go.Proofs.Lx
end
section
namespace Go.Proofs.Lx
open Go Ev Sx Pl
set_option maxRecDepth 100000
abbrev TSpace:=List TArea×List TArea×List TArea×List TArea
theorem uses_eq (f:Int):qi4_ (f,())=some ((if f=1 then (1,0) else if f=2 then (2,0) else if f=3 then (3,0) else if f=4 then (4,0) else if f=5 then (0,1) else if f=6 then (0,3) else if f=15 then (0,1) else if f=16 then (0,3) else if f=23 then (3,3) else (0,0)),()):=by
 show qqu_ f=_
 unfold qqu_
 simp only [q4_,gdV]
 have e:∀ k:Int,(k=f)=(f=k):=fun k=>propext ⟨fun h=>h.symm,fun h=>h.symm⟩
 simp only [e]
 repeat' split
 all_goals rfl
def rdW (x:TArea):Bool:=x.2.2.1
def wrW (p m:Int) (x:TArea):Bool:=x.2.2.2.1 && (!x.2.2.2.2 || (decide (x.1=p) && decide (x.2.1=m)))
theorem zwb (p m:Int) (x:TArea):q13_ (x,p,m,())=some (wrW p m x,p,m,()):=by
 obtain ⟨a,b,c,d,e⟩:=x
 show q6n_ (a,b,c,d,e) p m=_
 unfold q6n_ wrW
 dsimp only
 cases d <;> cases e <;> try rfl
 rw [if_pos rfl,if_neg (by decide)]
 by_cases h:a=p
 ·rw [if_pos (q4_.2 h),decide_eq_true h]; rfl
 ·rw [if_neg (fun e=>h (q4_.1 e)),decide_eq_false h]; rfl
theorem zwu (p m:Int) (x:TArea):q10_ (x,p,m,())=some (wrW p m x,p,m,()):=by
 obtain ⟨a,b,c,d,e⟩:=x
 show q5s_ (a,b,c,d,e) p m=_
 unfold q5s_ wrW
 dsimp only
 cases d <;> cases e <;> try rfl
 rw [if_pos rfl,if_neg (by decide)]
 by_cases h:a=p
 ·rw [if_pos (q4_.2 h),decide_eq_true h]; rfl
 ·rw [if_neg (fun e=>h (q4_.1 e)),decide_eq_false h]; rfl
section
variable {l:List TArea} {p:Int} {m:Nat} (hp:0≤p) (hpm:p≤1000000) (hm:m≤1000000) (hl:l.length≤1000000) (ho:∀ x ∈ l,OkAr x)
include hp hpm hm hl ho
theorem tab_br (c:List Bool):q2i_ ((l,c),p,(m:Int),())=some (eachS rdW l p m,()):=by
 show Option.bind (qfz_ (l,p,(m:Int),())) _=_
 rw [each_br_eq hp hm hpm hl ho (w:=rdW) (fun _=>rfl)]
 rfl
theorem tab_ur (c:List Int):q1g_ ((l,c),p,(m:Int),())=some (eachS rdW l p m,()):=by
 show Option.bind (qfq_ (l,p,(m:Int),())) _=_
 rw [each_ur_eq hp hm hpm hl ho (w:=rdW) (fun _=>rfl)]
 rfl
theorem tab_bw (c:List Bool):q2h_ ((l,c),p,(m:Int),())=some (eachS (wrW p m) l p m,()):=by
 show Option.bind (qfw_ (l,p,(m:Int),p,(m:Int),())) _=_
 rw [each_bw_eq hp hm hpm hl ho (w:=wrW p m) (zwb p m)]
 rfl
theorem tab_uw (c:List Int):q18_ ((l,c),p,(m:Int),())=some (eachS (wrW p m) l p m,()):=by
 show Option.bind (qfm_ (l,p,(m:Int),p,(m:Int),())) _=_
 rw [each_uw_eq hp hm hpm hl ho (w:=wrW p m) (zwu p m)]
 rfl
end
theorem target_eq {a:TA} (h:OkA a):qaa_ (a,())=some ((if a.1=23 then a.2.2.2.1 else a.2.1),((a.2.2.2.2.2.length + a.2.2.2.2.1.length:Nat):Int),()):=by
 have:=h.lw
 have:=h.lb
 have h0:=h.at0
 have h1:=h.at1
 have h2:=h.t0
 have h3:=h.t1
 show qn2_ a=_
 unfold qn2_
 rw [q1_,q1_,addn64 (by omega),cvt64 (by omega) (by omega),cvt64 (by omega) (by omega)]
 simp only [q4_]
 split <;> rfl
theorem each_read {k:Int} {w h:Bool} {p:Int} {m:Nat} (hk:1≤k) (hp:0≤p) (hm:1≤m) (f:TArea->Bool) (hf:f (0,k,true,w,h)=true):eachS f [(0,k,true,w,h)] p m=decide (p + m≤k):=by
 have hw:∀ i:Int,0≤i->wantF f [(0,k,true,w,h)] i=decide (i < k):=fun i hi=>by
  unfold wantF qs_
  rw [List.find?_cons,List.find?_nil]
  have:covS (0,k,true,w,h) i=decide (i < k):=by
   unfold covS
   rw [decide_eq_decide]
   dsimp only
   omega
  rw [this]
  by_cases h:i < k
  ·rw [decide_eq_true h]; exact hf
  ·rw [decide_eq_false h]
 unfold eachS
 rw [Bool.eq_iff_iff,List.all_eq_true,decide_eq_true_eq]
 constructor
 ·intro hall
  have:=hall (m - 1) (List.mem_range.2 (by omega))
  rw [hw _ (by omega),decide_eq_true_eq] at this
  omega
 ·intro hle k hk
  rw [List.mem_range] at hk
  rw [hw _ (by omega),decide_eq_true_eq]
  omega
def SPH:List TArea:=[(0,64,true,false,false),(256,8,true,false,false),(272,8,false,true,true),(288,20,false,true,true),(512,20,true,false,false),(544,20,true,false,false),(576,20,true,false,false),(608,20,true,false,false),(640,20,true,false,false),(672,20,true,false,false),(704,20,true,false,false),(736,20,true,false,false)]
def SP:TSpace:=([(0,16,true,true,false)],[(0,8,true,false,false)],SPH,[(0,8,true,false,false)])
theorem space_eq:q3q_ ()=some (SP,()):=by kernel_rfl
theorem want_some {f:TArea->Bool} {l:List TArea} {i:Int} (h:wantF f l i=true):∃ x ∈ l,covS x i=true∧f x=true:=by
 unfold wantF qs_ at h
 cases hx:l.find? (fun x=>covS x i) with
 | none=>rw [hx] at h; cases h
 | some x =>
  rw [hx] at h
  exact ⟨x,List.mem_of_find?_eq_some hx,by simpa using List.find?_some hx,h⟩
theorem wrH_eq {p:Int} {m:Nat} (hm:1≤m):eachS (wrW p m) SPH p m=decide (p=272∧m=8∨p=288∧m=20):=by
 rw [Bool.eq_iff_iff,decide_eq_true_eq]
 constructor
 ·intro h
  unfold eachS at h
  rw [List.all_eq_true] at h
  have h0:=h 0 (List.mem_range.2 (by omega))
  obtain ⟨x,hx,_,hw⟩:=want_some h0
  have e:wrW p (m:Int) x=true ↔ x.2.2.2.1=true∧(x.2.2.2.2=false∨(x.1=p∧x.2.1=(m:Int))):=by
   unfold wrW
   rw [Bool.and_eq_true,Bool.or_eq_true,Bool.and_eq_true,decide_eq_true_eq,decide_eq_true_eq,Bool.not_eq_true']
  rw [e] at hw
  simp only [SPH,List.mem_cons,List.not_mem_nil,or_false] at hx
  rcases hx with rfl | rfl | rfl | rfl | rfl | rfl | rfl | rfl | rfl | rfl | rfl | rfl <;> simp at hw <;> omega
 ·rintro (⟨rfl,rfl⟩ | ⟨rfl,rfl⟩) <;> decide
def rdH (p:Int) (m:Nat):Bool:=eachS rdW SPH p m
theorem rdH_le {p:Int} {m:Nat} (hm:1≤m) (h:rdH p m=true):p + m≤756:=by
 unfold rdH eachS at h
 rw [List.all_eq_true] at h
 obtain ⟨x,hx,hc,_⟩:=want_some (h (m - 1) (List.mem_range.2 (by omega)))
 unfold covS at hc
 rw [decide_eq_true_eq] at hc
 simp only [SPH,List.mem_cons,List.not_mem_nil,or_false] at hx
 rcases hx with rfl | rfl | rfl | rfl | rfl | rfl | rfl | rfl | rfl | rfl | rfl | rfl <;> dsimp only at hc <;> omega
theorem okSPH:∀ x ∈ SPH,OkAr x:=fun x hx=>by
 simp only [SPH,List.mem_cons,List.not_mem_nil,or_false] at hx
 rcases hx with rfl | rfl | rfl | rfl | rfl | rfl | rfl | rfl | rfl | rfl | rfl | rfl <;> exact ⟨by decide,by decide,by decide,by decide⟩
theorem okOne {k:Int} (h0:0≤k) (h1:k≤100) {r w h:Bool}:∀ x ∈ [((0:Int),k,r,w,h)],OkAr x:=fun x hx=>by
 rw [List.mem_singleton] at hx
 subst hx
 exact ⟨by dsimp only; omega,by dsimp only; omega,by dsimp only; omega,by dsimp only; omega⟩
def chkS (a:TA):Bool :=
 if a.1=1 then decide (a.2.1 + a.2.2.1≤16) else if a.1=2∨a.1=4 then decide (a.2.1 + a.2.2.1≤8)
 else if a.1=3 then rdH a.2.1 a.2.2.1.toNat
 else if a.1=5∨a.1=15 then decide (a.2.1 + (a.2.2.2.2.2.length:Int)≤16)
 else if a.1=23 then rdH a.2.1 a.2.2.1.toNat && decide (a.2.2.2.1=272∧a.2.2.2.2.1.length=8∨a.2.2.2.1=288∧a.2.2.2.2.1.length=20)
 else decide (a.2.1=272∧a.2.2.2.2.1.length=8∨a.2.1=288∧a.2.2.2.2.1.length=20)
abbrev XV:=(List TArea×List Bool)×(List TArea×List Bool)×(List TArea×List Int)×List TArea×List Int
def vS:XV:=(([(0,16,true,true,false)],[]),([(0,8,true,false,false)],[]),(SPH,[]),[(0,8,true,false,false)],[])
theorem check_eq {a:TA} (h:OkA a) (hr:q1o_ a=true):q4w_ (SP,a,())=some (if chkS a=true then 0 else 2,()):=by
 have hra:=q3i_ hr
 have ht:=target_eq h
 have p0:=h.at0
 have p1:=h.at1
 have t0:=h.t0
 have t1:=h.t1
 have m0:=h.m0
 have m1:=h.m1
 show qhr_ q15_ SP a=_
 unfold qhr_
 have ho:qii_ (SP,([],[],[],[]),())=some (vS,()):=rfl
 rw [right_eq h,hr,Option.bind_some,if_neg (by decide),ho,Option.bind_some,uses_eq,Option.bind_some]
 have K1t:∀ u,q15_ true a vS u=some (2,()):=fun u=>rfl
 have K1:∀ u,q15_ false a vS u=Option.bind (qaa_ (a,())) fun y=>if eqi u.2 1=true then Option.bind (q2h_ (vS.1,y.1,y.2.1,())) fun y=>q4x_ !y.1 else if eqi u.2 2=true then Option.bind (q2h_ (vS.2.1,y.1,y.2.1,())) fun y=>q4x_ !y.1 else if eqi u.2 3=true then Option.bind (q18_ (vS.2.2.1,y.1,y.2.1,())) fun y=>q4x_ !y.1 else if eqi u.2 4=true then Option.bind (q18_ (vS.2.2.2,y.1,y.2.1,())) fun y=>q4x_ !y.1 else q4x_ false:=fun u=>rfl
 rw [ht] at K1
 simp only [Option.bind_some] at K1
 have K2:∀ b:Bool,q4x_ (!b)=some (if b=true then 0 else 2,()):=fun b=>by cases b <;> rfl
 have K1b:∀ (b:Bool) (u:Int×Int),u.2=0->q15_ (!b) a vS u=some (if b=true then 0 else 2,()):=fun b u hu=>by
  cases b with
  | true =>
   show q15_ false a vS u=_
   rw [K1,hu]
   rfl
  | false=>rfl
 cases hra with
 | bits f p n hf h1 h2 =>
  obtain ⟨n,rfl⟩:=Int.eq_ofNat_of_zero_le (show 0≤n by omega)
  have p0:0≤p:=p0
  have p1:p≤65535:=p1
  have hc:cvt .i64 p=p:=cvt64 (by omega) (by omega)
  have hc2:cvt .i64 (n:Int)=n:=cvt64 (by omega) (by omega)
  rcases hf with rfl | rfl
  ·have hb:=tab_br (l:=[(0,16,true,true,false)]) (p:=p) (m:=n) p0 (by omega) (by omega) (by decide) (okOne (by decide) (by decide)) []
   rw [each_read (by decide) p0 (by omega) rdW rfl] at hb
   rw [<- hc,<- hc2] at hb
   show Option.bind (q2i_ (vS.1,cvt .i64 p,cvt .i64 (n:Int),())) (fun y=>q15_ (!y.1) (1,p,(n:Int),0,[],[]) vS (1,0))=_
   refine (congrArg (fun z=>Option.bind z _) hb).trans ?_
   rw [Option.bind_some,K1b _ _ rfl,hc,hc2]
   rfl
  ·have hb:=tab_br (l:=[(0,8,true,false,false)]) (p:=p) (m:=n) p0 (by omega) (by omega) (by decide) (okOne (by decide) (by decide)) []
   rw [each_read (by decide) p0 (by omega) rdW rfl] at hb
   rw [<- hc,<- hc2] at hb
   show Option.bind (q2i_ (vS.2.1,cvt .i64 p,cvt .i64 (n:Int),())) (fun y=>q15_ (!y.1) (2,p,(n:Int),0,[],[]) vS (2,0))=_
   refine (congrArg (fun z=>Option.bind z _) hb).trans ?_
   rw [Option.bind_some,K1b _ _ rfl,hc,hc2]
   rfl
 | words f p n hf h1 h2 =>
  obtain ⟨n,rfl⟩:=Int.eq_ofNat_of_zero_le (show 0≤n by omega)
  have p0:0≤p:=p0
  have p1:p≤65535:=p1
  have hc:cvt .i64 p=p:=cvt64 (by omega) (by omega)
  have hc2:cvt .i64 (n:Int)=n:=cvt64 (by omega) (by omega)
  rcases hf with rfl | rfl
  ·have hu:=tab_ur (l:=SPH) (p:=p) (m:=n) p0 (by omega) (by omega) (by decide) okSPH []
   rw [<- hc,<- hc2] at hu
   show Option.bind (q1g_ (vS.2.2.1,cvt .i64 p,cvt .i64 (n:Int),())) (fun y=>q15_ (!y.1) (3,p,(n:Int),0,[],[]) vS (3,0))=_
   refine (congrArg (fun z=>Option.bind z _) hu).trans ?_
   rw [Option.bind_some,K1b _ _ rfl,hc]
   rfl
  ·have hu:=tab_ur (l:=[(0,8,true,false,false)]) (p:=p) (m:=n) p0 (by omega) (by omega) (by decide) (okOne (by decide) (by decide)) []
   rw [each_read (by decide) p0 (by omega) rdW rfl] at hu
   rw [<- hc,<- hc2] at hu
   show Option.bind (q1g_ (vS.2.2.2,cvt .i64 p,cvt .i64 (n:Int),())) (fun y=>q15_ (!y.1) (4,p,(n:Int),0,[],[]) vS (4,0))=_
   refine (congrArg (fun z=>Option.bind z _) hu).trans ?_
   rw [Option.bind_some,K1b _ _ rfl,hc,hc2]
   rfl
 | coil p b =>
  have p0:0≤p:=p0
  have p1:p≤65535:=p1
  have hw:=tab_bw (l:=[(0,16,true,true,false)]) (p:=p) (m:=1) p0 (by omega) (by omega) (by decide) (okOne (by decide) (by decide)) []
  rw [each_read (by decide) p0 (by omega) _ rfl] at hw
  show q15_ false (5,p,0,0,[],[b]) vS (0,1)=_
  rw [K1,if_pos (by decide)]
  refine (congrArg (fun z=>Option.bind z _) hw).trans ?_
  rw [Option.bind_some,K2]
  rfl
 | word p x =>
  have p0:0≤p:=p0
  have p1:p≤65535:=p1
  have hw:=tab_uw (l:=SPH) (p:=p) (m:=1) p0 (by omega) (by omega) (by decide) okSPH []
  rw [wrH_eq (by omega)] at hw
  show q15_ false (6,p,0,0,[x],[]) vS (0,3)=_
  rw [K1,if_neg (by decide),if_neg (by decide),if_pos (by decide)]
  refine (congrArg (fun z=>Option.bind z _) hw).trans ?_
  rw [Option.bind_some,K2]
  rfl
 | coils p l h1 h2 =>
  have p0:0≤p:=p0
  have p1:p≤65535:=p1
  have hw:=tab_bw (l:=[(0,16,true,true,false)]) (p:=p) (m:=l.length) p0 (by omega) (by omega) (by decide) (okOne (by decide) (by decide)) []
  rw [each_read (by decide) p0 (by omega) _ rfl] at hw
  show q15_ false (15,p,(l.length:Int),0,[],l) vS (0,1)=_
  rw [K1,if_pos (by decide)]
  refine (congrArg (fun z=>Option.bind z _) hw).trans ?_
  rw [Option.bind_some,K2]
  rfl
 | regs p l h1 h2 =>
  have p0:0≤p:=p0
  have p1:p≤65535:=p1
  have hw:=tab_uw (l:=SPH) (p:=p) (m:=l.length) p0 (by omega) (by omega) (by decide) okSPH []
  rw [wrH_eq (by omega)] at hw
  show q15_ false (16,p,(l.length:Int),0,l,[]) vS (0,3)=_
  rw [K1,if_neg (by decide),if_neg (by decide),if_pos (by decide)]
  have e:((([]:List Bool).length + l.length:Nat):Int)=(l.length:Int):=by simp
  show Option.bind (q18_ (vS.2.2.1,p,((([]:List Bool).length + l.length:Nat):Int),())) _=_
  rw [e]
  refine (congrArg (fun z=>Option.bind z _) hw).trans ?_
  rw [Option.bind_some,K2]
  rfl
 | swap p n t l h1 h2 h3 h4 =>
  obtain ⟨n,rfl⟩:=Int.eq_ofNat_of_zero_le (show 0≤n by omega)
  have p0:0≤p:=p0
  have p1:p≤65535:=p1
  have t0:0≤t:=t0
  have t1:t≤65535:=t1
  have hc:cvt .i64 p=p:=cvt64 (by omega) (by omega)
  have hc2:cvt .i64 (n:Int)=n:=cvt64 (by omega) (by omega)
  have hu:=tab_ur (l:=SPH) (p:=p) (m:=n) p0 (by omega) (by omega) (by decide) okSPH []
  rw [<- hc,<- hc2] at hu
  have hw:=tab_uw (l:=SPH) (p:=t) (m:=l.length) t0 (by omega) (by omega) (by decide) okSPH []
  rw [wrH_eq (by omega)] at hw
  show Option.bind (q1g_ (vS.2.2.1,cvt .i64 p,cvt .i64 (n:Int),())) (fun y=>q15_ (!y.1) (23,p,(n:Int),t,l,[]) vS (3,3))=_
  refine (congrArg (fun z=>Option.bind z _) hu).trans ?_
  rw [Option.bind_some,hc]
  show q15_ (!rdH p n) (23,p,(n:Int),t,l,[]) vS (3,3)=some (if (rdH p n && decide (t=272∧l.length=8∨t=288∧l.length=20))=true then 0 else 2,())
  cases rdH p n with
  | false=>rfl
  | true =>
   rw [Bool.true_and]
   show q15_ false _ vS (3,3)=_
   rw [K1,if_neg (by decide),if_neg (by decide),if_pos (by decide)]
   have e:((([]:List Bool).length + l.length:Nat):Int)=(l.length:Int):=by simp
   show Option.bind (q18_ (vS.2.2.1,t,((([]:List Bool).length + l.length:Nat):Int),())) _=_
   rw [e]
   refine (congrArg (fun z=>Option.bind z _) hw).trans ?_
   rw [Option.bind_some,K2]
theorem uread_eq {h:List Int} {p n:Int} (hp:0≤p) (hn:0≤n) (hh:h.length≤100000) (hle:p + n≤h.length) (l:List TArea):q7m_ ((l,h),p,n,1,())=some ((h.drop p.toNat).take n.toNat,()):=by
 obtain ⟨p,rfl⟩:=Int.eq_ofNat_of_zero_le hp
 obtain ⟨n,rfl⟩:=Int.eq_ofNat_of_zero_le hn
 have e1:mul .i64 (quo .i64 (sub .i64 (add .i64 (n:Int) 1) 1) 1) 1=(n:Int):=by
  rw [q1a_ (by omega),sub64 (by omega) (by omega),show (((n + 1:Nat):Int) - 1)=(n:Int) by omega]
  have:=quo_nat (i:=n) (d:=1) (by omega)
  rw [Nat.div_one] at this
  rw [show (1:Int)=((1:Nat):Int) from rfl,this,mul64 (by omega) (by omega)]
  omega
 show q90_ (l,h) (p:Int) (n:Int) 1=_
 unfold q90_
 rw [e1,q8_ (by decide),q8_ (q17_.2 (by omega)),q8_ (capOk_sf _),Int.toNat_natCast,qn_ (by omega),addn64 (by omega)]
 dsimp only
 rw [cut_nat (by omega) (by omega),Option.bind_some,List.length_replicate,q8_ (qv_.2 (by rw [q1_,q1_]; omega))]
 have hlen:((h.take (p + n)).drop p).length=n:=by rw [List.length_drop,List.length_take]; omega
 have ht:((h.take (p + n)).drop p)=(h.drop p).take n:=by rw [List.drop_take]; congr 1; omega
 have hz:List.drop (0 + n) (List.replicate n (0:Int))=[]:=List.drop_of_length_le (by rw [List.length_replicate]; omega)
 rw [q1_,Int.toNat_natCast,List.take_of_length_le (show ((h.take (p + n)).drop p).length≤n by omega),hlen,hz,List.append_nil,ht]
 rfl
theorem wrong_eq (f e:Int):qk_ (f,e,())=some ((rem f 128,e,[],[],0,0),()):=rfl
theorem right_f {a:TA} (hr:q1o_ a=true):1≤a.1∧a.1 < 128:=by
 cases q3i_ hr with
 | bits f p n hf=>show 1≤f∧f < 128; omega
 | words f p n hf=>show 1≤f∧f < 128; omega
 | coil p b=>exact ⟨(by decide:(1:Int)≤5),(by decide:(5:Int) < 128)⟩
 | word p x=>exact ⟨(by decide:(1:Int)≤6),(by decide:(6:Int) < 128)⟩
 | coils p l=>exact ⟨(by decide:(1:Int)≤15),(by decide:(15:Int) < 128)⟩
 | regs p l=>exact ⟨(by decide:(1:Int)≤16),(by decide:(16:Int) < 128)⟩
 | swap p n t l=>exact ⟨(by decide:(1:Int)≤23),(by decide:(23:Int) < 128)⟩
structure Rep (r:TR):Prop where
 ok:OkR r
 rr:RR r
 rt:rightR r=true
theorem rep_wrong {f e:Int} (h0:0≤f) (h1:f < 128) (h2:1≤e) (h3:e≤4):Rep (f,e,[],[],0,0):=by
 refine ⟨⟨h0,by show f≤255; omega,by show 0≤e; omega,by show e≤255; omega,(fun x hx=>by cases hx),(by decide:(0:Int)≤0),(by decide:(0:Int)≤65535),(by decide:(0:Int)≤0),(by decide:(0:Int)≤65535),Nat.zero_le _,Nat.zero_le _⟩,.ex f e h0 h1 h2 h3,?_⟩
 unfold rightR
 rw [if_pos (by rw [qf_]; show e ≠ 0; omega)]
 unfold exR
 dsimp only
 rw [rem128 h0 h1,decide_eq_true h1,decide_eq_true h2,decide_eq_true h3,decide_eq_true rfl]
 rfl
theorem rep_sm {r:TR} (h:Rep r):SmR r:=by
 cases h.rr <;> exact ⟨by simp <;> omega,by simp <;> omega⟩
theorem rep_bytes {r:TR} (h:Rep r):qcc_ (r,())=some (repB r,0,()):=by rw [rbytes_eq (rep_sm h),if_pos h.rt]
theorem rep_parse {r:TR} (h:Rep r):q89_ (repB r,())=some (r,0,()):=by rw [parse_eq,rparse_back h.ok h.rr h.rt]
end Go.Proofs.Lx
end
section
namespace Go.Proofs.Lx
open Go Ev Sx Pl
set_option maxRecDepth 100000
abbrev TMem:=List Bool×List Bool×List Int×List Int
structure OkS (s:TSl):Prop where
 u:1≤s.1∧s.1≤247
 l:s.2.1=1∨s.2.1=2
 a:OkG s.2.2.1
 c:s.2.2.2.length=16
def cpy {α:Type} (b:List α) (p:Nat) (w:List α):List α:=b.take p++w++b.drop (p + w.length)
theorem cpy_len {α:Type} {b w:List α} {p:Nat} (h:p + w.length≤b.length):(cpy b p w).length=b.length:=by
 unfold cpy
 rw [List.length_append,List.length_append,List.length_take,List.length_drop]
 omega
theorem cpy_rng {α:Type} {b w:List α} {p:Nat} {P:α->Prop} (hb:∀ y ∈ b,P y) (hx:∀ y ∈ w,P y):∀ y ∈ cpy b p w,P y:=by
 intro y hy
 unfold cpy at hy
 rcases List.mem_append.1 hy with h | h
 ·rcases List.mem_append.1 h with h | h
  ·exact hb y (List.mem_of_mem_take h)
  ·exact hx y h
 ·exact hb y (List.mem_of_mem_drop h)
theorem cpy_code {α:Type} {b w:List α} {p m:Nat} (hm:w.length≤m):b.take p++w.take m++b.drop (p + (w.take m).length)=cpy b p w:=by
 rw [List.take_of_length_le hm]
 rfl
def holdS (a:TAg):List Int:=(List.range 8).foldl (fun h b=>cpy h (512 + b * 32) (backS a.2.2.2.2.2.1 a.2.1.1 (b:Int))) (cpy (cpy (List.replicate 756 0) 0 a.1) 256 (statA a))
def inpS (a:TAg):List Bool:=((((List.replicate 8 false).set a.2.2.1.toNat true).set 4 (decide (a.2.1.1 ≠ 0))).set 5 (decide (true ∈ a.2.2.2.2.2.1.2.1)))
def memS (s:TSl):TMem:=(s.2.2.2,inpS s.2.2.1,holdS s.2.2.1,statA s.2.2.1)
theorem backS_len {s:TStg} {o n:Int}:(backS s o n).length=20:=by
 unfold backS
 split
 ·exact tagB_len
 ·rfl
theorem holdP_len {a:TAg} (h:OkG a):∀ k:Nat,k≤8->((List.range k).foldl (fun h b=>cpy h (512 + b * 32) (backS a.2.2.2.2.2.1 a.2.1.1 (b:Int))) (cpy (cpy (List.replicate 756 0) 0 a.1) 256 (statA a))).length=756
 | 0,_=>by
  have h64:=h.bl
  rw [List.range_zero,List.foldl_nil]
  have e1:(cpy (List.replicate 756 (0:Int)) 0 a.1).length=756:=by rw [cpy_len (by rw [List.length_replicate]; omega),List.length_replicate]
  rw [cpy_len (by rw [e1]; show 256 + 8≤756; omega),e1]
 | k + 1,hk=>by
  have ih:=holdP_len h k (by omega)
  rw [List.range_succ,List.foldl_append,List.foldl_cons,List.foldl_nil,cpy_len (by rw [ih,backS_len]; omega),ih]
theorem holdS_len {a:TAg} (h:OkG a):(holdS a).length=756:=holdP_len h 8 (by omega)
theorem inpS_len (a:TAg):(inpS a).length=8:=by
 unfold inpS
 rw [List.length_set,List.length_set,List.length_set,List.length_replicate]
set_option maxHeartbeats 1000000 in
theorem mem_eq {s:TSl} (h:OkS s):q3t_ (s,())=some (memS s,()):=by
 have ha:=h.a
 have hst:=astatus_eq ha
 have hfr:=lfree_eq ha.lr
 have hco:=contains_eq (s:=s.2.2.1.2.2.2.2.2.1.2.1) true (by have:=ha.hl; omega)
 have pr:=ha.pr
 have h64:=ha.bl
 have hh8:=ha.hl
 have h16:=h.c
 show qmq_ qm7_ s=_
 unfold qmq_
 simp only [hst,Option.bind_some,amb2 (eqAs_refl q2_.rs),amb3 (eqAs_refl q2_.rs)]
 show qo1_ qna_ s (statA s.2.2.1) (List.replicate 16 false) (List.replicate 8 false) (List.replicate 756 0)=_
 unfold qo1_
 obtain ⟨ph,hph⟩:=Int.eq_ofNat_of_zero_le pr.1
 have hin:(List.replicate 8 false)[ph]? = some false:=by rw [List.getElem?_replicate,if_pos (by omega)]
 have hcoil:List.take (Int.toNat (Int.ofNat (List.replicate 16 false).length)) s.2.2.2++List.drop (0 + (List.take (Int.toNat (Int.ofNat (List.replicate 16 false).length)) s.2.2.2).length) (List.replicate 16 false)=s.2.2.2:=by
  rw [List.length_replicate,show Int.toNat (Int.ofNat 16)=16 from rfl,List.take_of_length_le (by omega),h16,List.drop_of_length_le (by rw [List.length_replicate]; omega),List.append_nil]
 rw [q8_ (qv_.2 (by rw [q1_,q1_]; omega)),if_pos (qv_.2 pr.2),hph,ql_ hin,Option.bind_some,Option.bind_some,hcoil,Int.toNat_natCast]
 show qnq_ qdg_ s (statA s.2.2.1) s.2.2.2 ((List.replicate 8 false).set ph true) (List.replicate 756 0)=_
 unfold qnq_
 have h4:∃ x,((List.replicate 8 false).set ph true)[4]? = some x:=get_of (by rw [List.length_set,List.length_replicate]; omega)
 obtain ⟨x4,h4⟩:=h4
 have t8:List.take 8 (List.drop 0 s.2.2.1.2.2.2.2.2.1.2.1)=s.2.2.1.2.2.2.2.2.1.2.1:=by rw [List.drop_zero,List.take_of_length_le (by omega)]
 rw [hfr,Option.bind_some,show at? ((List.replicate 8 false).set ph true) 4=some x4 from ql_ h4,Option.bind_some,Option.bind_some,t8,hco,Option.bind_some]
 dsimp only
 generalize hy:(!decide (s.2.2.1.2.1.1=0))=y4
 have h5:∃ x,(((List.replicate 8 false).set ph true).set 4 y4)[5]? = some x:=get_of (by rw [List.length_set,List.length_set,List.length_replicate]; omega)
 obtain ⟨x5,h5⟩:=h5
 rw [show at? (((List.replicate 8 false).set ph true).set 4 y4) 5=some x5 from ql_ h5,Option.bind_some,Option.bind_some]
 have c64:List.take 64 s.2.2.1.1++List.drop (0 + (List.take 64 s.2.2.1.1).length) (List.replicate 756 (0:Int))=cpy (List.replicate 756 0) 0 s.2.2.1.1:=cpy_code (p:=0) (b:=List.replicate 756 (0:Int)) (by omega)
 have l64:(cpy (List.replicate 756 (0:Int)) 0 s.2.2.1.1).length=756:=by rw [cpy_len (by rw [List.length_replicate]; omega),List.length_replicate]
 rw [c64,l64]
 have l8:(statA s.2.2.1).length=8:=rfl
 have cst:List.take 256 (cpy (List.replicate 756 0) 0 s.2.2.1.1)++List.take (Int.toNat (Int.ofNat 756 - 256)) (statA s.2.2.1)++List.drop (256 + (List.take (Int.toNat (Int.ofNat 756 - 256)) (statA s.2.2.1)).length) (cpy (List.replicate 756 0) 0 s.2.2.1.1)=cpy (cpy (List.replicate 756 0) 0 s.2.2.1.1) 256 (statA s.2.2.1):=cpy_code (by rw [l8]; decide)
 rw [cst]
 rw [q8_ (by decide),q8_ (by decide),q8_ (by decide),q8_ (by decide),q8_ (by decide),q8_ (by decide)]
 show qdg_ s 0 (statA s.2.2.1) s.2.2.2 _ _=_
 have hinp:((((List.replicate 8 false).set ph true).set 4 y4).set 5 (decide (true ∈ s.2.2.1.2.2.2.2.2.1.2.1)))=inpS s.2.2.1:=by
  unfold inpS
  rw [hph,Int.toNat_natCast,<- hy]
  congr 2
  by_cases e:s.2.2.1.2.1.1=0
  ·rw [decide_eq_true e,decide_eq_false (fun x=>x e)]; rfl
  ·rw [decide_eq_false e,decide_eq_true e]; rfl
 rw [hinp]
 unfold memS holdS
 unfold qdg_
 refine loop_dt (N:=8) (mk:=fun i=>(s,(i:Int),statA s.2.2.1,s.2.2.2,inpS s.2.2.1,(List.range i).foldl (fun h b=>cpy h (512 + b * 32) (backS s.2.2.1.2.2.2.2.2.1 s.2.2.1.2.1.1 (b:Int))) (cpy (cpy (List.replicate 756 0) 0 s.2.2.1.1) 256 (statA s.2.2.1)))) ?_ ?_ 8 0 _ (by omega) (by omega)
 ·intro self i hi
  have hlen:=holdP_len ha i (by omega)
  have hsucc:(List.range (i + 1)).foldl (fun h b=>cpy h (512 + b * 32) (backS s.2.2.1.2.2.2.2.2.1 s.2.2.1.2.1.1 (b:Int))) (cpy (cpy (List.replicate 756 0) 0 s.2.2.1.1) 256 (statA s.2.2.1))=cpy ((List.range i).foldl (fun h b=>cpy h (512 + b * 32) (backS s.2.2.1.2.2.2.2.2.1 s.2.2.1.2.1.1 (b:Int))) (cpy (cpy (List.replicate 756 0) 0 s.2.2.1.1) 256 (statA s.2.2.1))) (512 + i * 32) (backS s.2.2.1.2.2.2.2.2.1 s.2.2.1.2.1.1 (i:Int)):=by
   rw [List.range_succ,List.foldl_append]
   rfl
  rw [hsucc]
  generalize (List.range i).foldl (fun h b=>cpy h (512 + b * 32) (backS s.2.2.1.2.2.2.2.2.1 s.2.2.1.2.1.1 (b:Int))) (cpy (cpy (List.replicate 756 0) 0 s.2.2.1.1) 256 (statA s.2.2.1))=hd at hlen
  show qcz_ _ s (i:Int) (statA s.2.2.1) s.2.2.2 (inpS s.2.2.1) hd=_
  unfold qcz_
  have e1:mul .i64 (i:Int) 32=((i * 32:Nat):Int):=by rw [mul64 (by omega) (by omega)]; omega
  have e2:add .i64 512 ((i * 32:Nat):Int)=((512 + i * 32:Nat):Int):=addn64 (n:=512) (by omega)
  have hbk:=back_eq (s:=s.2.2.1.2.2.2.2.2.1) (o:=s.2.2.1.2.1.1) (n:=(i:Int))
  have hstx:0≤s.2.2.1.2.2.2.2.2.1.1∧s.2.2.1.2.2.2.2.2.1.1≤4294967295:=by
   by_cases e:s.2.2.1.2.2.1=0
   ·have:=(ha.p0 e).2.2.1; omega
   ·have:=(ha.pn e).2.2; have:=ha.tr; omega
  have hbk:=hbk hstx.1 hstx.2 ⟨by omega,by omega⟩ ha.hl ha.sl ha.bb
  rw [if_pos (q7_.2 (by omega)),e1,e2,q8_ (q17_.2 (by omega)),q8_ (qv_.2 (by rw [q1_,hlen]; omega)),q8_ (qv_.2 (Int.le_refl _)),show at? (statA s.2.2.1) 0=some s.2.2.1.2.1.1 from rfl,Option.bind_some,hbk,Option.bind_some,q8_ (qv_.2 (by rw [q1_,hlen]; omega)),q1a_ (by omega),Int.toNat_natCast]
  dsimp only
  rw [cpy_code (by rw [backS_len,q1_,hlen]; omega)]
 ·intro self
  show qcz_ _ s (8:Int) _ _ _ _=_
  unfold qcz_
  rw [if_neg (by decide)]
end Go.Proofs.Lx
end
section
namespace Go.Proofs.Lx
open Go Ev Sx Pl
set_option maxRecDepth 100000
def rgtT (n:Int) (fixed:Bool):Int->List TArea->Bool
 | _,[]=>true
 | e,x::r=>if x.1 < e∨n < x.1∨x.2.1 < 1∨n - x.1 < x.2.1∨(fixed=true∧x.2.2.2.1=true) then false else rgtT n fixed (x.1 + x.2.1) r
theorem goL_rgt (n:Int) (fixed:Bool):∀ (l:List TArea) (e:Int),goL (R:=Bool×Unit) (fun (e:Int) (x:TArea) k=>if x.1 < e∨n < x.1∨x.2.1 < 1∨n - x.1 < x.2.1∨(fixed=true∧x.2.2.2.1=true) then some (false,()) else k (x.1 + x.2.1)) (fun _=>some (true,())) l e=some (rgtT n fixed e l,())
 | [],_=>rfl
 | x::r,e=>by
  show (if _ then _ else goL _ _ r _)=_
  rw [goL_rgt n fixed r,rgtT]
  split <;> rfl
theorem ur_right {l:List TArea} {h:List Int} {fixed:Bool} (ho:∀ x ∈ l,OkAr x) (hp:∀ x ∈ l,0≤x.1) (hh:h.length≤65536) (hl:l.length≤1000):q4t_ ((l,h),fixed,())=some (rgtT h.length fixed 0 l,()):=by
 show q57_ q2v_ (l,h) fixed=_
 unfold q57_
 rw [if_neg (fun e=>by have:=gt_iff.1 e; rw [q1_] at this; dsimp only at this; omega)]
 show q2v_ fixed 0 l (Int.ofNat l.length) 0 (l,h)=_
 rw [<- goL_rgt]
 unfold q2v_
 refine loop_go (xs:=l) (mk:=fun i e=>(fixed,e,l,Int.ofNat l.length,(i:Int),(l,h))) ?_ ?_ l.length 0 0 _ (by omega) (by omega)
 ·intro self i e x hx
  have hi:=(List.getElem?_eq_some_iff.1 hx).1
  have hm:=List.mem_of_getElem? hx
  have o:=ho x hm
  have p:=hp x hm
  unfold OkAr at o
  show q2u_ _ _ fixed e l (Int.ofNat l.length) (i:Int) (l,h)=_
  unfold q2u_
  rw [if_pos (by rw [q7_,q1_]; omega),ql_ hx,Option.bind_some]
  dsimp only
  have K3:∀ t,q3s_ (fun fixed endV t13 t14 t15 t=>self (fixed,endV,t13,t14,t15,t)) fixed l (Int.ofNat l.length) (i:Int) t (l,h) x=if t=true then some (false,()) else self (fixed,add .i64 x.1 x.2.1,l,Int.ofNat l.length,((i + 1:Nat):Int),(l,h)):=fun t=>by
   unfold q3s_ q8l_
   rw [q1a_ (by omega)]
  have K2:∀ t,q3u_ (fun fixed endV t13 t14 t15 t=>self (fixed,endV,t13,t14,t15,t)) fixed l (Int.ofNat l.length) (i:Int) t (l,h) x=if t=true∨(fixed=true∧x.2.2.2.1=true) then some (false,()) else self (fixed,add .i64 x.1 x.2.1,l,Int.ofNat l.length,((i + 1:Nat):Int),(l,h)):=fun t=>by
   unfold q3u_ q8b_
   rw [K3,K3]
   cases t <;> cases fixed <;> simp
  rw [K2,K2]
  simp only [true_or,if_true]
  rw [lt_dec,gt_dec,lt_dec,gt_dec,q1_]
  by_cases q1:x.1 < e
  ·rw [if_pos (decide_eq_true q1),if_pos (Or.inl q1)]
  ·rw [if_neg (by rw [decide_eq_true_eq]; exact q1)]
   by_cases q2:(h.length:Int) < x.1
   ·rw [if_pos (decide_eq_true q2),if_pos (Or.inr (Or.inl q2))]
   ·rw [if_neg (by rw [decide_eq_true_eq]; exact q2)]
    by_cases q3:x.2.1 < 1
    ·rw [if_pos (decide_eq_true q3),if_pos (Or.inr (Or.inr (Or.inl q3)))]
    ·rw [if_neg (by rw [decide_eq_true_eq]; exact q3),sub64 (by omega) (by omega)]
     by_cases q4:(h.length:Int) - x.1 < x.2.1
     ·rw [if_pos (Or.inl (decide_eq_true q4)),if_pos (Or.inr (Or.inr (Or.inr (Or.inl q4))))]
     ·rw [add64 (by omega) (by omega)]
      by_cases q5:fixed=true∧x.2.2.2.1=true
      ·rw [if_pos (Or.inr q5),if_pos (Or.inr (Or.inr (Or.inr (Or.inr q5))))]
      ·rw [if_neg (by rintro (e | e); exact q4 (of_decide_eq_true e); exact q5 e),if_neg (by rintro (e | e | e | e | e); exact q1 e; exact q2 e; exact q3 e; exact q4 e; exact q5 e)]
 ·intro self e
  show q2u_ _ _ fixed e l (Int.ofNat l.length) (l.length:Int) (l,h)=_
  unfold q2u_
  rw [if_neg (by rw [q7_,q1_]; omega)]
theorem br_right {l:List TArea} {h:List Bool} {fixed:Bool} (ho:∀ x ∈ l,OkAr x) (hp:∀ x ∈ l,0≤x.1) (hh:h.length≤65536) (hl:l.length≤1000):q5q_ ((l,h),fixed,())=some (rgtT h.length fixed 0 l,()):=by
 show q6k_ q3a_ (l,h) fixed=_
 unfold q6k_
 rw [if_neg (fun e=>by have:=gt_iff.1 e; rw [q1_] at this; dsimp only at this; omega)]
 show q3a_ fixed 0 l (Int.ofNat l.length) 0 (l,h)=_
 rw [<- goL_rgt]
 unfold q3a_
 refine loop_go (xs:=l) (mk:=fun i e=>(fixed,e,l,Int.ofNat l.length,(i:Int),(l,h))) ?_ ?_ l.length 0 0 _ (by omega) (by omega)
 ·intro self i e x hx
  have hi:=(List.getElem?_eq_some_iff.1 hx).1
  have hm:=List.mem_of_getElem? hx
  have o:=ho x hm
  have p:=hp x hm
  unfold OkAr at o
  show q3b_ _ _ fixed e l (Int.ofNat l.length) (i:Int) (l,h)=_
  unfold q3b_
  rw [if_pos (by rw [q7_,q1_]; omega),ql_ hx,Option.bind_some]
  dsimp only
  have K3:∀ t,q4f_ (fun fixed endV t13 t14 t15 t=>self (fixed,endV,t13,t14,t15,t)) fixed l (Int.ofNat l.length) (i:Int) t (l,h) x=if t=true then some (false,()) else self (fixed,add .i64 x.1 x.2.1,l,Int.ofNat l.length,((i + 1:Nat):Int),(l,h)):=fun t=>by
   unfold q4f_ q94_
   rw [q1a_ (by omega)]
  have K2:∀ t,q4h_ (fun fixed endV t13 t14 t15 t=>self (fixed,endV,t13,t14,t15,t)) fixed l (Int.ofNat l.length) (i:Int) t (l,h) x=if t=true∨(fixed=true∧x.2.2.2.1=true) then some (false,()) else self (fixed,add .i64 x.1 x.2.1,l,Int.ofNat l.length,((i + 1:Nat):Int),(l,h)):=fun t=>by
   unfold q4h_ q98_
   rw [K3,K3]
   cases t <;> cases fixed <;> simp
  rw [K2,K2]
  simp only [true_or,if_true]
  rw [lt_dec,gt_dec,lt_dec,gt_dec,q1_]
  by_cases q1:x.1 < e
  ·rw [if_pos (decide_eq_true q1),if_pos (Or.inl q1)]
  ·rw [if_neg (by rw [decide_eq_true_eq]; exact q1)]
   by_cases q2:(h.length:Int) < x.1
   ·rw [if_pos (decide_eq_true q2),if_pos (Or.inr (Or.inl q2))]
   ·rw [if_neg (by rw [decide_eq_true_eq]; exact q2)]
    by_cases q3:x.2.1 < 1
    ·rw [if_pos (decide_eq_true q3),if_pos (Or.inr (Or.inr (Or.inl q3)))]
    ·rw [if_neg (by rw [decide_eq_true_eq]; exact q3),sub64 (by omega) (by omega)]
     by_cases q4:(h.length:Int) - x.1 < x.2.1
     ·rw [if_pos (Or.inl (decide_eq_true q4)),if_pos (Or.inr (Or.inr (Or.inr (Or.inl q4))))]
     ·rw [add64 (by omega) (by omega)]
      by_cases q5:fixed=true∧x.2.2.2.1=true
      ·rw [if_pos (Or.inr q5),if_pos (Or.inr (Or.inr (Or.inr (Or.inr q5))))]
      ·rw [if_neg (by rintro (e | e); exact q4 (of_decide_eq_true e); exact q5 e),if_neg (by rintro (e | e | e | e | e); exact q1 e; exact q2 e; exact q3 e; exact q4 e; exact q5 e)]
 ·intro self e
  show q3b_ _ _ fixed e l (Int.ofNat l.length) (l.length:Int) (l,h)=_
  unfold q3b_
  rw [if_neg (by rw [q7_,q1_]; omega)]
structure SzM (m:TMem):Prop where
 c:m.1.length=16
 i:m.2.1.length=8
 h:m.2.2.1.length=756
 w:m.2.2.2.length=8
theorem memS_sz {s:TSl} (h:OkS s):SzM (memS s):=⟨h.c,inpS_len _,holdS_len h.a,rfl⟩
theorem posOne {k:Int} {r w h:Bool}:∀ x ∈ [((0:Int),k,r,w,h)],0≤x.1:=fun x hx=>by
 rw [List.mem_singleton] at hx
 subst hx
 exact Int.le_refl _
theorem posSPH:∀ x ∈ SPH,0≤x.1:=by decide
theorem mright_eq {m:TMem} (h:SzM m):qgc_ (SP,m,())=some (true,()):=by
 obtain ⟨c,i,hd,w⟩:=m
 have hc:c.length=16:=h.c
 have hi:i.length=8:=h.i
 have hh:hd.length=756:=h.h
 have hw:w.length=8:=h.w
 show qor_ SP (c,i,hd,w)=_
 unfold qor_
 have ho:qii_ (SP,(c,i,hd,w),())=some ((([(0,16,true,true,false)],c),([(0,8,true,false,false)],i),(SPH,hd),[(0,8,true,false,false)],w),()):=rfl
 rw [ho,Option.bind_some]
 dsimp only
 rw [br_right (okOne (by decide) (by decide)) posOne (by omega) (by decide),Option.bind_some,hc,if_pos (by decide),br_right (okOne (by decide) (by decide)) posOne (by omega) (by decide),Option.bind_some,hi,if_pos (by decide),ur_right okSPH posSPH (by omega) (by decide),Option.bind_some,hh,if_pos (by decide),ur_right (okOne (by decide) (by decide)) posOne (by omega) (by decide),hw]
 rfl
def rdBits (c:List Bool) (p n:Nat):List Bool:=(c.drop p).take n++List.replicate ((n + 7) / 8 * 8 - n) false
theorem bread_eq {c:List Bool} {p n:Int} (hp:0≤p) (hn:0≤n) (hh:c.length≤100000) (hle:p + n≤c.length) (l:List TArea):q8q_ ((l,c),p,n,8,())=some (rdBits c p.toNat n.toNat,()):=by
 obtain ⟨p,rfl⟩:=Int.eq_ofNat_of_zero_le hp
 obtain ⟨n,rfl⟩:=Int.eq_ofNat_of_zero_le hn
 have e1:mul .i64 (quo .i64 (sub .i64 (add .i64 (n:Int) 8) 1) 8) 8=(((n + 7) / 8 * 8:Nat):Int):=by
  have e0:add .i64 (n:Int) 8=((n + 8:Nat):Int):=addn64 (m:=8) (by omega)
  rw [e0,sub64 (by omega) (by omega),show (((n + 8:Nat):Int) - 1)=((n + 7:Nat):Int) by omega]
  have:=quo_nat (i:=n + 7) (d:=8) (by omega)
  rw [show (8:Int)=((8:Nat):Int) from rfl,this,mul64 (by omega) (by omega)]
  omega
 show qao_ (l,c) (p:Int) (n:Int) 8=_
 unfold qao_
 rw [e1,q8_ (by decide),q8_ (q17_.2 (by omega)),q8_ (capOk_sf _),Int.toNat_natCast,qn_ (by omega),addn64 (by omega)]
 dsimp only
 rw [cut_nat (by omega) (by omega),Option.bind_some,List.length_replicate,q8_ (qv_.2 (by rw [q1_,q1_]; omega))]
 have hlen:((c.take (p + n)).drop p).length=n:=by rw [List.length_drop,List.length_take]; omega
 have ht:((c.take (p + n)).drop p)=(c.drop p).take n:=by rw [List.drop_take]; congr 1; omega
 rw [q1_,Int.toNat_natCast,List.take_of_length_le (show ((c.take (p + n)).drop p).length≤(n + 7) / 8 * 8 by omega),hlen,List.drop_replicate,ht]
 unfold rdBits
 rw [Int.toNat_natCast,Nat.zero_add]
 rfl
def isE (f:Int):Bool:=decide (f=5∨f=6∨f=15∨f=16)
def echoR (a:TA):TR:=if a.1=5 then (5,0,[a.2.2.2.2.2.headD false],[],a.2.1,0) else if a.1=6 then (6,0,[],[a.2.2.2.2.1.headD 0],a.2.1,0) else (a.1,0,[],[],a.2.1,a.2.2.1)
theorem secho_eq {a:TA} (h:OkA a) (hr:q1o_ a=true):q5y_ (a,())=some (if isE a.1=true then echoR a else zR,isE a.1,()):=by
 show qbh_ q8z_ qg2_ a=_
 unfold qbh_
 rw [right_eq h,hr,Option.bind_some,if_neg (by decide)]
 cases q3i_ hr with
 | bits f p n hf h1 h2=>rcases hf with rfl | rfl <;> rfl
 | words f p n hf h1 h2=>rcases hf with rfl | rfl <;> rfl
 | coil p b=>rfl
 | word p x=>rfl
 | coils p l h1 h2=>rfl
 | regs p l h1 h2=>rfl
 | swap p n t l h1 h2 h3 h4=>rfl
def ansR (m:TMem) (a:TA):TR :=
 if a.1=1 then (a.1,0,rdBits m.1 a.2.1.toNat a.2.2.1.toNat,[],0,0)
 else if a.1=2 then (a.1,0,rdBits m.2.1 a.2.1.toNat a.2.2.1.toNat,[],0,0)
 else if a.1=4 then (a.1,0,[],(m.2.2.2.drop a.2.1.toNat).take a.2.2.1.toNat,0,0)
 else (a.1,0,[],(m.2.2.1.drop a.2.1.toNat).take a.2.2.1.toNat,0,0)
def wrM (m:TMem) (a:TA):TMem :=
 if a.1=5∨a.1=15 then (cpy m.1 a.2.1.toNat a.2.2.2.2.2,m.2)
 else if a.1=16 then (m.1,m.2.1,cpy m.2.2.1 a.2.1.toNat a.2.2.2.2.1,m.2.2.2)
 else if a.1=23 then (m.1,m.2.1,cpy m.2.2.1 a.2.2.2.1.toNat a.2.2.2.2.1,m.2.2.2)
 else m
def doM (m:TMem) (a:TA):TMem×TR:=if chkS a=true then (wrM m a,if isE a.1=true then echoR a else ansR (wrM m a) a) else (m,(a.1,2,[],[],0,0))
theorem cloneBr_eq {s:List Bool} (h:s.length≤1000000):q40_ (s,())=some (s,()):=by
 show qbb_ s=_
 unfold qbb_
 by_cases h0:s.length=0
 ·have:s=[]:=List.eq_nil_of_length_eq_zero h0
  subst this
  rfl
 ·rw [if_neg (by rw [q4_,q1_]; omega),qn_ (by omega)]
theorem mdo_K1 (a:TA) (m:TMem) (u:Int×Int):qgb_ a 0 0 0 0 m.1 m.2.1 m.2.2.1 m.2.2.2 SP.1 SP.2.1 SP.2.2.1 SP.2.2.2 u=Option.bind (q5y_ (a,())) fun y=>if y.2.1=true then some (m,y.1,()) else Option.bind (q7r_ (((SP.1,m.1),(SP.2.1,m.2.1),(SP.2.2.1,m.2.2.1),SP.2.2.2,m.2.2.2),u.1,a,())) fun y=>some (m,y.1,()):=rfl
theorem wrM_sz {m:TMem} (h:SzM m) {a:TA} (ha:OkA a) (hr:q1o_ a=true) (hc:chkS a=true):SzM (wrM m a):=by
 have p0:=ha.at0
 have t0:=ha.t0
 unfold wrM
 unfold chkS at hc
 split
 ·rename_i q
  rw [if_neg (by omega),if_neg (by omega),if_neg (by omega),if_pos q,decide_eq_true_eq] at hc
  exact ⟨by rw [cpy_len (by have:=h.c; omega)]; exact h.c,h.i,h.h,h.w⟩
 ·rename_i q
  split
  ·rename_i q2
   rw [if_neg (by omega),if_neg (by omega),if_neg (by omega),if_neg q,if_neg (by omega),decide_eq_true_eq] at hc
   exact ⟨h.c,h.i,by show (cpy _ _ _).length=756; rw [cpy_len (by have:=h.h; omega)]; exact h.h,h.w⟩
  ·rename_i q2
   split
   ·rename_i q3
    rw [if_neg (by omega),if_neg (by omega),if_neg (by omega),if_neg q,if_pos q3,Bool.and_eq_true,decide_eq_true_eq] at hc
    exact ⟨h.c,h.i,by show (cpy _ _ _).length=756; rw [cpy_len (by have:=h.h; omega)]; exact h.h,h.w⟩
   ·exact h
theorem answer_eq {m:TMem} (h:SzM m) {a:TA} (ha:OkA a) (hr:q1o_ a=true) (hc:chkS a=true) (he:isE a.1=false) (k:Int) (hk:k=(if a.1=1 then 1 else if a.1=2 then 2 else if a.1=4 then 4 else 3)) :
  q7r_ (((SP.1,m.1),(SP.2.1,m.2.1),(SP.2.2.1,m.2.2.1),SP.2.2.2,m.2.2.2),k,a,())=some (ansR m a,()):=by
 have p0:=ha.at0
 have p1:=ha.at1
 have m0:=ha.m0
 have m1:=ha.m1
 have hcp:cvt .i64 a.2.1=a.2.1:=cvt64 (by omega) (by omega)
 have hcn:cvt .i64 a.2.2.1=a.2.2.1:=cvt64 (by omega) (by omega)
 have h1:=h.c
 have h2:=h.i
 have h3:=h.h
 have h4:=h.w
 have hn:1≤a.2.2.1∨isE a.1=true:=by
  cases q3i_ hr with
  | bits f p n hf h1 h2=>exact Or.inl h1
  | words f p n hf h1 h2=>exact Or.inl h1
  | coil p b=>exact Or.inr rfl
  | word p x=>exact Or.inr rfl
  | coils p l h1 h2=>exact Or.inr rfl
  | regs p l h1 h2=>exact Or.inr rfl
  | swap p n t l g1 g2 g3 g4=>exact Or.inl g3
 have hn1:1≤a.2.2.1:=by rcases hn with h | h; exact h; rw [he] at h; cases h
 show qc9_ _ k a=_
 unfold qc9_
 unfold chkS at hc
 unfold ansR
 rw [hcp,hcn]
 by_cases q1:a.1=1
 ·rw [if_pos q1] at hk hc
  rw [decide_eq_true_eq] at hc
  subst hk
  rw [if_pos (by rfl),if_pos q1]
  dsimp only
  rw [bread_eq p0 m0 (by omega) (by omega)]
  rfl
 ·rw [if_neg q1] at hk hc
  by_cases q2:a.1=2
  ·rw [if_pos q2] at hk
   rw [if_pos (Or.inl q2),decide_eq_true_eq] at hc
   subst hk
   rw [if_neg (by decide),if_pos (by rfl),if_neg q1,if_pos q2]
   dsimp only
   rw [bread_eq p0 m0 (by omega) (by omega)]
   rfl
  ·rw [if_neg q2] at hk
   by_cases q4:a.1=4
   ·rw [if_pos q4] at hk
    rw [if_pos (Or.inr q4),decide_eq_true_eq] at hc
    subst hk
    rw [if_neg (by decide),if_neg (by decide),if_neg (by decide),if_pos (by rfl),if_neg q1,if_neg q2,if_pos q4]
    dsimp only
    rw [uread_eq p0 m0 (by omega) (by omega)]
    rfl
   ·rw [if_neg q4] at hk
    rw [if_neg (by omega)] at hc
    subst hk
    rw [if_neg (by decide),if_neg (by decide),if_pos (by rfl),if_neg q1,if_neg q2,if_neg q4]
    have hle:rdH a.2.1 a.2.2.1.toNat=true:=by
     by_cases q3:a.1=3
     ·rw [if_pos q3] at hc; exact hc
     ·rw [if_neg q3] at hc
      by_cases q5:a.1=5∨a.1=15
      ·exact absurd (decide_eq_true (show a.1=5∨a.1=6∨a.1=15∨a.1=16 by omega)) (by unfold isE at he; rw [he]; decide)
      ·rw [if_neg q5] at hc
       by_cases q6:a.1=23
       ·rw [if_pos q6,Bool.and_eq_true] at hc; exact hc.1
       ·exfalso
        have:a.1=6∨a.1=16:=by
         cases q3i_ hr with
         | bits f p n hf=>exact absurd (show f=1∨f=2 from hf) (by dsimp only at q1 q2; omega)
         | words f p n hf=>exact absurd (show f=3∨f=4 from hf) (by dsimp only at q3 q4; omega)
         | coil p b=>exact absurd (Or.inl rfl) q5
         | word p x=>exact Or.inl rfl
         | coils p l=>exact absurd (Or.inr rfl) q5
         | regs p l=>exact Or.inr rfl
         | swap p n t l=>exact absurd rfl q6
        exact absurd (decide_eq_true (show a.1=5∨a.1=6∨a.1=15∨a.1=16 by omega)) (by unfold isE at he; rw [he]; decide)
    have:=rdH_le (by omega) hle
    dsimp only
    rw [uread_eq p0 m0 (by omega) (by omega)]
    rfl
theorem mdo_eq {m:TMem} (h:SzM m) {a:TA} (ha:OkA a) (hr:q1o_ a=true):q2a_ (SP,m,a,())=some ((doM m a).1,(doM m a).2,()):=by
 have hf:=right_f hr
 have h1:=h.c
 have h2:=h.i
 have h3:=h.h
 have h4:=h.w
 have p0:=ha.at0
 have t0:=ha.t0
 have lw:=ha.lw
 have lb:=ha.lb
 show qpg_ qgb_ SP m a=_
 unfold qpg_
 rw [cloneBr_eq (by omega),Option.bind_some,cloneBr_eq (by omega),Option.bind_some,cloneWr_eq (by omega),Option.bind_some,cloneWr_eq (by omega),Option.bind_some,check_eq ha hr,Option.bind_some]
 dsimp only
 unfold doM
 cases hc:chkS a with
 | false =>
  simp only [Bool.false_eq_true,if_false]
  rw [if_pos (show nei 2 0=true by decide),wrong_eq,Option.bind_some,rem128 (by omega) hf.2]
 | true =>
  rw [if_pos rfl,if_neg (by decide),mright_eq h,Option.bind_some,if_neg (by decide),uses_eq,Option.bind_some,target_eq ha,Option.bind_some,if_pos rfl]
  have hsz:=wrM_sz h ha hr hc
  have fin:∀ k:Int×Int,(isE a.1=false->k.1=(if a.1=1 then 1 else if a.1=2 then 2 else if a.1=4 then 4 else 3))->qgb_ a 0 0 0 0 (wrM m a).1 (wrM m a).2.1 (wrM m a).2.2.1 (wrM m a).2.2.2 SP.1 SP.2.1 SP.2.2.1 SP.2.2.2 k=some (wrM m a,if isE a.1=true then echoR a else ansR (wrM m a) a,()):=fun k hk=>by
   rw [mdo_K1,secho_eq ha hr,Option.bind_some]
   cases he:isE a.1 with
   | true=>rfl
   | false =>
    rw [if_neg (fun e=>Bool.false_ne_true e),if_neg (fun e=>Bool.false_ne_true e),answer_eq hsz ha hr hc he _ (hk he)]
    rfl
  have hcc:=hc
  unfold chkS at hc
  cases hra:q3i_ hr with
  | bits f p n hf' g1 g2 =>
   rcases hf' with rfl | rfl
   ·exact fin (1,0) (fun _=>rfl)
   ·exact fin (2,0) (fun _=>rfl)
  | words f p n hf' g1 g2 =>
   rcases hf' with rfl | rfl
   ·exact fin (3,0) (fun _=>rfl)
   ·exact fin (4,0) (fun _=>rfl)
  | coil p b =>
   have hle:p + ((1:Nat):Int)≤16:=of_decide_eq_true hc
   have p0:0≤p:=p0
   refine Eq.trans ?_ (fin (0,1) (fun e=>by cases e))
   dsimp only
   rw [if_neg (show ¬ (5:Int)=23 by decide)]
   show need (ge p 0) (need (le p (Int.ofNat m.1.length)) (need (le (Int.ofNat m.1.length) (Int.ofNat m.1.length)) (need (le (p + (Int.ofNat m.1.length - p)) (Int.ofNat m.1.length)) _)))=_
   rw [q8_ (q17_.2 p0),q8_ (qv_.2 (by rw [q1_]; omega)),q8_ (qv_.2 (Int.le_refl _)),q8_ (qv_.2 (by rw [q1_]; omega))]
   rw [cpy_code (w:=[b]) (by rw [q1_]; show 1≤_; omega)]
   rfl
  | word p x =>
   have:p=272∧1=8∨p=288∧1=20:=of_decide_eq_true hc
   omega
  | coils p l g1 g2 =>
   have hle:p + (l.length:Int)≤16:=of_decide_eq_true hc
   have p0:0≤p:=p0
   refine Eq.trans ?_ (fin (0,1) (fun e=>by cases e))
   dsimp only
   rw [if_neg (show ¬ (15:Int)=23 by decide)]
   show need (ge p 0) (need (le p (Int.ofNat m.1.length)) (need (le (Int.ofNat m.1.length) (Int.ofNat m.1.length)) (need (le (p + (Int.ofNat m.1.length - p)) (Int.ofNat m.1.length)) _)))=_
   rw [q8_ (q17_.2 p0),q8_ (qv_.2 (by rw [q1_]; omega)),q8_ (qv_.2 (Int.le_refl _)),q8_ (qv_.2 (by rw [q1_]; omega))]
   rw [cpy_code (w:=l) (by rw [q1_]; omega)]
   rfl
  | regs p l g1 g2 =>
   have hle:p=272∧l.length=8∨p=288∧l.length=20:=of_decide_eq_true hc
   have p0:0≤p:=p0
   refine Eq.trans ?_ (fin (0,3) (fun e=>by cases e))
   dsimp only
   rw [if_neg (show ¬ (16:Int)=23 by decide)]
   show need (ge p 0) (need (le p (Int.ofNat m.2.2.1.length)) (need (le (Int.ofNat m.2.2.1.length) (Int.ofNat m.2.2.1.length)) (need (le (p + (Int.ofNat m.2.2.1.length - p)) (Int.ofNat m.2.2.1.length)) _)))=_
   rw [q8_ (q17_.2 p0),q8_ (qv_.2 (by rw [q1_]; omega)),q8_ (qv_.2 (Int.le_refl _)),q8_ (qv_.2 (by rw [q1_]; omega))]
   rw [cpy_code (w:=l) (by rw [q1_]; omega)]
   rfl
  | swap p n t l g1 g2 g3 g4 =>
   have hle:t=272∧l.length=8∨t=288∧l.length=20:=of_decide_eq_true (Bool.and_eq_true _ _ ▸ hc:_∧_).2
   have t0:0≤t:=t0
   refine Eq.trans ?_ (fin (3,3) (fun _=>rfl))
   dsimp only
   rw [if_pos (show (23:Int)=23 by decide)]
   show need (ge t 0) (need (le t (Int.ofNat m.2.2.1.length)) (need (le (Int.ofNat m.2.2.1.length) (Int.ofNat m.2.2.1.length)) (need (le (t + (Int.ofNat m.2.2.1.length - t)) (Int.ofNat m.2.2.1.length)) _)))=_
   rw [q8_ (q17_.2 t0),q8_ (qv_.2 (by rw [q1_]; omega)),q8_ (qv_.2 (Int.le_refl _)),q8_ (qv_.2 (by rw [q1_]; omega))]
   rw [cpy_code (w:=l) (by rw [q1_]; omega)]
   rfl
end Go.Proofs.Lx
end
section
namespace Go.Proofs.Lx
open Go Ev Sx Pl
set_option maxRecDepth 100000
def rdA (a:TA):TA:=(if a.1=23 then 3 else a.1,a.2.1,a.2.2.1,0,[],[])
def answS (s:TSl) (a:TA):TR:=if isE a.1=true then echoR a else (a.1,(ansR (memS s) (rdA a)).2)
theorem rdA_ok {a:TA} (ha:OkA a) (hr:q1o_ a=true) (he:isE a.1=false) (hc:chkS a=true):OkA (rdA a)∧q1o_ (rdA a)=true∧chkS (rdA a)=true∧isE (rdA a).1=false:=by
 have nil:∀ x ∈ ([]:List Int),0≤x∧x≤65535:=fun x hx=>by cases hx
 cases hra:q3i_ hr with
 | bits f p n hf h1 h2 =>
  rcases hf with rfl | rfl
  ·exact ⟨ha,hr,hc,he⟩
  ·exact ⟨ha,hr,hc,he⟩
 | words f p n hf h1 h2 =>
  rcases hf with rfl | rfl
  ·exact ⟨ha,hr,hc,he⟩
  ·exact ⟨ha,hr,hc,he⟩
 | coil p b=>cases he
 | word p x=>cases he
 | coils p l h1 h2=>cases he
 | regs p l h1 h2=>cases he
 | swap p n t l h1 h2 h3 h4 =>
  have hc1:=(Bool.and_eq_true _ _ ▸ (show (rdH p n.toNat && decide (t=272∧l.length=8∨t=288∧l.length=20))=true from hc):_∧_).1
  refine ⟨⟨(by decide:(0:Int)≤3),(by decide:(3:Int)≤255),ha.at0,ha.at1,ha.m0,ha.m1,(by decide:(0:Int)≤0),(by decide:(0:Int)≤65535),nil,Nat.zero_le _,Nat.zero_le _⟩,?_,hc1,rfl⟩
  show rightS (3,p,n,0,[],[]) (125,0,0,false,false)=true
  unfold rightS
  dsimp only
  have e:withinV n 125=true:=by
   unfold withinV
   rw [if_neg (by decide),if_pos (q17_.2 h3),qv_.2 h4]
  rw [e]
  rfl
theorem sanswer_eq {s:TSl} (h:OkS s) {a:TA} (ha:OkA a) (hr:q1o_ a=true) (hc:chkS a=true):qx_ (s,a,())=some (answS s a,()):=by
 show qgu_ qc3_ s a=_
 unfold qgu_ answS
 rw [secho_eq ha hr,Option.bind_some]
 cases he:isE a.1 with
 | true=>rfl
 | false =>
  obtain ⟨h1,h2,h3,h4⟩:=rdA_ok ha hr he hc
  have hd:=mdo_eq (memS_sz h) h1 h2
  have hdo:(doM (memS s) (rdA a)).2=ansR (memS s) (rdA a):=by
   unfold doM
   rw [if_pos h3,h4]
   have:wrM (memS s) (rdA a)=memS s:=by
    unfold isE at h4
    have h5:=of_decide_eq_false h4
    unfold wrM
    have h23:(rdA a).1 ≠ 23:=by
     show (if a.1=23 then (3:Int) else a.1) ≠ 23
     split <;> omega
    rw [if_neg (by omega),if_neg (by omega),if_neg h23]
   rw [this]
   rfl
  have K:qc3_ s a 0 0 0 0 (if a.1=23 then 3 else a.1) a.2.1 a.2.2.1 0=some ((a.1,(ansR (memS s) (rdA a)).2),()):=by
   have hd':q2a_ (SP,memS s,((if a.1=23 then (3:Int) else a.1),a.2.1,a.2.2.1,0,[],[]),())=_:=hd
   show qgo_ qgw_ s a 0 0 0 0 _ a.2.1 a.2.2.1 0=_
   unfold qgo_
   simp only [space_eq,mem_eq h,Option.bind_some,hd',amb2 (eqAs_refl qh_.rs),amb3 (eqAs_refl qh_.rs)]
   show some ((a.1,(doM (memS s) (rdA a)).2.2),())=_
   rw [hdo]
  rw [if_neg (fun e=>Bool.false_ne_true e),if_neg (fun e=>Bool.false_ne_true e)]
  by_cases e:a.1=23
  ·rw [if_pos (q4_.2 e)]
   rw [if_pos e] at K
   exact K
  ·rw [if_neg (fun x=>e (q4_.1 x))]
   rw [if_neg e] at K
   exact K
def readC (w:List Int):TCm×Int :=
 if w.length ≠ 8∨w.getD 7 0 ≠ 0∨256≤w.getD 1 0 then ((0,0,0,0,0),2)
 else ((w.getD 0 0,w.getD 1 0,65536 * w.getD 2 0 + w.getD 3 0,w.getD 4 0,65536 * w.getD 5 0 + w.getD 6 0),0)
theorem aread_eq' {w:List Int} (hr:∀ x ∈ w,0≤x∧x≤65535):qel_ (w,())=some ((readC w).1,(readC w).2,()):=by
 show qjy_ qfg_ w=_
 unfold qjy_
 by_cases hl:w.length=8
 ·rw [if_neg (fun e=>qf_.1 e (by rw [q1_]; omega))]
  have g:∀ k:Nat,k < 8->at? w (k:Int)=some (w.getD k 0):=fun k hk=>by
   obtain ⟨x,hx⟩:=get_of (xs:=w) (i:=k) (by omega)
   rw [ql_ hx,List.getD_eq_getElem?_getD,hx]
   rfl
  have rg:∀ k:Nat,k < 8->0≤w.getD k 0∧w.getD k 0≤65535:=fun k hk=>by
   obtain ⟨x,hx⟩:=get_of (xs:=w) (i:=k) (by omega)
   rw [List.getD_eq_getElem?_getD,hx]
   exact hr x (List.mem_of_getElem? hx)
  have g0:at? w 0=some (w.getD 0 0):=g 0 (by omega)
  have g1:at? w 1=some (w.getD 1 0):=g 1 (by omega)
  have g2:at? w 2=some (w.getD 2 0):=g 2 (by omega)
  have g3:at? w 3=some (w.getD 3 0):=g 3 (by omega)
  have g4:at? w 4=some (w.getD 4 0):=g 4 (by omega)
  have g5:at? w 5=some (w.getD 5 0):=g 5 (by omega)
  have g6:at? w 6=some (w.getD 6 0):=g 6 (by omega)
  have g7:at? w 7=some (w.getD 7 0):=g 7 (by omega)
  have K:∀ b,qfg_ w b (0,0,0,0,0)=some (if b=true then (((0,0,0,0,0):TCm),(2:Int),()) else ((w.getD 0 0,cvt .u8 (w.getD 1 0),65536 * w.getD 2 0 + w.getD 3 0,w.getD 4 0,65536 * w.getD 5 0 + w.getD 6 0),0,())):=fun b=>by
   show qku_ w b (0,0,0,0,0)=_
   unfold qku_
   cases b with
   | true=>rfl
   | false =>
    have r2:=rg 2 (by omega)
    have r3:=rg 3 (by omega)
    have r5:=rg 5 (by omega)
    have r6:=rg 6 (by omega)
    rw [if_neg (by decide),if_neg (by decide),g0,Option.bind_some,g1,Option.bind_some,g2,Option.bind_some,g3,Option.bind_some,g4,Option.bind_some,g5,Option.bind_some,g6,Option.bind_some,wide_eq r2.1 r2.2 r3.1 r3.2,Option.bind_some,wide_eq r5.1 r5.2 r6.1 r6.2,Option.bind_some]
  rw [g7,Option.bind_some]
  unfold readC
  by_cases h7:w.getD 7 0=0
  ·rw [if_neg (fun e=>qf_.1 e h7),g1,Option.bind_some,K]
   by_cases h1:256≤w.getD 1 0
   ·rw [if_pos (q17_.2 h1),if_pos (Or.inr (Or.inr h1))]
   ·have r1:=rg 1 (by omega)
    rw [if_neg (fun e=>h1 (q17_.1 e)),if_neg (by omega),show cvt .u8 (w.getD 1 0)=w.getD 1 0 from wu8 r1.1 (by omega)]
  ·rw [if_pos (qf_.2 h7),K,if_pos rfl,if_pos (Or.inr (Or.inl h7))]
 ·rw [if_pos (qf_.2 (by rw [q1_]; omega))]
  unfold readC
  rw [if_pos (Or.inl hl)]
  rfl
def wroteS (a:TAg) (p:Int) (w:List Int):TAg×Int :=
 if p=272 then
  if (readC w).2 ≠ 0 then (a,3) else if (doS (ownA a) (readC w).1).2 ≠ 0 then (a,4) else ((doS (ownA a) (readC w).1).1,0)
 else
  if (rdB w).2.2.2.2 ≠ 0 then (a,3) else if (putA (ownA a) (rdB w).1 (rdB w).2.1 (rdB w).2.2.1 (rdB w).2.2.2.1).2 ≠ 0 then (a,4)
  else ((putA (ownA a) (rdB w).1 (rdB w).2.1 (rdB w).2.2.1 (rdB w).2.2.2.1).1,0)
def atW (a:TA):Int:=if a.1=23 then a.2.2.2.1 else a.2.1
def setA (s:TSl) (a:TAg):TSl:=(s.1,s.2.1,a,s.2.2.2)
def setC (s:TSl) (c:List Bool):TSl:=(s.1,s.2.1,s.2.2.1,c)
def servS (s:TSl) (a:TA):TSl×TR :=
 if chkS a=false then (s,(a.1,2,[],[],0,0))
 else if a.1=5∨a.1=15 then (setC s (cpy s.2.2.2 a.2.1.toNat a.2.2.2.2.2),answS (setC s (cpy s.2.2.2 a.2.1.toNat a.2.2.2.2.2)) a)
 else if a.2.2.2.2.1.length=0 then (s,answS s a)
 else if (wroteS s.2.2.1 (atW a) a.2.2.2.2.1).2 ≠ 0 then (s,(a.1,(wroteS s.2.2.1 (atW a) a.2.2.2.2.1).2,[],[],0,0))
 else (setA s (wroteS s.2.2.1 (atW a) a.2.2.2.2.1).1,answS (setA s (wroteS s.2.2.1 (atW a) a.2.2.2.2.1).1) a)
theorem readC_rng {w:List Int} (hr:∀ x ∈ w,0≤x∧x≤65535):(0≤(readC w).1.1∧(readC w).1.1≤65535)∧(0≤(readC w).1.2.2.1∧(readC w).1.2.2.1≤4294967295)∧(0≤(readC w).1.2.2.2.1∧(readC w).1.2.2.2.1≤65535):=by
 unfold readC
 split
 ·exact ⟨⟨by decide,by decide⟩,⟨by decide,by decide⟩,⟨by decide,by decide⟩⟩
 ·rename_i h
  have rg:∀ k:Nat,0≤w.getD k 0∧w.getD k 0≤65535:=fun k=>by
   rw [List.getD_eq_getElem?_getD]
   cases hx:w[k]? with
   | none=>exact ⟨by decide,by decide⟩
   | some x=>exact hr x (List.mem_of_getElem? hx)
  have r0:=rg 0
  have r2:=rg 2
  have r3:=rg 3
  have r4:=rg 4
  exact ⟨r0,⟨by dsimp only; omega,by dsimp only; omega⟩,r4⟩
theorem rdB_rng {w:List Int} (hr:∀ x ∈ w,0≤x∧x≤65535) (h:(rdB w).2.2.2.2=0):(0≤(rdB w).1∧(rdB w).1≤65535)∧(0≤(rdB w).2.2.1∧(rdB w).2.2.1≤7)∧fitsB (rdB w).2.2.2.1=true∧(∀ x ∈ (rdB w).2.2.2.1.2,0≤x∧x≤65535):=by
 have rg:∀ k:Nat,0≤w.getD k 0∧w.getD k 0≤65535:=fun k=>by
  rw [List.getD_eq_getElem?_getD]
  cases hx:w[k]? with
  | none=>exact ⟨by decide,by decide⟩
  | some x=>exact hr x (List.mem_of_getElem? hx)
 unfold rdB at h ⊢
 split
 ·rename_i q
  rw [if_pos q] at h
  exact absurd h (by decide)
 ·rename_i q
  rw [if_neg q] at h
  split
  ·rename_i q2
   rw [if_pos q2] at h
   exact absurd h (by decide)
  ·rename_i q2
   rw [if_neg q2] at h
   split
   ·rename_i q3
    have r3:=rg 3
    exact ⟨rg 0,⟨r3.1,by dsimp only; omega⟩,q3.1,fun x hx=>hr x (List.mem_of_mem_drop (List.mem_of_mem_take hx))⟩
   ·rename_i q3
    rw [if_neg q3] at h
    exact absurd h (by decide)
theorem wroteS_ok {a:TAg} (h:OkG a) {p:Int} {w:List Int} (hr:∀ x ∈ w,0≤x∧x≤65535):OkG (wroteS a p w).1:=by
 unfold wroteS
 split
 ·split
  ·exact h
  ·split
   ·exact h
   ·obtain ⟨r1,r2,r3⟩:=readC_rng hr
    exact h.own.doS r1 r2 r3
 ·split
  ·exact h
  ·rename_i q
   obtain ⟨r1,r2,r3,r4⟩:=rdB_rng hr (Classical.not_not.1 q)
   split
   ·exact h
   ·exact h.own.putA r1 r3 r4
theorem servS_ok {s:TSl} (h:OkS s) {a:TA} (ha:OkA a) (hr:q1o_ a=true):OkS (servS s a).1:=by
 unfold servS
 split
 ·exact h
 ·rename_i hc
  have hc:chkS a=true:=by cases e:chkS a with | true=>rfl | false=>exact absurd e hc
  have hw:=(wrM_sz (memS_sz h) ha hr hc).c
  split
  ·rename_i q
   unfold wrM at hw
   rw [if_pos q] at hw
   exact ⟨h.u,h.l,h.a,hw⟩
  ·split
   ·exact h
   ·split
    ·exact h
    ·exact ⟨h.u,h.l,wroteS_ok h.a ha.w,h.c⟩
end Go.Proofs.Lx
end
section
namespace Go.Proofs.Lx
open Go Ev Sx Pl
set_option maxRecDepth 100000
theorem eight {α:Type} {l:List α} (h:l.length=8):∃ a b c d e f g i,l=[a,b,c,d,e,f,g,i]:=by
 match l,h with
 | [a,b,c,d,e,f,g,i],_=>exact ⟨a,b,c,d,e,f,g,i,rfl⟩
theorem getD8 {α:Type} {l:List α} {z:α} (h:l.length=8):[l.getD 0 z,l.getD 1 z,l.getD 2 z,l.getD 3 z,l.getD 4 z,l.getD 5 z,l.getD 6 z,l.getD 7 z]=l:=by
 obtain ⟨a,b,c,d,e,f,g,i,rfl⟩:=eight h
 rfl
theorem mkAg_eq {a:TAg} (h1:a.2.2.2.2.2.1.2.1.length=8) (h2:a.2.2.2.2.2.1.2.2.length=8):mkAg a=a:=by
 unfold mkAg
 rw [getD8 h1,getD8 h2]
def midS (x:Int) (s:TSl) (a:TA):Option (As q2p_.rs) :=
 qi5_ x s.2.2.2 s.1 s.2.1 s.2.2.1.1 s.2.2.1.2.1.1 s.2.2.1.2.1.2 s.2.2.1.2.2.1 s.2.2.1.2.2.2.1 s.2.2.1.2.2.2.2.1 s.2.2.1.2.2.2.2.2.1.1
  (s.2.2.1.2.2.2.2.2.1.2.1.getD 0 false) (s.2.2.1.2.2.2.2.2.1.2.1.getD 1 false) (s.2.2.1.2.2.2.2.2.1.2.1.getD 2 false) (s.2.2.1.2.2.2.2.2.1.2.1.getD 3 false) (s.2.2.1.2.2.2.2.2.1.2.1.getD 4 false) (s.2.2.1.2.2.2.2.2.1.2.1.getD 5 false) (s.2.2.1.2.2.2.2.2.1.2.1.getD 6 false) (s.2.2.1.2.2.2.2.2.1.2.1.getD 7 false)
  (s.2.2.1.2.2.2.2.2.1.2.2.getD 0 (0,[])).1 (s.2.2.1.2.2.2.2.2.1.2.2.getD 0 (0,[])).2 (s.2.2.1.2.2.2.2.2.1.2.2.getD 1 (0,[])).1 (s.2.2.1.2.2.2.2.2.1.2.2.getD 1 (0,[])).2 (s.2.2.1.2.2.2.2.2.1.2.2.getD 2 (0,[])).1 (s.2.2.1.2.2.2.2.2.1.2.2.getD 2 (0,[])).2 (s.2.2.1.2.2.2.2.2.1.2.2.getD 3 (0,[])).1 (s.2.2.1.2.2.2.2.2.1.2.2.getD 3 (0,[])).2 (s.2.2.1.2.2.2.2.2.1.2.2.getD 4 (0,[])).1 (s.2.2.1.2.2.2.2.2.1.2.2.getD 4 (0,[])).2 (s.2.2.1.2.2.2.2.2.1.2.2.getD 5 (0,[])).1 (s.2.2.1.2.2.2.2.2.1.2.2.getD 5 (0,[])).2 (s.2.2.1.2.2.2.2.2.1.2.2.getD 6 (0,[])).1 (s.2.2.1.2.2.2.2.2.1.2.2.getD 6 (0,[])).2 (s.2.2.1.2.2.2.2.2.1.2.2.getD 7 (0,[])).1 (s.2.2.1.2.2.2.2.2.1.2.2.getD 7 (0,[])).2
  s.2.2.1.2.2.2.2.2.2 0 0 0 0 0 0 0 0 false false false false false false false false 0 0 0 0 0 0 0 0 0 0 0 0 0 a
abbrev RS:=Option (As q2p_.rs)
def cmdM (s:TSl) (a:TA) (p:Int):RS :=
 if eqi 272 p=true then Option.bind (qel_ (a.2.2.2.2.1,())) fun y=>if nei y.2.1 0=true then Option.bind (qk_ (a.1,3,())) fun y=>some (s,y.1,()) else amb (eqAs q2p_.rs) [Option.bind (qf9_ (s.2.2.1,y.1,())) fun y=>if nei y.2.1 0=true then Option.bind (qk_ (a.1,4,())) fun y=>some (s,y.1,()) else Option.bind (qx_ (setA s (mkAg y.1),a,())) fun y_1=>some (setA s (mkAg y.1),y_1.1,()),Option.bind (qf9_ (s.2.2.1,y.1,())) fun y=>if nei y.2.1 0=true then Option.bind (qk_ (a.1,4,())) fun y=>some (s,y.1,()) else Option.bind (qx_ (setA s (mkAg y.1),a,())) fun y_1=>some (setA s (mkAg y.1),y_1.1,())]
 else if eqi 288 p=true then Option.bind (qf3_ (a.2.2.2.2.1,())) fun y=>if nei y.2.2.2.2.1 0=true then Option.bind (qk_ (a.1,3,())) fun y=>some (s,y.1,()) else amb (eqAs q2p_.rs) [Option.bind (q9h_ (s.2.2.1,y.1,y.2.1,y.2.2.1,y.2.2.2.1,())) fun y=>if nei y.2.1 0=true then Option.bind (qk_ (a.1,4,())) fun y=>some (s,y.1,()) else Option.bind (qx_ (setA s (mkAg y.1),a,())) fun y_1=>some (setA s (mkAg y.1),y_1.1,()),Option.bind (q9h_ (s.2.2.1,y.1,y.2.1,y.2.2.1,y.2.2.2.1,())) fun y=>if nei y.2.1 0=true then Option.bind (qk_ (a.1,4,())) fun y=>some (s,y.1,()) else Option.bind (qx_ (setA s (mkAg y.1),a,())) fun y_1=>some (setA s (mkAg y.1),y_1.1,())]
 else Option.bind (qk_ (a.1,2,())) fun y=>some (s,y.1,())
def copM (s:TSl) (a:TA):RS:=if le (add .i64 (cvt .i64 a.2.1) (Int.ofNat a.2.2.2.2.2.length)) (Int.ofNat s.2.2.2.length)=true then need (ge a.2.1 0) (need (le a.2.1 (Int.ofNat s.2.2.2.length)) (need (le (Int.ofNat s.2.2.2.length) (Int.ofNat s.2.2.2.length)) (need (le (a.2.1 + (Int.ofNat s.2.2.2.length - a.2.1)) (Int.ofNat s.2.2.2.length)) (Option.bind (qx_ (setC s (s.2.2.2.take (Int.toNat a.2.1)++a.2.2.2.2.2.take (Int.toNat (Int.ofNat s.2.2.2.length - a.2.1))++s.2.2.2.drop (Int.toNat a.2.1 + (a.2.2.2.2.2.take (Int.toNat (Int.ofNat s.2.2.2.length - a.2.1))).length)),a,())) fun y=>some (setC s (s.2.2.2.take (Int.toNat a.2.1)++a.2.2.2.2.2.take (Int.toNat (Int.ofNat s.2.2.2.length - a.2.1))++s.2.2.2.drop (Int.toNat a.2.1 + (a.2.2.2.2.2.take (Int.toNat (Int.ofNat s.2.2.2.length - a.2.1))).length)),y.1,()))))) else Option.bind (qx_ (s,a,())) fun y=>some (s,y.1,())
theorem mid_eq {x:Int} {s:TSl} {a:TA} (h1:s.2.2.1.2.2.2.2.2.1.2.1.length=8) (h2:s.2.2.1.2.2.2.2.2.1.2.2.length=8):midS x s a =
  if nei x 0=true then Option.bind (qk_ (a.1,x,())) fun y=>some (s,y.1,())
  else if eqi a.1 5=true then copM s a
  else if eqi a.1 15=true then copM s a
  else if eqi (Int.ofNat a.2.2.2.2.1.length) 0=true then Option.bind (qx_ (s,a,())) fun y=>some (s,y.1,())
  else if eqi a.1 23=true then cmdM s a a.2.2.2.1
  else cmdM s a a.2.1:=by
 obtain ⟨u,l,⟨bk,⟨lo,lf⟩,ph,tx,la,⟨st,hv,bs⟩,tk⟩,co⟩:=s
 obtain ⟨b0,b1,b2,b3,b4,b5,b6,b7,e1⟩:=eight h1
 obtain ⟨c0,c1,c2,c3,c4,c5,c6,c7,e2⟩:=eight h2
 dsimp only at e1 e2
 subst e1 e2
 rfl
end Go.Proofs.Lx
end
section
namespace Go.Proofs.Lx
open Go Ev Sx Pl
set_option maxRecDepth 100000
theorem RR_right {r:TR} (h:RR r):rightR r=true:=by
 cases h with
 | ex f e h0 h h1 h2=>exact (rep_wrong h0 h h1 h2).rt
 | bits f l hf h1 h2 h3 =>
  have hb:bitR (f,0,l,[],0,0)=true:=by
   unfold bitR
   dsimp only
   rw [decide_eq_true h1,decide_eq_true h2,decide_eq_true h3,decide_eq_true rfl]
   rfl
  rcases hf with rfl | rfl <;> exact hb
 | words f l hf h1 h2 =>
  have hb:wordR (f,0,[],l,0,0)=true:=by
   unfold wordR
   dsimp only
   rw [decide_eq_true h1,decide_eq_true h2,decide_eq_true rfl]
   rfl
  rcases hf with rfl | rfl | rfl <;> exact hb
 | coil b p =>
  show obR (5,0,[b],[],p,0)=true
  unfold obR
  rw [decide_eq_true rfl]
  rfl
 | word x p =>
  show owR (6,0,[],[x],p,0)=true
  unfold owR
  rw [decide_eq_true rfl]
  rfl
 | coils p n h1 h2 =>
  show ctR 1968 (15,0,[],[],p,n)=true
  unfold ctR
  dsimp only
  rw [decide_eq_true h1,decide_eq_true h2,decide_eq_true rfl]
  rfl
 | regs p n h1 h2 =>
  show ctR 123 (16,0,[],[],p,n)=true
  unfold ctR
  dsimp only
  rw [decide_eq_true h1,decide_eq_true h2,decide_eq_true rfl]
  rfl
theorem rep_of {r:TR} (h:OkR r) (hr:RR r):Rep r:=⟨h,hr,RR_right hr⟩
theorem itB_rng {x:TBlk} (hf:fitsB x=true->∀ w ∈ x.2,0≤w∧w≤65535):∀ w ∈ itB x,0≤w∧w≤65535:=by
 intro w hw
 unfold itB at hw
 split at hw
 ·rename_i h
  have h2:=of_decide_eq_true h
  rcases List.mem_append.1 hw with h3 | h3
  ·rcases List.mem_cons.1 h3 with h4 | h4
   ·omega
   ·rcases List.mem_cons.1 h4 with h5 | h5
    ·omega
    ·exact hf h w h5
  ·have:=List.eq_of_mem_replicate h3
   omega
 ·have:=List.eq_of_mem_replicate hw
  omega
theorem backS_rng {s:TStg} {o n:Int} (ho:0≤o∧o≤65535) (hn:0≤n∧n≤7) (ht:0≤s.1∧s.1≤4294967295) (hw:∀ b ∈ s.2.2,∀ w ∈ b.2,0≤w∧w≤65535):∀ w ∈ backS s o n,0≤w∧w≤65535:=by
 intro w hm
 unfold backS at hm
 split at hm
 ·rename_i x h1 h2
  unfold tagB at hm
  rcases List.mem_cons.1 hm with e | hm
  ·omega
  ·rcases List.mem_cons.1 hm with e | hm
   ·omega
   ·rcases List.mem_cons.1 hm with e | hm
    ·omega
    ·rcases List.mem_cons.1 hm with e | hm
     ·omega
     ·exact itB_rng (fun _=>hw x (List.mem_of_getElem? h2)) w hm
 ·have:=List.eq_of_mem_replicate hm
  omega
theorem statA_rng {a:TAg} (h:OkG a):∀ w ∈ statA a,0≤w∧w≤65535:=by
 intro w hw
 have h1:=h.l1
 have h2:=h.pr
 have h3:=h.tr
 have h4:=h.ar
 have hc:a.2.2.2.2.2.1.2.1.count true≤8:=by
  have:=List.count_le_length (a:=true) (l:=a.2.2.2.2.2.1.2.1)
  have:=h.hl
  omega
 simp only [statA,List.mem_cons,List.not_mem_nil,or_false] at hw
 rcases hw with e | e | e | e | e | e | e | e <;> omega
theorem OkG.st {a:TAg} (h:OkG a):0≤a.2.2.2.2.2.1.1∧a.2.2.2.2.2.1.1≤4294967295:=by
 by_cases e:a.2.2.1=0
 ·have:=(h.p0 e).2.2.1; omega
 ·have:=(h.pn e).2.2; have:=h.tr; omega
theorem holdS_rng {a:TAg} (h:OkG a):∀ w ∈ holdS a,0≤w∧w≤65535:=by
 have hg:∀ k:Nat,k≤8->∀ w ∈ (List.range k).foldl (fun h b=>cpy h (512 + b * 32) (backS a.2.2.2.2.2.1 a.2.1.1 (b:Int))) (cpy (cpy (List.replicate 756 0) 0 a.1) 256 (statA a)),0≤w∧w≤65535:=by
  intro k
  induction k with
  | zero =>
   intro _
   rw [List.range_zero,List.foldl_nil]
   exact cpy_rng (P:=fun y=>0≤y∧y≤65535) (cpy_rng (P:=fun y=>0≤y∧y≤65535) (fun y hy=>by have:=List.eq_of_mem_replicate hy; omega) h.bw) (statA_rng h)
  | succ k ih =>
   intro hk
   rw [List.range_succ,List.foldl_append,List.foldl_cons,List.foldl_nil]
   exact cpy_rng (P:=fun y=>0≤y∧y≤65535) (ih (by omega)) (backS_rng h.l1 ⟨by omega,by omega⟩ h.st h.wb)
 exact hg 8 (by omega)
theorem rdBits_len {c:List Bool} {p n:Nat} (h:p + n≤c.length):(rdBits c p n).length=(n + 7) / 8 * 8:=by
 unfold rdBits
 rw [List.length_append,List.length_take,List.length_drop,List.length_replicate]
 omega
theorem okR_plain {f:Int} (h0:0≤f) (h1:f≤255) {b:List Bool} {w:List Int} (hb:b.length≤100000) (hw:∀ x ∈ w,0≤x∧x≤65535) (hl:w.length≤100000):OkR (f,0,b,w,0,0) :=
 ⟨h0,h1,(by decide:(0:Int)≤0),(by decide:(0:Int)≤255),hw,(by decide:(0:Int)≤0),(by decide:(0:Int)≤65535),(by decide:(0:Int)≤0),(by decide:(0:Int)≤65535),hb,hl⟩
theorem nilW:∀ x ∈ ([]:List Int),0≤x∧x≤65535:=fun x hx=>by cases hx
theorem answS_rep {s:TSl} (h:OkS s) {a:TA} (ha:OkA a) (hr:q1o_ a=true) (hc:chkS a=true):Rep (answS s a):=by
 have p0:=ha.at0
 have p1:=ha.at1
 have hcl:=h.c
 have hil:=inpS_len s.2.2.1
 have hhl:=holdS_len h.a
 have hhr:=holdS_rng h.a
 have hsr:=statA_rng h.a
 unfold chkS at hc
 cases q3i_ hr with
 | bits f p n hf g1 g2 =>
  obtain ⟨p,rfl⟩:=Int.eq_ofNat_of_zero_le (show 0≤p from p0)
  obtain ⟨n,rfl⟩:=Int.eq_ofNat_of_zero_le (show 0≤n by omega)
  rcases hf with rfl | rfl
  ·have hc:(p:Int) + (n:Int)≤16:=of_decide_eq_true hc
   have hl:=rdBits_len (c:=s.2.2.2) (p:=p) (n:=n) (by omega)
   exact rep_of (okR_plain (f:=1) (by decide) (by decide) (by show (rdBits s.2.2.2 p n).length≤_; omega) nilW (by decide)) (.bits 1 _ (Or.inl rfl) (by show 8≤(rdBits s.2.2.2 p n).length; omega) (by show (rdBits s.2.2.2 p n).length≤2000; omega) (by show (rdBits s.2.2.2 p n).length % 8=0; omega))
  ·have hc:(p:Int) + (n:Int)≤8:=of_decide_eq_true hc
   have hl:=rdBits_len (c:=inpS s.2.2.1) (p:=p) (n:=n) (by omega)
   exact rep_of (okR_plain (f:=2) (by decide) (by decide) (by show (rdBits (inpS s.2.2.1) p n).length≤_; omega) nilW (by decide)) (.bits 2 _ (Or.inr rfl) (by show 8≤(rdBits (inpS s.2.2.1) p n).length; omega) (by show (rdBits (inpS s.2.2.1) p n).length≤2000; omega) (by show (rdBits (inpS s.2.2.1) p n).length % 8=0; omega))
 | words f p n hf g1 g2 =>
  obtain ⟨p,rfl⟩:=Int.eq_ofNat_of_zero_le (show 0≤p from p0)
  obtain ⟨n,rfl⟩:=Int.eq_ofNat_of_zero_le (show 0≤n by omega)
  rcases hf with rfl | rfl
  ·have hle:=rdH_le (p:=(p:Int)) (m:=n) (by omega) hc
   have hl:((holdS s.2.2.1).drop p |>.take n).length=n:=by rw [List.length_take,List.length_drop]; omega
   exact rep_of (okR_plain (f:=3) (by decide) (by decide) (by decide) (fun x hx=>hhr x (List.mem_of_mem_drop (List.mem_of_mem_take hx))) (by show ((holdS s.2.2.1).drop p |>.take n).length≤_; omega)) (.words 3 _ (Or.inl rfl) (by show 1≤((holdS s.2.2.1).drop p |>.take n).length; omega) (by show ((holdS s.2.2.1).drop p |>.take n).length≤125; omega))
  ·have hc:(p:Int) + (n:Int)≤8:=of_decide_eq_true hc
   have hl:((statA s.2.2.1).drop p |>.take n).length=n:=by rw [List.length_take,List.length_drop]; show min n (8 - p)=n; omega
   exact rep_of (okR_plain (f:=4) (by decide) (by decide) (by decide) (fun x hx=>hsr x (List.mem_of_mem_drop (List.mem_of_mem_take hx))) (by show ((statA s.2.2.1).drop p |>.take n).length≤_; omega)) (.words 4 _ (Or.inr (Or.inl rfl)) (by show 1≤((statA s.2.2.1).drop p |>.take n).length; omega) (by show ((statA s.2.2.1).drop p |>.take n).length≤125; omega))
 | coil p b =>
  exact rep_of ⟨(by decide:(0:Int)≤5),(by decide:(5:Int)≤255),(by decide:(0:Int)≤0),(by decide:(0:Int)≤255),nilW,p0,p1,(by decide:(0:Int)≤0),(by decide:(0:Int)≤65535),(by decide:1≤100000),(by decide:0≤100000)⟩ (.coil b p)
 | word p x =>
  exact rep_of ⟨(by decide:(0:Int)≤6),(by decide:(6:Int)≤255),(by decide:(0:Int)≤0),(by decide:(0:Int)≤255),ha.w,p0,p1,(by decide:(0:Int)≤0),(by decide:(0:Int)≤65535),(by decide:0≤100000),(by decide:1≤100000)⟩ (.word x p)
 | coils p l g1 g2 =>
  exact rep_of ⟨(by decide:(0:Int)≤15),(by decide:(15:Int)≤255),(by decide:(0:Int)≤0),(by decide:(0:Int)≤255),nilW,p0,p1,by show (0:Int)≤(l.length:Int); omega,by show (l.length:Int)≤65535; omega,(by decide:0≤100000),(by decide:0≤100000)⟩ (.coils p (l.length:Int) (by omega) (by omega))
 | regs p l g1 g2 =>
  exact rep_of ⟨(by decide:(0:Int)≤16),(by decide:(16:Int)≤255),(by decide:(0:Int)≤0),(by decide:(0:Int)≤255),nilW,p0,p1,by show (0:Int)≤(l.length:Int); omega,by show (l.length:Int)≤65535; omega,(by decide:0≤100000),(by decide:0≤100000)⟩ (.regs p (l.length:Int) (by omega) (by omega))
 | swap p n t l g1 g2 g3 g4 =>
  obtain ⟨p,rfl⟩:=Int.eq_ofNat_of_zero_le (show 0≤p from p0)
  obtain ⟨n,rfl⟩:=Int.eq_ofNat_of_zero_le (show 0≤n by omega)
  have hc1:=(Bool.and_eq_true _ _ ▸ (show (rdH (p:Int) n && decide (t=272∧l.length=8∨t=288∧l.length=20))=true from hc):_∧_).1
  have hle:=rdH_le (p:=(p:Int)) (m:=n) (by omega) hc1
  have hl:((holdS s.2.2.1).drop p |>.take n).length=n:=by rw [List.length_take,List.length_drop]; omega
  exact rep_of (okR_plain (f:=23) (by decide) (by decide) (by decide) (fun x hx=>hhr x (List.mem_of_mem_drop (List.mem_of_mem_take hx))) (by show ((holdS s.2.2.1).drop p |>.take n).length≤_; omega)) (.words 23 _ (Or.inr (Or.inr rfl)) (by show 1≤((holdS s.2.2.1).drop p |>.take n).length; omega) (by show ((holdS s.2.2.1).drop p |>.take n).length≤125; omega))
theorem wroteS_ex (a:TAg) (p:Int) (w:List Int):(wroteS a p w).2=0∨(wroteS a p w).2=3∨(wroteS a p w).2=4:=by
 unfold wroteS
 split <;> split
 ·exact Or.inr (Or.inl rfl)
 ·split
  ·exact Or.inr (Or.inr rfl)
  ·exact Or.inl rfl
 ·exact Or.inr (Or.inl rfl)
 ·split
  ·exact Or.inr (Or.inr rfl)
  ·exact Or.inl rfl
theorem chk_t {a:TA} (h:¬ chkS a=false):chkS a=true:=by
 cases e:chkS a with
 | true=>rfl
 | false=>exact absurd e h
theorem servS_rep {s:TSl} (h:OkS s) {a:TA} (ha:OkA a) (hr:q1o_ a=true):Rep (servS s a).2:=by
 have hf:=right_f hr
 have ok:=servS_ok h ha hr
 unfold servS at ok ⊢
 split
 ·exact rep_wrong (by omega) hf.2 (by decide) (by decide)
 ·rename_i hc
  rw [if_neg hc] at ok
  have hc:=chk_t hc
  split
  ·rename_i q
   rw [if_pos q] at ok
   exact answS_rep ok ha hr hc
  ·rename_i q
   rw [if_neg q] at ok
   split
   ·exact answS_rep h ha hr hc
   ·rename_i q2
    rw [if_neg q2] at ok
    split
    ·rename_i q3
     have:=wroteS_ex s.2.2.1 (atW a) a.2.2.2.2.1
     exact rep_wrong (by omega) hf.2 (by omega) (by omega)
    ·rename_i q3
     rw [if_neg q3] at ok
     exact answS_rep ok ha hr hc
theorem cmd_eq {s:TSl} (h:OkS s) {a:TA} (ha:OkA a) (hr:q1o_ a=true) (hc:chkS a=true) {p:Int} (hp:p=272∨p=288) :
  cmdM s a p=some (if (wroteS s.2.2.1 p a.2.2.2.2.1).2 ≠ 0 then (s,(a.1,(wroteS s.2.2.1 p a.2.2.2.2.1).2,[],[],0,0),()) else (setA s (wroteS s.2.2.1 p a.2.2.2.2.1).1,answS (setA s (wroteS s.2.2.1 p a.2.2.2.2.1).1) a,())):=by
 have hf:=right_f hr
 have w4:∀ e,qk_ (a.1,e,())=some ((a.1,e,[],[],0,0),()):=fun e=>by rw [wrong_eq,rem128 (by omega) hf.2]
 have hok:=wroteS_ok h.a (p:=p) ha.w
 have fin:∀ g:TAg,OkG g->Option.bind (qx_ (setA s (mkAg g),a,())) (fun y_1=>some (setA s (mkAg g),y_1.1,()))=(some (setA s g,answS (setA s g) a,()):RS):=fun g hg=>by
  rw [mkAg_eq hg.hl hg.sl,sanswer_eq (s:=setA s g) ⟨h.u,h.l,hg,h.c⟩ ha hr hc]
  rfl
 unfold cmdM wroteS at *
 by_cases e:p=272
 ·rw [if_pos e] at hok
  rw [if_pos (q4_.2 e.symm),if_pos e,aread_eq' ha.w,Option.bind_some,amb2 (eqAs_refl _)]
  obtain ⟨r1,r2,r3⟩:=readC_rng ha.w
  dsimp only
  by_cases q1:(readC a.2.2.2.2.1).2 ≠ 0
  ·rw [if_pos (qf_.2 q1),if_pos q1,w4]
   rfl
  ·rw [if_neg q1] at hok
   rw [if_neg (fun x=>q1 (qf_.1 x)),if_neg q1,ado_eq h.a r3,Option.bind_some]
   dsimp only
   by_cases q2:(doS (ownA s.2.2.1) (readC a.2.2.2.2.1).1).2 ≠ 0
   ·rw [if_pos (qf_.2 q2),if_pos q2,w4]
    rfl
   ·rw [if_neg q2] at hok
    rw [if_neg (fun x=>q2 (qf_.1 x)),if_neg q2,fin _ hok]
    rfl
 ·have e2:p=288:=by omega
  rw [if_neg e] at hok
  rw [if_neg (fun x=>e (q4_.1 x).symm),if_pos (q4_.2 e2.symm),if_neg e,sread_eq ha.w,Option.bind_some,amb2 (eqAs_refl _)]
  dsimp only
  by_cases q1:(rdB a.2.2.2.2.1).2.2.2.2 ≠ 0
  ·rw [if_pos (qf_.2 q1),if_pos q1,w4]
   rfl
  ·rw [if_neg q1] at hok
   obtain ⟨r1,r2,r3,r4⟩:=rdB_rng ha.w (Classical.not_not.1 q1)
   rw [if_neg (fun x=>q1 (qf_.1 x)),if_neg q1,aput_eq h.a r2 r3,Option.bind_some]
   dsimp only
   by_cases q2:(putA (ownA s.2.2.1) (rdB a.2.2.2.2.1).1 (rdB a.2.2.2.2.1).2.1 (rdB a.2.2.2.2.1).2.2.1 (rdB a.2.2.2.2.1).2.2.2.1).2 ≠ 0
   ·rw [if_pos (qf_.2 q2),if_pos q2,w4]
    rfl
   ·rw [if_neg q2] at hok
    rw [if_neg (fun x=>q2 (qf_.1 x)),if_neg q2,fin _ hok]
    rfl
theorem cop_eq {s:TSl} (h:OkS s) {a:TA} (ha:OkA a) (hr:q1o_ a=true) (hc:chkS a=true) (hf:a.1=5∨a.1=15):copM s a=some (setC s (cpy s.2.2.2 a.2.1.toNat a.2.2.2.2.2),answS (setC s (cpy s.2.2.2 a.2.1.toNat a.2.2.2.2.2)) a,()):=by
 have ok:=servS_ok h ha hr
 unfold servS at ok
 rw [if_neg (by rw [hc]; decide),if_pos hf] at ok
 have p0:=ha.at0
 have p1:=ha.at1
 have hcl:=h.c
 have lb:=ha.lb
 have hle:=hc
 unfold chkS at hle
 rw [if_neg (by omega),if_neg (by omega),if_neg (by omega),if_pos hf,decide_eq_true_eq] at hle
 unfold copM
 have e1:add .i64 (cvt .i64 a.2.1) (Int.ofNat a.2.2.2.2.2.length)=a.2.1 + (a.2.2.2.2.2.length:Int):=by rw [cvt64 (by omega) (by omega),q1_,add64 (by omega) (by omega)]
 rw [e1,if_pos (qv_.2 (by rw [q1_]; omega)),q8_ (q17_.2 p0),q8_ (qv_.2 (by rw [q1_]; omega)),q8_ (qv_.2 (Int.le_refl _)),q8_ (qv_.2 (by rw [q1_]; omega)),cpy_code (by rw [q1_]; omega),sanswer_eq ok ha hr hc]
 rfl
theorem mid_serv {s:TSl} (h:OkS s) {a:TA} (ha:OkA a) (hr:q1o_ a=true):midS (if chkS a=true then 0 else 2) s a=some ((servS s a).1,(servS s a).2,()):=by
 have hf:=right_f hr
 have w4:∀ e,qk_ (a.1,e,())=some ((a.1,e,[],[],0,0),()):=fun e=>by rw [wrong_eq,rem128 (by omega) hf.2]
 rw [mid_eq h.a.hl h.a.sl]
 unfold servS
 cases hc:chkS a with
 | false =>
  simp only [Bool.false_eq_true,if_false,if_true]
  rw [if_pos (show nei 2 0=true by decide),w4]
  rfl
 | true =>
  simp only [if_true,Bool.true_eq_false,if_false]
  rw [if_neg (show ¬ nei 0 0=true by decide)]
  by_cases q5:a.1=5
  ·rw [if_pos (q4_.2 q5),cop_eq h ha hr hc (Or.inl q5),if_pos (Or.inl q5)]
  ·rw [if_neg (fun e=>q5 (q4_.1 e))]
   by_cases q15:a.1=15
   ·rw [if_pos (q4_.2 q15),cop_eq h ha hr hc (Or.inr q15),if_pos (Or.inr q15)]
   ·rw [if_neg (fun e=>q15 (q4_.1 e)),if_neg (show ¬ (a.1=5∨a.1=15) by omega)]
    by_cases q0:a.2.2.2.2.1.length=0
    ·rw [if_pos (q4_.2 (by rw [q1_]; omega)),if_pos q0,sanswer_eq h ha hr hc]
     rfl
    ·rw [if_neg (fun e=>q0 (by have:=q4_.1 e; rw [q1_] at this; omega)),if_neg q0]
     have hp:atW a=272∨atW a=288:=by
      have hc2:=hc
      unfold chkS at hc2
      have hc3:¬ (a.1=1∨a.1=2∨a.1=3∨a.1=4):=by
       intro e
       apply q0
       cases q3i_ hr with
       | bits f p n hf=>rfl
       | words f p n hf=>rfl
       | coil p b=>rfl
       | word p x=>exact absurd (show (6:Int)=1∨(6:Int)=2∨(6:Int)=3∨(6:Int)=4 from e) (by decide)
       | coils p l=>rfl
       | regs p l=>exact absurd (show (16:Int)=1∨(16:Int)=2∨(16:Int)=3∨(16:Int)=4 from e) (by decide)
       | swap p n t l=>exact absurd (show (23:Int)=1∨(23:Int)=2∨(23:Int)=3∨(23:Int)=4 from e) (by decide)
      rw [if_neg (by omega),if_neg (by omega),if_neg (by omega),if_neg (by omega)] at hc2
      unfold atW
      by_cases q23:a.1=23
      ·rw [if_pos q23,Bool.and_eq_true,decide_eq_true_eq] at hc2
       rw [if_pos q23]
       omega
      ·rw [if_neg q23,decide_eq_true_eq] at hc2
       rw [if_neg q23]
       omega
     have hcm:=cmd_eq h ha hr hc hp
     have e2:(if eqi a.1 23=true then cmdM s a a.2.2.2.1 else cmdM s a a.2.1)=cmdM s a (atW a):=by
      unfold atW
      by_cases q23:a.1=23
      ·rw [if_pos (q4_.2 q23),if_pos q23]
      ·rw [if_neg (fun e=>q23 (q4_.1 e)),if_neg q23]
     rw [e2,hcm]
     split <;> rfl
def lookS (b:List Int):TA×Int:=((qcg_ (b,())).map fun y=>(y.1,y.2.1)).getD (zA,1)
theorem look_S {b:List Int} (hb:∀ x ∈ b,0≤x∧x≤255):qcg_ (b,())=some ((lookS b).1,(lookS b).2,()) ∧
  (((lookS b).2=0∧OkA (lookS b).1∧q1o_ (lookS b).1=true∧toS (askB (lookS b).1)=toS b)∨(((lookS b).2=1∨(lookS b).2=3)∧(lookS b).1=(b.headD 0,0,0,0,[],[]))):=by
 match b with
 | []=>exact ⟨rfl,Or.inr ⟨Or.inl rfl,rfl⟩⟩
 | f::r =>
  obtain ⟨a,e,h1,h2⟩:=look_any hb
  have:lookS (f::r)=(a,e):=by unfold lookS; rw [h1]; rfl
  rw [this]
  exact ⟨h1,h2⟩
def fullS (s:TSl) (b:List Int):TSl×TR:=if (lookS b).2 ≠ 0 then (s,(rem (b.headD 0) 128,(lookS b).2,[],[],0,0)) else servS s (lookS b).1
theorem head_rng {b:List Int} (hb:∀ x ∈ b,0≤x∧x≤255):0≤b.headD 0∧b.headD 0≤255:=by
 match b with
 | []=>exact ⟨by decide,by decide⟩
 | f::r=>exact hb f (List.mem_cons_self ..)
theorem rem_rng {x:Int} (h0:0≤x):0≤rem x 128∧rem x 128 < 128:=by
 unfold rem
 rw [Int.tmod_eq_emod_of_nonneg h0]
 omega
theorem fullS_ok {s:TSl} (h:OkS s) {b:List Int} (hb:∀ x ∈ b,0≤x∧x≤255):OkS (fullS s b).1∧Rep (fullS s b).2:=by
 unfold fullS
 obtain ⟨_,h2⟩:=look_S hb
 have hh:=rem_rng (head_rng hb).1
 split
 ·refine ⟨h,?_⟩
  exact rep_wrong hh.1 hh.2 (by omega) (by omega)
 ·rename_i q
  rcases h2 with ⟨_,h3,h4,_⟩ | ⟨h3,_⟩
  ·exact ⟨servS_ok h h3 h4,servS_rep h h3 h4⟩
  ·omega
theorem sown_r_eq {s:TSl} (h:OkS s):qu0_ (s,())=some (s.1,s.2.1,s.2.2.1.1,s.2.2.1.2.1.1,s.2.2.1.2.1.2,s.2.2.1.2.2.1,s.2.2.1.2.2.2.1,s.2.2.1.2.2.2.2.1,s.2.2.1.2.2.2.2.2.1.1,
  s.2.2.1.2.2.2.2.2.1.2.1.getD 0 false,s.2.2.1.2.2.2.2.2.1.2.1.getD 1 false,s.2.2.1.2.2.2.2.2.1.2.1.getD 2 false,s.2.2.1.2.2.2.2.2.1.2.1.getD 3 false,s.2.2.1.2.2.2.2.2.1.2.1.getD 4 false,s.2.2.1.2.2.2.2.2.1.2.1.getD 5 false,s.2.2.1.2.2.2.2.2.1.2.1.getD 6 false,s.2.2.1.2.2.2.2.2.1.2.1.getD 7 false,
  (s.2.2.1.2.2.2.2.2.1.2.2.getD 0 (0,[])).1,(s.2.2.1.2.2.2.2.2.1.2.2.getD 0 (0,[])).2,(s.2.2.1.2.2.2.2.2.1.2.2.getD 1 (0,[])).1,(s.2.2.1.2.2.2.2.2.1.2.2.getD 1 (0,[])).2,(s.2.2.1.2.2.2.2.2.1.2.2.getD 2 (0,[])).1,(s.2.2.1.2.2.2.2.2.1.2.2.getD 2 (0,[])).2,(s.2.2.1.2.2.2.2.2.1.2.2.getD 3 (0,[])).1,(s.2.2.1.2.2.2.2.2.1.2.2.getD 3 (0,[])).2,(s.2.2.1.2.2.2.2.2.1.2.2.getD 4 (0,[])).1,(s.2.2.1.2.2.2.2.2.1.2.2.getD 4 (0,[])).2,(s.2.2.1.2.2.2.2.2.1.2.2.getD 5 (0,[])).1,(s.2.2.1.2.2.2.2.2.1.2.2.getD 5 (0,[])).2,(s.2.2.1.2.2.2.2.2.1.2.2.getD 6 (0,[])).1,(s.2.2.1.2.2.2.2.2.1.2.2.getD 6 (0,[])).2,(s.2.2.1.2.2.2.2.2.1.2.2.getD 7 (0,[])).1,(s.2.2.1.2.2.2.2.2.1.2.2.getD 7 (0,[])).2,
  s.2.2.1.2.2.2.2.2.2,s.2.2.2,()):=by
 have hw:∀ i,((s.2.2.1.2.2.2.2.2.1.2.2.getD i (0,[])).2).length≤1000000:=fun i=>by
  rw [List.getD_eq_getElem?_getD]
  cases hx:s.2.2.1.2.2.2.2.2.1.2.2[i]? with
  | none=>exact Nat.zero_le _
  | some x=>have:=h.a.bb x (List.mem_of_getElem? hx); show x.2.length≤_; omega
 have hc:=h.c
 have hbl:=h.a.bl
 show qox_ s=_
 unfold qox_
 rw [cloneBr_eq (by omega),Option.bind_some,q3v_ (by omega),Option.bind_some,q3v_ (hw 0),Option.bind_some,q3v_ (hw 1),Option.bind_some,q3v_ (hw 2),Option.bind_some,q3v_ (hw 3),Option.bind_some,q3v_ (hw 4),Option.bind_some,q3v_ (hw 5),Option.bind_some,q3v_ (hw 6),Option.bind_some,q3v_ (hw 7),Option.bind_some]
theorem serve_full {s:TSl} (h:OkS s) {b:List Int} (hb:∀ x ∈ b,0≤x∧x≤255):q85_ (s,b,())=some ((fullS s b).1,repB (fullS s b).2,()):=by
 obtain ⟨ok,rp⟩:=fullS_ok h hb
 obtain ⟨h1,h2⟩:=look_S hb
 show qp6_ s b=_
 unfold qp6_
 rw [sown_r_eq h,Option.bind_some]
 have key:Option.bind (qcg_ (b,())) (fun y=>if eqi y.2.1 0=true then Option.bind (q3q_ ()) fun y_1=>Option.bind (q4w_ (y_1.1,y.1,())) fun y_2=>midS y_2.1 s y.1 else midS y.2.1 s y.1)=some ((fullS s b).1,(fullS s b).2,()):=by
  rw [h1,Option.bind_some]
  dsimp only
  unfold fullS
  rcases h2 with ⟨e,ha,hr,_⟩ | ⟨e,e2⟩
  ·rw [if_pos (q4_.2 e),space_eq,Option.bind_some,check_eq ha hr,Option.bind_some,if_neg (show ¬ ((lookS b).2 ≠ 0) by omega)]
   exact mid_serv h ha hr
  ·have hne:(lookS b).2 ≠ 0:=by omega
   rw [if_neg (fun x=>hne (q4_.1 x)),if_pos hne,mid_eq h.a.hl h.a.sl,if_pos (qf_.2 hne),e2,wrong_eq]
   rfl
 refine (congrArg (fun z=>Option.bind z fun y=>Option.bind (qcc_ (y.2.1,())) fun y_1=>(some (y.1,y_1.1,()):Option (As qfl_.rs))) key).trans ?_
 rw [Option.bind_some,rep_bytes rp]
 rfl
end Go.Proofs.Lx
end
section
namespace Go.Proofs.Lx
open Go Ev Sx
set_option maxRecDepth 100000
theorem awake21:qge_ ()=some (true,()):=by kernel_rfl
end Go.Proofs.Lx
end
section
namespace Go.Proofs.Lx
open Go Ev Sx Pl
set_option maxRecDepth 100000
def bank64 (b:List Int):List Int:=b.take 64++List.replicate (64 - b.length) 0
theorem bank64_len (b:List Int):(bank64 b).length=64:=by
 unfold bank64
 rw [List.length_append,List.length_take,List.length_replicate]
 omega
theorem bank64_rng {b:List Int} (h:∀ x ∈ b,0≤x∧x≤65535):∀ x ∈ bank64 b,0≤x∧x≤65535:=by
 intro x hx
 rcases List.mem_append.1 hx with e | e
 ·exact h x (List.mem_of_mem_take e)
 ·have:=List.eq_of_mem_replicate e
  omega
theorem lbank_eq (b:List Int):qyh_ (b,())=some (bank64 b,()):=by
 show qtr_ b=_
 unfold qtr_ bank64
 refine congrArg (fun x=>some (b.take 64++x,())) ?_
 rw [List.drop_replicate,List.length_take,Nat.zero_add]
 congr 1
 omega
def begS (link:Int) (b:List Int) (ticks:Int):TSl:=(9,1 + link % 2,zAg (bank64 b) (1 + ticks % 20),List.replicate 16 false)
theorem begS_ok {link ticks:Int} {b:List Int} (hb:∀ x ∈ b,0≤x∧x≤65535):OkS (begS link b ticks):=by
 refine ⟨⟨(by decide:(1:Int)≤9),(by decide:(9:Int)≤247)⟩,?_,ok_free (bank64_len b) (bank64_rng hb) ⟨by decide,by decide⟩ ⟨by omega,by omega⟩,rfl⟩
 show 1 + link % 2=1∨1 + link % 2=2
 omega
theorem begun_eq {link ticks:Int} {b:List Int} (h1:0≤link) (h2:0≤ticks):qpj_ (link,b,ticks,())=some (begS link b ticks,true,()):=by
 obtain ⟨e1,e2,_⟩:=beg_rng (link:=link) (timeout:=ticks) (retries:=0) h1 h2 (by decide)
 show qoq_ link b ticks=_
 unfold qoq_
 rw [lbank_eq,Option.bind_some,e1,e2]
 dsimp only
 have hl:=bank64_len b
 have hn:qqo_ (9,1 + link % 2,bank64 b,1 + ticks % 20,())=some (begS link b ticks,0,()):=by
  show qsa_ 9 (1 + link % 2) (bank64 b) (1 + ticks % 20)=_
  unfold qsa_
  have hr:q8u_ (9,1 + link % 2,())=some (true,()):=by
   show q8e_ 9 (1 + link % 2)=_
   unfold q8e_
   rw [if_pos (by decide),if_pos (by decide)]
   by_cases e:1 + link % 2=1
   ·rw [if_pos (q4_.2 e)]
   ·rw [if_neg (fun x=>e (q4_.1 x)),q4_.2 (by omega)]
  rw [hr,Option.bind_some,if_neg (by decide),anew_eq (by omega),if_pos hl,if_pos (by omega),Option.bind_some]
  rfl
 rw [hn,Option.bind_some,if_pos (by rfl)]
 refine congrArg (fun x=>some (begS link b ticks,x,())) ?_
 show eqi (Int.ofNat (bank64 b).length) 64=true
 rw [hl]
 rfl
theorem fits_ex {a:TA} (hr:q1o_ a=true) {e:Int} (he:e ≠ 0) (h:RR (a.1,e,[],[],0,0)):fitsV a (a.1,e,[],[],0,0)=true:=by
 unfold fitsV
 rw [hr,RR_right h]
 dsimp only
 rw [if_pos he,decide_eq_true rfl]
 rfl
theorem rdBits_drop {c:List Bool} {p n:Nat} (h:p + n≤c.length):(rdBits c p n).drop n=List.replicate ((n + 7) / 8 * 8 - n) false:=by
 unfold rdBits
 rw [List.drop_left' (by rw [List.length_take,List.length_drop]; omega)]
theorem fits_ans {s:TSl} (h:OkS s) {a:TA} (ha:OkA a) (hr:q1o_ a=true) (hc:chkS a=true):fitsV a (answS s a)=true:=by
 have rp:=answS_rep h ha hr hc
 have p0:=ha.at0
 have hcl:=h.c
 have hil:=inpS_len s.2.2.1
 have hhl:=holdS_len h.a
 unfold fitsV
 rw [hr,rp.rt,Bool.true_and,Bool.true_and]
 unfold chkS at hc
 have bits:∀ (c:List Bool) (p n:Nat),p + n≤c.length->1≤n->(if 0 < (rdBits c p n).length then decide (((rdBits c p n).length:Int)=((n:Int) + 7) / 8 * 8) && !decide (true ∈ (rdBits c p n).drop (Int.toNat (n:Int))) else decide ((([]:List Int).length:Int)=(n:Int)))=true:=fun c p n hle h1=>by
  have hl:=rdBits_len hle
  rw [if_pos (by omega),Int.toNat_natCast,rdBits_drop hle,decide_eq_true (by rw [hl]; omega),decide_eq_false (by rw [List.mem_replicate]; simp)]
  rfl
 have words:∀ (c:List Int) (p n:Nat),p + n≤c.length->(if 0 < ([]:List Bool).length then decide ((([]:List Bool).length:Int)=((n:Int) + 7) / 8 * 8) && !decide (true ∈ ([]:List Bool).drop (Int.toNat (n:Int))) else decide ((((c.drop p).take n).length:Int)=(n:Int)))=true:=fun c p n hle=>by
  rw [if_neg (by simp),decide_eq_true_eq,List.length_take,List.length_drop]
  omega
 cases q3i_ hr with
 | bits f p n hf g1 g2 =>
  obtain ⟨p,rfl⟩:=Int.eq_ofNat_of_zero_le (show 0≤p from p0)
  obtain ⟨n,rfl⟩:=Int.eq_ofNat_of_zero_le (show 0≤n by omega)
  rcases hf with rfl | rfl
  ·have hc:(p:Int) + (n:Int)≤16:=of_decide_eq_true hc
   exact bits s.2.2.2 p n (by omega) (by omega)
  ·have hc:(p:Int) + (n:Int)≤8:=of_decide_eq_true hc
   exact bits (inpS s.2.2.1) p n (by omega) (by omega)
 | words f p n hf g1 g2 =>
  obtain ⟨p,rfl⟩:=Int.eq_ofNat_of_zero_le (show 0≤p from p0)
  obtain ⟨n,rfl⟩:=Int.eq_ofNat_of_zero_le (show 0≤n by omega)
  rcases hf with rfl | rfl
  ·have hle:=rdH_le (p:=(p:Int)) (m:=n) (by omega) hc
   exact words (holdS s.2.2.1) p n (by omega)
  ·have hc:(p:Int) + (n:Int)≤8:=of_decide_eq_true hc
   exact words (statA s.2.2.1) p n (by show p + n≤8; omega)
 | coil p b=>show (decide ((5:Int)=5) && decide (((5,0,[b],[],p,0):TR)=(5,0,[b],[],p,0)))=true; rw [decide_eq_true rfl,decide_eq_true rfl]; rfl
 | word p x=>show (decide ((6:Int)=6) && decide (((6,0,[],[x],p,0):TR)=(6,0,[],[x],p,0)))=true; rw [decide_eq_true rfl,decide_eq_true rfl]; rfl
 | coils p l g1 g2=>show (decide ((15:Int)=15) && decide (((15,0,[],[],p,(l.length:Int)):TR)=(15,0,[],[],p,(l.length:Int))))=true; rw [decide_eq_true rfl,decide_eq_true rfl]; rfl
 | regs p l g1 g2=>show (decide ((16:Int)=16) && decide (((16,0,[],[],p,(l.length:Int)):TR)=(16,0,[],[],p,(l.length:Int))))=true; rw [decide_eq_true rfl,decide_eq_true rfl]; rfl
 | swap p n t l g1 g2 g3 g4 =>
  obtain ⟨p,rfl⟩:=Int.eq_ofNat_of_zero_le (show 0≤p from p0)
  obtain ⟨n,rfl⟩:=Int.eq_ofNat_of_zero_le (show 0≤n by omega)
  have hc1:=(Bool.and_eq_true _ _ ▸ (show (rdH (p:Int) n && decide (t=272∧l.length=8∨t=288∧l.length=20))=true from hc):_∧_).1
  have hle:=rdH_le (p:=(p:Int)) (m:=n) (by omega) hc1
  exact words (holdS s.2.2.1) p n (by omega)
theorem fits_serv {s:TSl} (h:OkS s) {a:TA} (ha:OkA a) (hr:q1o_ a=true):fitsV a (servS s a).2=true:=by
 have rp:=servS_rep h ha hr
 have ok:=servS_ok h ha hr
 unfold servS at rp ok ⊢
 split
 ·rename_i q
  rw [if_pos q] at rp
  exact fits_ex hr (by decide) rp.rr
 ·rename_i hc
  rw [if_neg hc] at ok rp
  have hc:=chk_t hc
  split
  ·rename_i q
   rw [if_pos q] at ok
   exact fits_ans ok ha hr hc
  ·rename_i q
   rw [if_neg q] at ok rp
   split
   ·exact fits_ans h ha hr hc
   ·rename_i q2
    rw [if_neg q2] at ok rp
    split
    ·rename_i q3
     rw [if_pos q3] at rp
     exact fits_ex hr q3 rp.rr
    ·rename_i q3
     rw [if_neg q3] at ok
     exact fits_ans ok ha hr hc
theorem lbits_eq {a b:List Bool} (h:a.length≤1000000):qsh_ (a,b,())=some (decide (a=b),()):=by
 show qpd_ qj9_ a b=_
 unfold qpd_
 by_cases hl:a.length=b.length
 ·rw [if_neg (by rw [qf_,q1_,q1_]; omega)]
  unfold qj9_
  have hz:(a.zip b).length=a.length:=by rw [List.length_zip]; omega
  rw [<- goL_eq (ne:=neb) (fun a b=>by cases a <;> cases b <;> rfl) a b hl]
  refine loop_go (xs:=a.zip b) (mk:=fun i _=>(a,b,Int.ofNat a.length,(i:Int))) ?_ ?_ a.length 0 () _ (by rw [hz]; omega) (by omega)
  ·intro self i acc x hx
   have hi:=(List.getElem?_eq_some_iff.1 hx).1
   obtain ⟨h1,h2⟩:=zip_at hl hx
   show qg7_ _ a b (Int.ofNat a.length) (i:Int)=_
   unfold qg7_
   rw [if_pos (by rw [q7_,q1_]; omega),ql_ h1,Option.bind_some,ql_ h2,Option.bind_some,q1a_ (by omega)]
  ·intro self acc
   show qg7_ _ a b (Int.ofNat a.length) (((a.zip b).length:Nat):Int)=_
   unfold qg7_
   rw [if_neg (by rw [q7_,q1_]; omega)]
 ·rw [if_pos (by rw [qf_,q1_,q1_]; omega),decide_eq_false (fun e=>hl (by rw [e]))]
end Go.Proofs.Lx
end
section
namespace Go.Proofs.Lx
open Go Ev Sx Pl
set_option maxRecDepth 100000
theorem slown_eq {s:TSl} (h:OkS s):qeb_ (s,())=some (s,()):=by
 have hc:=h.c
 have hbl:=h.a.bl
 obtain ⟨u,l,⟨bk,ls,ph,tx,la,⟨st,hv,bs⟩,tk⟩,co⟩:=s
 have hsl:bs.length=8:=h.a.sl
 have hbb:∀ b ∈ bs,b.2.length≤1000:=h.a.bb
 show qmy_ qcx_ (u,l,(bk,ls,ph,tx,la,(st,hv,bs),tk),co)=_
 unfold qmy_
 dsimp only at hc hbl ⊢
 rw [cloneB_eq (by omega),Option.bind_some,q3v_ (by omega),Option.bind_some]
 show qcx_ 0 0 0 [(u,l,(bk,ls,ph,tx,la,(st,hv,bs),tk),co)] _=_
 unfold qcx_
 refine loop_dt (N:=8) (mk:=fun i=>(0,0,(i:Int),[(u,l,(bk,ls,ph,tx,la,(st,hv,bs),tk),co)],_)) ?_ ?_ 8 0 _ (by omega) (by omega)
 ·intro self i hi
  show qds_ _ 0 0 (i:Int) [(u,l,(bk,ls,ph,tx,la,(st,hv,bs),tk),co)] _=_
  obtain ⟨b,hb⟩:=get_of (xs:=bs) (i:=i) (by omega)
  have l8:lt (i:Int) 8=true:=q7_.2 (by omega)
  have g0:ge (i:Int) 0=true:=q17_.2 (by omega)
  have hset:bs.set i (b.1,b.2)=bs:=by
   apply List.ext_getElem?
   intro j
   by_cases e:i=j
   ·subst e
    rw [List.getElem?_set_self (by omega),hb]
   ·rw [List.getElem?_set_ne e]
  unfold qds_
  rw [if_pos l8,q8_ g0,q8_ l8,q1b_,Option.bind_some]
  dsimp only
  rw [ql_ hb,Option.bind_some,q3v_ (by have:=hbb b (List.mem_of_getElem? hb); omega),Option.bind_some,Option.bind_some]
  dsimp only
  rw [ql_ hb,Option.bind_some,q1a_ (by omega),Int.toNat_natCast,hset]
  rfl
 ·intro self
  show qds_ _ 0 0 (8:Int) [(u,l,(bk,ls,ph,tx,la,(st,hv,bs),tk),co)] _=_
  unfold qds_
  rw [if_neg (by decide)]
  rfl
def tickS (s:TSl):TSl:=setA s (tickA (ownA s.2.2.1))
def bootS (s:TSl):TSl:=(s.1,s.2.1,bootA (ownA s.2.2.1),List.replicate 16 false)
theorem stick_eq {s:TSl} (h:OkS s):qrp_ (s,())=some (tickS s,()):=by
 show qr6_ s=_
 unfold qr6_
 rw [slown_eq h,Option.bind_some,atick_eq h.a]
 rfl
theorem sboot_eq {s:TSl} (h:OkS s):qrr_ (s,())=some (bootS s,()):=by
 show qr0_ s=_
 unfold qr0_
 rw [slown_eq h,Option.bind_some,aboot_eq h.a]
 rfl
theorem tickS_ok {s:TSl} (h:OkS s):OkS (tickS s):=⟨h.u,h.l,h.a.own.tickA,h.c⟩
theorem bootS_ok {s:TSl} (h:OkS s):OkS (bootS s):=⟨h.u,h.l,h.a.own.bootA,rfl⟩
def takeS (s:TSl) (f:List Int):TSl×List Int :=
 if s.2.1=2 then
  if (mbapP f).2 ≠ 0∨(mbapP f).1.2.1 ≠ s.1 then (s,[]) else ((fullS s (mbapP f).1.2.2).1,mbapV (mbapP f).1.1 (mbapP f).1.2.1 (repB (fullS s (mbapP f).1.2.2).2))
 else
  if (rtuV f).2.2 ≠ 0∨(rtuV f).1 ≠ s.1 then (s,[]) else ((fullS s (rtuV f).2.1).1,putV ((rtuV f).1::repB (fullS s (rtuV f).2.1).2))
theorem rep_len {r:TR} (h:Rep r):2≤(repB r).length∧(repB r).length≤253:=repB_len h.rr
theorem mbapP_bytes {f:List Int} (hf:∀ x ∈ f,0≤x∧x≤255):∀ x ∈ (mbapP f).1.2.2,0≤x∧x≤255:=by
 intro x hx
 unfold mbapP at hx
 split at hx
 ·rename_i b0 b1 b2 b3 b4 b5 b6 pdu
  have hp:∀ y ∈ pdu,0≤y∧y≤255:=fun y hy=>hf y (by simp [hy])
  revert hx
  repeat' split
  all_goals first | exact fun hx=>hp x hx | (intro hx; cases hx)
 ·cases hx
theorem rtuV_bytes {f:List Int} (hf:∀ x ∈ f,0≤x∧x≤255):∀ x ∈ (rtuV f).2.1,0≤x∧x≤255:=by
 intro x hx
 unfold rtuV at hx
 split at hx
 ·cases hx
 ·split at hx
  ·cases hx
  ·rename_i h0
   have hc:∀ y ∈ (cutV f).1,0≤y∧y≤255:=by
    intro y hy
    unfold cutV at hy
    split at hy
    ·cases hy
    ·split at hy
     ·exact hf y (List.mem_of_mem_take hy)
     ·cases hy
   split at hx
   ·cases hx
   ·rename_i a r he
    rw [he] at hc
    split at hx
    ·exact hc x (List.mem_cons_of_mem _ hx)
    ·cases hx
theorem stake_eq {s:TSl} (h:OkS s) {f:List Int} (hf:∀ x ∈ f,0≤x∧x≤255) (hl:f.length≤100000):qnp_ (s,f,())=some ((takeS s f).1,(takeS s f).2,()):=by
 have hu:=h.u
 show ql1_ q8w_ qbk_ s f=_
 unfold ql1_ takeS
 by_cases hk:s.2.1=2
 ·rw [if_pos (q4_.2 hk),if_pos hk,mparse_eq hl hf,Option.bind_some]
  have hb:=mbapP_bytes hf
  have K:∀ t z,q8w_ 0 0 t [s] [z] (mbapP f).1=some (if t=true then (s,[],()) else ((fullS s (mbapP f).1.2.2).1,if (mbapP f).1.2.1=s.1 then mbapV (mbapP f).1.1 (mbapP f).1.2.1 (repB (fullS s (mbapP f).1.2.2).2) else ((q8w_ 0 0 t [s] [z] (mbapP f).1).getD (s,[],())).2.1,())):=fun t z=>by
   cases t with
   | true =>
    show qbq_ 0 0 true [s] [z] (mbapP f).1=_
    unfold qbq_
    rw [if_pos rfl,q1b_,Option.bind_some,slown_eq h]
    rfl
   | false =>
    obtain ⟨ok,rp⟩:=fullS_ok h hb
    have hlen:=rep_len rp
    have e:q8w_ 0 0 false [s] [z] (mbapP f).1=some ((fullS s (mbapP f).1.2.2).1,mbapV (mbapP f).1.1 (mbapP f).1.2.1 (repB (fullS s (mbapP f).1.2.2).2),()):=by
     show qbq_ 0 0 false [s] [z] (mbapP f).1=_
     unfold qbq_
     rw [if_neg (by decide),q1b_,Option.bind_some,serve_full h hb,Option.bind_some,Option.bind_some]
     dsimp only
     rw [q1ay_ (by omega) hlen.2]
     rfl
    rw [e]
    simp
  by_cases h0:(mbapP f).2=0
  ·rw [if_neg (fun e=>qf_.1 e h0)]
   by_cases h1:(mbapP f).1.2.1=s.1
   ·have hn:nei (mbapP f).1.2.1 s.1=false:=by
     rw [Bool.eq_false_iff]
     exact fun e=>qf_.1 e h1
    dsimp only
    rw [hn,K,if_neg (by decide),if_pos h1,if_neg (by rintro (e | e); exact e h0; exact e h1)]
   ·dsimp only
    rw [qf_.2 h1,K,if_pos rfl,if_pos (Or.inr h1)]
  ·rw [if_pos (qf_.2 h0)]
   dsimp only
   rw [K,if_pos rfl,if_pos (Or.inl h0)]
 ·rw [if_neg (fun e=>hk (q4_.1 e)),if_neg hk,rtup_eq,Option.bind_some]
  have hb:=rtuV_bytes hf
  have Kt:∀ z,qbk_ 0 0 (rtuV f).1 (rtuV f).2.1 true [s] [z]=some (s,[],()):=fun z=>by
   show qbn_ 0 0 (rtuV f).1 (rtuV f).2.1 true [s] [z]=_
   unfold qbn_
   rw [if_pos rfl,q1b_,Option.bind_some,slown_eq h]
   rfl
  have Kf:∀ z,(rtuV f).1=s.1->qbk_ 0 0 (rtuV f).1 (rtuV f).2.1 false [s] [z]=some ((fullS s (rtuV f).2.1).1,putV ((rtuV f).1::repB (fullS s (rtuV f).2.1).2),()):=fun z hz=>by
   obtain ⟨ok,rp⟩:=fullS_ok h hb
   have hlen:=rep_len rp
   show qbn_ 0 0 (rtuV f).1 (rtuV f).2.1 false [s] [z]=_
   unfold qbn_
   rw [if_neg (by decide),q1b_,Option.bind_some,serve_full h hb,Option.bind_some,Option.bind_some]
   dsimp only
   rw [rtub_eq (by omega) (by omega) (by omega) hlen.2]
   rfl
  by_cases h0:(rtuV f).2.2=0
  ·rw [if_neg (fun e=>qf_.1 e h0)]
   by_cases h1:(rtuV f).1=s.1
   ·have hn:nei (rtuV f).1 s.1=false:=by
     rw [Bool.eq_false_iff]
     exact fun e=>qf_.1 e h1
    dsimp only
    rw [hn,Kf _ h1,if_neg (by rintro (e | e); exact e h0; exact e h1)]
   ·dsimp only
    rw [qf_.2 h1,Kt,if_pos (Or.inr h1)]
  ·rw [if_pos (qf_.2 h0)]
   dsimp only
   rw [Kt,if_pos (Or.inl h0)]
theorem takeS_ok {s:TSl} (h:OkS s) {f:List Int} (hf:∀ x ∈ f,0≤x∧x≤255):OkS (takeS s f).1:=by
 unfold takeS
 split
 ·split
  ·exact h
  ·exact (fullS_ok h (mbapP_bytes hf)).1
 ·split
  ·exact h
  ·exact (fullS_ok h (rtuV_bytes hf)).1
end Go.Proofs.Lx
end
section
namespace Go.Proofs.Lx
open Go Ev Sx Pl
set_option maxRecDepth 100000
def cmdA (c:TCm):TA:=(23,256,8,272,[c.1,c.2.1,c.2.2.1 / 65536,c.2.2.1 % 65536,c.2.2.2.1,c.2.2.2.2 / 65536,c.2.2.2.2 % 65536,0],[])
structure OkC (c:TCm):Prop where
 o:0≤c.1∧c.1≤65535
 v:0≤c.2.1∧c.2.1≤255
 t:0≤c.2.2.1∧c.2.2.1≤4294967295
 n:0≤c.2.2.2.1∧c.2.2.2.1≤65535
 k:0≤c.2.2.2.2∧c.2.2.2.2≤4294967295
theorem cmdA_ok {c:TCm} (h:OkC c):OkA (cmdA c)∧q1o_ (cmdA c)=true∧chkS (cmdA c)=true:=by
 have h1:=h.o
 have h2:=h.v
 have h3:=h.t
 have h4:=h.n
 have h5:=h.k
 refine ⟨⟨(by decide:(0:Int)≤23),(by decide:(23:Int)≤255),(by decide:(0:Int)≤256),(by decide:(256:Int)≤65535),(by decide:(0:Int)≤8),(by decide:(8:Int)≤65535),(by decide:(0:Int)≤272),(by decide:(272:Int)≤65535),?_,(by decide:8≤100000),(by decide:0≤100000)⟩,rfl,?_⟩
 ·intro x hx
  simp only [cmdA,List.mem_cons,List.not_mem_nil,or_false] at hx
  rcases hx with e | e | e | e | e | e | e | e <;> omega
 ·show (rdH 256 8 && decide ((272:Int)=272∧8=8∨(272:Int)=288∧8=20))=true
  decide
end Go.Proofs.Lx
end
section
namespace Go.Proofs.Lx
open Go Ev Sx Pl
set_option maxRecDepth 100000
theorem bsame_z1 {x y:TBlk} (h:x.2.length≤1000000):qm3_ (x,y,())=some (decide (x=y),()):=by
 show qnd_ x y=_
 unfold qnd_
 by_cases e:x.1=y.1
 ·rw [if_pos (q4_.2 e),equalW_eq h,Option.bind_some]
  refine congrArg (fun b=>some (b,())) ?_
  rw [decide_eq_decide]
  exact ⟨fun h=>Prod.ext e h,fun h=>by rw [h]⟩
 ·rw [if_neg (fun h=>e (q4_.1 h)),decide_eq_false (fun h=>e (by rw [h]))]
theorem bsame_eq {a b:List TBlk} (hl:a.length≤1000000) (hw:∀ x ∈ a,x.2.length≤1000000):qtf_ (a,b,())=some (decide (a=b),()):=by
 have hE:q59_ (a,b,())=some (decide (a=b),()):=by
  show q4i_ q36_ a b=_
  unfold q4i_
  by_cases hl2:a.length=b.length
  ·rw [if_neg (by rw [qf_,q1_,q1_]; omega)]
   unfold q36_
   have hz:(a.zip b).length=a.length:=by rw [List.length_zip]; omega
   rw [<- goL_eq (ne:=fun x y=>!decide (x=y)) (fun _ _=>rfl) a b hl2]
   refine loop_go (xs:=a.zip b) (mk:=fun i _=>(b,a,Int.ofNat a.length,(i:Int))) ?_ ?_ a.length 0 () _ (by rw [hz]; omega) (by omega)
   ·intro self i acc x hx
    have hi:=(List.getElem?_eq_some_iff.1 hx).1
    obtain ⟨h1,h2⟩:=zip_at hl2 hx
    show q25_ _ b a (Int.ofNat a.length) (i:Int)=_
    unfold q25_
    rw [if_pos (by rw [q7_,q1_]; omega),ql_ h1,Option.bind_some,ql_ h2,Option.bind_some,bsame_z1 (hw _ (List.mem_of_getElem? h1)),Option.bind_some,q1a_ (by omega)]
   ·intro self acc
    show q25_ _ b a (Int.ofNat a.length) (((a.zip b).length:Nat):Int)=_
    unfold q25_
    rw [if_neg (by rw [q7_,q1_]; omega)]
  ·rw [if_pos (by rw [qf_,q1_,q1_]; omega),decide_eq_false (fun e=>hl2 (by rw [e]))]
 show qsz_ a b=_
 unfold qsz_
 rw [hE]
 rfl
theorem nz_of_blk:∀ {hv:List Bool} {b1 b2:List TBlk},b1.length=hv.length->b2.length=hv.length->blkS hv b1=blkS hv b2->nzB hv b1=nzB hv b2
 | [],_,_,_,_,_=>rfl
 | h::r,[],_,e,_,_=>by simp at e
 | h::r,_::_,[],_,e,_=>by simp at e
 | h::r,x::p,y::q,e1,e2,e=>by
  have ih:=nz_of_blk (hv:=r) (b1:=p) (b2:=q) (by simpa using e1) (by simpa using e2)
  unfold blkS nzB at *
  rw [List.zip_cons_cons,List.zip_cons_cons,List.filter_cons,List.filter_cons] at e
  rw [List.zipWith_cons_cons,List.zipWith_cons_cons]
  cases h with
  | true =>
   rw [if_pos rfl,if_pos rfl,List.map_cons,List.map_cons] at e
   have e':=List.cons.inj e
   have e1:x=y:=e'.1
   rw [ih e'.2,e1]
  | false=>rw [ih e]; rfl
theorem ssame_eq {a b:TStg} (h1:a.2.1.length=8) (h2:a.2.2.length=8) (h3:b.2.1.length=8) (h4:b.2.2.length=8) (hw:∀ x ∈ a.2.2,x.2.length≤1000) (hw2:∀ x ∈ b.2.2,x.2.length≤1000) :
  qrn_ (a,b,())=some (decide ((a.1,a.2.1,nzB a.2.1 a.2.2)=(b.1,b.2.1,nzB b.2.1 b.2.2)),()):=by
 have sa:=sblocks_eq h1 h2 hw
 have sb:=sblocks_eq h3 h4 hw2
 have hbl:(blkS a.2.1 a.2.2).length≤8:=by have:=blkS_le (hv:=a.2.1) (bs:=a.2.2); omega
 have hbw:∀ x ∈ blkS a.2.1 a.2.2,x.2.length≤1000000:=fun x hx=>by have:=hw x (blkS_mem hx); omega
 obtain ⟨st,hv,bs⟩:=a
 obtain ⟨st',hv',bs'⟩:=b
 dsimp only at h1 h2 h3 h4 sa sb hbl hbw ⊢
 show qrf_ (st,hv,bs) (st',hv',bs')=_
 unfold qrf_
 by_cases e1:st=st'
 ·rw [if_pos (q4_.2 e1)]
  dsimp only
  have e8:((eqb (List.getD hv 0 false) (List.getD hv' 0 false) && (eqb (List.getD hv 1 false) (List.getD hv' 1 false) && (eqb (List.getD hv 2 false) (List.getD hv' 2 false) && (eqb (List.getD hv 3 false) (List.getD hv' 3 false) && (eqb (List.getD hv 4 false) (List.getD hv' 4 false) && (eqb (List.getD hv 5 false) (List.getD hv' 5 false) && (eqb (List.getD hv 6 false) (List.getD hv' 6 false) && (eqb (List.getD hv 7 false) (List.getD hv' 7 false) && true))))))))=true) ↔ hv=hv':=by
   simp only [Bool.and_eq_true,eqb_iff,and_true]
   constructor
   ·rintro ⟨c0,c1,c2,c3,c4,c5,c6,c7⟩
    rw [<- getD8 (z:=false) h1,<- getD8 (z:=false) h3,c0,c1,c2,c3,c4,c5,c6,c7]
   ·intro e
    rw [e]
    exact ⟨rfl,rfl,rfl,rfl,rfl,rfl,rfl,rfl⟩
  by_cases e2:hv=hv'
  ·subst e1
   subst e2
   rw [if_pos (e8.2 rfl),sa,Option.bind_some,sb,Option.bind_some]
   dsimp only
   rw [bsame_eq (by omega) hbw,Option.bind_some]
   refine congrArg (fun b=>some (b,())) ?_
   rw [decide_eq_decide]
   constructor
   ·intro e
    rw [nz_of_blk (by omega) (by omega) e]
   ·intro e
    have e:=(Prod.mk.inj (Prod.mk.inj e).2).2
    rw [<- blkS_nz hv bs,<- blkS_nz hv bs',e]
  ·rw [if_neg (fun e=>e2 (e8.1 e)),decide_eq_false (fun e=>e2 (Prod.mk.inj (Prod.mk.inj e).2).1)]
 ·rw [if_neg (fun e=>e1 (q4_.1 e)),decide_eq_false (fun e=>e1 (Prod.mk.inj e).1)]
instance dBk:DecidableEq TBlk:=inferInstance
instance dSt1:DecidableEq (List Bool×List TBlk):=inferInstance
instance dSt:DecidableEq TStg:=inferInstance
instance dAg1:DecidableEq (TStg×Int):=inferInstance
instance dAg2:DecidableEq (Int×TStg×Int):=inferInstance
instance dAg3:DecidableEq (Int×Int×TStg×Int):=inferInstance
instance dAg4:DecidableEq (Int×Int×Int×TStg×Int):=inferInstance
instance dAg5:DecidableEq (TLs×Int×Int×Int×TStg×Int):=inferInstance
instance dAg:DecidableEq TAg:=inferInstance
instance dSl1:DecidableEq (TAg×List Bool):=inferInstance
instance dSl:DecidableEq TSl:=inferInstance
theorem asame_eq {a b:TAg} (h1:SzA a) (h2:SzA b):qew_ (a,b,())=some (decide (ownA a=ownA b),()):=by
 have hs:=ssame_eq h1.hv h1.bs h2.hv h2.bs h1.bw h2.bw
 have hbk:=h1.bk
 obtain ⟨bk,⟨lo,lf⟩,ph,tx,la,⟨st,hv,bs⟩,tk⟩:=a
 obtain ⟨bk',⟨lo',lf'⟩,ph',tx',la',⟨st',hv',bs'⟩,tk'⟩:=b
 dsimp only at hs hbk
 show qr5_ (bk,(lo,lf),ph,tx,la,(st,hv,bs),tk) (bk',(lo',lf'),ph',tx',la',(st',hv',bs'),tk')=_
 unfold qr5_
 rw [equalW_eq (show bk.length≤1000000 by omega),Option.bind_some]
 dsimp only
 rw [hs]
 simp only [Option.bind_some]
 rw [if_dec (p:=bk=bk') decide_eq_true_iff fun _=>if_dec (p:=lo=lo'∧lf=lf') (by simp only [Bool.and_eq_true,q4_,and_true]) fun _=>if_dec (p:=ph=ph') q4_ fun _=>if_dec (p:=tx=tx') q4_ fun _=>if_dec (p:=la=la') q4_ fun _=>if_dec (p:=(st,hv,nzB hv bs)=(st',hv',nzB hv' bs')) decide_eq_true_iff fun _=>rfl]
 refine congrArg (fun b=>some (b,())) ?_
 show _=decide ((bk,(lo,lf),ph,tx,la,(st,hv,nzB hv bs),tk)=(bk',(lo',lf'),ph',tx',la',(st',hv',nzB hv' bs'),tk'))
 rw [Bool.eq_iff_iff]
 simp only [Bool.and_eq_true,decide_eq_true_eq,q4_,Prod.mk.injEq]
def ownS (s:TSl):TSl:=setA s (ownA s.2.2.1)
theorem slsame_eq {a b:TSl} (h1:OkS a) (h2:SzA b.2.2.1):qf7_ (a,b,())=some (decide (ownS a=ownS b),()):=by
 have hs:=asame_eq h1.a.sz h2
 have hc:=h1.c
 obtain ⟨u,l,g,c⟩:=a
 obtain ⟨u',l',g',c'⟩:=b
 dsimp only at hs hc
 show qr1_ (u,l,g,c) (u',l',g',c')=_
 unfold qr1_
 dsimp only
 rw [hs,Option.bind_some]
 rw [equalB_eq (by omega)]
 simp only [Option.bind_some]
 rw [if_dec (p:=u=u') q4_ fun _=>if_dec (p:=l=l') q4_ fun _=>if_dec (p:=ownA g=ownA g') decide_eq_true_iff fun _=>rfl]
 refine congrArg (fun b=>some (b,())) ?_
 show _=decide ((u,l,ownA g,c)=(u',l',ownA g',c'))
 rw [Bool.eq_iff_iff]
 simp only [Bool.and_eq_true,decide_eq_true_eq,Prod.mk.injEq]
theorem slsame_self {a:TSl} (h:OkS a):qf7_ (a,a,())=some (true,()):=by
 rw [slsame_eq h h.a.sz,decide_eq_true rfl]
theorem asame_self {a:TAg} (h:OkG a):qew_ (a,a,())=some (true,()):=by
 rw [asame_eq h.sz h.sz,decide_eq_true rfl]
abbrev TOp:=Int×List Int×TA×TCm
structure OkO (o:TOp):Prop where
 w:0≤o.1∧o.1≤255
 b:∀ x ∈ o.2.1,0≤x∧x≤255
 bl:o.2.1.length≤300
 a:OkA o.2.2.1
 c:OkC o.2.2.2
theorem rwords_eq {c:TCm} (h:OkC c):q9c_ (c,())=some ((cmdA c).2.2.2.2.1,()):=by
 have h2:=h.v
 have h3:=h.t
 have h5:=h.k
 show qoh_ c=_
 unfold qoh_
 have q:∀ x:Int,0≤x∧x≤4294967295->cvt .u16 (quo .u32 x 65536)=x / 65536:=fun x hx=>by
  obtain ⟨n,rfl⟩:=Int.eq_ofNat_of_zero_le hx.1
  have:quo .u32 (n:Int) 65536=((n / 65536:Nat):Int):=by
   unfold quo
   rw [Int.tdiv_eq_ediv_of_nonneg (by omega),wr32]
   omega
  rw [this]
  exact (wu16 (by omega) (by omega)).trans (by omega)
 have r:∀ x:Int,0≤x∧x≤4294967295->cvt .u16 (rem x 65536)=x % 65536:=fun x hx=>by
  unfold rem
  rw [Int.tmod_eq_emod_of_nonneg hx.1]
  exact wu16 (by omega) (by omega)
 rw [q _ h3,q _ h5,r _ h3,r _ h5,show cvt .u16 c.2.1=c.2.1 from wu16 h2.1 (by omega)]
 rfl
def opA (o:TOp):TA:=if o.1 % 6=5 then if o.2.2.2.2.2.2.1 % 2=1 then (16,272,8,0,(cmdA o.2.2.2).2.2.2.2.1,[]) else cmdA o.2.2.2 else o.2.2.1
def opB (o:TOp):List Int×Bool :=
 if o.1 % 6=0 then (o.2.1,true) else if o.1 % 6=5∨o.1 % 6=2 then if q1o_ (opA o)=true then (askB (opA o),true) else ([],false) else ([],false)
end Go.Proofs.Lx
end
section
namespace Go.Proofs.Lx
open Go Ev Sx Pl
set_option maxRecDepth 100000
theorem rem_pos {x k:Int} (h:0≤x):rem x k=x % k:=by unfold rem; exact Int.tmod_eq_emod_of_nonneg h
theorem opA_ok {o:TOp} (h:OkO o):OkA (opA o):=by
 unfold opA
 split
 ·split
  ·have:=(cmdA_ok h.c).1
   exact ⟨(by decide:(0:Int)≤16),(by decide:(16:Int)≤255),(by decide:(0:Int)≤272),(by decide:(272:Int)≤65535),(by decide:(0:Int)≤8),(by decide:(8:Int)≤65535),(by decide:(0:Int)≤0),(by decide:(0:Int)≤65535),this.w,(by decide:8≤100000),(by decide:0≤100000)⟩
  ·exact (cmdA_ok h.c).1
 ·exact h.a
theorem opbytes_eq {o:TOp} (h:OkO o):q7w_ (o,())=some ((opB o).1,(opB o).2,()):=by
 have hw:=h.w
 have hc:=h.c.n
 have hA:=opA_ok h
 have K:∀ a:TA,OkA a->q92_ a=some (if q1o_ a=true then (askB a,true,()) else ([],false,())):=fun a ha=>by
  show qcs_ a=_
  unfold qcs_
  rw [q16k_ ha]
  split <;> rfl
 obtain ⟨w,b,a,c⟩:=o
 dsimp only at hw hc
 show qct_ q92_ (w,b,a,c)=_
 unfold qct_
 dsimp only
 rw [rem_pos hw.1,rem_pos hc.1,rwords_eq h.c,Option.bind_some,Option.bind_some]
 unfold opB
 dsimp only
 by_cases h0:w % 6=0
 ·rw [if_pos (q4_.2 h0),if_pos h0]
 ·rw [if_neg (fun e=>h0 (q4_.1 e)),if_neg h0]
  by_cases h5:w % 6=5
  ·rw [if_pos (q4_.2 h5),if_pos (Or.inl h5)]
   have e:opA (w,b,a,c)=if c.2.2.2.1 % 2=1 then (16,272,8,0,(cmdA c).2.2.2.2.1,[]) else cmdA c:=by
    unfold opA
    rw [if_pos h5]
   rw [e] at hA ⊢
   by_cases h1:c.2.2.2.1 % 2=1
   ·rw [if_pos h1] at hA
    rw [if_pos (q4_.2 h1),if_pos h1,K _ hA]
    split <;> rfl
   ·rw [if_neg h1] at hA
    rw [if_neg (fun e=>h1 (q4_.1 e)),if_neg h1]
    refine (K _ hA).trans ?_
    split <;> rfl
  ·rw [if_neg (fun e=>h5 (q4_.1 e))]
   have e:opA (w,b,a,c)=a:=by
    unfold opA
    rw [if_neg h5]
   rw [e] at hA ⊢
   by_cases h2:w % 6=2
   ·rw [if_pos (q4_.2 h2),if_pos (Or.inr h2),K _ hA]
    split <;> rfl
   ·rw [if_neg (fun e=>h2 (q4_.1 e)),if_neg (by omega)]
theorem opB_bytes {o:TOp} (h:OkO o):∀ x ∈ (opB o).1,0≤x∧x≤255:=by
 unfold opB
 split
 ·exact h.b
 ·split
  ·split
   ·rename_i hr
    exact askB_bytes (q3i_ hr)
   ·exact fun x hx=>by cases hx
  ·exact fun x hx=>by cases hx
def doesS (s:TSl) (o:TOp):TSl×List Int :=
 if (opB o).2=true then ((fullS s (opB o).1).1,repB (fullS s (opB o).1).2)
 else if o.1 % 6=1 then takeS s o.2.1 else if o.1 % 6=3 then (tickS s,[]) else if o.1 % 6=4 then (bootS s,[]) else (s,[])
theorem does_eq {s:TSl} (h:OkS s) {o:TOp} (ho:OkO o):qjx_ (o,s,())=some ((doesS s o).1,(doesS s o).2,()):=by
 have hw:=ho.w
 show ql7_ o s=_
 unfold ql7_ doesS
 rw [opbytes_eq ho,Option.bind_some,rem_pos hw.1]
 dsimp only
 cases e:(opB o).2 with
 | true =>
  rw [if_pos rfl,serve_full h (opB_bytes ho)]
  rfl
 | false =>
  rw [if_neg Bool.false_ne_true,if_neg Bool.false_ne_true]
  by_cases h1:o.1 % 6=1
  ·rw [if_pos (q4_.2 h1),if_pos h1,stake_eq h ho.b (by have:=ho.bl; omega)]
   rfl
  ·rw [if_neg (fun e=>h1 (q4_.1 e)),if_neg h1]
   by_cases h3:o.1 % 6=3
   ·rw [if_pos (q4_.2 h3),if_pos h3,stick_eq h]
    rfl
   ·rw [if_neg (fun e=>h3 (q4_.1 e)),if_neg h3]
    by_cases h4:o.1 % 6=4
    ·rw [if_pos (q4_.2 h4),if_pos h4,sboot_eq h]
     rfl
    ·rw [if_neg (fun e=>h4 (q4_.1 e)),if_neg h4]
theorem doesS_ok {s:TSl} (h:OkS s) {o:TOp} (ho:OkO o):OkS (doesS s o).1:=by
 unfold doesS
 split
 ·exact (fullS_ok h (opB_bytes ho)).1
 ·split
  ·exact takeS_ok h ho.b
  ·split
   ·exact tickS_ok h
   ·split
    ·exact bootS_ok h
    ·exact h
def oneO (o:TOp):Bool:=decide (o.2.1.length≤300) && fewV o.2.2.1.2.2.2.2.1 o.2.2.1.2.2.2.2.2
def fewO (l:List TOp) (m:Int):Bool:=l.all oneO && decide ((l.length:Int)≤m)
theorem few21_eq {l:List TOp} {m:Int} (hl:l.length≤1000000000):qqf_ (l,m,())=some (fewO l m,()):=by
 show qni_ l m l (Int.ofNat l.length) 0=_
 have hg:∀ k i n:Nat,i + k=l.length->k < n->loopF (fun (self:List TOp×Int×List TOp×Int×Int->Option (As [.bool])) (s:List TOp×Int×List TOp×Int×Int)=>qag_ (qdq_ (fun l most t7 t8 t9=>self (l,most,t7,t8,t9))) qe2_ (fun l most t7 t8 t9=>self (l,most,t7,t8,t9)) s.1 s.2.1 s.2.2.1 s.2.2.2.1 s.2.2.2.2) n (l,m,l,Int.ofNat l.length,(i:Int))=some ((l.drop i).all oneO && decide ((l.length:Int)≤m),()):=by
  intro k
  induction k with
  | zero =>
   intro i n hi hn
   obtain ⟨n,rfl⟩:∃ q,n=q + 1:=⟨n - 1,by omega⟩
   have:i=l.length:=by omega
   subst this
   rw [q21_]
   show qag_ _ qe2_ _ l m l (Int.ofNat l.length) (l.length:Int)=_
   unfold qag_
   rw [if_neg (by rw [q7_,q1_]; omega),List.drop_length,List.all_nil,Bool.true_and]
   show some (le (Int.ofNat l.length) m,())=_
   rw [le_dec,q1_]
  | succ k ih =>
   intro i n hi hn
   obtain ⟨n,rfl⟩:∃ q,n=q + 1:=⟨n - 1,by omega⟩
   obtain ⟨x,hx⟩:=get_of (xs:=l) (i:=i) (by omega)
   have hd:l.drop i=x::l.drop (i + 1):=by rw [List.drop_eq_getElem_cons (by omega)]; congr 1; exact (List.getElem?_eq_some_iff.1 hx).2
   have ih:=ih (i + 1) n (by omega) (by omega)
   rw [q21_]
   generalize loopF _ n=self at ih ⊢
   show qag_ (qdq_ _) qe2_ _ l m l (Int.ofNat l.length) (i:Int)=_
   have K2:∀ t,qdq_ (fun l most t7 t8 t9=>self (l,most,t7,t8,t9)) l m l (Int.ofNat l.length) (i:Int) t=if t=true then some (false,()) else self (l,m,l,Int.ofNat l.length,((i + 1:Nat):Int)):=fun t=>by
    show qnw_ _ _ _ _ _ _ _=_
    unfold qnw_
    rw [q1a_ (by omega)]
   unfold qag_
   rw [if_pos (by rw [q7_,q1_]; omega),ql_ hx,Option.bind_some,K2,few_eq,Option.bind_some,K2,ih,hd]
   rw [List.all_cons]
   unfold oneO
   by_cases q1:300 < x.2.1.length
   ·rw [if_pos (gt_iff.2 (by rw [q1_]; omega)),if_pos rfl,decide_eq_false (by omega)]
    rfl
   ·rw [if_neg (fun e=>q1 (by have:=gt_iff.1 e; rw [q1_] at this; omega)),decide_eq_true (show x.2.1.length≤300 by omega),Bool.true_and]
    dsimp only
    cases fewV x.2.2.1.2.2.2.2.1 x.2.2.1.2.2.2.2.2 with
    | true=>rw [if_neg (by decide),Bool.true_and]
    | false=>rw [if_pos (by rfl)]; rfl
 have:=hg l.length 0 18446744073709551616 (by omega) (by omega)
 exact this
theorem fewO_iff {l:List TOp} {m:Int}:fewO l m=true ↔ (∀ o ∈ l,o.2.1.length≤300∧o.2.2.1.2.2.2.2.1.length≤200∧o.2.2.1.2.2.2.2.2.length≤2100)∧(l.length:Int)≤m:=by
 unfold fewO oneO
 simp only [Bool.and_eq_true,decide_eq_true_eq,few_iff,List.all_eq_true]
abbrev tOp:Ty:=.pr (.int .u8) (.pr (.sl (.int .u8)) (.pr (.pr (.int .u8) (.pr (.int .u16) (.pr (.int .u16) (.pr (.int .u16) (.pr (.sl (.int .u16)) (.sl .bool)))))) (.pr (.int .u16) (.pr (.int .u8) (.pr (.int .u32) (.pr (.int .u16) (.int .u32)))))))
theorem okw32 {x:Int} (h:(Lit.int .u32 x).wf=true):0≤x∧x≤4294967295:=by
 simp [Lit.wf] at h
 have e1:IntKind.u32.min=0:=rfl
 have e2:IntKind.u32.max=4294967295:=rfl
 omega
theorem okO_of {o:TOp} (h:Rw.okV tOp o) (h1:o.2.1.length≤300) (h2:o.2.2.1.2.2.2.2.1.length≤200) (h3:o.2.2.1.2.2.2.2.2.length≤2100):OkO o:=by
 obtain ⟨q1,q2,⟨r1,r2,r3,r4,r5,r6⟩,⟨s1,s2,s3,s4,s5⟩⟩:=h
 exact ⟨ok8 q1,fun x hx=>ok8 (q2.2 x hx),h1,⟨(ok8 r1).1,(ok8 r1).2,(ok16 r2).1,(ok16 r2).2,(ok16 r3).1,(ok16 r3).2,(ok16 r4).1,(ok16 r4).2,fun x hx=>ok16 (r5.2 x hx),by omega,by omega⟩,⟨ok16 s1,ok8 s2,okw32 s3,ok16 s4,okw32 s5⟩⟩
end Go.Proofs.Lx
end
section
namespace Go.Proofs.Lx
open Go Ev Sx Pl
theorem cut_min {α:Type} (l:List α) (m:Nat):cut l 0 (if lt (m:Int) (Int.ofNat l.length)=true then (m:Int) else Int.ofNat l.length)=some (l.take m):=by
 by_cases h:m < l.length
 ·rw [if_pos (by rw [q7_,q1_]; omega)]
  exact cut_to (by omega)
 ·rw [if_neg (by rw [q7_,q1_]; omega),q1_,cut_to (Nat.le_refl _),List.take_of_length_le (Nat.le_refl _),List.take_of_length_le (by omega)]
end Go.Proofs.Lx
end
