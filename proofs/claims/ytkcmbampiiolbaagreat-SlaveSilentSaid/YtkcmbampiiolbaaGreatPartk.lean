/- Proved in the last of these 12 parts (this is part 11): SlaveSilent returns true, whatever the bank, what came ahead, the unit, the bytes, the place and the pattern. Conditions: those of the given statement, and no others. -/
import Derived.Test.YtkcmbampiiolbaaGreatPartj
import Derived.Test.YtkcmbampiiolbaaGreatParti
import Derived.Test.YtkcmbampiiolbaaGreatParte
import Derived.Test.YtkcmbampiiolbaaGreatProg
set_option linter.unusedVariables false
set_option linter.unusedSimpArgs false
set_option linter.unusedSectionVars false
section
namespace Go.Proofs.Lx
open Go Ev Sx Pl
set_option maxRecDepth 100000
abbrev TMem:=List Bool×List Bool×List Int×List Int
structure OkS (s:TSl):Prop where
 u:1≤s.1∧s.1≤247
 l:s.2.1=1∨s.2.1=2
 a:OkG s.2.2.1
 c:s.2.2.2.length=16
def cpy {α:Type} (b:List α) (p:Nat) (w:List α):List α:=b.take p++w++b.drop (p + w.length)
theorem cpy_len {α:Type} {b w:List α} {p:Nat} (h:p + w.length≤b.length):(cpy b p w).length=b.length:=by
 unfold cpy
 rw [List.length_append,List.length_append,List.length_take,List.length_drop]
 omega
theorem cpy_rng {α:Type} {b w:List α} {p:Nat} {P:α->Prop} (hb:∀ y ∈ b,P y) (hx:∀ y ∈ w,P y):∀ y ∈ cpy b p w,P y:=by
 intro y hy
 unfold cpy at hy
 rcases List.mem_append.1 hy with h | h
 ·rcases List.mem_append.1 h with h | h
  ·exact hb y (List.mem_of_mem_take h)
  ·exact hx y h
 ·exact hb y (List.mem_of_mem_drop h)
theorem cpy_code {α:Type} {b w:List α} {p m:Nat} (hm:w.length≤m):b.take p++w.take m++b.drop (p + (w.take m).length)=cpy b p w:=by
 rw [List.take_of_length_le hm]
 rfl
def holdS (a:TAg):List Int:=(List.range 8).foldl (fun h b=>cpy h (512 + b * 32) (backS a.2.2.2.2.2.1 a.2.1.1 (b:Int))) (cpy (cpy (List.replicate 756 0) 0 a.1) 256 (statA a))
def inpS (a:TAg):List Bool:=((((List.replicate 8 false).set a.2.2.1.toNat true).set 4 (decide (a.2.1.1 ≠ 0))).set 5 (decide (true ∈ a.2.2.2.2.2.1.2.1)))
def memS (s:TSl):TMem:=(s.2.2.2,inpS s.2.2.1,holdS s.2.2.1,statA s.2.2.1)
theorem backS_len {s:TStg} {o n:Int}:(backS s o n).length=20:=by
 unfold backS
 split
 ·exact tagB_len
 ·rfl
theorem holdP_len {a:TAg} (h:OkG a):∀ k:Nat,k≤8->((List.range k).foldl (fun h b=>cpy h (512 + b * 32) (backS a.2.2.2.2.2.1 a.2.1.1 (b:Int))) (cpy (cpy (List.replicate 756 0) 0 a.1) 256 (statA a))).length=756
 | 0,_=>by
  have h64:=h.bl
  rw [List.range_zero,List.foldl_nil]
  have e1:(cpy (List.replicate 756 (0:Int)) 0 a.1).length=756:=by rw [cpy_len (by rw [List.length_replicate]; omega),List.length_replicate]
  rw [cpy_len (by rw [e1]; show 256 + 8≤756; omega),e1]
 | k + 1,hk=>by
  have ih:=holdP_len h k (by omega)
  rw [List.range_succ,List.foldl_append,List.foldl_cons,List.foldl_nil,cpy_len (by rw [ih,backS_len]; omega),ih]
theorem holdS_len {a:TAg} (h:OkG a):(holdS a).length=756:=holdP_len h 8 (by omega)
theorem inpS_len (a:TAg):(inpS a).length=8:=by
 unfold inpS
 rw [List.length_set,List.length_set,List.length_set,List.length_replicate]
set_option maxHeartbeats 1000000 in
theorem mem_eq {s:TSl} (h:OkS s):q5b_ (s,())=some (memS s,()):=by
 have ha:=h.a
 have hst:=astatus_eq ha
 have hfr:=lfree_eq ha.lr
 have hco:=contains_eq (s:=s.2.2.1.2.2.2.2.2.1.2.1) true (by have:=ha.hl; omega)
 have pr:=ha.pr
 have h64:=ha.bl
 have hh8:=ha.hl
 have h16:=h.c
 show qqc_ qs3_ s=_
 unfold qqc_
 simp only [hst,Option.bind_some,amb2 (eqAs_refl q2_.rs),amb3 (eqAs_refl q2_.rs)]
 show qqp_ qr6_ s (statA s.2.2.1) (List.replicate 16 false) (List.replicate 8 false) (List.replicate 756 0)=_
 unfold qqp_
 obtain ⟨ph,hph⟩:=Int.eq_ofNat_of_zero_le pr.1
 have hin:(List.replicate 8 false)[ph]? = some false:=by rw [List.getElem?_replicate,if_pos (by omega)]
 have hcoil:List.take (Int.toNat (Int.ofNat (List.replicate 16 false).length)) s.2.2.2++List.drop (0 + (List.take (Int.toNat (Int.ofNat (List.replicate 16 false).length)) s.2.2.2).length) (List.replicate 16 false)=s.2.2.2:=by
  rw [List.length_replicate,show Int.toNat (Int.ofNat 16)=16 from rfl,List.take_of_length_le (by omega),h16,List.drop_of_length_le (by rw [List.length_replicate]; omega),List.append_nil]
 rw [q9_ (q19_.2 (by rw [q1_,q1_]; omega)),if_pos (q19_.2 pr.2),hph,qp_ hin,Option.bind_some,Option.bind_some,hcoil,Int.toNat_natCast]
 show qqs_ qfo_ s (statA s.2.2.1) s.2.2.2 ((List.replicate 8 false).set ph true) (List.replicate 756 0)=_
 unfold qqs_
 have h4:∃ x,((List.replicate 8 false).set ph true)[4]? = some x:=get_of (by rw [List.length_set,List.length_replicate]; omega)
 obtain ⟨x4,h4⟩:=h4
 have t8:List.take 8 (List.drop 0 s.2.2.1.2.2.2.2.2.1.2.1)=s.2.2.1.2.2.2.2.2.1.2.1:=by rw [List.drop_zero,List.take_of_length_le (by omega)]
 rw [hfr,Option.bind_some,show at? ((List.replicate 8 false).set ph true) 4=some x4 from qp_ h4,Option.bind_some,Option.bind_some,t8,hco,Option.bind_some]
 dsimp only
 generalize hy:(!decide (s.2.2.1.2.1.1=0))=y4
 have h5:∃ x,(((List.replicate 8 false).set ph true).set 4 y4)[5]? = some x:=get_of (by rw [List.length_set,List.length_set,List.length_replicate]; omega)
 obtain ⟨x5,h5⟩:=h5
 rw [show at? (((List.replicate 8 false).set ph true).set 4 y4) 5=some x5 from qp_ h5,Option.bind_some,Option.bind_some]
 have c64:List.take 64 s.2.2.1.1++List.drop (0 + (List.take 64 s.2.2.1.1).length) (List.replicate 756 (0:Int))=cpy (List.replicate 756 0) 0 s.2.2.1.1:=cpy_code (p:=0) (b:=List.replicate 756 (0:Int)) (by omega)
 have l64:(cpy (List.replicate 756 (0:Int)) 0 s.2.2.1.1).length=756:=by rw [cpy_len (by rw [List.length_replicate]; omega),List.length_replicate]
 rw [c64,l64]
 have l8:(statA s.2.2.1).length=8:=rfl
 have cst:List.take 256 (cpy (List.replicate 756 0) 0 s.2.2.1.1)++List.take (Int.toNat (Int.ofNat 756 - 256)) (statA s.2.2.1)++List.drop (256 + (List.take (Int.toNat (Int.ofNat 756 - 256)) (statA s.2.2.1)).length) (cpy (List.replicate 756 0) 0 s.2.2.1.1)=cpy (cpy (List.replicate 756 0) 0 s.2.2.1.1) 256 (statA s.2.2.1):=cpy_code (by rw [l8]; decide)
 rw [cst]
 rw [q9_ (by decide),q9_ (by decide),q9_ (by decide),q9_ (by decide),q9_ (by decide),q9_ (by decide)]
 show qfo_ s 0 (statA s.2.2.1) s.2.2.2 _ _=_
 have hinp:((((List.replicate 8 false).set ph true).set 4 y4).set 5 (decide (true ∈ s.2.2.1.2.2.2.2.2.1.2.1)))=inpS s.2.2.1:=by
  unfold inpS
  rw [hph,Int.toNat_natCast,<- hy]
  congr 2
  by_cases e:s.2.2.1.2.1.1=0
  ·rw [decide_eq_true e,decide_eq_false (fun x=>x e)]; rfl
  ·rw [decide_eq_false e,decide_eq_true e]; rfl
 rw [hinp]
 unfold memS holdS
 unfold qfo_
 refine loop_dt (N:=8) (mk:=fun i=>(s,(i:Int),statA s.2.2.1,s.2.2.2,inpS s.2.2.1,(List.range i).foldl (fun h b=>cpy h (512 + b * 32) (backS s.2.2.1.2.2.2.2.2.1 s.2.2.1.2.1.1 (b:Int))) (cpy (cpy (List.replicate 756 0) 0 s.2.2.1.1) 256 (statA s.2.2.1)))) ?_ ?_ 8 0 _ (by omega) (by omega)
 ·intro self i hi
  have hlen:=holdP_len ha i (by omega)
  have hsucc:(List.range (i + 1)).foldl (fun h b=>cpy h (512 + b * 32) (backS s.2.2.1.2.2.2.2.2.1 s.2.2.1.2.1.1 (b:Int))) (cpy (cpy (List.replicate 756 0) 0 s.2.2.1.1) 256 (statA s.2.2.1))=cpy ((List.range i).foldl (fun h b=>cpy h (512 + b * 32) (backS s.2.2.1.2.2.2.2.2.1 s.2.2.1.2.1.1 (b:Int))) (cpy (cpy (List.replicate 756 0) 0 s.2.2.1.1) 256 (statA s.2.2.1))) (512 + i * 32) (backS s.2.2.1.2.2.2.2.2.1 s.2.2.1.2.1.1 (i:Int)):=by
   rw [List.range_succ,List.foldl_append]
   rfl
  rw [hsucc]
  generalize (List.range i).foldl (fun h b=>cpy h (512 + b * 32) (backS s.2.2.1.2.2.2.2.2.1 s.2.2.1.2.1.1 (b:Int))) (cpy (cpy (List.replicate 756 0) 0 s.2.2.1.1) 256 (statA s.2.2.1))=hd at hlen
  show qfl_ _ s (i:Int) (statA s.2.2.1) s.2.2.2 (inpS s.2.2.1) hd=_
  unfold qfl_
  have e1:mul .i64 (i:Int) 32=((i * 32:Nat):Int):=by rw [mul64 (by omega) (by omega)]; omega
  have e2:add .i64 512 ((i * 32:Nat):Int)=((512 + i * 32:Nat):Int):=addn64 (n:=512) (by omega)
  have hbk:=back_eq (s:=s.2.2.1.2.2.2.2.2.1) (o:=s.2.2.1.2.1.1) (n:=(i:Int))
  have hstx:0≤s.2.2.1.2.2.2.2.2.1.1∧s.2.2.1.2.2.2.2.2.1.1≤4294967295:=by
   by_cases e:s.2.2.1.2.2.1=0
   ·have:=(ha.p0 e).2.2.1; omega
   ·have:=(ha.pn e).2.2; have:=ha.tr; omega
  have hbk:=hbk hstx.1 hstx.2 ⟨by omega,by omega⟩ ha.hl ha.sl ha.bb
  rw [if_pos (qa_.2 (by omega)),e1,e2,q9_ (q1f_.2 (by omega)),q9_ (q19_.2 (by rw [q1_,hlen]; omega)),q9_ (q19_.2 (Int.le_refl _)),show at? (statA s.2.2.1) 0=some s.2.2.1.2.1.1 from rfl,Option.bind_some,hbk,Option.bind_some,q9_ (q19_.2 (by rw [q1_,hlen]; omega)),q1l_ (by omega),Int.toNat_natCast]
  dsimp only
  rw [cpy_code (by rw [backS_len,q1_,hlen]; omega)]
 ·intro self
  show qfl_ _ s (8:Int) _ _ _ _=_
  unfold qfl_
  rw [if_neg (by decide)]
end Go.Proofs.Lx
end
section
namespace Go.Proofs.Lx
open Go Ev Sx Pl
set_option maxRecDepth 100000
def rgtT (n:Int) (fixed:Bool):Int->List TArea->Bool
 | _,[]=>true
 | e,x::r=>if x.1 < e∨n < x.1∨x.2.1 < 1∨n - x.1 < x.2.1∨(fixed=true∧x.2.2.2.1=true) then false else rgtT n fixed (x.1 + x.2.1) r
theorem goL_rgt (n:Int) (fixed:Bool):∀ (l:List TArea) (e:Int),goL (R:=Bool×Unit) (fun (e:Int) (x:TArea) k=>if x.1 < e∨n < x.1∨x.2.1 < 1∨n - x.1 < x.2.1∨(fixed=true∧x.2.2.2.1=true) then some (false,()) else k (x.1 + x.2.1)) (fun _=>some (true,())) l e=some (rgtT n fixed e l,())
 | [],_=>rfl
 | x::r,e=>by
  show (if _ then _ else goL _ _ r _)=_
  rw [goL_rgt n fixed r,rgtT]
  split <;> rfl
theorem ur_right {l:List TArea} {h:List Int} {fixed:Bool} (ho:∀ x ∈ l,OkAr x) (hp:∀ x ∈ l,0≤x.1) (hh:h.length≤65536) (hl:l.length≤1000):q3n_ ((l,h),fixed,())=some (rgtT h.length fixed 0 l,()):=by
 show q5x_ q2u_ (l,h) fixed=_
 unfold q5x_
 rw [if_neg (fun e=>by have:=gt_iff.1 e; rw [q1_] at this; dsimp only at this; omega)]
 show q2u_ fixed 0 l (Int.ofNat l.length) 0 (l,h)=_
 rw [<- goL_rgt]
 unfold q2u_
 refine loop_go (xs:=l) (mk:=fun i e=>(fixed,e,l,Int.ofNat l.length,(i:Int),(l,h))) ?_ ?_ l.length 0 0 _ (by omega) (by omega)
 ·intro self i e x hx
  have hi:=(List.getElem?_eq_some_iff.1 hx).1
  have hm:=List.mem_of_getElem? hx
  have o:=ho x hm
  have p:=hp x hm
  unfold OkAr at o
  show q2w_ _ _ fixed e l (Int.ofNat l.length) (i:Int) (l,h)=_
  unfold q2w_
  rw [if_pos (by rw [qa_,q1_]; omega),qp_ hx,Option.bind_some]
  dsimp only
  have K3:∀ t,q3x_ (fun fixed endV t13 t14 t15 t=>self (fixed,endV,t13,t14,t15,t)) fixed l (Int.ofNat l.length) (i:Int) t (l,h) x=if t=true then some (false,()) else self (fixed,add .i64 x.1 x.2.1,l,Int.ofNat l.length,((i + 1:Nat):Int),(l,h)):=fun t=>by
   unfold q3x_ q9w_
   rw [q1l_ (by omega)]
  have K2:∀ t,q40_ (fun fixed endV t13 t14 t15 t=>self (fixed,endV,t13,t14,t15,t)) fixed l (Int.ofNat l.length) (i:Int) t (l,h) x=if t=true∨(fixed=true∧x.2.2.2.1=true) then some (false,()) else self (fixed,add .i64 x.1 x.2.1,l,Int.ofNat l.length,((i + 1:Nat):Int),(l,h)):=fun t=>by
   unfold q40_ q9l_
   rw [K3,K3]
   cases t <;> cases fixed <;> simp
  rw [K2,K2]
  simp only [true_or,if_true]
  rw [lt_dec,gt_dec,lt_dec,gt_dec,q1_]
  by_cases q1:x.1 < e
  ·rw [if_pos (decide_eq_true q1),if_pos (Or.inl q1)]
  ·rw [if_neg (by rw [decide_eq_true_eq]; exact q1)]
   by_cases q2:(h.length:Int) < x.1
   ·rw [if_pos (decide_eq_true q2),if_pos (Or.inr (Or.inl q2))]
   ·rw [if_neg (by rw [decide_eq_true_eq]; exact q2)]
    by_cases q3:x.2.1 < 1
    ·rw [if_pos (decide_eq_true q3),if_pos (Or.inr (Or.inr (Or.inl q3)))]
    ·rw [if_neg (by rw [decide_eq_true_eq]; exact q3),sub64 (by omega) (by omega)]
     by_cases q4:(h.length:Int) - x.1 < x.2.1
     ·rw [if_pos (Or.inl (decide_eq_true q4)),if_pos (Or.inr (Or.inr (Or.inr (Or.inl q4))))]
     ·rw [add64 (by omega) (by omega)]
      by_cases q5:fixed=true∧x.2.2.2.1=true
      ·rw [if_pos (Or.inr q5),if_pos (Or.inr (Or.inr (Or.inr (Or.inr q5))))]
      ·rw [if_neg (by rintro (e | e); exact q4 (of_decide_eq_true e); exact q5 e),if_neg (by rintro (e | e | e | e | e); exact q1 e; exact q2 e; exact q3 e; exact q4 e; exact q5 e)]
 ·intro self e
  show q2w_ _ _ fixed e l (Int.ofNat l.length) (l.length:Int) (l,h)=_
  unfold q2w_
  rw [if_neg (by rw [qa_,q1_]; omega)]
theorem br_right {l:List TArea} {h:List Bool} {fixed:Bool} (ho:∀ x ∈ l,OkAr x) (hp:∀ x ∈ l,0≤x.1) (hh:h.length≤65536) (hl:l.length≤1000):q4o_ ((l,h),fixed,())=some (rgtT h.length fixed 0 l,()):=by
 show q7e_ q3d_ (l,h) fixed=_
 unfold q7e_
 rw [if_neg (fun e=>by have:=gt_iff.1 e; rw [q1_] at this; dsimp only at this; omega)]
 show q3d_ fixed 0 l (Int.ofNat l.length) 0 (l,h)=_
 rw [<- goL_rgt]
 unfold q3d_
 refine loop_go (xs:=l) (mk:=fun i e=>(fixed,e,l,Int.ofNat l.length,(i:Int),(l,h))) ?_ ?_ l.length 0 0 _ (by omega) (by omega)
 ·intro self i e x hx
  have hi:=(List.getElem?_eq_some_iff.1 hx).1
  have hm:=List.mem_of_getElem? hx
  have o:=ho x hm
  have p:=hp x hm
  unfold OkAr at o
  show q3c_ _ _ fixed e l (Int.ofNat l.length) (i:Int) (l,h)=_
  unfold q3c_
  rw [if_pos (by rw [qa_,q1_]; omega),qp_ hx,Option.bind_some]
  dsimp only
  have K3:∀ t,q4t_ (fun fixed endV t13 t14 t15 t=>self (fixed,endV,t13,t14,t15,t)) fixed l (Int.ofNat l.length) (i:Int) t (l,h) x=if t=true then some (false,()) else self (fixed,add .i64 x.1 x.2.1,l,Int.ofNat l.length,((i + 1:Nat):Int),(l,h)):=fun t=>by
   unfold q4t_ qaq_
   rw [q1l_ (by omega)]
  have K2:∀ t,q4s_ (fun fixed endV t13 t14 t15 t=>self (fixed,endV,t13,t14,t15,t)) fixed l (Int.ofNat l.length) (i:Int) t (l,h) x=if t=true∨(fixed=true∧x.2.2.2.1=true) then some (false,()) else self (fixed,add .i64 x.1 x.2.1,l,Int.ofNat l.length,((i + 1:Nat):Int),(l,h)):=fun t=>by
   unfold q4s_ qan_
   rw [K3,K3]
   cases t <;> cases fixed <;> simp
  rw [K2,K2]
  simp only [true_or,if_true]
  rw [lt_dec,gt_dec,lt_dec,gt_dec,q1_]
  by_cases q1:x.1 < e
  ·rw [if_pos (decide_eq_true q1),if_pos (Or.inl q1)]
  ·rw [if_neg (by rw [decide_eq_true_eq]; exact q1)]
   by_cases q2:(h.length:Int) < x.1
   ·rw [if_pos (decide_eq_true q2),if_pos (Or.inr (Or.inl q2))]
   ·rw [if_neg (by rw [decide_eq_true_eq]; exact q2)]
    by_cases q3:x.2.1 < 1
    ·rw [if_pos (decide_eq_true q3),if_pos (Or.inr (Or.inr (Or.inl q3)))]
    ·rw [if_neg (by rw [decide_eq_true_eq]; exact q3),sub64 (by omega) (by omega)]
     by_cases q4:(h.length:Int) - x.1 < x.2.1
     ·rw [if_pos (Or.inl (decide_eq_true q4)),if_pos (Or.inr (Or.inr (Or.inr (Or.inl q4))))]
     ·rw [add64 (by omega) (by omega)]
      by_cases q5:fixed=true∧x.2.2.2.1=true
      ·rw [if_pos (Or.inr q5),if_pos (Or.inr (Or.inr (Or.inr (Or.inr q5))))]
      ·rw [if_neg (by rintro (e | e); exact q4 (of_decide_eq_true e); exact q5 e),if_neg (by rintro (e | e | e | e | e); exact q1 e; exact q2 e; exact q3 e; exact q4 e; exact q5 e)]
 ·intro self e
  show q3c_ _ _ fixed e l (Int.ofNat l.length) (l.length:Int) (l,h)=_
  unfold q3c_
  rw [if_neg (by rw [qa_,q1_]; omega)]
structure SzM (m:TMem):Prop where
 c:m.1.length=16
 i:m.2.1.length=8
 h:m.2.2.1.length=756
 w:m.2.2.2.length=8
theorem memS_sz {s:TSl} (h:OkS s):SzM (memS s):=⟨h.c,inpS_len _,holdS_len h.a,rfl⟩
theorem posOne {k:Int} {r w h:Bool}:∀ x ∈ [((0:Int),k,r,w,h)],0≤x.1:=fun x hx=>by
 rw [List.mem_singleton] at hx
 subst hx
 exact Int.le_refl _
theorem posSPH:∀ x ∈ SPH,0≤x.1:=by decide
theorem mright_eq {m:TMem} (h:SzM m):qm8_ (SP,m,())=some (true,()):=by
 obtain ⟨c,i,hd,w⟩:=m
 have hc:c.length=16:=h.c
 have hi:i.length=8:=h.i
 have hh:hd.length=756:=h.h
 have hw:w.length=8:=h.w
 show qk3_ SP (c,i,hd,w)=_
 unfold qk3_
 have ho:qe0_ (SP,(c,i,hd,w),())=some ((([(0,16,true,true,false)],c),([(0,8,true,false,false)],i),(SPH,hd),[(0,8,true,false,false)],w),()):=rfl
 rw [ho,Option.bind_some]
 dsimp only
 rw [br_right (okOne (by decide) (by decide)) posOne (by omega) (by decide),Option.bind_some,hc,if_pos (by decide),br_right (okOne (by decide) (by decide)) posOne (by omega) (by decide),Option.bind_some,hi,if_pos (by decide),ur_right okSPH posSPH (by omega) (by decide),Option.bind_some,hh,if_pos (by decide),ur_right (okOne (by decide) (by decide)) posOne (by omega) (by decide),hw]
 rfl
def rdBits (c:List Bool) (p n:Nat):List Bool:=(c.drop p).take n++List.replicate ((n + 7) / 8 * 8 - n) false
theorem bread_eq {c:List Bool} {p n:Int} (hp:0≤p) (hn:0≤n) (hh:c.length≤100000) (hle:p + n≤c.length) (l:List TArea):q4y_ ((l,c),p,n,8,())=some (rdBits c p.toNat n.toNat,()):=by
 obtain ⟨p,rfl⟩:=Int.eq_ofNat_of_zero_le hp
 obtain ⟨n,rfl⟩:=Int.eq_ofNat_of_zero_le hn
 have e1:mul .i64 (quo .i64 (sub .i64 (add .i64 (n:Int) 8) 1) 8) 8=(((n + 7) / 8 * 8:Nat):Int):=by
  have e0:add .i64 (n:Int) 8=((n + 8:Nat):Int):=addn64 (m:=8) (by omega)
  rw [e0,sub64 (by omega) (by omega),show (((n + 8:Nat):Int) - 1)=((n + 7:Nat):Int) by omega]
  have:=quo_nat (i:=n + 7) (d:=8) (by omega)
  rw [show (8:Int)=((8:Nat):Int) from rfl,this,mul64 (by omega) (by omega)]
  omega
 show q8a_ (l,c) (p:Int) (n:Int) 8=_
 unfold q8a_
 rw [e1,q9_ (by decide),q9_ (q1f_.2 (by omega)),q9_ (capOk_sf _),Int.toNat_natCast,qm_ (by omega),addn64 (by omega)]
 dsimp only
 rw [cut_nat (by omega) (by omega),Option.bind_some,List.length_replicate,q9_ (q19_.2 (by rw [q1_,q1_]; omega))]
 have hlen:((c.take (p + n)).drop p).length=n:=by rw [List.length_drop,List.length_take]; omega
 have ht:((c.take (p + n)).drop p)=(c.drop p).take n:=by rw [List.drop_take]; congr 1; omega
 rw [q1_,Int.toNat_natCast,List.take_of_length_le (show ((c.take (p + n)).drop p).length≤(n + 7) / 8 * 8 by omega),hlen,List.drop_replicate,ht]
 unfold rdBits
 rw [Int.toNat_natCast,Nat.zero_add]
 rfl
def isE (f:Int):Bool:=decide (f=5∨f=6∨f=15∨f=16)
def echoR (a:TA):TR:=if a.1=5 then (5,0,[a.2.2.2.2.2.headD false],[],a.2.1,0) else if a.1=6 then (6,0,[],[a.2.2.2.2.1.headD 0],a.2.1,0) else (a.1,0,[],[],a.2.1,a.2.2.1)
theorem secho_eq {a:TA} (h:OkA a) (hr:rightA a=true):qb0_ (a,())=some (if isE a.1=true then echoR a else zR,isE a.1,()):=by
 show qo3_ qcy_ qn9_ a=_
 unfold qo3_
 rw [right_eq h,hr,Option.bind_some,if_neg (by decide)]
 cases rightA_RA hr with
 | bits f p n hf h1 h2=>rcases hf with rfl | rfl <;> rfl
 | words f p n hf h1 h2=>rcases hf with rfl | rfl <;> rfl
 | coil p b=>rfl
 | word p x=>rfl
 | coils p l h1 h2=>rfl
 | regs p l h1 h2=>rfl
 | swap p n t l h1 h2 h3 h4=>rfl
def ansR (m:TMem) (a:TA):TR :=
 if a.1=1 then (a.1,0,rdBits m.1 a.2.1.toNat a.2.2.1.toNat,[],0,0)
 else if a.1=2 then (a.1,0,rdBits m.2.1 a.2.1.toNat a.2.2.1.toNat,[],0,0)
 else if a.1=4 then (a.1,0,[],(m.2.2.2.drop a.2.1.toNat).take a.2.2.1.toNat,0,0)
 else (a.1,0,[],(m.2.2.1.drop a.2.1.toNat).take a.2.2.1.toNat,0,0)
def wrM (m:TMem) (a:TA):TMem :=
 if a.1=5∨a.1=15 then (cpy m.1 a.2.1.toNat a.2.2.2.2.2,m.2)
 else if a.1=16 then (m.1,m.2.1,cpy m.2.2.1 a.2.1.toNat a.2.2.2.2.1,m.2.2.2)
 else if a.1=23 then (m.1,m.2.1,cpy m.2.2.1 a.2.2.2.1.toNat a.2.2.2.2.1,m.2.2.2)
 else m
def doM (m:TMem) (a:TA):TMem×TR:=if chkS a=true then (wrM m a,if isE a.1=true then echoR a else ansR (wrM m a) a) else (m,(a.1,2,[],[],0,0))
theorem cloneBr_eq {s:List Bool} (h:s.length≤1000000):q36_ (s,())=some (s,()):=by
 show q8q_ s=_
 unfold q8q_
 by_cases h0:s.length=0
 ·have:s=[]:=List.eq_nil_of_length_eq_zero h0
  subst this
  rfl
 ·rw [if_neg (by rw [q6_,q1_]; omega),qm_ (by omega)]
theorem mdo_K1 (a:TA) (m:TMem) (u:Int×Int):qi2_ a 0 0 0 0 m.1 m.2.1 m.2.2.1 m.2.2.2 SP.1 SP.2.1 SP.2.2.1 SP.2.2.2 u=Option.bind (qb0_ (a,())) fun y=>if y.2.1=true then some (m,y.1,()) else Option.bind (q61_ (((SP.1,m.1),(SP.2.1,m.2.1),(SP.2.2.1,m.2.2.1),SP.2.2.2,m.2.2.2),u.1,a,())) fun y=>some (m,y.1,()):=rfl
theorem wrM_sz {m:TMem} (h:SzM m) {a:TA} (ha:OkA a) (hr:rightA a=true) (hc:chkS a=true):SzM (wrM m a):=by
 have p0:=ha.at0
 have t0:=ha.t0
 unfold wrM
 unfold chkS at hc
 split
 ·rename_i q
  rw [if_neg (by omega),if_neg (by omega),if_neg (by omega),if_pos q,decide_eq_true_eq] at hc
  exact ⟨by rw [cpy_len (by have:=h.c; omega)]; exact h.c,h.i,h.h,h.w⟩
 ·rename_i q
  split
  ·rename_i q2
   rw [if_neg (by omega),if_neg (by omega),if_neg (by omega),if_neg q,if_neg (by omega),decide_eq_true_eq] at hc
   exact ⟨h.c,h.i,by show (cpy _ _ _).length=756; rw [cpy_len (by have:=h.h; omega)]; exact h.h,h.w⟩
  ·rename_i q2
   split
   ·rename_i q3
    rw [if_neg (by omega),if_neg (by omega),if_neg (by omega),if_neg q,if_pos q3,Bool.and_eq_true,decide_eq_true_eq] at hc
    exact ⟨h.c,h.i,by show (cpy _ _ _).length=756; rw [cpy_len (by have:=h.h; omega)]; exact h.h,h.w⟩
   ·exact h
theorem answer_eq {m:TMem} (h:SzM m) {a:TA} (ha:OkA a) (hr:rightA a=true) (hc:chkS a=true) (he:isE a.1=false) (k:Int) (hk:k=(if a.1=1 then 1 else if a.1=2 then 2 else if a.1=4 then 4 else 3)) :
  q61_ (((SP.1,m.1),(SP.2.1,m.2.1),(SP.2.2.1,m.2.2.1),SP.2.2.2,m.2.2.2),k,a,())=some (ansR m a,()):=by
 have p0:=ha.at0
 have p1:=ha.at1
 have m0:=ha.m0
 have m1:=ha.m1
 have hcp:cvt .i64 a.2.1=a.2.1:=cvt64 (by omega) (by omega)
 have hcn:cvt .i64 a.2.2.1=a.2.2.1:=cvt64 (by omega) (by omega)
 have h1:=h.c
 have h2:=h.i
 have h3:=h.h
 have h4:=h.w
 have hn:1≤a.2.2.1∨isE a.1=true:=by
  cases rightA_RA hr with
  | bits f p n hf h1 h2=>exact Or.inl h1
  | words f p n hf h1 h2=>exact Or.inl h1
  | coil p b=>exact Or.inr rfl
  | word p x=>exact Or.inr rfl
  | coils p l h1 h2=>exact Or.inr rfl
  | regs p l h1 h2=>exact Or.inr rfl
  | swap p n t l g1 g2 g3 g4=>exact Or.inl g3
 have hn1:1≤a.2.2.1:=by rcases hn with h | h; exact h; rw [he] at h; cases h
 show q9e_ _ k a=_
 unfold q9e_
 unfold chkS at hc
 unfold ansR
 rw [hcp,hcn]
 by_cases q1:a.1=1
 ·rw [if_pos q1] at hk hc
  rw [decide_eq_true_eq] at hc
  subst hk
  rw [if_pos (by rfl),if_pos q1]
  dsimp only
  rw [bread_eq p0 m0 (by omega) (by omega)]
  rfl
 ·rw [if_neg q1] at hk hc
  by_cases q2:a.1=2
  ·rw [if_pos q2] at hk
   rw [if_pos (Or.inl q2),decide_eq_true_eq] at hc
   subst hk
   rw [if_neg (by decide),if_pos (by rfl),if_neg q1,if_pos q2]
   dsimp only
   rw [bread_eq p0 m0 (by omega) (by omega)]
   rfl
  ·rw [if_neg q2] at hk
   by_cases q4:a.1=4
   ·rw [if_pos q4] at hk
    rw [if_pos (Or.inr q4),decide_eq_true_eq] at hc
    subst hk
    rw [if_neg (by decide),if_neg (by decide),if_neg (by decide),if_pos (by rfl),if_neg q1,if_neg q2,if_pos q4]
    dsimp only
    rw [uread_eq p0 m0 (by omega) (by omega)]
    rfl
   ·rw [if_neg q4] at hk
    rw [if_neg (by omega)] at hc
    subst hk
    rw [if_neg (by decide),if_neg (by decide),if_pos (by rfl),if_neg q1,if_neg q2,if_neg q4]
    have hle:rdH a.2.1 a.2.2.1.toNat=true:=by
     by_cases q3:a.1=3
     ·rw [if_pos q3] at hc; exact hc
     ·rw [if_neg q3] at hc
      by_cases q5:a.1=5∨a.1=15
      ·exact absurd (decide_eq_true (show a.1=5∨a.1=6∨a.1=15∨a.1=16 by omega)) (by unfold isE at he; rw [he]; decide)
      ·rw [if_neg q5] at hc
       by_cases q6:a.1=23
       ·rw [if_pos q6,Bool.and_eq_true] at hc; exact hc.1
       ·exfalso
        have:a.1=6∨a.1=16:=by
         cases rightA_RA hr with
         | bits f p n hf=>exact absurd (show f=1∨f=2 from hf) (by dsimp only at q1 q2; omega)
         | words f p n hf=>exact absurd (show f=3∨f=4 from hf) (by dsimp only at q3 q4; omega)
         | coil p b=>exact absurd (Or.inl rfl) q5
         | word p x=>exact Or.inl rfl
         | coils p l=>exact absurd (Or.inr rfl) q5
         | regs p l=>exact Or.inr rfl
         | swap p n t l=>exact absurd rfl q6
        exact absurd (decide_eq_true (show a.1=5∨a.1=6∨a.1=15∨a.1=16 by omega)) (by unfold isE at he; rw [he]; decide)
    have:=rdH_le (by omega) hle
    dsimp only
    rw [uread_eq p0 m0 (by omega) (by omega)]
    rfl
theorem mdo_eq {m:TMem} (h:SzM m) {a:TA} (ha:OkA a) (hr:rightA a=true):q2h_ (SP,m,a,())=some ((doM m a).1,(doM m a).2,()):=by
 have hf:=right_f hr
 have h1:=h.c
 have h2:=h.i
 have h3:=h.h
 have h4:=h.w
 have p0:=ha.at0
 have t0:=ha.t0
 have lw:=ha.lw
 have lb:=ha.lb
 show qsy_ qi2_ SP m a=_
 unfold qsy_
 rw [cloneBr_eq (by omega),Option.bind_some,cloneBr_eq (by omega),Option.bind_some,cloneWr_eq (by omega),Option.bind_some,cloneWr_eq (by omega),Option.bind_some,check_eq ha hr,Option.bind_some]
 dsimp only
 unfold doM
 cases hc:chkS a with
 | false =>
  simp only [Bool.false_eq_true,if_false]
  rw [if_pos (show nei 2 0=true by decide),wrong_eq,Option.bind_some,rem128 (by omega) hf.2]
 | true =>
  rw [if_pos rfl,if_neg (by decide),mright_eq h,Option.bind_some,if_neg (by decide),uses_eq,Option.bind_some,target_eq ha,Option.bind_some,if_pos rfl]
  have hsz:=wrM_sz h ha hr hc
  have fin:∀ k:Int×Int,(isE a.1=false->k.1=(if a.1=1 then 1 else if a.1=2 then 2 else if a.1=4 then 4 else 3))->qi2_ a 0 0 0 0 (wrM m a).1 (wrM m a).2.1 (wrM m a).2.2.1 (wrM m a).2.2.2 SP.1 SP.2.1 SP.2.2.1 SP.2.2.2 k=some (wrM m a,if isE a.1=true then echoR a else ansR (wrM m a) a,()):=fun k hk=>by
   rw [mdo_K1,secho_eq ha hr,Option.bind_some]
   cases he:isE a.1 with
   | true=>rfl
   | false =>
    rw [if_neg (fun e=>Bool.false_ne_true e),if_neg (fun e=>Bool.false_ne_true e),answer_eq hsz ha hr hc he _ (hk he)]
    rfl
  have hcc:=hc
  unfold chkS at hc
  cases hra:rightA_RA hr with
  | bits f p n hf' g1 g2 =>
   rcases hf' with rfl | rfl
   ·exact fin (1,0) (fun _=>rfl)
   ·exact fin (2,0) (fun _=>rfl)
  | words f p n hf' g1 g2 =>
   rcases hf' with rfl | rfl
   ·exact fin (3,0) (fun _=>rfl)
   ·exact fin (4,0) (fun _=>rfl)
  | coil p b =>
   have hle:p + ((1:Nat):Int)≤16:=of_decide_eq_true hc
   have p0:0≤p:=p0
   refine Eq.trans ?_ (fin (0,1) (fun e=>by cases e))
   dsimp only
   rw [if_neg (show ¬ (5:Int)=23 by decide)]
   show need (ge p 0) (need (le p (Int.ofNat m.1.length)) (need (le (Int.ofNat m.1.length) (Int.ofNat m.1.length)) (need (le (p + (Int.ofNat m.1.length - p)) (Int.ofNat m.1.length)) _)))=_
   rw [q9_ (q1f_.2 p0),q9_ (q19_.2 (by rw [q1_]; omega)),q9_ (q19_.2 (Int.le_refl _)),q9_ (q19_.2 (by rw [q1_]; omega))]
   rw [cpy_code (w:=[b]) (by rw [q1_]; show 1≤_; omega)]
   rfl
  | word p x =>
   have:p=272∧1=8∨p=288∧1=20:=of_decide_eq_true hc
   omega
  | coils p l g1 g2 =>
   have hle:p + (l.length:Int)≤16:=of_decide_eq_true hc
   have p0:0≤p:=p0
   refine Eq.trans ?_ (fin (0,1) (fun e=>by cases e))
   dsimp only
   rw [if_neg (show ¬ (15:Int)=23 by decide)]
   show need (ge p 0) (need (le p (Int.ofNat m.1.length)) (need (le (Int.ofNat m.1.length) (Int.ofNat m.1.length)) (need (le (p + (Int.ofNat m.1.length - p)) (Int.ofNat m.1.length)) _)))=_
   rw [q9_ (q1f_.2 p0),q9_ (q19_.2 (by rw [q1_]; omega)),q9_ (q19_.2 (Int.le_refl _)),q9_ (q19_.2 (by rw [q1_]; omega))]
   rw [cpy_code (w:=l) (by rw [q1_]; omega)]
   rfl
  | regs p l g1 g2 =>
   have hle:p=272∧l.length=8∨p=288∧l.length=20:=of_decide_eq_true hc
   have p0:0≤p:=p0
   refine Eq.trans ?_ (fin (0,3) (fun e=>by cases e))
   dsimp only
   rw [if_neg (show ¬ (16:Int)=23 by decide)]
   show need (ge p 0) (need (le p (Int.ofNat m.2.2.1.length)) (need (le (Int.ofNat m.2.2.1.length) (Int.ofNat m.2.2.1.length)) (need (le (p + (Int.ofNat m.2.2.1.length - p)) (Int.ofNat m.2.2.1.length)) _)))=_
   rw [q9_ (q1f_.2 p0),q9_ (q19_.2 (by rw [q1_]; omega)),q9_ (q19_.2 (Int.le_refl _)),q9_ (q19_.2 (by rw [q1_]; omega))]
   rw [cpy_code (w:=l) (by rw [q1_]; omega)]
   rfl
  | swap p n t l g1 g2 g3 g4 =>
   have hle:t=272∧l.length=8∨t=288∧l.length=20:=of_decide_eq_true (Bool.and_eq_true _ _ ▸ hc:_∧_).2
   have t0:0≤t:=t0
   refine Eq.trans ?_ (fin (3,3) (fun _=>rfl))
   dsimp only
   rw [if_pos (show (23:Int)=23 by decide)]
   show need (ge t 0) (need (le t (Int.ofNat m.2.2.1.length)) (need (le (Int.ofNat m.2.2.1.length) (Int.ofNat m.2.2.1.length)) (need (le (t + (Int.ofNat m.2.2.1.length - t)) (Int.ofNat m.2.2.1.length)) _)))=_
   rw [q9_ (q1f_.2 t0),q9_ (q19_.2 (by rw [q1_]; omega)),q9_ (q19_.2 (Int.le_refl _)),q9_ (q19_.2 (by rw [q1_]; omega))]
   rw [cpy_code (w:=l) (by rw [q1_]; omega)]
   rfl
end Go.Proofs.Lx
end
section
namespace Go.Proofs.Lx
open Go Ev Sx Pl
set_option maxRecDepth 100000
def rdA (a:TA):TA:=(if a.1=23 then 3 else a.1,a.2.1,a.2.2.1,0,[],[])
def answS (s:TSl) (a:TA):TR:=if isE a.1=true then echoR a else (a.1,(ansR (memS s) (rdA a)).2)
theorem rdA_ok {a:TA} (ha:OkA a) (hr:rightA a=true) (he:isE a.1=false) (hc:chkS a=true):OkA (rdA a)∧rightA (rdA a)=true∧chkS (rdA a)=true∧isE (rdA a).1=false:=by
 have nil:∀ x ∈ ([]:List Int),0≤x∧x≤65535:=fun x hx=>by cases hx
 cases hra:rightA_RA hr with
 | bits f p n hf h1 h2 =>
  rcases hf with rfl | rfl
  ·exact ⟨ha,hr,hc,he⟩
  ·exact ⟨ha,hr,hc,he⟩
 | words f p n hf h1 h2 =>
  rcases hf with rfl | rfl
  ·exact ⟨ha,hr,hc,he⟩
  ·exact ⟨ha,hr,hc,he⟩
 | coil p b=>cases he
 | word p x=>cases he
 | coils p l h1 h2=>cases he
 | regs p l h1 h2=>cases he
 | swap p n t l h1 h2 h3 h4 =>
  have hc1:=(Bool.and_eq_true _ _ ▸ (show (rdH p n.toNat && decide (t=272∧l.length=8∨t=288∧l.length=20))=true from hc):_∧_).1
  refine ⟨⟨(by decide:(0:Int)≤3),(by decide:(3:Int)≤255),ha.at0,ha.at1,ha.m0,ha.m1,(by decide:(0:Int)≤0),(by decide:(0:Int)≤65535),nil,Nat.zero_le _,Nat.zero_le _⟩,?_,hc1,rfl⟩
  show rightS (3,p,n,0,[],[]) (125,0,0,false,false)=true
  unfold rightS
  dsimp only
  have e:withinV n 125=true:=by
   unfold withinV
   rw [if_neg (by decide),if_pos (q1f_.2 h3),q19_.2 h4]
  rw [e]
  rfl
theorem sanswer_eq {s:TSl} (h:OkS s) {a:TA} (ha:OkA a) (hr:rightA a=true) (hc:chkS a=true):qz_ (s,a,())=some (answS s a,()):=by
 show qii_ qdh_ s a=_
 unfold qii_ answS
 rw [secho_eq ha hr,Option.bind_some]
 cases he:isE a.1 with
 | true=>rfl
 | false =>
  obtain ⟨h1,h2,h3,h4⟩:=rdA_ok ha hr he hc
  have hd:=mdo_eq (memS_sz h) h1 h2
  have hdo:(doM (memS s) (rdA a)).2=ansR (memS s) (rdA a):=by
   unfold doM
   rw [if_pos h3,h4]
   have:wrM (memS s) (rdA a)=memS s:=by
    unfold isE at h4
    have h5:=of_decide_eq_false h4
    unfold wrM
    have h23:(rdA a).1 ≠ 23:=by
     show (if a.1=23 then (3:Int) else a.1) ≠ 23
     split <;> omega
    rw [if_neg (by omega),if_neg (by omega),if_neg h23]
   rw [this]
   rfl
  have K:qdh_ s a 0 0 0 0 (if a.1=23 then 3 else a.1) a.2.1 a.2.2.1 0=some ((a.1,(ansR (memS s) (rdA a)).2),()):=by
   have hd':q2h_ (SP,memS s,((if a.1=23 then (3:Int) else a.1),a.2.1,a.2.2.1,0,[],[]),())=_:=hd
   show qia_ qir_ s a 0 0 0 0 _ a.2.1 a.2.2.1 0=_
   unfold qia_
   simp only [space_eq,mem_eq h,Option.bind_some,hd',amb2 (eqAs_refl qg_.rs),amb3 (eqAs_refl qg_.rs)]
   show some ((a.1,(doM (memS s) (rdA a)).2.2),())=_
   rw [hdo]
  rw [if_neg (fun e=>Bool.false_ne_true e),if_neg (fun e=>Bool.false_ne_true e)]
  by_cases e:a.1=23
  ·rw [if_pos (q6_.2 e)]
   rw [if_pos e] at K
   exact K
  ·rw [if_neg (fun x=>e (q6_.1 x))]
   rw [if_neg e] at K
   exact K
def readC (w:List Int):TCm×Int :=
 if w.length ≠ 8∨w.getD 7 0 ≠ 0∨256≤w.getD 1 0 then ((0,0,0,0,0),2)
 else ((w.getD 0 0,w.getD 1 0,65536 * w.getD 2 0 + w.getD 3 0,w.getD 4 0,65536 * w.getD 5 0 + w.getD 6 0),0)
theorem aread_eq' {w:List Int} (hr:∀ x ∈ w,0≤x∧x≤65535):qge_ (w,())=some ((readC w).1,(readC w).2,()):=by
 show qnu_ qhk_ w=_
 unfold qnu_
 by_cases hl:w.length=8
 ·rw [if_neg (fun e=>qj_.1 e (by rw [q1_]; omega))]
  have g:∀ k:Nat,k < 8->at? w (k:Int)=some (w.getD k 0):=fun k hk=>by
   obtain ⟨x,hx⟩:=get_of (xs:=w) (i:=k) (by omega)
   rw [qp_ hx,List.getD_eq_getElem?_getD,hx]
   rfl
  have rg:∀ k:Nat,k < 8->0≤w.getD k 0∧w.getD k 0≤65535:=fun k hk=>by
   obtain ⟨x,hx⟩:=get_of (xs:=w) (i:=k) (by omega)
   rw [List.getD_eq_getElem?_getD,hx]
   exact hr x (List.mem_of_getElem? hx)
  have g0:at? w 0=some (w.getD 0 0):=g 0 (by omega)
  have g1:at? w 1=some (w.getD 1 0):=g 1 (by omega)
  have g2:at? w 2=some (w.getD 2 0):=g 2 (by omega)
  have g3:at? w 3=some (w.getD 3 0):=g 3 (by omega)
  have g4:at? w 4=some (w.getD 4 0):=g 4 (by omega)
  have g5:at? w 5=some (w.getD 5 0):=g 5 (by omega)
  have g6:at? w 6=some (w.getD 6 0):=g 6 (by omega)
  have g7:at? w 7=some (w.getD 7 0):=g 7 (by omega)
  have K:∀ b,qhk_ w b (0,0,0,0,0)=some (if b=true then (((0,0,0,0,0):TCm),(2:Int),()) else ((w.getD 0 0,cvt .u8 (w.getD 1 0),65536 * w.getD 2 0 + w.getD 3 0,w.getD 4 0,65536 * w.getD 5 0 + w.getD 6 0),0,())):=fun b=>by
   show qn4_ w b (0,0,0,0,0)=_
   unfold qn4_
   cases b with
   | true=>rfl
   | false =>
    have r2:=rg 2 (by omega)
    have r3:=rg 3 (by omega)
    have r5:=rg 5 (by omega)
    have r6:=rg 6 (by omega)
    rw [if_neg (by decide),if_neg (by decide),g0,Option.bind_some,g1,Option.bind_some,g2,Option.bind_some,g3,Option.bind_some,g4,Option.bind_some,g5,Option.bind_some,g6,Option.bind_some,wide_eq r2.1 r2.2 r3.1 r3.2,Option.bind_some,wide_eq r5.1 r5.2 r6.1 r6.2,Option.bind_some]
  rw [g7,Option.bind_some]
  unfold readC
  by_cases h7:w.getD 7 0=0
  ·rw [if_neg (fun e=>qj_.1 e h7),g1,Option.bind_some,K]
   by_cases h1:256≤w.getD 1 0
   ·rw [if_pos (q1f_.2 h1),if_pos (Or.inr (Or.inr h1))]
   ·have r1:=rg 1 (by omega)
    rw [if_neg (fun e=>h1 (q1f_.1 e)),if_neg (by omega),show cvt .u8 (w.getD 1 0)=w.getD 1 0 from wu8 r1.1 (by omega)]
  ·rw [if_pos (qj_.2 h7),K,if_pos rfl,if_pos (Or.inr (Or.inl h7))]
 ·rw [if_pos (qj_.2 (by rw [q1_]; omega))]
  unfold readC
  rw [if_pos (Or.inl hl)]
  rfl
def wroteS (a:TAg) (p:Int) (w:List Int):TAg×Int :=
 if p=272 then
  if (readC w).2 ≠ 0 then (a,3) else if (doS (ownA a) (readC w).1).2 ≠ 0 then (a,4) else ((doS (ownA a) (readC w).1).1,0)
 else
  if (rdB w).2.2.2.2 ≠ 0 then (a,3) else if (putA (ownA a) (rdB w).1 (rdB w).2.1 (rdB w).2.2.1 (rdB w).2.2.2.1).2 ≠ 0 then (a,4)
  else ((putA (ownA a) (rdB w).1 (rdB w).2.1 (rdB w).2.2.1 (rdB w).2.2.2.1).1,0)
def atW (a:TA):Int:=if a.1=23 then a.2.2.2.1 else a.2.1
def setA (s:TSl) (a:TAg):TSl:=(s.1,s.2.1,a,s.2.2.2)
def setC (s:TSl) (c:List Bool):TSl:=(s.1,s.2.1,s.2.2.1,c)
def servS (s:TSl) (a:TA):TSl×TR :=
 if chkS a=false then (s,(a.1,2,[],[],0,0))
 else if a.1=5∨a.1=15 then (setC s (cpy s.2.2.2 a.2.1.toNat a.2.2.2.2.2),answS (setC s (cpy s.2.2.2 a.2.1.toNat a.2.2.2.2.2)) a)
 else if a.2.2.2.2.1.length=0 then (s,answS s a)
 else if (wroteS s.2.2.1 (atW a) a.2.2.2.2.1).2 ≠ 0 then (s,(a.1,(wroteS s.2.2.1 (atW a) a.2.2.2.2.1).2,[],[],0,0))
 else (setA s (wroteS s.2.2.1 (atW a) a.2.2.2.2.1).1,answS (setA s (wroteS s.2.2.1 (atW a) a.2.2.2.2.1).1) a)
theorem readC_rng {w:List Int} (hr:∀ x ∈ w,0≤x∧x≤65535):(0≤(readC w).1.1∧(readC w).1.1≤65535)∧(0≤(readC w).1.2.2.1∧(readC w).1.2.2.1≤4294967295)∧(0≤(readC w).1.2.2.2.1∧(readC w).1.2.2.2.1≤65535):=by
 unfold readC
 split
 ·exact ⟨⟨by decide,by decide⟩,⟨by decide,by decide⟩,⟨by decide,by decide⟩⟩
 ·rename_i h
  have rg:∀ k:Nat,0≤w.getD k 0∧w.getD k 0≤65535:=fun k=>by
   rw [List.getD_eq_getElem?_getD]
   cases hx:w[k]? with
   | none=>exact ⟨by decide,by decide⟩
   | some x=>exact hr x (List.mem_of_getElem? hx)
  have r0:=rg 0
  have r2:=rg 2
  have r3:=rg 3
  have r4:=rg 4
  exact ⟨r0,⟨by dsimp only; omega,by dsimp only; omega⟩,r4⟩
theorem rdB_rng {w:List Int} (hr:∀ x ∈ w,0≤x∧x≤65535) (h:(rdB w).2.2.2.2=0):(0≤(rdB w).1∧(rdB w).1≤65535)∧(0≤(rdB w).2.2.1∧(rdB w).2.2.1≤7)∧fitsB (rdB w).2.2.2.1=true∧(∀ x ∈ (rdB w).2.2.2.1.2,0≤x∧x≤65535):=by
 have rg:∀ k:Nat,0≤w.getD k 0∧w.getD k 0≤65535:=fun k=>by
  rw [List.getD_eq_getElem?_getD]
  cases hx:w[k]? with
  | none=>exact ⟨by decide,by decide⟩
  | some x=>exact hr x (List.mem_of_getElem? hx)
 unfold rdB at h ⊢
 split
 ·rename_i q
  rw [if_pos q] at h
  exact absurd h (by decide)
 ·rename_i q
  rw [if_neg q] at h
  split
  ·rename_i q2
   rw [if_pos q2] at h
   exact absurd h (by decide)
  ·rename_i q2
   rw [if_neg q2] at h
   split
   ·rename_i q3
    have r3:=rg 3
    exact ⟨rg 0,⟨r3.1,by dsimp only; omega⟩,q3.1,fun x hx=>hr x (List.mem_of_mem_drop (List.mem_of_mem_take hx))⟩
   ·rename_i q3
    rw [if_neg q3] at h
    exact absurd h (by decide)
theorem wroteS_ok {a:TAg} (h:OkG a) {p:Int} {w:List Int} (hr:∀ x ∈ w,0≤x∧x≤65535):OkG (wroteS a p w).1:=by
 unfold wroteS
 split
 ·split
  ·exact h
  ·split
   ·exact h
   ·obtain ⟨r1,r2,r3⟩:=readC_rng hr
    exact h.own.doS r1 r2 r3
 ·split
  ·exact h
  ·rename_i q
   obtain ⟨r1,r2,r3,r4⟩:=rdB_rng hr (Classical.not_not.1 q)
   split
   ·exact h
   ·exact h.own.putA r1 r3 r4
theorem servS_ok {s:TSl} (h:OkS s) {a:TA} (ha:OkA a) (hr:rightA a=true):OkS (servS s a).1:=by
 unfold servS
 split
 ·exact h
 ·rename_i hc
  have hc:chkS a=true:=by cases e:chkS a with | true=>rfl | false=>exact absurd e hc
  have hw:=(wrM_sz (memS_sz h) ha hr hc).c
  split
  ·rename_i q
   unfold wrM at hw
   rw [if_pos q] at hw
   exact ⟨h.u,h.l,h.a,hw⟩
  ·split
   ·exact h
   ·split
    ·exact h
    ·exact ⟨h.u,h.l,wroteS_ok h.a ha.w,h.c⟩
end Go.Proofs.Lx
end
section
namespace Go.Proofs.Lx
open Go Ev Sx Pl
set_option maxRecDepth 100000
theorem eight {α:Type} {l:List α} (h:l.length=8):∃ a b c d e f g i,l=[a,b,c,d,e,f,g,i]:=by
 match l,h with
 | [a,b,c,d,e,f,g,i],_=>exact ⟨a,b,c,d,e,f,g,i,rfl⟩
theorem getD8 {α:Type} {l:List α} {z:α} (h:l.length=8):[l.getD 0 z,l.getD 1 z,l.getD 2 z,l.getD 3 z,l.getD 4 z,l.getD 5 z,l.getD 6 z,l.getD 7 z]=l:=by
 obtain ⟨a,b,c,d,e,f,g,i,rfl⟩:=eight h
 rfl
theorem mkAg_eq {a:TAg} (h1:a.2.2.2.2.2.1.2.1.length=8) (h2:a.2.2.2.2.2.1.2.2.length=8):mkAg a=a:=by
 unfold mkAg
 rw [getD8 h1,getD8 h2]
def midS (x:Int) (s:TSl) (a:TA):Option (As q2e_.rs) :=
 qjz_ x s.2.2.2 s.1 s.2.1 s.2.2.1.1 s.2.2.1.2.1.1 s.2.2.1.2.1.2 s.2.2.1.2.2.1 s.2.2.1.2.2.2.1 s.2.2.1.2.2.2.2.1 s.2.2.1.2.2.2.2.2.1.1
  (s.2.2.1.2.2.2.2.2.1.2.1.getD 0 false) (s.2.2.1.2.2.2.2.2.1.2.1.getD 1 false) (s.2.2.1.2.2.2.2.2.1.2.1.getD 2 false) (s.2.2.1.2.2.2.2.2.1.2.1.getD 3 false) (s.2.2.1.2.2.2.2.2.1.2.1.getD 4 false) (s.2.2.1.2.2.2.2.2.1.2.1.getD 5 false) (s.2.2.1.2.2.2.2.2.1.2.1.getD 6 false) (s.2.2.1.2.2.2.2.2.1.2.1.getD 7 false)
  (s.2.2.1.2.2.2.2.2.1.2.2.getD 0 (0,[])).1 (s.2.2.1.2.2.2.2.2.1.2.2.getD 0 (0,[])).2 (s.2.2.1.2.2.2.2.2.1.2.2.getD 1 (0,[])).1 (s.2.2.1.2.2.2.2.2.1.2.2.getD 1 (0,[])).2 (s.2.2.1.2.2.2.2.2.1.2.2.getD 2 (0,[])).1 (s.2.2.1.2.2.2.2.2.1.2.2.getD 2 (0,[])).2 (s.2.2.1.2.2.2.2.2.1.2.2.getD 3 (0,[])).1 (s.2.2.1.2.2.2.2.2.1.2.2.getD 3 (0,[])).2 (s.2.2.1.2.2.2.2.2.1.2.2.getD 4 (0,[])).1 (s.2.2.1.2.2.2.2.2.1.2.2.getD 4 (0,[])).2 (s.2.2.1.2.2.2.2.2.1.2.2.getD 5 (0,[])).1 (s.2.2.1.2.2.2.2.2.1.2.2.getD 5 (0,[])).2 (s.2.2.1.2.2.2.2.2.1.2.2.getD 6 (0,[])).1 (s.2.2.1.2.2.2.2.2.1.2.2.getD 6 (0,[])).2 (s.2.2.1.2.2.2.2.2.1.2.2.getD 7 (0,[])).1 (s.2.2.1.2.2.2.2.2.1.2.2.getD 7 (0,[])).2
  s.2.2.1.2.2.2.2.2.2 0 0 0 0 0 0 0 0 false false false false false false false false 0 0 0 0 0 0 0 0 0 0 0 0 0 a
abbrev RS:=Option (As q2e_.rs)
def cmdM (s:TSl) (a:TA) (p:Int):RS :=
 if eqi 272 p=true then Option.bind (qge_ (a.2.2.2.2.1,())) fun y=>if nei y.2.1 0=true then Option.bind (qh_ (a.1,3,())) fun y=>some (s,y.1,()) else amb (eqAs q2e_.rs) [Option.bind (qed_ (s.2.2.1,y.1,())) fun y=>if nei y.2.1 0=true then Option.bind (qh_ (a.1,4,())) fun y=>some (s,y.1,()) else Option.bind (qz_ (setA s (mkAg y.1),a,())) fun y_1=>some (setA s (mkAg y.1),y_1.1,()),Option.bind (qed_ (s.2.2.1,y.1,())) fun y=>if nei y.2.1 0=true then Option.bind (qh_ (a.1,4,())) fun y=>some (s,y.1,()) else Option.bind (qz_ (setA s (mkAg y.1),a,())) fun y_1=>some (setA s (mkAg y.1),y_1.1,())]
 else if eqi 288 p=true then Option.bind (qh0_ (a.2.2.2.2.1,())) fun y=>if nei y.2.2.2.2.1 0=true then Option.bind (qh_ (a.1,3,())) fun y=>some (s,y.1,()) else amb (eqAs q2e_.rs) [Option.bind (qba_ (s.2.2.1,y.1,y.2.1,y.2.2.1,y.2.2.2.1,())) fun y=>if nei y.2.1 0=true then Option.bind (qh_ (a.1,4,())) fun y=>some (s,y.1,()) else Option.bind (qz_ (setA s (mkAg y.1),a,())) fun y_1=>some (setA s (mkAg y.1),y_1.1,()),Option.bind (qba_ (s.2.2.1,y.1,y.2.1,y.2.2.1,y.2.2.2.1,())) fun y=>if nei y.2.1 0=true then Option.bind (qh_ (a.1,4,())) fun y=>some (s,y.1,()) else Option.bind (qz_ (setA s (mkAg y.1),a,())) fun y_1=>some (setA s (mkAg y.1),y_1.1,())]
 else Option.bind (qh_ (a.1,2,())) fun y=>some (s,y.1,())
def copM (s:TSl) (a:TA):RS:=if le (add .i64 (cvt .i64 a.2.1) (Int.ofNat a.2.2.2.2.2.length)) (Int.ofNat s.2.2.2.length)=true then need (ge a.2.1 0) (need (le a.2.1 (Int.ofNat s.2.2.2.length)) (need (le (Int.ofNat s.2.2.2.length) (Int.ofNat s.2.2.2.length)) (need (le (a.2.1 + (Int.ofNat s.2.2.2.length - a.2.1)) (Int.ofNat s.2.2.2.length)) (Option.bind (qz_ (setC s (s.2.2.2.take (Int.toNat a.2.1)++a.2.2.2.2.2.take (Int.toNat (Int.ofNat s.2.2.2.length - a.2.1))++s.2.2.2.drop (Int.toNat a.2.1 + (a.2.2.2.2.2.take (Int.toNat (Int.ofNat s.2.2.2.length - a.2.1))).length)),a,())) fun y=>some (setC s (s.2.2.2.take (Int.toNat a.2.1)++a.2.2.2.2.2.take (Int.toNat (Int.ofNat s.2.2.2.length - a.2.1))++s.2.2.2.drop (Int.toNat a.2.1 + (a.2.2.2.2.2.take (Int.toNat (Int.ofNat s.2.2.2.length - a.2.1))).length)),y.1,()))))) else Option.bind (qz_ (s,a,())) fun y=>some (s,y.1,())
theorem mid_eq {x:Int} {s:TSl} {a:TA} (h1:s.2.2.1.2.2.2.2.2.1.2.1.length=8) (h2:s.2.2.1.2.2.2.2.2.1.2.2.length=8):midS x s a =
  if nei x 0=true then Option.bind (qh_ (a.1,x,())) fun y=>some (s,y.1,())
  else if eqi a.1 5=true then copM s a
  else if eqi a.1 15=true then copM s a
  else if eqi (Int.ofNat a.2.2.2.2.1.length) 0=true then Option.bind (qz_ (s,a,())) fun y=>some (s,y.1,())
  else if eqi a.1 23=true then cmdM s a a.2.2.2.1
  else cmdM s a a.2.1:=by
 obtain ⟨u,l,⟨bk,⟨lo,lf⟩,ph,tx,la,⟨st,hv,bs⟩,tk⟩,co⟩:=s
 obtain ⟨b0,b1,b2,b3,b4,b5,b6,b7,e1⟩:=eight h1
 obtain ⟨c0,c1,c2,c3,c4,c5,c6,c7,e2⟩:=eight h2
 dsimp only at e1 e2
 subst e1 e2
 rfl
end Go.Proofs.Lx
end
section
namespace Go.Proofs.Lx
open Go Ev Sx Pl
set_option maxRecDepth 100000
theorem RR_right {r:TR} (h:RR r):rightR r=true:=by
 cases h with
 | ex f e h0 h h1 h2=>exact (rep_wrong h0 h h1 h2).rt
 | bits f l hf h1 h2 h3 =>
  have hb:bitR (f,0,l,[],0,0)=true:=by
   unfold bitR
   dsimp only
   rw [decide_eq_true h1,decide_eq_true h2,decide_eq_true h3,decide_eq_true rfl]
   rfl
  rcases hf with rfl | rfl <;> exact hb
 | words f l hf h1 h2 =>
  have hb:wordR (f,0,[],l,0,0)=true:=by
   unfold wordR
   dsimp only
   rw [decide_eq_true h1,decide_eq_true h2,decide_eq_true rfl]
   rfl
  rcases hf with rfl | rfl | rfl <;> exact hb
 | coil b p =>
  show obR (5,0,[b],[],p,0)=true
  unfold obR
  rw [decide_eq_true rfl]
  rfl
 | word x p =>
  show owR (6,0,[],[x],p,0)=true
  unfold owR
  rw [decide_eq_true rfl]
  rfl
 | coils p n h1 h2 =>
  show ctR 1968 (15,0,[],[],p,n)=true
  unfold ctR
  dsimp only
  rw [decide_eq_true h1,decide_eq_true h2,decide_eq_true rfl]
  rfl
 | regs p n h1 h2 =>
  show ctR 123 (16,0,[],[],p,n)=true
  unfold ctR
  dsimp only
  rw [decide_eq_true h1,decide_eq_true h2,decide_eq_true rfl]
  rfl
theorem rep_of {r:TR} (h:OkR r) (hr:RR r):Rep r:=⟨h,hr,RR_right hr⟩
theorem itB_rng {x:TBlk} (hf:fitsB x=true->∀ w ∈ x.2,0≤w∧w≤65535):∀ w ∈ itB x,0≤w∧w≤65535:=by
 intro w hw
 unfold itB at hw
 split at hw
 ·rename_i h
  have h2:=of_decide_eq_true h
  rcases List.mem_append.1 hw with h3 | h3
  ·rcases List.mem_cons.1 h3 with h4 | h4
   ·omega
   ·rcases List.mem_cons.1 h4 with h5 | h5
    ·omega
    ·exact hf h w h5
  ·have:=List.eq_of_mem_replicate h3
   omega
 ·have:=List.eq_of_mem_replicate hw
  omega
theorem backS_rng {s:TStg} {o n:Int} (ho:0≤o∧o≤65535) (hn:0≤n∧n≤7) (ht:0≤s.1∧s.1≤4294967295) (hw:∀ b ∈ s.2.2,∀ w ∈ b.2,0≤w∧w≤65535):∀ w ∈ backS s o n,0≤w∧w≤65535:=by
 intro w hm
 unfold backS at hm
 split at hm
 ·rename_i x h1 h2
  unfold tagB at hm
  rcases List.mem_cons.1 hm with e | hm
  ·omega
  ·rcases List.mem_cons.1 hm with e | hm
   ·omega
   ·rcases List.mem_cons.1 hm with e | hm
    ·omega
    ·rcases List.mem_cons.1 hm with e | hm
     ·omega
     ·exact itB_rng (fun _=>hw x (List.mem_of_getElem? h2)) w hm
 ·have:=List.eq_of_mem_replicate hm
  omega
theorem statA_rng {a:TAg} (h:OkG a):∀ w ∈ statA a,0≤w∧w≤65535:=by
 intro w hw
 have h1:=h.l1
 have h2:=h.pr
 have h3:=h.tr
 have h4:=h.ar
 have hc:a.2.2.2.2.2.1.2.1.count true≤8:=by
  have:=List.count_le_length (a:=true) (l:=a.2.2.2.2.2.1.2.1)
  have:=h.hl
  omega
 simp only [statA,List.mem_cons,List.not_mem_nil,or_false] at hw
 rcases hw with e | e | e | e | e | e | e | e <;> omega
theorem OkG.st {a:TAg} (h:OkG a):0≤a.2.2.2.2.2.1.1∧a.2.2.2.2.2.1.1≤4294967295:=by
 by_cases e:a.2.2.1=0
 ·have:=(h.p0 e).2.2.1; omega
 ·have:=(h.pn e).2.2; have:=h.tr; omega
theorem holdS_rng {a:TAg} (h:OkG a):∀ w ∈ holdS a,0≤w∧w≤65535:=by
 have hg:∀ k:Nat,k≤8->∀ w ∈ (List.range k).foldl (fun h b=>cpy h (512 + b * 32) (backS a.2.2.2.2.2.1 a.2.1.1 (b:Int))) (cpy (cpy (List.replicate 756 0) 0 a.1) 256 (statA a)),0≤w∧w≤65535:=by
  intro k
  induction k with
  | zero =>
   intro _
   rw [List.range_zero,List.foldl_nil]
   exact cpy_rng (P:=fun y=>0≤y∧y≤65535) (cpy_rng (P:=fun y=>0≤y∧y≤65535) (fun y hy=>by have:=List.eq_of_mem_replicate hy; omega) h.bw) (statA_rng h)
  | succ k ih =>
   intro hk
   rw [List.range_succ,List.foldl_append,List.foldl_cons,List.foldl_nil]
   exact cpy_rng (P:=fun y=>0≤y∧y≤65535) (ih (by omega)) (backS_rng h.l1 ⟨by omega,by omega⟩ h.st h.wb)
 exact hg 8 (by omega)
theorem rdBits_len {c:List Bool} {p n:Nat} (h:p + n≤c.length):(rdBits c p n).length=(n + 7) / 8 * 8:=by
 unfold rdBits
 rw [List.length_append,List.length_take,List.length_drop,List.length_replicate]
 omega
theorem okR_plain {f:Int} (h0:0≤f) (h1:f≤255) {b:List Bool} {w:List Int} (hb:b.length≤100000) (hw:∀ x ∈ w,0≤x∧x≤65535) (hl:w.length≤100000):OkR (f,0,b,w,0,0) :=
 ⟨h0,h1,(by decide:(0:Int)≤0),(by decide:(0:Int)≤255),hw,(by decide:(0:Int)≤0),(by decide:(0:Int)≤65535),(by decide:(0:Int)≤0),(by decide:(0:Int)≤65535),hb,hl⟩
theorem nilW:∀ x ∈ ([]:List Int),0≤x∧x≤65535:=fun x hx=>by cases hx
theorem answS_rep {s:TSl} (h:OkS s) {a:TA} (ha:OkA a) (hr:rightA a=true) (hc:chkS a=true):Rep (answS s a):=by
 have p0:=ha.at0
 have p1:=ha.at1
 have hcl:=h.c
 have hil:=inpS_len s.2.2.1
 have hhl:=holdS_len h.a
 have hhr:=holdS_rng h.a
 have hsr:=statA_rng h.a
 unfold chkS at hc
 cases rightA_RA hr with
 | bits f p n hf g1 g2 =>
  obtain ⟨p,rfl⟩:=Int.eq_ofNat_of_zero_le (show 0≤p from p0)
  obtain ⟨n,rfl⟩:=Int.eq_ofNat_of_zero_le (show 0≤n by omega)
  rcases hf with rfl | rfl
  ·have hc:(p:Int) + (n:Int)≤16:=of_decide_eq_true hc
   have hl:=rdBits_len (c:=s.2.2.2) (p:=p) (n:=n) (by omega)
   exact rep_of (okR_plain (f:=1) (by decide) (by decide) (by show (rdBits s.2.2.2 p n).length≤_; omega) nilW (by decide)) (.bits 1 _ (Or.inl rfl) (by show 8≤(rdBits s.2.2.2 p n).length; omega) (by show (rdBits s.2.2.2 p n).length≤2000; omega) (by show (rdBits s.2.2.2 p n).length % 8=0; omega))
  ·have hc:(p:Int) + (n:Int)≤8:=of_decide_eq_true hc
   have hl:=rdBits_len (c:=inpS s.2.2.1) (p:=p) (n:=n) (by omega)
   exact rep_of (okR_plain (f:=2) (by decide) (by decide) (by show (rdBits (inpS s.2.2.1) p n).length≤_; omega) nilW (by decide)) (.bits 2 _ (Or.inr rfl) (by show 8≤(rdBits (inpS s.2.2.1) p n).length; omega) (by show (rdBits (inpS s.2.2.1) p n).length≤2000; omega) (by show (rdBits (inpS s.2.2.1) p n).length % 8=0; omega))
 | words f p n hf g1 g2 =>
  obtain ⟨p,rfl⟩:=Int.eq_ofNat_of_zero_le (show 0≤p from p0)
  obtain ⟨n,rfl⟩:=Int.eq_ofNat_of_zero_le (show 0≤n by omega)
  rcases hf with rfl | rfl
  ·have hle:=rdH_le (p:=(p:Int)) (m:=n) (by omega) hc
   have hl:((holdS s.2.2.1).drop p |>.take n).length=n:=by rw [List.length_take,List.length_drop]; omega
   exact rep_of (okR_plain (f:=3) (by decide) (by decide) (by decide) (fun x hx=>hhr x (List.mem_of_mem_drop (List.mem_of_mem_take hx))) (by show ((holdS s.2.2.1).drop p |>.take n).length≤_; omega)) (.words 3 _ (Or.inl rfl) (by show 1≤((holdS s.2.2.1).drop p |>.take n).length; omega) (by show ((holdS s.2.2.1).drop p |>.take n).length≤125; omega))
  ·have hc:(p:Int) + (n:Int)≤8:=of_decide_eq_true hc
   have hl:((statA s.2.2.1).drop p |>.take n).length=n:=by rw [List.length_take,List.length_drop]; show min n (8 - p)=n; omega
   exact rep_of (okR_plain (f:=4) (by decide) (by decide) (by decide) (fun x hx=>hsr x (List.mem_of_mem_drop (List.mem_of_mem_take hx))) (by show ((statA s.2.2.1).drop p |>.take n).length≤_; omega)) (.words 4 _ (Or.inr (Or.inl rfl)) (by show 1≤((statA s.2.2.1).drop p |>.take n).length; omega) (by show ((statA s.2.2.1).drop p |>.take n).length≤125; omega))
 | coil p b =>
  exact rep_of ⟨(by decide:(0:Int)≤5),(by decide:(5:Int)≤255),(by decide:(0:Int)≤0),(by decide:(0:Int)≤255),nilW,p0,p1,(by decide:(0:Int)≤0),(by decide:(0:Int)≤65535),(by decide:1≤100000),(by decide:0≤100000)⟩ (.coil b p)
 | word p x =>
  exact rep_of ⟨(by decide:(0:Int)≤6),(by decide:(6:Int)≤255),(by decide:(0:Int)≤0),(by decide:(0:Int)≤255),ha.w,p0,p1,(by decide:(0:Int)≤0),(by decide:(0:Int)≤65535),(by decide:0≤100000),(by decide:1≤100000)⟩ (.word x p)
 | coils p l g1 g2 =>
  exact rep_of ⟨(by decide:(0:Int)≤15),(by decide:(15:Int)≤255),(by decide:(0:Int)≤0),(by decide:(0:Int)≤255),nilW,p0,p1,by show (0:Int)≤(l.length:Int); omega,by show (l.length:Int)≤65535; omega,(by decide:0≤100000),(by decide:0≤100000)⟩ (.coils p (l.length:Int) (by omega) (by omega))
 | regs p l g1 g2 =>
  exact rep_of ⟨(by decide:(0:Int)≤16),(by decide:(16:Int)≤255),(by decide:(0:Int)≤0),(by decide:(0:Int)≤255),nilW,p0,p1,by show (0:Int)≤(l.length:Int); omega,by show (l.length:Int)≤65535; omega,(by decide:0≤100000),(by decide:0≤100000)⟩ (.regs p (l.length:Int) (by omega) (by omega))
 | swap p n t l g1 g2 g3 g4 =>
  obtain ⟨p,rfl⟩:=Int.eq_ofNat_of_zero_le (show 0≤p from p0)
  obtain ⟨n,rfl⟩:=Int.eq_ofNat_of_zero_le (show 0≤n by omega)
  have hc1:=(Bool.and_eq_true _ _ ▸ (show (rdH (p:Int) n && decide (t=272∧l.length=8∨t=288∧l.length=20))=true from hc):_∧_).1
  have hle:=rdH_le (p:=(p:Int)) (m:=n) (by omega) hc1
  have hl:((holdS s.2.2.1).drop p |>.take n).length=n:=by rw [List.length_take,List.length_drop]; omega
  exact rep_of (okR_plain (f:=23) (by decide) (by decide) (by decide) (fun x hx=>hhr x (List.mem_of_mem_drop (List.mem_of_mem_take hx))) (by show ((holdS s.2.2.1).drop p |>.take n).length≤_; omega)) (.words 23 _ (Or.inr (Or.inr rfl)) (by show 1≤((holdS s.2.2.1).drop p |>.take n).length; omega) (by show ((holdS s.2.2.1).drop p |>.take n).length≤125; omega))
theorem wroteS_ex (a:TAg) (p:Int) (w:List Int):(wroteS a p w).2=0∨(wroteS a p w).2=3∨(wroteS a p w).2=4:=by
 unfold wroteS
 split <;> split
 ·exact Or.inr (Or.inl rfl)
 ·split
  ·exact Or.inr (Or.inr rfl)
  ·exact Or.inl rfl
 ·exact Or.inr (Or.inl rfl)
 ·split
  ·exact Or.inr (Or.inr rfl)
  ·exact Or.inl rfl
theorem chk_t {a:TA} (h:¬ chkS a=false):chkS a=true:=by
 cases e:chkS a with
 | true=>rfl
 | false=>exact absurd e h
theorem servS_rep {s:TSl} (h:OkS s) {a:TA} (ha:OkA a) (hr:rightA a=true):Rep (servS s a).2:=by
 have hf:=right_f hr
 have ok:=servS_ok h ha hr
 unfold servS at ok ⊢
 split
 ·exact rep_wrong (by omega) hf.2 (by decide) (by decide)
 ·rename_i hc
  rw [if_neg hc] at ok
  have hc:=chk_t hc
  split
  ·rename_i q
   rw [if_pos q] at ok
   exact answS_rep ok ha hr hc
  ·rename_i q
   rw [if_neg q] at ok
   split
   ·exact answS_rep h ha hr hc
   ·rename_i q2
    rw [if_neg q2] at ok
    split
    ·rename_i q3
     have:=wroteS_ex s.2.2.1 (atW a) a.2.2.2.2.1
     exact rep_wrong (by omega) hf.2 (by omega) (by omega)
    ·rename_i q3
     rw [if_neg q3] at ok
     exact answS_rep ok ha hr hc
theorem cmd_eq {s:TSl} (h:OkS s) {a:TA} (ha:OkA a) (hr:rightA a=true) (hc:chkS a=true) {p:Int} (hp:p=272∨p=288) :
  cmdM s a p=some (if (wroteS s.2.2.1 p a.2.2.2.2.1).2 ≠ 0 then (s,(a.1,(wroteS s.2.2.1 p a.2.2.2.2.1).2,[],[],0,0),()) else (setA s (wroteS s.2.2.1 p a.2.2.2.2.1).1,answS (setA s (wroteS s.2.2.1 p a.2.2.2.2.1).1) a,())):=by
 have hf:=right_f hr
 have w4:∀ e,qh_ (a.1,e,())=some ((a.1,e,[],[],0,0),()):=fun e=>by rw [wrong_eq,rem128 (by omega) hf.2]
 have hok:=wroteS_ok h.a (p:=p) ha.w
 have fin:∀ g:TAg,OkG g->Option.bind (qz_ (setA s (mkAg g),a,())) (fun y_1=>some (setA s (mkAg g),y_1.1,()))=(some (setA s g,answS (setA s g) a,()):RS):=fun g hg=>by
  rw [mkAg_eq hg.hl hg.sl,sanswer_eq (s:=setA s g) ⟨h.u,h.l,hg,h.c⟩ ha hr hc]
  rfl
 unfold cmdM wroteS at *
 by_cases e:p=272
 ·rw [if_pos e] at hok
  rw [if_pos (q6_.2 e.symm),if_pos e,aread_eq' ha.w,Option.bind_some,amb2 (eqAs_refl _)]
  obtain ⟨r1,r2,r3⟩:=readC_rng ha.w
  dsimp only
  by_cases q1:(readC a.2.2.2.2.1).2 ≠ 0
  ·rw [if_pos (qj_.2 q1),if_pos q1,w4]
   rfl
  ·rw [if_neg q1] at hok
   rw [if_neg (fun x=>q1 (qj_.1 x)),if_neg q1,ado_eq h.a r3,Option.bind_some]
   dsimp only
   by_cases q2:(doS (ownA s.2.2.1) (readC a.2.2.2.2.1).1).2 ≠ 0
   ·rw [if_pos (qj_.2 q2),if_pos q2,w4]
    rfl
   ·rw [if_neg q2] at hok
    rw [if_neg (fun x=>q2 (qj_.1 x)),if_neg q2,fin _ hok]
    rfl
 ·have e2:p=288:=by omega
  rw [if_neg e] at hok
  rw [if_neg (fun x=>e (q6_.1 x).symm),if_pos (q6_.2 e2.symm),if_neg e,sread_eq ha.w,Option.bind_some,amb2 (eqAs_refl _)]
  dsimp only
  by_cases q1:(rdB a.2.2.2.2.1).2.2.2.2 ≠ 0
  ·rw [if_pos (qj_.2 q1),if_pos q1,w4]
   rfl
  ·rw [if_neg q1] at hok
   obtain ⟨r1,r2,r3,r4⟩:=rdB_rng ha.w (Classical.not_not.1 q1)
   rw [if_neg (fun x=>q1 (qj_.1 x)),if_neg q1,aput_eq h.a r2 r3,Option.bind_some]
   dsimp only
   by_cases q2:(putA (ownA s.2.2.1) (rdB a.2.2.2.2.1).1 (rdB a.2.2.2.2.1).2.1 (rdB a.2.2.2.2.1).2.2.1 (rdB a.2.2.2.2.1).2.2.2.1).2 ≠ 0
   ·rw [if_pos (qj_.2 q2),if_pos q2,w4]
    rfl
   ·rw [if_neg q2] at hok
    rw [if_neg (fun x=>q2 (qj_.1 x)),if_neg q2,fin _ hok]
    rfl
theorem cop_eq {s:TSl} (h:OkS s) {a:TA} (ha:OkA a) (hr:rightA a=true) (hc:chkS a=true) (hf:a.1=5∨a.1=15):copM s a=some (setC s (cpy s.2.2.2 a.2.1.toNat a.2.2.2.2.2),answS (setC s (cpy s.2.2.2 a.2.1.toNat a.2.2.2.2.2)) a,()):=by
 have ok:=servS_ok h ha hr
 unfold servS at ok
 rw [if_neg (by rw [hc]; decide),if_pos hf] at ok
 have p0:=ha.at0
 have p1:=ha.at1
 have hcl:=h.c
 have lb:=ha.lb
 have hle:=hc
 unfold chkS at hle
 rw [if_neg (by omega),if_neg (by omega),if_neg (by omega),if_pos hf,decide_eq_true_eq] at hle
 unfold copM
 have e1:add .i64 (cvt .i64 a.2.1) (Int.ofNat a.2.2.2.2.2.length)=a.2.1 + (a.2.2.2.2.2.length:Int):=by rw [cvt64 (by omega) (by omega),q1_,add64 (by omega) (by omega)]
 rw [e1,if_pos (q19_.2 (by rw [q1_]; omega)),q9_ (q1f_.2 p0),q9_ (q19_.2 (by rw [q1_]; omega)),q9_ (q19_.2 (Int.le_refl _)),q9_ (q19_.2 (by rw [q1_]; omega)),cpy_code (by rw [q1_]; omega),sanswer_eq ok ha hr hc]
 rfl
theorem mid_serv {s:TSl} (h:OkS s) {a:TA} (ha:OkA a) (hr:rightA a=true):midS (if chkS a=true then 0 else 2) s a=some ((servS s a).1,(servS s a).2,()):=by
 have hf:=right_f hr
 have w4:∀ e,qh_ (a.1,e,())=some ((a.1,e,[],[],0,0),()):=fun e=>by rw [wrong_eq,rem128 (by omega) hf.2]
 rw [mid_eq h.a.hl h.a.sl]
 unfold servS
 cases hc:chkS a with
 | false =>
  simp only [Bool.false_eq_true,if_false,if_true]
  rw [if_pos (show nei 2 0=true by decide),w4]
  rfl
 | true =>
  simp only [if_true,Bool.true_eq_false,if_false]
  rw [if_neg (show ¬ nei 0 0=true by decide)]
  by_cases q5:a.1=5
  ·rw [if_pos (q6_.2 q5),cop_eq h ha hr hc (Or.inl q5),if_pos (Or.inl q5)]
  ·rw [if_neg (fun e=>q5 (q6_.1 e))]
   by_cases q15:a.1=15
   ·rw [if_pos (q6_.2 q15),cop_eq h ha hr hc (Or.inr q15),if_pos (Or.inr q15)]
   ·rw [if_neg (fun e=>q15 (q6_.1 e)),if_neg (show ¬ (a.1=5∨a.1=15) by omega)]
    by_cases q0:a.2.2.2.2.1.length=0
    ·rw [if_pos (q6_.2 (by rw [q1_]; omega)),if_pos q0,sanswer_eq h ha hr hc]
     rfl
    ·rw [if_neg (fun e=>q0 (by have:=q6_.1 e; rw [q1_] at this; omega)),if_neg q0]
     have hp:atW a=272∨atW a=288:=by
      have hc2:=hc
      unfold chkS at hc2
      have hc3:¬ (a.1=1∨a.1=2∨a.1=3∨a.1=4):=by
       intro e
       apply q0
       cases rightA_RA hr with
       | bits f p n hf=>rfl
       | words f p n hf=>rfl
       | coil p b=>rfl
       | word p x=>exact absurd (show (6:Int)=1∨(6:Int)=2∨(6:Int)=3∨(6:Int)=4 from e) (by decide)
       | coils p l=>rfl
       | regs p l=>exact absurd (show (16:Int)=1∨(16:Int)=2∨(16:Int)=3∨(16:Int)=4 from e) (by decide)
       | swap p n t l=>exact absurd (show (23:Int)=1∨(23:Int)=2∨(23:Int)=3∨(23:Int)=4 from e) (by decide)
      rw [if_neg (by omega),if_neg (by omega),if_neg (by omega),if_neg (by omega)] at hc2
      unfold atW
      by_cases q23:a.1=23
      ·rw [if_pos q23,Bool.and_eq_true,decide_eq_true_eq] at hc2
       rw [if_pos q23]
       omega
      ·rw [if_neg q23,decide_eq_true_eq] at hc2
       rw [if_neg q23]
       omega
     have hcm:=cmd_eq h ha hr hc hp
     have e2:(if eqi a.1 23=true then cmdM s a a.2.2.2.1 else cmdM s a a.2.1)=cmdM s a (atW a):=by
      unfold atW
      by_cases q23:a.1=23
      ·rw [if_pos (q6_.2 q23),if_pos q23]
      ·rw [if_neg (fun e=>q23 (q6_.1 e)),if_neg q23]
     rw [e2,hcm]
     split <;> rfl
def lookS (b:List Int):TA×Int:=((qgd_ (b,())).map fun y=>(y.1,y.2.1)).getD (zA,1)
theorem look_S {b:List Int} (hb:∀ x ∈ b,0≤x∧x≤255):qgd_ (b,())=some ((lookS b).1,(lookS b).2,()) ∧
  (((lookS b).2=0∧OkA (lookS b).1∧rightA (lookS b).1=true∧toS (askB (lookS b).1)=toS b)∨(((lookS b).2=1∨(lookS b).2=3)∧(lookS b).1=(b.headD 0,0,0,0,[],[]))):=by
 match b with
 | []=>exact ⟨rfl,Or.inr ⟨Or.inl rfl,rfl⟩⟩
 | f::r =>
  obtain ⟨a,e,h1,h2⟩:=look_any hb
  have:lookS (f::r)=(a,e):=by unfold lookS; rw [h1]; rfl
  rw [this]
  exact ⟨h1,h2⟩
def fullS (s:TSl) (b:List Int):TSl×TR:=if (lookS b).2 ≠ 0 then (s,(rem (b.headD 0) 128,(lookS b).2,[],[],0,0)) else servS s (lookS b).1
theorem head_rng {b:List Int} (hb:∀ x ∈ b,0≤x∧x≤255):0≤b.headD 0∧b.headD 0≤255:=by
 match b with
 | []=>exact ⟨by decide,by decide⟩
 | f::r=>exact hb f (List.mem_cons_self ..)
theorem rem_rng {x:Int} (h0:0≤x):0≤rem x 128∧rem x 128 < 128:=by
 unfold rem
 rw [Int.tmod_eq_emod_of_nonneg h0]
 omega
theorem fullS_ok {s:TSl} (h:OkS s) {b:List Int} (hb:∀ x ∈ b,0≤x∧x≤255):OkS (fullS s b).1∧Rep (fullS s b).2:=by
 unfold fullS
 obtain ⟨_,h2⟩:=look_S hb
 have hh:=rem_rng (head_rng hb).1
 split
 ·refine ⟨h,?_⟩
  exact rep_wrong hh.1 hh.2 (by omega) (by omega)
 ·rename_i q
  rcases h2 with ⟨_,h3,h4,_⟩ | ⟨h3,_⟩
  ·exact ⟨servS_ok h h3 h4,servS_rep h h3 h4⟩
  ·omega
theorem sown_r_eq {s:TSl} (h:OkS s):qlh_ (s,())=some (s.1,s.2.1,s.2.2.1.1,s.2.2.1.2.1.1,s.2.2.1.2.1.2,s.2.2.1.2.2.1,s.2.2.1.2.2.2.1,s.2.2.1.2.2.2.2.1,s.2.2.1.2.2.2.2.2.1.1,
  s.2.2.1.2.2.2.2.2.1.2.1.getD 0 false,s.2.2.1.2.2.2.2.2.1.2.1.getD 1 false,s.2.2.1.2.2.2.2.2.1.2.1.getD 2 false,s.2.2.1.2.2.2.2.2.1.2.1.getD 3 false,s.2.2.1.2.2.2.2.2.1.2.1.getD 4 false,s.2.2.1.2.2.2.2.2.1.2.1.getD 5 false,s.2.2.1.2.2.2.2.2.1.2.1.getD 6 false,s.2.2.1.2.2.2.2.2.1.2.1.getD 7 false,
  (s.2.2.1.2.2.2.2.2.1.2.2.getD 0 (0,[])).1,(s.2.2.1.2.2.2.2.2.1.2.2.getD 0 (0,[])).2,(s.2.2.1.2.2.2.2.2.1.2.2.getD 1 (0,[])).1,(s.2.2.1.2.2.2.2.2.1.2.2.getD 1 (0,[])).2,(s.2.2.1.2.2.2.2.2.1.2.2.getD 2 (0,[])).1,(s.2.2.1.2.2.2.2.2.1.2.2.getD 2 (0,[])).2,(s.2.2.1.2.2.2.2.2.1.2.2.getD 3 (0,[])).1,(s.2.2.1.2.2.2.2.2.1.2.2.getD 3 (0,[])).2,(s.2.2.1.2.2.2.2.2.1.2.2.getD 4 (0,[])).1,(s.2.2.1.2.2.2.2.2.1.2.2.getD 4 (0,[])).2,(s.2.2.1.2.2.2.2.2.1.2.2.getD 5 (0,[])).1,(s.2.2.1.2.2.2.2.2.1.2.2.getD 5 (0,[])).2,(s.2.2.1.2.2.2.2.2.1.2.2.getD 6 (0,[])).1,(s.2.2.1.2.2.2.2.2.1.2.2.getD 6 (0,[])).2,(s.2.2.1.2.2.2.2.2.1.2.2.getD 7 (0,[])).1,(s.2.2.1.2.2.2.2.2.1.2.2.getD 7 (0,[])).2,
  s.2.2.1.2.2.2.2.2.2,s.2.2.2,()):=by
 have hw:∀ i,((s.2.2.1.2.2.2.2.2.1.2.2.getD i (0,[])).2).length≤1000000:=fun i=>by
  rw [List.getD_eq_getElem?_getD]
  cases hx:s.2.2.1.2.2.2.2.2.1.2.2[i]? with
  | none=>exact Nat.zero_le _
  | some x=>have:=h.a.bb x (List.mem_of_getElem? hx); show x.2.length≤_; omega
 have hc:=h.c
 have hbl:=h.a.bl
 show qkc_ s=_
 unfold qkc_
 rw [cloneBr_eq (by omega),Option.bind_some,q5c_ (by omega),Option.bind_some,q5c_ (hw 0),Option.bind_some,q5c_ (hw 1),Option.bind_some,q5c_ (hw 2),Option.bind_some,q5c_ (hw 3),Option.bind_some,q5c_ (hw 4),Option.bind_some,q5c_ (hw 5),Option.bind_some,q5c_ (hw 6),Option.bind_some,q5c_ (hw 7),Option.bind_some]
theorem serve_full {s:TSl} (h:OkS s) {b:List Int} (hb:∀ x ∈ b,0≤x∧x≤255):q5f_ (s,b,())=some ((fullS s b).1,repB (fullS s b).2,()):=by
 obtain ⟨ok,rp⟩:=fullS_ok h hb
 obtain ⟨h1,h2⟩:=look_S hb
 show qky_ s b=_
 unfold qky_
 rw [sown_r_eq h,Option.bind_some]
 have key:Option.bind (qgd_ (b,())) (fun y=>if eqi y.2.1 0=true then Option.bind (q5e_ ()) fun y_1=>Option.bind (qbo_ (y_1.1,y.1,())) fun y_2=>midS y_2.1 s y.1 else midS y.2.1 s y.1)=some ((fullS s b).1,(fullS s b).2,()):=by
  rw [h1,Option.bind_some]
  dsimp only
  unfold fullS
  rcases h2 with ⟨e,ha,hr,_⟩ | ⟨e,e2⟩
  ·rw [if_pos (q6_.2 e),space_eq,Option.bind_some,check_eq ha hr,Option.bind_some,if_neg (show ¬ ((lookS b).2 ≠ 0) by omega)]
   exact mid_serv h ha hr
  ·have hne:(lookS b).2 ≠ 0:=by omega
   rw [if_neg (fun x=>hne (q6_.1 x)),if_pos hne,mid_eq h.a.hl h.a.sl,if_pos (qj_.2 hne),e2,wrong_eq]
   rfl
 refine (congrArg (fun z=>Option.bind z fun y=>Option.bind (q9a_ (y.2.1,())) fun y_1=>(some (y.1,y_1.1,()):Option (As q8m_.rs))) key).trans ?_
 rw [Option.bind_some,rep_bytes rp]
 rfl
end Go.Proofs.Lx
end
section
namespace Go.Proofs.Lx
open Go Ev Sx
set_option maxRecDepth 100000
theorem awake21:qbf_ ()=some (true,()):=by kernel_rfl
end Go.Proofs.Lx
end
section
namespace Go.Proofs.Lx
open Go Ev Sx Pl
set_option maxRecDepth 100000
def bank64 (b:List Int):List Int:=b.take 64++List.replicate (64 - b.length) 0
theorem bank64_len (b:List Int):(bank64 b).length=64:=by
 unfold bank64
 rw [List.length_append,List.length_take,List.length_replicate]
 omega
theorem bank64_rng {b:List Int} (h:∀ x ∈ b,0≤x∧x≤65535):∀ x ∈ bank64 b,0≤x∧x≤65535:=by
 intro x hx
 rcases List.mem_append.1 hx with e | e
 ·exact h x (List.mem_of_mem_take e)
 ·have:=List.eq_of_mem_replicate e
  omega
theorem lbank_eq (b:List Int):qvr_ (b,())=some (bank64 b,()):=by
 show qtg_ b=_
 unfold qtg_ bank64
 refine congrArg (fun x=>some (b.take 64++x,())) ?_
 rw [List.drop_replicate,List.length_take,Nat.zero_add]
 congr 1
 omega
def begS (link:Int) (b:List Int) (ticks:Int):TSl:=(9,1 + link % 2,zAg (bank64 b) (1 + ticks % 20),List.replicate 16 false)
theorem begS_ok {link ticks:Int} {b:List Int} (hb:∀ x ∈ b,0≤x∧x≤65535):OkS (begS link b ticks):=by
 refine ⟨⟨(by decide:(1:Int)≤9),(by decide:(9:Int)≤247)⟩,?_,ok_free (bank64_len b) (bank64_rng hb) ⟨by decide,by decide⟩ ⟨by omega,by omega⟩,rfl⟩
 show 1 + link % 2=1∨1 + link % 2=2
 omega
theorem begun_eq {link ticks:Int} {b:List Int} (h1:0≤link) (h2:0≤ticks):qlf_ (link,b,ticks,())=some (begS link b ticks,true,()):=by
 obtain ⟨e1,e2,_⟩:=beg_rng (link:=link) (timeout:=ticks) (retries:=0) h1 h2 (by decide)
 show qkh_ link b ticks=_
 unfold qkh_
 rw [lbank_eq,Option.bind_some,e1,e2]
 dsimp only
 have hl:=bank64_len b
 have hn:qj6_ (9,1 + link % 2,bank64 b,1 + ticks % 20,())=some (begS link b ticks,0,()):=by
  show qrg_ 9 (1 + link % 2) (bank64 b) (1 + ticks % 20)=_
  unfold qrg_
  have hr:qdn_ (9,1 + link % 2,())=some (true,()):=by
   show qde_ 9 (1 + link % 2)=_
   unfold qde_
   rw [if_pos (by decide),if_pos (by decide)]
   by_cases e:1 + link % 2=1
   ·rw [if_pos (q6_.2 e)]
   ·rw [if_neg (fun x=>e (q6_.1 x)),q6_.2 (by omega)]
  rw [hr,Option.bind_some,if_neg (by decide),anew_eq (by omega),if_pos hl,if_pos (by omega),Option.bind_some]
  rfl
 rw [hn,Option.bind_some,if_pos (by rfl)]
 refine congrArg (fun x=>some (begS link b ticks,x,())) ?_
 show eqi (Int.ofNat (bank64 b).length) 64=true
 rw [hl]
 rfl
end Go.Proofs.Lx
end
section
namespace Go.Proofs.Lx
open Go Ev Sx Pl
set_option maxRecDepth 100000
theorem slown_eq {s:TSl} (h:OkS s):qb8_ (s,())=some (s,()):=by
 have hc:=h.c
 have hbl:=h.a.bl
 obtain ⟨u,l,⟨bk,ls,ph,tx,la,⟨st,hv,bs⟩,tk⟩,co⟩:=s
 have hsl:bs.length=8:=h.a.sl
 have hbb:∀ b ∈ bs,b.2.length≤1000:=h.a.bb
 show qqd_ qfm_ (u,l,(bk,ls,ph,tx,la,(st,hv,bs),tk),co)=_
 unfold qqd_
 dsimp only at hc hbl ⊢
 rw [cloneB_eq (by omega),Option.bind_some,q5c_ (by omega),Option.bind_some]
 show qfm_ 0 0 0 [(u,l,(bk,ls,ph,tx,la,(st,hv,bs),tk),co)] _=_
 unfold qfm_
 refine loop_dt (N:=8) (mk:=fun i=>(0,0,(i:Int),[(u,l,(bk,ls,ph,tx,la,(st,hv,bs),tk),co)],_)) ?_ ?_ 8 0 _ (by omega) (by omega)
 ·intro self i hi
  show qf1_ _ 0 0 (i:Int) [(u,l,(bk,ls,ph,tx,la,(st,hv,bs),tk),co)] _=_
  obtain ⟨b,hb⟩:=get_of (xs:=bs) (i:=i) (by omega)
  have l8:lt (i:Int) 8=true:=qa_.2 (by omega)
  have g0:ge (i:Int) 0=true:=q1f_.2 (by omega)
  have hset:bs.set i (b.1,b.2)=bs:=by
   apply List.ext_getElem?
   intro j
   by_cases e:i=j
   ·subst e
    rw [List.getElem?_set_self (by omega),hb]
   ·rw [List.getElem?_set_ne e]
  unfold qf1_
  rw [if_pos l8,q9_ g0,q9_ l8,q3p_,Option.bind_some]
  dsimp only
  rw [qp_ hb,Option.bind_some,q5c_ (by have:=hbb b (List.mem_of_getElem? hb); omega),Option.bind_some,Option.bind_some]
  dsimp only
  rw [qp_ hb,Option.bind_some,q1l_ (by omega),Int.toNat_natCast,hset]
  rfl
 ·intro self
  show qf1_ _ 0 0 (8:Int) [(u,l,(bk,ls,ph,tx,la,(st,hv,bs),tk),co)] _=_
  unfold qf1_
  rw [if_neg (by decide)]
  rfl
def tickS (s:TSl):TSl:=setA s (tickA (ownA s.2.2.1))
def bootS (s:TSl):TSl:=(s.1,s.2.1,bootA (ownA s.2.2.1),List.replicate 16 false)
theorem stick_eq {s:TSl} (h:OkS s):qrk_ (s,())=some (tickS s,()):=by
 show qmk_ s=_
 unfold qmk_
 rw [slown_eq h,Option.bind_some,atick_eq h.a]
 rfl
theorem sboot_eq {s:TSl} (h:OkS s):qrm_ (s,())=some (bootS s,()):=by
 show qnr_ s=_
 unfold qnr_
 rw [slown_eq h,Option.bind_some,aboot_eq h.a]
 rfl
theorem tickS_ok {s:TSl} (h:OkS s):OkS (tickS s):=⟨h.u,h.l,h.a.own.tickA,h.c⟩
theorem bootS_ok {s:TSl} (h:OkS s):OkS (bootS s):=⟨h.u,h.l,h.a.own.bootA,rfl⟩
def takeS (s:TSl) (f:List Int):TSl×List Int :=
 if s.2.1=2 then
  if (mbapP f).2 ≠ 0∨(mbapP f).1.2.1 ≠ s.1 then (s,[]) else ((fullS s (mbapP f).1.2.2).1,mbapV (mbapP f).1.1 (mbapP f).1.2.1 (repB (fullS s (mbapP f).1.2.2).2))
 else
  if (rtuV f).2.2 ≠ 0∨(rtuV f).1 ≠ s.1 then (s,[]) else ((fullS s (rtuV f).2.1).1,putV ((rtuV f).1::repB (fullS s (rtuV f).2.1).2))
theorem rep_len {r:TR} (h:Rep r):2≤(repB r).length∧(repB r).length≤253:=repB_len h.rr
theorem mbapP_bytes {f:List Int} (hf:∀ x ∈ f,0≤x∧x≤255):∀ x ∈ (mbapP f).1.2.2,0≤x∧x≤255:=by
 intro x hx
 unfold mbapP at hx
 split at hx
 ·rename_i b0 b1 b2 b3 b4 b5 b6 pdu
  have hp:∀ y ∈ pdu,0≤y∧y≤255:=fun y hy=>hf y (by simp [hy])
  revert hx
  repeat' split
  all_goals first | exact fun hx=>hp x hx | (intro hx; cases hx)
 ·cases hx
theorem rtuV_bytes {f:List Int} (hf:∀ x ∈ f,0≤x∧x≤255):∀ x ∈ (rtuV f).2.1,0≤x∧x≤255:=by
 intro x hx
 unfold rtuV at hx
 split at hx
 ·cases hx
 ·split at hx
  ·cases hx
  ·rename_i h0
   have hc:∀ y ∈ (cutV f).1,0≤y∧y≤255:=by
    intro y hy
    unfold cutV at hy
    split at hy
    ·cases hy
    ·split at hy
     ·exact hf y (List.mem_of_mem_take hy)
     ·cases hy
   split at hx
   ·cases hx
   ·rename_i a r he
    rw [he] at hc
    split at hx
    ·exact hc x (List.mem_cons_of_mem _ hx)
    ·cases hx
theorem stake_eq {s:TSl} (h:OkS s) {f:List Int} (hf:∀ x ∈ f,0≤x∧x≤255) (hl:f.length≤100000):q9f_ (s,f,())=some ((takeS s f).1,(takeS s f).2,()):=by
 have hu:=h.u
 show qo7_ qag_ qd7_ s f=_
 unfold qo7_ takeS
 by_cases hk:s.2.1=2
 ·rw [if_pos (q6_.2 hk),if_pos hk,mparse_eq hl hf,Option.bind_some]
  have hb:=mbapP_bytes hf
  have K:∀ t z,qag_ 0 0 t [s] [z] (mbapP f).1=some (if t=true then (s,[],()) else ((fullS s (mbapP f).1.2.2).1,if (mbapP f).1.2.1=s.1 then mbapV (mbapP f).1.1 (mbapP f).1.2.1 (repB (fullS s (mbapP f).1.2.2).2) else ((qag_ 0 0 t [s] [z] (mbapP f).1).getD (s,[],())).2.1,())):=fun t z=>by
   cases t with
   | true =>
    show qd8_ 0 0 true [s] [z] (mbapP f).1=_
    unfold qd8_
    rw [if_pos rfl,q3p_,Option.bind_some,slown_eq h]
    rfl
   | false =>
    obtain ⟨ok,rp⟩:=fullS_ok h hb
    have hlen:=rep_len rp
    have e:qag_ 0 0 false [s] [z] (mbapP f).1=some ((fullS s (mbapP f).1.2.2).1,mbapV (mbapP f).1.1 (mbapP f).1.2.1 (repB (fullS s (mbapP f).1.2.2).2),()):=by
     show qd8_ 0 0 false [s] [z] (mbapP f).1=_
     unfold qd8_
     rw [if_neg (by decide),q3p_,Option.bind_some,serve_full h hb,Option.bind_some,Option.bind_some]
     dsimp only
     rw [q1jz_ (by omega) hlen.2]
     rfl
    rw [e]
    simp
  by_cases h0:(mbapP f).2=0
  ·rw [if_neg (fun e=>qj_.1 e h0)]
   by_cases h1:(mbapP f).1.2.1=s.1
   ·have hn:nei (mbapP f).1.2.1 s.1=false:=by
     rw [Bool.eq_false_iff]
     exact fun e=>qj_.1 e h1
    dsimp only
    rw [hn,K,if_neg (by decide),if_pos h1,if_neg (by rintro (e | e); exact e h0; exact e h1)]
   ·dsimp only
    rw [qj_.2 h1,K,if_pos rfl,if_pos (Or.inr h1)]
  ·rw [if_pos (qj_.2 h0)]
   dsimp only
   rw [K,if_pos rfl,if_pos (Or.inl h0)]
 ·rw [if_neg (fun e=>hk (q6_.1 e)),if_neg hk,rtup_eq,Option.bind_some]
  have hb:=rtuV_bytes hf
  have Kt:∀ z,qd7_ 0 0 (rtuV f).1 (rtuV f).2.1 true [s] [z]=some (s,[],()):=fun z=>by
   show qcv_ 0 0 (rtuV f).1 (rtuV f).2.1 true [s] [z]=_
   unfold qcv_
   rw [if_pos rfl,q3p_,Option.bind_some,slown_eq h]
   rfl
  have Kf:∀ z,(rtuV f).1=s.1->qd7_ 0 0 (rtuV f).1 (rtuV f).2.1 false [s] [z]=some ((fullS s (rtuV f).2.1).1,putV ((rtuV f).1::repB (fullS s (rtuV f).2.1).2),()):=fun z hz=>by
   obtain ⟨ok,rp⟩:=fullS_ok h hb
   have hlen:=rep_len rp
   show qcv_ 0 0 (rtuV f).1 (rtuV f).2.1 false [s] [z]=_
   unfold qcv_
   rw [if_neg (by decide),q3p_,Option.bind_some,serve_full h hb,Option.bind_some,Option.bind_some]
   dsimp only
   rw [rtub_eq (by omega) (by omega) (by omega) hlen.2]
   rfl
  by_cases h0:(rtuV f).2.2=0
  ·rw [if_neg (fun e=>qj_.1 e h0)]
   by_cases h1:(rtuV f).1=s.1
   ·have hn:nei (rtuV f).1 s.1=false:=by
     rw [Bool.eq_false_iff]
     exact fun e=>qj_.1 e h1
    dsimp only
    rw [hn,Kf _ h1,if_neg (by rintro (e | e); exact e h0; exact e h1)]
   ·dsimp only
    rw [qj_.2 h1,Kt,if_pos (Or.inr h1)]
  ·rw [if_pos (qj_.2 h0)]
   dsimp only
   rw [Kt,if_pos (Or.inl h0)]
theorem takeS_ok {s:TSl} (h:OkS s) {f:List Int} (hf:∀ x ∈ f,0≤x∧x≤255):OkS (takeS s f).1:=by
 unfold takeS
 split
 ·split
  ·exact h
  ·exact (fullS_ok h (mbapP_bytes hf)).1
 ·split
  ·exact h
  ·exact (fullS_ok h (rtuV_bytes hf)).1
end Go.Proofs.Lx
end
section
namespace Go.Proofs.Lx
open Go Ev Sx Pl
set_option maxRecDepth 100000
def cmdA (c:TCm):TA:=(23,256,8,272,[c.1,c.2.1,c.2.2.1 / 65536,c.2.2.1 % 65536,c.2.2.2.1,c.2.2.2.2 / 65536,c.2.2.2.2 % 65536,0],[])
structure OkC (c:TCm):Prop where
 o:0≤c.1∧c.1≤65535
 v:0≤c.2.1∧c.2.1≤255
 t:0≤c.2.2.1∧c.2.2.1≤4294967295
 n:0≤c.2.2.2.1∧c.2.2.2.1≤65535
 k:0≤c.2.2.2.2∧c.2.2.2.2≤4294967295
theorem cmdA_ok {c:TCm} (h:OkC c):OkA (cmdA c)∧rightA (cmdA c)=true∧chkS (cmdA c)=true:=by
 have h1:=h.o
 have h2:=h.v
 have h3:=h.t
 have h4:=h.n
 have h5:=h.k
 refine ⟨⟨(by decide:(0:Int)≤23),(by decide:(23:Int)≤255),(by decide:(0:Int)≤256),(by decide:(256:Int)≤65535),(by decide:(0:Int)≤8),(by decide:(8:Int)≤65535),(by decide:(0:Int)≤272),(by decide:(272:Int)≤65535),?_,(by decide:8≤100000),(by decide:0≤100000)⟩,rfl,?_⟩
 ·intro x hx
  simp only [cmdA,List.mem_cons,List.not_mem_nil,or_false] at hx
  rcases hx with e | e | e | e | e | e | e | e <;> omega
 ·show (rdH 256 8 && decide ((272:Int)=272∧8=8∨(272:Int)=288∧8=20))=true
  decide
end Go.Proofs.Lx
end
section
namespace Go.Proofs.Lx
open Go Ev Sx Pl
set_option maxRecDepth 100000
theorem bsame_z1 {x y:TBlk} (h:x.2.length≤1000000):qew_ (x,y,())=some (decide (x=y),()):=by
 show qi6_ x y=_
 unfold qi6_
 by_cases e:x.1=y.1
 ·rw [if_pos (q6_.2 e),equalW_eq h,Option.bind_some]
  refine congrArg (fun b=>some (b,())) ?_
  rw [decide_eq_decide]
  exact ⟨fun h=>Prod.ext e h,fun h=>by rw [h]⟩
 ·rw [if_neg (fun h=>e (q6_.1 h)),decide_eq_false (fun h=>e (by rw [h]))]
theorem bsame_eq {a b:List TBlk} (hl:a.length≤1000000) (hw:∀ x ∈ a,x.2.length≤1000000):qto_ (a,b,())=some (decide (a=b),()):=by
 have hE:q3w_ (a,b,())=some (decide (a=b),()):=by
  show q4r_ q38_ a b=_
  unfold q4r_
  by_cases hl2:a.length=b.length
  ·rw [if_neg (by rw [qj_,q1_,q1_]; omega)]
   unfold q38_
   have hz:(a.zip b).length=a.length:=by rw [List.length_zip]; omega
   rw [<- goL_eq (ne:=fun x y=>!decide (x=y)) (fun _ _=>rfl) a b hl2]
   refine loop_go (xs:=a.zip b) (mk:=fun i _=>(b,a,Int.ofNat a.length,(i:Int))) ?_ ?_ a.length 0 () _ (by rw [hz]; omega) (by omega)
   ·intro self i acc x hx
    have hi:=(List.getElem?_eq_some_iff.1 hx).1
    obtain ⟨h1,h2⟩:=zip_at hl2 hx
    show q2b_ _ b a (Int.ofNat a.length) (i:Int)=_
    unfold q2b_
    rw [if_pos (by rw [qa_,q1_]; omega),qp_ h1,Option.bind_some,qp_ h2,Option.bind_some,bsame_z1 (hw _ (List.mem_of_getElem? h1)),Option.bind_some,q1l_ (by omega)]
   ·intro self acc
    show q2b_ _ b a (Int.ofNat a.length) (((a.zip b).length:Nat):Int)=_
    unfold q2b_
    rw [if_neg (by rw [qa_,q1_]; omega)]
  ·rw [if_pos (by rw [qj_,q1_,q1_]; omega),decide_eq_false (fun e=>hl2 (by rw [e]))]
 show qpt_ a b=_
 unfold qpt_
 rw [hE]
 rfl
theorem nz_of_blk:∀ {hv:List Bool} {b1 b2:List TBlk},b1.length=hv.length->b2.length=hv.length->blkS hv b1=blkS hv b2->nzB hv b1=nzB hv b2
 | [],_,_,_,_,_=>rfl
 | h::r,[],_,e,_,_=>by simp at e
 | h::r,_::_,[],_,e,_=>by simp at e
 | h::r,x::p,y::q,e1,e2,e=>by
  have ih:=nz_of_blk (hv:=r) (b1:=p) (b2:=q) (by simpa using e1) (by simpa using e2)
  unfold blkS nzB at *
  rw [List.zip_cons_cons,List.zip_cons_cons,List.filter_cons,List.filter_cons] at e
  rw [List.zipWith_cons_cons,List.zipWith_cons_cons]
  cases h with
  | true =>
   rw [if_pos rfl,if_pos rfl,List.map_cons,List.map_cons] at e
   have e':=List.cons.inj e
   have e1:x=y:=e'.1
   rw [ih e'.2,e1]
  | false=>rw [ih e]; rfl
theorem ssame_eq {a b:TStg} (h1:a.2.1.length=8) (h2:a.2.2.length=8) (h3:b.2.1.length=8) (h4:b.2.2.length=8) (hw:∀ x ∈ a.2.2,x.2.length≤1000) (hw2:∀ x ∈ b.2.2,x.2.length≤1000) :
  qqx_ (a,b,())=some (decide ((a.1,a.2.1,nzB a.2.1 a.2.2)=(b.1,b.2.1,nzB b.2.1 b.2.2)),()):=by
 have sa:=sblocks_eq h1 h2 hw
 have sb:=sblocks_eq h3 h4 hw2
 have hbl:(blkS a.2.1 a.2.2).length≤8:=by have:=blkS_le (hv:=a.2.1) (bs:=a.2.2); omega
 have hbw:∀ x ∈ blkS a.2.1 a.2.2,x.2.length≤1000000:=fun x hx=>by have:=hw x (blkS_mem hx); omega
 obtain ⟨st,hv,bs⟩:=a
 obtain ⟨st',hv',bs'⟩:=b
 dsimp only at h1 h2 h3 h4 sa sb hbl hbw ⊢
 show qmw_ (st,hv,bs) (st',hv',bs')=_
 unfold qmw_
 by_cases e1:st=st'
 ·rw [if_pos (q6_.2 e1)]
  dsimp only
  have e8:((eqb (List.getD hv 0 false) (List.getD hv' 0 false) && (eqb (List.getD hv 1 false) (List.getD hv' 1 false) && (eqb (List.getD hv 2 false) (List.getD hv' 2 false) && (eqb (List.getD hv 3 false) (List.getD hv' 3 false) && (eqb (List.getD hv 4 false) (List.getD hv' 4 false) && (eqb (List.getD hv 5 false) (List.getD hv' 5 false) && (eqb (List.getD hv 6 false) (List.getD hv' 6 false) && (eqb (List.getD hv 7 false) (List.getD hv' 7 false) && true))))))))=true) ↔ hv=hv':=by
   simp only [Bool.and_eq_true,eqb_iff,and_true]
   constructor
   ·rintro ⟨c0,c1,c2,c3,c4,c5,c6,c7⟩
    rw [<- getD8 (z:=false) h1,<- getD8 (z:=false) h3,c0,c1,c2,c3,c4,c5,c6,c7]
   ·intro e
    rw [e]
    exact ⟨rfl,rfl,rfl,rfl,rfl,rfl,rfl,rfl⟩
  by_cases e2:hv=hv'
  ·subst e1
   subst e2
   rw [if_pos (e8.2 rfl),sa,Option.bind_some,sb,Option.bind_some]
   dsimp only
   rw [bsame_eq (by omega) hbw,Option.bind_some]
   refine congrArg (fun b=>some (b,())) ?_
   rw [decide_eq_decide]
   constructor
   ·intro e
    rw [nz_of_blk (by omega) (by omega) e]
   ·intro e
    have e:=(Prod.mk.inj (Prod.mk.inj e).2).2
    rw [<- blkS_nz hv bs,<- blkS_nz hv bs',e]
  ·rw [if_neg (fun e=>e2 (e8.1 e)),decide_eq_false (fun e=>e2 (Prod.mk.inj (Prod.mk.inj e).2).1)]
 ·rw [if_neg (fun e=>e1 (q6_.1 e)),decide_eq_false (fun e=>e1 (Prod.mk.inj e).1)]
instance dBk:DecidableEq TBlk:=inferInstance
instance dSt1:DecidableEq (List Bool×List TBlk):=inferInstance
instance dSt:DecidableEq TStg:=inferInstance
instance dAg1:DecidableEq (TStg×Int):=inferInstance
instance dAg2:DecidableEq (Int×TStg×Int):=inferInstance
instance dAg3:DecidableEq (Int×Int×TStg×Int):=inferInstance
instance dAg4:DecidableEq (Int×Int×Int×TStg×Int):=inferInstance
instance dAg5:DecidableEq (TLs×Int×Int×Int×TStg×Int):=inferInstance
instance dAg:DecidableEq TAg:=inferInstance
instance dSl1:DecidableEq (TAg×List Bool):=inferInstance
instance dSl:DecidableEq TSl:=inferInstance
theorem asame_eq {a b:TAg} (h1:SzA a) (h2:SzA b):qps_ (a,b,())=some (decide (ownA a=ownA b),()):=by
 have hs:=ssame_eq h1.hv h1.bs h2.hv h2.bs h1.bw h2.bw
 have hbk:=h1.bk
 obtain ⟨bk,⟨lo,lf⟩,ph,tx,la,⟨st,hv,bs⟩,tk⟩:=a
 obtain ⟨bk',⟨lo',lf'⟩,ph',tx',la',⟨st',hv',bs'⟩,tk'⟩:=b
 dsimp only at hs hbk
 show qnh_ (bk,(lo,lf),ph,tx,la,(st,hv,bs),tk) (bk',(lo',lf'),ph',tx',la',(st',hv',bs'),tk')=_
 unfold qnh_
 rw [equalW_eq (show bk.length≤1000000 by omega),Option.bind_some]
 dsimp only
 rw [hs]
 simp only [Option.bind_some]
 rw [if_dec (p:=bk=bk') decide_eq_true_iff fun _=>if_dec (p:=lo=lo'∧lf=lf') (by simp only [Bool.and_eq_true,q6_,and_true]) fun _=>if_dec (p:=ph=ph') q6_ fun _=>if_dec (p:=tx=tx') q6_ fun _=>if_dec (p:=la=la') q6_ fun _=>if_dec (p:=(st,hv,nzB hv bs)=(st',hv',nzB hv' bs')) decide_eq_true_iff fun _=>rfl]
 refine congrArg (fun b=>some (b,())) ?_
 show _=decide ((bk,(lo,lf),ph,tx,la,(st,hv,nzB hv bs),tk)=(bk',(lo',lf'),ph',tx',la',(st',hv',nzB hv' bs'),tk'))
 rw [Bool.eq_iff_iff]
 simp only [Bool.and_eq_true,decide_eq_true_eq,q6_,Prod.mk.injEq]
def ownS (s:TSl):TSl:=setA s (ownA s.2.2.1)
theorem slsame_eq {a b:TSl} (h1:OkS a) (h2:SzA b.2.2.1):qb5_ (a,b,())=some (decide (ownS a=ownS b),()):=by
 have hs:=asame_eq h1.a.sz h2
 have hc:=h1.c
 obtain ⟨u,l,g,c⟩:=a
 obtain ⟨u',l',g',c'⟩:=b
 dsimp only at hs hc
 show qn0_ (u,l,g,c) (u',l',g',c')=_
 unfold qn0_
 dsimp only
 rw [hs,Option.bind_some]
 rw [equalB_eq (by omega)]
 simp only [Option.bind_some]
 rw [if_dec (p:=u=u') q6_ fun _=>if_dec (p:=l=l') q6_ fun _=>if_dec (p:=ownA g=ownA g') decide_eq_true_iff fun _=>rfl]
 refine congrArg (fun b=>some (b,())) ?_
 show _=decide ((u,l,ownA g,c)=(u',l',ownA g',c'))
 rw [Bool.eq_iff_iff]
 simp only [Bool.and_eq_true,decide_eq_true_eq,Prod.mk.injEq]
theorem slsame_self {a:TSl} (h:OkS a):qb5_ (a,a,())=some (true,()):=by
 rw [slsame_eq h h.a.sz,decide_eq_true rfl]
abbrev TOp:=Int×List Int×TA×TCm
structure OkO (o:TOp):Prop where
 w:0≤o.1∧o.1≤255
 b:∀ x ∈ o.2.1,0≤x∧x≤255
 bl:o.2.1.length≤300
 a:OkA o.2.2.1
 c:OkC o.2.2.2
theorem rwords_eq {c:TCm} (h:OkC c):q9d_ (c,())=some ((cmdA c).2.2.2.2.1,()):=by
 have h2:=h.v
 have h3:=h.t
 have h5:=h.k
 show qkj_ c=_
 unfold qkj_
 have q:∀ x:Int,0≤x∧x≤4294967295->cvt .u16 (quo .u32 x 65536)=x / 65536:=fun x hx=>by
  obtain ⟨n,rfl⟩:=Int.eq_ofNat_of_zero_le hx.1
  have:quo .u32 (n:Int) 65536=((n / 65536:Nat):Int):=by
   unfold quo
   rw [Int.tdiv_eq_ediv_of_nonneg (by omega),wr32]
   omega
  rw [this]
  exact (wu16 (by omega) (by omega)).trans (by omega)
 have r:∀ x:Int,0≤x∧x≤4294967295->cvt .u16 (rem x 65536)=x % 65536:=fun x hx=>by
  unfold rem
  rw [Int.tmod_eq_emod_of_nonneg hx.1]
  exact wu16 (by omega) (by omega)
 rw [q _ h3,q _ h5,r _ h3,r _ h5,show cvt .u16 c.2.1=c.2.1 from wu16 h2.1 (by omega)]
 rfl
def opA (o:TOp):TA:=if o.1 % 6=5 then if o.2.2.2.2.2.2.1 % 2=1 then (16,272,8,0,(cmdA o.2.2.2).2.2.2.2.1,[]) else cmdA o.2.2.2 else o.2.2.1
def opB (o:TOp):List Int×Bool :=
 if o.1 % 6=0 then (o.2.1,true) else if o.1 % 6=5∨o.1 % 6=2 then if rightA (opA o)=true then (askB (opA o),true) else ([],false) else ([],false)
end Go.Proofs.Lx
end
section
namespace Go.Proofs.Lx
open Go Ev Sx Pl
set_option maxRecDepth 100000
theorem rem_pos {x k:Int} (h:0≤x):rem x k=x % k:=by unfold rem; exact Int.tmod_eq_emod_of_nonneg h
theorem opA_ok {o:TOp} (h:OkO o):OkA (opA o):=by
 unfold opA
 split
 ·split
  ·have:=(cmdA_ok h.c).1
   exact ⟨(by decide:(0:Int)≤16),(by decide:(16:Int)≤255),(by decide:(0:Int)≤272),(by decide:(272:Int)≤65535),(by decide:(0:Int)≤8),(by decide:(8:Int)≤65535),(by decide:(0:Int)≤0),(by decide:(0:Int)≤65535),this.w,(by decide:8≤100000),(by decide:0≤100000)⟩
  ·exact (cmdA_ok h.c).1
 ·exact h.a
theorem opbytes_eq {o:TOp} (h:OkO o):qf9_ (o,())=some ((opB o).1,(opB o).2,()):=by
 have hw:=h.w
 have hc:=h.c.n
 have hA:=opA_ok h
 have K:∀ a:TA,OkA a->qaj_ a=some (if rightA a=true then (askB a,true,()) else ([],false,())):=fun a ha=>by
  show qep_ a=_
  unfold qep_
  rw [q1gt_ ha]
  split <;> rfl
 obtain ⟨w,b,a,c⟩:=o
 dsimp only at hw hc
 show qem_ qaj_ (w,b,a,c)=_
 unfold qem_
 dsimp only
 rw [rem_pos hw.1,rem_pos hc.1,rwords_eq h.c,Option.bind_some,Option.bind_some]
 unfold opB
 dsimp only
 by_cases h0:w % 6=0
 ·rw [if_pos (q6_.2 h0),if_pos h0]
 ·rw [if_neg (fun e=>h0 (q6_.1 e)),if_neg h0]
  by_cases h5:w % 6=5
  ·rw [if_pos (q6_.2 h5),if_pos (Or.inl h5)]
   have e:opA (w,b,a,c)=if c.2.2.2.1 % 2=1 then (16,272,8,0,(cmdA c).2.2.2.2.1,[]) else cmdA c:=by
    unfold opA
    rw [if_pos h5]
   rw [e] at hA ⊢
   by_cases h1:c.2.2.2.1 % 2=1
   ·rw [if_pos h1] at hA
    rw [if_pos (q6_.2 h1),if_pos h1,K _ hA]
    split <;> rfl
   ·rw [if_neg h1] at hA
    rw [if_neg (fun e=>h1 (q6_.1 e)),if_neg h1]
    refine (K _ hA).trans ?_
    split <;> rfl
  ·rw [if_neg (fun e=>h5 (q6_.1 e))]
   have e:opA (w,b,a,c)=a:=by
    unfold opA
    rw [if_neg h5]
   rw [e] at hA ⊢
   by_cases h2:w % 6=2
   ·rw [if_pos (q6_.2 h2),if_pos (Or.inr h2),K _ hA]
    split <;> rfl
   ·rw [if_neg (fun e=>h2 (q6_.1 e)),if_neg (by omega)]
theorem opB_bytes {o:TOp} (h:OkO o):∀ x ∈ (opB o).1,0≤x∧x≤255:=by
 unfold opB
 split
 ·exact h.b
 ·split
  ·split
   ·rename_i hr
    exact askB_bytes (rightA_RA hr)
   ·exact fun x hx=>by cases hx
  ·exact fun x hx=>by cases hx
def doesS (s:TSl) (o:TOp):TSl×List Int :=
 if (opB o).2=true then ((fullS s (opB o).1).1,repB (fullS s (opB o).1).2)
 else if o.1 % 6=1 then takeS s o.2.1 else if o.1 % 6=3 then (tickS s,[]) else if o.1 % 6=4 then (bootS s,[]) else (s,[])
theorem does_eq {s:TSl} (h:OkS s) {o:TOp} (ho:OkO o):qhi_ (o,s,())=some ((doesS s o).1,(doesS s o).2,()):=by
 have hw:=ho.w
 show qgl_ o s=_
 unfold qgl_ doesS
 rw [opbytes_eq ho,Option.bind_some,rem_pos hw.1]
 dsimp only
 cases e:(opB o).2 with
 | true =>
  rw [if_pos rfl,serve_full h (opB_bytes ho)]
  rfl
 | false =>
  rw [if_neg Bool.false_ne_true,if_neg Bool.false_ne_true]
  by_cases h1:o.1 % 6=1
  ·rw [if_pos (q6_.2 h1),if_pos h1,stake_eq h ho.b (by have:=ho.bl; omega)]
   rfl
  ·rw [if_neg (fun e=>h1 (q6_.1 e)),if_neg h1]
   by_cases h3:o.1 % 6=3
   ·rw [if_pos (q6_.2 h3),if_pos h3,stick_eq h]
    rfl
   ·rw [if_neg (fun e=>h3 (q6_.1 e)),if_neg h3]
    by_cases h4:o.1 % 6=4
    ·rw [if_pos (q6_.2 h4),if_pos h4,sboot_eq h]
     rfl
    ·rw [if_neg (fun e=>h4 (q6_.1 e)),if_neg h4]
theorem doesS_ok {s:TSl} (h:OkS s) {o:TOp} (ho:OkO o):OkS (doesS s o).1:=by
 unfold doesS
 split
 ·exact (fullS_ok h (opB_bytes ho)).1
 ·split
  ·exact takeS_ok h ho.b
  ·split
   ·exact tickS_ok h
   ·split
    ·exact bootS_ok h
    ·exact h
def oneO (o:TOp):Bool:=decide (o.2.1.length≤300) && fewV o.2.2.1.2.2.2.2.1 o.2.2.1.2.2.2.2.2
def fewO (l:List TOp) (m:Int):Bool:=l.all oneO && decide ((l.length:Int)≤m)
theorem few21_eq {l:List TOp} {m:Int} (hl:l.length≤1000000000):qtx_ (l,m,())=some (fewO l m,()):=by
 show qrv_ l m l (Int.ofNat l.length) 0=_
 have hg:∀ k i n:Nat,i + k=l.length->k < n->loopF (fun (self:List TOp×Int×List TOp×Int×Int->Option (As [.bool])) (s:List TOp×Int×List TOp×Int×Int)=>qcn_ (qfw_ (fun l most t7 t8 t9=>self (l,most,t7,t8,t9))) qfy_ (fun l most t7 t8 t9=>self (l,most,t7,t8,t9)) s.1 s.2.1 s.2.2.1 s.2.2.2.1 s.2.2.2.2) n (l,m,l,Int.ofNat l.length,(i:Int))=some ((l.drop i).all oneO && decide ((l.length:Int)≤m),()):=by
  intro k
  induction k with
  | zero =>
   intro i n hi hn
   obtain ⟨n,rfl⟩:∃ q,n=q + 1:=⟨n - 1,by omega⟩
   have:i=l.length:=by omega
   subst this
   rw [q1r_]
   show qcn_ _ qfy_ _ l m l (Int.ofNat l.length) (l.length:Int)=_
   unfold qcn_
   rw [if_neg (by rw [qa_,q1_]; omega),List.drop_length,List.all_nil,Bool.true_and]
   show some (le (Int.ofNat l.length) m,())=_
   rw [le_dec,q1_]
  | succ k ih =>
   intro i n hi hn
   obtain ⟨n,rfl⟩:∃ q,n=q + 1:=⟨n - 1,by omega⟩
   obtain ⟨x,hx⟩:=get_of (xs:=l) (i:=i) (by omega)
   have hd:l.drop i=x::l.drop (i + 1):=by rw [List.drop_eq_getElem_cons (by omega)]; congr 1; exact (List.getElem?_eq_some_iff.1 hx).2
   have ih:=ih (i + 1) n (by omega) (by omega)
   rw [q1r_]
   generalize loopF _ n=self at ih ⊢
   show qcn_ (qfw_ _) qfy_ _ l m l (Int.ofNat l.length) (i:Int)=_
   have K2:∀ t,qfw_ (fun l most t7 t8 t9=>self (l,most,t7,t8,t9)) l m l (Int.ofNat l.length) (i:Int) t=if t=true then some (false,()) else self (l,m,l,Int.ofNat l.length,((i + 1:Nat):Int)):=fun t=>by
    show qrb_ _ _ _ _ _ _ _=_
    unfold qrb_
    rw [q1l_ (by omega)]
   unfold qcn_
   rw [if_pos (by rw [qa_,q1_]; omega),qp_ hx,Option.bind_some,K2,few_eq,Option.bind_some,K2,ih,hd]
   rw [List.all_cons]
   unfold oneO
   by_cases q1:300 < x.2.1.length
   ·rw [if_pos (gt_iff.2 (by rw [q1_]; omega)),if_pos rfl,decide_eq_false (by omega)]
    rfl
   ·rw [if_neg (fun e=>q1 (by have:=gt_iff.1 e; rw [q1_] at this; omega)),decide_eq_true (show x.2.1.length≤300 by omega),Bool.true_and]
    dsimp only
    cases fewV x.2.2.1.2.2.2.2.1 x.2.2.1.2.2.2.2.2 with
    | true=>rw [if_neg (by decide),Bool.true_and]
    | false=>rw [if_pos (by rfl)]; rfl
 have:=hg l.length 0 18446744073709551616 (by omega) (by omega)
 exact this
theorem fewO_iff {l:List TOp} {m:Int}:fewO l m=true ↔ (∀ o ∈ l,o.2.1.length≤300∧o.2.2.1.2.2.2.2.1.length≤200∧o.2.2.1.2.2.2.2.2.length≤2100)∧(l.length:Int)≤m:=by
 unfold fewO oneO
 simp only [Bool.and_eq_true,decide_eq_true_eq,few_iff,List.all_eq_true]
abbrev tOp:Ty:=.pr (.int .u8) (.pr (.sl (.int .u8)) (.pr (.pr (.int .u8) (.pr (.int .u16) (.pr (.int .u16) (.pr (.int .u16) (.pr (.sl (.int .u16)) (.sl .bool)))))) (.pr (.int .u16) (.pr (.int .u8) (.pr (.int .u32) (.pr (.int .u16) (.int .u32)))))))
theorem okw32 {x:Int} (h:(Lit.int .u32 x).wf=true):0≤x∧x≤4294967295:=by
 simp [Lit.wf] at h
 have e1:IntKind.u32.min=0:=rfl
 have e2:IntKind.u32.max=4294967295:=rfl
 omega
theorem okO_of {o:TOp} (h:Rw.okV tOp o) (h1:o.2.1.length≤300) (h2:o.2.2.1.2.2.2.2.1.length≤200) (h3:o.2.2.1.2.2.2.2.2.length≤2100):OkO o:=by
 obtain ⟨q1,q2,⟨r1,r2,r3,r4,r5,r6⟩,⟨s1,s2,s3,s4,s5⟩⟩:=h
 exact ⟨ok8 q1,fun x hx=>ok8 (q2.2 x hx),h1,⟨(ok8 r1).1,(ok8 r1).2,(ok16 r2).1,(ok16 r2).2,(ok16 r3).1,(ok16 r3).2,(ok16 r4).1,(ok16 r4).2,fun x hx=>ok16 (r5.2 x hx),by omega,by omega⟩,⟨ok16 s1,ok8 s2,okw32 s3,ok16 s4,okw32 s5⟩⟩
end Go.Proofs.Lx
end
section
namespace Go.Proofs.Lx
open Go Ev Sx Pl
theorem cut_min {α:Type} (l:List α) (m:Nat):cut l 0 (if lt (m:Int) (Int.ofNat l.length)=true then (m:Int) else Int.ofNat l.length)=some (l.take m):=by
 by_cases h:m < l.length
 ·rw [if_pos (by rw [qa_,q1_]; omega)]
  exact cut_to (by omega)
 ·rw [if_neg (by rw [qa_,q1_]; omega),q1_,cut_to (Nat.le_refl _),List.take_of_length_le (Nat.le_refl _),List.take_of_length_le (by omega)]
end Go.Proofs.Lx
end
section
namespace Pl
open Go Ev Sx
theorem loop_ex {σ R β:Type} {F:(σ->Option R)->σ->Option R} {mk:Nat->β->σ} {N:Nat} {Inv:Nat->β->Prop} {Q:Option R->Prop}
  (hs:∀ self i b,i < N->Inv i b->∃ b',Inv (i + 1) b'∧F self (mk i b)=self (mk (i + 1) b')) (he:∀ self b,Inv N b->Q (F self (mk N b))) :
  ∀ (k i:Nat) (b:β) (n:Nat),i + k=N->k < n->Inv i b->Q (loopF F n (mk i b))
 | _,_,_,0,_,h,_=>by omega
 | 0,i,b,n + 1,h,_,hI=>by
  have:i=N:=by omega
  subst this
  rw [q1r_]
  exact he _ _ hI
 | k + 1,i,b,n + 1,h,hn,hI=>by
  obtain ⟨b',h1,h2⟩:=hs (loopF F n) i b (by omega) hI
  rw [q1r_,h2]
  exact loop_ex hs he k (i + 1) b' n (by omega) (by omega) h1
def tN (s:Nat):Nat:=s / 2 ^^^ (if s % 2=1 then 40961 else 0)
theorem xor_cancel {a b:Nat} (h:a ^^^ b=0):a=b:=by
 have:a ^^^ (b ^^^ b)=b:=by rw [<- Nat.xor_assoc,h,Nat.zero_xor]
 rwa [Nat.xor_self,Nat.xor_zero] at this
theorem tN_xor (a b:Nat):tN (a ^^^ b)=tN a ^^^ tN b:=by
 unfold tN
 have hm:(a ^^^ b) % 2=(a + b) % 2:=by
  have h1:=Nat.testBit_xor a b 0
  rw [Nat.testBit_zero,Nat.testBit_zero,Nat.testBit_zero] at h1
  rcases Nat.mod_two_eq_zero_or_one a with ha | ha <;> rcases Nat.mod_two_eq_zero_or_one b with hb | hb <;> rcases Nat.mod_two_eq_zero_or_one (a ^^^ b) with hx | hx <;> rw [ha,hb,hx] at h1 <;> first | exact absurd h1 (by decide) | omega
 rw [Nat.xor_div_two,hm]
 rcases Nat.mod_two_eq_zero_or_one a with ha | ha <;> rcases Nat.mod_two_eq_zero_or_one b with hb | hb
 ·have:(a + b) % 2=0:=by omega
  rw [this,ha,hb]
  simp
 ·have:(a + b) % 2=1:=by omega
  rw [this,ha,hb]
  simp [Nat.xor_assoc]
 ·have:(a + b) % 2=1:=by omega
  rw [this,ha,hb]
  simp only [if_true,Nat.zero_ne_one,if_false,Nat.xor_zero]
  rw [Nat.xor_assoc,Nat.xor_comm (b / 2),<- Nat.xor_assoc]
 ·have:(a + b) % 2=0:=by omega
  rw [this,ha,hb]
  simp only [if_true]
  have:a / 2 ^^^ 40961 ^^^ (b / 2 ^^^ 40961)=a / 2 ^^^ b / 2 ^^^ (40961 ^^^ 40961):=by
   rw [Nat.xor_assoc,Nat.xor_assoc,<- Nat.xor_assoc 40961,Nat.xor_comm 40961 (b / 2),Nat.xor_assoc (b / 2)]
  rw [this,Nat.xor_self]
  simp
theorem tN_lt {s:Nat} (h:s < 65536):tN s < 65536:=by
 unfold tN
 have:(65536:Nat)=2 ^ 16:=by decide
 rw [this]
 apply Nat.xor_lt_two_pow
 ·omega
 ·split <;> decide
theorem tN_inj {s:Nat} (h:s < 65536) (e:tN s=0):s=0:=by
 unfold tN at e
 have:=xor_cancel e
 split at this <;> omega
theorem tN_two (m:Nat):tN (2 * m)=m:=by
 unfold tN
 have h1:2 * m % 2=0:=by omega
 have h2:2 * m / 2=m:=by omega
 rw [h1,h2]
 simp
def tP:Nat->Nat->Nat
 | 0,s=>s
 | k + 1,s=>tP k (tN s)
theorem tP_xor:∀ (k a b:Nat),tP k (a ^^^ b)=tP k a ^^^ tP k b
 | 0,_,_=>rfl
 | k + 1,a,b=>by
  show tP k (tN (a ^^^ b))=_
  rw [tN_xor,tP_xor k]
  rfl
theorem tP_add:∀ (m n s:Nat),tP (m + n) s=tP n (tP m s)
 | 0,n,s=>by rw [Nat.zero_add]; rfl
 | m + 1,n,s=>by
  rw [Nat.add_right_comm]
  exact tP_add m n (tN s)
theorem tP_zero:∀ k,tP k 0=0
 | 0=>rfl
 | k + 1=>tP_zero k
theorem tP_inj:∀ {k s:Nat},s < 65536->tP k s=0->s=0
 | 0,_,_,e=>e
 | k + 1,s,h,e=>tN_inj h (tP_inj (k:=k) (s:=tN s) (tN_lt h) e)
theorem tP_lt:∀ {k s:Nat},s < 65536->tP k s < 65536
 | 0,_,h=>h
 | k + 1,s,h=>tP_lt (k:=k) (s:=tN s) (tN_lt h)
theorem tP_pow:∀ (j m:Nat),tP j (2 ^ j * m)=m
 | 0,m=>by simp [tP]
 | j + 1,m=>by
  show tP j (tN (2 ^ (j + 1) * m))=m
  have:2 ^ (j + 1) * m=2 * (2 ^ j * m):=by rw [Nat.pow_succ,Nat.mul_comm (2 ^ j) 2,Nat.mul_assoc]
  rw [this,tN_two,tP_pow j m]
theorem hi_lo {a b k:Nat} (h:b < 2 ^ k):2 ^ k * a + b=2 ^ k * a ^^^ b:=by
 apply Nat.eq_of_testBit_eq
 intro i
 have e0:=Nat.testBit_two_pow_mul_add a (b:=0) (i:=k) (Nat.two_pow_pos k) i
 rw [Nat.add_zero] at e0
 rw [Nat.testBit_two_pow_mul_add a h,Nat.testBit_xor,e0]
 by_cases hi:i < k
 ·rw [if_pos hi,if_pos hi]; simp
 ·rw [if_neg hi,if_neg hi]
  have:b.testBit i=false:=Nat.testBit_lt_two_pow (Nat.lt_of_lt_of_le h (Nat.pow_le_pow_right (by decide) (by omega)))
  rw [this]; simp
def stepN (s c:Nat):Nat:=tP 8 (s ^^^ c)
def crcN (s:Nat) (xs:List Nat):Nat:=xs.foldl stepN s
theorem crcN_xor:∀ (xs:List Nat) (s e:Nat),crcN (s ^^^ e) xs=crcN s xs ^^^ tP (8 * xs.length) e
 | [],s,e=>rfl
 | c::r,s,e=>by
  show crcN (tP 8 (s ^^^ e ^^^ c)) r=crcN (tP 8 (s ^^^ c)) r ^^^ _
  have:s ^^^ e ^^^ c=s ^^^ c ^^^ e:=by rw [Nat.xor_assoc,Nat.xor_comm e c,<- Nat.xor_assoc]
  rw [this,tP_xor,crcN_xor r,<- tP_add,List.length_cons]
  congr 2
  omega
theorem crcN_flip (pre post:List Nat) (s c d:Nat):crcN s (pre++(c ^^^ d)::post)=crcN s (pre++c::post) ^^^ tP (8 * (post.length + 1)) d:=by
 unfold crcN
 rw [List.foldl_append,List.foldl_append]
 show crcN (tP 8 (_ ^^^ (c ^^^ d))) post=crcN (tP 8 (_ ^^^ c)) post ^^^ _
 rw [<- Nat.xor_assoc,tP_xor,crcN_xor,<- tP_add]
 congr 2
 omega
theorem bxor16 {n m:Nat} (hn:n < 65536) (hm:m < 65536):bxor .u16 (n:Int) (m:Int)=((n ^^^ m:Nat):Int):=by
 unfold bxor
 rw [wr16]
 have e1:(BitVec.ofInt IntKind.u16.bits (n:Int)).toNat=n:=by
  rw [BitVec.toNat_ofInt]
  have:((2 ^ IntKind.u16.bits:Nat):Int)=65536:=by decide
  rw [this]
  omega
 have e2:(BitVec.ofInt IntKind.u16.bits (m:Int)).toNat=m:=by
  rw [BitVec.toNat_ofInt]
  have:((2 ^ IntKind.u16.bits:Nat):Int)=65536:=by decide
  rw [this]
  omega
 rw [BitVec.toNat_xor,e1,e2]
 have:n ^^^ m < 2 ^ 16:=Nat.xor_lt_two_pow (by omega) (by omega)
 omega
theorem bxor8 {n m:Nat} (hn:n < 256) (hm:m < 256):bxor .u8 (n:Int) (m:Int)=((n ^^^ m:Nat):Int):=by
 unfold bxor
 rw [wr8]
 have e1:(BitVec.ofInt IntKind.u8.bits (n:Int)).toNat=n:=by
  rw [BitVec.toNat_ofInt]
  have:((2 ^ IntKind.u8.bits:Nat):Int)=256:=by decide
  rw [this]
  omega
 have e2:(BitVec.ofInt IntKind.u8.bits (m:Int)).toNat=m:=by
  rw [BitVec.toNat_ofInt]
  have:((2 ^ IntKind.u8.bits:Nat):Int)=256:=by decide
  rw [this]
  omega
 rw [BitVec.toNat_xor,e1,e2]
 have:n ^^^ m < 2 ^ 8:=Nat.xor_lt_two_pow (by omega) (by omega)
 omega
theorem band15_mod {n:Nat} (hn:n < 65536):band .u16 (n:Int) 15=((n % 16:Nat):Int):=by
 unfold band
 rw [wr16]
 have e1:(BitVec.ofInt IntKind.u16.bits (n:Int)).toNat=n:=by
  rw [BitVec.toNat_ofInt]
  have:((2 ^ IntKind.u16.bits:Nat):Int)=65536:=by decide
  rw [this]
  omega
 have e2:(BitVec.ofInt IntKind.u16.bits 15).toNat=2 ^ 4 - 1:=by decide
 rw [BitVec.toNat_and,e1,e2,Nat.and_two_pow_sub_one_eq_mod]
 omega
end Pl
namespace Go.Proofs.Lx
open Go Ev Sx Pl
set_option maxRecDepth 100000
theorem tab_tP:∀ i:Fin 16,tab (i.1:Int)=((tP 4 i.1:Nat):Int):=by decide +kernel
theorem nib_eq {s:Nat} (h:s < 65536):nib (s:Int)=((tP 4 s:Nat):Int):=by
 unfold nib
 have ht:=tab_tP ⟨s % 16,Nat.mod_lt _ (by decide)⟩
 dsimp only at ht
 have e1:(s:Int) / 16=((s / 16:Nat):Int):=by omega
 rw [band15_mod h,ht,shr4 _ _ (by decide),e1,bxor16 (by omega) (tP_lt (by omega))]
 have e2:tP 4 s=s / 16 ^^^ tP 4 (s % 16):=by
  have e:s=2 ^ 4 * (s / 16) + s % 16:=by omega
  have hx:=hi_lo (a:=s / 16) (b:=s % 16) (k:=4) (by omega)
  rw [<- e] at hx
  conv=>lhs; rw [hx]
  rw [tP_xor,tP_pow]
 rw [e2]
theorem stepV_eq {s c:Nat} (hs:s < 65536) (hc:c < 256):stepV (s:Int) (c:Int)=((stepN s c:Nat):Int):=by
 unfold stepV stepN
 have h1:s ^^^ c < 65536:=by
  have:(65536:Nat)=2 ^ 16:=by decide
  rw [this]
  exact Nat.xor_lt_two_pow (by omega) (by omega)
 have ec:cvt .u16 (c:Int)=(c:Int):=by rw [cvt16]; omega
 rw [ec,bxor16 hs (by omega),nib_eq h1,nib_eq (tP_lt h1),<- tP_add]
abbrev nat (xs:List Int):List Nat:=xs.map Int.toNat
abbrev Byt (xs:List Int):Prop:=∀ x ∈ xs,0≤x∧x≤255
theorem Byt.nat {xs:List Int} (h:Byt xs):∀ x ∈ nat xs,x < 256:=by
 intro x hx
 obtain ⟨y,hy,rfl⟩:=List.mem_map.1 hx
 have:=h y hy
 omega
theorem sumV_run {xs:List Int} (h:Byt xs):sumV xs=((crcN 65535 (nat xs):Nat):Int):=by
 have key:∀ (xs:List Int) (s:Nat),s < 65536->Byt xs->xs.foldl stepV (s:Int)=((crcN s (nat xs):Nat):Int):=by
  intro xs
  induction xs with
  | nil=>exact fun s _ _=>rfl
  | cons c r ih =>
   intro s hs hb
   have hc:=hb c (by simp)
   obtain ⟨n,rfl⟩:=Int.eq_ofNat_of_zero_le hc.1
   rw [List.foldl_cons,stepV_eq hs (by omega)]
   refine ih _ (tP_lt ?_) (fun x h=>hb x (List.mem_cons_of_mem _ h))
   have e:(65536:Nat)=2 ^ 16:=by decide
   rw [e]
   exact Nat.xor_lt_two_pow (by omega) (by omega)
 exact key xs 65535 (by decide) h
theorem check0 {m:List Int} (hb:Byt m) (hl:2≤m.length) (h:sumV (m.take (m.length - 2))=numV (m.getD (m.length - 1) 0) (m.getD (m.length - 2) 0)):crcN 65535 (nat m)=0:=by
 have g1:m.length - 2 < m.length:=by omega
 have g2:m.length - 2 + 1 < m.length:=by omega
 have e:m=m.take (m.length - 2)++[m[m.length - 2],m[m.length - 2 + 1]]:=by
  conv=>lhs; rw [<- List.take_append_drop (m.length - 2) m]
  congr 1
  rw [List.drop_eq_getElem_cons g1,List.drop_eq_getElem_cons g2,List.drop_of_length_le (by omega)]
 have hlo:=hb _ (List.getElem_mem g1)
 have hhi:=hb _ (List.getElem_mem g2)
 have d1:m.getD (m.length - 2) 0=m[m.length - 2]:=by rw [List.getD_eq_getElem?_getD,List.getElem?_eq_getElem g1]; rfl
 have d2:m.getD (m.length - 1) 0=m[m.length - 2 + 1]:=by
  have:m.length - 1=m.length - 2 + 1:=by omega
  rw [this,List.getD_eq_getElem?_getD,List.getElem?_eq_getElem g2]; rfl
 rw [d1,d2,numV_eq hhi.1 hhi.2 hlo.1 hlo.2,sumV_run (fun x hx=>hb x (List.mem_of_mem_take hx))] at h
 rw [e]
 generalize m[m.length - 2]=lo at *
 generalize m[m.length - 2 + 1]=hi at *
 obtain ⟨l,rfl⟩:=Int.eq_ofNat_of_zero_le hlo.1
 obtain ⟨k,rfl⟩:=Int.eq_ofNat_of_zero_le hhi.1
 have hs:crcN 65535 (nat (m.take (m.length - 2)))=2 ^ 8 * k + l:=by omega
 unfold nat at hs ⊢
 rw [List.map_append]
 unfold crcN at hs ⊢
 rw [List.foldl_append,hs]
 show tP 8 (tP 8 ((2 ^ 8 * k + l) ^^^ l) ^^^ k)=0
 rw [hi_lo (by omega:l < 2 ^ 8),Nat.xor_assoc,Nat.xor_self,Nat.xor_zero,tP_pow,Nat.xor_self,tP_zero]
end Go.Proofs.Lx
end
section
open Go Go.Proofs Ev Sx
set_option maxRecDepth 100000
namespace Go.Proofs.Lx
abbrev YIT4:Type:=(List Int×(Int×Int)×Int×Int×Int×(Int×List Bool×List (Int×List Int))×Int)
abbrev YIT0:Type:=(Int×Int×YIT4×List Bool)
abbrev YIT1:Ty:=(.pr (.int .u8) (.pr (.int .u8) (.pr (.pr (.sl (.int .u16)) (.pr (.pr (.int .u16) (.int .i64)) (.pr (.int .u8) (.pr (.int .u32) (.pr (.int .u32) (.pr (.pr (.int .u32) (.pr (.ar 8 .bool) (.ar 8 (.pr (.int .i64) (.sl (.int .u16)))))) (.int .i64))))))) (.sl .bool))))
abbrev YIT2:Ty:=(.pr (.int .u8) (.pr (.sl (.int .u8)) (.pr (.pr (.int .u8) (.pr (.int .u16) (.pr (.int .u16) (.pr (.int .u16) (.pr (.sl (.int .u16)) (.sl .bool)))))) (.pr (.int .u16) (.pr (.int .u8) (.pr (.int .u32) (.pr (.int .u16) (.int .u32))))))))
abbrev YIT3:Type:=(Int×List Int×(Int×Int×Int×Int×List Int×List Bool)×Int×Int×Int×Int×Int)
@[reducible] def q4m_:Sh:=⟨[.d (.sl (.int .u8)),.d (.int .i64),.d (.int .u16)],[],[.sl (.int .u8),.int .i64,.int .u16],[.d (.sl (.int .u8)),.d (.bool)],[],0,[.sl (.int .u8),.bool]⟩
def q63_:Env:=(cts [])
def q69_:List (Nat×Hint):=[(15,⟨[],[8,9]⟩),(122,⟨[],[1,2,8,9,15,27,28,31,32,33,34,35]⟩),(15667,⟨[.agd 31 (.int .i64),.agd 33 (.int .i64),.agd 34 (.int .i64),.agd 35 .bool,.agd 27 (.int .i64),.agd 28 .bool],[1,2,8,9,11,15,36]⟩)]
def q84_ (at' pattern:Int) (any:Bool) (t15:Int) (out:List Int):St:={ fr:=[(1,.d (.int .i64) at'),(2,.d (.int .u16) pattern),(8,.row 0),(9,.d .bool any),(15,.d (.int .i64) t15)],nt:=50,up:=[],own:=[(0,.row (.int .u8) 5 out)],nx:=1,log:=[],ln:=0 }
def qp6_ (at' pattern:Int) (any:Bool) (i t15:Int) (t36:Bool) (out:List Int):St:={ fr:=[(1,.d (.int .i64) at'),(2,.d (.int .u16) pattern),(8,.row 0),(9,.d .bool any),(11,.d (.int .i64) i),(15,.d (.int .i64) t15),(36,.d .bool t36)],nt:=50,up:=[],own:=[(0,.row (.int .u8) 5 out)],nx:=1,log:=[],ln:=0 }
def qs7_ (any:Bool) (out:List Int):St:={ fr:=[(8,.row 0),(9,.d .bool any)],nt:=50,up:=[],own:=[(0,.row (.int .u8) 5 out)],nx:=1,log:=[],ln:=0 }
def qq0_ (j2:Int->Int->Bool->Int->Int->Bool->List Int->Option (As [.sl (.int .u8),.bool])) (j3:Bool->List Int->Option (As [.sl (.int .u8),.bool])) (self1:Int->Int->Bool->Int->List Int->Option (As [.sl (.int .u8),.bool])) (at' pattern:Int) (any:Bool) (t15:Int) (out:List Int):Option (As [.sl (.int .u8),.bool]) :=
 if lt t15 16=true then need (ge t15 0) (if eqi (Sx.band .u16 (Sx.shr .u16 pattern t15) 1) 1=true then if ge (add .i64 at' t15) 0=true then j2 at' pattern any (add .i64 at' t15) t15 (lt (add .i64 at' t15) (mul .i64 8 (Int.ofNat (List.length out)))) out else j2 at' pattern any (add .i64 at' t15) t15 false out else j2 at' pattern any (add .i64 at' t15) t15 false out) else j3 any out
def qvh_ (self1:Int->Int->Bool->Int->List Int->Option (As [.sl (.int .u8),.bool])) (at' pattern:Int) (any:Bool) (i t15:Int) (t36:Bool) (out:List Int):Option (As [.sl (.int .u8),.bool]) :=
 if t36=true then Option.bind (at? out (quo .i64 i 8)) fun x=>Option.bind (at? out (quo .i64 i 8)) fun y=>need (ge (rem i 8) 0) (Option.bind (at? out (quo .i64 i 8)) fun x=>Option.bind (at? out (quo .i64 i 8)) fun x=>self1 at' pattern true (add .i64 t15 1) (List.set out (Int.toNat (quo .i64 i 8)) (Sx.bxor .u8 y (Sx.shl .u8 1 (rem i 8))))) else self1 at' pattern any (add .i64 t15 1) out
def q13f_ (any:Bool) (out:List Int):Option (As [.sl (.int .u8),.bool]) :=
 some (out,any,())
def qpe_ (j1:Int->Int->Bool->Int->List Int->Option (As [.sl (.int .u8),.bool])) (b:List Int) (at' pattern:Int):Option (As [.sl (.int .u8),.bool]) :=
 need (small (0 + List.length b)) (j1 at' pattern false 0 b)
def qjh_ (u1:Int->Int->Bool->Int->List Int->Option (As [.sl (.int .u8),.bool])) (at' pattern:Int) (any:Bool) (i t15:Int) (t36:Bool) (out:List Int):Option (As [.sl (.int .u8),.bool]):=qvh_ u1 at' pattern any i t15 t36 out
def qvg_ (any:Bool) (out:List Int):Option (As [.sl (.int .u8),.bool]):=q13f_ any out
def qev_ (at' pattern:Int) (any:Bool) (t15:Int) (out:List Int):Option (As [.sl (.int .u8),.bool]) :=
 loopF (fun (self:(Int)×(Int)×(Bool)×(Int)×(List Int)->Option (As [.sl (.int .u8),.bool])) (s:(Int)×(Int)×(Bool)×(Int)×(List Int))=>qq0_ (qjh_ (fun at' pattern any t15 out=>self (at',pattern,any,t15,out))) (qvg_) (fun at' pattern any t15 out=>self (at',pattern,any,t15,out)) s.1 s.2.1 s.2.2.1 s.2.2.2.1 s.2.2.2.2) 18446744073709551616 (at',pattern,any,t15,out)
def qu1_ (x:As [.sl (.int .u8),.int .i64,.int .u16]):Option (As [.sl (.int .u8),.bool]):=qpe_ qev_ x.1 x.2.1 x.2.2.1
theorem q1el_ (J:Orc (As [.sl (.int .u8),.bool])) (w1:St->Option (As [.sl (.int .u8),.bool])) (at' pattern:Int) (any:Bool) (i t15:Int) (t36:Bool) (out:List Int):pfn Tryz.prog q63_ 6 18446744073709551616 (Ev.get q69_) 33 q4m_ J 15667 [w1] (qp6_ at' pattern any i t15 t36 out)=qvh_ (fun at' pattern any t15 out=>w1 (q84_ at' pattern any t15 out)) at' pattern any i t15 t36 out:=by kernel_rfl
theorem q1gr_ (J:Orc (As [.sl (.int .u8),.bool])) (any:Bool) (out:List Int):pfn Tryz.prog q63_ 6 18446744073709551616 (Ev.get q69_) 33 q4m_ J 15 [] (qs7_ any out)=q13f_ any out:=by kernel_rfl
theorem q1do_ (J:Orc (As [.sl (.int .u8),.bool])) (w1:St->Option (As [.sl (.int .u8),.bool])) (at' pattern:Int) (any:Bool) (t15:Int) (out:List Int):pfn Tryz.prog q63_ 6 18446744073709551616 (Ev.get q69_) 33 q4m_ J 122 [w1] (q84_ at' pattern any t15 out)=qq0_ (fun at' pattern any i t15 t36 out=>J 15667 [w1] (qp6_ at' pattern any i t15 t36 out)) (fun any out=>J 15 [] (qs7_ any out)) (fun at' pattern any t15 out=>w1 (q84_ at' pattern any t15 out)) at' pattern any t15 out:=by kernel_rfl
theorem q1gk_ (J:Orc (As [.sl (.int .u8),.bool])) (x:As [.sl (.int .u8),.int .i64,.int .u16]):rfn Tryz.prog q63_ 6 18446744073709551616 (Ev.get q69_) 33 q4m_ J x=qpe_ (fun at' pattern any t15 out=>J 122 [] (q84_ at' pattern any t15 out)) x.1 x.2.1 x.2.2.1:=by kernel_rfl
theorem q1gu_ (w1:St->Option (As [.sl (.int .u8),.bool])) (at' pattern:Int) (any:Bool) (i t15:Int) (t36:Bool) (out:List Int):jfn Tryz.prog q63_ 6 18446744073709551616 (Ev.get q69_) 33 q4m_ 15667 [w1] (qp6_ at' pattern any i t15 t36 out)=qjh_ (fun at' pattern any t15 out=>w1 (q84_ at' pattern any t15 out)) at' pattern any i t15 t36 out:=by
 rw [q8_ (by decide)]
 rw [q1el_]
 rfl
theorem q1ey_ (any:Bool) (out:List Int):jfn Tryz.prog q63_ 6 18446744073709551616 (Ev.get q69_) 33 q4m_ 15 [] (qs7_ any out)=qvg_ any out:=by
 rw [q8_ (by decide)]
 rw [q1gr_]
 rfl
theorem q1fi_ (at' pattern:Int) (any:Bool) (t15:Int) (out:List Int):jfn Tryz.prog q63_ 6 18446744073709551616 (Ev.get q69_) 33 q4m_ 122 [] (q84_ at' pattern any t15 out)=qev_ at' pattern any t15 out:=by
 rw [q8_ (by decide)]
 rw [qr_ (by kernel_rfl)]
 refine qi_ (σ:=(Int)×(Int)×(Bool)×(Int)×(List Int)) (mk:=fun s=>q84_ s.1 s.2.1 s.2.2.1 s.2.2.2.1 s.2.2.2.2) (fun w1 s=>?_) 18446744073709551616 (at',pattern,any,t15,out)
 have e2:(fun at' pattern any i t15 t36 out=>(jfn Tryz.prog q63_ 6 18446744073709551616 (Ev.get q69_) 33 q4m_) 15667 [w1] (qp6_ at' pattern any i t15 t36 out))=qjh_ (fun at' pattern any t15 out=>w1 (q84_ at' pattern any t15 out)):=by funext at' pattern any i t15 t36 out; exact q1gu_ w1 at' pattern any i t15 t36 out
 have e3:(fun any out=>(jfn Tryz.prog q63_ 6 18446744073709551616 (Ev.get q69_) 33 q4m_) 15 [] (qs7_ any out))=qvg_:=by funext any out; exact q1ey_ any out
 refine (q1do_ _ w1 s.1 s.2.1 s.2.2.1 s.2.2.2.1 s.2.2.2.2).trans ?_
 rw [e2,e3]
theorem q1ho_ (x:As [.sl (.int .u8),.int .i64,.int .u16]):evT Tryz.prog q63_ 6 18446744073709551616 (Ev.get q69_) 33 q4m_ x=qu1_ x:=by
 have e1:(fun at' pattern any t15 out=>(jfn Tryz.prog q63_ 6 18446744073709551616 (Ev.get q69_) 33 q4m_) 122 [] (q84_ at' pattern any t15 out))=qev_:=by funext at' pattern any t15 out; exact q1fi_ at' pattern any t15 out
 rw [q5_,q1gk_,e1]
 rfl
theorem q1f2_:CtOk Tryz.prog (fun _=>True) 33 ⟨q4m_,qu1_⟩:=q3_ q4_ q1ho_
@[reducible] def qb_:Sh:=⟨[.d (.sl (.int .u16)),.d (.sl YIT2),.d (.int .u8),.d (.sl (.int .u8)),.d (.int .u16),.d (.int .u16)],[],[.sl (.int .u16),.sl YIT2,.int .u8,.sl (.int .u8),.int .u16,.int .u16],[.d (.bool)],[],0,[.bool]⟩
def qd_:Env:=(cts [(9,(⟨qnq_,qlf_⟩:Ct)),(10,(⟨qn6_,qbf_⟩:Ct)),(14,(⟨q8m_,q5f_⟩:Ct)),(22,(⟨q4p_,qtx_⟩:Ct)),(25,(⟨qi8_,qhi_⟩:Ct)),(28,(⟨qbn_,qdk_⟩:Ct)),(29,(⟨q59_,q9f_⟩:Ct)),(30,(⟨qbb_,qdt_⟩:Ct)),(31,(⟨qvc_,qw9_⟩:Ct)),(32,(⟨qpz_,qb5_⟩:Ct)),(33,(⟨q4m_,qu1_⟩:Ct))])
def qc_:List (Nat×Hint):=[(31,⟨[],[2,3,4,5,13,114,115,116,117,120,121,122,123,126,127,128,129,151,152,153,154,155,156,157,158,159,170,171,172,173,185,186,187,188,214,215,216,219]⟩),(16383,⟨[],[13,17,214,215,216,219]⟩),(65533,⟨[],[13,17,30,174,185,186,187,188,214,215,216,219]⟩),(524269,⟨[],[13,17,189,214,215,216,219]⟩),(32765,⟨[],[2,3,13,17,160,170,171,172,173,185,186,187,188,214,215,216,219]⟩),(4094,⟨[],[2,3,4,5,13,17,130,151,152,153,154,155,156,157,158,159,170,171,172,173,185,186,187,188,214,215,216,219]⟩),(250,⟨[],[2,3,4,5,13,71,72,73,114,115,116,117,120,121,122,123,126,127,128,129,151,152,153,154,155,156,157,158,159,170,171,172,173,185,186,187,188,214,215,216,219]⟩),(30,⟨[],[1,2,3,4,5,13,14,66,69,114,115,116,117,120,121,122,123,126,127,128,129,151,152,153,154,155,156,157,158,159,170,171,172,173,185,186,187,188,214,215,216,219]⟩)]
def qb3_ (ahead:List YIT3) (unit:Int) (pdu:List Int) (at' pattern s:Int) (ok t66:Bool) (s_2:List YIT0):St:={ fr:=[(1,.d (.sl YIT2) ahead),(2,.d (.int .u8) unit),(3,.d (.sl (.int .u8)) pdu),(4,.d (.int .u16) at'),(5,.d (.int .u16) pattern),(13,.prw 0 s 35 0),(14,.d .bool ok),(66,.d .bool t66)],nt:=221,up:=[],own:=[(0,.row YIT1 38 s_2)],nx:=1,log:=[],ln:=0 }
def q5k_ (unit:Int) (pdu:List Int) (at' pattern s:Int) (t71:List YIT3) (t72 t73:Int) (s_2:List YIT0):St:={ fr:=[(2,.d (.int .u8) unit),(3,.d (.sl (.int .u8)) pdu),(4,.d (.int .u16) at'),(5,.d (.int .u16) pattern),(13,.prw 0 s 35 0),(71,.d (.sl YIT2) t71),(72,.d (.int .i64) t72),(73,.d (.int .i64) t73)],nt:=221,up:=[],own:=[(0,.row YIT1 38 s_2)],nx:=1,log:=[],ln:=0 }
def qas_ (unit:Int) (pdu:List Int) (at' pattern s:Int) (s_2:List YIT0):St:={ fr:=[(2,.d (.int .u8) unit),(3,.d (.sl (.int .u8)) pdu),(4,.d (.int .u16) at'),(5,.d (.int .u16) pattern),(13,.prw 0 s 35 0)],nt:=221,up:=[],own:=[(0,.row YIT1 38 s_2)],nx:=1,log:=[],ln:=0 }
def qax_ (unit:Int) (pdu:List Int) (at' pattern s:Int) (frame:List Int) (t130:Bool) (s_2:List YIT0):St:={ fr:=[(2,.d (.int .u8) unit),(3,.d (.sl (.int .u8)) pdu),(4,.d (.int .u16) at'),(5,.d (.int .u16) pattern),(13,.prw 0 s 35 0),(17,.d (.sl (.int .u8)) frame),(130,.d .bool t130)],nt:=221,up:=[],own:=[(0,.row YIT1 38 s_2)],nx:=1,log:=[],ln:=0 }
def qak_ (unit:Int) (pdu:List Int) (s:Int) (frame:List Int) (t160:Bool) (s_2:List YIT0):St:={ fr:=[(2,.d (.int .u8) unit),(3,.d (.sl (.int .u8)) pdu),(13,.prw 0 s 35 0),(17,.d (.sl (.int .u8)) frame),(160,.d .bool t160)],nt:=221,up:=[],own:=[(0,.row YIT1 38 s_2)],nx:=1,log:=[],ln:=0 }
def qav_ (s:Int) (frame other:List Int) (t174:Bool) (s_2:List YIT0):St:={ fr:=[(13,.prw 0 s 35 0),(17,.d (.sl (.int .u8)) frame),(30,.d (.sl (.int .u8)) other),(174,.d .bool t174)],nt:=221,up:=[],own:=[(0,.row YIT1 38 s_2)],nx:=1,log:=[],ln:=0 }
def qaz_ (s:Int) (frame:List Int) (t189:Bool) (s_2:List YIT0):St:={ fr:=[(13,.prw 0 s 35 0),(17,.d (.sl (.int .u8)) frame),(189,.d .bool t189)],nt:=221,up:=[],own:=[(0,.row YIT1 38 s_2)],nx:=1,log:=[],ln:=0 }
def q5m_ (s:Int) (frame:List Int) (s_2:List YIT0):St:={ fr:=[(13,.prw 0 s 35 0),(17,.d (.sl (.int .u8)) frame)],nt:=221,up:=[],own:=[(0,.row YIT1 38 s_2)],nx:=1,log:=[],ln:=0 }
def qpi_ (j2:Int->List Int->Int->Int->Int->List YIT3->Int->Int->List YIT0->Option (As [.bool])) (ahead:List YIT3) (unit:Int) (pdu:List Int) (at' pattern s:Int) (ok t66:Bool) (s_2:List YIT0):Option (As [.bool]) :=
 if t66=true then if ok=true then Option.bind (qbf_ ()) fun y=>some (y.1,()) else some (false,()) else j2 unit pdu at' pattern s ahead (Int.ofNat (List.length ahead)) 0 s_2
def q5o_ (j3:Int->List Int->Int->Int->Int->List YIT0->Option (As [.bool])) (self2:Int->List Int->Int->Int->Int->List YIT3->Int->Int->List YIT0->Option (As [.bool])) (unit:Int) (pdu:List Int) (at' pattern s:Int) (t71:List YIT3) (t72 t73:Int) (s_2:List YIT0):Option (As [.bool]) :=
 if lt t73 t72=true then Option.bind (at? t71 t73) fun y=>Option.bind (at? s_2 s) fun y_1=>Option.bind (qhi_ (y,y_1,())) fun y=>Option.bind (at? s_2 s) fun x=>self2 unit pdu at' pattern s t71 t72 (add .i64 t73 1) (List.set s_2 (Int.toNat s) y.1) else j3 unit pdu at' pattern s s_2
def qap_ (j4:Int->List Int->Int->Int->Int->List Int->Bool->List YIT0->Option (As [.bool])) (unit:Int) (pdu:List Int) (at' pattern s:Int) (s_2:List YIT0):Option (As [.bool]) :=
 Option.bind (at? s_2 s) fun y=>Option.bind (qdk_ (y.1,pdu,())) fun y=>if nei y.2.1 0=true then some (false,()) else Option.bind (at? s_2 s) fun y_1=>Option.bind (q9f_ (y_1,y.1,())) fun y_2=>Option.bind (at? s_2 s) fun y_3=>Option.bind (q5f_ (y_3,pdu,())) fun y_4=>Option.bind (qdt_ (y_2.2.1,())) fun y_5=>if nei y_5.2.2.1 0=true then j4 unit pdu at' pattern s y.1 true s_2 else Option.bind (at? s_2 s) fun y_6=>if nei y_5.1 y_6.1=true then j4 unit pdu at' pattern s y.1 true s_2 else Option.bind (qw9_ (y_5.2.1,y_4.2.1,())) fun y_7=>if (!y_7.1)=true then j4 unit pdu at' pattern s y.1 true s_2 else Option.bind (qb5_ (y_2.1,y_4.1,())) fun y_8=>j4 unit pdu at' pattern s y.1 (!y_8.1) s_2
def qal_ (j5:Int->List Int->Int->List Int->Bool->List YIT0->Option (As [.bool])) (unit:Int) (pdu:List Int) (at' pattern s:Int) (frame:List Int) (t130:Bool) (s_2:List YIT0):Option (As [.bool]) :=
 if t130=true then some (false,()) else need (nei (mul .i64 8 (Int.ofNat (List.length frame))) 0) (Option.bind (qu1_ (frame,rem (cvt .i64 at') (mul .i64 8 (Int.ofNat (List.length frame))),pattern,())) fun y=>Option.bind (at? s_2 s) fun y_1=>Option.bind (q9f_ (y_1,y.1,())) fun y_2=>if y.2.1=true then if nei (Int.ofNat (List.length y_2.2.1)) 0=true then j5 unit pdu s frame true s_2 else Option.bind (at? s_2 s) fun y=>Option.bind (qb5_ (y_2.1,y,())) fun y=>j5 unit pdu s frame (!y.1) s_2 else j5 unit pdu s frame false s_2)
def qau_ (j6:Int->List Int->List Int->Bool->List YIT0->Option (As [.bool])) (unit:Int) (pdu:List Int) (s:Int) (frame:List Int) (t160:Bool) (s_2:List YIT0):Option (As [.bool]) :=
 if t160=true then some (false,()) else Option.bind (qdk_ (unit,pdu,())) fun y=>if eqi y.2.1 0=true then Option.bind (at? s_2 s) fun y_1=>j6 s frame y.1 (nei unit y_1.1) s_2 else j6 s frame y.1 false s_2
def qaw_ (j7:Int->List Int->Bool->List YIT0->Option (As [.bool])) (j8:Int->List Int->List YIT0->Option (As [.bool])) (s:Int) (frame other:List Int) (t174:Bool) (s_2:List YIT0):Option (As [.bool]) :=
 if t174=true then Option.bind (at? s_2 s) fun y=>Option.bind (q9f_ (y,other,())) fun y=>if nei (Int.ofNat (List.length y.2.1)) 0=true then j7 s frame true s_2 else Option.bind (at? s_2 s) fun y_1=>Option.bind (qb5_ (y.1,y_1,())) fun y=>j7 s frame (!y.1) s_2 else j8 s frame s_2
def qp3_ (j8:Int->List Int->List YIT0->Option (As [.bool])) (s:Int) (frame:List Int) (t189:Bool) (s_2:List YIT0):Option (As [.bool]) :=
 if t189=true then some (false,()) else j8 s frame s_2
def qar_ (s:Int) (frame:List Int) (s_2:List YIT0):Option (As [.bool]) :=
 Option.bind (cut frame 0 (Sx.sub .i64 (Int.ofNat (List.length frame)) 1)) fun y=>Option.bind (at? s_2 s) fun y_1=>Option.bind (q9f_ (y_1,y,())) fun y_2=>Option.bind (qdt_ (y,())) fun y=>if eqi y.2.2.1 0=true then Option.bind (qbf_ ()) fun y=>some (y.1,()) else if eqi (Int.ofNat (List.length y_2.2.1)) 0=true then Option.bind (at? s_2 s) fun y=>Option.bind (qb5_ (y_2.1,y,())) fun y=>if y.1=true then Option.bind (qbf_ ()) fun y=>some (y.1,()) else some (false,()) else some (false,())
def qao_ (j1:List YIT3->Int->List Int->Int->Int->Int->Bool->Bool->List YIT0->Option (As [.bool])) (b:List Int) (ahead:List YIT3) (unit:Int) (pdu:List Int) (at' pattern:Int):Option (As [.bool]) :=
 Option.bind (qlf_ (0,b,9,())) fun y=>Option.bind (cut ahead 0 (if lt 20 (Int.ofNat (List.length ahead))=true then 20 else Int.ofNat (List.length ahead))) fun y_1=>if (!y.2.1)=true then j1 y_1 unit pdu at' pattern 0 y.2.1 true [y.1] else Option.bind (qtx_ (y_1,20,())) fun y_2=>if (!y_2.1)=true then j1 y_1 unit pdu at' pattern 0 y.2.1 true [y.1] else if eqi (Int.ofNat (List.length pdu)) 0=true then j1 y_1 unit pdu at' pattern 0 y.2.1 true [y.1] else j1 y_1 unit pdu at' pattern 0 y.2.1 (gt (Int.ofNat (List.length pdu)) 253) [y.1]
def q49_ (s:Int) (frame:List Int) (s_2:List YIT0):Option (As [.bool]):=qar_ s frame s_2
def qat_ (s:Int) (frame:List Int) (t189:Bool) (s_2:List YIT0):Option (As [.bool]):=qp3_ (q49_) s frame t189 s_2
def q7p_ (s:Int) (frame other:List Int) (t174:Bool) (s_2:List YIT0):Option (As [.bool]):=qaw_ (qat_) (q49_) s frame other t174 s_2
def q81_ (unit:Int) (pdu:List Int) (s:Int) (frame:List Int) (t160:Bool) (s_2:List YIT0):Option (As [.bool]):=qau_ (q7p_) unit pdu s frame t160 s_2
def q8b_ (unit:Int) (pdu:List Int) (at' pattern s:Int) (frame:List Int) (t130:Bool) (s_2:List YIT0):Option (As [.bool]):=qal_ (q81_) unit pdu at' pattern s frame t130 s_2
def q89_ (unit:Int) (pdu:List Int) (at' pattern s:Int) (s_2:List YIT0):Option (As [.bool]):=qap_ (q8b_) unit pdu at' pattern s s_2
def q7y_ (unit:Int) (pdu:List Int) (at' pattern s:Int) (t71:List YIT3) (t72 t73:Int) (s_2:List YIT0):Option (As [.bool]) :=
 loopF (fun (self:(Int)×(List Int)×(Int)×(Int)×(Int)×(List YIT3)×(Int)×(Int)×(List YIT0)->Option (As [.bool])) (s:(Int)×(List Int)×(Int)×(Int)×(Int)×(List YIT3)×(Int)×(Int)×(List YIT0))=>q5o_ (q89_) (fun unit pdu at' pattern s t71 t72 t73 s_2=>self (unit,pdu,at',pattern,s,t71,t72,t73,s_2)) s.1 s.2.1 s.2.2.1 s.2.2.2.1 s.2.2.2.2.1 s.2.2.2.2.2.1 s.2.2.2.2.2.2.1 s.2.2.2.2.2.2.2.1 s.2.2.2.2.2.2.2.2) 18446744073709551616 (unit,pdu,at',pattern,s,t71,t72,t73,s_2)
def q7r_ (ahead:List YIT3) (unit:Int) (pdu:List Int) (at' pattern s:Int) (ok t66:Bool) (s_2:List YIT0):Option (As [.bool]):=qpi_ (q7y_) ahead unit pdu at' pattern s ok t66 s_2
def qeo_ (x:As [.sl (.int .u16),.sl YIT2,.int .u8,.sl (.int .u8),.int .u16,.int .u16]):Option (As [.bool]):=qao_ q7r_ x.1 x.2.1 x.2.2.1 x.2.2.2.1 x.2.2.2.2.1 x.2.2.2.2.2.1
theorem q10b_ (J:Orc (As [.bool])) (s:Int) (frame:List Int) (s_2:List YIT0):pfn Tryz.prog qd_ 6 18446744073709551616 (Ev.get qc_) 6 qb_ J 16383 [] (q5m_ s frame s_2)=qar_ s frame s_2:=by kernel_rfl
theorem q103_ (J:Orc (As [.bool])) (s:Int) (frame:List Int) (t189:Bool) (s_2:List YIT0):pfn Tryz.prog qd_ 6 18446744073709551616 (Ev.get qc_) 6 qb_ J 524269 [] (qaz_ s frame t189 s_2)=qp3_ (fun s frame s_2=>J 16383 [] (q5m_ s frame s_2)) s frame t189 s_2:=by kernel_rfl
theorem q102_ (J:Orc (As [.bool])) (s:Int) (frame other:List Int) (t174:Bool) (s_2:List YIT0):pfn Tryz.prog qd_ 6 18446744073709551616 (Ev.get qc_) 6 qb_ J 65533 [] (qav_ s frame other t174 s_2)=qaw_ (fun s frame t189 s_2=>J 524269 [] (qaz_ s frame t189 s_2)) (fun s frame s_2=>J 16383 [] (q5m_ s frame s_2)) s frame other t174 s_2:=by kernel_rfl
theorem qzt_ (J:Orc (As [.bool])) (unit:Int) (pdu:List Int) (s:Int) (frame:List Int) (t160:Bool) (s_2:List YIT0):pfn Tryz.prog qd_ 6 18446744073709551616 (Ev.get qc_) 6 qb_ J 32765 [] (qak_ unit pdu s frame t160 s_2)=qau_ (fun s frame other t174 s_2=>J 65533 [] (qav_ s frame other t174 s_2)) unit pdu s frame t160 s_2:=by kernel_rfl
theorem q100_ (J:Orc (As [.bool])) (unit:Int) (pdu:List Int) (at' pattern s:Int) (frame:List Int) (t130:Bool) (s_2:List YIT0):pfn Tryz.prog qd_ 6 18446744073709551616 (Ev.get qc_) 6 qb_ J 4094 [] (qax_ unit pdu at' pattern s frame t130 s_2)=qal_ (fun unit pdu s frame t160 s_2=>J 32765 [] (qak_ unit pdu s frame t160 s_2)) unit pdu at' pattern s frame t130 s_2:=by kernel_rfl
theorem qzv_ (J:Orc (As [.bool])) (unit:Int) (pdu:List Int) (at' pattern s:Int) (s_2:List YIT0):pfn Tryz.prog qd_ 6 18446744073709551616 (Ev.get qc_) 6 qb_ J 31 [] (qas_ unit pdu at' pattern s s_2)=qap_ (fun unit pdu at' pattern s frame t130 s_2=>J 4094 [] (qax_ unit pdu at' pattern s frame t130 s_2)) unit pdu at' pattern s s_2:=by kernel_rfl
theorem q10f_ (J:Orc (As [.bool])) (w2:St->Option (As [.bool])) (unit:Int) (pdu:List Int) (at' pattern s:Int) (t71:List YIT3) (t72 t73:Int) (s_2:List YIT0):pfn Tryz.prog qd_ 6 18446744073709551616 (Ev.get qc_) 6 qb_ J 250 [w2] (q5k_ unit pdu at' pattern s t71 t72 t73 s_2)=q5o_ (fun unit pdu at' pattern s s_2=>J 31 [] (qas_ unit pdu at' pattern s s_2)) (fun unit pdu at' pattern s t71 t72 t73 s_2=>w2 (q5k_ unit pdu at' pattern s t71 t72 t73 s_2)) unit pdu at' pattern s t71 t72 t73 s_2:=by kernel_rfl
theorem q10a_ (J:Orc (As [.bool])) (ahead:List YIT3) (unit:Int) (pdu:List Int) (at' pattern s:Int) (ok t66:Bool) (s_2:List YIT0):pfn Tryz.prog qd_ 6 18446744073709551616 (Ev.get qc_) 6 qb_ J 30 [] (qb3_ ahead unit pdu at' pattern s ok t66 s_2)=qpi_ (fun unit pdu at' pattern s t71 t72 t73 s_2=>J 250 [] (q5k_ unit pdu at' pattern s t71 t72 t73 s_2)) ahead unit pdu at' pattern s ok t66 s_2:=by kernel_rfl
theorem qzx_ (J:Orc (As [.bool])) (x:As [.sl (.int .u16),.sl YIT2,.int .u8,.sl (.int .u8),.int .u16,.int .u16]):rfn Tryz.prog qd_ 6 18446744073709551616 (Ev.get qc_) 6 qb_ J x=qao_ (fun ahead unit pdu at' pattern s ok t66 s_2=>J 30 [] (qb3_ ahead unit pdu at' pattern s ok t66 s_2)) x.1 x.2.1 x.2.2.1 x.2.2.2.1 x.2.2.2.2.1 x.2.2.2.2.2.1:=by kernel_rfl
theorem qpy_ (s:Int) (frame:List Int) (s_2:List YIT0):jfn Tryz.prog qd_ 6 18446744073709551616 (Ev.get qc_) 6 qb_ 16383 [] (q5m_ s frame s_2)=q49_ s frame s_2:=by
 rw [q8_ (by decide)]
 rw [q10b_]
 rfl
theorem q104_ (s:Int) (frame:List Int) (t189:Bool) (s_2:List YIT0):jfn Tryz.prog qd_ 6 18446744073709551616 (Ev.get qc_) 6 qb_ 524269 [] (qaz_ s frame t189 s_2)=qat_ s frame t189 s_2:=by
 rw [q8_ (by decide)]
 have e8:(fun s frame s_2=>(jfn Tryz.prog qd_ 6 18446744073709551616 (Ev.get qc_) 6 qb_) 16383 [] (q5m_ s frame s_2))=q49_:=by funext s frame s_2; exact qpy_ s frame s_2
 rw [q103_,e8]
 rfl
theorem q10e_ (s:Int) (frame other:List Int) (t174:Bool) (s_2:List YIT0):jfn Tryz.prog qd_ 6 18446744073709551616 (Ev.get qc_) 6 qb_ 65533 [] (qav_ s frame other t174 s_2)=q7p_ s frame other t174 s_2:=by
 rw [q8_ (by decide)]
 have e7:(fun s frame t189 s_2=>(jfn Tryz.prog qd_ 6 18446744073709551616 (Ev.get qc_) 6 qb_) 524269 [] (qaz_ s frame t189 s_2))=qat_:=by funext s frame t189 s_2; exact q104_ s frame t189 s_2
 have e8:(fun s frame s_2=>(jfn Tryz.prog qd_ 6 18446744073709551616 (Ev.get qc_) 6 qb_) 16383 [] (q5m_ s frame s_2))=q49_:=by funext s frame s_2; exact qpy_ s frame s_2
 rw [q102_,e7,e8]
 rfl
theorem q101_ (unit:Int) (pdu:List Int) (s:Int) (frame:List Int) (t160:Bool) (s_2:List YIT0):jfn Tryz.prog qd_ 6 18446744073709551616 (Ev.get qc_) 6 qb_ 32765 [] (qak_ unit pdu s frame t160 s_2)=q81_ unit pdu s frame t160 s_2:=by
 rw [q8_ (by decide)]
 have e6:(fun s frame other t174 s_2=>(jfn Tryz.prog qd_ 6 18446744073709551616 (Ev.get qc_) 6 qb_) 65533 [] (qav_ s frame other t174 s_2))=q7p_:=by funext s frame other t174 s_2; exact q10e_ s frame other t174 s_2
 rw [qzt_,e6]
 rfl
theorem q106_ (unit:Int) (pdu:List Int) (at' pattern s:Int) (frame:List Int) (t130:Bool) (s_2:List YIT0):jfn Tryz.prog qd_ 6 18446744073709551616 (Ev.get qc_) 6 qb_ 4094 [] (qax_ unit pdu at' pattern s frame t130 s_2)=q8b_ unit pdu at' pattern s frame t130 s_2:=by
 rw [q8_ (by decide)]
 have e5:(fun unit pdu s frame t160 s_2=>(jfn Tryz.prog qd_ 6 18446744073709551616 (Ev.get qc_) 6 qb_) 32765 [] (qak_ unit pdu s frame t160 s_2))=q81_:=by funext unit pdu s frame t160 s_2; exact q101_ unit pdu s frame t160 s_2
 rw [q100_,e5]
 rfl
theorem qzz_ (unit:Int) (pdu:List Int) (at' pattern s:Int) (s_2:List YIT0):jfn Tryz.prog qd_ 6 18446744073709551616 (Ev.get qc_) 6 qb_ 31 [] (qas_ unit pdu at' pattern s s_2)=q89_ unit pdu at' pattern s s_2:=by
 rw [q8_ (by decide)]
 have e4:(fun unit pdu at' pattern s frame t130 s_2=>(jfn Tryz.prog qd_ 6 18446744073709551616 (Ev.get qc_) 6 qb_) 4094 [] (qax_ unit pdu at' pattern s frame t130 s_2))=q8b_:=by funext unit pdu at' pattern s frame t130 s_2; exact q106_ unit pdu at' pattern s frame t130 s_2
 rw [qzv_,e4]
 rfl
theorem qzw_ (unit:Int) (pdu:List Int) (at' pattern s:Int) (t71:List YIT3) (t72 t73:Int) (s_2:List YIT0):jfn Tryz.prog qd_ 6 18446744073709551616 (Ev.get qc_) 6 qb_ 250 [] (q5k_ unit pdu at' pattern s t71 t72 t73 s_2)=q7y_ unit pdu at' pattern s t71 t72 t73 s_2:=by
 rw [q8_ (by decide)]
 rw [qr_ (by kernel_rfl)]
 refine qi_ (σ:=(Int)×(List Int)×(Int)×(Int)×(Int)×(List YIT3)×(Int)×(Int)×(List YIT0)) (mk:=fun s=>q5k_ s.1 s.2.1 s.2.2.1 s.2.2.2.1 s.2.2.2.2.1 s.2.2.2.2.2.1 s.2.2.2.2.2.2.1 s.2.2.2.2.2.2.2.1 s.2.2.2.2.2.2.2.2) (fun w2 s=>?_) 18446744073709551616 (unit,pdu,at',pattern,s,t71,t72,t73,s_2)
 have e3:(fun unit pdu at' pattern s s_2=>(jfn Tryz.prog qd_ 6 18446744073709551616 (Ev.get qc_) 6 qb_) 31 [] (qas_ unit pdu at' pattern s s_2))=q89_:=by funext unit pdu at' pattern s s_2; exact qzz_ unit pdu at' pattern s s_2
 refine (q10f_ _ w2 s.1 s.2.1 s.2.2.1 s.2.2.2.1 s.2.2.2.2.1 s.2.2.2.2.2.1 s.2.2.2.2.2.2.1 s.2.2.2.2.2.2.2.1 s.2.2.2.2.2.2.2.2).trans ?_
 rw [e3]
theorem q105_ (ahead:List YIT3) (unit:Int) (pdu:List Int) (at' pattern s:Int) (ok t66:Bool) (s_2:List YIT0):jfn Tryz.prog qd_ 6 18446744073709551616 (Ev.get qc_) 6 qb_ 30 [] (qb3_ ahead unit pdu at' pattern s ok t66 s_2)=q7r_ ahead unit pdu at' pattern s ok t66 s_2:=by
 rw [q8_ (by decide)]
 have e2:(fun unit pdu at' pattern s t71 t72 t73 s_2=>(jfn Tryz.prog qd_ 6 18446744073709551616 (Ev.get qc_) 6 qb_) 250 [] (q5k_ unit pdu at' pattern s t71 t72 t73 s_2))=q7y_:=by funext unit pdu at' pattern s t71 t72 t73 s_2; exact qzw_ unit pdu at' pattern s t71 t72 t73 s_2
 rw [q10a_,e2]
 rfl
theorem q123_ (x:As [.sl (.int .u16),.sl YIT2,.int .u8,.sl (.int .u8),.int .u16,.int .u16]):evT Tryz.prog qd_ 6 18446744073709551616 (Ev.get qc_) 6 qb_ x=qeo_ x:=by
 have e1:(fun ahead unit pdu at' pattern s ok t66 s_2=>(jfn Tryz.prog qd_ 6 18446744073709551616 (Ev.get qc_) 6 qb_) 30 [] (qb3_ ahead unit pdu at' pattern s ok t66 s_2))=q7r_:=by funext ahead unit pdu at' pattern s ok t66 s_2; exact q105_ ahead unit pdu at' pattern s ok t66 s_2
 rw [q5_,qzx_,e1]
 rfl
theorem q10d_:CtOk Tryz.prog (fun _=>True) 6 ⟨qb_,qeo_⟩:=q3_ (q0_ q19o_ (q0_ q18v_ (q0_ qkr_ (q0_ q1eu_ (q0_ q15r_ (q0_ q13d_ (q0_ q115_ (q0_ q13l_ (q0_ q1i8_ (q0_ q1ca_ (q0_ q1f2_ q4_))))))))))) q123_
end Go.Proofs.Lx
end
section
namespace Go.Proofs.Lx
open Go Ev Sx Pl
set_option maxRecDepth 100000
theorem shl_bit:∀ k:Fin 8,shl .u8 1 (k.1:Int)=((2 ^ k.1:Nat):Int):=by decide +kernel
structure SpI (n a0:Nat) (c0:Nat) (k:Nat) (s:Bool×List Int):Prop where
 l:s.2.length=n
 b:Byt s.2
 p:∃ P,P < 2 ^ k∧(s.1=true->P ≠ 0)∧crcN 65535 (nat s.2)=c0 ^^^ tP (8 * n - a0) P
theorem tP_drop {m k:Nat} (h:k≤m):tP m (2 ^ k)=tP (m - k) 1:=by
 have e:m=k + (m - k):=by omega
 conv=>lhs; rw [e]
 rw [tP_add]
 have:=tP_pow k 1
 rw [Nat.mul_one] at this
 rw [this]
theorem flip_at {xs:List Int} {j:Nat} {y:Int} (hy:xs[j]? = some y) (hb:Byt xs) {d:Nat} (hd:d < 256):crcN 65535 (nat (xs.set j ((y.toNat ^^^ d:Nat):Int)))=crcN 65535 (nat xs) ^^^ tP (8 * (xs.length - j)) d∧Byt (xs.set j ((y.toNat ^^^ d:Nat):Int)):=by
 obtain ⟨hj,hy⟩:=List.getElem?_eq_some_iff.1 hy
 have e1:xs=xs.take j++y::xs.drop (j + 1):=by
  conv=>lhs; rw [<- List.take_append_drop j xs]
  rw [List.drop_eq_getElem_cons hj,hy]
 have e2:xs.set j ((y.toNat ^^^ d:Nat):Int)=xs.take j++((y.toNat ^^^ d:Nat):Int)::xs.drop (j + 1):=List.set_eq_take_append_cons_drop ..|>.trans (if_pos hj)
 have hy2:=hb y (hy ▸ List.getElem_mem hj)
 refine ⟨?_,fun x hx=>?_⟩
 ·have e3:nat xs=nat (xs.take j)++y.toNat::nat (xs.drop (j + 1)):=by
   conv=>lhs; rw [e1]
   simp [nat]
  have e4:nat (xs.set j ((y.toNat ^^^ d:Nat):Int))=nat (xs.take j)++(y.toNat ^^^ d)::nat (xs.drop (j + 1)):=by rw [e2]; simp [nat]
  rw [e4,crcN_flip,<- e3]
  have e5:(nat (xs.drop (j + 1))).length + 1=xs.length - j:=by simp; omega
  rw [e5]
 ·rw [e2] at hx
  rcases List.mem_append.1 hx with h | h
  ·exact hb x (List.mem_of_mem_take h)
  ·rcases List.mem_cons.1 h with h | h
   ·have:y.toNat ^^^ d < 2 ^ 8:=Nat.xor_lt_two_pow (by omega) (by omega)
    subst h
    omega
   ·exact hb x (List.mem_of_mem_drop h)
theorem spoil_eq {b:List Int} (hb:Byt b) (hl:1≤b.length) (hl2:b.length≤1000) {a0:Nat} (ha:a0 < 8 * b.length) (pattern:Int) :
  ∃ out any,qu1_ (b,(a0:Int),pattern,())=some (out,any,())∧out.length=b.length∧Byt out∧(any=true->crcN 65535 (nat out) ≠ crcN 65535 (nat b)):=by
 have key:∀ o:Option (As [.sl (.int .u8),.bool]),o=qev_ (a0:Int) pattern false 0 b->∃ out any,o=some (out,any,())∧out.length=b.length∧Byt out∧(any=true->crcN 65535 (nat out) ≠ crcN 65535 (nat b)):=by
  intro o ho
  subst ho
  unfold qev_
  refine loop_ex (Q:=fun o=>∃ out any,o=some (out,any,())∧out.length=b.length∧Byt out∧(any=true->crcN 65535 (nat out) ≠ crcN 65535 (nat b))) (mk:=fun k (s:Bool×List Int)=>((a0:Int),pattern,s.1,(k:Int),s.2)) (N:=16) (Inv:=SpI b.length a0 (crcN 65535 (nat b))) ?_ ?_ 16 0 (false,b) 18446744073709551616 (by omega) (by omega) ⟨rfl,hb,⟨0,by decide,fun h=>(by cases h),by rw [tP_zero,Nat.xor_zero]⟩⟩
  ·rintro self k ⟨any,out⟩ hk ⟨h1,h2,P,h3,h4,h5⟩
   dsimp only at h1 h2 h4 h5
   have stay:SpI b.length a0 (crcN 65535 (nat b)) (k + 1) (any,out):=⟨h1,h2,P,by rw [Nat.pow_succ]; omega,h4,h5⟩
   have ek:add .i64 (k:Int) 1=((k + 1:Nat):Int):=q1l_ (by omega)
   have ei:add .i64 (a0:Int) (k:Int)=((a0 + k:Nat):Int):=addn64 (by omega)
   have K:∀ (t:Bool),(t=true->a0 + k < 8 * b.length)->∃ b',SpI b.length a0 (crcN 65535 (nat b)) (k + 1) b'∧qjh_ (fun at' pattern any t15 out=>self (at',pattern,any,t15,out)) (a0:Int) pattern any ((a0 + k:Nat):Int) (k:Int) t out=self ((a0:Int),pattern,b'.1,((k + 1:Nat):Int),b'.2):=by
    intro t ht
    unfold qjh_ qvh_
    cases t with
    | false =>
     rw [if_neg (by decide),ek]
     exact ⟨(any,out),stay,rfl⟩
    | true =>
     have hlt:=ht rfl
     have hq:quo .i64 ((a0 + k:Nat):Int) 8=(((a0 + k) / 8:Nat):Int):=quo_nat (d:=8) (by omega)
     have hr:rem ((a0 + k:Nat):Int) 8=(((a0 + k) % 8:Nat):Int):=rem_nat (d:=8)
     have hj:(a0 + k) / 8 < out.length:=by omega
     have hy:out[(a0 + k) / 8]? = some (out[(a0 + k) / 8]'hj):=List.getElem?_eq_getElem hj
     have hyb:=h2 _ (List.getElem_mem hj)
     have hpow:2 ^ ((a0 + k) % 8) < 256:=by
      have:2 ^ ((a0 + k) % 8)≤2 ^ 7:=Nat.pow_le_pow_right (by decide) (by omega)
      omega
     have hs:=shl_bit ⟨(a0 + k) % 8,Nat.mod_lt _ (by decide)⟩
     dsimp only at hs
     have hx:bxor .u8 (out[(a0 + k) / 8]'hj) (shl .u8 1 (((a0 + k) % 8:Nat):Int))=(((out[(a0 + k) / 8]'hj).toNat ^^^ 2 ^ ((a0 + k) % 8):Nat):Int):=by
      rw [hs]
      obtain ⟨m,hm⟩:=Int.eq_ofNat_of_zero_le hyb.1
      rw [hm,bxor8 (by omega) hpow]
      simp
     obtain ⟨f1,f2⟩:=flip_at hy h2 hpow
     have hk2:2 ^ k ≠ 0:=Nat.ne_of_gt (Nat.two_pow_pos k)
     refine ⟨(true,out.set ((a0 + k) / 8) (((out[(a0 + k) / 8]'hj).toNat ^^^ 2 ^ ((a0 + k) % 8):Nat):Int)),⟨by simp [h1],f2,P ^^^ 2 ^ k,?_,?_,?_⟩,?_⟩
     ·exact Nat.xor_lt_two_pow (by rw [Nat.pow_succ]; omega) (by rw [Nat.pow_succ]; omega)
     ·intro _ h0
      have:=xor_cancel h0
      omega
     ·dsimp only
      rw [f1,h5,Nat.xor_assoc,tP_xor,h1]
      congr 2
      have e1:=tP_drop (m:=8 * (b.length - (a0 + k) / 8)) (k:=(a0 + k) % 8) (by omega)
      have e2:=tP_drop (m:=8 * b.length - a0) (k:=k) (by omega)
      rw [e1,e2]
      congr 1
      omega
     ·rw [if_pos rfl,hq,hr,qp_ hy]
      simp only [Option.bind_some]
      rw [q9_ (by rw [q1f_]; omega),hx,ek,Int.toNat_natCast]
   show ∃ b',SpI b.length a0 (crcN 65535 (nat b)) (k + 1) b'∧qq0_ _ _ _ (a0:Int) pattern any (k:Int) out=self ((a0:Int),pattern,b'.1,((k + 1:Nat):Int),b'.2)
   unfold qq0_
   have hm:mul .i64 8 (Int.ofNat out.length)=((8 * b.length:Nat):Int):=by
    rw [q1_,h1,mul64 (by omega) (by omega)]
    simp
   rw [if_pos (by rw [qa_]; omega),q9_ (by rw [q1f_]; omega),ei,hm]
   split
   ·rw [if_pos (by rw [q1f_]; omega)]
    exact K _ (fun h=>by rw [qa_] at h; omega)
   ·exact K false (fun h=>by cases h)
  ·rintro self ⟨any,out⟩ ⟨h1,h2,P,h3,h4,h5⟩
   refine ⟨out,any,rfl,h1,h2,fun ha he=>?_⟩
   have hP:=h4 ha
   have e:crcN 65535 (nat b) ^^^ tP (8 * b.length - a0) P=crcN 65535 (nat b):=h5.symm.trans he
   have e2:tP (8 * b.length - a0) P=0:=by
    have:crcN 65535 (nat b) ^^^ (crcN 65535 (nat b) ^^^ tP (8 * b.length - a0) P)=crcN 65535 (nat b) ^^^ crcN 65535 (nat b):=by rw [e]
    rwa [<- Nat.xor_assoc,Nat.xor_self,Nat.zero_xor] at this
   exact hP (tP_inj (by omega) e2)
 show ∃ out any,qpe_ qev_ b (a0:Int) pattern=_∧_
 unfold qpe_
 rw [qm_ (by omega)]
 exact key _ rfl
end Go.Proofs.Lx
end
section
namespace Go.Proofs.Lx
open Go Ev Sx Pl
set_option maxRecDepth 100000
theorem rtu_P {unit:Int} {pdu:List Int} (h1:1≤pdu.length) (h2:pdu.length≤253) (hu:1≤unit) (hu2:unit≤247):rtuV (putV (unit::pdu))=(unit,pdu,0):=by
 have h:=q1jy_ h1 h2 hu hu2
 rw [rtup_eq] at h
 have h:=Option.some.inj h
 exact Prod.ext (congrArg (·.1) h) (Prod.ext (congrArg (·.2.1) h) (congrArg (·.2.2.1) h))
theorem q1k0_ {unit:Int} {pdu bad:List Int} (h1:1≤pdu.length) (h2:pdu.length≤253) (hu:1≤unit∧unit≤247) (hb:Byt pdu) (hlen:bad.length=(putV (unit::pdu)).length) (hbb:Byt bad)
  (hne:crcN 65535 (nat bad) ≠ crcN 65535 (nat (putV (unit::pdu)))):(rtuV bad).2.2 ≠ 0:=by
 have hpl:=putV_len (unit::pdu)
 have hs:=sumV_rng (unit::pdu)
 have hpb:Byt (putV (unit::pdu)):=by
  intro y hy
  unfold putV at hy
  rcases List.mem_append.1 hy with h | h
  ·rcases List.mem_cons.1 h with h | h
   ·subst h; omega
   ·exact hb y h
  ·simp at h
   rcases h with rfl | rfl <;> omega
 have good:crcN 65535 (nat (putV (unit::pdu)))=0:=by
  apply check0 hpb (by omega)
  have e0:(putV (unit::pdu)).length - 2=(unit::pdu).length:=by omega
  have et:(putV (unit::pdu)).take (unit::pdu).length=unit::pdu:=by unfold putV; exact List.take_left
  have e1:(putV (unit::pdu)).getD ((putV (unit::pdu)).length - 1) 0=sumV (unit::pdu) / 256:=by
   have:(putV (unit::pdu)).length - 1=(unit::pdu).length + 1:=by omega
   rw [this,List.getD_eq_getElem?_getD]
   unfold putV
   rw [List.getElem?_append_right (by omega)]
   simp
  have e2:(putV (unit::pdu)).getD (unit::pdu).length 0=sumV (unit::pdu) % 256:=by
   rw [List.getD_eq_getElem?_getD]
   unfold putV
   rw [List.getElem?_append_right (by omega)]
   simp
  rw [e0,et,e1,e2,numV_eq (by omega) (by omega) (by omega) (by omega)]
  omega
 have hc:(cutV bad).2=11:=by
  unfold cutV
  rw [if_neg (by simp at hpl; omega)]
  split
  ·rename_i hsum
   exact absurd ((check0 hbb (by simp at hpl; omega) hsum).trans good.symm) hne
  ·rfl
 have hr:(rtuV bad).2.2 ≠ 0:=by
  unfold rtuV
  split
  ·show (10:Int) ≠ 0; decide
  ·rw [if_pos (by rw [hc]; decide)]
   show (cutV bad).2 ≠ 0
   rw [hc]; decide
 exact hr
theorem serv_ul (s:TSl) (a:TA):(servS s a).1.1=s.1∧(servS s a).1.2.1=s.2.1:=by
 unfold servS
 split
 ·exact ⟨rfl,rfl⟩
 ·split
  ·exact ⟨rfl,rfl⟩
  ·split
   ·exact ⟨rfl,rfl⟩
   ·split <;> exact ⟨rfl,rfl⟩
theorem full_ul (s:TSl) (b:List Int):(fullS s b).1.1=s.1∧(fullS s b).1.2.1=s.2.1:=by
 unfold fullS
 split
 ·exact ⟨rfl,rfl⟩
 ·exact serv_ul s _
theorem take_ul (s:TSl) (f:List Int):(takeS s f).1.1=s.1∧(takeS s f).1.2.1=s.2.1:=by
 unfold takeS
 split
 ·split
  ·exact ⟨rfl,rfl⟩
  ·exact full_ul s _
 ·split
  ·exact ⟨rfl,rfl⟩
  ·exact full_ul s _
theorem does_ul (s:TSl) (o:TOp):(doesS s o).1.1=s.1∧(doesS s o).1.2.1=s.2.1:=by
 unfold doesS
 split
 ·exact full_ul s _
 ·split
  ·exact take_ul s _
  ·split
   ·exact ⟨rfl,rfl⟩
   ·split <;> exact ⟨rfl,rfl⟩
theorem putV_bytes {b:List Int} (hb:∀ x ∈ b,0≤x∧x≤255):∀ x ∈ putV b,0≤x∧x≤255:=by
 intro x hx
 have hs:=sumV_rng b
 unfold putV at hx
 rcases List.mem_append.1 hx with h | h
 ·exact hb x h
 ·simp at h
  rcases h with rfl | rfl <;> omega
theorem rtub_bad {unit:Int} {pdu:List Int} (hu:unit < 1∨247 < unit):qdk_ (unit,pdu,())=some ([],2,()):=by
 show qfv_ qje_ unit pdu=_
 unfold qfv_
 rw [isUnit_eq,Option.bind_some]
 have e:(decide (1≤unit) && decide (unit≤247))=false:=by
  rw [Bool.eq_false_iff]
  intro h
  rw [Bool.and_eq_true,decide_eq_true_eq,decide_eq_true_eq] at h
  omega
 rw [e,if_pos (by rfl)]
 rfl
theorem take_no {s:TSl} (hl:s.2.1=1) {f:List Int} (hf:(rtuV f).2.2 ≠ 0∨(rtuV f).1 ≠ s.1):takeS s f=(s,[]):=by
 unfold takeS
 rw [if_neg (by omega),if_pos hf]
theorem take_yes {s:TSl} (hl:s.2.1=1) {pdu:List Int} (hu:1≤s.1∧s.1≤247) (h1:1≤pdu.length) (h2:pdu.length≤253):takeS s (putV (s.1::pdu))=((fullS s pdu).1,putV (s.1::repB (fullS s pdu).2)):=by
 unfold takeS
 rw [if_neg (by omega),rtu_P h1 h2 hu.1 hu.2,if_neg (by rintro (e | e); exact e rfl; exact e rfl)]
set_option maxHeartbeats 1000000 in
theorem silent_law {b:List Int} {ahead:List TOp} {unit:Int} {pdu:List Int} {at' pattern:Int} (hb:∀ x ∈ b,0≤x∧x≤65535)
  (hA:∀ o ∈ ahead,o.2.1.length≤300->o.2.2.1.2.2.2.2.1.length≤200->o.2.2.1.2.2.2.2.2.length≤2100->OkO o) (hu:0≤unit∧unit≤255) (hp:∀ x ∈ pdu,0≤x∧x≤255) (hat:0≤at'∧at'≤65535) :
  qeo_ (b,ahead,unit,pdu,at',pattern,())=some (true,()):=by
 show qao_ q7r_ b ahead unit pdu at' pattern=_
 unfold qao_
 have c20:cut ahead 0 (if lt 20 (Int.ofNat ahead.length)=true then 20 else Int.ofNat ahead.length)=some (ahead.take 20):=cut_min ahead 20
 rw [begun_eq (by decide) (by decide),Option.bind_some,c20,Option.bind_some,if_neg (show ¬ (!(begS 0 b 9,true,()).2.1)=true from fun e=>Bool.false_ne_true e)]
 have h20:(ahead.take 20).length≤20:=by rw [List.length_take]; omega
 have hA:∀ o ∈ ahead.take 20,o.2.1.length≤300->o.2.2.1.2.2.2.2.1.length≤200->o.2.2.1.2.2.2.2.2.length≤2100->OkO o:=fun o ho=>hA o (List.mem_of_mem_take ho)
 generalize ahead.take 20=ah at h20 hA
 have K1t:∀ s,q7r_ ah unit pdu at' pattern 0 true true [s]=some (true,()):=fun s=>by
  show Option.bind (qbf_ ()) _=_
  rw [awake21]
  rfl
 rw [few21_eq (by omega),Option.bind_some]
 dsimp only
 cases hf1:fewO ah 20 with
 | false=>rw [if_pos (by rfl)]; exact K1t _
 | true =>
  rw [if_neg (by decide)]
  by_cases hp0:pdu.length=0
  ·rw [if_pos (q6_.2 (by rw [q1_]; omega))]; exact K1t _
  ·rw [if_neg (fun e=>hp0 (by have:=q6_.1 e; rw [q1_] at this; omega))]
   by_cases hp2:253 < pdu.length
   ·rw [gt_iff.2 (by rw [q1_]; omega)]; exact K1t _
   ·have hg:gt (Int.ofNat pdu.length) 253=false:=by
     rw [Bool.eq_false_iff]
     exact fun e=>hp2 (by have:=gt_iff.1 e; rw [q1_] at this; omega)
    rw [hg]
    have a1:=(fewO_iff.1 hf1).1
    have okA:∀ o ∈ ah,OkO o:=fun o ho=>hA o ho (a1 o ho).1 (a1 o ho).2.1 (a1 o ho).2.2
    have ok0:=begS_ok (link:=0) (ticks:=9) hb
    have l0:(begS 0 b 9).2.1=1:=rfl
    have u0:(begS 0 b 9).1=9:=rfl
    generalize begS 0 b 9=s0 at ok0 l0 u0
    show q7y_ unit pdu at' pattern 0 ah (Int.ofNat ah.length) 0 [s0]=_
    have h1:1≤pdu.length:=by omega
    have h2:pdu.length≤253:=by omega
    have K3:∀ s:TSl,OkS s->s.1=9->s.2.1=1->q89_ unit pdu at' pattern 0 [s]=some (true,()):=fun s hs hu9 hl1=>by
     have hbu:∀ u:Int,0≤u∧u≤255->∀ x ∈ putV (u::pdu),0≤x∧x≤255:=fun u hu=>putV_bytes (fun x hx=>by
      rcases List.mem_cons.1 hx with e | e
      ·rw [e]; exact hu
      ·exact hp x e)
     have hfl:∀ u:Int,(putV (u::pdu)).length=pdu.length + 3:=fun u=>by rw [putV_len,List.length_cons]
     have hself:=slsame_self hs
     obtain ⟨okf,rpf⟩:=fullS_ok hs hp
     have hrl:=rep_len rpf
     have hselff:=slsame_self okf
     have K8:∀ f:List Int,1≤f.length->f.length≤1000->(∀ x ∈ f,0≤x∧x≤255)->q49_ 0 f [s]=some (true,()):=fun f hf1 hf2 hfb=>by
      show qar_ 0 f [s]=_
      unfold qar_
      have e1:sub .i64 (Int.ofNat f.length) 1=((f.length - 1:Nat):Int):=by rw [q1_,sub64 (by omega) (by omega)]; omega
      have hsb:∀ x ∈ f.take (f.length - 1),0≤x∧x≤255:=fun x hx=>hfb x (List.mem_of_mem_take hx)
      rw [e1,cut_to (by omega),Option.bind_some,q3p_,Option.bind_some,stake_eq hs hsb (by rw [List.length_take]; omega),Option.bind_some,rtup_eq,Option.bind_some]
      dsimp only
      by_cases hz:(rtuV (f.take (f.length - 1))).2.2=0
      ·rw [if_pos (q6_.2 hz),awake21]
       rfl
      ·rw [if_neg (fun e=>hz (q6_.1 e)),take_no hl1 (Or.inl hz)]
       rw [if_pos (by rfl),Option.bind_some,hself,Option.bind_some,if_pos rfl,awake21]
       rfl
     have K8f:=K8 (putV (9::pdu)) (by rw [hfl]; omega) (by rw [hfl]; omega) (hbu 9 ⟨by decide,by decide⟩)
     have K5:q81_ unit pdu 0 (putV (9::pdu)) false [s]=some (true,()):=by
      show qau_ q7p_ unit pdu 0 (putV (9::pdu)) false [s]=_
      unfold qau_
      rw [if_neg (by decide)]
      have K6f:∀ o,q7p_ 0 (putV (9::pdu)) o false [s]=some (true,()):=fun o=>K8f
      by_cases hur:1≤unit∧unit≤247
      ·rw [rtub_eq hur.1 hur.2 h1 h2,Option.bind_some]
       dsimp only
       rw [if_pos (by rfl),q3p_,Option.bind_some,hu9]
       by_cases hne:unit=9
       ·have:nei unit 9=false:=by
         rw [Bool.eq_false_iff]
         exact fun e=>qj_.1 e hne
        rw [this]
        exact K6f _
       ·rw [qj_.2 hne]
        show qaw_ qat_ q49_ 0 (putV (9::pdu)) (putV (unit::pdu)) true [s]=_
        unfold qaw_
        rw [if_pos rfl,q3p_,Option.bind_some,stake_eq hs (hbu unit hu) (by rw [hfl]; omega),Option.bind_some,take_no hl1 (Or.inr (by rw [rtu_P h1 h2 hur.1 hur.2,hu9]; exact hne))]
        rw [if_neg (show ¬ nei (Int.ofNat ([]:List Int).length) 0=true by decide),Option.bind_some,hself,Option.bind_some]
        exact K8f
      ·rw [rtub_bad (by omega),Option.bind_some]
       dsimp only
       rw [if_neg (by decide)]
       exact K6f _
     have K4:q8b_ unit pdu at' pattern 0 (putV (9::pdu)) false [s]=some (true,()):=by
      show qal_ q81_ unit pdu at' pattern 0 (putV (9::pdu)) false [s]=_
      unfold qal_
      have hm:mul .i64 8 (Int.ofNat (putV (9::pdu)).length)=((8 * (putV (9::pdu)).length:Nat):Int):=by
       have:=hfl 9
       rw [q1_,mul64 (by omega) (by omega)]
       omega
      obtain ⟨n,hn⟩:=Int.eq_ofNat_of_zero_le hat.1
      have hc:rem (cvt .i64 at') ((8 * (putV (9::pdu)).length:Nat):Int)=((n % (8 * (putV (9::pdu)).length):Nat):Int):=by
       rw [cvt64 (by omega) (by omega),hn]
       exact rem_nat
      have hf9:=hfl 9
      obtain ⟨out,any,e1,e2,e3,e4⟩:=spoil_eq (b:=putV (9::pdu)) (hbu 9 ⟨by decide,by decide⟩) (by omega) (by omega) (a0:=n % (8 * (putV (9::pdu)).length)) (Nat.mod_lt _ (by omega)) pattern
      rw [if_neg (by decide),hm,q9_ (qj_.2 (by omega)),hc,e1,Option.bind_some,q3p_,Option.bind_some,stake_eq hs e3 (by omega),Option.bind_some]
      dsimp only
      cases any with
      | false=>rw [if_neg (by decide)]; exact K5
      | true =>
       rw [if_pos rfl,take_no hl1 (Or.inl (q1k0_ h1 h2 ⟨by decide,by decide⟩ hp e2 e3 (e4 rfl)))]
       rw [if_neg (show ¬ nei (Int.ofNat ([]:List Int).length) 0=true by decide),Option.bind_some,hself,Option.bind_some]
       exact K5
     show qap_ q8b_ unit pdu at' pattern 0 [s]=_
     unfold qap_
     have ht:=take_yes hl1 (by rw [hu9]; exact ⟨by decide,by decide⟩) h1 h2
     rw [hu9] at ht
     have hrt:=rtu_P (unit:=9) (pdu:=repB (fullS s pdu).2) (by omega) hrl.2 (by decide) (by decide)
     rw [q3p_,Option.bind_some,hu9,rtub_eq (by decide) (by decide) h1 h2,Option.bind_some]
     dsimp only
     rw [if_neg (by decide),Option.bind_some,stake_eq hs (hbu 9 ⟨by decide,by decide⟩) (by rw [hfl]; omega),Option.bind_some,Option.bind_some,serve_full hs hp,Option.bind_some,ht]
     dsimp only
     rw [rtup_eq,hrt,Option.bind_some]
     dsimp only
     rw [if_neg (by decide),Option.bind_some,hu9,if_neg (by decide)]
     have hsm:qw9_ (repB (fullS s pdu).2,repB (fullS s pdu).2,())=some (true,()):=by
      show some (eqs _ _,())=_
      rw [eqs_iff.2 rfl]
     rw [hsm,Option.bind_some,if_neg (by decide),hselff,Option.bind_some]
     exact K4
    unfold q7y_
    refine (loop_idx (xs:=ah) (mk:=fun i s=>(unit,pdu,at',pattern,0,ah,Int.ofNat ah.length,(i:Int),[s])) (stp:=fun s o=>(doesS s o).1) (fin:=fun _=>some (true,())) (fun _ s=>OkS s∧s.1=9∧s.2.1=1) ?_ ?_ ?_ ah.length 0 s0 _ (by omega) (by omega) ⟨ok0,u0,l0⟩)
    ·intro self i s o ho hs
     have hi':=(List.getElem?_eq_some_iff.1 ho).1
     have oko:=okA o (List.mem_of_getElem? ho)
     show q5o_ _ _ unit pdu at' pattern 0 ah (Int.ofNat ah.length) (i:Int) [s]=_
     unfold q5o_
     rw [if_pos (by rw [qa_,q1_]; omega),qp_ ho,Option.bind_some,q3p_,Option.bind_some,does_eq hs.1 oko,Option.bind_some,Option.bind_some,q1l_ (by omega)]
     rfl
    ·intro i s o ho hs
     have:=does_ul s o
     exact ⟨doesS_ok hs.1 (okA o (List.mem_of_getElem? ho)),by rw [this.1]; exact hs.2.1,by rw [this.2]; exact hs.2.2⟩
    ·intro self s hs
     show q5o_ q89_ _ unit pdu at' pattern 0 ah (Int.ofNat ah.length) (ah.length:Int) [s]=_
     unfold q5o_
     rw [if_neg (by rw [qa_,q1_]; omega)]
     exact K3 s hs.1 hs.2.1 hs.2.2
theorem silent_row (x:As [.sl (.int .u16),.sl tOp,.int .u8,.sl (.int .u8),.int .u16,.int .u16]) (h:Rw.okA [.sl (.int .u16),.sl tOp,.int .u8,.sl (.int .u8),.int .u16,.int .u16] x):qeo_ x=some (true,()) :=
 silent_law (b:=x.1) (ahead:=x.2.1) (unit:=x.2.2.1) (pdu:=x.2.2.2.1) (at':=x.2.2.2.2.1) (pattern:=x.2.2.2.2.2.1) (fun y hy=>ok16 (h.1.2 y hy)) (fun o ho=>okO_of (h.2.1.2 o ho)) (ok8 h.2.2.1) (fun y hy=>ok8 (h.2.2.2.1.2 y hy)) (ok16 h.2.2.2.2.1)
end Go.Proofs.Lx
end
