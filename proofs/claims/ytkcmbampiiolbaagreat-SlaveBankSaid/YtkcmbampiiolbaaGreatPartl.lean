/- Proved in the last of these 13 parts (this is part 12): SlaveBank returns true, whatever the link, the bank, the ticks and what comes. Conditions: those of the given statement, and no others. -/
import Derived.Test.YtkcmbampiiolbaaGreatPartk
import Derived.Test.YtkcmbampiiolbaaGreatParte
import Derived.Test.YtkcmbampiiolbaaGreatProg
import Derived.Test.YtkcmbampiiolbaaGreatParti
set_option linter.unusedVariables false
set_option linter.unusedSimpArgs false
set_option linter.unusedSectionVars false
section
namespace Go.Proofs.Lx
open Go Ev Sx Pl
set_option maxRecDepth 100000
def cmdA (c:TCm):TA:=(23,256,8,272,[c.1,c.2.1,c.2.2.1 / 65536,c.2.2.1 % 65536,c.2.2.2.1,c.2.2.2.2 / 65536,c.2.2.2.2 % 65536,0],[])
structure OkC (c:TCm):Prop where
 o:0≤c.1∧c.1≤65535
 v:0≤c.2.1∧c.2.1≤255
 t:0≤c.2.2.1∧c.2.2.1≤4294967295
 n:0≤c.2.2.2.1∧c.2.2.2.1≤65535
 k:0≤c.2.2.2.2∧c.2.2.2.2≤4294967295
theorem cmdA_ok {c:TCm} (h:OkC c):OkA (cmdA c)∧q21_ (cmdA c)=true∧chkS (cmdA c)=true:=by
 have h1:=h.o
 have h2:=h.v
 have h3:=h.t
 have h4:=h.n
 have h5:=h.k
 refine ⟨⟨(by decide:(0:Int)≤23),(by decide:(23:Int)≤255),(by decide:(0:Int)≤256),(by decide:(256:Int)≤65535),(by decide:(0:Int)≤8),(by decide:(8:Int)≤65535),(by decide:(0:Int)≤272),(by decide:(272:Int)≤65535),?_,(by decide:8≤100000),(by decide:0≤100000)⟩,rfl,?_⟩
 ·intro x hx
  simp only [cmdA,List.mem_cons,List.not_mem_nil,or_false] at hx
  rcases hx with e | e | e | e | e | e | e | e <;> omega
 ·show (rdH 256 8 && decide ((272:Int)=272∧8=8∨(272:Int)=288∧8=20))=true
  decide
def rdQ (p n:Int):TA:=(3,p,n,0,[],[])
theorem rdQ_ok {p n:Int} (hp:0≤p∧p≤65535) (hn:1≤n∧n≤125):OkA (rdQ p n)∧q21_ (rdQ p n)=true:=by
 refine ⟨⟨(by decide:(0:Int)≤3),(by decide:(3:Int)≤255),hp.1,hp.2,by show 0≤n; omega,by show n≤65535; omega,(by decide:(0:Int)≤0),(by decide:(0:Int)≤65535),nilW,(by decide:0≤100000),(by decide:0≤100000)⟩,?_⟩
 show rightS (3,p,n,0,[],[]) (125,0,0,false,false)=true
 unfold rightS
 dsimp only
 have e:withinV n 125=true:=by
  unfold withinV
  rw [if_neg (by decide),if_pos (q12_.2 hn.1),qs_.2 hn.2]
 rw [e]
 rfl
theorem serv_rd (s:TSl) {p n:Int} (hc:rdH p n.toNat=true):servS s (rdQ p n)=(s,(3,0,[],((holdS s.2.2.1).drop p.toNat).take n.toNat,0,0)):=by
 have h3:chkS (rdQ p n)=true:=hc
 unfold servS
 rw [if_neg (by rw [h3]; decide),if_neg (show ¬ ((rdQ p n).1=5∨(rdQ p n).1=15) from (by decide:¬ ((3:Int)=5∨(3:Int)=15))),if_pos (by rfl)]
 rfl
theorem rdH_back {i:Nat} (hi:i < 8):rdH (512 + (i:Int) * 32) 20=true:=by
 have:∀ i:Fin 8,rdH (512 + (i.1:Int) * 32) 20=true:=by decide
 exact this ⟨i,hi⟩
end Go.Proofs.Lx
end
section
namespace Go.Proofs.Lx
open Go Ev Sx Pl
set_option maxRecDepth 100000
instance dBk:DecidableEq TBlk:=inferInstance
instance dSt1:DecidableEq (List Bool×List TBlk):=inferInstance
instance dSt:DecidableEq TStg:=inferInstance
instance dAg1:DecidableEq (TStg×Int):=inferInstance
instance dAg2:DecidableEq (Int×TStg×Int):=inferInstance
instance dAg3:DecidableEq (Int×Int×TStg×Int):=inferInstance
instance dAg4:DecidableEq (Int×Int×Int×TStg×Int):=inferInstance
instance dAg5:DecidableEq (TLs×Int×Int×Int×TStg×Int):=inferInstance
instance dAg:DecidableEq TAg:=inferInstance
instance dSl1:DecidableEq (TAg×List Bool):=inferInstance
instance dSl:DecidableEq TSl:=inferInstance
abbrev TOp:=Int×List Int×TA×TCm
structure OkO (o:TOp):Prop where
 w:0≤o.1∧o.1≤255
 b:∀ x ∈ o.2.1,0≤x∧x≤255
 bl:o.2.1.length≤300
 a:OkA o.2.2.1
 c:OkC o.2.2.2
theorem rwords_eq {c:TCm} (h:OkC c):qa7_ (c,())=some ((cmdA c).2.2.2.2.1,()):=by
 have h2:=h.v
 have h3:=h.t
 have h5:=h.k
 show qoy_ c=_
 unfold qoy_
 have q:∀ x:Int,0≤x∧x≤4294967295->cvt .u16 (quo .u32 x 65536)=x / 65536:=fun x hx=>by
  obtain ⟨n,rfl⟩:=Int.eq_ofNat_of_zero_le hx.1
  have:quo .u32 (n:Int) 65536=((n / 65536:Nat):Int):=by
   unfold quo
   rw [Int.tdiv_eq_ediv_of_nonneg (by omega),wr32]
   omega
  rw [this]
  exact (wu16 (by omega) (by omega)).trans (by omega)
 have r:∀ x:Int,0≤x∧x≤4294967295->cvt .u16 (rem x 65536)=x % 65536:=fun x hx=>by
  unfold rem
  rw [Int.tmod_eq_emod_of_nonneg hx.1]
  exact wu16 (by omega) (by omega)
 rw [q _ h3,q _ h5,r _ h3,r _ h5,show cvt .u16 c.2.1=c.2.1 from wu16 h2.1 (by omega)]
 rfl
def opA (o:TOp):TA:=if o.1 % 6=5 then if o.2.2.2.2.2.2.1 % 2=1 then (16,272,8,0,(cmdA o.2.2.2).2.2.2.2.1,[]) else cmdA o.2.2.2 else o.2.2.1
def opB (o:TOp):List Int×Bool :=
 if o.1 % 6=0 then (o.2.1,true) else if o.1 % 6=5∨o.1 % 6=2 then if q21_ (opA o)=true then (askB (opA o),true) else ([],false) else ([],false)
end Go.Proofs.Lx
end
section
namespace Go.Proofs.Lx
open Go Ev Sx Pl
set_option maxRecDepth 100000
theorem rem_pos {x k:Int} (h:0≤x):rem x k=x % k:=by unfold rem; exact Int.tmod_eq_emod_of_nonneg h
theorem opA_ok {o:TOp} (h:OkO o):OkA (opA o):=by
 unfold opA
 split
 ·split
  ·have:=(cmdA_ok h.c).1
   exact ⟨(by decide:(0:Int)≤16),(by decide:(16:Int)≤255),(by decide:(0:Int)≤272),(by decide:(272:Int)≤65535),(by decide:(0:Int)≤8),(by decide:(8:Int)≤65535),(by decide:(0:Int)≤0),(by decide:(0:Int)≤65535),this.w,(by decide:8≤100000),(by decide:0≤100000)⟩
  ·exact (cmdA_ok h.c).1
 ·exact h.a
theorem opbytes_eq {o:TOp} (h:OkO o):qeq_ (o,())=some ((opB o).1,(opB o).2,()):=by
 have hw:=h.w
 have hc:=h.c.n
 have hA:=opA_ok h
 have K:∀ a:TA,OkA a->q9e_ a=some (if q21_ a=true then (askB a,true,()) else ([],false,())):=fun a ha=>by
  show qdd_ a=_
  unfold qdd_
  rw [quj_ ha]
  split <;> rfl
 obtain ⟨w,b,a,c⟩:=o
 dsimp only at hw hc
 show qde_ q9e_ (w,b,a,c)=_
 unfold qde_
 dsimp only
 rw [rem_pos hw.1,rem_pos hc.1,rwords_eq h.c,Option.bind_some,Option.bind_some]
 unfold opB
 dsimp only
 by_cases h0:w % 6=0
 ·rw [if_pos (q4_.2 h0),if_pos h0]
 ·rw [if_neg (fun e=>h0 (q4_.1 e)),if_neg h0]
  by_cases h5:w % 6=5
  ·rw [if_pos (q4_.2 h5),if_pos (Or.inl h5)]
   have e:opA (w,b,a,c)=if c.2.2.2.1 % 2=1 then (16,272,8,0,(cmdA c).2.2.2.2.1,[]) else cmdA c:=by
    unfold opA
    rw [if_pos h5]
   rw [e] at hA ⊢
   by_cases h1:c.2.2.2.1 % 2=1
   ·rw [if_pos h1] at hA
    rw [if_pos (q4_.2 h1),if_pos h1,K _ hA]
    split <;> rfl
   ·rw [if_neg h1] at hA
    rw [if_neg (fun e=>h1 (q4_.1 e)),if_neg h1]
    refine (K _ hA).trans ?_
    split <;> rfl
  ·rw [if_neg (fun e=>h5 (q4_.1 e))]
   have e:opA (w,b,a,c)=a:=by
    unfold opA
    rw [if_neg h5]
   rw [e] at hA ⊢
   by_cases h2:w % 6=2
   ·rw [if_pos (q4_.2 h2),if_pos (Or.inr h2),K _ hA]
    split <;> rfl
   ·rw [if_neg (fun e=>h2 (q4_.1 e)),if_neg (by omega)]
theorem opB_bytes {o:TOp} (h:OkO o):∀ x ∈ (opB o).1,0≤x∧x≤255:=by
 unfold opB
 split
 ·exact h.b
 ·split
  ·split
   ·rename_i hr
    exact askB_bytes (q5a_ hr)
   ·exact fun x hx=>by cases hx
  ·exact fun x hx=>by cases hx
def doesS (s:TSl) (o:TOp):TSl×List Int :=
 if (opB o).2=true then ((fullS s (opB o).1).1,repB (fullS s (opB o).1).2)
 else if o.1 % 6=1 then takeS s o.2.1 else if o.1 % 6=3 then (tickS s,[]) else if o.1 % 6=4 then (bootS s,[]) else (s,[])
theorem does_eq {s:TSl} (h:OkS s) {o:TOp} (ho:OkO o):qc2_ (o,s,())=some ((doesS s o).1,(doesS s o).2,()):=by
 have hw:=ho.w
 show qlo_ o s=_
 unfold qlo_ doesS
 rw [opbytes_eq ho,Option.bind_some,rem_pos hw.1]
 dsimp only
 cases e:(opB o).2 with
 | true =>
  rw [if_pos rfl,serve_full h (opB_bytes ho)]
  rfl
 | false =>
  rw [if_neg Bool.false_ne_true,if_neg Bool.false_ne_true]
  by_cases h1:o.1 % 6=1
  ·rw [if_pos (q4_.2 h1),if_pos h1,stake_eq h ho.b (by have:=ho.bl; omega)]
   rfl
  ·rw [if_neg (fun e=>h1 (q4_.1 e)),if_neg h1]
   by_cases h3:o.1 % 6=3
   ·rw [if_pos (q4_.2 h3),if_pos h3,stick_eq h]
    rfl
   ·rw [if_neg (fun e=>h3 (q4_.1 e)),if_neg h3]
    by_cases h4:o.1 % 6=4
    ·rw [if_pos (q4_.2 h4),if_pos h4,sboot_eq h]
     rfl
    ·rw [if_neg (fun e=>h4 (q4_.1 e)),if_neg h4]
theorem doesS_ok {s:TSl} (h:OkS s) {o:TOp} (ho:OkO o):OkS (doesS s o).1:=by
 unfold doesS
 split
 ·exact (fullS_ok h (opB_bytes ho)).1
 ·split
  ·exact takeS_ok h ho.b
  ·split
   ·exact tickS_ok h
   ·split
    ·exact bootS_ok h
    ·exact h
def oneO (o:TOp):Bool:=decide (o.2.1.length≤300) && fewV o.2.2.1.2.2.2.2.1 o.2.2.1.2.2.2.2.2
def fewO (l:List TOp) (m:Int):Bool:=l.all oneO && decide ((l.length:Int)≤m)
theorem few21_eq {l:List TOp} {m:Int} (hl:l.length≤1000000000):qht_ (l,m,())=some (fewO l m,()):=by
 show qm5_ l m l (Int.ofNat l.length) 0=_
 have hg:∀ k i n:Nat,i + k=l.length->k < n->loopF (fun (self:List TOp×Int×List TOp×Int×Int->Option (As [.bool])) (s:List TOp×Int×List TOp×Int×Int)=>qb3_ (qer_ (fun l most t7 t8 t9=>self (l,most,t7,t8,t9))) qe6_ (fun l most t7 t8 t9=>self (l,most,t7,t8,t9)) s.1 s.2.1 s.2.2.1 s.2.2.2.1 s.2.2.2.2) n (l,m,l,Int.ofNat l.length,(i:Int))=some ((l.drop i).all oneO && decide ((l.length:Int)≤m),()):=by
  intro k
  induction k with
  | zero =>
   intro i n hi hn
   obtain ⟨n,rfl⟩:∃ q,n=q + 1:=⟨n - 1,by omega⟩
   have:i=l.length:=by omega
   subst this
   rw [q20_]
   show qb3_ _ qe6_ _ l m l (Int.ofNat l.length) (l.length:Int)=_
   unfold qb3_
   rw [if_neg (by rw [q7_,q1_]; omega),List.drop_length,List.all_nil,Bool.true_and]
   show some (le (Int.ofNat l.length) m,())=_
   rw [le_dec,q1_]
  | succ k ih =>
   intro i n hi hn
   obtain ⟨n,rfl⟩:∃ q,n=q + 1:=⟨n - 1,by omega⟩
   obtain ⟨x,hx⟩:=get_of (xs:=l) (i:=i) (by omega)
   have hd:l.drop i=x::l.drop (i + 1):=by rw [List.drop_eq_getElem_cons (by omega)]; congr 1; exact (List.getElem?_eq_some_iff.1 hx).2
   have ih:=ih (i + 1) n (by omega) (by omega)
   rw [q20_]
   generalize loopF _ n=self at ih ⊢
   show qb3_ (qer_ _) qe6_ _ l m l (Int.ofNat l.length) (i:Int)=_
   have K2:∀ t,qer_ (fun l most t7 t8 t9=>self (l,most,t7,t8,t9)) l m l (Int.ofNat l.length) (i:Int) t=if t=true then some (false,()) else self (l,m,l,Int.ofNat l.length,((i + 1:Nat):Int)):=fun t=>by
    show qnq_ _ _ _ _ _ _ _=_
    unfold qnq_
    rw [q15_ (by omega)]
   unfold qb3_
   rw [if_pos (by rw [q7_,q1_]; omega),qj_ hx,Option.bind_some,K2,few_eq,Option.bind_some,K2,ih,hd]
   rw [List.all_cons]
   unfold oneO
   by_cases q1:300 < x.2.1.length
   ·rw [if_pos (gt_iff.2 (by rw [q1_]; omega)),if_pos rfl,decide_eq_false (by omega)]
    rfl
   ·rw [if_neg (fun e=>q1 (by have:=gt_iff.1 e; rw [q1_] at this; omega)),decide_eq_true (show x.2.1.length≤300 by omega),Bool.true_and]
    dsimp only
    cases fewV x.2.2.1.2.2.2.2.1 x.2.2.1.2.2.2.2.2 with
    | true=>rw [if_neg (by decide),Bool.true_and]
    | false=>rw [if_pos (by rfl)]; rfl
 have:=hg l.length 0 18446744073709551616 (by omega) (by omega)
 exact this
theorem fewO_iff {l:List TOp} {m:Int}:fewO l m=true ↔ (∀ o ∈ l,o.2.1.length≤300∧o.2.2.1.2.2.2.2.1.length≤200∧o.2.2.1.2.2.2.2.2.length≤2100)∧(l.length:Int)≤m:=by
 unfold fewO oneO
 simp only [Bool.and_eq_true,decide_eq_true_eq,few_iff,List.all_eq_true]
abbrev tOp:Ty:=.pr (.int .u8) (.pr (.sl (.int .u8)) (.pr (.pr (.int .u8) (.pr (.int .u16) (.pr (.int .u16) (.pr (.int .u16) (.pr (.sl (.int .u16)) (.sl .bool)))))) (.pr (.int .u16) (.pr (.int .u8) (.pr (.int .u32) (.pr (.int .u16) (.int .u32)))))))
theorem okw32 {x:Int} (h:(Lit.int .u32 x).wf=true):0≤x∧x≤4294967295:=by
 simp [Lit.wf] at h
 have e1:IntKind.u32.min=0:=rfl
 have e2:IntKind.u32.max=4294967295:=rfl
 omega
theorem okO_of {o:TOp} (h:Rw.okV tOp o) (h1:o.2.1.length≤300) (h2:o.2.2.1.2.2.2.2.1.length≤200) (h3:o.2.2.1.2.2.2.2.2.length≤2100):OkO o:=by
 obtain ⟨q1,q2,⟨r1,r2,r3,r4,r5,r6⟩,⟨s1,s2,s3,s4,s5⟩⟩:=h
 exact ⟨ok8 q1,fun x hx=>ok8 (q2.2 x hx),h1,⟨(ok8 r1).1,(ok8 r1).2,(ok16 r2).1,(ok16 r2).2,(ok16 r3).1,(ok16 r3).2,(ok16 r4).1,(ok16 r4).2,fun x hx=>ok16 (r5.2 x hx),by omega,by omega⟩,⟨ok16 s1,ok8 s2,okw32 s3,ok16 s4,okw32 s5⟩⟩
end Go.Proofs.Lx
end
section
open Go Go.Proofs Ev Sx
set_option maxRecDepth 100000
namespace Go.Proofs.Lx
abbrev YOT4:Type:=(Int×Int×Int×Int×List Int×List Bool)
abbrev YOT0:Type:=(Int×List Int×YOT4×Int×Int×Int×Int×Int)
abbrev YOT5:Type:=(List Int×(Int×Int)×Int×Int×Int×(Int×List Bool×List (Int×List Int))×Int)
abbrev YOT1:Type:=(Int×Int×YOT5×List Bool)
abbrev YOT2:Ty:=(.pr (.int .u8) (.pr (.sl (.int .u8)) (.pr (.pr (.int .u8) (.pr (.int .u16) (.pr (.int .u16) (.pr (.int .u16) (.pr (.sl (.int .u16)) (.sl .bool)))))) (.pr (.int .u16) (.pr (.int .u8) (.pr (.int .u32) (.pr (.int .u16) (.int .u32))))))))
def q14v_ (what:Int):Option (As [.int .u8]) :=
 if eqi (rem what 2) 0=true then some (2,()) else some (5,())
def q1aj_ (x:As [.int .u8]):Option (As [.int .u8]):=q14v_ x.1
def qxe_ (j2:List YOT0->Int->List YOT0->Int->Int->List YOT1->Option (As [.bool])) (ahead l:List YOT0) (s:Int) (ok t47:Bool) (s_2:List YOT1):Option (As [.bool]) :=
 if t47=true then if ok=true then Option.bind (q88_ ()) fun y=>some (y.1,()) else some (false,()) else j2 l s ahead (Int.ofNat (List.length ahead)) 0 s_2
def qwb_ (j3:List YOT0->Int->List YOT1->Option (As [.bool])) (self2:List YOT0->Int->List YOT0->Int->Int->List YOT1->Option (As [.bool])) (l:List YOT0) (s:Int) (t52:List YOT0) (t53 t54:Int) (s_2:List YOT1):Option (As [.bool]) :=
 if lt t54 t53=true then Option.bind (at? t52 t54) fun y=>Option.bind (at? s_2 s) fun y_1=>Option.bind (qc2_ (y,y_1,())) fun y=>Option.bind (at? s_2 s) fun x=>self2 l s t52 t53 (add .i64 t54 1) (List.set s_2 (Int.toNat s) y.1) else j3 l s s_2
def qw1_ (j4:Int->List YOT0->Int->Int->List YOT1->Option (As [.bool])) (l:List YOT0) (s:Int) (s_2:List YOT1):Option (As [.bool]) :=
 Option.bind (at? s_2 s) fun y=>if eqi y.2.2.1.2.2.1 0=true then Option.bind (q88_ ()) fun y=>some (y.1,()) else j4 s l (Int.ofNat (List.length l)) 0 s_2
def qx2_ (j5:Int->List YOT0->Int->Int->List YOT1->Int×List Int×YOT4×Int×Int×Int×Int×Int->Option (As [.bool])) (self4:Int->List YOT0->Int->Int->List YOT1->Option (As [.bool])) (s:Int) (t70:List YOT0) (t71 t72:Int) (s_2:List YOT1):Option (As [.bool]) :=
 if lt t72 t71=true then Option.bind (at? t70 t72) fun y=>Option.bind (q1aj_ (y.1,())) fun y_1=>Option.bind (at? s_2 s) fun y_2=>if eqi y.2.2.2.1 y_2.2.2.1.2.1.1=true then j5 s t70 t71 t72 s_2 (y_1.1,y.2.1,y.2.2.1,add .u16 y.2.2.2.1 1,y.2.2.2.2) else j5 s t70 t71 t72 s_2 (y_1.1,y.2) else Option.bind (q88_ ()) fun y=>some (y.1,())
def qwx_ (j6:Int->List YOT0->Int->Int->Bool->List YOT1->Int×List Int×YOT4×Int×Int×Int×Int×Int->Option (As [.bool])) (self4:Int->List YOT0->Int->Int->List YOT1->Option (As [.bool])) (s:Int) (t70:List YOT0) (t71 t72:Int) (s_2:List YOT1) (o:Int×List Int×YOT4×Int×Int×Int×Int×Int):Option (As [.bool]) :=
 if gt (Int.ofNat (List.length o.2.2.1.2.2.2.2.1)) 0=true then Option.bind (at? o.2.2.1.2.2.2.2.1 0) fun y=>Option.bind (at? s_2 s) fun y_1=>j6 s t70 t71 t72 (eqi y y_1.2.2.1.2.1.1) s_2 o else j6 s t70 t71 t72 false s_2 o
def qxj_ (j7:Int->List YOT0->Int->Int->List YOT1->Int×List Int×YOT4×Int×Int×Int×Int×Int->Option (As [.bool])) (self4:Int->List YOT0->Int->Int->List YOT1->Option (As [.bool])) (s:Int) (t70:List YOT0) (t71 t72:Int) (t110:Bool) (s_2:List YOT1) (o:Int×List Int×YOT4×Int×Int×Int×Int×Int):Option (As [.bool]) :=
 if t110=true then need (small (0 + List.length o.2.2.1.2.2.2.2.1)) (Option.bind (at? o.2.2.1.2.2.2.2.1 0) fun x=>Option.bind (at? o.2.2.1.2.2.2.2.1 0) fun y=>Option.bind (at? o.2.2.1.2.2.2.2.1 0) fun x=>Option.bind (at? o.2.2.1.2.2.2.2.1 0) fun x=>j7 s t70 t71 t72 s_2 (o.1,o.2.1,(o.2.2.1.1,o.2.2.1.2.1,o.2.2.1.2.2.1,o.2.2.1.2.2.2.1,List.set o.2.2.1.2.2.2.2.1 0 (add .u16 y 1),o.2.2.1.2.2.2.2.2),o.2.2.2)) else j7 s t70 t71 t72 s_2 o
def qwu_ (self4:Int->List YOT0->Int->Int->List YOT1->Option (As [.bool])) (s:Int) (t70:List YOT0) (t71 t72:Int) (s_2:List YOT1) (o:Int×List Int×YOT4×Int×Int×Int×Int×Int):Option (As [.bool]) :=
 Option.bind (at? s_2 s) fun y=>Option.bind (qc2_ (o,y,())) fun y=>Option.bind (at? s_2 s) fun y_1=>Option.bind (q102_ (y.1.2.2.1,y_1.2.2.1,())) fun y_2=>if (!y_2.1)=true then some (false,()) else Option.bind (at? s_2 s) fun x=>self4 s t70 t71 (add .i64 t72 1) (List.set s_2 (Int.toNat s) y.1)
def qx9_ (j1:List YOT0->List YOT0->Int->Bool->Bool->List YOT1->Option (As [.bool])) (link:Int) (b:List Int) (ticks:Int) (ahead l:List YOT0):Option (As [.bool]) :=
 Option.bind (qk8_ (link,b,ticks,())) fun y=>Option.bind (cut ahead 0 (if lt 40 (Int.ofNat (List.length ahead))=true then 40 else Int.ofNat (List.length ahead))) fun y_1=>Option.bind (cut l 0 (if lt 30 (Int.ofNat (List.length l))=true then 30 else Int.ofNat (List.length l))) fun y_2=>if (!y.2.1)=true then j1 y_1 y_2 0 y.2.1 true [y.1] else Option.bind (qht_ (y_1,40,())) fun y_3=>if (!y_3.1)=true then j1 y_1 y_2 0 y.2.1 true [y.1] else Option.bind (qht_ (y_2,30,())) fun y_4=>j1 y_1 y_2 0 y.2.1 (!y_4.1) [y.1]
def qx7_ (u4:Int->List YOT0->Int->Int->List YOT1->Option (As [.bool])) (s:Int) (t70:List YOT0) (t71 t72:Int) (s_2:List YOT1) (o:Int×List Int×YOT4×Int×Int×Int×Int×Int):Option (As [.bool]):=qwu_ u4 s t70 t71 t72 s_2 o
def qwl_ (u4:Int->List YOT0->Int->Int->List YOT1->Option (As [.bool])) (s:Int) (t70:List YOT0) (t71 t72:Int) (t110:Bool) (s_2:List YOT1) (o:Int×List Int×YOT4×Int×Int×Int×Int×Int):Option (As [.bool]):=qxj_ (qx7_ u4) u4 s t70 t71 t72 t110 s_2 o
def qwe_ (u4:Int->List YOT0->Int->Int->List YOT1->Option (As [.bool])) (s:Int) (t70:List YOT0) (t71 t72:Int) (s_2:List YOT1) (o:Int×List Int×YOT4×Int×Int×Int×Int×Int):Option (As [.bool]):=qwx_ (qwl_ u4) u4 s t70 t71 t72 s_2 o
def qw8_ (s:Int) (t70:List YOT0) (t71 t72:Int) (s_2:List YOT1):Option (As [.bool]) :=
 loopF (fun (self:(Int)×(List YOT0)×(Int)×(Int)×(List YOT1)->Option (As [.bool])) (s:(Int)×(List YOT0)×(Int)×(Int)×(List YOT1))=>qx2_ (qwe_ (fun s t70 t71 t72 s_2=>self (s,t70,t71,t72,s_2))) (fun s t70 t71 t72 s_2=>self (s,t70,t71,t72,s_2)) s.1 s.2.1 s.2.2.1 s.2.2.2.1 s.2.2.2.2) 18446744073709551616 (s,t70,t71,t72,s_2)
def qxc_ (l:List YOT0) (s:Int) (s_2:List YOT1):Option (As [.bool]):=qw1_ (qw8_) l s s_2
def qwv_ (l:List YOT0) (s:Int) (t52:List YOT0) (t53 t54:Int) (s_2:List YOT1):Option (As [.bool]) :=
 loopF (fun (self:(List YOT0)×(Int)×(List YOT0)×(Int)×(Int)×(List YOT1)->Option (As [.bool])) (s:(List YOT0)×(Int)×(List YOT0)×(Int)×(Int)×(List YOT1))=>qwb_ (qxc_) (fun l s t52 t53 t54 s_2=>self (l,s,t52,t53,t54,s_2)) s.1 s.2.1 s.2.2.1 s.2.2.2.1 s.2.2.2.2.1 s.2.2.2.2.2) 18446744073709551616 (l,s,t52,t53,t54,s_2)
def qxg_ (ahead l:List YOT0) (s:Int) (ok t47:Bool) (s_2:List YOT1):Option (As [.bool]):=qxe_ (qwv_) ahead l s ok t47 s_2
def q1ay_ (x:As [.int .u8,.sl (.int .u16),.int .u8,.sl YOT2,.sl YOT2]):Option (As [.bool]):=qx9_ qxg_ x.1 x.2.1 x.2.2.1 x.2.2.2.1 x.2.2.2.2.1
end Go.Proofs.Lx
end
section
namespace Go.Proofs.Lx
open Go Ev Sx Pl
set_option maxRecDepth 100000
theorem cut_min {α:Type} (l:List α) (m:Nat):cut l 0 (if lt (m:Int) (Int.ofNat l.length)=true then (m:Int) else Int.ofNat l.length)=some (l.take m):=by
 by_cases h:m < l.length
 ·rw [if_pos (by rw [q7_,q1_]; omega)]
  exact cut_to (by omega)
 ·rw [if_neg (by rw [q7_,q1_]; omega),q1_,cut_to (Nat.le_refl _),List.take_of_length_le (Nat.le_refl _),List.take_of_length_le (by omega)]
end Go.Proofs.Lx
end
section
namespace Go.Proofs.Lx
open Go Ev Sx Pl
set_option maxRecDepth 100000
def BkA (a b:TAg):Prop:=(b.2.2.2.2.1=a.2.2.2.2.1∧b.1=a.1)∨(b.2.2.2.2.1 ≠ a.2.2.2.2.1∧a.2.2.1=2∧b.2.2.2.2.1=a.2.2.2.1∧b.1=overB a.1 (blkS a.2.2.2.2.2.1.2.1 a.2.2.2.2.2.1.2.2))
theorem q3c_ (a:TAg):BkA a a:=Or.inl ⟨rfl,rfl⟩
theorem bk_own {a b:TAg} (h:BkA (ownA a) b):BkA a b:=by
 rcases h with h | ⟨h1,h2,h3,h4⟩
 ·exact Or.inl h
 ·refine Or.inr ⟨h1,h2,h3,?_⟩
  have e:b.1=overB a.1 (blkS a.2.2.2.2.2.1.2.1 (nzB a.2.2.2.2.2.1.2.1 a.2.2.2.2.2.1.2.2)):=h4
  rw [e,blkS_nz]
theorem bk_do (a:TAg) (c:TCm):BkA a (doS a c).1:=by
 unfold doS
 split
 ·exact q3c_ a
 ·split
  ·exact q3c_ a
  ·split
   ·split
    ·exact q3c_ a
    ·split
     ·exact Or.inl ⟨rfl,rfl⟩
     ·exact Or.inl ⟨rfl,rfl⟩
   ·split
    ·split
     ·exact Or.inl ⟨rfl,rfl⟩
     ·exact q3c_ a
    ·split
     ·split
      ·exact q3c_ a
      ·rename_i q1
       split
       ·rename_i q2
        exact Or.inr ⟨fun e=>q1 e.symm,q2.1,q2.2.symm,rfl⟩
       ·exact q3c_ a
     ·split
      ·exact q3c_ a
      ·split
       ·exact Or.inl ⟨rfl,rfl⟩
       ·exact q3c_ a
theorem bk_put (a:TAg) (o t n:Int) (x:TBlk):BkA a (putA a o t n x).1:=by
 unfold putA
 split
 ·exact q3c_ a
 ·split
  ·exact q3c_ a
  ·split
   ·exact q3c_ a
   ·exact Or.inl ⟨rfl,rfl⟩
theorem bk_wrote (a:TAg) (p:Int) (w:List Int):BkA a (wroteS a p w).1:=by
 unfold wroteS
 split
 ·split
  ·exact q3c_ a
  ·split
   ·exact q3c_ a
   ·exact bk_own (bk_do _ _)
 ·split
  ·exact q3c_ a
  ·split
   ·exact q3c_ a
   ·exact bk_own (bk_put _ _ _ _ _)
theorem bk_serv (s:TSl) (a:TA):BkA s.2.2.1 (servS s a).1.2.2.1:=by
 unfold servS
 split
 ·exact q3c_ _
 ·split
  ·exact q3c_ _
  ·split
   ·exact q3c_ _
   ·split
    ·exact q3c_ _
    ·exact bk_wrote _ _ _
theorem bk_full (s:TSl) (b:List Int):BkA s.2.2.1 (fullS s b).1.2.2.1:=by
 unfold fullS
 split
 ·exact q3c_ _
 ·exact bk_serv _ _
theorem putV_ne (b:List Int):putV b ≠ []:=by
 unfold putV
 intro e
 have:=congrArg List.length e
 rw [List.length_append] at this
 simp at this
theorem mbapV_ne (t u:Int) (b:List Int):mbapV t u b ≠ []:=by
 unfold mbapV
 intro e
 cases e
theorem bk_take (s:TSl) (f:List Int):BkA s.2.2.1 (takeS s f).1.2.2.1∧((takeS s f).1.2.2.1.2.2.2.2.1 ≠ s.2.2.1.2.2.2.2.1->(takeS s f).2 ≠ []):=by
 unfold takeS
 split
 ·split
  ·exact ⟨q3c_ _,fun e=>absurd rfl e⟩
  ·exact ⟨bk_full _ _,fun _=>mbapV_ne _ _ _⟩
 ·split
  ·exact ⟨q3c_ _,fun e=>absurd rfl e⟩
  ·exact ⟨bk_full _ _,fun _=>putV_ne _⟩
theorem bk_tick (a:TAg):BkA a (tickA a):=by
 unfold tickA
 split
 ·exact Or.inl ⟨rfl,rfl⟩
 ·exact Or.inl ⟨rfl,rfl⟩
theorem bk_boot (a:TAg):BkA a (bootA a):=by
 unfold bootA
 split
 ·exact Or.inl ⟨rfl,rfl⟩
 ·exact q3c_ _
theorem bk_does {s:TSl} (h:OkS s) {o:TOp} (ho:OkO o):BkA s.2.2.1 (doesS s o).1.2.2.1∧((doesS s o).1.2.2.1.2.2.2.2.1 ≠ s.2.2.1.2.2.2.2.1->(doesS s o).2 ≠ []):=by
 unfold doesS
 split
 ·refine ⟨bk_full _ _,fun _ e=>?_⟩
  have:=rep_len (fullS_ok h (opB_bytes ho)).2
  have e:repB (fullS s (opB o).1).2=[]:=e
  rw [e] at this
  simp at this
 ·split
  ·exact bk_take _ _
  ·split
   ·have:BkA s.2.2.1 (tickS s).2.2.1:=bk_own (bk_tick _)
    refine ⟨this,fun e=>absurd ?_ e⟩
    show (tickA (ownA s.2.2.1)).2.2.2.2.1=_
    unfold tickA
    split <;> rfl
   ·split
    ·have:BkA s.2.2.1 (bootS s).2.2.1:=bk_own (bk_boot _)
     refine ⟨this,fun e=>absurd ?_ e⟩
     show (bootA (ownA s.2.2.1)).2.2.2.2.1=_
     unfold bootA
     split <;> rfl
    ·exact ⟨q3c_ _,fun e=>absurd rfl e⟩
end Go.Proofs.Lx
end
section
namespace Go.Proofs.Lx
open Go Ev Sx Pl
set_option maxRecDepth 100000
theorem equal_rr {s1:List Int} (h:s1.length≤1000000):q7v_ (s1,())=some (true,s1,()):=by
 show q5r_ q46_ s1=_
 unfold q5r_
 rw [if_neg (by rw [qk_]; omega)]
 unfold q46_
 refine loop_dt (N:=s1.length) (mk:=fun i=>(Int.ofNat s1.length,(i:Int),s1)) ?_ ?_ s1.length 0 _ (by omega) (by omega)
 ·intro self i hi
  show q2z_ _ (Int.ofNat s1.length) (i:Int) s1=_
  obtain ⟨x,hx⟩:=get_of (xs:=s1) (i:=i) hi
  unfold q2z_
  rw [if_pos (by rw [q7_,q1_]; omega),qj_ hx]
  simp only [Option.bind_some]
  rw [if_neg (by rw [qk_]; omega),q15_ (by omega)]
 ·intro self
  show q2z_ _ (Int.ofNat s1.length) (s1.length:Int) s1=_
  unfold q2z_
  rw [if_neg (by rw [q7_,q1_]; omega)]
theorem wordR_r {f:Int} {w:List Int} (h1:1≤w.length) (h2:w.length≤125):q47_ ((),f,0,[],0,0,w,())=some (true,w,()):=by
 show q9j_ () f 0 [] 0 0 w=_
 unfold q9j_
 rw [if_pos (by rw [q12_,q1_]; omega),if_pos (by rw [qs_,q1_]; omega)]
 have e:qqv_ (f,0,[],0,0,f,0,[],0,0,w,())=some (true,w,()):=by
  show qlu_ f 0 [] 0 0 f 0 [] 0 0 w=_
  unfold qlu_
  rw [if_pos (q4_.2 rfl),if_pos (q4_.2 rfl),if_pos (q4_.2 rfl),if_pos (q4_.2 rfl),equalB_eq (by decide),Option.bind_some]
  dsimp only
  rw [if_pos (decide_eq_true rfl),equal_rr (by omega),Option.bind_some]
 rw [e,Option.bind_some]
theorem numbers_r {l out:List Int} (h:out.length + 2 * l.length≤1000000):qh8_ (out,l,())=some (l,out++l.flatMap two,()):=by
 show qcn_ q8f_ out l=_
 unfold qcn_ q8f_
 refine (loop_idx (xs:=l) (mk:=fun i acc=>(Int.ofNat l.length,(i:Int),l,acc)) (stp:=fun o y=>o++two y) (fin:=fun acc=>some (l,acc,())) (fun i acc=>acc.length≤out.length + 2 * i) ?_ ?_ ?_ l.length 0 out _ (by omega) (by omega) (by omega)).trans ?_
 ·intro self i acc x hx hI
  have hi:=(List.getElem?_eq_some_iff.1 hx).1
  show q6i_ _ (Int.ofNat l.length) (i:Int) l acc=_
  unfold q6i_
  rw [if_pos (by rw [q7_,q1_]; omega),qj_ hx]
  simp only [Option.bind_some]
  rw [qm_ (by omega),two_eq,q15_ (by omega)]
 ·intro i acc x hx hI
  simp [two]
  omega
 ·intro self acc _
  show q6i_ _ (Int.ofNat l.length) (l.length:Int) l acc=_
  unfold q6i_
  rw [if_neg (by rw [q7_,q1_]; omega)]
 ·rw [List.drop_zero,foldl_app]
theorem wordB_r {f:Int} {w:List Int} (h2:w.length≤1000):q4a_ ((),f,0,[],0,0,w,())=some (wordB (f,0,[],w,0,0),w,()):=by
 show q9k_ () f 0 [] 0 0 w=_
 unfold q9k_
 rw [mul64 (by rw [q1_]; omega) (by rw [q1_]; omega),cvt8,numbers_r (by simp; omega),Option.bind_some]
 rfl
theorem list_r {b:List Int} (h:b.length≤100000):qmb_ (b,())=some (listS b,()):=by
 show qhf_ qct_ b=_
 unfold qhf_
 have hq:quo .i64 (Int.ofNat b.length) 2=((b.length / 2:Nat):Int):=quo_nat (d:=2) (by omega)
 rw [hq,q8_ (by rw [q12_]; omega),q8_ (capOk_self _),Int.toNat_natCast,qm_ (by omega),List.length_replicate]
 unfold qct_ listS
 refine (loop_det (mk:=fun i=>(b,Int.ofNat (b.length / 2),(i:Int),(List.range i).map (fun i=>numV (b.getD (2 * i) 0) (b.getD (2 * i + 1) 0))++(List.replicate (b.length / 2) (0:Int)).drop i)) (N:=b.length / 2) ?_ ?_ (b.length / 2) 0 _ (by omega) (by omega))
 ·intro self i hi
  show q91_ _ b (Int.ofNat (b.length / 2)) (i:Int) _=_
  unfold q91_
  have hm:mul .i64 2 (i:Int)=((2 * i:Nat):Int):=by
   rw [mul64 (by omega) (by omega)]
   simp
  have h1:b[2 * i]? = some (b[2 * i]'(by omega)):=List.getElem?_eq_getElem (by omega)
  have h2:b[2 * i + 1]? = some (b[2 * i + 1]'(by omega)):=List.getElem?_eq_getElem (by omega)
  have ho:((List.range i).map (fun i=>numV (b.getD (2 * i) 0) (b.getD (2 * i + 1) 0))++(List.replicate (b.length / 2) (0:Int)).drop i)[i]? = some (((List.range i).map (fun i=>numV (b.getD (2 * i) 0) (b.getD (2 * i + 1) 0))++(List.replicate (b.length / 2) (0:Int)).drop i)[i]'(by simp; omega)):=List.getElem?_eq_getElem (by simp; omega)
  rw [if_pos (by rw [q7_,q1_]; omega),hm,q15_ (by omega),qj_ h1,qj_ h2,qj_ ho,q15_ (by omega),Int.toNat_natCast]
  simp only [Option.bind_some]
  have e:bor .u16 (shl .u16 (cvt .u16 (b[2 * i]'(by omega))) 8) (cvt .u16 (b[2 * i + 1]'(by omega)))=numV (b.getD (2 * i) 0) (b.getD (2 * i + 1) 0):=by
   rw [List.getD_eq_getElem?_getD,List.getD_eq_getElem?_getD,h1,h2]
   rfl
  rw [e,fill_step (f:=fun i=>numV (b.getD (2 * i) 0) (b.getD (2 * i + 1) 0)) (by simp; omega)]
 ·intro self
  show q91_ _ b (Int.ofNat (b.length / 2)) ((b.length / 2:Nat):Int) _=_
  unfold q91_
  rw [if_neg (by rw [q7_,q1_]; omega),List.drop_of_length_le (by simp),List.append_nil]
theorem wordC_r (x y:Int) {r:List Int} (h:r.length≤1000):q4i_ ((),x::y::r,())=some (x,0,[],0,0,listS r,()):=by
 show qbb_ () (x::y::r)=_
 unfold qbb_
 rw [q1m_,Option.bind_some,cut_two,Option.bind_some,list_r (by omega),Option.bind_some]
theorem parse_r {w:List Int} (h1:1≤w.length) (h2:w.length≤125) (hw:∀ x ∈ w,0≤x∧x≤65535):q45_ (repB (3,0,[],w,0,0),())=some (3,0,[],0,0,0,w,()):=by
 have fl:(w.flatMap two).length=2 * w.length:=by
  rw [List.length_flatMap]
  have:∀ l:List Int,(l.map fun x=>(two x).length).sum=2 * l.length:=fun l=>by
   induction l with
   | nil=>rfl
   | cons a q ih=>rw [List.map_cons,List.sum_cons,ih,List.length_cons]; show 2 + _=_; omega
  exact this w
 have e:repB (3,0,[],w,0,0)=3::(2 * (w.length:Int) % 256)::w.flatMap two:=rfl
 rw [e]
 generalize hq:2 * (w.length:Int) % 256=q
 have hwb:wordB (3,0,[],w,0,0)=3::q::w.flatMap two:=by rw [<- hq]; rfl
 have hL:(3::q::w.flatMap two).length=2 * w.length + 2:=by rw [List.length_cons,List.length_cons,fl]
 show qfu_ qfs_ (3::q::w.flatMap two)=_
 unfold qfu_
 rw [if_neg (by rw [q7_,q1_]; omega)]
 have hg:gt (Int.ofNat (3::q::w.flatMap two).length) 253=false:=by
  rw [Bool.eq_false_iff]
  intro e
  rw [gt_iff,q1_] at e
  omega
 rw [hg]
 show qf3_ _ _ _ _ _ _=_
 unfold qf3_
 rw [if_neg Bool.false_ne_true,q1m_,Option.bind_some,if_pos (by rfl),Option.bind_some,if_neg (by decide),if_neg (by decide),if_pos (by rfl),wordC_r 3 q (by omega),Option.bind_some,listS_flat hw]
 dsimp only
 rw [wordR_r h1 h2,Option.bind_some,if_neg (by simp)]
 dsimp only
 rw [wordB_r (by omega),Option.bind_some,hwb]
 have eb:qw_ (3::q::w.flatMap two,3::q::w.flatMap two,())=some (true,()):=by
  show some (eqs (toS (3::q::w.flatMap two)) (toS (3::q::w.flatMap two)),())=_
  rw [eqs_iff.2 rfl]
 rw [eb,Option.bind_some,if_neg (by simp)]
theorem read_r {s:TSl} (h:OkS s) {p n:Int} (hp:0≤p∧p≤65535) (hn:1≤n∧n≤125) (hc:rdH p n.toNat=true) {w:List Int} (hwl:w.length=n.toNat) (hwr:∀ x ∈ w,0≤x∧x≤65535) (hw:((holdS s.2.2.1).drop p.toNat).take n.toNat=w) :
  q3f_ ((3,p,n,0,[],[]),())=some (askB (rdQ p n),0,())∧q25_ (s,askB (rdQ p n),())=some (s,repB (3,0,[],w,0,0),())∧q45_ (repB (3,0,[],w,0,0),())=some (3,0,[],0,0,0,w,()):=by
 have hq:=rdQ_ok hp hn
 have h1:=abytes_eq hq.1 hq.2
 have h2:=serve_ask h hq.1 hq.2
 rw [serv_rd s hc,hw] at h2
 exact ⟨h1,h2,parse_r (by omega) (by omega) hwr⟩
end Go.Proofs.Lx
end
section
namespace Go.Proofs.Lx
open Go Ev Sx Pl
set_option maxRecDepth 100000
theorem blkS_in:∀ {hv:List Bool} {bs:List TBlk} {i:Nat} {b:TBlk},hv[i]? = some true->bs[i]? = some b->b ∈ blkS hv bs
 | [],_,i,b,h,_=>by simp at h
 | _::_,[],i,b,_,h=>by simp at h
 | x::hv,y::bs,0,b,h1,h2=>by
  simp at h1 h2
  subst h1 h2
  unfold blkS
  simp
 | x::hv,y::bs,i + 1,b,h1,h2=>by
  simp at h1 h2
  have:=blkS_in (hv:=hv) (bs:=bs) h1 h2
  unfold blkS at this ⊢
  rw [List.zip_cons_cons,List.filter_cons]
  split
  ·exact List.mem_cons_of_mem _ this
  ·exact this
theorem back_read {a:TAg} (h:OkG a) {k:Nat} (hk:k < 8):∃ r:Int×Int×Int×TBlk×Int,q89_ (backS a.2.2.2.2.2.1 a.2.1.1 (k:Int),())=some (r.1,r.2.1,r.2.2.1,r.2.2.2.1,r.2.2.2.2,()) ∧
  ∀ b,a.2.2.2.2.2.1.2.1[k]? = some true->a.2.2.2.2.2.1.2.2[k]? = some b->r.2.2.2=(b,0):=by
 have ht:0≤a.2.2.2.2.2.1.1∧a.2.2.2.2.2.1.1≤4294967295:=by
  by_cases hp:a.2.2.1=0
  ·rw [(h.p0 hp).2.2.1]; exact ⟨by decide,by decide⟩
  ·rw [(h.pn hp).2.2]; exact h.tr
 refine ⟨_,sread_eq (backS_rng h.l1 ⟨by omega,by omega⟩ ht h.wb),fun b h1 h2=>?_⟩
 have e:backS a.2.2.2.2.2.1 a.2.1.1 (k:Int)=tagB a.2.1.1 a.2.2.2.2.2.1.1 (k:Int) b:=by
  unfold backS
  rw [Int.toNat_natCast,h1,h2]
 rw [e,rdB_tag (h.fb b (blkS_in h1 h2)) (by omega)]
theorem rdH_bank:rdH 0 64=true:=by decide +kernel
theorem stx_rng {a:TAg} (h:OkG a):0≤a.2.2.2.2.2.1.1∧a.2.2.2.2.2.1.1≤4294967295:=by
 by_cases hp:a.2.2.1=0
 ·rw [(h.p0 hp).2.2.1]; exact ⟨by decide,by decide⟩
 ·rw [(h.pn hp).2.2]; exact h.tr
theorem read_bank {s:TSl} (h:OkS s):q3f_ ((3,0,64,0,[],[]),())=some (askB (rdQ 0 64),0,())∧q25_ (s,askB (rdQ 0 64),())=some (s,repB (3,0,[],s.2.2.1.1,0,0),())∧q45_ (repB (3,0,[],s.2.2.1.1,0,0),())=some (3,0,[],0,0,0,s.2.2.1.1,()) :=
 read_r h ⟨by decide,by decide⟩ ⟨by decide,by decide⟩ rdH_bank h.a.bl h.a.bw (hold_bank h.a)
theorem read_back {s:TSl} (h:OkS s) {k:Nat} (hk:k < 8):q3f_ ((3,512 + (k:Int) * 32,20,0,[],[]),())=some (askB (rdQ (512 + (k:Int) * 32) 20),0,()) ∧
  q25_ (s,askB (rdQ (512 + (k:Int) * 32) 20),())=some (s,repB (3,0,[],backS s.2.2.1.2.2.2.2.2.1 s.2.2.1.2.1.1 (k:Int),0,0),()) ∧
  q45_ (repB (3,0,[],backS s.2.2.1.2.2.2.2.2.1 s.2.2.1.2.1.1 (k:Int),0,0),())=some (3,0,[],0,0,0,backS s.2.2.1.2.2.2.2.2.1 s.2.2.1.2.1.1 (k:Int),()):=by
 refine read_r h ⟨by omega,by omega⟩ ⟨by decide,by decide⟩ (rdH_back hk) backS_len (backS_rng h.a.l1 ⟨by omega,by omega⟩ (stx_rng h.a) h.a.wb) ?_
 rw [show (512 + (k:Int) * 32).toNat=512 + k * 32 by omega]
 exact hold_back h.a hk
end Go.Proofs.Lx
end
section
namespace Go.Proofs.Lx
open Go Ev Sx Pl
set_option maxRecDepth 100000
def k7B (u2:Int->Int->List TOp->Int->Int->List TSl->Option (As [.bool])) (l:List TOp) (i:Nat) (s s':TSl) (out:List Int):Option (As [.bool]) :=
 q8h_ u2 0 0 0 out s'.2.2.1.1 l (Int.ofNat l.length) (i:Int) false [s'] s.2.2.1.1 [s] (blkS s.2.2.1.2.2.2.2.2.1.2.1 s.2.2.1.2.2.2.2.2.1.2.2)
theorem q1aq_ {u2:Int->Int->List TOp->Int->Int->List TSl->Option (As [.bool])} {l:List TOp} {i:Nat} {s s':TSl} {out:List Int} (hi:i < 1000) (hs:OkS s) (hn:s'.2.2.1.2.2.2.2.1 ≠ s.2.2.1.2.2.2.2.1) (hp:s.2.2.1.2.2.1=2)
  (hl:s'.2.2.1.2.2.2.2.1=s.2.2.1.2.2.2.1) (hb:s'.2.2.1.1=overB s.2.2.1.1 (blkS s.2.2.1.2.2.2.2.2.1.2.1 s.2.2.1.2.2.2.2.2.1.2.2)) (ho:out ≠ []) :
  k7B u2 l i s s' out=u2 0 0 l (Int.ofNat l.length) ((i + 1:Nat):Int) [s']:=by
 unfold k7B
 show q6g_ (q6e_ u2) u2 0 0 0 out s'.2.2.1.1 l (Int.ofNat l.length) (i:Int) false [s'] s.2.2.1.1 [s] _=_
 unfold q6g_
 rw [if_neg Bool.false_ne_true,q1m_,Option.bind_some,q1m_,Option.bind_some,if_neg (fun e=>hn (q4_.1 e))]
 have hbl:=hs.a.bl
 have hfb:=hs.a.fb
 have hlen:(blkS s.2.2.1.2.2.2.2.2.1.2.1 s.2.2.1.2.2.2.2.2.1.2.2).length≤8:=by
  have:=blkS_le (hv:=s.2.2.1.2.2.2.2.2.1.2.1) (bs:=s.2.2.1.2.2.2.2.2.1.2.2)
  have:=hs.a.hl
  omega
 generalize blkS s.2.2.1.2.2.2.2.2.1.2.1 s.2.2.1.2.2.2.2.2.1.2.2=bl at hb hfb hlen
 unfold q6e_
 refine (loop_idx (xs:=bl) (mk:=fun k acc=>(0,0,0,out,s'.2.2.1.1,l,Int.ofNat l.length,(i:Int),Int.ofNat bl.length,(k:Int),[s'],acc,[s],bl)) (stp:=copyB) (fin:=fun acc=>q6c_ u2 0 0 0 out s'.2.2.1.1 l (Int.ofNat l.length) (i:Int) [s'] acc [s]) (fun k acc=>acc.length=64) ?_ ?_ ?_ bl.length 0 s.2.2.1.1 _ (by omega) (by omega) hbl).trans ?_
 ·intro self k acc x hx ha
  have hk:=(List.getElem?_eq_some_iff.1 hx).1
  have h2:=of_decide_eq_true (hfb x (List.mem_of_getElem? hx))
  show q67_ (q6c_ u2) u2 _ 0 0 0 out s'.2.2.1.1 l (Int.ofNat l.length) (i:Int) (Int.ofNat bl.length) (k:Int) [s'] acc [s] bl=_
  unfold q67_
  rw [if_pos (by rw [q7_,q1_]; omega),qj_ hx,Option.bind_some,Option.bind_some,q8_ (q12_.2 (by omega)),q8_ (qs_.2 (by rw [q1_]; omega)),q8_ (qs_.2 (Int.le_refl _)),q8_ (qs_.2 (by rw [q1_]; omega)),q15_ (by omega)]
  have e:x.2.take (Int.toNat (Int.ofNat acc.length - x.1))=x.2:=List.take_of_length_le (by rw [q1_]; omega)
  rw [e]
  rfl
 ·intro k acc x hx ha
  exact copyB_len ha (hfb x (List.mem_of_getElem? hx))
 ·intro self acc ha
  show q67_ (q6c_ u2) u2 _ 0 0 0 out s'.2.2.1.1 l (Int.ofNat l.length) (i:Int) (Int.ofNat bl.length) (bl.length:Int) [s'] acc [s] bl=_
  unfold q67_
  rw [if_neg (by rw [q7_,q1_]; omega)]
 ·rw [List.drop_zero]
  have eo:bl.foldl copyB s.2.2.1.1=s'.2.2.1.1:=hb.symm
  rw [eo]
  show qcc_ (qbh_ u2) u2 0 0 0 out s'.2.2.1.1 l (Int.ofNat l.length) (i:Int) [s'] s'.2.2.1.1 [s]=_
  have hbl':s'.2.2.1.1.length=64:=by rw [hb]; exact overB_len hbl hfb
  unfold qcc_
  rw [lwords_eq (by omega),Option.bind_some,decide_eq_true rfl]
  dsimp only
  rw [if_neg (by decide),q1m_,Option.bind_some,hp,if_neg (by decide),q1m_,Option.bind_some,Option.bind_some,if_neg (fun e=>qk_.1 e hl)]
  have ho':eqi (Int.ofNat out.length) 0=false:=by
   rw [Bool.eq_false_iff]
   intro e
   have:=q4_.1 e
   rw [q1_] at this
   exact ho (List.eq_nil_of_length_eq_zero (by omega))
  rw [ho']
  show qbg_ u2 0 0 l (Int.ofNat l.length) (i:Int) false [s']=_
  unfold qbg_
  rw [if_neg Bool.false_ne_true,q15_ (by omega)]
theorem q190_ {u2:Int->Int->List TOp->Int->Int->List TSl->Option (As [.bool])} {l:List TOp} {i:Nat} {s:TSl} {o:TOp} (hs:OkS s) (w:List Int) :
  q6j_ u2 0 0 0 l (Int.ofNat l.length) (i:Int) 0 [s] o w [s] []=q6m_ u2 0 0 0 l (Int.ofNat l.length) (i:Int) [s] o w [s] (blkS s.2.2.1.2.2.2.2.2.1.2.1 s.2.2.1.2.2.2.2.2.1.2.2):=by
 have h8:=hs.a.hl
 have s8:=hs.a.sl
 unfold q6j_
 refine loop_dt (N:=8) (mk:=fun k=>(0,0,0,l,Int.ofNat l.length,(i:Int),(k:Int),[s],o,w,[s],blkS (s.2.2.1.2.2.2.2.2.1.2.1.take k) (s.2.2.1.2.2.2.2.2.1.2.2.take k))) ?_ ?_ 8 0 _ (by omega) (by omega)
 ·intro self k hk
  obtain ⟨z,hz⟩:=get_of (xs:=s.2.2.1.2.2.2.2.2.1.2.1) (i:=k) (by omega)
  obtain ⟨b,hb⟩:=get_of (xs:=s.2.2.1.2.2.2.2.2.1.2.2) (i:=k) (by omega)
  obtain ⟨r1,r2,r3⟩:=read_back hs hk
  obtain ⟨r,q1,q2⟩:=back_read hs.a hk
  have l8:lt (k:Int) 8=true:=q7_.2 (by omega)
  have ead:cvt .u16 (add .i64 512 (mul .i64 (k:Int) 32))=512 + (k:Int) * 32:=by
   rw [mul64 (by omega) (by omega),add64 (by omega) (by omega),cvt16]
   omega
  have hle:(blkS (s.2.2.1.2.2.2.2.2.1.2.1.take k) (s.2.2.1.2.2.2.2.2.1.2.2.take k)).length≤8:=by
   have:=blkS_le (hv:=s.2.2.1.2.2.2.2.2.1.2.1.take k) (bs:=s.2.2.1.2.2.2.2.2.1.2.2.take k)
   rw [List.length_take] at this
   omega
  show q6h_ (q8k_ u2 (fun s read before t52 t53 t54 t61 s_2 o was before_2 blocks=>self (s,read,before,t52,t53,t54,t61,s_2,o,was,before_2,blocks))) (q6m_ u2) u2 _ 0 0 0 l (Int.ofNat l.length) (i:Int) (k:Int) [s] o w [s] (blkS (s.2.2.1.2.2.2.2.2.1.2.1.take k) (s.2.2.1.2.2.2.2.2.1.2.2.take k))=self (0,0,0,l,Int.ofNat l.length,(i:Int),((k + 1:Nat):Int),[s],o,w,[s],blkS (s.2.2.1.2.2.2.2.2.1.2.1.take (k + 1)) (s.2.2.1.2.2.2.2.2.1.2.2.take (k + 1)))
  rw [blkS_snoc hz hb]
  unfold q6h_
  rw [if_pos l8,ead,r1,Option.bind_some,q1m_,Option.bind_some,r2,Option.bind_some,r3,Option.bind_some,q1,Option.bind_some]
  dsimp only
  have K5f:∀ x,q8k_ u2 (fun s read before t52 t53 t54 t61 s_2 o was before_2 blocks=>self (s,read,before,t52,t53,t54,t61,s_2,o,was,before_2,blocks)) 0 0 0 l (Int.ofNat l.length) (i:Int) (k:Int) false [s] o w [s] (blkS (s.2.2.1.2.2.2.2.2.1.2.1.take k) (s.2.2.1.2.2.2.2.2.1.2.2.take k)) x=self (0,0,0,l,Int.ofNat l.length,(i:Int),((k + 1:Nat):Int),[s],o,w,[s],blkS (s.2.2.1.2.2.2.2.2.1.2.1.take k) (s.2.2.1.2.2.2.2.2.1.2.2.take k)):=fun x=>by
   show q6l_ u2 _ 0 0 0 l (Int.ofNat l.length) (i:Int) (k:Int) false [s] o w [s] (blkS (s.2.2.1.2.2.2.2.2.1.2.1.take k) (s.2.2.1.2.2.2.2.2.1.2.2.take k)) x=_
   unfold q6l_
   rw [if_neg Bool.false_ne_true,q15_ (by omega)]
  cases z with
  | false =>
   rw [if_neg Bool.false_ne_true,List.append_nil]
   by_cases he:r.2.2.2.2=0
   ·rw [if_pos (q4_.2 he),q8_ (q12_.2 (by omega)),q8_ l8,Option.bind_some,qj_ hz,Option.bind_some]
    exact K5f _
   ·rw [if_neg (fun e=>he (q4_.1 e))]
    exact K5f _
  | true =>
   have eb:=q2 b hz hb
   have e2:r.2.2.2.2=0:=by rw [eb]
   have e1:r.2.2.2.1=b:=by rw [eb]
   rw [if_pos rfl,if_pos (q4_.2 e2),q8_ (q12_.2 (by omega)),q8_ l8,Option.bind_some,qj_ hz,Option.bind_some,e1]
   show q6l_ u2 _ 0 0 0 l (Int.ofNat l.length) (i:Int) (k:Int) true [s] o w [s] (blkS (s.2.2.1.2.2.2.2.2.1.2.1.take k) (s.2.2.1.2.2.2.2.2.1.2.2.take k)) b=_
   unfold q6l_
   rw [if_pos rfl,qm_ (by omega),q15_ (by omega)]
 ·intro self
  show q6h_ _ (q6m_ u2) u2 _ 0 0 0 l (Int.ofNat l.length) (i:Int) 8 [s] o w [s] (blkS (s.2.2.1.2.2.2.2.2.1.2.1.take 8) (s.2.2.1.2.2.2.2.2.1.2.2.take 8))=_
  unfold q6h_
  rw [if_neg (by decide),List.take_of_length_le (by omega),List.take_of_length_le (by omega)]
theorem q1as_ {u2:Int->Int->List TOp->Int->Int->List TSl->Option (As [.bool])} {l:List TOp} {i:Nat} {s:TSl} {o:TOp} (hi:i < 1000) (hs:OkS s) (ho:OkO o) :
  q8i_ u2 0 0 0 l (Int.ofNat l.length) (i:Int) [s] o s.2.2.1.1 [s]=u2 0 0 l (Int.ofNat l.length) ((i + 1:Nat):Int) [(doesS s o).1]:=by
 show q6j_ u2 0 0 0 l (Int.ofNat l.length) (i:Int) 0 [s] o s.2.2.1.1 [s] []=_
 rw [q190_ hs]
 have ok:=doesS_ok hs ho
 obtain ⟨r1,r2,r3⟩:=read_bank ok
 have b1:=hs.a.bl
 have b2:=ok.a.bl
 show qc7_ (q8h_ u2) u2 0 0 0 l (Int.ofNat l.length) (i:Int) [s] o s.2.2.1.1 [s] _=_
 unfold qc7_
 have e0:at? ([s].set (Int.toNat 0) (doesS s o).1) 0=some (doesS s o).1:=rfl
 rw [q1m_,Option.bind_some,does_eq hs ho,Option.bind_some,Option.bind_some,r1,Option.bind_some]
 dsimp only
 rw [e0,Option.bind_some,r2,Option.bind_some]
 dsimp only
 rw [r3,Option.bind_some]
 dsimp only
 rw [if_neg (fun e=>qk_.1 e (by rw [q1_,b1]; rfl)),if_neg (fun e=>qk_.1 e (by rw [q1_,b2]; rfl)),Option.bind_some,lwords_eq (by omega),Option.bind_some,decide_eq_true rfl]
 obtain ⟨k1,k2⟩:=bk_does hs ho
 show k7B u2 l i s (doesS s o).1 (doesS s o).2=_
 rcases k1 with ⟨h1,h2⟩ | ⟨h1,h2,h3,h4⟩
 ·unfold k7B
  show q6g_ (q6e_ u2) u2 0 0 0 _ (doesS s o).1.2.2.1.1 l (Int.ofNat l.length) (i:Int) false [(doesS s o).1] s.2.2.1.1 [s] _=_
  unfold q6g_
  rw [if_neg Bool.false_ne_true,q1m_,Option.bind_some,q1m_,Option.bind_some,if_pos (q4_.2 h1),lwords_eq (by omega),Option.bind_some,decide_eq_true h2.symm]
  dsimp only
  rw [if_neg (by decide),q15_ (by omega)]
 ·exact q1aq_ hi hs h1 h2 h3 h4 (k2 h1)
set_option maxHeartbeats 1000000 in
theorem q1aw_ {link ticks:Int} {b:List Int} {l:List TOp} (hl0:0≤link) (ht0:0≤ticks) (hb:∀ x ∈ b,0≤x∧x≤65535)
  (hL:∀ o ∈ l,o.2.1.length≤300->o.2.2.1.2.2.2.2.1.length≤200->o.2.2.1.2.2.2.2.2.length≤2100->OkO o) :
  qhj_ (link,b,ticks,l,())=some (true,()):=by
 show qcr_ qcd_ link b ticks l=_
 unfold qcr_
 have c60:cut l 0 (if lt 60 (Int.ofNat l.length)=true then 60 else Int.ofNat l.length)=some (l.take 60):=cut_min l 60
 rw [begun_eq hl0 ht0,Option.bind_some,c60,Option.bind_some,if_neg (show ¬ (!(begS link b ticks,true,()).2.1)=true from fun e=>Bool.false_ne_true e)]
 have h60:(l.take 60).length≤60:=by rw [List.length_take]; omega
 have hL:∀ o ∈ l.take 60,o.2.1.length≤300->o.2.2.1.2.2.2.2.1.length≤200->o.2.2.1.2.2.2.2.2.length≤2100->OkO o:=fun o ho=>hL o (List.mem_of_mem_take ho)
 generalize l.take 60=m at h60 hL
 rw [few21_eq (by omega),Option.bind_some]
 dsimp only
 cases hf:fewO m 60 with
 | false =>
  show (Option.bind (q88_ ()) fun y=>some (y.fst,()))=_
  rw [awake21]
  rfl
 | true =>
  have a1:=(fewO_iff.1 hf).1
  have okL:∀ o ∈ m,OkO o:=fun o ho=>hL o ho (a1 o ho).1 (a1 o ho).2.1 (a1 o ho).2.2
  have ok0:=begS_ok (link:=link) (ticks:=ticks) hb
  generalize begS link b ticks=s0 at ok0
  show q8g_ 0 0 m (Int.ofNat m.length) 0 [s0]=_
  unfold q8g_
  refine (loop_idx (xs:=m) (mk:=fun i s=>(0,0,m,Int.ofNat m.length,(i:Int),[s])) (stp:=fun s o=>(doesS s o).1) (fin:=fun _=>some (true,())) (fun _ s=>OkS s) ?_ ?_ ?_ m.length 0 s0 _ (by omega) (by omega) ok0)
  ·intro self i s o ho hs
   have hi':=(List.getElem?_eq_some_iff.1 ho).1
   have oko:=okL o (List.mem_of_getElem? ho)
   obtain ⟨r1,r2,r3⟩:=read_bank hs
   show q65_ (q8i_ (fun s read t52 t53 t54 s_2=>self (s,read,t52,t53,t54,s_2))) _ 0 0 m (Int.ofNat m.length) (i:Int) [s]=_
   unfold q65_
   rw [if_pos (by rw [q7_,q1_]; omega),qj_ ho,Option.bind_some,q1m_,Option.bind_some,amb2 (eqAs_refl _),r1,Option.bind_some,Option.bind_some,r2,Option.bind_some]
   dsimp only
   rw [r3,Option.bind_some]
   exact q1as_ (by omega) hs oko
  ·intro i s o ho hs
   exact doesS_ok hs (okL o (List.mem_of_getElem? ho))
  ·intro self s hs
   show q65_ _ _ 0 0 m (Int.ofNat m.length) (m.length:Int) [s]=_
   unfold q65_
   rw [if_neg (by rw [q7_,q1_]; omega),awake21]
   rfl
theorem q1ax_ (x:As [.int .u8,.sl (.int .u16),.int .u8,.sl tOp]) (h:Rw.okA [.int .u8,.sl (.int .u16),.int .u8,.sl tOp] x):qhj_ x=some (true,()) :=
 q1aw_ (link:=x.1) (b:=x.2.1) (ticks:=x.2.2.1) (l:=x.2.2.2.1) (ok8 h.1).1 (ok8 h.2.2.1).1 (fun y hy=>ok16 (h.2.1.2 y hy)) (fun o ho=>okO_of (h.2.2.2.1.2 o ho))
end Go.Proofs.Lx
end
