/- Part 12 of 14: PlanTells returns true, whatever it is given. Conditions: those of the given statement, no others. -/
import Derived.Test.YtnamnibaedolaaaPartk
import Derived.Test.YtnamnibaedolaaaPartd
import Derived.Test.YtnamnibaedolaaaProg
set_option linter.unusedVariables false
set_option linter.unusedSimpArgs false
section
set_option maxRecDepth 100000
namespace Go.Proofs.Lx
open Go Ev Sx Pl
theorem loop_any {σ R α:Type} {F:(σ->Option R)->σ->Option R} {mk:Nat->Int->σ} {xs:List α} {c:α->Bool} {fin:Int->Option R} {N:Nat} (hN:N≤xs.length)
  (hs:∀ self i a x,i < N->xs[i]? = some x->F self (mk i a)=self (mk (i + 1) (if c x=true then -1 else a))) (he:∀ self a,F self (mk N a)=fin a) {n:Nat} (h:N < n) (a:Int) :
  loopF F n (mk 0 a)=fin (if (xs.take N).any c=true then -1 else a):=by
 have hl:(xs.take N).length=N:=by rw [List.length_take]; omega
 rw [loop_idx (xs:=xs.take N) (mk:=mk) (stp:=fun a x=>if c x=true then -1 else a) (fin:=fin) (fun _ _=>True) (fun self i a x hx _=>?_) (fun _ _ _ _ _=>trivial) (fun self a _=>by rw [hl]; exact he self a) N 0 a n (by omega) h trivial,List.drop_zero]
 ·congr 1
  generalize xs.take N=ys
  induction ys generalizing a with
  | nil=>rfl
  | cons y q ih =>
   rw [List.foldl_cons,ih,List.any_cons]
   cases c y <;> cases q.any c <;> rfl
 ·have hi:=(List.getElem?_eq_some_iff.1 hx).1
  rw [hl] at hi
  exact hs self i a x hi (by rw [List.getElem?_take_of_lt hi] at hx; exact hx)
theorem any_seen {α:Type} {f:α->List UInt8} {pre:List α} {N:List (List UInt8)} (h:∀ s,s ∈ N ↔ ∃ y ∈ pre,f y=s) (s:List UInt8):pre.any (fun y=>eqs (f y) s)=decide (s ∈ N):=by
 apply Bool.eq_iff_iff.2
 rw [List.any_eq_true,decide_eq_true_eq,h]
 simp only [q1h_]
abbrev UChk:=TTab->Int->TRec->Int×Int->Option (As [.pr (.int .i64) (.int .i64)])
def setBd (d:TDev) (ss:List TSet) (k:Nat) (s:TSet) (kk:Unit->Option (As [.pr (.int .i64) (.int .i64)])):Option (As [.pr (.int .i64) (.int .i64)]) :=
 if (ss.take k).any (fun y=>eqs y.1 s.1)=true then some ((151,s.2.2.2),()) else match srch (fun p=>eqs p.1 s.1) d.2 0 with
  | none=>some ((151,s.2.2.2),())
  | some z=>if (wrdS z.2 s).2=0 then kk () else some (((wrdS z.2 s).2,s.2.2.2),())
theorem sets_go {d:TDev} {ss:List TSet} {fin:Option (As [.pr (.int .i64) (.int .i64)])}:∀ (q pre:List TSet) (N:List (List UInt8)),pre++q=ss->(∀ s,s ∈ N ↔ ∃ y ∈ pre,y.1=s) ->
  goI (fun k (_:Unit) s kk=>setBd d ss k s kk) (fun _=>fin) pre.length q ()=match setsS d q N with
   | some f=>some (f,())
   | none=>fin
 | [],_,_,_,_=>rfl
 | s::q,pre,N,h,hN=>by
  have ih:=sets_go (d:=d) (ss:=ss) (fin:=fin) q (pre++[s]) (s.1::N) (by rw [<- h]; simp) (seen_snoc hN s)
  rw [List.length_append,List.length_singleton] at ih
  show setBd d ss pre.length s (fun _=>goI _ _ (pre.length + 1) q ())=_
  rw [setsS,ih]
  unfold setBd
  rw [<- h,List.take_left,any_seen hN]
  cases srch (fun p=>eqs p.1 s.1) d.2 0 with
  | none=>by_cases h1:s.1 ∈ N <;> simp [h1]
  | some z =>
   dsimp only
   by_cases h1:s.1 ∈ N
   ·simp [h1]
   ·rw [decide_eq_false h1,if_neg (by decide),if_neg h1]
    by_cases h2:(wrdS z.2 s).2=0
    ·rw [if_pos h2,if_pos h2]
    ·rw [if_neg h2,if_neg h2]
theorem rcheck_K6 (u2:UChk) {t:TTab} {z1:Nat} {d:TDev} (hd:t[z1]? = some d) (hdB:devB d=true) (hdl:d.2.length≤1000) (hdR:∀ p ∈ d.2,PtR p) {i:Nat} (hi:i < 1000000) (r:TRec) (p:TPart) (hss:p.2.2.length≤1000) (hsR:∀ s ∈ p.2.2,0≤s.2.1.2) :
  q48_ u2 t (i:Int) (z1:Int) 0 r (0,0) p=match setsS d p.2.2 [] with
   | some f=>some (f,())
   | none=>u2 t ((i + 1:Nat):Int) r (0,0):=by
 have:=sets_go (d:=d) (ss:=p.2.2) (fin:=u2 t ((i + 1:Nat):Int) r (0,0)) p.2.2 [] [] rfl (by simp)
 unfold q48_
 refine (loop_goi (xs:=p.2.2) (mk:=fun k (_:Unit)=>(t,(i:Int),(z1:Int),(k:Int),r,((0,0):Int×Int),p)) (body:=fun k _ s kk=>setBd d p.2.2 k s kk) (fin:=fun _=>u2 t ((i + 1:Nat):Int) r (0,0)) ?_ ?_ p.2.2.length 0 () _ (by omega) (by omega)).trans (by rw [List.drop_zero]; exact this)
 ·intro self k _ s hs
  have hk:=(List.getElem?_eq_some_iff.1 hs).1
  dsimp only
  unfold qbq_
  rw [if_pos (by rw [q1_,q0_]; omega),q4_ hs,Option.bind_some,q4_ hd,Option.bind_some,rpt_eq (by omega)]
  have K10:∀ x:Int,q6c_ u2 (fun t i at' k r t4 p=>self (t,i,at',k,r,t4,p)) t (i:Int) (z1:Int) (k:Int) x r (0,0) p s=if x < 0 then some ((151,s.2.2.2),()) else (at? d.2 x).bind fun q=>(q3y_ (q,s,())).bind fun y=>if nei y.2.1 0=true then some ((y.2.1,s.2.2.2),()) else self (t,(i:Int),(z1:Int),((k + 1:Nat):Int),r,(0,0),p):=fun x=>by
   show q9l_ (qgr_ u2 _) _ _ t (i:Int) (z1:Int) (k:Int) x r (0,0) p s=_
   unfold q9l_
   rw [q4_ hd,Option.bind_some,<- q9_ (by omega)]
   by_cases hx:x < 0
   ·rw [if_pos (q1_.2 hx),if_pos hx]
   ·rw [if_neg (fun e=>hx (q1_.1 e)),if_neg hx]
    rfl
  have K7:∀ x:Int,q4n_ u2 (fun t i at' k r t4 p=>self (t,i,at',k,r,t4,p)) t (i:Int) (z1:Int) (k:Int) x 0 r (0,0) p s=q6c_ u2 (fun t i at' k r t4 p=>self (t,i,at',k,r,t4,p)) t (i:Int) (z1:Int) (k:Int) (if (p.2.2.take k).any (fun y=>eqs y.1 s.1)=true then -1 else x) r (0,0) p s:=fun x=>by
   unfold q4n_
   refine loop_any (xs:=p.2.2) (mk:=fun j x=>(t,(i:Int),(z1:Int),(k:Int),x,(j:Int),r,((0,0):Int×Int),p,s)) (c:=fun y=>eqs y.1 s.1) (fin:=fun x=>q6c_ u2 (fun t i at' k r t4 p=>self (t,i,at',k,r,t4,p)) t (i:Int) (z1:Int) (k:Int) x r (0,0) p s) (by omega) ?_ ?_ (by omega) x
   ·intro self7 j a y hj hy
    dsimp only
    unfold qc3_
    rw [if_pos (by rw [q1_]; omega),q4_ hy,Option.bind_some,<- q9_ (by omega)]
    cases eqs y.1 s.1 <;> rfl
   ·intro self7 a
    dsimp only
    unfold qc3_
    rw [if_neg (by rw [q1_]; omega)]
  unfold setBd
  cases hz:srch (fun p=>eqs p.1 s.1) d.2 0 with
  | none =>
   show q4n_ u2 _ t (i:Int) (z1:Int) (k:Int) (-1) 0 r (0,0) p s=_
   rw [K7,K10]
   cases (p.2.2.take k).any (fun y=>eqs y.1 s.1) <;> rfl
  | some z =>
   obtain ⟨x1,q⟩:=z
   obtain ⟨hm,hg,_⟩:=srch_mem hz
   have hr:=ptB_rgt (dev_pt hdB q hm)
   show q4n_ u2 _ t (i:Int) (z1:Int) (k:Int) (x1:Int) 0 r (0,0) p s=_
   rw [K7,K10]
   cases (p.2.2.take k).any (fun y=>eqs y.1 s.1) with
   | true=>rfl
   | false =>
    simp only [Bool.false_eq_true,if_false]
    rw [if_neg (by omega),q4_ hg,Option.bind_some,rword_eq (hdR q hm) hr.1 hr.2 (hsR s (List.mem_of_getElem? hs)),Option.bind_some]
    dsimp only
    by_cases h2:(wrdS q s).2=0
    ·rw [if_pos h2,if_neg (fun e=>qh_.1 e h2)]
    ·rw [if_neg h2,if_pos (qh_.2 h2)]
 ·intro self _
  dsimp only
  unfold qbq_
  rw [if_neg (by rw [q1_,q0_]; omega),<- q9_ (by omega)]
  rfl
def partBd (t:TTab) (ps:List TPart) (k:Nat) (p:TPart) (kk:Unit->Option (As [.pr (.int .i64) (.int .i64)])):Option (As [.pr (.int .i64) (.int .i64)]) :=
 if (ps.take k).any (fun y=>eqs y.1 p.1)=true then some ((150,p.2.1),()) else match srch (fun d=>eqs d.1 p.1) t 0 with
  | none=>some ((150,p.2.1),())
  | some z=>match setsS z.2 p.2.2 [] with
   | some f=>some (f,())
   | none=>kk ()
theorem parts_go {t:TTab} {ps:List TPart}:∀ (q pre:List TPart) (N:List (List UInt8)),pre++q=ps->(∀ s,s ∈ N ↔ ∃ y ∈ pre,y.1=s) ->
  goI (fun k (_:Unit) p kk=>partBd t ps k p kk) (fun _=>some ((0,0),())) pre.length q ()=some ((partsS t q N).getD (0,0),())
 | [],_,_,_,_=>rfl
 | p::q,pre,N,h,hN=>by
  have ih:=parts_go (t:=t) (ps:=ps) q (pre++[p]) (p.1::N) (by rw [<- h]; simp) (seen_snoc hN p)
  rw [List.length_append,List.length_singleton] at ih
  show partBd t ps pre.length p (fun _=>goI _ _ (pre.length + 1) q ())=_
  rw [partsS,ih]
  unfold partBd
  rw [<- h,List.take_left,any_seen hN]
  cases srch (fun d=>eqs d.1 p.1) t 0 with
  | none=>by_cases h1:p.1 ∈ N <;> simp [h1]
  | some z =>
   dsimp only
   by_cases h1:p.1 ∈ N
   ·simp [h1]
   ·rw [decide_eq_false h1,if_neg (by decide),if_neg h1]
    cases setsS z.2 p.2.2 [] <;> rfl
theorem rcheck_eq {t:TTab} {r:TRec} (ht:TabR t) (hr:RecR r):q6u_ (t,r,())=some (checkS t r,()):=by
 have ht1:=ht.1
 have hr1:=hr.1
 have K1t:q2p_ t true r (0,0)=some ((2,0),()):=rfl
 have K1f:tabB t=true->q2p_ t false r (0,0)=some ((partsS t r.2 []).getD (0,0),()):=by
  intro hB
  have hdv:∀ d ∈ t,devB d=true:=by
   unfold tabB at hB
   simp only [Bool.and_eq_true] at hB
   exact tabL_dev hB.2.2
  show qbk_ t 0 r (0,0)=_
  have:=parts_go (t:=t) (ps:=r.2) r.2 [] [] rfl (by simp)
  unfold qbk_
  refine (loop_goi (xs:=r.2) (mk:=fun k (_:Unit)=>(t,(k:Int),r,((0,0):Int×Int))) (body:=fun k _ p kk=>partBd t r.2 k p kk) (fin:=fun _=>some ((0,0),())) ?_ ?_ r.2.length 0 () _ (by omega) (by omega)).trans (by rw [List.drop_zero]; exact this)
  ·intro self i _ p hp
   have hi:=(List.getElem?_eq_some_iff.1 hp).1
   have hpm:=hr.2 p (List.mem_of_getElem? hp)
   dsimp only
   unfold qbp_
   rw [if_pos (by rw [q1_,q0_]; omega),q4_ hp,Option.bind_some,rfind_eq (by omega)]
   have K5:∀ x:Int,q7c_ (fun t i r t4=>self (t,i,r,t4)) t (i:Int) x r (0,0) p=if x < 0 then some ((150,p.2.1),()) else q48_ (fun t i r t4=>self (t,i,r,t4)) t (i:Int) x 0 r (0,0) p:=fun x=>by
    show qc6_ (q48_ _) _ t (i:Int) x r (0,0) p=_
    unfold qc6_
    by_cases hx:x < 0
    ·rw [if_pos (q1_.2 hx),if_pos hx]
    ·rw [if_neg (fun e=>hx (q1_.1 e)),if_neg hx]
   have K3:∀ x:Int,q46_ (fun t i r t4=>self (t,i,r,t4)) t (i:Int) x 0 r (0,0) p=q7c_ (fun t i r t4=>self (t,i,r,t4)) t (i:Int) (if (r.2.take i).any (fun y=>eqs y.1 p.1)=true then -1 else x) r (0,0) p:=fun x=>by
    unfold q46_
    refine loop_any (xs:=r.2) (mk:=fun k x=>(t,(i:Int),x,(k:Int),r,((0,0):Int×Int),p)) (c:=fun y=>eqs y.1 p.1) (fin:=fun x=>q7c_ (fun t i r t4=>self (t,i,r,t4)) t (i:Int) x r (0,0) p) (by omega) ?_ ?_ (by omega) x
    ·intro self3 k a y hk hy
     dsimp only
     unfold qba_
     rw [if_pos (by rw [q1_]; omega),q4_ hy,Option.bind_some,<- q9_ (by omega)]
     cases eqs y.1 p.1 <;> rfl
    ·intro self3 a
     dsimp only
     unfold qba_
     rw [if_neg (by rw [q1_]; omega)]
   unfold partBd
   cases hz:srch (fun d=>eqs d.1 p.1) t 0 with
   | none =>
    show q46_ _ t (i:Int) (-1) 0 r (0,0) p=_
    rw [K3,K5]
    cases (r.2.take i).any (fun y=>eqs y.1 p.1) <;> rfl
   | some z =>
    obtain ⟨z1,d⟩:=z
    obtain ⟨hm,hg,_⟩:=srch_mem hz
    have hd:=ht.2 d hm
    show q46_ _ t (i:Int) (z1:Int) 0 r (0,0) p=_
    rw [K3,K5]
    cases (r.2.take i).any (fun y=>eqs y.1 p.1) with
    | true=>rfl
    | false =>
     simp only [Bool.false_eq_true,if_false]
     rw [if_neg (by omega),rcheck_K6 _ hg (hdv d hm) hd.1 hd.2 (by omega) r p hpm.1 hpm.2]
  ·intro self _
   dsimp only
   unfold qbp_
   rw [if_neg (by rw [q1_,q0_]; omega)]
 show qag_ q2p_ t r=_
 unfold qag_ checkS
 rw [rright15_eq ht,Option.bind_some]
 dsimp only
 cases hB:tabB t with
 | false=>rw [if_pos (by rfl),K1t]; rfl
 | true =>
  rw [if_neg (by decide),rright14_eq (by omega) (fun p hp=>by have:=(hr.2 p hp).1; omega),Option.bind_some]
  dsimp only
  cases rightB r with
  | false=>show q2p_ t true r (0,0)=_; rw [K1t]; rfl
  | true=>show q2p_ t false r (0,0)=_; rw [K1f hB]; rfl
end Go.Proofs.Lx
end
section
open Go Go.Proofs Ev Sx
set_option maxRecDepth 100000
namespace Go.Proofs.Lx
abbrev QNT0:Type:=(List UInt8×List (List UInt8×Int×Int×Bool×(Int×Int)×(Int×Int)×List UInt8))
abbrev QNT1:Type:=(List UInt8×Int×List (List UInt8×(Int×Int)×List UInt8×Int))
abbrev QNT2:Ty:=(.pr .str (.sl (.pr .str (.pr (.int .i64) (.pr (.int .i64) (.pr .bool (.pr (.pr (.int .i64) (.int .u8)) (.pr (.pr (.int .i64) (.int .u8)) .str))))))))
abbrev QNT3:Ty:=(.pr (.int .i64) (.sl (.int .u16)))
abbrev QNT4:Ty:=(.sl (.pr .str (.pr (.int .i64) (.sl (.pr .str (.pr (.pr (.int .i64) (.int .u8)) (.pr .str (.int .i64))))))))
abbrev QNT5:Type:=(Int×List (Int×List Int))
@[reducible] def q7p_:Sh:=⟨[.d (.sl (.int .u16)),.d (.sl QNT3)],[],[.sl (.int .u16),.sl QNT3],[.d (.sl (.int .u16))],[],0,[.sl (.int .u16)]⟩
def qfx_:Env:=(cts [])
def qgl_:List (Nat×Hint):=[(58,⟨[.row 5 32],[0,1,5,6]⟩),(233,⟨[],[0,1,5,6,40,41,44,45,46,47,48,49,50,51,68,69,70,71,72,73,76,77,78,79,80,81,82,83,84,85,86,87,88,89]⟩),(1865,⟨[],[0,1,5,6,7,40,41,44,45,46,47,48,49,50,51,68,69,70,71,72,73,76,77,78,79,80,81,82,83,84,85,86,87,88,89]⟩),(14922,⟨[],[0,1,5,6,7,8,40,41,44,45,46,47,48,49,50,51,68,69,70,71,72,73,76,77,78,79,80,81,82,83,84,85,86,87,88,89]⟩),(59689,⟨[],[0,1,5,6,7,8,40,41,44,45,46,47,48,49,50,51,68,69,70,71,72,73,76,77,78,79,80,81,82,83,84,85,86,87,88,89]⟩),(477513,⟨[],[0,1,5,6,7,8,40,41,44,45,46,47,48,49,50,51,68,69,70,71,72,73,76,77,78,79,80,81,82,83,84,85,86,87,88,89]⟩),(955027,⟨[.agd 76 (.int .i64),.agd 77 (.sl QNT3),.agd 78 (.int .i64),.agd 81 (.int .i64),.agd 82 (.int .i64),.agd 83 (.sl QNT3),.agd 84 (.int .i64),.agd 87 (.sl (.int .u16)),.agd 88 (.int .i64),.agd 89 .bool,.agd 68 (.sl QNT3),.agd 69 (.int .i64),.agd 72 (.int .i64),.agd 73 .bool],[0,1,5,6,7,8,90]⟩),(955026,⟨[.agd 44 (.int .i64),.agd 45 (.sl QNT3),.agd 46 (.int .i64),.agd 49 (.sl (.int .u16)),.agd 50 (.int .i64),.agd 51 .bool,.agd 40 (.int .i64),.agd 41 .bool],[0,1,5,6,7,8,9,52]⟩)]
@[reducible] def zL0:Type:=List (Int×List Int)
def qn_ (bank:List Int) (l:zL0) (i:Int) (out:List Int):St:=⟨[(0,dW bank),(1,.d (.sl QNT3) l),(5,.row 0),(6,dI i)],110,[],[(0,.row (.int .u16) 32 out)],1,[],0⟩
def q10_ (bank:List Int) (l:zL0) (i x k:Int) (out:List Int):St:=⟨[(0,dW bank),(1,.d (.sl QNT3) l),(5,.row 0),(6,dI i),(7,d6 x),(8,dI k)],110,[],[(0,.row (.int .u16) 32 out)],1,[],0⟩
def qk9_ (bank:List Int) (l:zL0) (i x k at':Int) (t52:Bool) (out:List Int):St:=⟨[(0,dW bank),(1,.d (.sl QNT3) l),(5,.row 0),(6,dI i),(7,d6 x),(8,dI k),(9,dI at'),(52,dB t52)],110,[],[(0,.row (.int .u16) 32 out)],1,[],0⟩
def qku_ (bank:List Int) (l:zL0) (i x:Int) (out:List Int):St:=⟨[(0,dW bank),(1,.d (.sl QNT3) l),(5,.row 0),(6,dI i),(7,d6 x)],110,[],[(0,.row (.int .u16) 32 out)],1,[],0⟩
def qjv_ (bank:List Int) (l:zL0) (i x k:Int) (out:List Int):St:=⟨[(0,dW bank),(1,.d (.sl QNT3) l),(5,.row 0),(6,dI i),(7,d6 x),(8,dI k)],110,[],[(0,.row (.int .u16) 32 out)],1,[],0⟩
def qkw_ (bank:List Int) (l:zL0) (i:Int) (out:List Int):St:=⟨[(0,dW bank),(1,.d (.sl QNT3) l),(5,.row 0),(6,dI i)],110,[],[(0,.row (.int .u16) 32 out)],1,[],0⟩
def qkh_ (bank:List Int) (l:zL0) (i x k:Int) (t90:Bool) (out:List Int):St:=⟨[(0,dW bank),(1,.d (.sl QNT3) l),(5,.row 0),(6,dI i),(7,d6 x),(8,dI k),(90,dB t90)],110,[],[(0,.row (.int .u16) 32 out)],1,[],0⟩
def qk2_ (bank:List Int) (l:zL0) (i x k:Int) (out:List Int):St:=⟨[(0,dW bank),(1,.d (.sl QNT3) l),(5,.row 0),(6,dI i),(7,d6 x),(8,dI k)],110,[],[(0,.row (.int .u16) 32 out)],1,[],0⟩
@[reducible] def zL1:Type:=List Int->List (Int×List Int)->Int->Int->Int->List Int->Option (As [.sl (.int .u16)])
@[reducible] def zL2:Type:=List Int->List (Int×List Int)->Int->List Int->Option (As [.sl (.int .u16)])
def qdo_ (j2:zL1) (self1:zL2) (bank:List Int) (l:zL0) (i:Int) (out:List Int):Option (As [.sl (.int .u16)]) :=
 if lt i (Int.ofNat (List.length bank))=true then Option.bind (at? bank i) fun y=>j2 bank l i y 0 out else some (out,())
def qea_ (j3:List Int->List (Int×List Int)->Int->Int->Int->Int->Bool->List Int->Option (As [.sl (.int .u16)])) (j4:List Int->List (Int×List Int)->Int->Int->List Int->Option (As [.sl (.int .u16)])) (self1:zL2) (self2:zL1) (bank:List Int) (l:zL0) (i x k:Int) (out:List Int):Option (As [.sl (.int .u16)]) :=
 if lt k (Int.ofNat (List.length l))=true then Option.bind (at? l k) fun y=>Option.bind (at? l k) fun y_1=>if ge y_1.1 0=true then if ge (Sx.sub .i64 i y.1) 0=true then Option.bind (at? l k) fun y_2=>j3 bank l i x k (Sx.sub .i64 i y.1) (lt (Sx.sub .i64 i y.1) (Int.ofNat (List.length y_2.2))) out else j3 bank l i x k (Sx.sub .i64 i y.1) false out else j3 bank l i x k (Sx.sub .i64 i y.1) false out else j4 bank l i x out
def qee_ (j5:zL1) (self1:zL2) (self2:zL1) (bank:List Int) (l:zL0) (i x k at':Int) (t52:Bool) (out:List Int):Option (As [.sl (.int .u16)]) :=
 if t52=true then Option.bind (at? l k) fun y=>Option.bind (at? y.2 at') fun y=>j5 bank l i y k out else j5 bank l i x k out
def qpq_ (j6 self1:zL2) (bank:List Int) (l:zL0) (i x:Int) (out:List Int):Option (As [.sl (.int .u16)]) :=
 need (small (List.length out + Nat.succ 0)) (j6 bank l i (out++[x]))
def qdb_ (j7:List Int->List (Int×List Int)->Int->Int->Int->Bool->List Int->Option (As [.sl (.int .u16)])) (self1:zL2) (self2:zL1) (bank:List Int) (l:zL0) (i x k:Int) (out:List Int):Option (As [.sl (.int .u16)]) :=
 Option.bind (at? l k) fun y=>if lt y.1 0=true then Option.bind (at? l k) fun y=>if ge y.1 (-100000)=true then Option.bind (at? l k) fun y=>Option.bind (at? l k) fun y_1=>j7 bank l i x k (lt (Sx.sub .i64 i y.1) (Int.ofNat (List.length y_1.2))) out else j7 bank l i x k false out else j7 bank l i x k false out
def qpc_ (self1:zL2) (bank:List Int) (l:zL0) (i:Int) (out:List Int):Option (As [.sl (.int .u16)]) :=
 self1 bank l (add .i64 i 1) out
def qda_ (j8:zL1) (self1:zL2) (self2:zL1) (bank:List Int) (l:zL0) (i x k:Int) (t90:Bool) (out:List Int):Option (As [.sl (.int .u16)]) :=
 if t90=true then Option.bind (at? l k) fun y=>Option.bind (at? l k) fun y_1=>Option.bind (at? y.2 (Sx.sub .i64 i y_1.1)) fun y=>j8 bank l i y k out else j8 bank l i x k out
def qpb_ (self1:zL2) (self2:zL1) (bank:List Int) (l:zL0) (i x k:Int) (out:List Int):Option (As [.sl (.int .u16)]) :=
 self2 bank l i x (add .i64 k 1) out
def qpl_ (j1:zL2) (bank:List Int) (l:zL0):Option (As [.sl (.int .u16)]) :=
 j1 bank l 0 []
def qf4_ (u1:zL2) (u2:zL1):=qpb_ u1 u2
def qe9_ (u1:zL2) (u2:zL1):=qda_ (qf4_ u1 u2) u1 u2
def q5h_ (u1:zL2) (u2:zL1):=qdb_ (qe9_ u1 u2) u1 u2
def qkf_ (u1:zL2) (u2:zL1):=qee_ (q5h_ u1 u2) u1 u2
def qpt_ (u1:zL2):=qpc_ u1
def qdl_ (u1:zL2):=qpq_ (qpt_ u1) u1
def qjt_ (u1:zL2) (bank:List Int) (l:zL0) (i x k:Int) (out:List Int):Option (As [.sl (.int .u16)]) :=
 loopF (fun self s=>qea_ (qkf_ u1 (fun bank l i x k out=>self (bank,l,i,x,k,out))) (qdl_ u1) u1 (fun bank l i x k out=>self (bank,l,i,x,k,out)) s.1 s.2.1 s.2.2.1 s.2.2.2.1 s.2.2.2.2.1 s.2.2.2.2.2) 18446744073709551616 (bank,l,i,x,k,out)
def qex_ (bank:List Int) (l:zL0) (i:Int) (out:List Int):Option (As [.sl (.int .u16)]) :=
 loopF (fun self s=>qdo_ (qjt_ (fun bank l i out=>self (bank,l,i,out))) (fun bank l i out=>self (bank,l,i,out)) s.1 s.2.1 s.2.2.1 s.2.2.2) 18446744073709551616 (bank,l,i,out)
def qg1_ (x:As [.sl (.int .u16),.sl QNT3]):Option (As [.sl (.int .u16)]):=qpl_ qex_ x.1 x.2.1
noncomputable abbrev ref16_Over_P:=pfn Try.prog qfx_ 6 18446744073709551616 (Ev.get qgl_) 14 q7p_
theorem q10l_ {J w1 w2 bank l i x k out}:ref16_Over_P J 59689 [w1,w2] (qk2_ bank l i x k out)=qpb_ (fun bank l i out=>w1 (qn_ bank l i out)) (fun bank l i x k out=>w2 (q10_ bank l i x k out)) bank l i x k out:=by kernel_rfl
theorem q13n_ {J w1 w2 bank l i x k t90 out}:ref16_Over_P J 955027 [w1,w2] (qkh_ bank l i x k t90 out)=qda_ (fun bank l i x k out=>J 59689 [w1,w2] (qk2_ bank l i x k out)) (fun bank l i out=>w1 (qn_ bank l i out)) (fun bank l i x k out=>w2 (q10_ bank l i x k out)) bank l i x k t90 out:=by kernel_rfl
theorem q11i_ {J w1 w2 bank l i x k out}:ref16_Over_P J 477513 [w1,w2] (qjv_ bank l i x k out)=qdb_ (fun bank l i x k t90 out=>J 955027 [w1,w2] (qkh_ bank l i x k t90 out)) (fun bank l i out=>w1 (qn_ bank l i out)) (fun bank l i x k out=>w2 (q10_ bank l i x k out)) bank l i x k out:=by kernel_rfl
theorem q116_ {J w1 w2 bank l i x k at' t52 out}:ref16_Over_P J 955026 [w1,w2] (qk9_ bank l i x k at' t52 out)=qee_ (fun bank l i x k out=>J 477513 [w1,w2] (qjv_ bank l i x k out)) (fun bank l i out=>w1 (qn_ bank l i out)) (fun bank l i x k out=>w2 (q10_ bank l i x k out)) bank l i x k at' t52 out:=by kernel_rfl
theorem q11c_ {J w1 bank l i out}:ref16_Over_P J 233 [w1] (qkw_ bank l i out)=qpc_ (fun bank l i out=>w1 (qn_ bank l i out)) bank l i out:=by kernel_rfl
theorem q138_ {J w1 bank l i x out}:ref16_Over_P J 1865 [w1] (qku_ bank l i x out)=qpq_ (fun bank l i out=>J 233 [w1] (qkw_ bank l i out)) (fun bank l i out=>w1 (qn_ bank l i out)) bank l i x out:=by kernel_rfl
theorem q124_ {J w1 w2 bank l i x k out}:ref16_Over_P J 14922 [w1,w2] (q10_ bank l i x k out)=qea_ (fun bank l i x k at' t52 out=>J 955026 [w1,w2] (qk9_ bank l i x k at' t52 out)) (fun bank l i x out=>J 1865 [w1] (qku_ bank l i x out)) (fun bank l i out=>w1 (qn_ bank l i out)) (fun bank l i x k out=>w2 (q10_ bank l i x k out)) bank l i x k out:=by kernel_rfl
theorem q118_ {J w1 bank l i out}:ref16_Over_P J 58 [w1] (qn_ bank l i out)=qdo_ (fun bank l i x k out=>J 14922 [w1] (q10_ bank l i x k out)) (fun bank l i out=>w1 (qn_ bank l i out)) bank l i out:=by kernel_rfl
theorem q11p_ (J:Orc (As [.sl (.int .u16)])) (x:As [.sl (.int .u16),.sl QNT3]):rfn Try.prog qfx_ 6 18446744073709551616 (Ev.get qgl_) 14 q7p_ J x=qpl_ (fun bank l i out=>J 58 [] (qn_ bank l i out)) x.1 x.2.1:=by kernel_rfl
noncomputable abbrev ref16_Over_J:=jfn Try.prog qfx_ 6 18446744073709551616 (Ev.get qgl_) 14 q7p_
theorem q10m_  (w1 w2 bank l i x k out):ref16_Over_J 59689 [w1,w2] (qk2_ bank l i x k out)=qf4_ (fun bank l i out=>w1 (qn_ bank l i out)) (fun bank l i x k out=>w2 (q10_ bank l i x k out)) bank l i x k out:=gN (by decide) q10l_
theorem q112_  (w1 w2 bank l i x k t90 out):ref16_Over_J 955027 [w1,w2] (qkh_ bank l i x k t90 out)=qe9_ (fun bank l i out=>w1 (qn_ bank l i out)) (fun bank l i x k out=>w2 (q10_ bank l i x k out)) bank l i x k t90 out:=gN (by decide) (q13n_.trans (by simp only [q10m_]; rfl))
theorem q119_  (w1 w2 bank l i x k out):ref16_Over_J 477513 [w1,w2] (qjv_ bank l i x k out)=q5h_ (fun bank l i out=>w1 (qn_ bank l i out)) (fun bank l i x k out=>w2 (q10_ bank l i x k out)) bank l i x k out:=gN (by decide) (q11i_.trans (by simp only [q112_]; rfl))
theorem q13b_  (w1 w2 bank l i x k at' t52 out):ref16_Over_J 955026 [w1,w2] (qk9_ bank l i x k at' t52 out)=qkf_ (fun bank l i out=>w1 (qn_ bank l i out)) (fun bank l i x k out=>w2 (q10_ bank l i x k out)) bank l i x k at' t52 out:=gN (by decide) (q116_.trans (by simp only [q119_]; rfl))
theorem q13d_  (w1 bank l i out):ref16_Over_J 233 [w1] (qkw_ bank l i out)=qpt_ (fun bank l i out=>w1 (qn_ bank l i out)) bank l i out:=gN (by decide) q11c_
theorem q12o_  (w1 bank l i x out):ref16_Over_J 1865 [w1] (qku_ bank l i x out)=qdl_ (fun bank l i out=>w1 (qn_ bank l i out)) bank l i x out:=gN (by decide) (q138_.trans (by simp only [q13d_]; rfl))
theorem q10k_  (w1 bank l i x k out):ref16_Over_J 14922 [w1] (q10_ bank l i x k out)=qjt_ (fun bank l i out=>w1 (qn_ bank l i out)) bank l i x k out:=gL (σ:=(List Int)×(List (Int×List Int))×(Int)×(Int)×(Int)×(List Int)) (mk:=fun s=>q10_ s.1 s.2.1 s.2.2.1 s.2.2.2.1 s.2.2.2.2.1 s.2.2.2.2.2) (by decide) (by kernel_rfl) (fun w2 s=>q124_.trans (by simp only [q13b_,q12o_])) (bank,l,i,x,k,out)
theorem q11n_  (bank l i out):ref16_Over_J 58 [] (qn_ bank l i out)=qex_ bank l i out:=gL (σ:=(List Int)×(List (Int×List Int))×(Int)×(List Int)) (mk:=fun s=>qn_ s.1 s.2.1 s.2.2.1 s.2.2.2) (by decide) (by kernel_rfl) (fun w1 s=>q118_.trans (by simp only [q10k_])) (bank,l,i,out)
theorem q15a_ (x:As [.sl (.int .u16),.sl QNT3]):evT Try.prog qfx_ 6 18446744073709551616 (Ev.get qgl_) 14 q7p_ x=qg1_ x:=by
 rw [qi_,q11p_]
 simp only [q11n_]
 rfl
theorem q10n_:CtOk Try.prog (fun _=>True) 14 ⟨q7p_,qg1_⟩:=qa_ q6_ q15a_
@[reducible] def q11_:Sh:=⟨[.d (.sl (.int .u16)),.d (.sl .bool)],[],[.sl (.int .u16),.sl .bool],[.d (.sl QNT3)],[],0,[.sl QNT3]⟩
def qb9_:Env:=(cts [(3000026,Ev.bxCt)])
def qb2_:List (Nat×Hint):=[(58,⟨[.row 5 31,.opn 5 [(1,32)]],[0,1,5,6]⟩),(233,⟨[.row 5 31,.opn 5 [(1,32)]],[0,1,5,6]⟩),(7461,⟨[.agd 41 (.int .i64),.agd 42 (.int .i64),.agd 45 (.sl (.int .u16)),.agd 46 (.int .i64),.agd 47 .bool,.agd 23 (.int .i64),.agd 24 (.int .i64),.agd 27 (.int .i64),.agd 29 (.int .i64),.agd 30 (.int .i64),.agd 33 (.sl (.int .u16)),.agd 34 (.int .i64),.agd 35 (.int .i64),.agd 36 (.int .i64),.agd 37 .bool],[0,1,5,6,7,48]⟩)]
def q1l_ (w:List Int) (is':List Bool) (i:Int) (out_o:Bool) (out:zL0) (out_l:Int) (o:List Int):St:=⟨[(0,dW w),(1,.d (.sl .bool) is'),(5,.row 0),(6,dI i)],77,[],[(0,.rowo QNT3 31 out_o out [dI out_l,.row 1]),(1,.row (.int .u16) 32 o)],2,[],0⟩
def q9s_ (w:List Int) (is':List Bool) (i:Int) (out_o:Bool) (out:zL0) (out_l:Int) (o:List Int):St:=⟨[(0,dW w),(1,.d (.sl .bool) is'),(5,.row 0),(6,dI i)],77,[],[(0,.rowo QNT3 31 out_o out [dI out_l,.row 1]),(1,.row (.int .u16) 32 o)],2,[],0⟩
def qft_ (w:List Int) (is':List Bool) (i n:Int) (t48 out_o:Bool) (out:zL0) (out_l:Int) (o:List Int):St:=⟨[(0,dW w),(1,.d (.sl .bool) is'),(5,.row 0),(6,dI i),(7,dI n),(48,dB t48)],77,[],[(0,.rowo QNT3 31 out_o out [dI out_l,.row 1]),(1,.row (.int .u16) 32 o)],2,[],0⟩
@[reducible] def zL3:Type:=List Int->List Bool->Int->Bool->List (Int×List Int)->Int->List Int->Option (As [.sl QNT3])
def q2f_ (j2:zL3) (j3:List Int->List Bool->Int->Int->Bool->Bool->List (Int×List Int)->Int->List Int->Option (As [.sl QNT3])) (self1:zL3) (w:List Int) (is':List Bool) (i:Int) (out_o:Bool) (out:zL0) (out_l:Int) (o:List Int):Option (As [.sl QNT3]) :=
 if lt i 64=true then Option.bind (at? is' i) fun y=>if (!y)=true then j2 w is' i out_o out out_l o else if gt (if out_o=true then Int.ofNat (List.length out + 1) else Int.ofNat (List.length out)) 0=true then need out_o (need (eqi (Sx.sub .i64 (if out_o=true then Int.ofNat (List.length out + 1) else Int.ofNat (List.length out)) 1) (Int.ofNat (List.length out))) (need out_o (need (eqi (Sx.sub .i64 (if out_o=true then Int.ofNat (List.length out + 1) else Int.ofNat (List.length out)) 1) (Int.ofNat (List.length out))) (need out_o (need (eqi (Sx.sub .i64 (if out_o=true then Int.ofNat (List.length out + 1) else Int.ofNat (List.length out)) 1) (Int.ofNat (List.length out))) (need out_o (need (eqi (Sx.sub .i64 (if out_o=true then Int.ofNat (List.length out + 1) else Int.ofNat (List.length out)) 1) (Int.ofNat (List.length out))) (if eqi (add .i64 out_l (Int.ofNat (List.length o))) i=true then need out_o (need (eqi (Sx.sub .i64 (if out_o=true then Int.ofNat (List.length out + 1) else Int.ofNat (List.length out)) 1) (Int.ofNat (List.length out))) (need out_o (need (eqi (Sx.sub .i64 (if out_o=true then Int.ofNat (List.length out + 1) else Int.ofNat (List.length out)) 1) (Int.ofNat (List.length out))) (j3 w is' i (if out_o=true then Int.ofNat (List.length out + 1) else Int.ofNat (List.length out)) (lt (Int.ofNat (List.length o)) 14) out_o out out_l o)))) else j3 w is' i (if out_o=true then Int.ofNat (List.length out + 1) else Int.ofNat (List.length out)) false out_o out out_l o)))))))) else j3 w is' i (if out_o=true then Int.ofNat (List.length out + 1) else Int.ofNat (List.length out)) false out_o out out_l o else some (if out_o=true then out++[(out_l,o)] else out,())
def qml_ (self1:zL3) (w:List Int) (is':List Bool) (i:Int) (out_o:Bool) (out:zL0) (out_l:Int) (o:List Int):Option (As [.sl QNT3]) :=
 self1 w is' (add .i64 i 1) out_o out out_l o
def q9m_ (j2 self1:zL3) (w:List Int) (is':List Bool) (i n:Int) (t48 out_o:Bool) (out:zL0) (out_l:Int) (o:List Int):Option (As [.sl QNT3]) :=
 if t48=true then need out_o (need (eqi (Sx.sub .i64 n 1) (Int.ofNat (List.length out))) (need out_o (need (eqi (Sx.sub .i64 n 1) (Int.ofNat (List.length out))) (Option.bind (at? w i) fun y=>need (small (List.length o + Nat.succ 0)) (need out_o (need (eqi (Sx.sub .i64 n 1) (Int.ofNat (List.length out))) (need out_o (need (eqi (Sx.sub .i64 n 1) (Int.ofNat (List.length out))) (j2 w is' i true out out_l (o++[y])))))))))) else Option.bind (at? w i) fun y=>need (small (List.length (if out_o=true then out++[(out_l,o)] else out) + 1)) (j2 w is' i true (if out_o=true then out++[(out_l,o)] else out) i [y])
def qmm_ (j1:zL3) (w:List Int) (is':List Bool):Option (As [.sl QNT3]) :=
 j1 w is' 0 false [] 0 []
def q1k_ (u1:zL3):=qml_ u1
def q3g_ (u1:zL3):=q9m_ (q1k_ u1) u1
def qfg_ (w:List Int) (is':List Bool) (i:Int) (out_o:Bool) (out:zL0) (out_l:Int) (o:List Int):Option (As [.sl QNT3]) :=
 loopF (fun self s=>q2f_ (q1k_ (fun w is' i out_o out out_l o=>self (w,is',i,out_o,out,out_l,o))) (q3g_ (fun w is' i out_o out out_l o=>self (w,is',i,out_o,out,out_l,o))) (fun w is' i out_o out out_l o=>self (w,is',i,out_o,out,out_l,o)) s.1 s.2.1 s.2.2.1 s.2.2.2.1 s.2.2.2.2.1 s.2.2.2.2.2.1 s.2.2.2.2.2.2) 18446744073709551616 (w,is',i,out_o,out,out_l,o)
def q2a_ (x:As [.sl (.int .u16),.sl .bool]):Option (As [.sl QNT3]):=qmm_ qfg_ x.1 x.2.1
noncomputable abbrev ref16_Blocks_P:=pfn Try.prog qb9_ 6 18446744073709551616 (Ev.get qb2_) 15 q11_
theorem qtf_ {J w1 w is' i out_o out out_l o}:ref16_Blocks_P J 233 [w1] (q9s_ w is' i out_o out out_l o)=qml_ (fun w is' i out_o out out_l o=>w1 (q1l_ w is' i out_o out out_l o)) w is' i out_o out out_l o:=by kernel_rfl
theorem qth_ {J w1 w is' i n t48 out_o out out_l o}:ref16_Blocks_P J 7461 [w1] (qft_ w is' i n t48 out_o out out_l o)=q9m_ (fun w is' i out_o out out_l o=>J 233 [w1] (q9s_ w is' i out_o out out_l o)) (fun w is' i out_o out out_l o=>w1 (q1l_ w is' i out_o out out_l o)) w is' i n t48 out_o out out_l o:=by kernel_rfl
theorem qt4_ {J w1 w is' i out_o out out_l o}:ref16_Blocks_P J 58 [w1] (q1l_ w is' i out_o out out_l o)=q2f_ (fun w is' i out_o out out_l o=>J 233 [w1] (q9s_ w is' i out_o out out_l o)) (fun w is' i n t48 out_o out out_l o=>J 7461 [w1] (qft_ w is' i n t48 out_o out out_l o)) (fun w is' i out_o out out_l o=>w1 (q1l_ w is' i out_o out out_l o)) w is' i out_o out out_l o:=by kernel_rfl
theorem qtk_ (J:Orc (As [.sl QNT3])) (x:As [.sl (.int .u16),.sl .bool]):rfn Try.prog qb9_ 6 18446744073709551616 (Ev.get qb2_) 15 q11_ J x=qmm_ (fun w is' i out_o out out_l o=>J 58 [] (q1l_ w is' i out_o out out_l o)) x.1 x.2.1:=by kernel_rfl
noncomputable abbrev ref16_Blocks_J:=jfn Try.prog qb9_ 6 18446744073709551616 (Ev.get qb2_) 15 q11_
theorem qmo_  (w1 w is' i out_o out out_l o):ref16_Blocks_J 233 [w1] (q9s_ w is' i out_o out out_l o)=q1k_ (fun w is' i out_o out out_l o=>w1 (q1l_ w is' i out_o out out_l o)) w is' i out_o out out_l o:=gN (by decide) qtf_
theorem qu5_  (w1 w is' i n t48 out_o out out_l o):ref16_Blocks_J 7461 [w1] (qft_ w is' i n t48 out_o out out_l o)=q3g_ (fun w is' i out_o out out_l o=>w1 (q1l_ w is' i out_o out out_l o)) w is' i n t48 out_o out out_l o:=gN (by decide) (qth_.trans (by simp only [qmo_]; rfl))
theorem qtz_  (w is' i out_o out out_l o):ref16_Blocks_J 58 [] (q1l_ w is' i out_o out out_l o)=qfg_ w is' i out_o out out_l o:=gL (σ:=(List Int)×(List Bool)×(Int)×(Bool)×(List (Int×List Int))×(Int)×(List Int)) (mk:=fun s=>q1l_ s.1 s.2.1 s.2.2.1 s.2.2.2.1 s.2.2.2.2.1 s.2.2.2.2.2.1 s.2.2.2.2.2.2) (by decide) (by kernel_rfl) (fun w1 s=>qt4_.trans (by simp only [qmo_,qu5_])) (w,is',i,out_o,out,out_l,o)
theorem qwp_ (x:As [.sl (.int .u16),.sl .bool]):evT Try.prog qb9_ 6 18446744073709551616 (Ev.get qb2_) 15 q11_ x=q2a_ x:=by
 rw [qi_,qtk_]
 simp only [qtz_]
 rfl
theorem qmh_:CtOk Try.prog (fun _=>True) 15 ⟨q11_,q2a_⟩:=qa_ (q2_ Ev.bx_ok q6_) qwp_
@[reducible] def q21_:Sh:=⟨[.d (.sl QNT2),.d (.pr .str QNT4)],[],[.sl QNT2,.pr .str QNT4],[.d (.sl (.sl (.int .u16))),.d (.sl (.sl .bool))],[],0,[.sl (.sl (.int .u16)),.sl (.sl .bool)]⟩
def qes_:Env:=(cts [(32,(⟨q3k_,q41_⟩:Ct)),(33,(⟨q4z_,q3y_⟩:Ct))])
def qdc_:List (Nat×Hint):=[(15,⟨[],[6,7]⟩),(122,⟨[.row 6 22,.row 7 23],[0,3,6,7,8]⟩),(489,⟨[],[0,3,6,7,8]⟩),(1956,⟨[],[0,3,6,7,8,9,10]⟩),(3913,⟨[],[0,3,6,7,8,9,10]⟩),(31306,⟨[],[0,3,6,7,8,9,10,11]⟩),(125225,⟨[],[0,3,6,7,8,9,10,11]⟩),(4007206,⟨[],[0,3,6,7,8,9,10,11,12]⟩),(128230601,⟨[],[0,3,6,7,8,9,10,11,12,13,14]⟩)]
@[reducible] def zL4:Type:=List UInt8×List QNT1
def qk_ (t:List QNT0) (i:Int) (r:zL4) (out:List (List Int)) (is':List (List Bool)):St:=⟨[(0,.d (.sl QNT2) t),(3,.pb 0 0),(6,.row 1),(7,.row 2),(8,dI i)],100,[],[(0,.box 42 [dS r.1,.d QNT4 r.2]),(1,.row (.sl (.int .u16)) 22 out),(2,.row (.sl .bool) 23 is')],3,[],0⟩
def qhm_ (t:List QNT0) (i:Int) (r:zL4) (out:List (List Int)) (is':List (List Bool)) (w:List Int) (have':List Bool):St:=⟨[(0,.d (.sl QNT2) t),(3,.pb 0 0),(6,.row 1),(7,.row 2),(8,dI i),(9,.row 3),(10,.row 4)],100,[],[(0,.box 42 [dS r.1,.d QNT4 r.2]),(1,.row (.sl (.int .u16)) 22 out),(2,.row (.sl .bool) 23 is'),(3,.row (.int .u16) 32 w),(4,.row .bool 4 have')],5,[],0⟩
def qhk_ (out:List (List Int)) (is':List (List Bool)):St:=⟨[(6,.row 0),(7,.row 1)],100,[],[(0,.row (.sl (.int .u16)) 22 out),(1,.row (.sl .bool) 23 is')],2,[],0⟩
def q17_ (t:List QNT0) (i k:Int) (r:zL4) (out:List (List Int)) (is':List (List Bool)) (w:List Int) (have':List Bool):St:=⟨[(0,.d (.sl QNT2) t),(3,.pb 0 0),(6,.row 1),(7,.row 2),(8,dI i),(9,.row 3),(10,.row 4),(11,dI k)],100,[],[(0,.box 42 [dS r.1,.d QNT4 r.2]),(1,.row (.sl (.int .u16)) 22 out),(2,.row (.sl .bool) 23 is'),(3,.row (.int .u16) 32 w),(4,.row .bool 4 have')],5,[],0⟩
def qca_ (t:List QNT0) (i k:Int) (r:zL4) (out:List (List Int)) (is':List (List Bool)) (w:List Int) (have':List Bool):St:=⟨[(0,.d (.sl QNT2) t),(3,.pb 0 0),(6,.row 1),(7,.row 2),(8,dI i),(9,.row 3),(10,.row 4),(11,dI k)],100,[],[(0,.box 42 [dS r.1,.d QNT4 r.2]),(1,.row (.sl (.int .u16)) 22 out),(2,.row (.sl .bool) 23 is'),(3,.row (.int .u16) 32 w),(4,.row .bool 4 have')],5,[],0⟩
def q2r_ (t:List QNT0) (i k j:Int) (r:zL4) (out:List (List Int)) (is':List (List Bool)) (w:List Int) (have':List Bool):St:=⟨[(0,.d (.sl QNT2) t),(3,.pb 0 0),(6,.row 1),(7,.row 2),(8,dI i),(9,.row 3),(10,.row 4),(11,dI k),(12,dI j)],100,[],[(0,.box 42 [dS r.1,.d QNT4 r.2]),(1,.row (.sl (.int .u16)) 22 out),(2,.row (.sl .bool) 23 is'),(3,.row (.int .u16) 32 w),(4,.row .bool 4 have')],5,[],0⟩
def qgz_ (t:List QNT0) (i:Int) (r:zL4) (out:List (List Int)) (is':List (List Bool)) (w:List Int) (have':List Bool):St:=⟨[(0,.d (.sl QNT2) t),(3,.pb 0 0),(6,.row 1),(7,.row 2),(8,dI i),(9,.row 3),(10,.row 4)],100,[],[(0,.box 42 [dS r.1,.d QNT4 r.2]),(1,.row (.sl (.int .u16)) 22 out),(2,.row (.sl .bool) 23 is'),(3,.row (.int .u16) 32 w),(4,.row .bool 4 have')],5,[],0⟩
@[reducible] def zL5:Type:=List UInt8×Int×Int×Bool×(Int×Int)×(Int×Int)×List UInt8
def qhx_ (t:List QNT0) (i k j:Int) (r:zL4) (out:List (List Int)) (is':List (List Bool)) (w:List Int) (have':List Bool) (s:List UInt8×(Int×Int)×List UInt8×Int) (p:zL5):St:=⟨[(0,.d (.sl QNT2) t),(3,.pb 0 0),(6,.row 1),(7,.row 2),(8,dI i),(9,.row 3),(10,.row 4),(11,dI k),(12,dI j),(13,.pb 5 0),(14,.pb 6 0)],100,[],[(0,.box 42 [dS r.1,.d QNT4 r.2]),(1,.row (.sl (.int .u16)) 22 out),(2,.row (.sl .bool) 23 is'),(3,.row (.int .u16) 32 w),(4,.row .bool 4 have'),(5,.box 82 [dS s.1,dI s.2.1.1,d8 s.2.1.2,dS s.2.2.1,dI s.2.2.2]),(6,.box 77 [dS p.1,dI p.2.1,dI p.2.2.1,dB p.2.2.2.1,dI p.2.2.2.2.1.1,d8 p.2.2.2.2.1.2,dI p.2.2.2.2.2.1.1,d8 p.2.2.2.2.2.1.2,dS p.2.2.2.2.2.2])],7,[],0⟩
def qj4_ (t:List QNT0) (i:Int) (r:zL4) (out:List (List Int)) (is':List (List Bool)):St:=⟨[(0,.d (.sl QNT2) t),(3,.pb 0 0),(6,.row 1),(7,.row 2),(8,dI i)],100,[],[(0,.box 42 [dS r.1,.d QNT4 r.2]),(1,.row (.sl (.int .u16)) 22 out),(2,.row (.sl .bool) 23 is')],3,[],0⟩
@[reducible] def zL6:Type:=List QNT0->Int->List UInt8×List QNT1->List (List Int)->List (List Bool)->List Int->List Bool->Option (As [.sl (.sl (.int .u16)),.sl (.sl .bool)])
@[reducible] def zL7:Type:=List QNT0->Int->List UInt8×List QNT1->List (List Int)->List (List Bool)->Option (As [.sl (.sl (.int .u16)),.sl (.sl .bool)])
def qc7_ (j2:zL6) (j3:List (List Int)->List (List Bool)->Option (As [.sl (.sl (.int .u16)),.sl (.sl .bool)])) (self1:zL7) (t:List QNT0) (i:Int) (r:zL4) (out:List (List Int)) (is':List (List Bool)):Option (As [.sl (.sl (.int .u16)),.sl (.sl .bool)]) :=
 if lt i (Int.ofNat (List.length t))=true then amb (eqAs q21_.rs) [j2 t i r out is' (List.replicate 64 0) (List.replicate 64 false),j2 t i r out is' (List.replicate 64 0) (List.replicate 64 false)] else j3 out is'
@[reducible] def zL8:Type:=List QNT0->Int->Int->List UInt8×List QNT1->List (List Int)->List (List Bool)->List Int->List Bool->Option (As [.sl (.sl (.int .u16)),.sl (.sl .bool)])
def qo9_ (j4:zL8) (self1:zL7) (t:List QNT0) (i:Int) (r:zL4) (out:List (List Int)) (is':List (List Bool)) (w:List Int) (have':List Bool):Option (As [.sl (.sl (.int .u16)),.sl (.sl .bool)]) :=
 j4 t i 0 r out is' w have'
def qod_ (out:List (List Int)) (is':List (List Bool)):Option (As [.sl (.sl (.int .u16)),.sl (.sl .bool)]) :=
 some (out,is',())
@[reducible] def zL9:Type:=List QNT0->Int->Int->Int->List UInt8×List QNT1->List (List Int)->List (List Bool)->List Int->List Bool->Option (As [.sl (.sl (.int .u16)),.sl (.sl .bool)])
def qaq_ (j5:zL8) (j6:zL9) (j7:zL6) (self1:zL7) (self4:zL8) (t:List QNT0) (i k:Int) (r:zL4) (out:List (List Int)) (is':List (List Bool)) (w:List Int) (have':List Bool):Option (As [.sl (.sl (.int .u16)),.sl (.sl .bool)]) :=
 if lt k (Int.ofNat (List.length r.2))=true then Option.bind (at? r.2 k) fun y=>Option.bind (at? t i) fun y_1=>if nes y.1 y_1.1=true then j5 t i k r out is' w have' else j6 t i k 0 r out is' w have' else j7 t i r out is' w have'
def qoj_ (self1:zL7) (self4:zL8) (t:List QNT0) (i k:Int) (r:zL4) (out:List (List Int)) (is':List (List Bool)) (w:List Int) (have':List Bool):Option (As [.sl (.sl (.int .u16)),.sl (.sl .bool)]) :=
 self4 t i (add .i64 k 1) r out is' w have'
def qci_ (j8:List QNT0->Int->Int->Int->List UInt8×List QNT1->List (List Int)->List (List Bool)->List Int->List Bool->List UInt8×(Int×Int)×List UInt8×Int->List UInt8×Int×Int×Bool×(Int×Int)×(Int×Int)×List UInt8->Option (As [.sl (.sl (.int .u16)),.sl (.sl .bool)])) (j5:zL8) (self1:zL7) (self4:zL8) (self6:zL9) (t:List QNT0) (i k j:Int) (r:zL4) (out:List (List Int)) (is':List (List Bool)) (w:List Int) (have':List Bool):Option (As [.sl (.sl (.int .u16)),.sl (.sl .bool)]) :=
 Option.bind (at? r.2 k) fun y=>if lt j (Int.ofNat (List.length y.2.2))=true then Option.bind (at? r.2 k) fun y=>Option.bind (at? y.2.2 j) fun y=>Option.bind (at? t i) fun y_1=>Option.bind (at? t i) fun y_2=>amb (eqAs q21_.rs) [Option.bind (q41_ (y_2,y.1,())) fun y_3=>Option.bind (at? y_1.2 y_3.1) fun y_4=>j8 t i k j r out is' w have' y y_4,Option.bind (q41_ (y_2,y.1,())) fun y_3=>Option.bind (at? y_1.2 y_3.1) fun y_4=>j8 t i k j r out is' w have' y y_4] else j5 t i k r out is' w have'
def qnw_ (j9 self1:zL7) (t:List QNT0) (i:Int) (r:zL4) (out:List (List Int)) (is':List (List Bool)) (w:List Int) (have':List Bool):Option (As [.sl (.sl (.int .u16)),.sl (.sl .bool)]) :=
 need (small (List.length out + Nat.succ 0)) (need (small (List.length is' + Nat.succ 0)) (j9 t i r (out++[w]) (is'++[have'])))
def qoc_ (self1:zL7) (self4:zL8) (self6:zL9) (t:List QNT0) (i k j:Int) (r:zL4) (out:List (List Int)) (is':List (List Bool)) (w:List Int) (have':List Bool) (s:List UInt8×(Int×Int)×List UInt8×Int) (p:zL5):Option (As [.sl (.sl (.int .u16)),.sl (.sl .bool)]) :=
 Option.bind (q3y_ (p,s,())) fun y=>Option.bind (at? w p.2.1) fun x=>Option.bind (at? w p.2.1) fun x=>Option.bind (at? have' p.2.1) fun x=>Option.bind (at? have' p.2.1) fun x=>self6 t i k (add .i64 j 1) r out is' (List.set w (Int.toNat p.2.1) y.1) (List.set have' (Int.toNat p.2.1) true)
def qom_ (self1:zL7) (t:List QNT0) (i:Int) (r:zL4) (out:List (List Int)) (is':List (List Bool)):Option (As [.sl (.sl (.int .u16)),.sl (.sl .bool)]) :=
 self1 t (add .i64 i 1) r out is'
def qon_ (j1:zL7) (t:List QNT0) (r:zL4):Option (As [.sl (.sl (.int .u16)),.sl (.sl .bool)]) :=
 j1 t 0 r [] []
def qhb_ (u1:zL7) (u4:zL8):=qoj_ u1 u4
def qnv_ (u1:zL7) (u4:zL8) (u6:zL9):=qoc_ u1 u4 u6
def qb7_ (u1:zL7) (u4:zL8) (t:List QNT0) (i k j:Int) (r:zL4) (out:List (List Int)) (is':List (List Bool)) (w:List Int) (have':List Bool):Option (As [.sl (.sl (.int .u16)),.sl (.sl .bool)]) :=
 loopF (fun self s=>qci_ (qnv_ u1 u4 (fun t i k j r out is' w have'=>self (t,i,k,j,r,out,is',w,have'))) (qhb_ u1 u4) u1 u4 (fun t i k j r out is' w have'=>self (t,i,k,j,r,out,is',w,have')) s.1 s.2.1 s.2.2.1 s.2.2.2.1 s.2.2.2.2.1 s.2.2.2.2.2.1 s.2.2.2.2.2.2.1 s.2.2.2.2.2.2.2.1 s.2.2.2.2.2.2.2.2) 18446744073709551616 (t,i,k,j,r,out,is',w,have')
def qoi_ (u1:zL7):=qom_ u1
def qbi_ (u1:zL7):=qnw_ (qoi_ u1) u1
def q81_ (u1:zL7) (t:List QNT0) (i k:Int) (r:zL4) (out:List (List Int)) (is':List (List Bool)) (w:List Int) (have':List Bool):Option (As [.sl (.sl (.int .u16)),.sl (.sl .bool)]) :=
 loopF (fun self s=>qaq_ (qhb_ u1 (fun t i k r out is' w have'=>self (t,i,k,r,out,is',w,have'))) (qb7_ u1 (fun t i k r out is' w have'=>self (t,i,k,r,out,is',w,have'))) (qbi_ u1) u1 (fun t i k r out is' w have'=>self (t,i,k,r,out,is',w,have')) s.1 s.2.1 s.2.2.1 s.2.2.2.1 s.2.2.2.2.1 s.2.2.2.2.2.1 s.2.2.2.2.2.2.1 s.2.2.2.2.2.2.2) 18446744073709551616 (t,i,k,r,out,is',w,have')
def qnz_ (u1:zL7):=qo9_ (q81_ u1) u1
def qn6_:=qod_
def qb4_ (t:List QNT0) (i:Int) (r:zL4) (out:List (List Int)) (is':List (List Bool)):Option (As [.sl (.sl (.int .u16)),.sl (.sl .bool)]) :=
 loopF (fun self s=>qc7_ (qnz_ (fun t i r out is'=>self (t,i,r,out,is'))) (qn6_) (fun t i r out is'=>self (t,i,r,out,is')) s.1 s.2.1 s.2.2.1 s.2.2.2.1 s.2.2.2.2) 18446744073709551616 (t,i,r,out,is')
def q6w_ (x:As [.sl QNT2,.pr .str QNT4]):Option (As [.sl (.sl (.int .u16)),.sl (.sl .bool)]):=qon_ qb4_ x.1 x.2.1
noncomputable abbrev ref16_Words_P:=pfn Try.prog qes_ 6 18446744073709551616 (Ev.get qdc_) 22 q21_
theorem qyf_ {J w1 w4 t i k r out is' w have'}:ref16_Words_P J 125225 [w1,w4] (qca_ t i k r out is' w have')=qoj_ (fun t i r out is'=>w1 (qk_ t i r out is')) (fun t i k r out is' w have'=>w4 (q17_ t i k r out is' w have')) t i k r out is' w have':=by kernel_rfl
theorem qu9_ {J w1 w4 w6 t i k j r out is' w have' s p}:ref16_Words_P J 128230601 [w1,w4,w6] (qhx_ t i k j r out is' w have' s p)=qoc_ (fun t i r out is'=>w1 (qk_ t i r out is')) (fun t i k r out is' w have'=>w4 (q17_ t i k r out is' w have')) (fun t i k j r out is' w have'=>w6 (q2r_ t i k j r out is' w have')) t i k j r out is' w have' s p:=by kernel_rfl
theorem qw1_ {J w1 w4 w6 t i k j r out is' w have'}:ref16_Words_P J 4007206 [w1,w4,w6] (q2r_ t i k j r out is' w have')=qci_ (fun t i k j r out is' w have' s p=>J 128230601 [w1,w4,w6] (qhx_ t i k j r out is' w have' s p)) (fun t i k r out is' w have'=>J 125225 [w1,w4] (qca_ t i k r out is' w have')) (fun t i r out is'=>w1 (qk_ t i r out is')) (fun t i k r out is' w have'=>w4 (q17_ t i k r out is' w have')) (fun t i k j r out is' w have'=>w6 (q2r_ t i k j r out is' w have')) t i k j r out is' w have':=by kernel_rfl
theorem qvh_ {J w1 t i r out is'}:ref16_Words_P J 489 [w1] (qj4_ t i r out is')=qom_ (fun t i r out is'=>w1 (qk_ t i r out is')) t i r out is':=by kernel_rfl
theorem q10g_ {J w1 t i r out is' w have'}:ref16_Words_P J 3913 [w1] (qgz_ t i r out is' w have')=qnw_ (fun t i r out is'=>J 489 [w1] (qj4_ t i r out is')) (fun t i r out is'=>w1 (qk_ t i r out is')) t i r out is' w have':=by kernel_rfl
theorem qvm_ {J w1 w4 t i k r out is' w have'}:ref16_Words_P J 31306 [w1,w4] (q17_ t i k r out is' w have')=qaq_ (fun t i k r out is' w have'=>J 125225 [w1,w4] (qca_ t i k r out is' w have')) (fun t i k j r out is' w have'=>J 4007206 [w1,w4] (q2r_ t i k j r out is' w have')) (fun t i r out is' w have'=>J 3913 [w1] (qgz_ t i r out is' w have')) (fun t i r out is'=>w1 (qk_ t i r out is')) (fun t i k r out is' w have'=>w4 (q17_ t i k r out is' w have')) t i k r out is' w have':=by kernel_rfl
theorem qwc_ {J w1 t i r out is' w have'}:ref16_Words_P J 1956 [w1] (qhm_ t i r out is' w have')=qo9_ (fun t i k r out is' w have'=>J 31306 [w1] (q17_ t i k r out is' w have')) (fun t i r out is'=>w1 (qk_ t i r out is')) t i r out is' w have':=by kernel_rfl
theorem qzx_ {J out is'}:ref16_Words_P J 15 [] (qhk_ out is')=qod_ out is':=by kernel_rfl
theorem qyx_ {J w1 t i r out is'}:ref16_Words_P J 122 [w1] (qk_ t i r out is')=qc7_ (fun t i r out is' w have'=>J 1956 [w1] (qhm_ t i r out is' w have')) (fun out is'=>J 15 [] (qhk_ out is')) (fun t i r out is'=>w1 (qk_ t i r out is')) t i r out is':=by kernel_rfl
theorem q107_ (J:Orc (As [.sl (.sl (.int .u16)),.sl (.sl .bool)])) (x:As [.sl QNT2,.pr .str QNT4]):rfn Try.prog qes_ 6 18446744073709551616 (Ev.get qdc_) 22 q21_ J x=qon_ (fun t i r out is'=>J 122 [] (qk_ t i r out is')) x.1 x.2.1:=by kernel_rfl
noncomputable abbrev ref16_Words_J:=jfn Try.prog qes_ 6 18446744073709551616 (Ev.get qdc_) 22 q21_
theorem qo7_  (w1 w4 t i k r out is' w have'):ref16_Words_J 125225 [w1,w4] (qca_ t i k r out is' w have')=qhb_ (fun t i r out is'=>w1 (qk_ t i r out is')) (fun t i k r out is' w have'=>w4 (q17_ t i k r out is' w have')) t i k r out is' w have':=gN (by decide) qyf_
theorem qwm_  (w1 w4 w6 t i k j r out is' w have' s p):ref16_Words_J 128230601 [w1,w4,w6] (qhx_ t i k j r out is' w have' s p)=qnv_ (fun t i r out is'=>w1 (qk_ t i r out is')) (fun t i k r out is' w have'=>w4 (q17_ t i k r out is' w have')) (fun t i k j r out is' w have'=>w6 (q2r_ t i k j r out is' w have')) t i k j r out is' w have' s p:=gN (by decide) qu9_
theorem qwa_  (w1 w4 t i k j r out is' w have'):ref16_Words_J 4007206 [w1,w4] (q2r_ t i k j r out is' w have')=qb7_ (fun t i r out is'=>w1 (qk_ t i r out is')) (fun t i k r out is' w have'=>w4 (q17_ t i k r out is' w have')) t i k j r out is' w have':=gL (σ:=(List QNT0)×(Int)×(Int)×(Int)×(List UInt8×List QNT1)×(List (List Int))×(List (List Bool))×(List Int)×(List Bool)) (mk:=fun s=>q2r_ s.1 s.2.1 s.2.2.1 s.2.2.2.1 s.2.2.2.2.1 s.2.2.2.2.2.1 s.2.2.2.2.2.2.1 s.2.2.2.2.2.2.2.1 s.2.2.2.2.2.2.2.2) (by decide) (by kernel_rfl) (fun w6 s=>qw1_.trans (by simp only [qwm_,qo7_])) (t,i,k,j,r,out,is',w,have')
theorem qvv_  (w1 t i r out is'):ref16_Words_J 489 [w1] (qj4_ t i r out is')=qoi_ (fun t i r out is'=>w1 (qk_ t i r out is')) t i r out is':=gN (by decide) qvh_
theorem qu7_  (w1 t i r out is' w have'):ref16_Words_J 3913 [w1] (qgz_ t i r out is' w have')=qbi_ (fun t i r out is'=>w1 (qk_ t i r out is')) t i r out is' w have':=gN (by decide) (q10g_.trans (by simp only [qvv_]; rfl))
theorem q106_  (w1 t i k r out is' w have'):ref16_Words_J 31306 [w1] (q17_ t i k r out is' w have')=q81_ (fun t i r out is'=>w1 (qk_ t i r out is')) t i k r out is' w have':=gL (σ:=(List QNT0)×(Int)×(Int)×(List UInt8×List QNT1)×(List (List Int))×(List (List Bool))×(List Int)×(List Bool)) (mk:=fun s=>q17_ s.1 s.2.1 s.2.2.1 s.2.2.2.1 s.2.2.2.2.1 s.2.2.2.2.2.1 s.2.2.2.2.2.2.1 s.2.2.2.2.2.2.2) (by decide) (by kernel_rfl) (fun w4 s=>qvm_.trans (by simp only [qo7_,qwa_,qu7_])) (t,i,k,r,out,is',w,have')
theorem q10f_  (w1 t i r out is' w have'):ref16_Words_J 1956 [w1] (qhm_ t i r out is' w have')=qnz_ (fun t i r out is'=>w1 (qk_ t i r out is')) t i r out is' w have':=gN (by decide) (qwc_.trans (by simp only [q106_]; rfl))
theorem qzl_  (out is'):ref16_Words_J 15 [] (qhk_ out is')=qn6_ out is':=gN (by decide) qzx_
theorem qzo_  (t i r out is'):ref16_Words_J 122 [] (qk_ t i r out is')=qb4_ t i r out is':=gL (σ:=(List QNT0)×(Int)×(List UInt8×List QNT1)×(List (List Int))×(List (List Bool))) (mk:=fun s=>qk_ s.1 s.2.1 s.2.2.1 s.2.2.2.1 s.2.2.2.2) (by decide) (by kernel_rfl) (fun w1 s=>qyx_.trans (by simp only [q10f_,qzl_])) (t,i,r,out,is')
theorem q11v_ (x:As [.sl QNT2,.pr .str QNT4]):evT Try.prog qes_ 6 18446744073709551616 (Ev.get qdc_) 22 q21_ x=q6w_ x:=by
 rw [qi_,q107_]
 simp only [qzo_]
 rfl
theorem qop_:CtOk Try.prog (fun _=>True) 22 ⟨q21_,q6w_⟩:=qa_ (q2_ qnr_ (q2_ qpr_ q6_)) q11v_
@[reducible] def q3b_:Sh:=⟨[.d (.sl QNT2),.d (.pr .str QNT4)],[],[.sl QNT2,.pr .str QNT4],[.d (.sl (.pr (.int .i64) (.sl QNT3))),.d (.pr (.int .i64) (.int .i64))],[],0,[.sl (.pr (.int .i64) (.sl QNT3)),.pr (.int .i64) (.int .i64)]⟩
def qfv_:Env:=(cts [(15,(⟨q11_,q2a_⟩:Ct)),(21,(⟨q3q_,q6u_⟩:Ct)),(22,(⟨q21_,q6w_⟩:Ct)),(28,(⟨q55_,q8k_⟩:Ct))])
def qfm_:List (Nat×Hint):=[(31,⟨[],[0,5,7,8]⟩),(127,⟨[],[5,11]⟩),(1018,⟨[.row 11 64],[0,5,7,8,11,12]⟩),(4073,⟨[.row 11 64],[0,5,7,8,11,12]⟩),(250,⟨[],[0,3,5,7,8,9]⟩)]
def q8p_ (t:List QNT0) (w:List (List Int)) (is':List (List Bool)) (i:Int) (r:zL4) (t5:Int×Int):St:=⟨[(0,.d (.sl QNT2) t),(3,.pb 0 0),(5,.pb 1 0),(7,.d (.sl (.sl (.int .u16))) w),(8,.d (.sl (.sl .bool)) is'),(9,dI i)],86,[],[(0,.box 42 [dS r.1,.d QNT4 r.2]),(1,.box 50 [dI t5.1,dI t5.2])],2,[],0⟩
def qkd_ (t:List QNT0) (w:List (List Int)) (is':List (List Bool)) (t5:Int×Int):St:=⟨[(0,.d (.sl QNT2) t),(5,.pb 0 0),(7,.d (.sl (.sl (.int .u16))) w),(8,.d (.sl (.sl .bool)) is')],86,[],[(0,.box 50 [dI t5.1,dI t5.2])],1,[],0⟩
def q3s_ (t:List QNT0) (w:List (List Int)) (is':List (List Bool)) (i:Int) (t5:Int×Int) (out:List QNT5):St:=⟨[(0,.d (.sl QNT2) t),(5,.pb 0 0),(7,.d (.sl (.sl (.int .u16))) w),(8,.d (.sl (.sl .bool)) is'),(11,.row 1),(12,dI i)],86,[],[(0,.box 50 [dI t5.1,dI t5.2]),(1,.row (.pr (.int .i64) (.sl QNT3)) 64 out)],2,[],0⟩
def qke_ (t:List QNT0) (w:List (List Int)) (is':List (List Bool)) (i:Int) (t5:Int×Int) (out:List QNT5):St:=⟨[(0,.d (.sl QNT2) t),(5,.pb 0 0),(7,.d (.sl (.sl (.int .u16))) w),(8,.d (.sl (.sl .bool)) is'),(11,.row 1),(12,dI i)],86,[],[(0,.box 50 [dI t5.1,dI t5.2]),(1,.row (.pr (.int .i64) (.sl QNT3)) 64 out)],2,[],0⟩
def qkq_ (t5:Int×Int) (out:List QNT5):St:=⟨[(5,.pb 0 0),(11,.row 1)],86,[],[(0,.box 50 [dI t5.1,dI t5.2]),(1,.row (.pr (.int .i64) (.sl QNT3)) 64 out)],2,[],0⟩
@[reducible] def zL10:Type:=List QNT0->List (List Int)->List (List Bool)->Int->List UInt8×List QNT1->Int×Int->Option (As [.sl (.pr (.int .i64) (.sl QNT3)),.pr (.int .i64) (.int .i64)])
def qdi_ (j2:List QNT0->List (List Int)->List (List Bool)->Int×Int->Option (As [.sl (.pr (.int .i64) (.sl QNT3)),.pr (.int .i64) (.int .i64)])) (self1:zL10) (t:List QNT0) (w:List (List Int)) (is':List (List Bool)) (i:Int) (r:zL4) (t5:Int×Int):Option (As [.sl (.pr (.int .i64) (.sl QNT3)),.pr (.int .i64) (.int .i64)]) :=
 if lt i (Int.ofNat (List.length r.2))=true then Option.bind (at? r.2 i) fun y=>Option.bind (q8k_ (t,y.1,())) fun y=>Option.bind (at? w y.1) fun y_1=>Option.bind (at? is' y.1) fun y=>Option.bind (q2a_ (y_1,y,())) fun y=>if gt (Int.ofNat (List.length y.1)) 8=true then Option.bind (at? r.2 i) fun y=>some ([],(160,y.2.1),()) else self1 t w is' (add .i64 i 1) r t5 else j2 t w is' t5
@[reducible] def zL11:Type:=List QNT0->List (List Int)->List (List Bool)->Int->Int×Int->List QNT5->Option (As [.sl (.pr (.int .i64) (.sl QNT3)),.pr (.int .i64) (.int .i64)])
def qpe_ (j3:zL11) (t:List QNT0) (w:List (List Int)) (is':List (List Bool)) (t5:Int×Int):Option (As [.sl (.pr (.int .i64) (.sl QNT3)),.pr (.int .i64) (.int .i64)]) :=
 j3 t w is' 0 t5 []
def q8v_ (j4:zL11) (j5:Int×Int->List QNT5->Option (As [.sl (.pr (.int .i64) (.sl QNT3)),.pr (.int .i64) (.int .i64)])) (self3:zL11) (t:List QNT0) (w:List (List Int)) (is':List (List Bool)) (i:Int) (t5:Int×Int) (out:List QNT5):Option (As [.sl (.pr (.int .i64) (.sl QNT3)),.pr (.int .i64) (.int .i64)]) :=
 if lt i (Int.ofNat (List.length t))=true then Option.bind (at? w i) fun y=>Option.bind (at? is' i) fun y_1=>Option.bind (q2a_ (y,y_1,())) fun y=>if gt (Int.ofNat (List.length y.1)) 0=true then need (small (List.length out + Nat.succ 0)) (j4 t w is' i t5 (out++[(i,y.1)])) else j4 t w is' i t5 out else j5 t5 out
def qp8_ (self3:zL11) (t:List QNT0) (w:List (List Int)) (is':List (List Bool)) (i:Int) (t5:Int×Int) (out:List QNT5):Option (As [.sl (.pr (.int .i64) (.sl QNT3)),.pr (.int .i64) (.int .i64)]) :=
 self3 t w is' (add .i64 i 1) t5 out
def qpo_ (t5:Int×Int) (out:List QNT5):Option (As [.sl (.pr (.int .i64) (.sl QNT3)),.pr (.int .i64) (.int .i64)]) :=
 some (out,(0,0),())
def qdg_ (j1:zL10) (t:List QNT0) (r:zL4):Option (As [.sl (.pr (.int .i64) (.sl QNT3)),.pr (.int .i64) (.int .i64)]) :=
 Option.bind (q6u_ (t,r,())) fun y=>if nei y.1.1 0=true then some ([],y.1,()) else Option.bind (q6w_ (t,r,())) fun y=>j1 t y.1 y.2.1 0 r (0,0)
def qdv_ (u3:zL11):=qp8_ u3
def qjz_:=qpo_
def qju_ (t:List QNT0) (w:List (List Int)) (is':List (List Bool)) (i:Int) (t5:Int×Int) (out:List QNT5):Option (As [.sl (.pr (.int .i64) (.sl QNT3)),.pr (.int .i64) (.int .i64)]) :=
 loopF (fun self s=>q8v_ (qdv_ (fun t w is' i t5 out=>self (t,w,is',i,t5,out))) (qjz_) (fun t w is' i t5 out=>self (t,w,is',i,t5,out)) s.1 s.2.1 s.2.2.1 s.2.2.2.1 s.2.2.2.2.1 s.2.2.2.2.2) 18446744073709551616 (t,w,is',i,t5,out)
def q8o_:=qpe_ (qju_)
def q8x_ (t:List QNT0) (w:List (List Int)) (is':List (List Bool)) (i:Int) (r:zL4) (t5:Int×Int):Option (As [.sl (.pr (.int .i64) (.sl QNT3)),.pr (.int .i64) (.int .i64)]) :=
 loopF (fun self s=>qdi_ (q8o_) (fun t w is' i r t5=>self (t,w,is',i,r,t5)) s.1 s.2.1 s.2.2.1 s.2.2.2.1 s.2.2.2.2.1 s.2.2.2.2.2) 18446744073709551616 (t,w,is',i,r,t5)
def qfi_ (x:As [.sl QNT2,.pr .str QNT4]):Option (As [.sl (.pr (.int .i64) (.sl QNT3)),.pr (.int .i64) (.int .i64)]):=qdg_ q8x_ x.1 x.2.1
noncomputable abbrev ref16_Make_P:=pfn Try.prog qfv_ 6 18446744073709551616 (Ev.get qfm_) 18 q3b_
theorem q10j_ {J w3 t w is' i t5 out}:ref16_Make_P J 4073 [w3] (qke_ t w is' i t5 out)=qp8_ (fun t w is' i t5 out=>w3 (q3s_ t w is' i t5 out)) t w is' i t5 out:=by kernel_rfl
theorem q10v_ {J t5 out}:ref16_Make_P J 127 [] (qkq_ t5 out)=qpo_ t5 out:=by kernel_rfl
theorem q115_ {J w3 t w is' i t5 out}:ref16_Make_P J 1018 [w3] (q3s_ t w is' i t5 out)=q8v_ (fun t w is' i t5 out=>J 4073 [w3] (qke_ t w is' i t5 out)) (fun t5 out=>J 127 [] (qkq_ t5 out)) (fun t w is' i t5 out=>w3 (q3s_ t w is' i t5 out)) t w is' i t5 out:=by kernel_rfl
theorem q12h_ {J t w is' t5}:ref16_Make_P J 31 [] (qkd_ t w is' t5)=qpe_ (fun t w is' i t5 out=>J 1018 [] (q3s_ t w is' i t5 out)) t w is' t5:=by kernel_rfl
theorem q10u_ {J w1 t w is' i r t5}:ref16_Make_P J 250 [w1] (q8p_ t w is' i r t5)=qdi_ (fun t w is' t5=>J 31 [] (qkd_ t w is' t5)) (fun t w is' i r t5=>w1 (q8p_ t w is' i r t5)) t w is' i r t5:=by kernel_rfl
theorem q126_ (J:Orc (As [.sl (.pr (.int .i64) (.sl QNT3)),.pr (.int .i64) (.int .i64)])) (x:As [.sl QNT2,.pr .str QNT4]):rfn Try.prog qfv_ 6 18446744073709551616 (Ev.get qfm_) 18 q3b_ J x=qdg_ (fun t w is' i r t5=>J 250 [] (q8p_ t w is' i r t5)) x.1 x.2.1:=by kernel_rfl
noncomputable abbrev ref16_Make_J:=jfn Try.prog qfv_ 6 18446744073709551616 (Ev.get qfm_) 18 q3b_
theorem q12y_  (w3 t w is' i t5 out):ref16_Make_J 4073 [w3] (qke_ t w is' i t5 out)=qdv_ (fun t w is' i t5 out=>w3 (q3s_ t w is' i t5 out)) t w is' i t5 out:=gN (by decide) q10j_
theorem q11f_  (t5 out):ref16_Make_J 127 [] (qkq_ t5 out)=qjz_ t5 out:=gN (by decide) q10v_
theorem q123_  (t w is' i t5 out):ref16_Make_J 1018 [] (q3s_ t w is' i t5 out)=qju_ t w is' i t5 out:=gL (σ:=(List QNT0)×(List (List Int))×(List (List Bool))×(Int)×(Int×Int)×(List QNT5)) (mk:=fun s=>q3s_ s.1 s.2.1 s.2.2.1 s.2.2.2.1 s.2.2.2.2.1 s.2.2.2.2.2) (by decide) (by kernel_rfl) (fun w3 s=>q115_.trans (by simp only [q12y_,q11f_])) (t,w,is',i,t5,out)
theorem q12n_  (t w is' t5):ref16_Make_J 31 [] (qkd_ t w is' t5)=q8o_ t w is' t5:=gN (by decide) (q12h_.trans (by simp only [q123_]; rfl))
theorem q12a_  (t w is' i r t5):ref16_Make_J 250 [] (q8p_ t w is' i r t5)=q8x_ t w is' i r t5:=gL (σ:=(List QNT0)×(List (List Int))×(List (List Bool))×(Int)×(List UInt8×List QNT1)×(Int×Int)) (mk:=fun s=>q8p_ s.1 s.2.1 s.2.2.1 s.2.2.2.1 s.2.2.2.2.1 s.2.2.2.2.2) (by decide) (by kernel_rfl) (fun w1 s=>q10u_.trans (by simp only [q12n_])) (t,w,is',i,r,t5)
theorem q15k_ (x:As [.sl QNT2,.pr .str QNT4]):evT Try.prog qfv_ 6 18446744073709551616 (Ev.get qfm_) 18 q3b_ x=qfi_ x:=by
 rw [qi_,q126_]
 simp only [q12a_]
 rfl
theorem q11l_:CtOk Try.prog (fun _=>True) 18 ⟨q3b_,qfi_⟩:=qa_ (q2_ qmh_ (q2_ qo4_ (q2_ qop_ (q2_ qp7_ q6_)))) q15k_
@[reducible] def q4h_:Sh:=⟨[.d (.sl (.pr (.int .i64) (.sl QNT3))),.d (.sl (.pr (.int .i64) (.sl QNT3)))],[],[.sl (.pr (.int .i64) (.sl QNT3)),.sl (.pr (.int .i64) (.sl QNT3))],[.d (.bool)],[],0,[.bool]⟩
def qb0_:Env:=(cts [(16,(⟨q3c_,q2g_⟩:Ct))])
def qce_:List (Nat×Hint):=[(58,⟨[],[0,1,12,13,28,29,30,31,32,33,34,35,36,37,38,39]⟩),(3737,⟨[.agd 28 (.sl (.pr (.int .i64) (.sl QNT3))),.agd 29 (.int .i64),.agd 32 (.sl QNT3),.agd 33 (.sl (.pr (.int .i64) (.sl QNT3))),.agd 34 (.int .i64),.agd 37 (.sl QNT3),.agd 38 .bool,.agd 39 .bool],[0,1,12,13,40]⟩)]
def q29_ (a b:List QNT5) (t12 t13:Int):St:=⟨[(0,.d (.sl (.pr (.int .i64) (.sl QNT3))) a),(1,.d (.sl (.pr (.int .i64) (.sl QNT3))) b),(12,dI t12),(13,dI t13)],42,[],[],0,[],0⟩
def qfk_ (a b:List QNT5) (t12 t13:Int) (t40:Bool):St:=⟨[(0,.d (.sl (.pr (.int .i64) (.sl QNT3))) a),(1,.d (.sl (.pr (.int .i64) (.sl QNT3))) b),(12,dI t12),(13,dI t13),(40,dB t40)],42,[],[],0,[],0⟩
@[reducible] def zL12:Type:=List QNT5->List QNT5->Int->Int->Option (As [.bool])
def q9g_ (j2:List QNT5->List QNT5->Int->Int->Bool->Option (As [.bool])) (self1:zL12) (a b:List QNT5) (t12 t13:Int):Option (As [.bool]) :=
 if lt t13 t12=true then Option.bind (at? a t13) fun y=>Option.bind (at? b t13) fun y_1=>if nei y.1 y_1.1=true then j2 a b t12 t13 true else Option.bind (at? a t13) fun y=>Option.bind (at? b t13) fun y_2=>Option.bind (q2g_ (y.2,y_2.2,())) fun y=>j2 a b t12 t13 !y.1 else some (true,())
def qmg_ (self1:zL12) (a b:List QNT5) (t12 t13:Int) (t40:Bool):Option (As [.bool]) :=
 if t40=true then some (false,()) else self1 a b t12 (add .i64 t13 1)
def q9i_ (j1:zL12) (a b:List QNT5):Option (As [.bool]) :=
 if nei (Int.ofNat (List.length a)) (Int.ofNat (List.length b))=true then some (false,()) else j1 a b (Int.ofNat (List.length a)) 0
def qmk_ (u1:zL12):=qmg_ u1
def q9q_ (a b:List QNT5) (t12 t13:Int):Option (As [.bool]) :=
 loopF (fun self s=>q9g_ (qmk_ (fun a b t12 t13=>self (a,b,t12,t13))) (fun a b t12 t13=>self (a,b,t12,t13)) s.1 s.2.1 s.2.2.1 s.2.2.2) 18446744073709551616 (a,b,t12,t13)
def qaa_ (x:As [.sl (.pr (.int .i64) (.sl QNT3)),.sl (.pr (.int .i64) (.sl QNT3))]):Option (As [.bool]):=q9i_ q9q_ x.1 x.2.1
noncomputable abbrev law16_Shares_P:=pfn Try.prog qb0_ 6 18446744073709551616 (Ev.get qce_) 19 q4h_
theorem qt6_ {J w1 a b t12 t13 t40}:law16_Shares_P J 3737 [w1] (qfk_ a b t12 t13 t40)=qmg_ (fun a b t12 t13=>w1 (q29_ a b t12 t13)) a b t12 t13 t40:=by kernel_rfl
theorem qtx_ {J w1 a b t12 t13}:law16_Shares_P J 58 [w1] (q29_ a b t12 t13)=q9g_ (fun a b t12 t13 t40=>J 3737 [w1] (qfk_ a b t12 t13 t40)) (fun a b t12 t13=>w1 (q29_ a b t12 t13)) a b t12 t13:=by kernel_rfl
theorem qu3_ (J:Orc (As [.bool])) (x:As [.sl (.pr (.int .i64) (.sl QNT3)),.sl (.pr (.int .i64) (.sl QNT3))]):rfn Try.prog qb0_ 6 18446744073709551616 (Ev.get qce_) 19 q4h_ J x=q9i_ (fun a b t12 t13=>J 58 [] (q29_ a b t12 t13)) x.1 x.2.1:=by kernel_rfl
noncomputable abbrev law16_Shares_J:=jfn Try.prog qb0_ 6 18446744073709551616 (Ev.get qce_) 19 q4h_
theorem qtb_  (w1 a b t12 t13 t40):law16_Shares_J 3737 [w1] (qfk_ a b t12 t13 t40)=qmk_ (fun a b t12 t13=>w1 (q29_ a b t12 t13)) a b t12 t13 t40:=gN (by decide) qt6_
theorem qtp_  (a b t12 t13):law16_Shares_J 58 [] (q29_ a b t12 t13)=q9q_ a b t12 t13:=gL (σ:=(List QNT5)×(List QNT5)×(Int)×(Int)) (mk:=fun s=>q29_ s.1 s.2.1 s.2.2.1 s.2.2.2) (by decide) (by kernel_rfl) (fun w1 s=>qtx_.trans (by simp only [qtb_])) (a,b,t12,t13)
theorem qv2_ (x:As [.sl (.pr (.int .i64) (.sl QNT3)),.sl (.pr (.int .i64) (.sl QNT3))]):evT Try.prog qb0_ 6 18446744073709551616 (Ev.get qce_) 19 q4h_ x=qaa_ x:=by
 rw [qi_,qu3_]
 simp only [qtp_]
 rfl
theorem qsz_:CtOk Try.prog (fun _=>True) 19 ⟨q4h_,qaa_⟩:=qa_ (q2_ qkb_ q6_) qv2_
end Go.Proofs.Lx
end
section
open Go Go.Proofs Ev Sx
set_option maxRecDepth 100000
namespace Go.Proofs.Lx
@[reducible] def q1w_:Sh:=⟨[.d (.sl QNT2),.d (.pr .str QNT4),.d (.sl (.int .u16)),.d (.sl .bool),.d (.sl (.int .u16)),.d (.sl QNT3)],[],[.sl QNT2,.pr .str QNT4,.sl (.int .u16),.sl .bool,.sl (.int .u16),.sl QNT3],[.d (.bool)],[],0,[.bool]⟩
def q74_:Env:=(cts [(7,(⟨q97_,q6b_⟩:Ct)),(8,(⟨q2i_,q1q_⟩:Ct)),(9,(⟨q5n_,q1b_⟩:Ct)),(10,(⟨q6t_,q62_⟩:Ct)),(11,(⟨q38_,q32_⟩:Ct)),(12,(⟨q5t_,q9b_⟩:Ct)),(13,(⟨q96_,qfb_⟩:Ct)),(14,(⟨q7p_,qg1_⟩:Ct)),(15,(⟨q11_,q2a_⟩:Ct)),(16,(⟨q3c_,q2g_⟩:Ct)),(17,(⟨q98_,qfa_⟩:Ct)),(18,(⟨q3b_,qfi_⟩:Ct)),(19,(⟨q4h_,qaa_⟩:Ct)),(20,(⟨q16_,qcu_⟩:Ct)),(21,(⟨q3q_,q6u_⟩:Ct)),(22,(⟨q21_,q6w_⟩:Ct))])
def q72_:List (Nat×Hint):=[(7,⟨[],[0,2,3,4,5,7,107,108,109,110,111,112,113,116,117,118,119,120,121,122,140,141,142,143,161,162,163,166,178,179,180,181,182,232,233,234]⟩),(31,⟨[],[0,2,3,7,15,16,107,108,109,110,111,112,113,116,117,118,119,120,121,122,140,141,142,143,161,162,163,166,178,179,180,181,182,232,233,234]⟩),(2097146,⟨[],[24,27,28,185,186,232,233,234]⟩),(1073738958,⟨[],[24,27,28,29,185,186,214,232,233,234]⟩),(68719293339,⟨[.agd 232 (.int .u16),.agd 233 (.int .u16),.agd 234 .bool],[24,27,28,29,185,186,214,235]⟩),(262142,⟨[],[24,27,28,183,232,233,234]⟩),(16382,⟨[],[0,7,144,161,162,163,166,178,179,180,181,182,232,233,234]⟩),(2046,⟨[],[0,7,123,140,141,142,143,161,162,163,166,178,179,180,181,182,232,233,234]⟩),(58,⟨[],[0,2,3,4,5,7,53,54,55,64,65,66,69,70,71,107,108,109,110,111,112,113,116,117,118,119,120,121,122,140,141,142,143,161,162,163,166,178,179,180,181,182,232,233,234]⟩),(3737,⟨[.agd 65 (.int .i64),.agd 66 .bool,.agd 70 (.int .i64),.agd 71 .bool],[0,2,3,4,5,7,53,54,55,72]⟩),(6,⟨[],[0,2,3,4,5,7,51,64,65,66,69,70,71,107,108,109,110,111,112,113,116,117,118,119,120,121,122,140,141,142,143,161,162,163,166,178,179,180,181,182,232,233,234]⟩)]
def qa9_ (t:List QNT0) (w:List Int) (is':List Bool) (bank:List Int) (l:zL0) (t51:Bool) (r:zL4):St:=⟨[(0,.d (.sl QNT2) t),(2,dW w),(3,.d (.sl .bool) is'),(4,dW bank),(5,.d (.sl QNT3) l),(7,.pb 0 0),(51,dB t51)],238,[],[(0,.box 42 [dS r.1,.d QNT4 r.2])],1,[],0⟩
def q1n_ (t:List QNT0) (w:List Int) (is':List Bool) (bank:List Int) (l t53:zL0) (t54 t55:Int) (r:zL4):St:=⟨[(0,.d (.sl QNT2) t),(2,dW w),(3,.d (.sl .bool) is'),(4,dW bank),(5,.d (.sl QNT3) l),(7,.pb 0 0),(53,.d (.sl QNT3) t53),(54,dI t54),(55,dI t55)],238,[],[(0,.box 42 [dS r.1,.d QNT4 r.2])],1,[],0⟩
def q9y_ (t:List QNT0) (w:List Int) (is':List Bool) (bank:List Int) (l t53:zL0) (t54 t55:Int) (t72:Bool) (r:zL4):St:=⟨[(0,.d (.sl QNT2) t),(2,dW w),(3,.d (.sl .bool) is'),(4,dW bank),(5,.d (.sl QNT3) l),(7,.pb 0 0),(53,.d (.sl QNT3) t53),(54,dI t54),(55,dI t55),(72,dB t72)],238,[],[(0,.box 42 [dS r.1,.d QNT4 r.2])],1,[],0⟩
def qa5_ (t:List QNT0) (w:List Int) (is':List Bool) (bank:List Int) (l:zL0) (r:zL4):St:=⟨[(0,.d (.sl QNT2) t),(2,dW w),(3,.d (.sl .bool) is'),(4,dW bank),(5,.d (.sl QNT3) l),(7,.pb 0 0)],238,[],[(0,.box 42 [dS r.1,.d QNT4 r.2])],1,[],0⟩
def qa2_ (t:List QNT0) (w:List Int) (is':List Bool) (r:zL4) (words:List Int) (have':List Bool):St:=⟨[(0,.d (.sl QNT2) t),(2,dW w),(3,.d (.sl .bool) is'),(7,.pb 0 0),(15,.row 1),(16,.row 2)],238,[],[(0,.box 42 [dS r.1,.d QNT4 r.2]),(1,.row (.int .u16) 32 words),(2,.row .bool 4 have')],3,[],0⟩
def qa7_ (t:List QNT0) (t123:Bool) (r:zL4):St:=⟨[(0,.d (.sl QNT2) t),(7,.pb 0 0),(123,dB t123)],238,[],[(0,.box 42 [dS r.1,.d QNT4 r.2])],1,[],0⟩
def qab_ (t:List QNT0) (t144:Bool) (r:zL4):St:=⟨[(0,.d (.sl QNT2) t),(7,.pb 0 0),(144,dB t144)],238,[],[(0,.box 42 [dS r.1,.d QNT4 r.2])],1,[],0⟩
@[reducible] def zL13:Type:=List (List (Int×Int))
def q9w_ (m:zL13) (x:List (List Int)) (y:List (List Bool)) (t183:Bool):St:=⟨[(24,.d (.sl (.mp (.int .i64) (.int .u16))) m),(27,.d (.sl (.sl (.int .u16))) x),(28,.d (.sl (.sl .bool)) y),(183,dB t183)],238,[],[],0,[],0⟩
def q12_ (m:zL13) (x:List (List Int)) (y:List (List Bool)) (t185 t186:Int):St:=⟨[(24,.d (.sl (.mp (.int .i64) (.int .u16))) m),(27,.d (.sl (.sl (.int .u16))) x),(28,.d (.sl (.sl .bool)) y),(185,dI t185),(186,dI t186)],238,[],[],0,[],0⟩
@[reducible] def zL14:Type:=List (Int×Int)
def q1j_ (m:zL13) (x:List (List Int)) (y:List (List Bool)) (i t185 t186:Int) (t214_c t214_r:zL14):St:=⟨[(24,.d (.sl (.mp (.int .i64) (.int .u16))) m),(27,.d (.sl (.sl (.int .u16))) x),(28,.d (.sl (.sl .bool)) y),(29,dI i),(185,dI t185),(186,dI t186),(214,.pb 0 0)],238,[],[(0,.itd (.int .i64) (.int .u16) t214_c t214_r)],1,[],0⟩
def q9e_ (m:zL13) (x:List (List Int)) (y:List (List Bool)) (i t185 t186:Int) (t235:Bool) (t214_c t214_r:zL14):St:=⟨[(24,.d (.sl (.mp (.int .i64) (.int .u16))) m),(27,.d (.sl (.sl (.int .u16))) x),(28,.d (.sl (.sl .bool)) y),(29,dI i),(185,dI t185),(186,dI t186),(214,.pb 0 0),(235,dB t235)],238,[],[(0,.itd (.int .i64) (.int .u16) t214_c t214_r)],1,[],0⟩
@[reducible] def zL15:Type:=List QNT0->List Int->List Bool->List Int->List (Int×List Int)->List (Int×List Int)->Int->Int->List UInt8×List QNT1->Option (As [.bool])
def q6j_ (j2:zL15) (t:List QNT0) (w:List Int) (is':List Bool) (bank:List Int) (l:zL0) (t51:Bool) (r:zL4):Option (As [.bool]) :=
 if t51=true then Option.bind (q1b_ ()) fun y=>some (y.1,()) else j2 t w is' bank l l (Int.ofNat (List.length l)) 0 r
def q37_ (j3:List QNT0->List Int->List Bool->List Int->List (Int×List Int)->List (Int×List Int)->Int->Int->Bool->List UInt8×List QNT1->Option (As [.bool])) (j4:List QNT0->List Int->List Bool->List Int->List (Int×List Int)->List UInt8×List QNT1->Option (As [.bool])) (self2:zL15) (t:List QNT0) (w:List Int) (is':List Bool) (bank:List Int) (l t53:zL0) (t54 t55:Int) (r:zL4):Option (As [.bool]) :=
 if lt t55 t54=true then Option.bind (at? t53 t55) fun y=>if gt (Int.ofNat (List.length y.2)) 20=true then j3 t w is' bank l t53 t54 t55 true r else if lt y.1 (-50)=true then j3 t w is' bank l t53 t54 t55 true r else j3 t w is' bank l t53 t54 t55 (gt y.1 200) r else j4 t w is' bank l r
def qjn_ (self2:zL15) (t:List QNT0) (w:List Int) (is':List Bool) (bank:List Int) (l t53:zL0) (t54 t55:Int) (t72:Bool) (r:zL4):Option (As [.bool]) :=
 if t72=true then Option.bind (q1b_ ()) fun y=>some (y.1,()) else self2 t w is' bank l t53 t54 (add .i64 t55 1) r
def q6a_ (j5:List QNT0->List Int->List Bool->List UInt8×List QNT1->List Int->List Bool->Option (As [.bool])) (t:List QNT0) (w:List Int) (is':List Bool) (bank:List Int) (l:zL0) (r:zL4):Option (As [.bool]) :=
 Option.bind (q62_ (bank,l,())) fun y=>Option.bind (qg1_ (bank,l,())) fun y_1=>Option.bind (q32_ (y.1,y_1.1,())) fun y=>if (!y.1)=true then some (false,()) else amb (eqAs q1w_.rs) [j5 t w is' r (List.replicate 64 0) (List.replicate 64 false),j5 t w is' r (List.replicate 64 0) (List.replicate 64 false)]
@[reducible] def zL16:Type:=List QNT0->Bool->List UInt8×List QNT1->Option (As [.bool])
def q60_ (j6:zL16) (t:List QNT0) (w:List Int) (is':List Bool) (r:zL4) (words:List Int) (have':List Bool):Option (As [.bool]) :=
 need (le (Int.ofNat (0 + List.length words)) (Int.ofNat (List.length words))) (need (le (Int.ofNat (0 + List.length have')) (Int.ofNat (List.length have'))) (Option.bind (q6b_ (List.take (Int.toNat (Int.ofNat (List.length words))) w++List.drop (0 + List.length (List.take (Int.toNat (Int.ofNat (List.length words))) w)) words,List.take (Int.toNat (Int.ofNat (List.length have'))) is'++List.drop (0 + List.length (List.take (Int.toNat (Int.ofNat (List.length have'))) is')) have',())) fun y=>Option.bind (q1q_ (y.1,())) fun y=>Option.bind (q2a_ (List.take (Int.toNat (Int.ofNat (List.length words))) w++List.drop (0 + List.length (List.take (Int.toNat (Int.ofNat (List.length words))) w)) words,List.take (Int.toNat (Int.ofNat (List.length have'))) is'++List.drop (0 + List.length (List.take (Int.toNat (Int.ofNat (List.length have'))) is')) have',())) fun y_1=>if Sx.neb y.2.1 (le (Int.ofNat (List.length y_1.1)) 8)=true then j6 t true r else if y.2.1=true then Option.bind (q2g_ (y.1,y_1.1,())) fun y_2=>if (!y_2.1)=true then j6 t true r else if (!y.2.1)=true then j6 t (nei (Int.ofNat (List.length y.1)) 0) r else j6 t false r else if (!y.2.1)=true then j6 t (nei (Int.ofNat (List.length y.1)) 0) r else j6 t false r))
def q6q_ (j7:zL16) (t:List QNT0) (t123:Bool) (r:zL4):Option (As [.bool]) :=
 if t123=true then some (false,()) else Option.bind (qfa_ (t,r,())) fun y=>Option.bind (qfi_ (t,r,())) fun y_1=>if (!(eqi y.2.1.1 y_1.2.1.1 && (eqi y.2.1.2 y_1.2.1.2 && true)))=true then j7 t true r else Option.bind (qaa_ (y.1,y_1.1,())) fun y=>j7 t (!y.1) r
def q6i_ (j8:List (List (Int×Int))->List (List Int)->List (List Bool)->Bool->Option (As [.bool])) (t:List QNT0) (t144:Bool) (r:zL4):Option (As [.bool]) :=
 if t144=true then some (false,()) else Option.bind (qcu_ (t,r,())) fun y=>Option.bind (q6u_ (t,r,())) fun y_1=>if nei y_1.1.1 0=true then if (eqi y.2.1.1 y_1.1.1 && (eqi y.2.1.2 y_1.1.2 && true))=true then if eqi (Int.ofNat (List.length y.1)) 0=true then Option.bind (q1b_ ()) fun y=>some (y.1,()) else some (false,()) else some (false,()) else Option.bind (q6w_ (t,r,())) fun y_2=>if (!(eqi y.2.1.1 0 && (eqi y.2.1.2 0 && true)))=true then j8 y.1 y_2.1 y_2.2.1 true else j8 y.1 y_2.1 y_2.2.1 (nei (Int.ofNat (List.length y.1)) (Int.ofNat (List.length y_2.1)))
@[reducible] def zL17:Type:=List (List (Int×Int))->List (List Int)->List (List Bool)->Int->Int->Option (As [.bool])
def qjl_ (j9:zL17) (m:zL13) (x:List (List Int)) (y:List (List Bool)) (t183:Bool):Option (As [.bool]) :=
 if t183=true then some (false,()) else j9 m x y (Int.ofNat (List.length m)) 0
@[reducible] def zL18:Type:=List (List (Int×Int))->List (List Int)->List (List Bool)->Int->Int->Int->List (Int×Int)->List (Int×Int)->Option (As [.bool])
def q6g_ (j10:zL18) (self9:zL17) (m:zL13) (x:List (List Int)) (y:List (List Bool)) (t185 t186:Int):Option (As [.bool]) :=
 if lt t186 t185=true then Option.bind (at? m t186) fun y_1=>Option.bind (at? x t186) fun y_2=>Option.bind (at? y t186) fun y_3=>Option.bind (q6b_ (y_2,y_3,())) fun y_4=>if nei (Int.ofNat (List.length y_1)) (Int.ofNat (List.length y_4.1))=true then some (false,()) else Option.bind (at? x t186) fun y_5=>Option.bind (at? y t186) fun y_6=>Option.bind (q6b_ (y_5,y_6,())) fun y_7=>j10 m x y t186 t185 t186 [] y_7.1 else Option.bind (q1b_ ()) fun y=>some (y.1,())
def q9d_ (j11:List (List (Int×Int))->List (List Int)->List (List Bool)->Int->Int->Int->Bool->List (Int×Int)->List (Int×Int)->Option (As [.bool])) (self9:zL17) (self10:zL18) (m:zL13) (x:List (List Int)) (y:List (List Bool)) (i t185 t186:Int) (t214_c t214_r:zL14):Option (As [.bool]) :=
 Ev.nextL (eqAs q1w_.rs) t214_r (self9 m x y t185 (add .i64 t186 1)) fun (x_1:Int×Int) (rest':zL14)=>Option.bind (at? m i) fun y_1=>if (!Ev.isV (.int .u16) (Ev.dget (.int .i64) y_1 x_1.1))=true then j11 m x y i t185 t186 true [x_1] rest' else j11 m x y i t185 t186 (nei (Ev.gdV (.int .u16) (Ev.dget (.int .i64) y_1 x_1.1) 0) x_1.2) [x_1] rest'
def qgx_ (self9:zL17) (self10:zL18) (m:zL13) (x:List (List Int)) (y:List (List Bool)) (i t185 t186:Int) (t235:Bool) (t214_c t214_r:zL14):Option (As [.bool]) :=
 if t235=true then some (false,()) else self10 m x y i t185 t186 t214_c t214_r
def q6s_ (j1:List QNT0->List Int->List Bool->List Int->List (Int×List Int)->Bool->List UInt8×List QNT1->Option (As [.bool])) (t:List QNT0) (r:zL4) (w:List Int) (is':List Bool) (bank:List Int) (l:zL0):Option (As [.bool]) :=
 Option.bind (q9b_ (t,())) fun y=>if (!y.1)=true then j1 t w is' bank l true r else Option.bind (qfb_ (r,())) fun y=>if (!y.1)=true then j1 t w is' bank l true r else if gt (Int.ofNat (List.length bank)) 100=true then j1 t w is' bank l true r else j1 t w is' bank l (gt (Int.ofNat (List.length l)) 10) r
def q6n_ (u2:zL15):=qjn_ u2
def qgw_ (u9:zL17) (u10:zL18):=qgx_ u9 u10
def q5b_ (u9:zL17) (m:zL13) (x:List (List Int)) (y:List (List Bool)) (i t185 t186:Int) (t214_c t214_r:zL14):Option (As [.bool]) :=
 loopF (fun self s=>q9d_ (qgw_ u9 (fun m x y i t185 t186 t214_c t214_r=>self (m,x,y,i,t185,t186,t214_c,t214_r))) u9 (fun m x y i t185 t186 t214_c t214_r=>self (m,x,y,i,t185,t186,t214_c,t214_r)) s.1 s.2.1 s.2.2.1 s.2.2.2.1 s.2.2.2.2.1 s.2.2.2.2.2.1 s.2.2.2.2.2.2.1 s.2.2.2.2.2.2.2) 18446744073709551616 (m,x,y,i,t185,t186,t214_c,t214_r)
def q5z_ (m:zL13) (x:List (List Int)) (y:List (List Bool)) (t185 t186:Int):Option (As [.bool]) :=
 loopF (fun self s=>q6g_ (q5b_ (fun m x y t185 t186=>self (m,x,y,t185,t186))) (fun m x y t185 t186=>self (m,x,y,t185,t186)) s.1 s.2.1 s.2.2.1 s.2.2.2.1 s.2.2.2.2) 18446744073709551616 (m,x,y,t185,t186)
def qad_:=qjl_ (q5z_)
def q6p_:=q6i_ (qad_)
def q67_:=q6q_ (q6p_)
def q63_:=q60_ (q67_)
def q64_:=q6a_ (q63_)
def q6m_ (t:List QNT0) (w:List Int) (is':List Bool) (bank:List Int) (l t53:zL0) (t54 t55:Int) (r:zL4):Option (As [.bool]) :=
 loopF (fun self s=>q37_ (q6n_ (fun t w is' bank l t53 t54 t55 r=>self (t,w,is',bank,l,t53,t54,t55,r))) (q64_) (fun t w is' bank l t53 t54 t55 r=>self (t,w,is',bank,l,t53,t54,t55,r)) s.1 s.2.1 s.2.2.1 s.2.2.2.1 s.2.2.2.2.1 s.2.2.2.2.2.1 s.2.2.2.2.2.2.1 s.2.2.2.2.2.2.2.1 s.2.2.2.2.2.2.2.2) 18446744073709551616 (t,w,is',bank,l,t53,t54,t55,r)
def q6o_:=q6j_ (q6m_)
def q9j_ (x:As [.sl QNT2,.pr .str QNT4,.sl (.int .u16),.sl .bool,.sl (.int .u16),.sl QNT3]):Option (As [.bool]):=q6s_ q6o_ x.1 x.2.1 x.2.2.1 x.2.2.2.1 x.2.2.2.2.1 x.2.2.2.2.2.1
noncomputable abbrev law16_PlanTells_P:=pfn Try.prog q74_ 6 18446744073709551616 (Ev.get q72_) 5 q1w_
theorem qr3_ {J w2 t w is' bank l t53 t54 t55 t72 r}:law16_PlanTells_P J 3737 [w2] (q9y_ t w is' bank l t53 t54 t55 t72 r)=qjn_ (fun t w is' bank l t53 t54 t55 r=>w2 (q1n_ t w is' bank l t53 t54 t55 r)) t w is' bank l t53 t54 t55 t72 r:=by kernel_rfl
theorem qq8_ {J w9 w10 m x y i t185 t186 t235 t214_c t214_r}:law16_PlanTells_P J 68719293339 [w9,w10] (q9e_ m x y i t185 t186 t235 t214_c t214_r)=qgx_ (fun m x y t185 t186=>w9 (q12_ m x y t185 t186)) (fun m x y i t185 t186 t214_c t214_r=>w10 (q1j_ m x y i t185 t186 t214_c t214_r)) m x y i t185 t186 t235 t214_c t214_r:=by kernel_rfl
theorem qq0_ {J w9 w10 m x y i t185 t186 t214_c t214_r}:law16_PlanTells_P J 1073738958 [w9,w10] (q1j_ m x y i t185 t186 t214_c t214_r)=q9d_ (fun m x y i t185 t186 t235 t214_c t214_r=>J 68719293339 [w9,w10] (q9e_ m x y i t185 t186 t235 t214_c t214_r)) (fun m x y t185 t186=>w9 (q12_ m x y t185 t186)) (fun m x y i t185 t186 t214_c t214_r=>w10 (q1j_ m x y i t185 t186 t214_c t214_r)) m x y i t185 t186 t214_c t214_r:=by kernel_rfl
theorem qrk_ {J w9 m x y t185 t186}:law16_PlanTells_P J 2097146 [w9] (q12_ m x y t185 t186)=q6g_ (fun m x y i t185 t186 t214_c t214_r=>J 1073738958 [w9] (q1j_ m x y i t185 t186 t214_c t214_r)) (fun m x y t185 t186=>w9 (q12_ m x y t185 t186)) m x y t185 t186:=by kernel_rfl
theorem qrd_ {J m x y t183}:law16_PlanTells_P J 262142 [] (q9w_ m x y t183)=qjl_ (fun m x y t185 t186=>J 2097146 [] (q12_ m x y t185 t186)) m x y t183:=by kernel_rfl
theorem qrh_ {J t t144 r}:law16_PlanTells_P J 16382 [] (qab_ t t144 r)=q6i_ (fun m x y t183=>J 262142 [] (q9w_ m x y t183)) t t144 r:=by kernel_rfl
theorem qs0_ {J t t123 r}:law16_PlanTells_P J 2046 [] (qa7_ t t123 r)=q6q_ (fun t t144 r=>J 16382 [] (qab_ t t144 r)) t t123 r:=by kernel_rfl
theorem qqw_ {J t w is' r words have'}:law16_PlanTells_P J 31 [] (qa2_ t w is' r words have')=q60_ (fun t t123 r=>J 2046 [] (qa7_ t t123 r)) t w is' r words have':=by kernel_rfl
theorem qs6_ {J t w is' bank l r}:law16_PlanTells_P J 7 [] (qa5_ t w is' bank l r)=q6a_ (fun t w is' r words have'=>J 31 [] (qa2_ t w is' r words have')) t w is' bank l r:=by kernel_rfl
theorem qrb_ {J w2 t w is' bank l t53 t54 t55 r}:law16_PlanTells_P J 58 [w2] (q1n_ t w is' bank l t53 t54 t55 r)=q37_ (fun t w is' bank l t53 t54 t55 t72 r=>J 3737 [w2] (q9y_ t w is' bank l t53 t54 t55 t72 r)) (fun t w is' bank l r=>J 7 [] (qa5_ t w is' bank l r)) (fun t w is' bank l t53 t54 t55 r=>w2 (q1n_ t w is' bank l t53 t54 t55 r)) t w is' bank l t53 t54 t55 r:=by kernel_rfl
theorem qqz_ {J t w is' bank l t51 r}:law16_PlanTells_P J 6 [] (qa9_ t w is' bank l t51 r)=q6j_ (fun t w is' bank l t53 t54 t55 r=>J 58 [] (q1n_ t w is' bank l t53 t54 t55 r)) t w is' bank l t51 r:=by kernel_rfl
theorem qrp_ (J:Orc (As [.bool])) (x:As [.sl QNT2,.pr .str QNT4,.sl (.int .u16),.sl .bool,.sl (.int .u16),.sl QNT3]):rfn Try.prog q74_ 6 18446744073709551616 (Ev.get q72_) 5 q1w_ J x=q6s_ (fun t w is' bank l t51 r=>J 6 [] (qa9_ t w is' bank l t51 r)) x.1 x.2.1 x.2.2.1 x.2.2.2.1 x.2.2.2.2.1 x.2.2.2.2.2.1:=by kernel_rfl
noncomputable abbrev law16_PlanTells_J:=jfn Try.prog q74_ 6 18446744073709551616 (Ev.get q72_) 5 q1w_
theorem qqy_  (w2 t w is' bank l t53 t54 t55 t72 r):law16_PlanTells_J 3737 [w2] (q9y_ t w is' bank l t53 t54 t55 t72 r)=q6n_ (fun t w is' bank l t53 t54 t55 r=>w2 (q1n_ t w is' bank l t53 t54 t55 r)) t w is' bank l t53 t54 t55 t72 r:=gN (by decide) qr3_
theorem qqk_  (w9 w10 m x y i t185 t186 t235 t214_c t214_r):law16_PlanTells_J 68719293339 [w9,w10] (q9e_ m x y i t185 t186 t235 t214_c t214_r)=qgw_ (fun m x y t185 t186=>w9 (q12_ m x y t185 t186)) (fun m x y i t185 t186 t214_c t214_r=>w10 (q1j_ m x y i t185 t186 t214_c t214_r)) m x y i t185 t186 t235 t214_c t214_r:=gN (by decide) qq8_
theorem qq7_  (w9 m x y i t185 t186 t214_c t214_r):law16_PlanTells_J 1073738958 [w9] (q1j_ m x y i t185 t186 t214_c t214_r)=q5b_ (fun m x y t185 t186=>w9 (q12_ m x y t185 t186)) m x y i t185 t186 t214_c t214_r:=gL (σ:=(List (List (Int×Int)))×(List (List Int))×(List (List Bool))×(Int)×(Int)×(Int)×(List (Int×Int))×(List (Int×Int))) (mk:=fun s=>q1j_ s.1 s.2.1 s.2.2.1 s.2.2.2.1 s.2.2.2.2.1 s.2.2.2.2.2.1 s.2.2.2.2.2.2.1 s.2.2.2.2.2.2.2) (by decide) (by kernel_rfl) (fun w10 s=>qq0_.trans (by simp only [qqk_])) (m,x,y,i,t185,t186,t214_c,t214_r)
theorem qqs_  (m x y t185 t186):law16_PlanTells_J 2097146 [] (q12_ m x y t185 t186)=q5z_ m x y t185 t186:=gL (σ:=(List (List (Int×Int)))×(List (List Int))×(List (List Bool))×(Int)×(Int)) (mk:=fun s=>q12_ s.1 s.2.1 s.2.2.1 s.2.2.2.1 s.2.2.2.2) (by decide) (by kernel_rfl) (fun w9 s=>qrk_.trans (by simp only [qq7_])) (m,x,y,t185,t186)
theorem qs7_  (m x y t183):law16_PlanTells_J 262142 [] (q9w_ m x y t183)=qad_ m x y t183:=gN (by decide) (qrd_.trans (by simp only [qqs_]; rfl))
theorem qqp_  (t t144 r):law16_PlanTells_J 16382 [] (qab_ t t144 r)=q6p_ t t144 r:=gN (by decide) (qrh_.trans (by simp only [qs7_]; rfl))
theorem qr5_  (t t123 r):law16_PlanTells_J 2046 [] (qa7_ t t123 r)=q67_ t t123 r:=gN (by decide) (qs0_.trans (by simp only [qqp_]; rfl))
theorem qsa_  (t w is' r words have'):law16_PlanTells_J 31 [] (qa2_ t w is' r words have')=q63_ t w is' r words have':=gN (by decide) (qqw_.trans (by simp only [qr5_]; rfl))
theorem qrj_  (t w is' bank l r):law16_PlanTells_J 7 [] (qa5_ t w is' bank l r)=q64_ t w is' bank l r:=gN (by decide) (qs6_.trans (by simp only [qsa_]; rfl))
theorem qqr_  (t w is' bank l t53 t54 t55 r):law16_PlanTells_J 58 [] (q1n_ t w is' bank l t53 t54 t55 r)=q6m_ t w is' bank l t53 t54 t55 r:=gL (σ:=(List QNT0)×(List Int)×(List Bool)×(List Int)×(List (Int×List Int))×(List (Int×List Int))×(Int)×(Int)×(List UInt8×List QNT1)) (mk:=fun s=>q1n_ s.1 s.2.1 s.2.2.1 s.2.2.2.1 s.2.2.2.2.1 s.2.2.2.2.2.1 s.2.2.2.2.2.2.1 s.2.2.2.2.2.2.2.1 s.2.2.2.2.2.2.2.2) (by decide) (by kernel_rfl) (fun w2 s=>qrb_.trans (by simp only [qqy_,qrj_])) (t,w,is',bank,l,t53,t54,t55,r)
theorem qs5_  (t w is' bank l t51 r):law16_PlanTells_J 6 [] (qa9_ t w is' bank l t51 r)=q6o_ t w is' bank l t51 r:=gN (by decide) (qqz_.trans (by simp only [qqr_]; rfl))
theorem qse_ (x:As [.sl QNT2,.pr .str QNT4,.sl (.int .u16),.sl .bool,.sl (.int .u16),.sl QNT3]):evT Try.prog q74_ 6 18446744073709551616 (Ev.get q72_) 5 q1w_ x=q9j_ x:=by
 rw [qi_,qrp_]
 simp only [qs5_]
 rfl
theorem qru_:CtOk Try.prog (fun _=>True) 5 ⟨q1w_,q9j_⟩:=qa_ (q2_ q15l_ (q2_ qn9_ (q2_ qx9_ (q2_ qsb_ (q2_ qks_ (q2_ qvl_ (q2_ q14k_ (q2_ q10n_ (q2_ qmh_ (q2_ qkb_ (q2_ q144_ (q2_ q11l_ (q2_ qsz_ (q2_ qp4_ (q2_ qo4_ (q2_ qop_ q6_)))))))))))))))) qse_
end Go.Proofs.Lx
end
section
set_option maxRecDepth 100000
namespace Go.Proofs.Lx
open Go Ev Sx Pl
def gW (i:Int):Int->List Int->Int->Int
 | _,[],x=>x
 | a,w::r,x=>gW i (a + 1) r (if a=i then w else x)
def gL (i:Int):List Bk->Int->Int
 | [],x=>x
 | b::r,x=>gL i r (gW i b.1 b.2 x)
theorem setW_get (bank:List Int) (a w:Int) (i:Nat):(setW bank a w)[i]? = (bank[i]?).map fun x=>if a=(i:Int) then w else x:=by
 unfold setW
 by_cases h:0≤a∧a < (bank.length:Int)
 ·rw [if_pos h]
  obtain ⟨n,rfl⟩:=Int.eq_ofNat_of_zero_le h.1
  rw [Int.toNat_natCast,List.getElem?_set]
  by_cases hi:n=i
  ·subst hi
   rw [if_pos rfl,if_pos (by omega),List.getElem?_eq_getElem (show n < bank.length by omega)]
   simp
  ·rw [if_neg hi]
   cases bank[i]? with
   | none=>rfl
   | some x=>simp only [Option.map_some]; rw [if_neg (by omega)]
 ·rw [if_neg h]
  cases hb:bank[i]? with
  | none=>rfl
  | some x =>
   have:=(List.getElem?_eq_some_iff.1 hb).1
   simp only [Option.map_some]
   rw [if_neg (by omega)]
theorem overW_get:∀ (ws bank:List Int) (a:Int) (i:Nat),(overW bank a ws)[i]? = (bank[i]?).map (gW i a ws)
 | [],bank,_,i=>by cases h:bank[i]? <;> simp [overW,gW,h]
 | w::r,bank,a,i=>by
  rw [overW,overW_get r,setW_get]
  cases bank[i]? <;> rfl
theorem over_get:∀ (l:List Bk) (bank:List Int) (i:Nat),(over bank l)[i]? = (bank[i]?).map (gL i l)
 | [],bank,i=>by cases h:bank[i]? <;> simp [over,gL,h]
 | b::r,bank,i=>by
  rw [over,over_get r,overW_get]
  cases bank[i]? <;> rfl
theorem gW_pick (i:Int):∀ (ws:List Int) (a x:Int),gW i a ws x=if 0≤i - a∧i - a < (ws.length:Int) then (at? ws (i - a)).getD 0 else x
 | [],a,x=>by
  rw [gW,if_neg (by simp only [List.length_nil]; omega)]
 | w::r,a,x=>by
  rw [gW,gW_pick i r (a + 1)]
  by_cases e:a=i
  ·subst e
   rw [if_neg (by omega),if_pos rfl,if_pos (by simp only [List.length_cons]; omega),Int.sub_self,at_zero]
   rfl
  ·rw [if_neg e]
   by_cases h:0≤i - (a + 1)∧i - (a + 1) < (r.length:Int)
   ·rw [if_pos h,if_pos (by simp only [List.length_cons]; omega)]
    obtain ⟨n,hn⟩:=Int.eq_ofNat_of_zero_le h.1
    have hlt:n < r.length:=by omega
    rw [hn,show i - a=((n + 1:Nat):Int) by omega,q4_ (List.getElem?_eq_getElem hlt),q4_ (s:=w::r) (i:=n + 1) (c:=r[n]) (by rw [List.getElem?_cons_succ,List.getElem?_eq_getElem hlt])]
   ·rw [if_neg h,if_neg (by simp only [List.length_cons]; omega)]
theorem pick_at {ws:List Int} {z:Int} (h:0≤z∧z < (ws.length:Int)):∃ c,at? ws z=some c:=by
 obtain ⟨n,rfl⟩:=Int.eq_ofNat_of_zero_le h.1
 exact ⟨_,q4_ (List.getElem?_eq_getElem (show n < ws.length by omega))⟩
theorem gL_fold (i:Int):∀ (l:List Bk) (x:Int),gL i l x=l.foldl (fun x b=>gW i b.1 b.2 x) x
 | [],_=>rfl
 | b::r,x=>gL_fold i r _
theorem rover_eq {bank:List Int} {l:List Bk} (hb:bank.length≤100000) (hl:l.length≤100000) (hf:∀ b ∈ l,b.2.length≤100000∧-100000≤b.1∧b.1≤100000):qg1_ (bank,l,())=some (over bank l,()):=by
 show qex_ bank l 0 []=_
 have hlen:(over bank l).length=bank.length:=by
  rcases Nat.lt_trichotomy (over bank l).length bank.length with h | h | h
  ·have:=over_get l bank (over bank l).length
   rw [List.getElem?_eq_none (Nat.le_refl _),List.getElem?_eq_getElem h] at this
   cases this
  ·exact h
  ·have:=over_get l bank bank.length
   rw [List.getElem?_eq_none (Nat.le_refl bank.length),List.getElem?_eq_getElem h] at this
   cases this
 have h0:(bank,l,(0:Int),([]:List Int))=(bank,l,((0:Nat):Int),(over bank l).take 0):=rfl
 unfold qex_
 rw [h0]
 refine loop_dt (mk:=fun i=>(bank,l,(i:Int),(over bank l).take i)) (N:=bank.length) ?_ ?_ bank.length 0 _ (by omega) (by omega)
 ·intro self i hi
  have hc:bank[i]? = some bank[i]:=List.getElem?_eq_getElem hi
  generalize bank[i]=c at hc
  dsimp only
  unfold qdo_
  rw [if_pos (by rw [q1_,q0_]; omega),q4_ hc,Option.bind_some]
  have ho:(over bank l)[i]? = some (gL (i:Int) l c):=by rw [over_get,hc]; rfl
  have K4:∀ x,qdl_ (fun bank l i out=>self (bank,l,i,out)) bank l (i:Int) x ((over bank l).take i)=self (bank,l,((i + 1:Nat):Int),(over bank l).take i++[x]):=fun x=>by
   show need (small (((over bank l).take i).length + 1)) (self (bank,l,add .i64 (i:Int) 1,_))=_
   rw [q1v_ (by rw [List.length_take]; omega),q9_ (by omega)]
  rw [List.take_add_one,ho]
  show _=self (bank,l,((i + 1:Nat):Int),(over bank l).take i++[gL (i:Int) l c])
  rw [<- K4,gL_fold]
  unfold qjt_
  refine (loop_idx (xs:=l) (mk:=fun k x=>(bank,l,(i:Int),x,(k:Int),(over bank l).take i)) (stp:=fun x b=>gW (i:Int) b.1 b.2 x) (fin:=fun x=>qdl_ (fun bank l i out=>self (bank,l,i,out)) bank l (i:Int) x ((over bank l).take i)) (fun _ _=>True) ?_ (fun _ _ _ _ _=>trivial) ?_ l.length 0 c _ (by omega) (by omega) trivial).trans (by rw [List.drop_zero])
  ·intro self2 k x b hk _
   have hk':=(List.getElem?_eq_some_iff.1 hk).1
   obtain ⟨h1,h2,h3⟩:=hf b (List.mem_of_getElem? hk)
   dsimp only
   have K8:∀ y,qf4_ (fun bank l i out=>self (bank,l,i,out)) (fun bank l i x k out=>self2 (bank,l,i,x,k,out)) bank l (i:Int) y (k:Int) ((over bank l).take i)=self2 (bank,l,(i:Int),y,((k + 1:Nat):Int),(over bank l).take i):=fun y=>by rw [<- q9_ (by omega)]; rfl
   have K7:∀ y t,qe9_ (fun bank l i out=>self (bank,l,i,out)) (fun bank l i x k out=>self2 (bank,l,i,x,k,out)) bank l (i:Int) y (k:Int) t ((over bank l).take i)=if t=true then (at? b.2 (sub .i64 (i:Int) b.1)).bind fun z=>self2 (bank,l,(i:Int),z,((k + 1:Nat):Int),(over bank l).take i) else self2 (bank,l,(i:Int),y,((k + 1:Nat):Int),(over bank l).take i):=fun y t=>by
    show qda_ (qf4_ _ _) _ _ bank l (i:Int) y (k:Int) t _=_
    unfold qda_
    simp only [K8]
    rw [q4_ hk,Option.bind_some,Option.bind_some]
   have K5:∀ y,q5h_ (fun bank l i out=>self (bank,l,i,out)) (fun bank l i x k out=>self2 (bank,l,i,x,k,out)) bank l (i:Int) y (k:Int) ((over bank l).take i)=if b.1 < 0∧(i:Int) - b.1 < (b.2.length:Int) then (at? b.2 (sub .i64 (i:Int) b.1)).bind fun z=>self2 (bank,l,(i:Int),z,((k + 1:Nat):Int),(over bank l).take i) else self2 (bank,l,(i:Int),y,((k + 1:Nat):Int),(over bank l).take i):=fun y=>by
    show qdb_ (qe9_ _ _) _ _ bank l (i:Int) y (k:Int) _=_
    unfold qdb_
    simp only [K7]
    rw [q4_ hk,Option.bind_some,Option.bind_some,Option.bind_some,Option.bind_some,sub64 (by omega) (by omega)]
    by_cases c1:b.1 < 0
    ·rw [if_pos (q1_.2 c1),if_pos (by rw [ge_iff]; omega)]
     by_cases c2:(i:Int) - b.1 < (b.2.length:Int)
     ·rw [if_pos (by rw [q1_,q0_]; omega),if_pos ⟨c1,c2⟩]
     ·rw [if_neg (by rw [q1_,q0_]; omega),if_neg (fun e=>c2 e.2)]
    ·rw [if_neg (fun e=>c1 (q1_.1 e)),if_neg (show ¬ false=true by decide),if_neg (fun e=>c1 e.1)]
   have K3:∀ z t,qkf_ (fun bank l i out=>self (bank,l,i,out)) (fun bank l i x k out=>self2 (bank,l,i,x,k,out)) bank l (i:Int) x (k:Int) z t ((over bank l).take i)=if t=true then (at? b.2 z).bind fun y=>q5h_ (fun bank l i out=>self (bank,l,i,out)) (fun bank l i x k out=>self2 (bank,l,i,x,k,out)) bank l (i:Int) y (k:Int) ((over bank l).take i) else q5h_ (fun bank l i out=>self (bank,l,i,out)) (fun bank l i x k out=>self2 (bank,l,i,x,k,out)) bank l (i:Int) x (k:Int) ((over bank l).take i):=fun z t=>by
    show qee_ (q5h_ _ _) _ _ bank l (i:Int) x (k:Int) z t _=_
    unfold qee_
    rw [q4_ hk,Option.bind_some]
   unfold qea_
   simp only [K3,K5]
   rw [if_pos (by rw [q1_,q0_]; omega),q4_ hk,Option.bind_some,Option.bind_some,Option.bind_some,sub64 (by omega) (by omega),gW_pick]
   by_cases c1:0≤b.1
   ·rw [if_pos (ge_iff.2 c1)]
    have n1:¬ (b.1 < 0∧(i:Int) - b.1 < (b.2.length:Int)):=fun e=>by omega
    simp only [if_neg n1]
    by_cases c2:0≤(i:Int) - b.1
    ·rw [if_pos (ge_iff.2 c2)]
     by_cases c3:(i:Int) - b.1 < (b.2.length:Int)
     ·rw [if_pos (by rw [q1_,q0_]; omega),if_pos ⟨c2,c3⟩]
      obtain ⟨y,hy⟩:=pick_at ⟨c2,c3⟩
      rw [hy]
      rfl
     ·rw [if_neg (by rw [q1_,q0_]; omega),if_neg (fun e=>c3 e.2)]
    ·rw [if_neg (fun e=>c2 (ge_iff.1 e)),if_neg (show ¬ false=true by decide),if_neg (fun e=>c2 e.1)]
   ·rw [if_neg (fun e=>c1 (ge_iff.1 e)),if_neg (show ¬ false=true by decide)]
    by_cases c3:(i:Int) - b.1 < (b.2.length:Int)
    ·rw [if_pos ⟨by omega,c3⟩,if_pos ⟨by omega,c3⟩]
     obtain ⟨y,hy⟩:=pick_at (ws:=b.2) (z:=(i:Int) - b.1) ⟨by omega,c3⟩
     rw [hy]
     rfl
    ·rw [if_neg (fun e=>c3 e.2),if_neg (fun e=>c3 e.2)]
  ·intro self2 x _
   dsimp only
   unfold qea_
   rw [if_neg (by rw [q1_,q0_]; omega)]
 ·intro self
  dsimp only
  unfold qdo_
  rw [if_neg (by rw [q1_,q0_]; omega),<- hlen,List.take_length]
def stepU (v:Int) (l:List Bk) (z:Int):List Bk:=match l.getLast? with
 | none=>[(z,[v])]
 | some (a,ws)=>if z ≠ a + (ws.length:Int)∨ws.length=14 then l++[(z,[v])] else l.dropLast++[(a,ws++[v])]
def foldU:List (Int×Int)->List Bk->List Bk
 | [],l=>l
 | e::q,l=>foldU q (stepU e.2 l e.1)
theorem stepU_len (v:Int) (l:List Bk) (z:Int):l.length≤(stepU v l z).length∧(stepU v l z).length≤l.length + 1:=by
 unfold stepU
 rcases List.eq_nil_or_concat l with rfl | ⟨D,b,rfl⟩
 ·simp
 ·rw [List.concat_eq_append,List.getLast?_concat]
  dsimp only
  split <;> simp
theorem foldU_len:∀ (es:zL14) (l:List Bk),l.length≤(foldU es l).length∧(foldU es l).length≤l.length + es.length
 | [],l=>by simp [foldU]
 | e::q,l=>by
  have h1:=stepU_len e.2 l e.1
  have h2:=foldU_len q (stepU e.2 l e.1)
  rw [foldU,List.length_cons]
  omega
theorem foldE_U:∀ (es:zL14) (l:List Bk),(∀ e ∈ es,0≤e.1∧e.1 < 64)->l.length≤8->foldE es (some l)=if (foldU es l).length≤8 then some (foldU es l) else none
 | [],l,_,h=>by rw [foldU,if_pos h]; rfl
 | e::q,l,hk,h=>by
  have he:=hk e (by simp)
  have hq:∀ x ∈ q,0≤x.1∧x.1 < 64:=fun x hx=>hk x (List.mem_cons_of_mem _ hx)
  show foldE q (stepV e.2 l e.1)=_
  have hs:stepV e.2 l e.1=if (stepU e.2 l e.1).length≤8 then some (stepU e.2 l e.1) else none:=by
   unfold stepV stepU
   rw [if_neg (by omega)]
   rcases List.eq_nil_or_concat l with rfl | ⟨D,b,rfl⟩
   ·rfl
   ·rw [List.concat_eq_append,List.getLast?_concat]
    rw [List.concat_eq_append,List.length_append,List.length_singleton] at h
    dsimp only
    split
    ·simp only [List.length_append,List.length_singleton]
     by_cases h8:D.length + 1=8
     ·rw [if_pos h8,if_neg (by omega)]
     ·rw [if_neg h8,if_pos (by omega)]
    ·rw [if_pos (by simp; omega)]
  rw [hs,foldU]
  by_cases h8:(stepU e.2 l e.1).length≤8
  ·rw [if_pos h8,foldE_U q _ hq h8]
  ·rw [if_neg h8,foldE_none,if_neg (by have:=foldU_len q (stepU e.2 l e.1); omega)]
def opS (w:List Int) (bs:List Bool) (i:Nat) (L:List Bk):List Int×List Bool×Int×Bool×List Bk×Int×List Int:=match L.getLast? with
 | none=>(w,bs,(i:Int),false,[],0,[])
 | some b=>(w,bs,(i:Int),true,L.dropLast,b.1,b.2)
theorem opS_snoc (w:List Int) (bs:List Bool) (i:Nat) (D:List Bk) (b:Bk):opS w bs i (D++[b])=(w,bs,(i:Int),true,D,b.1,b.2):=by
 unfold opS
 rw [List.getLast?_concat,List.dropLast_concat]
def Low14 (L:List Bk):Prop:=∀ b ∈ L,b.2.length≤14∧0≤b.1∧b.1 < 64
theorem stepU_14 {v:Int} {l:List Bk} {z:Int} (h:Low14 l) (hz:0≤z∧z < 64):Low14 (stepU v l z):=by
 unfold stepU
 rcases List.eq_nil_or_concat l with rfl | ⟨D,b,rfl⟩
 ·intro x hx
  simp at hx
  subst hx
  exact ⟨by simp,hz⟩
 ·rw [List.concat_eq_append] at h ⊢
  rw [List.getLast?_concat,List.dropLast_concat]
  have hb:=h b (by simp)
  dsimp only
  split
  ·intro x hx
   rcases List.mem_append.1 hx with hx | hx
   ·exact h x hx
   ·cases List.mem_singleton.1 hx
    exact ⟨by simp,hz⟩
  ·intro x hx
   rcases List.mem_append.1 hx with hx | hx
   ·exact h x (List.mem_append_left _ hx)
   ·cases List.mem_singleton.1 hx
    rename_i hn
    exact ⟨by simp only [List.length_append,List.length_singleton]; omega,hb.2⟩
theorem rblocks_eq {w:List Int} {bs:List Bool} (hw:w.length=64) (hb:bs.length=64):q2a_ (w,bs,())=some (foldU (ents 0 w bs) [],()):=by
 show qfg_ w bs 0 false [] 0 []=_
 have key:∀ (k i n:Nat) (L:List Bk),i + k=64->k < n->Low14 L->L.length≤i->loopF (fun (self:List Int×List Bool×Int×Bool×List Bk×Int×List Int->Option (As q11_.rs)) s=>q2f_ (q1k_ fun w is' i out_o out out_l o=>self (w,is',i,out_o,out,out_l,o)) (q3g_ fun w is' i out_o out out_l o=>self (w,is',i,out_o,out,out_l,o)) (fun w is' i out_o out out_l o=>self (w,is',i,out_o,out,out_l,o)) s.1 s.2.1 s.2.2.1 s.2.2.2.1 s.2.2.2.2.1 s.2.2.2.2.2.1 s.2.2.2.2.2.2) n (opS w bs i L)=some (foldU (ents i (w.drop i) (bs.drop i)) L,()):=by
  intro k
  induction k with
  | zero =>
   intro i n L hi hn h14 hL
   obtain ⟨n,rfl⟩:∃ n',n=n' + 1:=⟨n - 1,by omega⟩
   have:i=64:=by omega
   subst this
   rw [q5_,List.drop_of_length_le (by omega),List.drop_of_length_le (by omega)]
   show _=some (L,())
   rcases List.eq_nil_or_concat L with rfl | ⟨D,b,rfl⟩
   ·rfl
   ·rw [List.concat_eq_append,opS_snoc]
    dsimp only
    unfold q2f_
    rw [if_neg (by decide)]
    rfl
  | succ k ih =>
   intro i n L hi hn h14 hL
   obtain ⟨n,rfl⟩:∃ n',n=n' + 1:=⟨n - 1,by omega⟩
   have hcw:w[i]? = some w[i]:=List.getElem?_eq_getElem (by omega)
   have hcb:bs[i]? = some bs[i]:=List.getElem?_eq_getElem (by omega)
   rw [q5_,List.drop_eq_getElem_cons (show i < w.length by omega),List.drop_eq_getElem_cons (show i < bs.length by omega),ents]
   generalize w[i]=v at hcw ⊢
   generalize bs[i]=b at hcb ⊢
   have hlt:lt (i:Int) 64=true:=by rw [q1_]; omega
   have K2:∀ (sf:List Int->List Bool->Int->Bool->List Bk->Int->List Int->Option (As q11_.rs)) o D a ws,q1k_ sf w bs (i:Int) o D a ws=sf w bs ((i + 1:Nat):Int) o D a ws:=fun sf o D a ws=>by rw [<- q9_ (by omega)]; rfl
   have hs:(if b=true then foldU (((i:Int),v)::ents (i + 1) (w.drop (i + 1)) (bs.drop (i + 1))) L else foldU (ents (i + 1) (w.drop (i + 1)) (bs.drop (i + 1))) L)=foldU (if b=true then ((i:Int),v)::ents (i + 1) (w.drop (i + 1)) (bs.drop (i + 1)) else ents (i + 1) (w.drop (i + 1)) (bs.drop (i + 1))) L:=by split <;> rfl
   rw [<- hs]
   rcases List.eq_nil_or_concat L with rfl | ⟨D,⟨a,ws⟩,rfl⟩
   ·show q2f_ (q1k_ _) (q3g_ _) _ w bs (i:Int) false [] 0 []=_
    unfold q2f_
    rw [if_pos hlt,q4_ hcb,Option.bind_some]
    cases b with
    | false =>
     rw [if_pos (by rfl),K2,if_neg (by decide)]
     exact ih (i + 1) n [] (by omega) (by omega) h14 (by simp)
    | true =>
     rw [if_neg (by decide),if_neg (by decide),if_pos rfl]
     show (at? w (i:Int)).bind (fun y=>need (small 1) (q1k_ _ w bs (i:Int) true [] (i:Int) [y]))=_
     rw [q4_ hcw,Option.bind_some,q1v_ (by omega),K2]
     have:=ih (i + 1) n [((i:Int),[v])] (by omega) (by omega) (stepU_14 (v:=v) (l:=[]) h14 (show 0≤(i:Int)∧(i:Int) < 64 by omega)) (by simp)
     exact this
   ·rw [List.concat_eq_append] at h14 hL ⊢
    rw [List.length_append,List.length_singleton] at hL
    obtain ⟨h14',ha⟩:=h14 (a,ws) (by simp)
    dsimp only at h14' ha
    rw [opS_snoc]
    dsimp only
    have e1:sub .i64 (Int.ofNat (D.length + 1)) 1=Int.ofNat D.length:=by rw [q0_,q0_,sub64 (by omega) (by omega)]; omega
    have e2:eqi (Int.ofNat D.length) (Int.ofNat D.length)=true:=qb_.2 rfl
    have e3:add .i64 a (Int.ofNat ws.length)=a + (ws.length:Int):=by rw [q0_,add64 (by omega) (by omega)]
    have e4:gt (Int.ofNat (D.length + 1)) 0=true:=by rw [q7_,q0_]; omega
    have nt:∀ {x:Option (As q11_.rs)},need true x=x:=fun {x}=>rfl
    have K3f:∀ (sf:List Int->List Bool->Int->Bool->List Bk->Int->List Int->Option (As q11_.rs)) m,q3g_ sf w bs (i:Int) m false true D a ws=sf w bs ((i + 1:Nat):Int) true (D++[(a,ws)]) (i:Int) [v]:=fun sf m=>by
     show (at? w (i:Int)).bind (fun y=>need (small ((D++[(a,ws)]).length + 1)) (q1k_ sf w bs (i:Int) true (D++[(a,ws)]) (i:Int) [y]))=_
     rw [q4_ hcw,Option.bind_some,q1v_ (by simp; omega),K2]
    have K3t:∀ (sf:List Int->List Bool->Int->Bool->List Bk->Int->List Int->Option (As q11_.rs)),q3g_ sf w bs (i:Int) (Int.ofNat (D.length + 1)) true true D a ws=sf w bs ((i + 1:Nat):Int) true D a (ws++[v]):=fun sf=>by
     show q9m_ (q1k_ sf) sf w bs (i:Int) (Int.ofNat (D.length + 1)) true true D a ws=_
     unfold q9m_
     simp only [reduceIte,e1,e2,nt]
     rw [q4_ hcw,Option.bind_some,q1v_ (by omega),K2]
    unfold q2f_
    simp only [reduceIte,e1,e2,e3,e4,nt]
    rw [if_pos hlt,q4_ hcb,Option.bind_some]
    cases b with
    | false =>
     rw [if_pos (by rfl),K2,if_neg (by decide)]
     have:=ih (i + 1) n (D++[(a,ws)]) (by omega) (by omega) h14 (by simp; omega)
     rw [opS_snoc] at this
     exact this
    | true =>
     rw [if_neg (by decide),if_pos rfl,foldU]
     have hst:stepU v (D++[(a,ws)]) (i:Int)=if (i:Int) ≠ a + (ws.length:Int)∨ws.length=14 then D++[(a,ws)]++[((i:Int),[v])] else D++[(a,ws++[v])]:=by
      unfold stepU
      rw [List.getLast?_concat,List.dropLast_concat]
     have h14s:=stepU_14 (v:=v) h14 (show 0≤(i:Int)∧(i:Int) < 64 by omega)
     have hsl:=stepU_len v (D++[(a,ws)]) (i:Int)
     rw [List.length_append,List.length_singleton] at hsl
     have hr:=ih (i + 1) n _ (by omega) (by omega) h14s (by omega)
     rw [<- hr,hst]
     by_cases c1:a + (ws.length:Int)=i
     ·rw [if_pos (qb_.2 c1)]
      by_cases c2:ws.length < 14
      ·rw [show lt (Int.ofNat ws.length) 14=true by rw [q1_,q0_]; omega,K3t,if_neg (by omega),opS_snoc]
       rfl
      ·rw [show lt (Int.ofNat ws.length) 14=false by rw [Bool.eq_false_iff]; intro e; have:=q1_.1 e; rw [q0_] at this; omega,K3f,if_pos (by omega),opS_snoc]
       rfl
     ·rw [if_neg (fun e=>c1 (qb_.1 e)),K3f,if_pos (by omega),opS_snoc]
      rfl
 have:=key 64 0 18446744073709551616 [] (by omega) (by omega) (fun _ h=>by cases h) (by simp)
 rw [List.drop_zero,List.drop_zero] at this
 exact this
end Go.Proofs.Lx
end
section
set_option maxRecDepth 100000
namespace Go.Proofs.Lx
open Go Ev Sx Pl
end Go.Proofs.Lx
end
