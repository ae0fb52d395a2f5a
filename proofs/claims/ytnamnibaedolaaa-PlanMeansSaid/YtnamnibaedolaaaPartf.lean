/- Proved in the last of these 13 parts (this is part 6): PlanMeans: whatever the table, the recipe and the bank, the law returns true.. Conditions: those of the given statement, and no others. -/
import Derived.Test.YtnamnibaedolaaaParte
import Derived.Test.YtnamnibaedolaaaProg
set_option linter.unusedVariables false
set_option linter.unusedSimpArgs false
set_option linter.unusedSectionVars false
section
set_option maxRecDepth 100000
namespace Go.Proofs.Lx
open Go Go.Proofs Go.RowKit Ev Sx
theorem cw_wide {P:Program} {c:Code} {Q:Exit->Act->World->Prop} {l:List Value} {w:World} (h:CW P c Q l w) (n:Nat):c.wpIn Fence.wide n P Q (mk l) w:=wpIn_wide.2 (wpIn_wide.1 (h none))
theorem dm_keys {L:Lx} {w:World}:∀ {vs:List (Int×Value)} {m:List (Int×Int)},DmD (kt:=kT) (vt:=uT) L w vs m->vs.map (·.1)=m.map (·.1)
 | [],_,h=>by cases h; rfl
 | _::_,_,⟨b,q,h1,h2,_,h3⟩=>by subst h1; simp only [List.map_cons]; rw [h2,dm_keys h3]
def between (i j:Nat):Lx:=(List.range' i (j - i)).map some
theorem between_mem {i j k:Nat}:some k ∈ between i j ↔ i≤k∧k < j:=by
 unfold between
 simp [List.mem_range']
 constructor
 ·rintro ⟨a,h1,h2⟩; omega
 ·rintro ⟨h1,h2⟩; exact ⟨k - i,by omega,by omega⟩
theorem qmu_ {I:World->Prop}:CtOk Try.prog I 8 ⟨q2v_,q2i_⟩:=by
 intro F w0 pl0 x y ss own vs hx hA hpl hI0 hL hE hD
 obtain ⟨m,u0⟩:=x
 have hx:(if m.all keyOk=true then some ((bkRes m).1,(bkRes m).2,m,()) else none)=some y:=hx
 split at hx
 case isFalse=>cases hx
 rename_i hkeys
 cases hx
 have hA:some ([SV.mp 0],[(0,Ent.dm kT uT m)])=some (ss,own):=hA
 cases hA
 have hpl:pl0.length=1:=hpl
 obtain ⟨u,q,rfl,⟨g,n,c,hp0,rfl⟩,rfl⟩:=hD
 obtain ⟨B0,hB0⟩:∃ B0,B0=Bo pl0 [(0,Ent.dm kT uT m)] w0:=⟨_,rfl⟩
 have hst0:Sto B0 pl0 F pl0 [(0,.dm kT uT m)] w0:=by
  subst hB0
  exact ⟨hL.pair,hL.lo,hL.hi,fun k hk=>⟨fun hx=>(hL.far k hk).1 (hL.lo k hx),(hL.far k hk).2⟩,fun _ _ h=>h,hE⟩
 have hbase:∀ k,w0.heap.size≤k->B0 k:=fun k hk=>by subst hB0; exact .inr hk
 have hbo:∀ {p1:List Ev.Place} {F1:Lx} {pl:List Ev.Place} {own:List (Nat×Ent)} {w:World},w0.heap.size≤w.heap.size->Sto B0 p1 F1 pl own w->∀ k,Bo pl own w k->B0 k:=fun hs hst k hk=>by
  rcases hk with hk | hk
  ·exact hst.lo k hk
  ·exact hbase k (Nat.le_trans hs hk)
 refine (callsIn_wide (n:=2)).1 ?_
 refine callsIn_of_wp_marks Try.func8 bk_eq trivial ?_ rfl
 obtain ⟨l0,hl0⟩:∃ l0:List Value,l0 = .map (some g)::List.replicate 73 undef:=⟨_,rfl⟩
 have hact:(⟨[Value.map (some g)].toArray++Array.replicate (Try.f8.ntmps - [Value.map (some g)].toArray.size) undef,[]⟩:Act)=mk l0:=by
  subst hl0
  show (⟨[Value.map (some g)].toArray++Array.replicate 73 undef,[]⟩:Act)=mk (.map (some g)::List.replicate 73 undef)
  simp [mk]
 rw [hact]
 generalize hR:(fun (e:Ending) (w':World)=>∃ us,e = .returned (retV us)∧After q2v_ ((bkRes m).1,(bkRes m).2,m,()) F w0 pl0 [(0,Ent.dm kT uT m)] w' us)=R
 have hRe:∀ {W:World} {us:List Value},After q2v_ ((bkRes m).1,(bkRes m).2,m,()) F w0 pl0 [(0,Ent.dm kT uT m)] W us->R (.returned (retV us)) W:=fun h=>by subst hR; exact ⟨_,rfl,h⟩
 have hfr0:FrD pl0 (lx pl0 [(0,Ent.dm kT uT m)]++F) w0 [(0,.mp 0)] l0:=qd_ (by subst hl0; exact ⟨g,n,c,hp0,rfl⟩) frD_nil
 have r1:=q1i_ (S:=bkS0 m) (l:=l0) bkEnv_ok (hbo (Nat.le_refl _) hst0) hst0 rfl (show 1=pl0.length from hpl.symm) (show 1=pl0.length from hpl.symm) (by subst hl0; rfl) hfr0 (p1_eq m)
 refine wpIn_seq (Code.wpIn_mono ?_ (cw_wide r1 2))
 rintro e a w1 ⟨pl1,l1,rfl,rfl,hl1,hn1,st1,fr1,bl1⟩
 have bw1:Blw B0 w0 w1:=qf_ bl1 (hbo (Nat.le_refl _) hst0)
 refine wpIn_seq ?_
 by_cases hlen:m.length > 64
 ·-- too many
  have r2:=q1i_ (S:=bkS1 m) (l:=l1) bkEnv_ok (hbo bw1.size st1) st1 rfl hn1.symm (show 1=pl0.length from hpl.symm) hl1 fr1 ((p2_eq m).trans (if_pos (by simp [gt]; omega)))
  refine Code.wpIn_mono ?_ (cw_wide r2 2)
  rintro e a w2 ⟨pl2,l2,rfl,rfl,hl2,hn2,st2,fr2,bl2⟩
  have bw2:Blw B0 w0 w2:=bw1.trans (qf_ bl2 (hbo bw1.size st1))
  obtain ⟨S1,z1,z2,z3⟩:=n1_fin m
  obtain ⟨pl',us,z4,z5,z6⟩:=fin_res (S:=bkS1 m) (hbo bw2.size st2) st2 rfl hn2.symm (show 1=pl0.length from hpl.symm) hl2 fr2 z1 z3
  refine z6 R (hRe ?_)
  have:bkRes m=([],false):=by unfold bkRes; rw [if_pos hlen]
  rw [this]
  subst hB0
  exact fin_after hpl hL (fun p hp=>by
   have:=z4.pre 0 ⟨some ⟨g,0,none⟩,n,c⟩ hp0
   rw [this] at hp
   rw [hp0]
   exact hp) (fun _ h=>h) z4 z2 bw2 z5
 have r2:=q1i_ (S:=bkS1 m) (l:=l1) bkEnv_ok (hbo bw1.size st1) st1 rfl hn1.symm (show 1=pl0.length from hpl.symm) hl1 fr1 ((p2_eq m).trans (if_neg (by simp [gt]; omega)))
 refine Code.wpIn_mono ?_ (cw_wide r2 2)
 rintro e a w2 ⟨pl2,l2,rfl,rfl,hl2,hn2,st2,fr2,bl2⟩
 have bw2:Blw B0 w0 w2:=bw1.trans (qf_ bl2 (hbo bw1.size st1))
 have r3:=q1i_ (S:=bkS1 m) (l:=l2) bkEnv_ok (hbo bw2.size st2) st2 rfl hn2.symm (show 1=pl0.length from hpl.symm) hl2 fr2 (p3_eq m)
 refine wpIn_seq (Code.wpIn_mono ?_ (cw_wide r3 2))
 rintro e a w3 ⟨pl3,l3,rfl,rfl,hl3,hn3,st3,fr3,bl3⟩
 have bw3:Blw B0 w0 w3:=bw2.trans (qf_ bl3 (hbo bw2.size st2))
 have r4:=q1i_ (S:=bkS3 m) (l:=l3) bkEnv_ok (hbo bw3.size st3) st3 rfl hn3.symm (show 1=pl0.length from hpl.symm) hl3 fr3 (p4_eq m)
 refine wpIn_seq (wpIn_seq (Code.wpIn_mono ?_ (cw_wide r4 2)))
 rintro e a w4 ⟨pl4,l4,rfl,rfl,hl4,hn4,st4,fr4,bl4⟩
 have bw4:Blw B0 w0 w4:=bw3.trans (qf_ bl4 (hbo bw3.size st3))
 have hn4:pl4.length=8:=hn4
 have hl4:l4.length=74:=hl4
 obtain ⟨p0,hp0e⟩:∃ p0,p0=pl4.take 6:=⟨_,rfl⟩
 have hp0l:p0.length=6:=by rw [hp0e,List.length_take]; omega
 have hp0p:∀ (i:Nat) (p:Ev.Place),p0[i]? = some p->pl4[i]? = some p:=fun i p h=>by
  rw [hp0e] at h
  have hi:=(List.getElem?_eq_some_iff.1 h).1
  rw [List.length_take] at hi
  rw [List.getElem?_take_of_lt (by omega)] at h
  exact h
 have hp0b:∀ (i:Nat) (p:Ev.Place),i < 6->pl4[i]? = some p->p0[i]? = some p:=fun i p hi h=>by rw [hp0e,List.getElem?_take_of_lt hi]; exact h
 have dpb:∀ {t i:Nat},i < 6->Ev.get bkFr t=some (.pb i 0)->Den p0 [] default (.pb i 0) (l4.getD t undef):=fun hi hg=>by
  obtain ⟨a,b,c,h1,h2⟩:=fr4 _ _ hg
  exact ⟨a,b,c,hp0b _ _ hi h1,h2⟩
 have hs:Slots p0 l4:=⟨hl4,hp0l,dpb (by decide) rfl,dpb (by decide) rfl,dpb (by decide) rfl,by
  obtain ⟨us,vs,h1,⟨v,q,h2,⟨a,b,c,h3,h4⟩,h5⟩,h6⟩:=fr4 11 _ rfl
  exact ⟨us,vs,h1,⟨v,q,h2,⟨a,b,c,hp0b _ _ (by decide) h3,h4⟩,h5⟩,h6⟩,dpb (by decide) rfl⟩
 obtain ⟨g0,n0,c0,vs,e1,e2,e3⟩:=st4.ent (0,.dm kT uT m) (by simp [bkSt,bkOwn])
 obtain ⟨Bm,nm,cm,us,b1,b2,⟨v,r,rfl,⟨g',n',c',b3,rfl⟩,rfl⟩,b4⟩:=st4.ent (4,.box 24 [.mp 0]) (by simp [bkSt,bkOwn])
 obtain rfl:g'=g0:=by rw [b3] at e1; cases e1; rfl
 have hvk:=dm_keys e3
 have hvl:vs.length=m.length:=by have:=congrArg List.length hvk; simpa using this
 have hvr:∀ e ∈ vs,inR e.1:=fun e he=>by
  have h1:e.1 ∈ m.map (·.1):=by rw [<- hvk]; exact List.mem_map_of_mem (f:=fun x:Int×Value=>x.1) he
  obtain ⟨e',h2,h3⟩:=List.mem_map.1 h1
  rw [<- h3]
  exact keyOk_iff.1 (List.all_eq_true.1 hkeys e' h2)
 have hf11:(mk l4).eval (.tmp 11) = .func (.func 40) #[] #[.pointer (some ⟨Bm,0,none⟩)]:=by
  rw [eval_mk]
  obtain ⟨us,vs,h1,⟨v,q,h2,⟨a,b,c,h3,h4⟩,h5⟩,h6⟩:=fr4 11 _ rfl
  rw [b1] at h3
  cases h3
  cases h1
  cases h5
  subst h2 h4
  exact h6
 refine wpIn_block (wpIn_rangeFunc ?_)
 intro fn hfn
 obtain ⟨W1,hW1⟩:∃ W1,(w4.alloc (.deferred (some []))).alloc (.loop (bkRec fn l4 w4.heap.size .ready none))=W1:=⟨_,rfl⟩
 have hs1:W1.heap.size=w4.heap.size + 2:=by rw [<- hW1]; simp
 have hfz1:Fz [] w4 W1:=by rw [<- hW1]; exact (Fz.alloc _ _ _).trans (Fz.alloc _ _ _)
 have hD1:W1.heap[w4.heap.size]? = some (.deferred (some [])):=by
  rw [<- hW1]; exact (Below.heap_alloc _ _ _ (by simp)).trans (World.alloc_heap_new w4 _)
 have hr1:W1.heap[w4.heap.size + 1]? = some (.loop (bkRec fn l4 w4.heap.size .ready none)):=by
  rw [<- hW1]; have:=World.alloc_heap_new (w4.alloc (.deferred (some []))) (.loop (bkRec fn l4 w4.heap.size .ready none)); rwa [World.size_alloc] at this
 have hmap1:MapIs (keyV (.int .i64)) (fun v:Value=>v) W1 g' vs:=by
  have hlt:=e2.lt
  obtain ⟨es,cl,a,b,c⟩:=e2
  exact ⟨es,cl,(hfz1.block _ hlt nilN).trans a,b,c⟩
 have hcell1:W1.cell? ⟨Bm,0,none⟩=some (.map (some g')):=(b2.step hfz1 nilN).cell rfl
 have hkeys2:sorted (vs.map (·.1))=sorted (m.map (·.1)):=by rw [hvk]
 refine ⟨w4.heap.size + 1,[{ target:=.collected w4.heap.size,args:=#[] }],W1,{ target:=.fn (.func 40) #[.pointer (some ⟨Bm,0,none⟩)],args:=#[.func (.yield (w4.heap.size + 1)) #[] #[]] },W1,40,
  #[.func (.yield (w4.heap.size + 1)) #[] #[]]++#[.pointer (some ⟨Bm,0,none⟩)],W1,?_,?_,fun _ _=>trivial,?_,(fun h=>by cases h),?_⟩
 ·rw [<- hW1]; exact run_enterLoop_outer _ _ _ _ _
 ·simp only [resolve,hf11]
  simp [go_sem]
 ·have:=enters_of Try.func40 (by kernel_rfl) rfl
  simp [invoke,go_sem,this]
 ·-- the rounds
  let FF:World->Lx:=fun Z=>F++between w4.heap.size Z.heap.size
  have hFm:∀ Z k,some k ∈ FF Z ↔ some k ∈ F∨(w4.heap.size≤k∧k < Z.heap.size):=fun Z k=>by
   show some k ∈ F++between _ _ ↔ _
   rw [List.mem_append,between_mem]
  have key:=keys_it 1 (w4.heap.size + 1) Bm g' (Nat.le_refl _) W1 hmap1 hvr (by omega) hcell1
   (fun Z pre W=>∃ pl b xs a ws,Sto B0 p0 (FF Z) pl (bkOwn m nilV false b xs a ws) W∧pl.length=8∧BkI b xs a ws∧W.heap[w4.heap.size]? = some (.deferred (some []))∧Blw B0 w0 W∧W1.heap.size≤Z.heap.size ∧
    bkAll m pre (some [])=some (bkX b xs a ws)∧W.heap[w4.heap.size + 1]? = some (.loop (bkRec fn l4 w4.heap.size .ready none))∧∀ k,W1.heap.size≤k->k < Z.heap.size->W.heap[k]? = Z.heap[k]?)
   (fun Z pre W=>∃ pl b xs a ws,Sto B0 p0 (FF Z) pl (bkOwn m nilV false b xs a ws) W∧pl.length=8∧BkI b xs a ws∧W.heap[w4.heap.size]? = some (.deferred (some []))∧Blw B0 w0 W∧W1.heap.size≤Z.heap.size ∧
    bkAll m pre (some [])=none∧W.heap[w4.heap.size + 1]? = some (.loop (bkRec fn l4 w4.heap.size .done (some .ret))))
   (fun Z hZ=>by
    have hz:Fz [] w4 Z:=hfz1.trans (Fz.of_below hZ [])
    refine ⟨pl4,false,[],0,[],?_,hn4,BkI.start,(hZ.block _ (by omega)).trans hD1,bw4.trans (blw_fz hz (fun k hk=>by cases hk)),hZ.size,rfl,(hZ.block _ (by omega)).trans hr1,fun k _ _=>rfl⟩
    refine (st4.sub (List.Sublist.refl _) hp0p).grow hz fun k hk=>?_
    rcases (hFm Z k).1 hk with h | ⟨h1,h2⟩
    ·exact ⟨.inl h,Nat.lt_of_lt_of_le (st4.far k h).2 hz.size⟩
    ·exact ⟨.inr h1,h2⟩)
   (fun Z pre W hJ k h1 h2=>by
    obtain ⟨_,_,_,_,_,_,_,_,_,_,_,_,_,h⟩:=hJ
    exact h k h1 h2)
   (fun Z pre x W hJ=>by
    obtain ⟨pl,b,xs,a,ws,j1,j2,j3,j4,j5,j6,j7,j8,j9⟩:=hJ
    have hlb:some (w4.heap.size + 1) ∈ FF Z:=(hFm Z _).2 (.inr ⟨by omega,by omega⟩)
    obtain ⟨fn',tmps,asg,bd,y1,y2⟩:=round (x:=x) j1 j2 hs j3 j8 hlb (hbase _ (by have:=bw4.size; omega)) (fun k hk=>hbase k (Nat.le_trans j5.size hk))
    refine ⟨fn',tmps,asg,bd,y1,y2.mono ?_⟩
    rintro e W' ⟨pl',b',xs',a',ws',k1,k2,k3,k4,k5,k6⟩
    have kD:W'.heap[w4.heap.size]? = some (.deferred (some [])):=(k5 _ ((hFm Z _).2 (.inr ⟨Nat.le_refl _,by omega⟩)) (by omega)).trans j4
    rcases k6 with ⟨rfl,k7,k8⟩ | ⟨rfl,k7,k8⟩
    ·refine .inl ⟨rfl,pl',b',xs',a',ws',k1,k2,k3,kD,j5.trans k4,j6,?_,k8,fun k h1 h2=>?_⟩
     ·rw [bkAll_snoc,j7]
      exact k7
     ·exact (k5 k ((hFm Z k).2 (.inr ⟨by omega,h2⟩)) (by omega)).trans (j9 k h1 h2)
    ·refine .inr ⟨rfl,pl',b',xs',a',ws',k1,k2,k3,kD,j5.trans k4,j6,?_,k8⟩
     rw [bkAll_snoc,j7]
     exact k7)
  refine key.mono ?_
  rintro e W2 ⟨⟨v0,rfl⟩,Z,hJ⟩
  have leave:∀ (pl:List Ev.Place) (cc:SV) (ok b:Bool) (xs:List Bk) (a:Int) (ws:List Int) (l':List Value) (W:World) (L:List Bk),Sto B0 p0 (FF Z) pl (bkOwn m cc ok b xs a ws) W->pl.length=8->Slots p0 l'->W.heap[w4.heap.size]? = some (.deferred (some []))->Blw B0 w0 W->W1.heap.size≤Z.heap.size->bkRes m=(L,ok) ->
    (∃ S1,nrm Try.prog ⟨[.frb 2],[2,3]⟩ (bkSt bkFr 6 m cc ok b xs a ws)=some S1∧(0,Ent.dm kT uT m) ∈ S1.own∧resK Try.prog S1 Try.f8.results.toList (fun ss=>some ss)=some [.d (.sl bT) L,.d .bool ok]) ->
    bodyPostM Fence.wide 2 Try.prog Try.f8 R .ret ⟨l'.toArray,[{ target:=.collected w4.heap.size,args:=#[] }]⟩ W:=by
   intro pl cc ok b xs a ws l' W L k1 k2 k3 k4 k5 k6 k7 ⟨S1,z1,z2,z3⟩
   have hf6:=fz_putObj W w4.heap.size (.deferred none)
   have hDF:some w4.heap.size ∈ FF Z:=(hFm Z _).2 (.inr ⟨Nat.le_refl _,by omega⟩)
   have k1':=k1.turn (hf6.sub fun k hk=>by simp at hk; subst hk; exact hDF)
   have k5':Blw B0 w0 (W.putObj w4.heap.size (.deferred none)):=k5.trans (blw_fz hf6 (fun k hk=>by simp at hk; subst hk; exact hbase _ bw4.size))
   obtain ⟨pl',us,z4,z5,z6⟩:=fin_res (S:=bkSt bkFr 6 m cc ok b xs a ws) (l:=l') (hbo k5'.size k1') k1' rfl k2.symm (show 6=p0.length from hp0l.symm) k3.len (k3.fr k1'.pre (fun _ _=>rfl)) z1 z3
   refine ⟨by simp,.inl ⟨_,_,rfl,run_takeDeferred k4,?_⟩⟩
   refine z6 R (hRe ?_)
   rw [k7]
   subst hB0
   exact fin_after hpl hL (fun p hp=>by
    have:=z4.pre 0 ⟨some ⟨g,0,none⟩,n,c⟩ (hp0b _ _ (by decide) (st4.pre 0 _ hp0))
    rw [this] at hp
    rw [hp0]
    exact hp) (fun k hk=>(hFm Z k).2 (.inl hk)) z4 z2 k5' z5
  rcases hJ with ⟨pl,b,xs,a,ws,j1,j2,j3,j4,j5,j6,j7,j8,j9⟩ | ⟨k,hk,pl,b,xs,a,ws,j1,j2,j3,j4,j5,j6,j7,j8⟩
  ·have hend:=run_endLoop (P:=Try.prog) j8 (by simp [bkRec])
   have hf5:=fz_putObj W2 (w4.heap.size + 1) (.loop { bkRec fn l4 w4.heap.size .ready none with state:=.exhausted })
   have hlb:some (w4.heap.size + 1) ∈ FF Z:=(hFm Z _).2 (.inr ⟨by omega,by omega⟩)
   refine ⟨none,_,hend,?_⟩
   have j1':=j1.turn (hf5.sub fun k hk=>by simp at hk; subst hk; exact hlb)
   have j5':=j5.trans (blw_fz hf5 (fun k hk=>by simp at hk; subst hk; exact hbase _ (by have:=bw4.size; omega)))
   refine tail_wp (ds:=[{ target:=.collected w4.heap.size,args:=#[] }]) j1' j2 hs (fun k hk=>hbase k (Nat.le_trans j5'.size hk)) fun W' l' t1 t2 t3 t4=>?_
   refine leave pl _ _ b xs a ws l' W' _ t1 j2 t2 ((t4 _ ((hFm Z _).2 (.inr ⟨Nat.le_refl _,by omega⟩))).trans ((World.putObj_heap_other (by omega)).trans j4)) (j5'.trans t3) j6 ?_ (n3_fin m b xs a ws)
   unfold bkRes
   rw [if_neg hlen,<- hkeys2,j7]
  ·have hend:=run_endLoop (P:=Try.prog) j8 (by simp [bkRec])
   have hf5:=fz_putObj W2 (w4.heap.size + 1) (.loop { bkRec fn l4 w4.heap.size .done (some .ret) with state:=.exhausted })
   have hlb:some (w4.heap.size + 1) ∈ FF Z:=(hFm Z _).2 (.inr ⟨by omega,by omega⟩)
   refine ⟨some .ret,_,hend,?_⟩
   have j1':=j1.turn (hf5.sub fun k hk=>by simp at hk; subst hk; exact hlb)
   have j5':=j5.trans (blw_fz hf5 (fun k hk=>by simp at hk; subst hk; exact hbase _ (by have:=bw4.size; omega)))
   refine wpIn_ret ?_
   refine leave pl _ _ b xs a ws l4 _ _ j1' j2 hs ((World.putObj_heap_other (by omega)).trans j4) j5' j6 ?_ (n2_fin m b xs a ws)
   unfold bkRes
   rw [if_neg hlen,<- hkeys2,<- List.take_append_drop k (sorted (vs.map (·.1))),bkAll_app,j7,bkAll_none]
end Go.Proofs.Lx
end
section
open Go Go.Proofs Ev Sx
set_option maxRecDepth 100000
namespace Go.Proofs.Lx
abbrev QJT0:Ty:=(.pr (.int .i64) (.sl (.int .u16)))
abbrev QJT1:Ty:=(.pr (.int .i64) (.int .u16))
@[reducible] def zF0:Type:=List Int->List Bool->Int->Int->List (Int×Int)->Option (As [.sl QJT1])
@[reducible] def zF1:Type:=List (Int×Int)
def qs7_ (j2:List Int->List Bool->Int->Int->Int->Bool->List (Int×Int)->Option (As [.sl QJT1])) (self1:zF0) (w:List Int) (is':List Bool) (t9 t10:Int) (out:zF1):Option (As [.sl QJT1]) :=
 if lt t10 t9=true then if lt t10 (Int.ofNat (List.length is'))=true then Option.bind (at? is' t10) fun y=>j2 w is' t10 t9 t10 y out else j2 w is' t10 t9 t10 false out else some (out,())
def qr7_ (self1:zF0) (w:List Int) (is':List Bool) (i t9 t10:Int) (t22:Bool) (out:zF1):Option (As [.sl QJT1]) :=
 if t22=true then Option.bind (at? w i) fun y=>self1 w is' t9 (add .i64 t10 1) (Ev.dput (.int .i64) out i y) else self1 w is' t9 (add .i64 t10 1) out
def qsa_ (j1:zF0) (w:List Int) (is':List Bool):Option (As [.sl QJT1]) :=
 j1 w is' (Int.ofNat (List.length w)) 0 []
def qqo_ (u1:zF0) (w:List Int) (is':List Bool) (i t9 t10:Int) (t22:Bool) (out:zF1):Option (As [.sl QJT1]):=qr7_ u1 w is' i t9 t10 t22 out
def qr1_ (w:List Int) (is':List Bool) (t9 t10:Int) (out:zF1):Option (As [.sl QJT1]) :=
 loopF (fun (self:(List Int)×(List Bool)×(Int)×(Int)×(List (Int×Int))->Option (As [.sl QJT1])) (s:(List Int)×(List Bool)×(Int)×(Int)×(List (Int×Int)))=>qs7_ (qqo_ (fun w is' t9 t10 out=>self (w,is',t9,t10,out))) (fun w is' t9 t10 out=>self (w,is',t9,t10,out)) s.1 s.2.1 s.2.2.1 s.2.2.2.1 s.2.2.2.2) 18446744073709551616 (w,is',t9,t10,out)
def qsx_ (x:As [.sl (.int .u16),.sl .bool]):Option (As [.sl QJT1]):=qsa_ qr1_ x.1 x.2.1
@[reducible] def q3y_:Sh:=⟨[.d (.sl (.int .u16))],[],[.sl (.int .u16)],[.row 0],[(0,.row (.int .u16) 32)],1,[.sl (.int .u16)]⟩
def q35_ (s:List Int):Option (As [.sl (.int .u16)]) :=
 if eqi (Int.ofNat (List.length s)) 0=true then amb (eqAs q3y_.rs) [some ([],()),need (small (0 + List.length s)) (some (s,()))] else need (small (0 + List.length s)) (some (s,()))
def q2g_ (x:As [.sl (.int .u16)]):Option (As [.sl (.int .u16)]):=q35_ x.1
theorem qdf_:CtOk Try.prog (fun _=>True) 26 ⟨q3y_,q2g_⟩:=ctn qc_ 6 fun J x=>by kernel_rfl
@[reducible] def q53_:Sh:=⟨[.d (.sl (.int .u16)),.d (.sl QJT0)],[],[.sl (.int .u16),.sl QJT0],[.d (.sl (.int .u16))],[],0,[.sl (.int .u16)]⟩
def qcg_:Env:=(cts [(26,(⟨q3y_,q2g_⟩:Ct))])
def qc9_:List (Nat×Hint):=[(58,⟨[],[0,12,13,14,33,34,35,36]⟩),(14950,⟨[],[0,6,12,13,14,19,20,21,33,34,35,36]⟩),(1913651,⟨[.agd 33 (.int .i64),.agd 35 (.int .i64),.agd 36 .bool],[0,6,8,9,12,13,14,19,20,21,37]⟩)]
@[reducible] def zF2:Type:=List (Int×List Int)
def q20_ (t12:zF2) (t13 t14:Int) (bank:List Int):St:=⟨[(0,.row 0),(12,.d (.sl QJT0) t12),(13,dI t13),(14,dI t14)],45,[],[(0,.row (.int .u16) 32 bank)],1,[],0⟩
def q41_ (t12:zF2) (t13 t14:Int) (t19:List Int) (t20 t21:Int) (bank:List Int) (x:Int×List Int):St:=⟨[(0,.row 0),(6,.pb 1 0),(12,.d (.sl QJT0) t12),(13,dI t13),(14,dI t14),(19,dW t19),(20,dI t20),(21,dI t21)],45,[],[(0,.row (.int .u16) 32 bank),(1,.box 31 [dI x.1,dW x.2])],2,[],0⟩
def qdo_ (w at':Int) (t12:zF2) (t13 t14:Int) (t19:List Int) (t20 t21:Int) (t37:Bool) (bank:List Int) (x:Int×List Int):St:=⟨[(0,.row 0),(6,.pb 1 0),(8,d6 w),(9,dI at'),(12,.d (.sl QJT0) t12),(13,dI t13),(14,dI t14),(19,dW t19),(20,dI t20),(21,dI t21),(37,dB t37)],45,[],[(0,.row (.int .u16) 32 bank),(1,.box 31 [dI x.1,dW x.2])],2,[],0⟩
@[reducible] def zF3:Type:=List (Int×List Int)->Int->Int->List Int->Int->Int->List Int->Int×List Int->Option (As [.sl (.int .u16)])
@[reducible] def zF4:Type:=List (Int×List Int)->Int->Int->List Int->Option (As [.sl (.int .u16)])
def q65_ (j2:zF3) (self1:zF4) (t12:zF2) (t13 t14:Int) (bank:List Int):Option (As [.sl (.int .u16)]) :=
 if lt t14 t13=true then Option.bind (at? t12 t14) fun y=>j2 t12 t13 t14 y.2 (Int.ofNat (List.length y.2)) 0 bank y else some (bank,())
def q5v_ (j3:Int->Int->List (Int×List Int)->Int->Int->List Int->Int->Int->Bool->List Int->Int×List Int->Option (As [.sl (.int .u16)])) (self1:zF4) (self2:zF3) (t12:zF2) (t13 t14:Int) (t19:List Int) (t20 t21:Int) (bank:List Int) (x:Int×List Int):Option (As [.sl (.int .u16)]) :=
 if lt t21 t20=true then Option.bind (at? t19 t21) fun y=>if ge (add .i64 x.1 t21) 0=true then j3 y (add .i64 x.1 t21) t12 t13 t14 t19 t20 t21 (lt (add .i64 x.1 t21) (Int.ofNat (List.length bank))) bank x else j3 y (add .i64 x.1 t21) t12 t13 t14 t19 t20 t21 false bank x else self1 t12 t13 (add .i64 t14 1) bank
def qab_ (self1:zF4) (self2:zF3) (w at':Int) (t12:zF2) (t13 t14:Int) (t19:List Int) (t20 t21:Int) (t37:Bool) (bank:List Int) (x:Int×List Int):Option (As [.sl (.int .u16)]) :=
 if t37=true then Option.bind (at? bank at') fun x_1=>Option.bind (at? bank at') fun x_2=>self2 t12 t13 t14 t19 t20 (add .i64 t21 1) (List.set bank (Int.toNat at') w) x else self2 t12 t13 t14 t19 t20 (add .i64 t21 1) bank x
def q9x_ (j1:zF4) (bank:List Int) (l:zF2):Option (As [.sl (.int .u16)]) :=
 Option.bind (q2g_ (bank,())) fun y=>j1 l (Int.ofNat (List.length l)) 0 y.1
def q72_ (u1:zF4) (u2:zF3) (w at':Int) (t12:zF2) (t13 t14:Int) (t19:List Int) (t20 t21:Int) (t37:Bool) (bank:List Int) (x:Int×List Int):Option (As [.sl (.int .u16)]):=qab_ u1 u2 w at' t12 t13 t14 t19 t20 t21 t37 bank x
def q71_ (u1:zF4) (t12:zF2) (t13 t14:Int) (t19:List Int) (t20 t21:Int) (bank:List Int) (x:Int×List Int):Option (As [.sl (.int .u16)]) :=
 loopF (fun (self:(List (Int×List Int))×(Int)×(Int)×(List Int)×(Int)×(Int)×(List Int)×(Int×List Int)->Option (As [.sl (.int .u16)])) (s:(List (Int×List Int))×(Int)×(Int)×(List Int)×(Int)×(Int)×(List Int)×(Int×List Int))=>q5v_ (q72_ u1 (fun t12 t13 t14 t19 t20 t21 bank x=>self (t12,t13,t14,t19,t20,t21,bank,x))) u1 (fun t12 t13 t14 t19 t20 t21 bank x=>self (t12,t13,t14,t19,t20,t21,bank,x)) s.1 s.2.1 s.2.2.1 s.2.2.2.1 s.2.2.2.2.1 s.2.2.2.2.2.1 s.2.2.2.2.2.2.1 s.2.2.2.2.2.2.2) 18446744073709551616 (t12,t13,t14,t19,t20,t21,bank,x)
def qa5_ (t12:zF2) (t13 t14:Int) (bank:List Int):Option (As [.sl (.int .u16)]) :=
 loopF (fun (self:(List (Int×List Int))×(Int)×(Int)×(List Int)->Option (As [.sl (.int .u16)])) (s:(List (Int×List Int))×(Int)×(Int)×(List Int))=>q65_ (q71_ (fun t12 t13 t14 bank=>self (t12,t13,t14,bank))) (fun t12 t13 t14 bank=>self (t12,t13,t14,bank)) s.1 s.2.1 s.2.2.1 s.2.2.2) 18446744073709551616 (t12,t13,t14,bank)
def q66_ (x:As [.sl (.int .u16),.sl QJT0]):Option (As [.sl (.int .u16)]):=q9x_ qa5_ x.1 x.2.1
noncomputable abbrev plan_Over_P:=pfn Try.prog qcg_ 6 18446744073709551616 (Ev.get qc9_) 10 q53_
theorem qs5_ {J w1 w2 w at' t12 t13 t14 t19 t20 t21 t37 bank x}:plan_Over_P J 1913651 [w1,w2] (qdo_ w at' t12 t13 t14 t19 t20 t21 t37 bank x)=qab_ (fun t12 t13 t14 bank=>w1 (q20_ t12 t13 t14 bank)) (fun t12 t13 t14 t19 t20 t21 bank x=>w2 (q41_ t12 t13 t14 t19 t20 t21 bank x)) w at' t12 t13 t14 t19 t20 t21 t37 bank x:=by kernel_rfl
theorem qsb_ {J w1 w2 t12 t13 t14 t19 t20 t21 bank x}:plan_Over_P J 14950 [w1,w2] (q41_ t12 t13 t14 t19 t20 t21 bank x)=q5v_ (fun w at' t12 t13 t14 t19 t20 t21 t37 bank x=>J 1913651 [w1,w2] (qdo_ w at' t12 t13 t14 t19 t20 t21 t37 bank x)) (fun t12 t13 t14 bank=>w1 (q20_ t12 t13 t14 bank)) (fun t12 t13 t14 t19 t20 t21 bank x=>w2 (q41_ t12 t13 t14 t19 t20 t21 bank x)) t12 t13 t14 t19 t20 t21 bank x:=by kernel_rfl
theorem qrr_ {J w1 t12 t13 t14 bank}:plan_Over_P J 58 [w1] (q20_ t12 t13 t14 bank)=q65_ (fun t12 t13 t14 t19 t20 t21 bank x=>J 14950 [w1] (q41_ t12 t13 t14 t19 t20 t21 bank x)) (fun t12 t13 t14 bank=>w1 (q20_ t12 t13 t14 bank)) t12 t13 t14 bank:=by kernel_rfl
theorem qre_ (J:Orc (As [.sl (.int .u16)])) (x:As [.sl (.int .u16),.sl QJT0]):rfn Try.prog qcg_ 6 18446744073709551616 (Ev.get qc9_) 10 q53_ J x=q9x_ (fun t12 t13 t14 bank=>J 58 [] (q20_ t12 t13 t14 bank)) x.1 x.2.1:=by kernel_rfl
noncomputable abbrev plan_Over_J:=jfn Try.prog qcg_ 6 18446744073709551616 (Ev.get qc9_) 10 q53_
theorem qqv_  (w1 w2 w at' t12 t13 t14 t19 t20 t21 t37 bank x):plan_Over_J 1913651 [w1,w2] (qdo_ w at' t12 t13 t14 t19 t20 t21 t37 bank x)=q72_ (fun t12 t13 t14 bank=>w1 (q20_ t12 t13 t14 bank)) (fun t12 t13 t14 t19 t20 t21 bank x=>w2 (q41_ t12 t13 t14 t19 t20 t21 bank x)) w at' t12 t13 t14 t19 t20 t21 t37 bank x:=gN (by decide) qs5_
theorem qqx_  (w1 t12 t13 t14 t19 t20 t21 bank x):plan_Over_J 14950 [w1] (q41_ t12 t13 t14 t19 t20 t21 bank x)=q71_ (fun t12 t13 t14 bank=>w1 (q20_ t12 t13 t14 bank)) t12 t13 t14 t19 t20 t21 bank x:=gL (σ:=(List (Int×List Int))×(Int)×(Int)×(List Int)×(Int)×(Int)×(List Int)×(Int×List Int)) (mk:=fun s=>q41_ s.1 s.2.1 s.2.2.1 s.2.2.2.1 s.2.2.2.2.1 s.2.2.2.2.2.1 s.2.2.2.2.2.2.1 s.2.2.2.2.2.2.2) (by decide) (by kernel_rfl) (fun w2 s=>qsb_.trans (by simp only [qqv_])) (t12,t13,t14,t19,t20,t21,bank,x)
theorem qrn_  (t12 t13 t14 bank):plan_Over_J 58 [] (q20_ t12 t13 t14 bank)=qa5_ t12 t13 t14 bank:=gL (σ:=(List (Int×List Int))×(Int)×(Int)×(List Int)) (mk:=fun s=>q20_ s.1 s.2.1 s.2.2.1 s.2.2.2) (by decide) (by kernel_rfl) (fun w1 s=>qrr_.trans (by simp only [qqx_])) (t12,t13,t14,bank)
theorem qse_ (x:As [.sl (.int .u16),.sl QJT0]):evT Try.prog qcg_ 6 18446744073709551616 (Ev.get qc9_) 10 q53_ x=q66_ x:=by
 rw [rfn_eq,qre_]
 simp only [qrn_]
 rfl
theorem qh8_:CtOk Try.prog (fun _=>True) 10 ⟨q53_,q66_⟩:=qh_ (q3_ qdf_ qc_) qse_
@[reducible] def q2p_:Sh:=⟨[.d (.sl (.int .u16)),.d (.sl (.int .u16))],[],[.sl (.int .u16),.sl (.int .u16)],[.d (.bool)],[],0,[.bool]⟩
def qa0_:Env:=(cts [])
def qai_:List (Nat×Hint):=[(58,⟨[],[0,1,12,13]⟩)]
def q6b_ (a b:List Int) (t12 t13:Int):St:=⟨[(0,dW a),(1,dW b),(12,dI t12),(13,dI t13)],26,[],[],0,[],0⟩
def q4m_ (self1:List Int->List Int->Int->Int->Option (As [.bool])) (a b:List Int) (t12 t13:Int):Option (As [.bool]) :=
 if lt t13 t12=true then Option.bind (at? a t13) fun y=>Option.bind (at? b t13) fun y_1=>if nei y y_1=true then some (false,()) else self1 a b t12 (add .i64 t13 1) else some (true,())
def q8x_ (j1:List Int->List Int->Int->Int->Option (As [.bool])) (a b:List Int):Option (As [.bool]) :=
 if nei (Int.ofNat (List.length a)) (Int.ofNat (List.length b))=true then some (false,()) else j1 a b (Int.ofNat (List.length a)) 0
def q95_ (a b:List Int) (t12 t13:Int):Option (As [.bool]) :=
 loopF (fun (self:(List Int)×(List Int)×(Int)×(Int)->Option (As [.bool])) (s:(List Int)×(List Int)×(Int)×(Int))=>q4m_ (fun a b t12 t13=>self (a,b,t12,t13)) s.1 s.2.1 s.2.2.1 s.2.2.2) 18446744073709551616 (a,b,t12,t13)
def q36_ (x:As [.sl (.int .u16),.sl (.int .u16)]):Option (As [.bool]):=q8x_ q95_ x.1 x.2.1
noncomputable abbrev law06_Regs_P:=pfn Try.prog qa0_ 6 18446744073709551616 (Ev.get qai_) 11 q2p_
theorem qq6_ {J w1 a b t12 t13}:law06_Regs_P J 58 [w1] (q6b_ a b t12 t13)=q4m_ (fun a b t12 t13=>w1 (q6b_ a b t12 t13)) a b t12 t13:=by kernel_rfl
theorem qq7_ (J:Orc (As [.bool])) (x:As [.sl (.int .u16),.sl (.int .u16)]):rfn Try.prog qa0_ 6 18446744073709551616 (Ev.get qai_) 11 q2p_ J x=q8x_ (fun a b t12 t13=>J 58 [] (q6b_ a b t12 t13)) x.1 x.2.1:=by kernel_rfl
noncomputable abbrev law06_Regs_J:=jfn Try.prog qa0_ 6 18446744073709551616 (Ev.get qai_) 11 q2p_
theorem qq3_  (a b t12 t13):law06_Regs_J 58 [] (q6b_ a b t12 t13)=q95_ a b t12 t13:=gL (σ:=(List Int)×(List Int)×(Int)×(Int)) (mk:=fun s=>q6b_ s.1 s.2.1 s.2.2.1 s.2.2.2) (by decide) (by kernel_rfl) (fun w1 s=>qq6_) (a,b,t12,t13)
theorem qs2_ (x:As [.sl (.int .u16),.sl (.int .u16)]):evT Try.prog qa0_ 6 18446744073709551616 (Ev.get qai_) 11 q2p_ x=q36_ x:=by
 rw [rfn_eq,qq7_]
 simp only [qq3_]
 rfl
theorem qcq_:CtOk Try.prog (fun _=>True) 11 ⟨q2p_,q36_⟩:=qh_ qc_ qs2_
@[reducible] def q5p_:Sh:=⟨[.d (.sl QJT0),.d (.sl QJT0)],[],[.sl QJT0,.sl QJT0],[.d (.bool)],[],0,[.bool]⟩
def qaf_:Env:=(cts [(11,(⟨q2p_,q36_⟩:Ct))])
def qa6_:List (Nat×Hint):=[(58,⟨[],[0,1,12,13,28,29,30,31,32,33,34,35,36,37,38,39]⟩),(3737,⟨[.agd 28 (.sl QJT0),.agd 29 (.int .i64),.agd 32 (.sl (.int .u16)),.agd 33 (.sl QJT0),.agd 34 (.int .i64),.agd 37 (.sl (.int .u16)),.agd 38 .bool,.agd 39 .bool],[0,1,12,13,40]⟩)]
def q2x_ (a b:zF2) (t12 t13:Int):St:=⟨[(0,.d (.sl QJT0) a),(1,.d (.sl QJT0) b),(12,dI t12),(13,dI t13)],42,[],[],0,[],0⟩
def qcr_ (a b:zF2) (t12 t13:Int) (t40:Bool):St:=⟨[(0,.d (.sl QJT0) a),(1,.d (.sl QJT0) b),(12,dI t12),(13,dI t13),(40,dB t40)],42,[],[],0,[],0⟩
@[reducible] def zF5:Type:=List (Int×List Int)->List (Int×List Int)->Int->Int->Option (As [.bool])
def q4l_ (j2:List (Int×List Int)->List (Int×List Int)->Int->Int->Bool->Option (As [.bool])) (self1:zF5) (a b:zF2) (t12 t13:Int):Option (As [.bool]) :=
 if lt t13 t12=true then Option.bind (at? a t13) fun y=>Option.bind (at? b t13) fun y_1=>if nei y.1 y_1.1=true then j2 a b t12 t13 true else Option.bind (at? a t13) fun y=>Option.bind (at? b t13) fun y_2=>Option.bind (q36_ (y.2,y_2.2,())) fun y=>j2 a b t12 t13 !y.1 else some (true,())
def q92_ (self1:zF5) (a b:zF2) (t12 t13:Int) (t40:Bool):Option (As [.bool]) :=
 if t40=true then some (false,()) else self1 a b t12 (add .i64 t13 1)
def q8y_ (j1:zF5) (a b:zF2):Option (As [.bool]) :=
 if nei (Int.ofNat (List.length a)) (Int.ofNat (List.length b))=true then some (false,()) else j1 a b (Int.ofNat (List.length a)) 0
def q6c_ (u1:zF5) (a b:zF2) (t12 t13:Int) (t40:Bool):Option (As [.bool]):=q92_ u1 a b t12 t13 t40
def q8r_ (a b:zF2) (t12 t13:Int):Option (As [.bool]) :=
 loopF (fun (self:(List (Int×List Int))×(List (Int×List Int))×(Int)×(Int)->Option (As [.bool])) (s:(List (Int×List Int))×(List (Int×List Int))×(Int)×(Int))=>q4l_ (q6c_ (fun a b t12 t13=>self (a,b,t12,t13))) (fun a b t12 t13=>self (a,b,t12,t13)) s.1 s.2.1 s.2.2.1 s.2.2.2) 18446744073709551616 (a,b,t12,t13)
def qaj_ (x:As [.sl QJT0,.sl QJT0]):Option (As [.bool]):=q8y_ q8r_ x.1 x.2.1
noncomputable abbrev law16_Same_P:=pfn Try.prog qaf_ 6 18446744073709551616 (Ev.get qa6_) 16 q5p_
theorem qp1_ {J w1 a b t12 t13 t40}:law16_Same_P J 3737 [w1] (qcr_ a b t12 t13 t40)=q92_ (fun a b t12 t13=>w1 (q2x_ a b t12 t13)) a b t12 t13 t40:=by kernel_rfl
theorem qp5_ {J w1 a b t12 t13}:law16_Same_P J 58 [w1] (q2x_ a b t12 t13)=q4l_ (fun a b t12 t13 t40=>J 3737 [w1] (qcr_ a b t12 t13 t40)) (fun a b t12 t13=>w1 (q2x_ a b t12 t13)) a b t12 t13:=by kernel_rfl
theorem qqm_ (J:Orc (As [.bool])) (x:As [.sl QJT0,.sl QJT0]):rfn Try.prog qaf_ 6 18446744073709551616 (Ev.get qa6_) 16 q5p_ J x=q8y_ (fun a b t12 t13=>J 58 [] (q2x_ a b t12 t13)) x.1 x.2.1:=by kernel_rfl
noncomputable abbrev law16_Same_J:=jfn Try.prog qaf_ 6 18446744073709551616 (Ev.get qa6_) 16 q5p_
theorem qpp_  (w1 a b t12 t13 t40):law16_Same_J 3737 [w1] (qcr_ a b t12 t13 t40)=q6c_ (fun a b t12 t13=>w1 (q2x_ a b t12 t13)) a b t12 t13 t40:=gN (by decide) qp1_
theorem qq8_  (a b t12 t13):law16_Same_J 58 [] (q2x_ a b t12 t13)=q8r_ a b t12 t13:=gL (σ:=(List (Int×List Int))×(List (Int×List Int))×(Int)×(Int)) (mk:=fun s=>q2x_ s.1 s.2.1 s.2.2.1 s.2.2.2) (by decide) (by kernel_rfl) (fun w1 s=>qp5_.trans (by simp only [qpp_])) (a,b,t12,t13)
theorem qrw_ (x:As [.sl QJT0,.sl QJT0]):evT Try.prog qaf_ 6 18446744073709551616 (Ev.get qa6_) 16 q5p_ x=qaj_ x:=by
 rw [rfn_eq,qqm_]
 simp only [qq8_]
 rfl
theorem qpn_:CtOk Try.prog (fun _=>True) 16 ⟨q5p_,qaj_⟩:=qh_ (q3_ qcq_ qc_) qrw_
@[reducible] def q4j_:Sh:=⟨[],[],[],[.d (.bool)],[],0,[.bool]⟩
def q93_:Env:=(cts [(8,(⟨q2v_,q2i_⟩:Ct)),(10,(⟨q53_,q66_⟩:Ct)),(11,(⟨q2p_,q36_⟩:Ct)),(16,(⟨q5p_,qaj_⟩:Ct))])
def q9l_:List (Nat×Hint):=[(15,⟨[],[1,2,3,37,40,41,44,45,46,47,48,49,50,53,54,55,58,59,60,61,62,63,66,67,68,69,70,73,74,75,76,77]⟩),(122,⟨[],[1,2,3,16,37,40,41,44,45,46,47,48,49,50,53,54,55,58,59,60,61,62,63,66,67,68,69,70,73,74,75,76,77]⟩)]
def q5s_ (a:zF2) (x:Bool) (t16:Int) (m:zF1):St:=⟨[(1,.d (.sl QJT0) a),(2,dB x),(3,.mp 0),(16,dI t16)],79,[],[(0,.dm (.int .i64) (.int .u16) m)],1,[],0⟩
def qbh_ (a:zF2) (x:Bool) (m:zF1):St:=⟨[(1,.d (.sl QJT0) a),(2,dB x),(3,.mp 0)],79,[],[(0,.dm (.int .i64) (.int .u16) m)],1,[],0⟩
@[reducible] def zF6:Type:=List (Int×List Int)->Bool->Int->List (Int×Int)->Option (As [.bool])
def qf5_ (j2:List (Int×List Int)->Bool->List (Int×Int)->Option (As [.bool])) (self1:zF6) (a:zF2) (x:Bool) (t16:Int) (m:zF1):Option (As [.bool]) :=
 if lt t16 15=true then self1 a x (add .i64 t16 1) (Ev.dput (.int .i64) m t16 (cvt .u16 t16)) else j2 a x m
def q7a_ (a:zF2) (x:Bool) (m:zF1):Option (As [.bool]) :=
 Option.bind (q2i_ (m,())) fun y=>Option.bind (q2i_ ([(64,1)],())) fun y_1=>if x=true then if y.2.1=true then if (!y_1.2.1)=true then Option.bind (qaj_ (a,[(3,[7,8]),(6,[9])],())) fun y_2=>if y_2.1=true then if eqi (Int.ofNat (List.length y.1)) 2=true then Option.bind (at? y.1 0) fun y_3=>if eqi (Int.ofNat (List.length y_3.2)) 14=true then Option.bind (at? y.1 1) fun y=>if eqi y.1 14=true then Option.bind (q66_ ([0,0,0,0,0,0,0],a,())) fun y=>Option.bind (q36_ (y.1,[0,0,0,7,8,0,9],())) fun y=>some (y.1,()) else some (false,()) else some (false,()) else some (false,()) else some (false,()) else some (false,()) else some (false,()) else some (false,())
def q79_ (j1:zF6):Option (As [.bool]) :=
 Option.bind (q2i_ ([(3,7),(4,8),(6,9)],())) fun y=>j1 y.1 y.2.1 0 []
def qbc_ (a:zF2) (x:Bool) (m:zF1):Option (As [.bool]):=q7a_ a x m
def q5h_ (a:zF2) (x:Bool) (t16:Int) (m:zF1):Option (As [.bool]) :=
 loopF (fun (self:(List (Int×List Int))×(Bool)×(Int)×(List (Int×Int))->Option (As [.bool])) (s:(List (Int×List Int))×(Bool)×(Int)×(List (Int×Int)))=>qf5_ (qbc_) (fun a x t16 m=>self (a,x,t16,m)) s.1 s.2.1 s.2.2.1 s.2.2.2) 18446744073709551616 (a,x,t16,m)
def q1v_ (x:As []):Option (As [.bool]):=q79_ q5h_
noncomputable abbrev law16_awake_P:=pfn Try.prog q93_ 6 18446744073709551616 (Ev.get q9l_) 9 q4j_
theorem qm3_ {J a x m}:law16_awake_P J 15 [] (qbh_ a x m)=q7a_ a x m:=by kernel_rfl
theorem qmb_ {J w1 a x t16 m}:law16_awake_P J 122 [w1] (q5s_ a x t16 m)=qf5_ (fun a x m=>J 15 [] (qbh_ a x m)) (fun a x t16 m=>w1 (q5s_ a x t16 m)) a x t16 m:=by kernel_rfl
theorem qjx_ (J:Orc (As [.bool])) (x:As []):rfn Try.prog q93_ 6 18446744073709551616 (Ev.get q9l_) 9 q4j_ J x=q79_ (fun a x t16 m=>J 122 [] (q5s_ a x t16 m)):=by kernel_rfl
noncomputable abbrev law16_awake_J:=jfn Try.prog q93_ 6 18446744073709551616 (Ev.get q9l_) 9 q4j_
theorem qjo_  (a x m):law16_awake_J 15 [] (qbh_ a x m)=qbc_ a x m:=gN (by decide) qm3_
theorem qkq_  (a x t16 m):law16_awake_J 122 [] (q5s_ a x t16 m)=q5h_ a x t16 m:=gL (σ:=(List (Int×List Int))×(Bool)×(Int)×(List (Int×Int))) (mk:=fun s=>q5s_ s.1 s.2.1 s.2.2.1 s.2.2.2) (by decide) (by kernel_rfl) (fun w1 s=>qmb_.trans (by simp only [qjo_])) (a,x,t16,m)
theorem qqn_ (x:As []):evT Try.prog q93_ 6 18446744073709551616 (Ev.get q9l_) 9 q4j_ x=q1v_ x:=by
 rw [rfn_eq,qjx_]
 simp only [qkq_]
 rfl
theorem qn9_:CtOk Try.prog (fun _=>True) 9 ⟨q4j_,q1v_⟩:=qh_ (q3_ qmu_ (q3_ qh8_ (q3_ qcq_ (q3_ qpn_ qc_)))) qqn_
@[reducible] def zF7:Type:=List Bool->List (Int×List Int)->Bool->Int->Int->Int->Int->List (Int×Int)->Option (As [.bool])
@[reducible] def qht_:Sh:=⟨[.d (.sl (.int .u16)),.d (.sl .bool)],[],[.sl (.int .u16),.sl .bool],[.d (.bool)],[],0,[.bool]⟩
def qgo_ (j2:zF7) (w:List Int) (is':List Bool) (words:List Int) (have':List Bool):Option (As [.bool]) :=
 need (le (Int.ofNat (0 + List.length words)) (Int.ofNat (List.length words))) (need (le (Int.ofNat (0 + List.length have')) (Int.ofNat (List.length have'))) (Option.bind (qsx_ (List.take (Int.toNat (Int.ofNat (List.length words))) w++List.drop (0 + List.length (List.take (Int.toNat (Int.ofNat (List.length words))) w)) words,List.take (Int.toNat (Int.ofNat (List.length have'))) is'++List.drop (0 + List.length (List.take (Int.toNat (Int.ofNat (List.length have'))) is')) have',())) fun y=>Option.bind (q2i_ (y.1,())) fun y=>j2 (List.take (Int.toNat (Int.ofNat (List.length have'))) is'++List.drop (0 + List.length (List.take (Int.toNat (Int.ofNat (List.length have'))) is')) have') y.1 y.2.1 0 0 (Int.ofNat (List.length (List.take (Int.toNat (Int.ofNat (List.length have'))) is'++List.drop (0 + List.length (List.take (Int.toNat (Int.ofNat (List.length have'))) is')) have'))) 0 y.2.2.1))
def qgg_ (j3:zF7) (j4:zF6) (self2:zF7) (have':List Bool) (l:zF2) (ok:Bool) (runs least t42 t43:Int) (m:zF1):Option (As [.bool]) :=
 if lt t43 t42=true then Option.bind (at? have' t43) fun y=>if (!y)=true then self2 have' l ok 0 least t42 (add .i64 t43 1) m else if eqi (rem runs 14) 0=true then j3 have' l ok runs (add .i64 least 1) t42 t43 m else j3 have' l ok runs least t42 t43 m else j4 l ok least m
def qh0_ (self2:zF7) (have':List Bool) (l:zF2) (ok:Bool) (runs least t42 t43:Int) (m:zF1):Option (As [.bool]) :=
 self2 have' l ok (add .i64 runs 1) least t42 (add .i64 t43 1) m
@[reducible] def zF8:Type:=List (Int×List Int)->Int->Int->List (Int×List Int)->Int->Int->List (Int×Int)->Option (As [.bool])
def qgc_ (j5:zF8) (l:zF2) (ok:Bool) (least:Int) (m:zF1):Option (As [.bool]) :=
 if Sx.neb ok (le least 8)=true then some (false,()) else if (!ok)=true then if eqi (Int.ofNat (List.length l)) 0=true then Option.bind (q1v_ ()) fun y=>some (y.1,()) else some (false,()) else j5 l least 0 l (Int.ofNat (List.length l)) 0 m
def qgd_ (j6:List (Int×List Int)->Int->Int->Int->List (Int×List Int)->Int->Int->Bool->List (Int×Int)->Int×List Int->Option (As [.bool])) (j7:List (Int×List Int)->Int->Int->List (Int×Int)->Option (As [.bool])) (self5:zF8) (l:zF2) (least met:Int) (t71:zF2) (t72 t73:Int) (m:zF1):Option (As [.bool]) :=
 if lt t73 t72=true then Option.bind (at? t71 t73) fun y=>if lt (Int.ofNat (List.length y.2)) 1=true then j6 l least met t73 t71 t72 t73 true m y else j6 l least met t73 t71 t72 t73 (gt (Int.ofNat (List.length y.2)) 14) m y else j7 l least met m
@[reducible] def zF9:Type:=List (Int×List Int)->Int->Int->List (Int×List Int)->Int->Int->List (Int×Int)->Int×List Int->Option (As [.bool])
def qgm_ (j8:List (Int×List Int)->Int->Int->List (Int×List Int)->Int->Int->Bool->List (Int×Int)->Int×List Int->Option (As [.bool])) (j9:zF9) (self5:zF8) (l:zF2) (least met i:Int) (t71:zF2) (t72 t73:Int) (t87:Bool) (m:zF1) (b:Int×List Int):Option (As [.bool]) :=
 if t87=true then some (false,()) else if gt i 0=true then Option.bind (at? l (Sx.sub .i64 i 1)) fun y=>Option.bind (at? l (Sx.sub .i64 i 1)) fun y_1=>if lt b.1 (add .i64 y.1 (Int.ofNat (List.length y_1.2)))=true then j8 l least met t71 t72 t73 true m b else if eqi b.1 (add .i64 y.1 (Int.ofNat (List.length y_1.2)))=true then Option.bind (at? l (Sx.sub .i64 i 1)) fun y=>j8 l least met t71 t72 t73 (lt (Int.ofNat (List.length y.2)) 14) m b else j8 l least met t71 t72 t73 false m b else j9 l least met t71 t72 t73 m b
def qgj_ (l:zF2) (least met:Int) (m:zF1):Option (As [.bool]) :=
 Option.bind (q2i_ (Ev.dput (.int .i64) m 64 1,())) fun y=>Option.bind (q2i_ (Ev.dput (.int .i64) (Ev.ddel (.int .i64) y.2.2.1 64) (-1) 1,())) fun y_1=>if eqi met (Sx.sub .i64 (Int.ofNat (List.length y_1.2.2.1)) 1)=true then if eqi (Int.ofNat (List.length l)) least=true then if (!y.2.1)=true then if (!y_1.2.1)=true then Option.bind (q1v_ ()) fun y=>some (y.1,()) else some (false,()) else some (false,()) else some (false,()) else some (false,())
def qgy_ (j9:zF9) (self5:zF8) (l:zF2) (least met:Int) (t71:zF2) (t72 t73:Int) (t123:Bool) (m:zF1) (b:Int×List Int):Option (As [.bool]) :=
 if t123=true then some (false,()) else j9 l least met t71 t72 t73 m b
@[reducible] def zF10:Type:=List (Int×List Int)->Int->Int->List (Int×List Int)->Int->Int->List Int->Int->Int->List (Int×Int)->Int×List Int->Option (As [.bool])
def qgv_ (j10:zF10) (self5:zF8) (l:zF2) (least met:Int) (t71:zF2) (t72 t73:Int) (m:zF1) (b:Int×List Int):Option (As [.bool]) :=
 j10 l least met t71 t72 t73 b.2 (Int.ofNat (List.length b.2)) 0 m b
def qfr_ (j11:List (Int×List Int)->Int->Int->List (Int×List Int)->Int->Int->List Int->Int->Int->Bool->List (Int×Int)->Int×List Int->Option (As [.bool])) (self5:zF8) (self10:zF10) (l:zF2) (least met:Int) (t71:zF2) (t72 t73:Int) (t125:List Int) (t126 t127:Int) (m:zF1) (b:Int×List Int):Option (As [.bool]) :=
 if lt t127 t126=true then Option.bind (at? t125 t127) fun y=>if (!Ev.isV (.int .u16) (Ev.dget (.int .i64) m (add .i64 b.1 t127)))=true then j11 l least met t71 t72 t73 t125 t126 t127 true m b else j11 l least met t71 t72 t73 t125 t126 t127 (nei (Ev.gdV (.int .u16) (Ev.dget (.int .i64) m (add .i64 b.1 t127)) 0) y) m b else self5 l least met t71 t72 (add .i64 t73 1) m
def qfm_ (self5:zF8) (self10:zF10) (l:zF2) (least met:Int) (t71:zF2) (t72 t73:Int) (t125:List Int) (t126 t127:Int) (t147:Bool) (m:zF1) (b:Int×List Int):Option (As [.bool]) :=
 if t147=true then some (false,()) else self10 l least (add .i64 met 1) t71 t72 t73 t125 t126 (add .i64 t127 1) m b
def qgw_ (j1:List Int->List Bool->List Int->List Bool->Option (As [.bool])) (w:List Int) (is':List Bool):Option (As [.bool]) :=
 amb (eqAs qht_.rs) [j1 w is' (List.replicate 64 0) (List.replicate 64 false),j1 w is' (List.replicate 64 0) (List.replicate 64 false)]
def qgt_ (u2:zF7) (have':List Bool) (l:zF2) (ok:Bool) (runs least t42 t43:Int) (m:zF1):Option (As [.bool]):=qh0_ u2 have' l ok runs least t42 t43 m
def qfo_ (u5:zF8) (u10:zF10) (l:zF2) (least met:Int) (t71:zF2) (t72 t73:Int) (t125:List Int) (t126 t127:Int) (t147:Bool) (m:zF1) (b:Int×List Int):Option (As [.bool]):=qfm_ u5 u10 l least met t71 t72 t73 t125 t126 t127 t147 m b
def qfu_ (u5:zF8) (l:zF2) (least met:Int) (t71:zF2) (t72 t73:Int) (t125:List Int) (t126 t127:Int) (m:zF1) (b:Int×List Int):Option (As [.bool]) :=
 loopF (fun (self:(List (Int×List Int))×(Int)×(Int)×(List (Int×List Int))×(Int)×(Int)×(List Int)×(Int)×(Int)×(List (Int×Int))×(Int×List Int)->Option (As [.bool])) (s:(List (Int×List Int))×(Int)×(Int)×(List (Int×List Int))×(Int)×(Int)×(List Int)×(Int)×(Int)×(List (Int×Int))×(Int×List Int))=>qfr_ (qfo_ u5 (fun l least met t71 t72 t73 t125 t126 t127 m b=>self (l,least,met,t71,t72,t73,t125,t126,t127,m,b))) u5 (fun l least met t71 t72 t73 t125 t126 t127 m b=>self (l,least,met,t71,t72,t73,t125,t126,t127,m,b)) s.1 s.2.1 s.2.2.1 s.2.2.2.1 s.2.2.2.2.1 s.2.2.2.2.2.1 s.2.2.2.2.2.2.1 s.2.2.2.2.2.2.2.1 s.2.2.2.2.2.2.2.2.1 s.2.2.2.2.2.2.2.2.2.1 s.2.2.2.2.2.2.2.2.2.2) 18446744073709551616 (l,least,met,t71,t72,t73,t125,t126,t127,m,b)
def qax_ (u5:zF8) (l:zF2) (least met:Int) (t71:zF2) (t72 t73:Int) (m:zF1) (b:Int×List Int):Option (As [.bool]):=qgv_ (qfu_ u5) u5 l least met t71 t72 t73 m b
def qgh_ (u5:zF8) (l:zF2) (least met:Int) (t71:zF2) (t72 t73:Int) (t123:Bool) (m:zF1) (b:Int×List Int):Option (As [.bool]):=qgy_ (qax_ u5) u5 l least met t71 t72 t73 t123 m b
def qgq_ (u5:zF8) (l:zF2) (least met i:Int) (t71:zF2) (t72 t73:Int) (t87:Bool) (m:zF1) (b:Int×List Int):Option (As [.bool]):=qgm_ (qgh_ u5) (qax_ u5) u5 l least met i t71 t72 t73 t87 m b
def qgr_ (l:zF2) (least met:Int) (m:zF1):Option (As [.bool]):=qgj_ l least met m
def qgz_ (l:zF2) (least met:Int) (t71:zF2) (t72 t73:Int) (m:zF1):Option (As [.bool]) :=
 loopF (fun (self:(List (Int×List Int))×(Int)×(Int)×(List (Int×List Int))×(Int)×(Int)×(List (Int×Int))->Option (As [.bool])) (s:(List (Int×List Int))×(Int)×(Int)×(List (Int×List Int))×(Int)×(Int)×(List (Int×Int)))=>qgd_ (qgq_ (fun l least met t71 t72 t73 m=>self (l,least,met,t71,t72,t73,m))) (qgr_) (fun l least met t71 t72 t73 m=>self (l,least,met,t71,t72,t73,m)) s.1 s.2.1 s.2.2.1 s.2.2.2.1 s.2.2.2.2.1 s.2.2.2.2.2.1 s.2.2.2.2.2.2) 18446744073709551616 (l,least,met,t71,t72,t73,m)
def qgu_ (l:zF2) (ok:Bool) (least:Int) (m:zF1):Option (As [.bool]):=qgc_ (qgz_) l ok least m
def qgk_ (have':List Bool) (l:zF2) (ok:Bool) (runs least t42 t43:Int) (m:zF1):Option (As [.bool]) :=
 loopF (fun (self:(List Bool)×(List (Int×List Int))×(Bool)×(Int)×(Int)×(Int)×(Int)×(List (Int×Int))->Option (As [.bool])) (s:(List Bool)×(List (Int×List Int))×(Bool)×(Int)×(Int)×(Int)×(Int)×(List (Int×Int)))=>qgg_ (qgt_ (fun have' l ok runs least t42 t43 m=>self (have',l,ok,runs,least,t42,t43,m))) (qgu_) (fun have' l ok runs least t42 t43 m=>self (have',l,ok,runs,least,t42,t43,m)) s.1 s.2.1 s.2.2.1 s.2.2.2.1 s.2.2.2.2.1 s.2.2.2.2.2.1 s.2.2.2.2.2.2.1 s.2.2.2.2.2.2.2) 18446744073709551616 (have',l,ok,runs,least,t42,t43,m)
def qga_ (w:List Int) (is':List Bool) (words:List Int) (have':List Bool):Option (As [.bool]):=qgo_ (qgk_) w is' words have'
def qsy_ (x:As [.sl (.int .u16),.sl .bool]):Option (As [.bool]):=qgw_ qga_ x.1 x.2.1
end Go.Proofs.Lx
end
section
set_option maxRecDepth 100000
namespace Go.Proofs.Lx
open Go Go.Proofs Go.RowKit Ev Sx Pl
def dS0 (m:zF1):St:={ fr:=[(0,.d (.mp kT uT) m)],nt:=74,up:=[],own:=[],nx:=1,log:=[],ln:=1 }
def qq_ (m:zF1) (c:SV) (ok b:Bool) (xs:List Bk) (a:Int) (ws:List Int):List (Nat×Ent) :=
 [(1,.box 24 [.d (.mp kT uT) m]),(2,.box 26 [c]),(3,.box 4 [.d .bool ok]),(4,.box 24 [.d (.mp kT uT) m]),(5,.box 26 [.row 6]),(6,.rowo bT 31 b xs [.d kT a,.row 7]),(7,.row uT 32 ws)]
def d_bkSt (fr:Fr) (ln:Nat) (m:zF1) (c:SV) (ok b:Bool) (xs:List Bk) (a:Int) (ws:List Int):St :=
 {fr:=fr,nt:=74,up:=[],own:=qq_ m c ok b xs a ws,nx:=8,log:=[],ln:=ln }
def d_bkS1 (m:zF1):St :=
 {fr:=[(1,.pb 1 0),(2,.pb 2 0),(3,.pb 3 0)],nt:=74,up:=[],own:=[(1,.box 24 [.d (.mp kT uT) m]),(2,.box 26 [nilV]),(3,.box 4 [.d .bool false])],nx:=4,log:=[],ln:=1 }
def d_bkS3 (m:zF1):St :=
 {fr:=[(1,.pb 1 0),(2,.pb 2 0),(3,.pb 3 0),(4,.pb 4 0)],nt:=74,up:=[],own:=[(1,.box 24 [.d (.mp kT uT) m]),(2,.box 26 [nilV]),(3,.box 4 [.d .bool false]),(4,.box 26 [nilV])],nx:=5,log:=[],ln:=1 }
theorem d_p1_eq (m:zF1):evN bkEnv bkNo hA bk1 (dS0 m)=some (.n,d_bkS1 m):=by kernel_rfl
theorem d_p2_eq (m:zF1):evN bkEnv bkNo hA bk2 (d_bkS1 m)=if gt (Int.ofNat m.length) 64=true then some (.r,d_bkS1 m) else some (.n,d_bkS1 m):=by kernel_rfl
theorem d_p3_eq (m:zF1):evN bkEnv bkNo hB bk3 (d_bkS1 m)=some (.n,d_bkS3 m):=by kernel_rfl
theorem d_p4_eq (m:zF1):evN bkEnv bkNo hR bk4 (d_bkS3 m)=some (.n,d_bkSt bkFr 1 m nilV false false [] 0 []):=by kernel_rfl
def d_bkRet (m:zF1) (b:Bool) (xs:List Bk) (a:Int) (ws:List Int):Option (Ex×St):=some (.r,d_bkSt bkFr 6 m nilV false b xs a ws)
def d_bkPush (m:zF1) (b:Bool) (xs:List Bk) (a:Int) (ws:List Int) (z:Int):Option (Ex×St) :=
 if eqi (bkL b xs) 8=true then d_bkRet m b xs a ws else
  need (small ((bkX b xs a ws).length + 1)) (need (eqi (add .i64 (sub .i64 (bkL b xs) 1) 1) (Int.ofNat (bkX b xs a ws).length)) (need (eqi (add .i64 (sub .i64 (bkL b xs) 1) 1) (Int.ofNat (bkX b xs a ws).length))
   (need (small (0 + Nat.succ 0)) (need (eqi (add .i64 (sub .i64 (bkL b xs) 1) 1) (Int.ofNat (bkX b xs a ws).length)) (need (eqi (add .i64 (sub .i64 (bkL b xs) 1) 1) (Int.ofNat (bkX b xs a ws).length))
    (some (.n,d_bkSt bkFr 6 m nilV false true (bkX b xs a ws) z [bkV m z])))))))
def d_n1 (b:Bool) (xs:List Bk) (k:Option (Ex×St)):Option (Ex×St):=need b (need (eqi (sub .i64 (bkL b xs) 1) (Int.ofNat xs.length)) k)
def d_bkM (m:zF1) (b:Bool) (xs:List Bk) (a:Int) (ws:List Int) (z:Int):Option (Ex×St) :=
 if lt z 0=true then d_bkRet m b xs a ws else
 if ge z 64=true then d_bkRet m b xs a ws else
 if lt (sub .i64 (bkL b xs) 1) 0=true then d_bkPush m b xs a ws z else
 d_n1 b xs (d_n1 b xs (d_n1 b xs (d_n1 b xs (
 if nei z (add .i64 a (Int.ofNat ws.length))=true then d_bkPush m b xs a ws z else
 d_n1 b xs (d_n1 b xs (
 if eqi (Int.ofNat ws.length) 14=true then d_bkPush m b xs a ws z else
 d_n1 b xs (d_n1 b xs (need (small (ws.length + Nat.succ 0)) (d_n1 b xs (d_n1 b xs (some (.n,d_bkSt bkFr 6 m nilV false true xs a (ws++[bkV m z])))))))))))))
theorem d_pB_eq (m:zF1) (b:Bool) (xs:List Bk) (a:Int) (ws:List Int) (z:Int) :
  evN bkEnv bkNo hR bkB (d_bkSt ((5,.d kT z)::bkFr) 6 m nilV false b xs a ws)=d_bkM m b xs a ws z:=by kernel_rfl
theorem d_push_eq {m:List (Int×Int)} {b:Bool} {xs:List Bk} {a:Int} {ws:List Int} {z:Int} (hL:bkL b xs=((bkX b xs a ws).length:Int)) (h8:(bkX b xs a ws).length≤8) :
  d_bkPush m b xs a ws z=if (bkX b xs a ws).length=8 then d_bkRet m b xs a ws else some (.n,d_bkSt bkFr 6 m nilV false true (bkX b xs a ws) z [bkV m z]):=by
 have e1:eqi (add .i64 (sub .i64 (bkL b xs) 1) 1) (Int.ofNat (bkX b xs a ws).length)=true:=by
  rw [hL,sub64 (by omega) (by omega),add64 (by omega) (by omega),q9_]
  show _=((bkX b xs a ws).length:Int)
  omega
 unfold d_bkPush
 by_cases h:(bkX b xs a ws).length=8
 ·rw [if_pos (by rw [q9_,hL]; omega),if_pos h]
 ·rw [if_neg (by rw [q9_,hL]; omega),if_neg h,qk_ (small_iff.2 (by omega)),qk_ e1,qk_ e1,qk_ (by decide),qk_ e1,qk_ e1]
theorem d_n1_eq {xs:List Bk} {k:Option (Ex×St)} (h:xs.length≤8):d_n1 true xs k=k:=by
 unfold d_n1
 rw [qk_ rfl,qk_]
 rw [q9_]
 show sub .i64 ((xs.length + 1:Nat):Int) 1=(xs.length:Int)
 rw [sub64 (by omega) (by omega)]
 omega
theorem d_bk_spec {m:List (Int×Int)} {b:Bool} {xs:List Bk} {a:Int} {ws:List Int} (h:BkI b xs a ws) (z:Int) :
  (bkStep m (bkX b xs a ws) z=none∧d_bkM m b xs a ws z=d_bkRet m b xs a ws) ∨
  ∃ xs' a' ws',bkStep m (bkX b xs a ws) z=some (bkX true xs' a' ws')∧d_bkM m b xs a ws z=some (.n,d_bkSt bkFr 6 m nilV false true xs' a' ws')∧BkI true xs' a' ws':=by
 have h8:=h.len
 by_cases h1:z < 0
 ·exact .inl ⟨by unfold bkStep; rw [if_pos (.inl h1)],by unfold d_bkM; rw [if_pos (q0_.2 h1)]⟩
 by_cases h2:64≤z
 ·exact .inl ⟨by unfold bkStep; rw [if_pos (.inr h2)],by unfold d_bkM; rw [if_neg (by rw [q0_]; exact h1),if_pos (ge_iff.2 h2)]⟩
 have hm:∀ k,d_bkM m b xs a ws z=k->d_bkM m b xs a ws z=k:=fun _ h=>h
 cases b with
 | false =>
  obtain rfl:=h.emp rfl
  refine .inr ⟨[],z,[bkV m z],?_,?_,⟨(fun h=>by cases h),by show (1:Nat)≤8; decide,fun _=>⟨by omega,by omega,by simp,by simp⟩⟩⟩
  ·unfold bkStep
   rw [if_neg (by omega)]
   rfl
  ·unfold d_bkM
   rw [if_neg (by rw [q0_]; exact h1),if_neg (by rw [ge_iff]; omega),if_pos (by decide),d_push_eq rfl h8,if_neg (by show ¬ (0:Nat)=8; decide)]
   rfl
 | true =>
  obtain ⟨r1,r2,r3,r4⟩:=h.rng rfl
  have hl:(bkX true xs a ws).length=xs.length + 1:=by simp [bkX]
  have hX:(bkX true xs a ws).getLast? = some (a,ws):=by simp [bkX]
  have hD:(bkX true xs a ws).dropLast=xs:=by simp [bkX]
  have hx8:xs.length≤7:=by omega
  have hpush:=d_push_eq (m:=m) (z:=z) (b:=true) (xs:=xs) (a:=a) (ws:=ws) (by rw [hl]; rfl) h8
  have hst:bkStep m (bkX true xs a ws) z=if z ≠ a + (ws.length:Int)∨ws.length=14 then (if (bkX true xs a ws).length=8 then none else some (bkX true xs a ws++[(z,[bkV m z])])) else some (xs++[(a,ws++[bkV m z])]):=by
   unfold bkStep
   rw [if_neg (by omega),hX,hD]
  have hM:d_bkM m true xs a ws z=if z ≠ a + (ws.length:Int)∨ws.length=14 then d_bkPush m true xs a ws z else some (.n,d_bkSt bkFr 6 m nilV false true xs a (ws++[bkV m z])):=by
   unfold d_bkM
   rw [if_neg (by rw [q0_]; exact h1),if_neg (by rw [ge_iff]; omega),if_neg (by
    rw [q0_]
    show ¬ sub .i64 ((xs.length + 1:Nat):Int) 1 < 0
    rw [sub64 (by omega) (by omega)]
    omega)]
   rw [d_n1_eq (by omega),d_n1_eq (by omega),d_n1_eq (by omega),d_n1_eq (by omega)]
   have ea:add .i64 a (Int.ofNat ws.length)=a + (ws.length:Int):=add64 (by show _≤a + (ws.length:Int); omega) (by show a + (ws.length:Int)≤_; omega)
   rw [ea]
   by_cases c1:z ≠ a + (ws.length:Int)
   ·rw [if_pos (qe_.2 c1),if_pos (.inl c1)]
   ·rw [if_neg (by rw [qe_]; exact c1),d_n1_eq (by omega),d_n1_eq (by omega)]
    by_cases c2:ws.length=14
    ·rw [if_pos (by rw [q9_,c2]; rfl),if_pos (.inr c2)]
    ·rw [if_neg (by rw [q9_]; show ¬ (ws.length:Int)=14; omega),if_neg (by omega),d_n1_eq (by omega),d_n1_eq (by omega),qk_ (small_iff.2 (by show ws.length + 1≤_; omega)),d_n1_eq (by omega),d_n1_eq (by omega)]
  rw [hst,hM]
  by_cases c:z ≠ a + (ws.length:Int)∨ws.length=14
  ·rw [if_pos c,if_pos c,hpush]
   by_cases c8:(bkX true xs a ws).length=8
   ·rw [if_pos c8,if_pos c8]
    exact .inl ⟨rfl,rfl⟩
   ·rw [if_neg c8,if_neg c8]
    exact .inr ⟨bkX true xs a ws,z,[bkV m z],rfl,rfl,⟨(fun h=>by cases h),by simp [bkX] at hl c8 ⊢; omega,fun _=>⟨by omega,by omega,by simp,by simp⟩⟩⟩
  ·rw [if_neg c,if_neg c]
   exact .inr ⟨xs,a,ws++[bkV m z],rfl,rfl,⟨(fun h=>by cases h),by simp [bkX]; omega,fun _=>⟨r1,r2,by simp,by simp; omega⟩⟩⟩
end Go.Proofs.Lx
end
section
set_option maxRecDepth 100000
namespace Go.Proofs.Lx
open Go Go.Proofs Go.RowKit Ev Sx Pl
theorem d_round {B0:Nat->Prop} {p0:List Ev.Place} {F:Lx} {pl:List Ev.Place} {m:List (Int×Int)} {b:Bool} {xs:List Bk} {a:Int} {ws:List Int} {W:World} {l:List Value} {fn:FuncId} {D lb:Nat} {x:Int}
  (hst:Sto B0 p0 F pl (qq_ m nilV false b xs a ws) W) (hpl:pl.length=8) (hs:Slots p0 l) (hI:BkI b xs a ws) (hr:W.heap[lb]? = some (.loop (bkRec fn l D .ready none))) (hlb:some lb ∈ F) (hlB:B0 lb) (hB:∀ k,W.heap.size≤k->B0 k) :
  YieldAt Fence.wide 0 Try.prog lb #[.int .i64 x] W fun e W'=>∃ pl' b' xs' a' ws',Sto B0 p0 F pl' (qq_ m nilV false b' xs' a' ws') W'∧pl'.length=8∧BkI b' xs' a' ws'∧Blw B0 W W'∧(∀ k,some k ∈ F->k ≠ lb->W'.heap[k]? = W.heap[k]?) ∧
   ((e = .returned (.bool true)∧bkStep m (bkX b xs a ws) x=some (bkX b' xs' a' ws')∧W'.heap[lb]? = some (.loop (bkRec fn l D .ready none))) ∨
    (e = .returned (.bool false)∧bkStep m (bkX b xs a ws) x=none∧W'.heap[lb]? = some (.loop (bkRec fn l D .done (some .ret))))):=by
 have hlt:lb < W.heap.size:=(Array.getElem?_eq_some_iff.1 hr).1
 have hy:=run_yield (P:=Try.prog) (args:=#[.int .i64 x]) hr rfl
 refine ⟨fn,_,bkA,bkB,hy,roundIn_of_wpIn trivial ?_⟩
 have he:((bkRec fn l D .ready none).params.zip #[Value.int .i64 x]).foldl (fun tmps (t,a)=>tmps.setIfInBounds t a) (bkRec fn l D .ready none).tmps=(l.set 12 (.int .i64 x)).toArray:=by
  simp [bkRec]
 rw [he]
 obtain ⟨l1,hl1⟩:∃ l1,l1=(l.set 12 (.int .i64 x)).set 5 (.int .i64 x):=⟨_,rfl⟩
 have hl1n:l1.length=74:=by rw [hl1,List.length_set,List.length_set,hs.len]
 have hl15:l1.getD 5 undef = .int .i64 x:=by
  rw [hl1,List.getD_eq_getElem?_getD,List.getElem?_set_self (by rw [List.length_set,hs.len]; decide)]
  rfl
 have hl1o:∀ t ∈ [1,2,3,11,4],l1.getD t undef=l.getD t undef:=fun t ht=>by
  have h5:5 ≠ t:=fun e=>by subst e; simp at ht
  have h12:12 ≠ t:=fun e=>by subst e; simp at ht
  rw [hl1,List.getD_eq_getElem?_getD,List.getElem?_set_ne h5,List.getElem?_set_ne h12,<- List.getD_eq_getElem?_getD]
 have hasg:CW Try.prog bkA (Exit.then (fun a₁ w₁=>a₁=mk l1∧w₁=W) (fun _ _ _=>False)) (l.set 12 (.int .i64 x)) W:=by
  obtain ⟨id,ty,pos,af,g,h1,rfl⟩:=bkA_eq
  rw [h1]
  refine cw_region (ops:=[_]) (wl_val (v:=.int .i64 x) rfl (run_assign ?_) (wl_nil ⟨?_,rfl⟩))
  ·show (l.set 12 (.int .i64 x)).getD 12 undef=_
   rw [List.getD_eq_getElem?_getD,List.getElem?_set_self (by rw [hs.len]; decide)]
   rfl
  ·rw [hl1]
   rfl
 refine Code.wpIn_mono ?_ (hasg (some lb))
 rintro e a₁ w₁ hq
 cases e with
 | normal =>
  obtain ⟨rfl,rfl⟩:=hq
  refine ⟨_,run_beginRound hr rfl,?_⟩
  obtain ⟨W2,hW2⟩:∃ W2,w₁.putObj lb (.loop { bkRec fn l D .ready none with state:=.busy })=W2:=⟨_,rfl⟩
  rw [hW2]
  have hf2:Fz [some lb] w₁ W2:=by rw [<- hW2]; exact fz_putObj _ _ _
  have hr2:W2.heap[lb]? = some (.loop { bkRec fn l D .ready none with state:=.busy }):=by rw [<- hW2]; exact World.putObj_heap_same hlt
  have hst2:Sto B0 p0 F pl (qq_ m nilV false b xs a ws) W2:=hst.turn (hf2.sub fun k hk=>by simp at hk; subst hk; exact hlb)
  have hbo:∀ k,Bo pl (qq_ m nilV false b xs a ws) W2 k->B0 k:=fun k hk=>by
   rcases hk with hk | hk
   ·exact hst2.lo k hk
   ·exact hB k (Nat.le_trans hf2.size hk)
  have hfr:FrD pl (lx pl (qq_ m nilV false b xs a ws)++F) W2 ((5,.d kT x)::bkFr) l1:=qd_ (by rw [hl15]; exact ⟨[.int .i64 x],rfl,rfl⟩) (hs.fr hst.pre hl1o)
  have hspec:=d_bk_spec (m:=m) hI x
  have fin:∀ (e0:Ex) (b':Bool) (xs':List Bk) (a':Int) (ws':List Int) (pl':List Ev.Place) (W3:World) (jump:Option Code),pl'.length=8->Sto B0 p0 F pl' (qq_ m nilV false b' xs' a' ws') W3->Blw (Bo pl (qq_ m nilV false b xs a ws) W2) W2 W3 ->
    ∃ W4,(Instr.endRound lb jump).run Try.prog W3 = .ok (.bool jump.isNone) W4∧Sto B0 p0 F pl' (qq_ m nilV false b' xs' a' ws') W4∧Blw B0 w₁ W4∧(∀ k,some k ∈ F->k ≠ lb->W4.heap[k]? = w₁.heap[k]?)∧W4.heap[lb]? = some (.loop { bkRec fn l D .ready none with state:=if jump.isNone then .ready else .done,pending:=jump }):=by
   intro e0 b' xs' a' ws' pl' W3 jump hp' hst3 hb3
   have keep:∀ k,some k ∈ F->W3.heap[k]? = W2.heap[k]?:=fun k hk=>hb3.block k (hst2.far k hk).2 (fun hx=>by
    rcases hx with hx | hx
    ·exact (hst2.far k hk).1 hx
    ·have:=(hst2.far k hk).2; omega)
   have hr3:=(keep lb hlb).trans hr2
   have hlt3:=(Array.getElem?_eq_some_iff.1 hr3).1
   have hf4:=fz_putObj W3 lb (.loop { bkRec fn l D .ready none with state:=if jump.isNone then .ready else .done,pending:=jump })
   refine ⟨_,run_endRound jump hr3,hst3.turn (hf4.sub fun k hk=>by simp at hk; subst hk; exact hlb),?_,fun k hk hne=>?_,World.putObj_heap_same hlt3⟩
   ·exact ((blw_fz hf2 (fun k hk=>by simp at hk; subst hk; exact hlB)).trans (qf_ hb3 hbo)).trans (blw_fz hf4 (fun k hk=>by simp at hk; subst hk; exact hlB))
   ·have hklt:=(hst2.far k hk).2
    rw [hf4.block k (Nat.lt_of_lt_of_le hklt hb3.size) (by simp [hne]),keep k hk]
    exact hf2.block k (hst.far k hk).2 (by simp [hne])
  rcases hspec with ⟨h1,h2⟩ | ⟨xs',a',ws',h1,h2,h3⟩
  ·have hp:=q1i_ (S:=d_bkSt ((5,.d kT x)::bkFr) 6 m nilV false b xs a ws) (hint:=hR) (hs:=bkNo) (l:=l1) bkEnv_ok hbo hst2 rfl (show 8=pl.length by rw [hpl]) (show 6=p0.length by rw [hs.p]) hl1n hfr ((d_pB_eq m b xs a ws x).trans h2)
   refine Code.wpIn_mono ?_ (hp (some lb))
   rintro e a3 W3 ⟨pl',l',rfl,rfl,_,hp',hst3,_,hb3⟩
   obtain ⟨W4,q1,q2,q3,q4,q5⟩:=fin .r b xs a ws pl' W3 (some .ret) hp' hst3 hb3
   exact ⟨_,W4,q1,pl',b,xs,a,ws,q2,hp',hI,q3,q4,.inr ⟨rfl,h1,q5⟩⟩
  ·have hp:=q1i_ (S:=d_bkSt ((5,.d kT x)::bkFr) 6 m nilV false b xs a ws) (hint:=hR) (hs:=bkNo) (l:=l1) bkEnv_ok hbo hst2 rfl (show 8=pl.length by rw [hpl]) (show 6=p0.length by rw [hs.p]) hl1n hfr ((d_pB_eq m b xs a ws x).trans h2)
   refine Code.wpIn_mono ?_ (hp (some lb))
   rintro e a3 W3 ⟨pl',l',rfl,rfl,_,hp',hst3,_,hb3⟩
   obtain ⟨W4,q1,q2,q3,q4,q5⟩:=fin .n true xs' a' ws' pl' W3 none hp' hst3 hb3
   exact ⟨_,W4,q1,pl',true,xs',a',ws',q2,hp',h3,q3,q4,.inl ⟨rfl,h1,q5⟩⟩
 | exit id=>exact hq
 | goto t=>exact hq
 | ret=>exact hq
 | panic c=>exact hq
 | outgrown=>exact hq
theorem d_tail_wp {B0:Nat->Prop} {p0:List Ev.Place} {F:Lx} {pl:List Ev.Place} {m:List (Int×Int)} {b:Bool} {xs:List Bk} {a:Int} {ws:List Int} {W:World} {l:List Value} {ds:List Deferred} {Q:Exit->Act->World->Prop}
  (hst:Sto B0 p0 F pl (qq_ m nilV false b xs a ws) W) (hpl:pl.length=8) (hs:Slots p0 l) (hB:∀ k,W.heap.size≤k->B0 k)
  (hQ:∀ W' l',Sto B0 p0 F pl (qq_ m (.row 6) true b xs a ws) W'->Slots p0 l'->Blw B0 W W'->(∀ k,some k ∈ F->W'.heap[k]? = W.heap[k]?)->Q .ret ⟨l'.toArray,ds⟩ W') :
  bkT.wpIn Fence.wide 2 Try.prog Q ⟨l.toArray,ds⟩ W:=by
 obtain ⟨id,o1,o2,o3,h0,h1,h2,h3⟩:=bkT_eq
 rw [h0]
 obtain ⟨g5,n5,c5,us5,q1,q2,⟨v5,r5,rfl,⟨p6,q4,rfl⟩,rfl⟩,q6⟩:=hst.ent (5,.box 26 [.row 6]) (by simp [qq_])
 obtain ⟨g2,n2,c2,us2,t1,t2,⟨v2,r2,rfl,t3,rfl⟩,t4⟩:=hst.ent (2,.box 26 [nilV]) (by simp [qq_])
 obtain ⟨g3,n3,c3,us3,u1,u2,⟨v3,r3,rfl,u3,rfl⟩,u4⟩:=hst.ent (3,.box 4 [.d .bool false]) (by simp [qq_])
 have pinj:∀ {i:Nat} {g n c g' n' c'},p0[i]? = some ⟨some ⟨g,0,none⟩,n,c⟩->pl[i]? = some ⟨some ⟨g',0,none⟩,n',c'⟩->g=g':=fun h h'=>by
  have:=hst.pre _ _ h
  rw [this] at h'
  cases h'
  rfl
 obtain ⟨g,n,c,e1,e2⟩:=hs.s4
 obtain rfl:=pinj e1 q1
 obtain ⟨g',n',c',e3,e4⟩:=hs.s2
 obtain rfl:=pinj e3 t1
 obtain ⟨g'',n'',c'',e5,e6⟩:=hs.s3
 obtain rfl:=pinj e5 u1
 refine wpIn_seq (wpIn_region_lit (l:=[o1,o2,o3]) ?_)
 rw [h1,h2,h3]
 have hv:(l.set 73 (.slice p6.a p6.n p6.c)).getD 73 undef = .slice p6.a p6.n p6.c:=by
  rw [List.getD_eq_getElem?_getD,List.getElem?_set_self (by rw [hs.len]; decide)]
  rfl
 have hoth:∀ t,t ≠ 73->(l.set 73 (.slice p6.a p6.n p6.c)).getD t undef=l.getD t undef:=fun t ht=>by
  rw [List.getD_eq_getElem?_getD,List.getElem?_set_ne (fun e=>ht e.symm),<- List.getD_eq_getElem?_getD]
 have hs':Slots p0 (l.set 73 (.slice p6.a p6.n p6.c)):=⟨by rw [List.length_set]; exact hs.len,hs.p,by rw [hoth 1 (by decide)]; exact hs.s1,by rw [hoth 2 (by decide)]; exact hs.s2,by rw [hoth 3 (by decide)]; exact hs.s3,by rw [hoth 11 (by decide)]; exact hs.s11,by rw [hoth 4 (by decide)]; exact hs.s4⟩
 refine wld_val (dd:=73) rfl rfl (run_load_box1 (cs:=[.slice p6.a p6.n p6.c]) (T:=26) (dd:=.slice 31) (by kernel_rfl) rfl e2 q2 rfl) ?_
 obtain ⟨W1,w1,w2,w3,w4⟩:=run_store_box (P:=Try.prog) (l:=l.set 73 (.slice p6.a p6.n p6.c)) (w:=W) (d:=none) (ty:=o2.type) (pos:=o2.pos) (af:=o2.after) (gd:=none) (t:=26) (x:=.tmp 2) (y:=.tmp 73) (g:=g') (j:=0) (n:=1) (vs:=[.slice p6.a p6.n p6.c]) (by kernel_rfl) ((hoth 2 (by decide)).trans e4) hv rfl rfl (by simp [Value.oneCell']) t2 (by simp)
 refine wld_skip rfl rfl w1 ?_
 have hst1:Sto B0 p0 F pl (qq_ m (.row 6) false b xs a ws) W1:=hst.put hB (by rw [hpl,hs.p]; decide) (i:=2) (e:=.box 26 [nilV]) (e':=.box 26 [.row 6]) rfl (by unfold plb; rw [t1]; exact w3) ⟨g',n2,c2,[.slice p6.a p6.n p6.c],t1,by simpa using w4,⟨_,[],rfl,⟨p6,q4,rfl⟩,rfl⟩,by simp [Value.oneCell']⟩
 have hg3:g'' ≠ g':=fun e=>by
  subst e
  have:=hst.pair
  simp [qq_,lx,plb,t1,u1,blk] at this
 have u2':Bx W1 g'' [v3] 4:=u2.step w3 (by simp [hg3])
 obtain ⟨W2,x1,x2,x3,x4⟩:=run_store_box (P:=Try.prog) (l:=l.set 73 (.slice p6.a p6.n p6.c)) (w:=W1) (d:=none) (ty:=o3.type) (pos:=o3.pos) (af:=o3.after) (gd:=none) (t:=4) (x:=.tmp 3) (y:=.const (.bool true)) (g:=g'') (j:=0) (n:=1) (vs:=[.bool true]) (by kernel_rfl) ((hoth 3 (by decide)).trans e6) rfl rfl rfl (by simp [Value.oneCell']) u2' (by simp)
 refine wld_skip rfl rfl x1 ?_
 have hst2:Sto B0 p0 F pl (qq_ m (.row 6) true b xs a ws) W2:=hst1.put (fun k hk=>hB k (by rw [w2] at hk; exact hk)) (by rw [hpl,hs.p]; decide) (i:=3) (e:=.box 4 [.d .bool false]) (e':=.box 4 [.d .bool true]) rfl (by unfold plb; rw [u1]; exact x3) ⟨g'',n3,c3,[.bool true],u1,by simpa using x4,⟨_,[],rfl,⟨[.bool true],rfl,rfl⟩,rfl⟩,by simp [Value.oneCell']⟩
 have m2:some g' ∈ lx pl (qq_ m nilV false b xs a ws):=by
  have:=own_mem (pl:=pl) (own:=qq_ m nilV false b xs a ws) (e:=(2,.box 26 [nilV])) (by simp [qq_])
  unfold plb at this
  rw [t1] at this
  exact this
 have m3:some g'' ∈ lx pl (qq_ m nilV false b xs a ws):=by
  have:=own_mem (pl:=pl) (own:=qq_ m nilV false b xs a ws) (e:=(3,.box 4 [.d .bool false])) (by simp [qq_])
  unfold plb at this
  rw [u1] at this
  exact this
 refine wpListIn_nil (wpIn_ret (hQ W2 _ hst2 hs' ?_ fun k hk=>?_))
 ·exact (blw_fz w3 (fun k hk=>by simp at hk; subst hk; exact hst.lo _ m2)).trans (blw_fz x3 (fun k hk=>by simp at hk; subst hk; exact hst.lo _ m3))
 ·have hk2:=hst.far k hk
  rw [x3.block k (by rw [w2]; exact hk2.2) (fun e=>by simp at e; subst e; exact hk2.1 m3),w3.block k hk2.2 (fun e=>by simp at e; subst e; exact hk2.1 m2)]
end Go.Proofs.Lx
end
section
set_option maxRecDepth 100000
namespace Go.Proofs.Lx
open Go Go.Proofs Go.RowKit Ev Sx Pl
theorem d_n1_fin (m:zF1):∃ S1,nrm Try.prog ⟨[.frb 2],[2,3]⟩ (d_bkS1 m)=some S1∧resK Try.prog S1 Try.f8.results.toList (fun ss=>some ss)=some [.d (.sl bT) [],.d .bool false]:=by
 refine ⟨{ fr:=[(2,.pb 1 0),(3,.pb 2 0)],nt:=74,up:=[],own:=[(1,.box 26 [.d (.sl bT) []]),(2,.box 4 [.d .bool false])],nx:=3,log:=[],ln:=1 },by kernel_rfl,by kernel_rfl⟩
theorem d_n2_fin (m:zF1) (b:Bool) (xs:List Bk) (a:Int) (ws:List Int):∃ S1,nrm Try.prog ⟨[.frb 2],[2,3]⟩ (d_bkSt bkFr 6 m nilV false b xs a ws)=some S1∧resK Try.prog S1 Try.f8.results.toList (fun ss=>some ss)=some [.d (.sl bT) [],.d .bool false]:=by
 refine ⟨{ fr:=[(2,.pb 2 0),(3,.pb 3 0)],nt:=74,up:=[],own:=[(1,.box 24 [.d (.mp kT uT) m]),(2,.box 26 [.d (.sl bT) []]),(3,.box 4 [.d .bool false]),(4,.box 24 [.d (.mp kT uT) m]),(5,.box 26 [.row 6]),(6,.rowo bT 31 b xs [.d kT a,.row 7]),(7,.row uT 32 ws)],nx:=8,log:=[],ln:=6 },by kernel_rfl,by kernel_rfl⟩
theorem d_n3_fin (m:zF1) (b:Bool) (xs:List Bk) (a:Int) (ws:List Int):∃ S1,nrm Try.prog ⟨[.frb 2],[2,3]⟩ (d_bkSt bkFr 6 m (.row 6) true b xs a ws)=some S1∧resK Try.prog S1 Try.f8.results.toList (fun ss=>some ss)=some [.d (.sl bT) (bkX b xs a ws),.d .bool true]:=by
 refine ⟨{ fr:=[(2,.pb 2 0),(3,.pb 3 0)],nt:=74,up:=[],own:=[(1,.box 24 [.d (.mp kT uT) m]),(2,.box 26 [.d (.sl bT) (bkX b xs a ws)]),(3,.box 4 [.d .bool true]),(4,.box 24 [.d (.mp kT uT) m]),(5,.box 26 [.d (.sl bT) (bkX b xs a ws)])],nx:=6,log:=[],ln:=6 },by kernel_rfl,by kernel_rfl⟩
def dmP:Ev.Place:=⟨none,0,0⟩
@[reducible] def q21_:Ev.Sh:=⟨[.d (.mp (.int .i64) (.int .u16))],[],[.mp (.int .i64) (.int .u16)],[.d (.sl (.pr (.int .i64) (.sl (.int .u16)))),.d .bool],[],0,[.sl (.pr (.int .i64) (.sl (.int .u16))),.bool]⟩
def q6f_ (x:As q21_.ps):Option (As q21_.rs):=if (show List (Int×Int) from x.1).all keyOk=true then some ((bkRes x.1).1,(bkRes x.1).2,()) else none
theorem d_fin_after {F F':Lx} {w0 W:World} {pl':List Ev.Place} {own':List (Nat×Ent)} {L:List Bk} {ok:Bool} {us:List Value}
  (hL:LOk (Bo [] [] w0) (lx [] []) F w0) (hF:∀ k,some k ∈ F->some k ∈ F') (hB:Blw (Bo [] [] w0) w0 W)
  (hd:DenL pl' (lx pl' own'++F') W [.d (.sl bT) L,.d .bool ok] us):After q21_ (L,ok,()) F w0 [] [] W us:=by
 have hsub:∀ k,some k ∈ lx [] []++F->some k ∈ lx pl' own'++F':=fun k hk=>List.mem_append_right _ (hF k (by simpa [lx] using hk))
 refine ⟨[],[.d (.sl bT) L,.d .bool ok],[],rfl,fun _ _ h=>h,rfl,hB,⟨hL.pair,hL.lo,(fun k hk=>by cases hk),hL.baseS hB.size,hL.farS hB.size⟩,(fun e he=>by cases he),?_⟩
 obtain ⟨v,q,h1,⟨cs,h2,h3⟩,v',q',h4,⟨cs',h5,h6⟩,h7⟩:=hd
 exact ⟨v,q,h1,⟨cs,Rp.grow _ h2 (sub_of hsub),h3⟩,v',q',h4,⟨cs',Rp.grow _ h5 (sub_of hsub),h6⟩,h7⟩
theorem qiq_ {I:World->Prop}:CtOk Try.prog I 8 ⟨q21_,q6f_⟩:=by
 intro F w0 pl0 x y ss own vs hx hA hpl hI0 hL hE hD
 obtain ⟨m,u0⟩:=x
 have hx:(if m.all keyOk=true then some ((bkRes m).1,(bkRes m).2,()) else none)=some y:=hx
 split at hx
 case isFalse=>cases hx
 rename_i hkeys
 cases hx
 have hA:some ([SV.d (.mp kT uT) m],[])=some (ss,own):=hA
 cases hA
 have hpl:pl0.length=0:=hpl
 obtain rfl:=List.eq_nil_of_length_eq_zero hpl
 obtain ⟨u,q,rfl,⟨cs0,⟨g,mv,rfl,hg1,hg2,hgm,hgd⟩,hu⟩,rfl⟩:=hD
 have hu:u = .map (some g):=hu
 subst hu
 obtain ⟨B0,hB0⟩:∃ B0,B0=Bo [] [] w0:=⟨_,rfl⟩
 have hst0:Sto B0 [dmP] F [dmP] [] w0:=by
  subst hB0
  exact ⟨List.Pairwise.nil,(fun k hk=>by cases hk),(fun k hk=>by cases hk),fun k hk=>⟨(fun hx=>by cases hx),(hL.far k hk).2⟩,fun _ _ h=>h,(fun e he=>by cases he)⟩
 have hbase:∀ k,w0.heap.size≤k->B0 k:=fun k hk=>by subst hB0; exact .inr hk
 have hbo:∀ {p1:List Ev.Place} {F1:Lx} {pl:List Ev.Place} {own:List (Nat×Ent)} {w:World},w0.heap.size≤w.heap.size->Sto B0 p1 F1 pl own w->∀ k,Bo pl own w k->B0 k:=fun hs hst k hk=>by
  rcases hk with hk | hk
  ·exact hst.lo k hk
  ·exact hbase k (Nat.le_trans hs hk)
 refine (callsIn_wide (n:=2)).1 ?_
 refine callsIn_of_wp_marks Try.func8 bk_eq trivial ?_ rfl
 obtain ⟨l0,hl0⟩:∃ l0:List Value,l0 = .map (some g)::List.replicate 73 undef:=⟨_,rfl⟩
 have hact:(⟨[Value.map (some g)].toArray++Array.replicate (Try.f8.ntmps - [Value.map (some g)].toArray.size) undef,[]⟩:Act)=mk l0:=by
  subst hl0
  show (⟨[Value.map (some g)].toArray++Array.replicate 73 undef,[]⟩:Act)=mk (.map (some g)::List.replicate 73 undef)
  simp [mk]
 rw [hact]
 generalize hR:(fun (e:Ending) (w':World)=>∃ us,e = .returned (retV us)∧After q21_ ((bkRes m).1,(bkRes m).2,()) F w0 [] [] w' us)=R
 have hRe:∀ {W:World} {us:List Value},After q21_ ((bkRes m).1,(bkRes m).2,()) F w0 [] [] W us->R (.returned (retV us)) W:=fun h=>by subst hR; exact ⟨_,rfl,h⟩
 have hfr0:FrD [dmP] (lx [dmP] []++F) w0 [(0,.d (.mp kT uT) m)] l0:=qd_ (by subst hl0; exact ⟨[.map (some g)],⟨g,mv,rfl,by simpa [lx] using hg1,hg2,hgm,hgd⟩,rfl⟩) frD_nil
 have r1:=q1i_ (S:=dS0 m) (l:=l0) bkEnv_ok (hbo (Nat.le_refl _) hst0) hst0 rfl rfl rfl (by subst hl0; rfl) hfr0 (d_p1_eq m)
 refine wpIn_seq (Code.wpIn_mono ?_ (cw_wide r1 2))
 rintro e a w1 ⟨pl1,l1,rfl,rfl,hl1,hn1,st1,fr1,bl1⟩
 have bw1:Blw B0 w0 w1:=qf_ bl1 (hbo (Nat.le_refl _) hst0)
 refine wpIn_seq ?_
 by_cases hlen:m.length > 64
 ·-- too many
  have r2:=q1i_ (S:=d_bkS1 m) (l:=l1) bkEnv_ok (hbo bw1.size st1) st1 rfl hn1.symm rfl hl1 fr1 ((d_p2_eq m).trans (if_pos (by simp [gt]; omega)))
  refine Code.wpIn_mono ?_ (cw_wide r2 2)
  rintro e a w2 ⟨pl2,l2,rfl,rfl,hl2,hn2,st2,fr2,bl2⟩
  have bw2:Blw B0 w0 w2:=bw1.trans (qf_ bl2 (hbo bw1.size st1))
  obtain ⟨S1,z1,z3⟩:=d_n1_fin m
  obtain ⟨pl',us,z4,z5,z6⟩:=fin_res (S:=d_bkS1 m) (hbo bw2.size st2) st2 rfl hn2.symm rfl hl2 fr2 z1 z3
  refine z6 R (hRe ?_)
  have:bkRes m=([],false):=by unfold bkRes; rw [if_pos hlen]
  rw [this]
  subst hB0
  exact d_fin_after hL (fun _ h=>h) bw2 z5
 have r2:=q1i_ (S:=d_bkS1 m) (l:=l1) bkEnv_ok (hbo bw1.size st1) st1 rfl hn1.symm rfl hl1 fr1 ((d_p2_eq m).trans (if_neg (by simp [gt]; omega)))
 refine Code.wpIn_mono ?_ (cw_wide r2 2)
 rintro e a w2 ⟨pl2,l2,rfl,rfl,hl2,hn2,st2,fr2,bl2⟩
 have bw2:Blw B0 w0 w2:=bw1.trans (qf_ bl2 (hbo bw1.size st1))
 have r3:=q1i_ (S:=d_bkS1 m) (l:=l2) bkEnv_ok (hbo bw2.size st2) st2 rfl hn2.symm rfl hl2 fr2 (d_p3_eq m)
 refine wpIn_seq (Code.wpIn_mono ?_ (cw_wide r3 2))
 rintro e a w3 ⟨pl3,l3,rfl,rfl,hl3,hn3,st3,fr3,bl3⟩
 have bw3:Blw B0 w0 w3:=bw2.trans (qf_ bl3 (hbo bw2.size st2))
 have r4:=q1i_ (S:=d_bkS3 m) (l:=l3) bkEnv_ok (hbo bw3.size st3) st3 rfl hn3.symm rfl hl3 fr3 (d_p4_eq m)
 refine wpIn_seq (wpIn_seq (Code.wpIn_mono ?_ (cw_wide r4 2)))
 rintro e a w4 ⟨pl4,l4,rfl,rfl,hl4,hn4,st4,fr4,bl4⟩
 have bw4:Blw B0 w0 w4:=bw3.trans (qf_ bl4 (hbo bw3.size st3))
 have hn4:pl4.length=8:=hn4
 have hl4:l4.length=74:=hl4
 obtain ⟨p0,hp0e⟩:∃ p0,p0=pl4.take 6:=⟨_,rfl⟩
 have hp0l:p0.length=6:=by rw [hp0e,List.length_take]; omega
 have hp0p:∀ (i:Nat) (p:Ev.Place),p0[i]? = some p->pl4[i]? = some p:=fun i p h=>by
  rw [hp0e] at h
  have hi:=(List.getElem?_eq_some_iff.1 h).1
  rw [List.length_take] at hi
  rw [List.getElem?_take_of_lt (by omega)] at h
  exact h
 have hp0b:∀ (i:Nat) (p:Ev.Place),i < 6->pl4[i]? = some p->p0[i]? = some p:=fun i p hi h=>by rw [hp0e,List.getElem?_take_of_lt hi]; exact h
 have dpb:∀ {t i:Nat},i < 6->Ev.get bkFr t=some (.pb i 0)->Den p0 [] default (.pb i 0) (l4.getD t undef):=fun hi hg=>by
  obtain ⟨a,b,c,h1,h2⟩:=fr4 _ _ hg
  exact ⟨a,b,c,hp0b _ _ hi h1,h2⟩
 have hs:Slots p0 l4:=⟨hl4,hp0l,dpb (by decide) rfl,dpb (by decide) rfl,dpb (by decide) rfl,by
  obtain ⟨us,vs,h1,⟨v,q,h2,⟨a,b,c,h3,h4⟩,h5⟩,h6⟩:=fr4 11 _ rfl
  exact ⟨us,vs,h1,⟨v,q,h2,⟨a,b,c,hp0b _ _ (by decide) h3,h4⟩,h5⟩,h6⟩,dpb (by decide) rfl⟩
 obtain ⟨Bm,nm,cm,us,b1,b2,⟨v,r,rfl,⟨cs4,⟨g',vs,rfl,e1,e5,e2,e3⟩,rfl⟩,rfl⟩,b4⟩:=st4.ent (4,.box 24 [.d (.mp kT uT) m]) (by simp [d_bkSt,qq_])
 have e3:=DmD.iff.1 e3
 have hvk:=dm_keys e3
 have hvl:vs.length=m.length:=by have:=congrArg List.length hvk; simpa using this
 have hvr:∀ e ∈ vs,inR e.1:=fun e he=>by
  have h1:e.1 ∈ m.map (·.1):=by rw [<- hvk]; exact List.mem_map_of_mem (f:=fun x:Int×Value=>x.1) he
  obtain ⟨e',h2,h3⟩:=List.mem_map.1 h1
  rw [<- h3]
  exact keyOk_iff.1 (List.all_eq_true.1 hkeys e' h2)
 have hf11:(mk l4).eval (.tmp 11) = .func (.func 40) #[] #[.pointer (some ⟨Bm,0,none⟩)]:=by
  rw [eval_mk]
  obtain ⟨us,vs,h1,⟨v,q,h2,⟨a,b,c,h3,h4⟩,h5⟩,h6⟩:=fr4 11 _ rfl
  rw [b1] at h3
  cases h3
  cases h1
  cases h5
  subst h2 h4
  exact h6
 refine wpIn_block (wpIn_rangeFunc ?_)
 intro fn hfn
 obtain ⟨W1,hW1⟩:∃ W1,(w4.alloc (.deferred (some []))).alloc (.loop (bkRec fn l4 w4.heap.size .ready none))=W1:=⟨_,rfl⟩
 have hs1:W1.heap.size=w4.heap.size + 2:=by rw [<- hW1]; simp
 have hfz1:Fz [] w4 W1:=by rw [<- hW1]; exact (Fz.alloc _ _ _).trans (Fz.alloc _ _ _)
 have hD1:W1.heap[w4.heap.size]? = some (.deferred (some [])):=by
  rw [<- hW1]; exact (Below.heap_alloc _ _ _ (by simp)).trans (World.alloc_heap_new w4 _)
 have hr1:W1.heap[w4.heap.size + 1]? = some (.loop (bkRec fn l4 w4.heap.size .ready none)):=by
  rw [<- hW1]; have:=World.alloc_heap_new (w4.alloc (.deferred (some []))) (.loop (bkRec fn l4 w4.heap.size .ready none)); rwa [World.size_alloc] at this
 have hmap1:MapIs (keyV (.int .i64)) (fun v:Value=>v) W1 g' vs:=by
  have hlt:=e2.lt
  obtain ⟨es,cl,a,b,c⟩:=e2
  exact ⟨es,cl,(hfz1.block _ hlt nilN).trans a,b,c⟩
 have hcell1:W1.cell? ⟨Bm,0,none⟩=some (.map (some g')):=(b2.step hfz1 nilN).cell rfl
 have hkeys2:sorted (vs.map (·.1))=sorted (m.map (·.1)):=by rw [hvk]
 refine ⟨w4.heap.size + 1,[{ target:=.collected w4.heap.size,args:=#[] }],W1,{ target:=.fn (.func 40) #[.pointer (some ⟨Bm,0,none⟩)],args:=#[.func (.yield (w4.heap.size + 1)) #[] #[]] },W1,40,
  #[.func (.yield (w4.heap.size + 1)) #[] #[]]++#[.pointer (some ⟨Bm,0,none⟩)],W1,?_,?_,fun _ _=>trivial,?_,(fun h=>by cases h),?_⟩
 ·rw [<- hW1]; exact run_enterLoop_outer _ _ _ _ _
 ·simp only [resolve,hf11]
  simp [go_sem]
 ·have:=enters_of Try.func40 (by kernel_rfl) rfl
  simp [invoke,go_sem,this]
 ·-- the rounds
  let FF:World->Lx:=fun Z=>F++between w4.heap.size Z.heap.size
  have hFm:∀ Z k,some k ∈ FF Z ↔ some k ∈ F∨(w4.heap.size≤k∧k < Z.heap.size):=fun Z k=>by
   show some k ∈ F++between _ _ ↔ _
   rw [List.mem_append,between_mem]
  have key:=keys_it 1 (w4.heap.size + 1) Bm g' (Nat.le_refl _) W1 hmap1 hvr (by omega) hcell1
   (fun Z pre W=>∃ pl b xs a ws,Sto B0 p0 (FF Z) pl (qq_ m nilV false b xs a ws) W∧pl.length=8∧BkI b xs a ws∧W.heap[w4.heap.size]? = some (.deferred (some []))∧Blw B0 w0 W∧W1.heap.size≤Z.heap.size ∧
    bkAll m pre (some [])=some (bkX b xs a ws)∧W.heap[w4.heap.size + 1]? = some (.loop (bkRec fn l4 w4.heap.size .ready none))∧∀ k,W1.heap.size≤k->k < Z.heap.size->W.heap[k]? = Z.heap[k]?)
   (fun Z pre W=>∃ pl b xs a ws,Sto B0 p0 (FF Z) pl (qq_ m nilV false b xs a ws) W∧pl.length=8∧BkI b xs a ws∧W.heap[w4.heap.size]? = some (.deferred (some []))∧Blw B0 w0 W∧W1.heap.size≤Z.heap.size ∧
    bkAll m pre (some [])=none∧W.heap[w4.heap.size + 1]? = some (.loop (bkRec fn l4 w4.heap.size .done (some .ret))))
   (fun Z hZ=>by
    have hz:Fz [] w4 Z:=hfz1.trans (Fz.of_below hZ [])
    refine ⟨pl4,false,[],0,[],?_,hn4,BkI.start,(hZ.block _ (by omega)).trans hD1,bw4.trans (blw_fz hz (fun k hk=>by cases hk)),hZ.size,rfl,(hZ.block _ (by omega)).trans hr1,fun k _ _=>rfl⟩
    refine (st4.sub (List.Sublist.refl _) hp0p).grow hz fun k hk=>?_
    rcases (hFm Z k).1 hk with h | ⟨h1,h2⟩
    ·exact ⟨.inl h,Nat.lt_of_lt_of_le (st4.far k h).2 hz.size⟩
    ·exact ⟨.inr h1,h2⟩)
   (fun Z pre W hJ k h1 h2=>by
    obtain ⟨_,_,_,_,_,_,_,_,_,_,_,_,_,h⟩:=hJ
    exact h k h1 h2)
   (fun Z pre x W hJ=>by
    obtain ⟨pl,b,xs,a,ws,j1,j2,j3,j4,j5,j6,j7,j8,j9⟩:=hJ
    have hlb:some (w4.heap.size + 1) ∈ FF Z:=(hFm Z _).2 (.inr ⟨by omega,by omega⟩)
    obtain ⟨fn',tmps,asg,bd,y1,y2⟩:=d_round (x:=x) j1 j2 hs j3 j8 hlb (hbase _ (by have:=bw4.size; omega)) (fun k hk=>hbase k (Nat.le_trans j5.size hk))
    refine ⟨fn',tmps,asg,bd,y1,y2.mono ?_⟩
    rintro e W' ⟨pl',b',xs',a',ws',k1,k2,k3,k4,k5,k6⟩
    have kD:W'.heap[w4.heap.size]? = some (.deferred (some [])):=(k5 _ ((hFm Z _).2 (.inr ⟨Nat.le_refl _,by omega⟩)) (by omega)).trans j4
    rcases k6 with ⟨rfl,k7,k8⟩ | ⟨rfl,k7,k8⟩
    ·refine .inl ⟨rfl,pl',b',xs',a',ws',k1,k2,k3,kD,j5.trans k4,j6,?_,k8,fun k h1 h2=>?_⟩
     ·rw [bkAll_snoc,j7]
      exact k7
     ·exact (k5 k ((hFm Z k).2 (.inr ⟨by omega,h2⟩)) (by omega)).trans (j9 k h1 h2)
    ·refine .inr ⟨rfl,pl',b',xs',a',ws',k1,k2,k3,kD,j5.trans k4,j6,?_,k8⟩
     rw [bkAll_snoc,j7]
     exact k7)
  refine key.mono ?_
  rintro e W2 ⟨⟨v0,rfl⟩,Z,hJ⟩
  have leave:∀ (pl:List Ev.Place) (cc:SV) (ok b:Bool) (xs:List Bk) (a:Int) (ws:List Int) (l':List Value) (W:World) (L:List Bk),Sto B0 p0 (FF Z) pl (qq_ m cc ok b xs a ws) W->pl.length=8->Slots p0 l'->W.heap[w4.heap.size]? = some (.deferred (some []))->Blw B0 w0 W->W1.heap.size≤Z.heap.size->bkRes m=(L,ok) ->
    (∃ S1,nrm Try.prog ⟨[.frb 2],[2,3]⟩ (d_bkSt bkFr 6 m cc ok b xs a ws)=some S1∧resK Try.prog S1 Try.f8.results.toList (fun ss=>some ss)=some [.d (.sl bT) L,.d .bool ok]) ->
    bodyPostM Fence.wide 2 Try.prog Try.f8 R .ret ⟨l'.toArray,[{ target:=.collected w4.heap.size,args:=#[] }]⟩ W:=by
   intro pl cc ok b xs a ws l' W L k1 k2 k3 k4 k5 k6 k7 ⟨S1,z1,z3⟩
   have hf6:=fz_putObj W w4.heap.size (.deferred none)
   have hDF:some w4.heap.size ∈ FF Z:=(hFm Z _).2 (.inr ⟨Nat.le_refl _,by omega⟩)
   have k1':=k1.turn (hf6.sub fun k hk=>by simp at hk; subst hk; exact hDF)
   have k5':Blw B0 w0 (W.putObj w4.heap.size (.deferred none)):=k5.trans (blw_fz hf6 (fun k hk=>by simp at hk; subst hk; exact hbase _ bw4.size))
   obtain ⟨pl',us,z4,z5,z6⟩:=fin_res (S:=d_bkSt bkFr 6 m cc ok b xs a ws) (l:=l') (hbo k5'.size k1') k1' rfl k2.symm (show 6=p0.length from hp0l.symm) k3.len (k3.fr k1'.pre (fun _ _=>rfl)) z1 z3
   refine ⟨by simp,.inl ⟨_,_,rfl,run_takeDeferred k4,?_⟩⟩
   refine z6 R (hRe ?_)
   rw [k7]
   subst hB0
   exact d_fin_after hL (fun k hk=>(hFm Z k).2 (.inl hk)) k5' z5
  rcases hJ with ⟨pl,b,xs,a,ws,j1,j2,j3,j4,j5,j6,j7,j8,j9⟩ | ⟨k,hk,pl,b,xs,a,ws,j1,j2,j3,j4,j5,j6,j7,j8⟩
  ·have hend:=run_endLoop (P:=Try.prog) j8 (by simp [bkRec])
   have hf5:=fz_putObj W2 (w4.heap.size + 1) (.loop { bkRec fn l4 w4.heap.size .ready none with state:=.exhausted })
   have hlb:some (w4.heap.size + 1) ∈ FF Z:=(hFm Z _).2 (.inr ⟨by omega,by omega⟩)
   refine ⟨none,_,hend,?_⟩
   have j1':=j1.turn (hf5.sub fun k hk=>by simp at hk; subst hk; exact hlb)
   have j5':=j5.trans (blw_fz hf5 (fun k hk=>by simp at hk; subst hk; exact hbase _ (by have:=bw4.size; omega)))
   refine d_tail_wp (ds:=[{ target:=.collected w4.heap.size,args:=#[] }]) j1' j2 hs (fun k hk=>hbase k (Nat.le_trans j5'.size hk)) fun W' l' t1 t2 t3 t4=>?_
   refine leave pl _ _ b xs a ws l' W' _ t1 j2 t2 ((t4 _ ((hFm Z _).2 (.inr ⟨Nat.le_refl _,by omega⟩))).trans ((World.putObj_heap_other (by omega)).trans j4)) (j5'.trans t3) j6 ?_ (d_n3_fin m b xs a ws)
   unfold bkRes
   rw [if_neg hlen,<- hkeys2,j7]
  ·have hend:=run_endLoop (P:=Try.prog) j8 (by simp [bkRec])
   have hf5:=fz_putObj W2 (w4.heap.size + 1) (.loop { bkRec fn l4 w4.heap.size .done (some .ret) with state:=.exhausted })
   have hlb:some (w4.heap.size + 1) ∈ FF Z:=(hFm Z _).2 (.inr ⟨by omega,by omega⟩)
   refine ⟨some .ret,_,hend,?_⟩
   have j1':=j1.turn (hf5.sub fun k hk=>by simp at hk; subst hk; exact hlb)
   have j5':=j5.trans (blw_fz hf5 (fun k hk=>by simp at hk; subst hk; exact hbase _ (by have:=bw4.size; omega)))
   refine wpIn_ret ?_
   refine leave pl _ _ b xs a ws l4 _ _ j1' j2 hs ((World.putObj_heap_other (by omega)).trans j4) j5' j6 ?_ (d_n2_fin m b xs a ws)
   unfold bkRes
   rw [if_neg hlen,<- hkeys2,<- List.take_append_drop k (sorted (vs.map (·.1))),bkAll_app,j7,bkAll_none]
end Go.Proofs.Lx
end
