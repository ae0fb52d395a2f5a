/- Part 6 of 14: PlanTells returns true, whatever it is given. Conditions: those of the given statement, no others. -/
import Derived.Test.YtnamnibaedolaaaParte
import Derived.Test.YtnamnibaedolaaaPartd
import Derived.Test.YtnamnibaedolaaaProg
set_option linter.unusedVariables false
set_option linter.unusedSimpArgs false
section
set_option maxRecDepth 100000
namespace Go.Proofs.Lx
open Go Go.Proofs Go.RowKit Ev Sx Pl
theorem d_n1_fin (m:List (Int×Int)):∃ S1,nrm Try.prog ⟨[.frb 2],[2,3]⟩ (d_bkS1 m)=some S1∧resK Try.prog S1 Try.f8.results.toList (fun ss=>some ss)=some [.d (.sl bT) [],.d .bool false]:=by
 refine ⟨{ fr:=[(2,.pb 1 0),(3,.pb 2 0)],nt:=74,up:=[],own:=[(1,.box 26 [.d (.sl bT) []]),(2,.box 4 [.d .bool false])],nx:=3,log:=[],ln:=1 },by kernel_rfl,by kernel_rfl⟩
theorem d_n2_fin (m:List (Int×Int)) (b:Bool) (xs:List Bk) (a:Int) (ws:List Int):∃ S1,nrm Try.prog ⟨[.frb 2],[2,3]⟩ (d_bkSt bkFr 6 m nilV false b xs a ws)=some S1∧resK Try.prog S1 Try.f8.results.toList (fun ss=>some ss)=some [.d (.sl bT) [],.d .bool false]:=by
 refine ⟨{ fr:=[(2,.pb 2 0),(3,.pb 3 0)],nt:=74,up:=[],own:=[(1,.box 24 [.d (.mp kT uT) m]),(2,.box 26 [.d (.sl bT) []]),(3,.box 4 [.d .bool false]),(4,.box 24 [.d (.mp kT uT) m]),(5,.box 26 [.row 6]),(6,.rowo bT 31 b xs [.d kT a,.row 7]),(7,.row uT 32 ws)],nx:=8,log:=[],ln:=6 },by kernel_rfl,by kernel_rfl⟩
theorem d_n3_fin (m:List (Int×Int)) (b:Bool) (xs:List Bk) (a:Int) (ws:List Int):∃ S1,nrm Try.prog ⟨[.frb 2],[2,3]⟩ (d_bkSt bkFr 6 m (.row 6) true b xs a ws)=some S1∧resK Try.prog S1 Try.f8.results.toList (fun ss=>some ss)=some [.d (.sl bT) (bkX b xs a ws),.d .bool true]:=by
 refine ⟨{ fr:=[(2,.pb 2 0),(3,.pb 3 0)],nt:=74,up:=[],own:=[(1,.box 24 [.d (.mp kT uT) m]),(2,.box 26 [.d (.sl bT) (bkX b xs a ws)]),(3,.box 4 [.d .bool true]),(4,.box 24 [.d (.mp kT uT) m]),(5,.box 26 [.d (.sl bT) (bkX b xs a ws)])],nx:=6,log:=[],ln:=6 },by kernel_rfl,by kernel_rfl⟩
def dmP:Ev.Place:=⟨none,0,0⟩
@[reducible] def q2d_:Ev.Sh:=⟨[.d (.mp (.int .i64) (.int .u16))],[],[.mp (.int .i64) (.int .u16)],[.d (.sl (.pr (.int .i64) (.sl (.int .u16)))),.d .bool],[],0,[.sl (.pr (.int .i64) (.sl (.int .u16))),.bool]⟩
def q90_ (x:As q2d_.ps):Option (As q2d_.rs):=if (show List (Int×Int) from x.1).all keyOk=true then some ((bkRes x.1).1,(bkRes x.1).2,()) else none
theorem d_fin_after {F F':Lx} {w0 W:World} {pl':List Ev.Place} {own':List (Nat×Ent)} {L:List Bk} {ok:Bool} {us:List Value}
  (hL:LOk (Bo [] [] w0) (lx [] []) F w0) (hF:∀ k,some k ∈ F->some k ∈ F') (hB:Blw (Bo [] [] w0) w0 W)
  (hd:DenL pl' (lx pl' own'++F') W [.d (.sl bT) L,.d .bool ok] us):After q2d_ (L,ok,()) F w0 [] [] W us:=by
 have hsub:∀ k,some k ∈ lx [] []++F->some k ∈ lx pl' own'++F':=fun k hk=>List.mem_append_right _ (hF k (by simpa [lx] using hk))
 refine ⟨[],[.d (.sl bT) L,.d .bool ok],[],rfl,fun _ _ h=>h,rfl,hB,⟨hL.pair,hL.lo,(fun k hk=>by cases hk),hL.baseS hB.size,hL.farS hB.size⟩,(fun e he=>by cases he),?_⟩
 obtain ⟨v,q,h1,⟨cs,h2,h3⟩,v',q',h4,⟨cs',h5,h6⟩,h7⟩:=hd
 exact ⟨v,q,h1,⟨cs,Rp.grow _ h2 (sub_of hsub),h3⟩,v',q',h4,⟨cs',Rp.grow _ h5 (sub_of hsub),h6⟩,h7⟩
theorem qsx_ {I:World->Prop}:CtOk Try.prog I 8 ⟨q2d_,q90_⟩:=by
 intro F w0 pl0 x y ss own vs hx hA hpl hI0 hL hE hD
 obtain ⟨m,u0⟩:=x
 have hx:(if m.all keyOk=true then some ((bkRes m).1,(bkRes m).2,()) else none)=some y:=hx
 split at hx
 case isFalse=>cases hx
 rename_i hkeys
 cases hx
 have hA:some ([SV.d (.mp kT uT) m],[])=some (ss,own):=hA
 cases hA
 have hpl:pl0.length=0:=hpl
 obtain rfl:=List.eq_nil_of_length_eq_zero hpl
 obtain ⟨u,q,rfl,⟨cs0,⟨g,mv,rfl,hg1,hg2,hgm,hgd⟩,hu⟩,rfl⟩:=hD
 have hu:u = .map (some g):=hu
 subst hu
 obtain ⟨B0,hB0⟩:∃ B0,B0=Bo [] [] w0:=⟨_,rfl⟩
 have hst0:Sto B0 [dmP] F [dmP] [] w0:=by
  subst hB0
  exact ⟨List.Pairwise.nil,(fun k hk=>by cases hk),(fun k hk=>by cases hk),fun k hk=>⟨(fun hx=>by cases hx),(hL.far k hk).2⟩,fun _ _ h=>h,(fun e he=>by cases he)⟩
 have hbase:∀ k,w0.heap.size≤k->B0 k:=fun k hk=>by subst hB0; exact .inr hk
 have hbo:∀ {p1:List Ev.Place} {F1:Lx} {pl:List Ev.Place} {own:List (Nat×Ent)} {w:World},w0.heap.size≤w.heap.size->Sto B0 p1 F1 pl own w->∀ k,Bo pl own w k->B0 k:=fun hs hst k hk=>by
  rcases hk with hk | hk
  ·exact hst.lo k hk
  ·exact hbase k (Nat.le_trans hs hk)
 refine (callsIn_wide (n:=2)).1 ?_
 refine callsIn_of_wp_marks Try.func8 bk_eq trivial ?_ rfl
 obtain ⟨l0,hl0⟩:∃ l0:List Value,l0 = .map (some g)::List.replicate 73 undef:=⟨_,rfl⟩
 have hact:(⟨[Value.map (some g)].toArray++Array.replicate (Try.f8.ntmps - [Value.map (some g)].toArray.size) undef,[]⟩:Act)=mk l0:=by
  subst hl0
  show (⟨[Value.map (some g)].toArray++Array.replicate 73 undef,[]⟩:Act)=mk (.map (some g)::List.replicate 73 undef)
  simp [mk]
 rw [hact]
 generalize hR:(fun (e:Ending) (w':World)=>∃ us,e = .returned (retV us)∧After q2d_ ((bkRes m).1,(bkRes m).2,()) F w0 [] [] w' us)=R
 have hRe:∀ {W:World} {us:List Value},After q2d_ ((bkRes m).1,(bkRes m).2,()) F w0 [] [] W us->R (.returned (retV us)) W:=fun h=>by subst hR; exact ⟨_,rfl,h⟩
 have hfr0:FrD [dmP] (lx [dmP] []++F) w0 [(0,.d (.mp kT uT) m)] l0:=ql_ (by subst hl0; exact ⟨[.map (some g)],⟨g,mv,rfl,by simpa [lx] using hg1,hg2,hgm,hgd⟩,rfl⟩) frD_nil
 have r1:=q1x_ (S:=dS0 m) (l:=l0) bkEnv_ok (hbo (Nat.le_refl _) hst0) hst0 rfl rfl rfl (by subst hl0; rfl) hfr0 (d_p1_eq m)
 refine wpIn_seq (Code.wpIn_mono ?_ (cw_wide r1 2))
 rintro e a w1 ⟨pl1,l1,rfl,rfl,hl1,hn1,st1,fr1,bl1⟩
 have bw1:Blw B0 w0 w1:=qo_ bl1 (hbo (Nat.le_refl _) hst0)
 refine wpIn_seq ?_
 by_cases hlen:m.length > 64
 ·-- too many
  have r2:=q1x_ (S:=d_bkS1 m) (l:=l1) bkEnv_ok (hbo bw1.size st1) st1 rfl hn1.symm rfl hl1 fr1 ((d_p2_eq m).trans (if_pos (by simp [gt]; omega)))
  refine Code.wpIn_mono ?_ (cw_wide r2 2)
  rintro e a w2 ⟨pl2,l2,rfl,rfl,hl2,hn2,st2,fr2,bl2⟩
  have bw2:Blw B0 w0 w2:=bw1.trans (qo_ bl2 (hbo bw1.size st1))
  obtain ⟨S1,z1,z3⟩:=d_n1_fin m
  obtain ⟨pl',us,z4,z5,z6⟩:=fin_res (S:=d_bkS1 m) (hbo bw2.size st2) st2 rfl hn2.symm rfl hl2 fr2 z1 z3
  refine z6 R (hRe ?_)
  have:bkRes m=([],false):=by unfold bkRes; rw [if_pos hlen]
  rw [this]
  subst hB0
  exact d_fin_after hL (fun _ h=>h) bw2 z5
 have r2:=q1x_ (S:=d_bkS1 m) (l:=l1) bkEnv_ok (hbo bw1.size st1) st1 rfl hn1.symm rfl hl1 fr1 ((d_p2_eq m).trans (if_neg (by simp [gt]; omega)))
 refine Code.wpIn_mono ?_ (cw_wide r2 2)
 rintro e a w2 ⟨pl2,l2,rfl,rfl,hl2,hn2,st2,fr2,bl2⟩
 have bw2:Blw B0 w0 w2:=bw1.trans (qo_ bl2 (hbo bw1.size st1))
 have r3:=q1x_ (S:=d_bkS1 m) (l:=l2) bkEnv_ok (hbo bw2.size st2) st2 rfl hn2.symm rfl hl2 fr2 (d_p3_eq m)
 refine wpIn_seq (Code.wpIn_mono ?_ (cw_wide r3 2))
 rintro e a w3 ⟨pl3,l3,rfl,rfl,hl3,hn3,st3,fr3,bl3⟩
 have bw3:Blw B0 w0 w3:=bw2.trans (qo_ bl3 (hbo bw2.size st2))
 have r4:=q1x_ (S:=d_bkS3 m) (l:=l3) bkEnv_ok (hbo bw3.size st3) st3 rfl hn3.symm rfl hl3 fr3 (d_p4_eq m)
 refine wpIn_seq (wpIn_seq (Code.wpIn_mono ?_ (cw_wide r4 2)))
 rintro e a w4 ⟨pl4,l4,rfl,rfl,hl4,hn4,st4,fr4,bl4⟩
 have bw4:Blw B0 w0 w4:=bw3.trans (qo_ bl4 (hbo bw3.size st3))
 have hn4:pl4.length=8:=hn4
 have hl4:l4.length=74:=hl4
 obtain ⟨p0,hp0e⟩:∃ p0,p0=pl4.take 6:=⟨_,rfl⟩
 have hp0l:p0.length=6:=by rw [hp0e,List.length_take]; omega
 have hp0p:∀ (i:Nat) (p:Ev.Place),p0[i]? = some p->pl4[i]? = some p:=fun i p h=>by
  rw [hp0e] at h
  have hi:=(List.getElem?_eq_some_iff.1 h).1
  rw [List.length_take] at hi
  rw [List.getElem?_take_of_lt (by omega)] at h
  exact h
 have hp0b:∀ (i:Nat) (p:Ev.Place),i < 6->pl4[i]? = some p->p0[i]? = some p:=fun i p hi h=>by rw [hp0e,List.getElem?_take_of_lt hi]; exact h
 have dpb:∀ {t i:Nat},i < 6->Ev.get bkFr t=some (.pb i 0)->Den p0 [] default (.pb i 0) (l4.getD t undef):=fun hi hg=>by
  obtain ⟨a,b,c,h1,h2⟩:=fr4 _ _ hg
  exact ⟨a,b,c,hp0b _ _ hi h1,h2⟩
 have hs:Slots p0 l4:=⟨hl4,hp0l,dpb (by decide) rfl,dpb (by decide) rfl,dpb (by decide) rfl,by
  obtain ⟨us,vs,h1,⟨v,q,h2,⟨a,b,c,h3,h4⟩,h5⟩,h6⟩:=fr4 11 _ rfl
  exact ⟨us,vs,h1,⟨v,q,h2,⟨a,b,c,hp0b _ _ (by decide) h3,h4⟩,h5⟩,h6⟩,dpb (by decide) rfl⟩
 obtain ⟨Bm,nm,cm,us,b1,b2,⟨v,r,rfl,⟨cs4,⟨g',vs,rfl,e1,e5,e2,e3⟩,rfl⟩,rfl⟩,b4⟩:=st4.ent (4,.box 24 [.d (.mp kT uT) m]) (by simp [d_bkSt,qx_])
 have e3:=DmD.iff.1 e3
 have hvk:=dm_keys e3
 have hvl:vs.length=m.length:=by have:=congrArg List.length hvk; simpa using this
 have hvr:∀ e ∈ vs,inR e.1:=fun e he=>by
  have h1:e.1 ∈ m.map (·.1):=by rw [<- hvk]; exact List.mem_map_of_mem (f:=fun x:Int×Value=>x.1) he
  obtain ⟨e',h2,h3⟩:=List.mem_map.1 h1
  rw [<- h3]
  exact keyOk_iff.1 (List.all_eq_true.1 hkeys e' h2)
 have hf11:(mk l4).eval (.tmp 11) = .func (.func 40) #[] #[.pointer (some ⟨Bm,0,none⟩)]:=by
  rw [eval_mk]
  obtain ⟨us,vs,h1,⟨v,q,h2,⟨a,b,c,h3,h4⟩,h5⟩,h6⟩:=fr4 11 _ rfl
  rw [b1] at h3
  cases h3
  cases h1
  cases h5
  subst h2 h4
  exact h6
 refine wpIn_block (wpIn_rangeFunc ?_)
 intro fn hfn
 obtain ⟨W1,hW1⟩:∃ W1,(w4.alloc (.deferred (some []))).alloc (.loop (bkRec fn l4 w4.heap.size .ready none))=W1:=⟨_,rfl⟩
 have hs1:W1.heap.size=w4.heap.size + 2:=by rw [<- hW1]; simp
 have hfz1:Fz [] w4 W1:=by rw [<- hW1]; exact (Fz.alloc _ _ _).trans (Fz.alloc _ _ _)
 have hD1:W1.heap[w4.heap.size]? = some (.deferred (some [])):=by
  rw [<- hW1]; exact (Below.heap_alloc _ _ _ (by simp)).trans (World.alloc_heap_new w4 _)
 have hr1:W1.heap[w4.heap.size + 1]? = some (.loop (bkRec fn l4 w4.heap.size .ready none)):=by
  rw [<- hW1]; have:=World.alloc_heap_new (w4.alloc (.deferred (some []))) (.loop (bkRec fn l4 w4.heap.size .ready none)); rwa [World.size_alloc] at this
 have hmap1:MapIs (keyV (.int .i64)) (fun v:Value=>v) W1 g' vs:=by
  have hlt:=e2.lt
  obtain ⟨es,cl,a,b,c⟩:=e2
  exact ⟨es,cl,(hfz1.block _ hlt nilN).trans a,b,c⟩
 have hcell1:W1.cell? ⟨Bm,0,none⟩=some (.map (some g')):=(b2.step hfz1 nilN).cell rfl
 have hkeys2:sorted (vs.map (·.1))=sorted (m.map (·.1)):=by rw [hvk]
 refine ⟨w4.heap.size + 1,[{ target:=.collected w4.heap.size,args:=#[] }],W1,{ target:=.fn (.func 40) #[.pointer (some ⟨Bm,0,none⟩)],args:=#[.func (.yield (w4.heap.size + 1)) #[] #[]] },W1,40,
  #[.func (.yield (w4.heap.size + 1)) #[] #[]]++#[.pointer (some ⟨Bm,0,none⟩)],W1,?_,?_,fun _ _=>trivial,?_,(fun h=>by cases h),?_⟩
 ·rw [<- hW1]; exact run_enterLoop_outer _ _ _ _ _
 ·simp only [resolve,hf11]
  simp [go_sem]
 ·have:=enters_of Try.func40 (by kernel_rfl) rfl
  simp [invoke,go_sem,this]
 ·-- the rounds
  let FF:World->Lx:=fun Z=>F++between w4.heap.size Z.heap.size
  have hFm:∀ Z k,some k ∈ FF Z ↔ some k ∈ F∨(w4.heap.size≤k∧k < Z.heap.size):=fun Z k=>by
   show some k ∈ F++between _ _ ↔ _
   rw [List.mem_append,between_mem]
  have key:=keys_it 1 (w4.heap.size + 1) Bm g' (Nat.le_refl _) W1 hmap1 hvr (by omega) hcell1
   (fun Z pre W=>∃ pl b xs a ws,Sto B0 p0 (FF Z) pl (qx_ m nilV false b xs a ws) W∧pl.length=8∧BkI b xs a ws∧W.heap[w4.heap.size]? = some (.deferred (some []))∧Blw B0 w0 W∧W1.heap.size≤Z.heap.size ∧
    bkAll m pre (some [])=some (bkX b xs a ws)∧W.heap[w4.heap.size + 1]? = some (.loop (bkRec fn l4 w4.heap.size .ready none))∧∀ k,W1.heap.size≤k->k < Z.heap.size->W.heap[k]? = Z.heap[k]?)
   (fun Z pre W=>∃ pl b xs a ws,Sto B0 p0 (FF Z) pl (qx_ m nilV false b xs a ws) W∧pl.length=8∧BkI b xs a ws∧W.heap[w4.heap.size]? = some (.deferred (some []))∧Blw B0 w0 W∧W1.heap.size≤Z.heap.size ∧
    bkAll m pre (some [])=none∧W.heap[w4.heap.size + 1]? = some (.loop (bkRec fn l4 w4.heap.size .done (some .ret))))
   (fun Z hZ=>by
    have hz:Fz [] w4 Z:=hfz1.trans (Fz.of_below hZ [])
    refine ⟨pl4,false,[],0,[],?_,hn4,BkI.start,(hZ.block _ (by omega)).trans hD1,bw4.trans (blw_fz hz (fun k hk=>by cases hk)),hZ.size,rfl,(hZ.block _ (by omega)).trans hr1,fun k _ _=>rfl⟩
    refine (st4.sub (List.Sublist.refl _) hp0p).grow hz fun k hk=>?_
    rcases (hFm Z k).1 hk with h | ⟨h1,h2⟩
    ·exact ⟨.inl h,Nat.lt_of_lt_of_le (st4.far k h).2 hz.size⟩
    ·exact ⟨.inr h1,h2⟩)
   (fun Z pre W hJ k h1 h2=>by
    obtain ⟨_,_,_,_,_,_,_,_,_,_,_,_,_,h⟩:=hJ
    exact h k h1 h2)
   (fun Z pre x W hJ=>by
    obtain ⟨pl,b,xs,a,ws,j1,j2,j3,j4,j5,j6,j7,j8,j9⟩:=hJ
    have hlb:some (w4.heap.size + 1) ∈ FF Z:=(hFm Z _).2 (.inr ⟨by omega,by omega⟩)
    obtain ⟨fn',tmps,asg,bd,y1,y2⟩:=d_round (x:=x) j1 j2 hs j3 j8 hlb (hbase _ (by have:=bw4.size; omega)) (fun k hk=>hbase k (Nat.le_trans j5.size hk))
    refine ⟨fn',tmps,asg,bd,y1,y2.mono ?_⟩
    rintro e W' ⟨pl',b',xs',a',ws',k1,k2,k3,k4,k5,k6⟩
    have kD:W'.heap[w4.heap.size]? = some (.deferred (some [])):=(k5 _ ((hFm Z _).2 (.inr ⟨Nat.le_refl _,by omega⟩)) (by omega)).trans j4
    rcases k6 with ⟨rfl,k7,k8⟩ | ⟨rfl,k7,k8⟩
    ·refine .inl ⟨rfl,pl',b',xs',a',ws',k1,k2,k3,kD,j5.trans k4,j6,?_,k8,fun k h1 h2=>?_⟩
     ·rw [bkAll_snoc,j7]
      exact k7
     ·exact (k5 k ((hFm Z k).2 (.inr ⟨by omega,h2⟩)) (by omega)).trans (j9 k h1 h2)
    ·refine .inr ⟨rfl,pl',b',xs',a',ws',k1,k2,k3,kD,j5.trans k4,j6,?_,k8⟩
     rw [bkAll_snoc,j7]
     exact k7)
  refine key.mono ?_
  rintro e W2 ⟨⟨v0,rfl⟩,Z,hJ⟩
  have leave:∀ (pl:List Ev.Place) (cc:SV) (ok b:Bool) (xs:List Bk) (a:Int) (ws:List Int) (l':List Value) (W:World) (L:List Bk),Sto B0 p0 (FF Z) pl (qx_ m cc ok b xs a ws) W->pl.length=8->Slots p0 l'->W.heap[w4.heap.size]? = some (.deferred (some []))->Blw B0 w0 W->W1.heap.size≤Z.heap.size->bkRes m=(L,ok) ->
    (∃ S1,nrm Try.prog ⟨[.frb 2],[2,3]⟩ (d_bkSt bkFr 6 m cc ok b xs a ws)=some S1∧resK Try.prog S1 Try.f8.results.toList (fun ss=>some ss)=some [.d (.sl bT) L,.d .bool ok]) ->
    bodyPostM Fence.wide 2 Try.prog Try.f8 R .ret ⟨l'.toArray,[{ target:=.collected w4.heap.size,args:=#[] }]⟩ W:=by
   intro pl cc ok b xs a ws l' W L k1 k2 k3 k4 k5 k6 k7 ⟨S1,z1,z3⟩
   have hf6:=fz_putObj W w4.heap.size (.deferred none)
   have hDF:some w4.heap.size ∈ FF Z:=(hFm Z _).2 (.inr ⟨Nat.le_refl _,by omega⟩)
   have k1':=k1.turn (hf6.sub fun k hk=>by simp at hk; subst hk; exact hDF)
   have k5':Blw B0 w0 (W.putObj w4.heap.size (.deferred none)):=k5.trans (blw_fz hf6 (fun k hk=>by simp at hk; subst hk; exact hbase _ bw4.size))
   obtain ⟨pl',us,z4,z5,z6⟩:=fin_res (S:=d_bkSt bkFr 6 m cc ok b xs a ws) (l:=l') (hbo k5'.size k1') k1' rfl k2.symm (show 6=p0.length from hp0l.symm) k3.len (k3.fr k1'.pre (fun _ _=>rfl)) z1 z3
   refine ⟨by simp,.inl ⟨_,_,rfl,run_takeDeferred k4,?_⟩⟩
   refine z6 R (hRe ?_)
   rw [k7]
   subst hB0
   exact d_fin_after hL (fun k hk=>(hFm Z k).2 (.inl hk)) k5' z5
  rcases hJ with ⟨pl,b,xs,a,ws,j1,j2,j3,j4,j5,j6,j7,j8,j9⟩ | ⟨k,hk,pl,b,xs,a,ws,j1,j2,j3,j4,j5,j6,j7,j8⟩
  ·have hend:=run_endLoop (P:=Try.prog) j8 (by simp [bkRec])
   have hf5:=fz_putObj W2 (w4.heap.size + 1) (.loop { bkRec fn l4 w4.heap.size .ready none with state:=.exhausted })
   have hlb:some (w4.heap.size + 1) ∈ FF Z:=(hFm Z _).2 (.inr ⟨by omega,by omega⟩)
   refine ⟨none,_,hend,?_⟩
   have j1':=j1.turn (hf5.sub fun k hk=>by simp at hk; subst hk; exact hlb)
   have j5':=j5.trans (blw_fz hf5 (fun k hk=>by simp at hk; subst hk; exact hbase _ (by have:=bw4.size; omega)))
   refine d_tail_wp (ds:=[{ target:=.collected w4.heap.size,args:=#[] }]) j1' j2 hs (fun k hk=>hbase k (Nat.le_trans j5'.size hk)) fun W' l' t1 t2 t3 t4=>?_
   refine leave pl _ _ b xs a ws l' W' _ t1 j2 t2 ((t4 _ ((hFm Z _).2 (.inr ⟨Nat.le_refl _,by omega⟩))).trans ((World.putObj_heap_other (by omega)).trans j4)) (j5'.trans t3) j6 ?_ (d_n3_fin m b xs a ws)
   unfold bkRes
   rw [if_neg hlen,<- hkeys2,j7]
  ·have hend:=run_endLoop (P:=Try.prog) j8 (by simp [bkRec])
   have hf5:=fz_putObj W2 (w4.heap.size + 1) (.loop { bkRec fn l4 w4.heap.size .done (some .ret) with state:=.exhausted })
   have hlb:some (w4.heap.size + 1) ∈ FF Z:=(hFm Z _).2 (.inr ⟨by omega,by omega⟩)
   refine ⟨some .ret,_,hend,?_⟩
   have j1':=j1.turn (hf5.sub fun k hk=>by simp at hk; subst hk; exact hlb)
   have j5':=j5.trans (blw_fz hf5 (fun k hk=>by simp at hk; subst hk; exact hbase _ (by have:=bw4.size; omega)))
   refine wpIn_ret ?_
   refine leave pl _ _ b xs a ws l4 _ _ j1' j2 hs ((World.putObj_heap_other (by omega)).trans j4) j5' j6 ?_ (d_n2_fin m b xs a ws)
   unfold bkRes
   rw [if_neg hlen,<- hkeys2,<- List.take_append_drop k (sorted (vs.map (·.1))),bkAll_app,j7,bkAll_none]
end Go.Proofs.Lx
end
section
open Go Go.Proofs Ev Sx
set_option maxRecDepth 100000
namespace Go.Proofs.Lx
abbrev QVT0:Type:=(List UInt8×Int×Int×Bool×(Int×Int)×(Int×Int)×List UInt8)
abbrev QVT4:Type:=(List UInt8×(Int×Int)×List UInt8×Int)
abbrev QVT1:Type:=(List UInt8×Int×List QVT4)
abbrev QVT9:Ty:=(.pr (.int .i64) (.int .u8))
abbrev QVT2:Ty:=(.pr (.int .i64) (.pr (.int .i64) (.pr .bool (.pr QVT9 (.pr QVT9 .str)))))
abbrev QVT3:Ty:=(.pr (.int .u8) (.pr .str (.pr QVT9 (.int .i64))))
abbrev QVT7:Ty:=(.pr QVT9 (.pr .str (.int .i64)))
abbrev QVT5:Ty:=(.sl (.pr .str (.pr (.int .i64) (.sl (.pr .str QVT7)))))
abbrev QVT6:Type:=(Int×List UInt8×(Int×Int)×Int)
abbrev QVT8:Ty:=(.pr (.int .i64) (.int .i64))
@[reducible] def q50_:Sh:=⟨[.d (.sl (.pr .str (.sl (.pr .str QVT2)))),.d (.str)],[],[.sl (.pr .str (.sl (.pr .str QVT2))),.str],[.d (.int .i64),.d (.bool)],[],0,[.int .i64,.bool]⟩
def qgs_:Env:=(cts [])
def qfe_:List (Nat×Hint):=[(26,⟨[],[1,8,9,10]⟩)]
@[reducible] def zF0:Type:=List (List UInt8×List QVT0)
def q93_ (slave:List UInt8) (t8:zF0) (t9 t10:Int):St:=⟨[(1,dS slave),(8,.d (.sl (.pr .str (.sl (.pr .str QVT2)))) t8),(9,dI t9),(10,dI t10)],21,[],[],0,[],0⟩
@[reducible] def zF1:Type:=List UInt8->List (List UInt8×List QVT0)->Int->Int->Option (As [.int .i64,.bool])
def q5i_ (self1:zF1) (slave:List UInt8) (t8:zF0) (t9 t10:Int):Option (As [.int .i64,.bool]) :=
 if lt t10 t9=true then Option.bind (at? t8 t10) fun y=>if eqs y.1 slave=true then some (t10,true,()) else self1 slave t8 t9 (add .i64 t10 1) else some (0,false,())
def qp6_ (j1:zF1) (t:zF0) (slave:List UInt8):Option (As [.int .i64,.bool]) :=
 j1 slave t (Int.ofNat (List.length t)) 0
def qdm_ (slave:List UInt8) (t8:zF0) (t9 t10:Int):Option (As [.int .i64,.bool]) :=
 loopF (fun self s=>q5i_ (fun slave t8 t9 t10=>self (slave,t8,t9,t10)) s.1 s.2.1 s.2.2.1 s.2.2.2) 18446744073709551616 (slave,t8,t9,t10)
def q22_ (x:As [.sl (.pr .str (.sl (.pr .str QVT2))),.str]):Option (As [.int .i64,.bool]):=qp6_ qdm_ x.1 x.2.1
noncomputable abbrev valid_Find_P:=pfn Try.prog qgs_ 6 18446744073709551616 (Ev.get qfe_) 27 q50_
theorem q131_ {J w1 slave t8 t9 t10}:valid_Find_P J 26 [w1] (q93_ slave t8 t9 t10)=q5i_ (fun slave t8 t9 t10=>w1 (q93_ slave t8 t9 t10)) slave t8 t9 t10:=by kernel_rfl
theorem q12z_ (J:Orc (As [.int .i64,.bool])) (x:As [.sl (.pr .str (.sl (.pr .str QVT2))),.str]):rfn Try.prog qgs_ 6 18446744073709551616 (Ev.get qfe_) 27 q50_ J x=qp6_ (fun slave t8 t9 t10=>J 26 [] (q93_ slave t8 t9 t10)) x.1 x.2.1:=by kernel_rfl
noncomputable abbrev valid_Find_J:=jfn Try.prog qgs_ 6 18446744073709551616 (Ev.get qfe_) 27 q50_
theorem q125_  (slave t8 t9 t10):valid_Find_J 26 [] (q93_ slave t8 t9 t10)=qdm_ slave t8 t9 t10:=gL (σ:=(List UInt8)×(List (List UInt8×List QVT0))×(Int)×(Int)) (mk:=fun s=>q93_ s.1 s.2.1 s.2.2.1 s.2.2.2) (by decide) (by kernel_rfl) (fun w1 s=>q131_) (slave,t8,t9,t10)
theorem q140_ (x:As [.sl (.pr .str (.sl (.pr .str QVT2))),.str]):evT Try.prog qgs_ 6 18446744073709551616 (Ev.get qfe_) 27 q50_ x=q22_ x:=by
 rw [qi_,q12z_]
 simp only [q125_]
 rfl
theorem qkg_:CtOk Try.prog (fun _=>True) 27 ⟨q50_,q22_⟩:=qa_ q6_ q140_
@[reducible] def q5o_:Sh:=⟨[.d QVT9],[],[.pr (.int .i64) (.int .u8)],[.d (.bool)],[],0,[.bool]⟩
def q7e_ (d:Int×Int):Option (As [.bool]) :=
 if ge d.1 (-1000000000000)=true then if le d.1 1000000000000=true then if le d.2 6=true then if eqi d.2 0=true then some (true,()) else some (nei (rem d.1 10) 0,()) else some (false,()) else some (false,()) else some (false,())
def qq_ (x:As [.pr (.int .i64) (.int .u8)]):Option (As [.bool]):=q7e_ x.1
theorem q7v_:CtOk Try.prog (fun _=>True) 54 ⟨q5o_,qq_⟩:=ctn q6_ 6 fun J x=>by kernel_rfl
@[reducible] def q2j_:Sh:=⟨[.d (.int .i64)],[],[.int .i64],[.d (.int .i64)],[],0,[.int .i64]⟩
def qdu_:Env:=(cts [])
def qdk_:List (Nat×Hint):=[(58,⟨[],[3,4,5]⟩)]
def q7u_ (p t4 t5:Int):St:=⟨[(3,dI p),(4,dI t4),(5,dI t5)],11,[],[],0,[],0⟩
def qnj_ (self1:Int->Int->Int->Option (As [.int .i64])) (p t4 t5:Int):Option (As [.int .i64]) :=
 if lt t5 t4=true then self1 (mul .i64 p 10) t4 (add .i64 t5 1) else some (p,())
def qol_ (j1:Int->Int->Int->Option (As [.int .i64])) (n:Int):Option (As [.int .i64]) :=
 j1 1 n 0
def qnp_ (p t4 t5:Int):Option (As [.int .i64]) :=
 loopF (fun self s=>qnj_ (fun p t4 t5=>self (p,t4,t5)) s.1 s.2.1 s.2.2) 18446744073709551616 (p,t4,t5)
def q27_ (x:As [.int .i64]):Option (As [.int .i64]):=qol_ qnp_ x.1
noncomputable abbrev units_power_P:=pfn Try.prog qdu_ 6 18446744073709551616 (Ev.get qdk_) 63 q2j_
theorem qze_ {J w1 p t4 t5}:units_power_P J 58 [w1] (q7u_ p t4 t5)=qnj_ (fun p t4 t5=>w1 (q7u_ p t4 t5)) p t4 t5:=by kernel_rfl
theorem qw7_ (J:Orc (As [.int .i64])) (x:As [.int .i64]):rfn Try.prog qdu_ 6 18446744073709551616 (Ev.get qdk_) 63 q2j_ J x=qol_ (fun p t4 t5=>J 58 [] (q7u_ p t4 t5)) x.1:=by kernel_rfl
noncomputable abbrev units_power_J:=jfn Try.prog qdu_ 6 18446744073709551616 (Ev.get qdk_) 63 q2j_
theorem qyc_  (p t4 t5):units_power_J 58 [] (q7u_ p t4 t5)=qnp_ p t4 t5:=gL (σ:=(Int)×(Int)×(Int)) (mk:=fun s=>q7u_ s.1 s.2.1 s.2.2) (by decide) (by kernel_rfl) (fun w1 s=>qze_) (p,t4,t5)
theorem q139_ (x:As [.int .i64]):evT Try.prog qdu_ 6 18446744073709551616 (Ev.get qdk_) 63 q2j_ x=q27_ x:=by
 rw [qi_,qw7_]
 simp only [qyc_]
 rfl
theorem qic_:CtOk Try.prog (fun _=>True) 63 ⟨q2j_,q27_⟩:=qa_ q6_ q139_
@[reducible] def bits_Mul64_s:Sh:=⟨[.d (.int .u64),.d (.int .u64)],[],[.int .u64,.int .u64],[.d (.int .u64),.d (.int .u64)],[],0,[.int .u64,.int .u64]⟩
def bits_Mul64_m0 (x y:Int):Option (As [.int .u64,.int .u64]) :=
 some (add .u64 (add .u64 (mul .u64 (Sx.shr .u64 x 32) (Sx.shr .u64 y 32)) (Sx.shr .u64 (add .u64 (mul .u64 (Sx.shr .u64 x 32) (Sx.band .u64 y 4294967295)) (Sx.shr .u64 (mul .u64 (Sx.band .u64 x 4294967295) (Sx.band .u64 y 4294967295)) 32)) 32)) (Sx.shr .u64 (add .u64 (Sx.band .u64 (add .u64 (mul .u64 (Sx.shr .u64 x 32) (Sx.band .u64 y 4294967295)) (Sx.shr .u64 (mul .u64 (Sx.band .u64 x 4294967295) (Sx.band .u64 y 4294967295)) 32)) 4294967295) (mul .u64 (Sx.band .u64 x 4294967295) (Sx.shr .u64 y 32))) 32),mul .u64 x y,())
def bits_Mul64 (x:As [.int .u64,.int .u64]):Option (As [.int .u64,.int .u64]):=bits_Mul64_m0 x.1 x.2.1
theorem bits_Mul64_ok:CtOk Try.prog (fun _=>True) 73 ⟨bits_Mul64_s,bits_Mul64⟩:=ctn q6_ 6 fun J x=>by kernel_rfl
@[reducible] def bits_LeadingZeros64_s:Sh:=⟨[.d (.int .u64)],[],[.int .u64],[.d (.int .i64)],[],0,[.int .i64]⟩
def q71_ (x:Int):Option (As [.int .i64]) :=
 if ge x 4294967296=true then if ge (Sx.shr .u64 x 32) 65536=true then if ge (Sx.shr .u64 (Sx.shr .u64 x 32) 16) 256=true then Option.bind (at? [0,1,2,2,3,3,3,3,4,4,4,4,4,4,4,4,5,5,5,5,5,5,5,5,5,5,5,5,5,5,5,5,6,6,6,6,6,6,6,6,6,6,6,6,6,6,6,6,6,6,6,6,6,6,6,6,6,6,6,6,6,6,6,6,7,7,7,7,7,7,7,7,7,7,7,7,7,7,7,7,7,7,7,7,7,7,7,7,7,7,7,7,7,7,7,7,7,7,7,7,7,7,7,7,7,7,7,7,7,7,7,7,7,7,7,7,7,7,7,7,7,7,7,7,7,7,7,7,8,8,8,8,8,8,8,8,8,8,8,8,8,8,8,8,8,8,8,8,8,8,8,8,8,8,8,8,8,8,8,8,8,8,8,8,8,8,8,8,8,8,8,8,8,8,8,8,8,8,8,8,8,8,8,8,8,8,8,8,8,8,8,8,8,8,8,8,8,8,8,8,8,8,8,8,8,8,8,8,8,8,8,8,8,8,8,8,8,8,8,8,8,8,8,8,8,8,8,8,8,8,8,8,8,8,8,8,8,8,8,8,8,8,8,8,8,8,8,8,8,8,8,8,8,8,8,8] (cvt .u8 (Sx.shr .u64 (Sx.shr .u64 (Sx.shr .u64 x 32) 16) 8))) fun c=>some (Sx.sub .i64 64 (add .i64 56 (cvt .i64 (Int.ofNat (UInt8.toNat c)))),()) else Option.bind (at? [0,1,2,2,3,3,3,3,4,4,4,4,4,4,4,4,5,5,5,5,5,5,5,5,5,5,5,5,5,5,5,5,6,6,6,6,6,6,6,6,6,6,6,6,6,6,6,6,6,6,6,6,6,6,6,6,6,6,6,6,6,6,6,6,7,7,7,7,7,7,7,7,7,7,7,7,7,7,7,7,7,7,7,7,7,7,7,7,7,7,7,7,7,7,7,7,7,7,7,7,7,7,7,7,7,7,7,7,7,7,7,7,7,7,7,7,7,7,7,7,7,7,7,7,7,7,7,7,8,8,8,8,8,8,8,8,8,8,8,8,8,8,8,8,8,8,8,8,8,8,8,8,8,8,8,8,8,8,8,8,8,8,8,8,8,8,8,8,8,8,8,8,8,8,8,8,8,8,8,8,8,8,8,8,8,8,8,8,8,8,8,8,8,8,8,8,8,8,8,8,8,8,8,8,8,8,8,8,8,8,8,8,8,8,8,8,8,8,8,8,8,8,8,8,8,8,8,8,8,8,8,8,8,8,8,8,8,8,8,8,8,8,8,8,8,8,8,8,8,8,8,8,8,8,8,8] (cvt .u8 (Sx.shr .u64 (Sx.shr .u64 x 32) 16))) fun c=>some (Sx.sub .i64 64 (add .i64 48 (cvt .i64 (Int.ofNat (UInt8.toNat c)))),()) else if ge (Sx.shr .u64 x 32) 256=true then Option.bind (at? [0,1,2,2,3,3,3,3,4,4,4,4,4,4,4,4,5,5,5,5,5,5,5,5,5,5,5,5,5,5,5,5,6,6,6,6,6,6,6,6,6,6,6,6,6,6,6,6,6,6,6,6,6,6,6,6,6,6,6,6,6,6,6,6,7,7,7,7,7,7,7,7,7,7,7,7,7,7,7,7,7,7,7,7,7,7,7,7,7,7,7,7,7,7,7,7,7,7,7,7,7,7,7,7,7,7,7,7,7,7,7,7,7,7,7,7,7,7,7,7,7,7,7,7,7,7,7,7,8,8,8,8,8,8,8,8,8,8,8,8,8,8,8,8,8,8,8,8,8,8,8,8,8,8,8,8,8,8,8,8,8,8,8,8,8,8,8,8,8,8,8,8,8,8,8,8,8,8,8,8,8,8,8,8,8,8,8,8,8,8,8,8,8,8,8,8,8,8,8,8,8,8,8,8,8,8,8,8,8,8,8,8,8,8,8,8,8,8,8,8,8,8,8,8,8,8,8,8,8,8,8,8,8,8,8,8,8,8,8,8,8,8,8,8,8,8,8,8,8,8,8,8,8,8,8,8] (cvt .u8 (Sx.shr .u64 (Sx.shr .u64 x 32) 8))) fun c=>some (Sx.sub .i64 64 (add .i64 40 (cvt .i64 (Int.ofNat (UInt8.toNat c)))),()) else Option.bind (at? [0,1,2,2,3,3,3,3,4,4,4,4,4,4,4,4,5,5,5,5,5,5,5,5,5,5,5,5,5,5,5,5,6,6,6,6,6,6,6,6,6,6,6,6,6,6,6,6,6,6,6,6,6,6,6,6,6,6,6,6,6,6,6,6,7,7,7,7,7,7,7,7,7,7,7,7,7,7,7,7,7,7,7,7,7,7,7,7,7,7,7,7,7,7,7,7,7,7,7,7,7,7,7,7,7,7,7,7,7,7,7,7,7,7,7,7,7,7,7,7,7,7,7,7,7,7,7,7,8,8,8,8,8,8,8,8,8,8,8,8,8,8,8,8,8,8,8,8,8,8,8,8,8,8,8,8,8,8,8,8,8,8,8,8,8,8,8,8,8,8,8,8,8,8,8,8,8,8,8,8,8,8,8,8,8,8,8,8,8,8,8,8,8,8,8,8,8,8,8,8,8,8,8,8,8,8,8,8,8,8,8,8,8,8,8,8,8,8,8,8,8,8,8,8,8,8,8,8,8,8,8,8,8,8,8,8,8,8,8,8,8,8,8,8,8,8,8,8,8,8,8,8,8,8,8,8] (cvt .u8 (Sx.shr .u64 x 32))) fun c=>some (Sx.sub .i64 64 (add .i64 32 (cvt .i64 (Int.ofNat (UInt8.toNat c)))),()) else if ge x 65536=true then if ge (Sx.shr .u64 x 16) 256=true then Option.bind (at? [0,1,2,2,3,3,3,3,4,4,4,4,4,4,4,4,5,5,5,5,5,5,5,5,5,5,5,5,5,5,5,5,6,6,6,6,6,6,6,6,6,6,6,6,6,6,6,6,6,6,6,6,6,6,6,6,6,6,6,6,6,6,6,6,7,7,7,7,7,7,7,7,7,7,7,7,7,7,7,7,7,7,7,7,7,7,7,7,7,7,7,7,7,7,7,7,7,7,7,7,7,7,7,7,7,7,7,7,7,7,7,7,7,7,7,7,7,7,7,7,7,7,7,7,7,7,7,7,8,8,8,8,8,8,8,8,8,8,8,8,8,8,8,8,8,8,8,8,8,8,8,8,8,8,8,8,8,8,8,8,8,8,8,8,8,8,8,8,8,8,8,8,8,8,8,8,8,8,8,8,8,8,8,8,8,8,8,8,8,8,8,8,8,8,8,8,8,8,8,8,8,8,8,8,8,8,8,8,8,8,8,8,8,8,8,8,8,8,8,8,8,8,8,8,8,8,8,8,8,8,8,8,8,8,8,8,8,8,8,8,8,8,8,8,8,8,8,8,8,8,8,8,8,8,8,8] (cvt .u8 (Sx.shr .u64 (Sx.shr .u64 x 16) 8))) fun c=>some (Sx.sub .i64 64 (add .i64 24 (cvt .i64 (Int.ofNat (UInt8.toNat c)))),()) else Option.bind (at? [0,1,2,2,3,3,3,3,4,4,4,4,4,4,4,4,5,5,5,5,5,5,5,5,5,5,5,5,5,5,5,5,6,6,6,6,6,6,6,6,6,6,6,6,6,6,6,6,6,6,6,6,6,6,6,6,6,6,6,6,6,6,6,6,7,7,7,7,7,7,7,7,7,7,7,7,7,7,7,7,7,7,7,7,7,7,7,7,7,7,7,7,7,7,7,7,7,7,7,7,7,7,7,7,7,7,7,7,7,7,7,7,7,7,7,7,7,7,7,7,7,7,7,7,7,7,7,7,8,8,8,8,8,8,8,8,8,8,8,8,8,8,8,8,8,8,8,8,8,8,8,8,8,8,8,8,8,8,8,8,8,8,8,8,8,8,8,8,8,8,8,8,8,8,8,8,8,8,8,8,8,8,8,8,8,8,8,8,8,8,8,8,8,8,8,8,8,8,8,8,8,8,8,8,8,8,8,8,8,8,8,8,8,8,8,8,8,8,8,8,8,8,8,8,8,8,8,8,8,8,8,8,8,8,8,8,8,8,8,8,8,8,8,8,8,8,8,8,8,8,8,8,8,8,8,8] (cvt .u8 (Sx.shr .u64 x 16))) fun c=>some (Sx.sub .i64 64 (add .i64 16 (cvt .i64 (Int.ofNat (UInt8.toNat c)))),()) else if ge x 256=true then Option.bind (at? [0,1,2,2,3,3,3,3,4,4,4,4,4,4,4,4,5,5,5,5,5,5,5,5,5,5,5,5,5,5,5,5,6,6,6,6,6,6,6,6,6,6,6,6,6,6,6,6,6,6,6,6,6,6,6,6,6,6,6,6,6,6,6,6,7,7,7,7,7,7,7,7,7,7,7,7,7,7,7,7,7,7,7,7,7,7,7,7,7,7,7,7,7,7,7,7,7,7,7,7,7,7,7,7,7,7,7,7,7,7,7,7,7,7,7,7,7,7,7,7,7,7,7,7,7,7,7,7,8,8,8,8,8,8,8,8,8,8,8,8,8,8,8,8,8,8,8,8,8,8,8,8,8,8,8,8,8,8,8,8,8,8,8,8,8,8,8,8,8,8,8,8,8,8,8,8,8,8,8,8,8,8,8,8,8,8,8,8,8,8,8,8,8,8,8,8,8,8,8,8,8,8,8,8,8,8,8,8,8,8,8,8,8,8,8,8,8,8,8,8,8,8,8,8,8,8,8,8,8,8,8,8,8,8,8,8,8,8,8,8,8,8,8,8,8,8,8,8,8,8,8,8,8,8,8,8] (cvt .u8 (Sx.shr .u64 x 8))) fun c=>some (Sx.sub .i64 64 (add .i64 8 (cvt .i64 (Int.ofNat (UInt8.toNat c)))),()) else Option.bind (at? [0,1,2,2,3,3,3,3,4,4,4,4,4,4,4,4,5,5,5,5,5,5,5,5,5,5,5,5,5,5,5,5,6,6,6,6,6,6,6,6,6,6,6,6,6,6,6,6,6,6,6,6,6,6,6,6,6,6,6,6,6,6,6,6,7,7,7,7,7,7,7,7,7,7,7,7,7,7,7,7,7,7,7,7,7,7,7,7,7,7,7,7,7,7,7,7,7,7,7,7,7,7,7,7,7,7,7,7,7,7,7,7,7,7,7,7,7,7,7,7,7,7,7,7,7,7,7,7,8,8,8,8,8,8,8,8,8,8,8,8,8,8,8,8,8,8,8,8,8,8,8,8,8,8,8,8,8,8,8,8,8,8,8,8,8,8,8,8,8,8,8,8,8,8,8,8,8,8,8,8,8,8,8,8,8,8,8,8,8,8,8,8,8,8,8,8,8,8,8,8,8,8,8,8,8,8,8,8,8,8,8,8,8,8,8,8,8,8,8,8,8,8,8,8,8,8,8,8,8,8,8,8,8,8,8,8,8,8,8,8,8,8,8,8,8,8,8,8,8,8,8,8,8,8,8,8] (cvt .u8 x)) fun c=>some (Sx.sub .i64 64 (add .i64 0 (cvt .i64 (Int.ofNat (UInt8.toNat c)))),())
def q5g_ (x:As [.int .u64]):Option (As [.int .i64]):=q71_ x.1
theorem bits_LeadingZeros64_ok:CtOk Try.prog (fun _=>True) 86 ⟨bits_LeadingZeros64_s,q5g_⟩:=ctn q6_ 6 fun J x=>by kernel_rfl
@[reducible] def bits_Div64_s:Sh:=⟨[.d (.int .u64),.d (.int .u64),.d (.int .u64)],[],[.int .u64,.int .u64,.int .u64],[.d (.int .u64),.d (.int .u64)],[],0,[.int .u64,.int .u64]⟩
abbrev bits_Div64_R:=Option (As [.int .u64,.int .u64])
def bits_Div64_e:Env:=(cts [(86,(⟨bits_LeadingZeros64_s,q5g_⟩:Ct))])
def bits_Div64_h:List (Nat×Hint):=[(3,⟨[],[0,1,2,70,71,72,73,74,75,76,77,105,106,107,108,109,110,111,112]⟩),(7,⟨[],[0,1,2,70,71,72,73,74,75,76,77,105,106,107,108,109,110,111,112]⟩),(32767,⟨[],[2,8,9,10,11,13,14,15,105,106,107,108,109,110,111,112]⟩),(524287,⟨[],[2,8,14,15,17,18]⟩),(2097148,⟨[],[2,8,9,10,14,15,16,17,18,105,106,107,108,109,110,111,112]⟩),(8388592,⟨[.agd 105 (.int .u64),.agd 106 (.int .u64),.agd 107 (.int .u64),.agd 108 (.int .u64),.agd 109 (.int .u64),.agd 110 (.int .u64),.agd 111 (.int .u64),.agd 112 .bool],[2,8,9,10,14,15,16,17,18,113]⟩),(131068,⟨[],[2,8,9,10,11,13,14,15,16,70,71,72,73,74,75,76,77,105,106,107,108,109,110,111,112]⟩),(524272,⟨[.agd 70 (.int .u64),.agd 71 (.int .u64),.agd 72 (.int .u64),.agd 73 (.int .u64),.agd 74 (.int .u64),.agd 75 (.int .u64),.agd 76 (.int .u64),.agd 77 .bool],[2,8,9,10,11,13,14,15,16,78]⟩)]
def bits_Div64_k1 (hi lo y:Int):St:=⟨[(0,.d (.int .u64) hi),(1,.d (.int .u64) lo),(2,.d (.int .u64) y)],135,[],[],0,[],0⟩
def bits_Div64_k2 (hi lo y:Int):St:=⟨[(0,.d (.int .u64) hi),(1,.d (.int .u64) lo),(2,.d (.int .u64) y)],135,[],[],0,[],0⟩
def q3t_ (y s yn1 yn0 un32 un1 un0 q1 rhat:Int):St:=⟨[(2,.d (.int .u64) y),(8,.d (.int .u64) s),(9,.d (.int .u64) yn1),(10,.d (.int .u64) yn0),(11,.d (.int .u64) un32),(13,.d (.int .u64) un1),(14,.d (.int .u64) un0),(15,.d (.int .u64) q1),(16,.d (.int .u64) rhat)],135,[],[],0,[],0⟩
def bits_Div64_k4 (y s yn1 yn0 un32 un1 un0 q1 rhat:Int) (t78:Bool):St:=⟨[(2,.d (.int .u64) y),(8,.d (.int .u64) s),(9,.d (.int .u64) yn1),(10,.d (.int .u64) yn0),(11,.d (.int .u64) un32),(13,.d (.int .u64) un1),(14,.d (.int .u64) un0),(15,.d (.int .u64) q1),(16,.d (.int .u64) rhat),(78,dB t78)],135,[],[],0,[],0⟩
def bits_Div64_k5 (y s yn1 yn0 un32 un1 un0 q1:Int):St:=⟨[(2,.d (.int .u64) y),(8,.d (.int .u64) s),(9,.d (.int .u64) yn1),(10,.d (.int .u64) yn0),(11,.d (.int .u64) un32),(13,.d (.int .u64) un1),(14,.d (.int .u64) un0),(15,.d (.int .u64) q1)],135,[],[],0,[],0⟩
def q3u_ (y s yn1 yn0 un0 q1 rhat un21 q0:Int):St:=⟨[(2,.d (.int .u64) y),(8,.d (.int .u64) s),(9,.d (.int .u64) yn1),(10,.d (.int .u64) yn0),(14,.d (.int .u64) un0),(15,.d (.int .u64) q1),(16,.d (.int .u64) rhat),(17,.d (.int .u64) un21),(18,.d (.int .u64) q0)],135,[],[],0,[],0⟩
def bits_Div64_k7 (y s yn1 yn0 un0 q1 rhat un21 q0:Int) (t113:Bool):St:=⟨[(2,.d (.int .u64) y),(8,.d (.int .u64) s),(9,.d (.int .u64) yn1),(10,.d (.int .u64) yn0),(14,.d (.int .u64) un0),(15,.d (.int .u64) q1),(16,.d (.int .u64) rhat),(17,.d (.int .u64) un21),(18,.d (.int .u64) q0),(113,dB t113)],135,[],[],0,[],0⟩
def bits_Div64_k8 (y s un0 q1 un21 q0:Int):St:=⟨[(2,.d (.int .u64) y),(8,.d (.int .u64) s),(14,.d (.int .u64) un0),(15,.d (.int .u64) q1),(17,.d (.int .u64) un21),(18,.d (.int .u64) q0)],135,[],[],0,[],0⟩
def bits_Div64_m1 (j2:Int->Int->Int->bits_Div64_R) (hi lo y:Int):bits_Div64_R :=
 if le y hi=true then Option.none else j2 hi lo y
def bits_Div64_m2 (j3:Int->Int->Int->Int->Int->Int->Int->Int->Int->bits_Div64_R) (hi lo y:Int):bits_Div64_R :=
 if eqi hi 0=true then need (nei y 0) (need (nei y 0) (some (quo .u64 lo y,rem lo y,()))) else Option.bind (q5g_ (y,())) fun y_1=>need (ge (cvt .u64 y_1.1) 0) (need (ge (cvt .u64 y_1.1) 0) (need (ge (Sx.sub .u64 64 (cvt .u64 y_1.1)) 0) (need (ge (cvt .u64 y_1.1) 0) (need (nei (Sx.shr .u64 (Sx.shl .u64 y (cvt .u64 y_1.1)) 32) 0) (j3 (Sx.shl .u64 y (cvt .u64 y_1.1)) (cvt .u64 y_1.1) (Sx.shr .u64 (Sx.shl .u64 y (cvt .u64 y_1.1)) 32) (Sx.band .u64 (Sx.shl .u64 y (cvt .u64 y_1.1)) 4294967295) (Sx.bor .u64 (Sx.shl .u64 hi (cvt .u64 y_1.1)) (Sx.shr .u64 lo (Sx.sub .u64 64 (cvt .u64 y_1.1)))) (Sx.shr .u64 (Sx.shl .u64 lo (cvt .u64 y_1.1)) 32) (Sx.band .u64 (Sx.shl .u64 lo (cvt .u64 y_1.1)) 4294967295) (quo .u64 (Sx.bor .u64 (Sx.shl .u64 hi (cvt .u64 y_1.1)) (Sx.shr .u64 lo (Sx.sub .u64 64 (cvt .u64 y_1.1)))) (Sx.shr .u64 (Sx.shl .u64 y (cvt .u64 y_1.1)) 32)) (Sx.sub .u64 (Sx.bor .u64 (Sx.shl .u64 hi (cvt .u64 y_1.1)) (Sx.shr .u64 lo (Sx.sub .u64 64 (cvt .u64 y_1.1)))) (mul .u64 (quo .u64 (Sx.bor .u64 (Sx.shl .u64 hi (cvt .u64 y_1.1)) (Sx.shr .u64 lo (Sx.sub .u64 64 (cvt .u64 y_1.1)))) (Sx.shr .u64 (Sx.shl .u64 y (cvt .u64 y_1.1)) 32)) (Sx.shr .u64 (Sx.shl .u64 y (cvt .u64 y_1.1)) 32))))))))
def bits_Div64_m3 (j4:Int->Int->Int->Int->Int->Int->Int->Int->Int->Bool->bits_Div64_R) (self3:Int->Int->Int->Int->Int->Int->Int->Int->Int->bits_Div64_R) (y s yn1 yn0 un32 un1 un0 q1 rhat:Int):bits_Div64_R :=
 if ge q1 4294967296=true then j4 y s yn1 yn0 un32 un1 un0 q1 rhat true else j4 y s yn1 yn0 un32 un1 un0 q1 rhat (gt (mul .u64 q1 yn0) (add .u64 (mul .u64 4294967296 rhat) un1))
def bits_Div64_m4 (j5:Int->Int->Int->Int->Int->Int->Int->Int->bits_Div64_R) (self3:Int->Int->Int->Int->Int->Int->Int->Int->Int->bits_Div64_R) (y s yn1 yn0 un32 un1 un0 q1 rhat:Int) (t78:Bool):bits_Div64_R :=
 if t78=true then if ge (add .u64 rhat yn1) 4294967296=true then j5 y s yn1 yn0 un32 un1 un0 (Sx.sub .u64 q1 1) else self3 y s yn1 yn0 un32 un1 un0 (Sx.sub .u64 q1 1) (add .u64 rhat yn1) else j5 y s yn1 yn0 un32 un1 un0 q1
def bits_Div64_m5 (j6:Int->Int->Int->Int->Int->Int->Int->Int->Int->bits_Div64_R) (y s yn1 yn0 un32 un1 un0 q1:Int):bits_Div64_R :=
 need (nei yn1 0) (j6 y s yn1 yn0 un0 q1 (Sx.sub .u64 (Sx.sub .u64 (add .u64 (mul .u64 un32 4294967296) un1) (mul .u64 q1 y)) (mul .u64 (quo .u64 (Sx.sub .u64 (add .u64 (mul .u64 un32 4294967296) un1) (mul .u64 q1 y)) yn1) yn1)) (Sx.sub .u64 (add .u64 (mul .u64 un32 4294967296) un1) (mul .u64 q1 y)) (quo .u64 (Sx.sub .u64 (add .u64 (mul .u64 un32 4294967296) un1) (mul .u64 q1 y)) yn1))
def bits_Div64_m6 (j7:Int->Int->Int->Int->Int->Int->Int->Int->Int->Bool->bits_Div64_R) (self6:Int->Int->Int->Int->Int->Int->Int->Int->Int->bits_Div64_R) (y s yn1 yn0 un0 q1 rhat un21 q0:Int):bits_Div64_R :=
 if ge q0 4294967296=true then j7 y s yn1 yn0 un0 q1 rhat un21 q0 true else j7 y s yn1 yn0 un0 q1 rhat un21 q0 (gt (mul .u64 q0 yn0) (add .u64 (mul .u64 4294967296 rhat) un0))
def bits_Div64_m7 (j8:Int->Int->Int->Int->Int->Int->bits_Div64_R) (self6:Int->Int->Int->Int->Int->Int->Int->Int->Int->bits_Div64_R) (y s yn1 yn0 un0 q1 rhat un21 q0:Int) (t113:Bool):bits_Div64_R :=
 if t113=true then if ge (add .u64 rhat yn1) 4294967296=true then j8 y s un0 q1 un21 (Sx.sub .u64 q0 1) else self6 y s yn1 yn0 un0 q1 (add .u64 rhat yn1) un21 (Sx.sub .u64 q0 1) else j8 y s un0 q1 un21 q0
def bits_Div64_m8 (y s un0 q1 un21 q0:Int):bits_Div64_R :=
 need (ge s 0) (some (add .u64 (mul .u64 q1 4294967296) q0,Sx.shr .u64 (Sx.sub .u64 (add .u64 (mul .u64 un21 4294967296) un0) (mul .u64 q0 y)) s,()))
def bits_Div64_m0 (j1:Int->Int->Int->bits_Div64_R) (hi lo y:Int):bits_Div64_R :=
 if eqi y 0=true then Option.none else j1 hi lo y
def bits_Div64_K8:=bits_Div64_m8
def bits_Div64_K7 (u6:Int->Int->Int->Int->Int->Int->Int->Int->Int->bits_Div64_R):=bits_Div64_m7 (bits_Div64_K8) u6
def bits_Div64_K6 (y s yn1 yn0 un0 q1 rhat un21 q0:Int):bits_Div64_R :=
 loopF (fun self s=>bits_Div64_m6 (bits_Div64_K7 (fun y s yn1 yn0 un0 q1 rhat un21 q0=>self (y,s,yn1,yn0,un0,q1,rhat,un21,q0))) (fun y s yn1 yn0 un0 q1 rhat un21 q0=>self (y,s,yn1,yn0,un0,q1,rhat,un21,q0)) s.1 s.2.1 s.2.2.1 s.2.2.2.1 s.2.2.2.2.1 s.2.2.2.2.2.1 s.2.2.2.2.2.2.1 s.2.2.2.2.2.2.2.1 s.2.2.2.2.2.2.2.2) 18446744073709551616 (y,s,yn1,yn0,un0,q1,rhat,un21,q0)
def bits_Div64_K5:=bits_Div64_m5 (bits_Div64_K6)
def bits_Div64_K4 (u3:Int->Int->Int->Int->Int->Int->Int->Int->Int->bits_Div64_R):=bits_Div64_m4 (bits_Div64_K5) u3
def bits_Div64_K3 (y s yn1 yn0 un32 un1 un0 q1 rhat:Int):bits_Div64_R :=
 loopF (fun self s=>bits_Div64_m3 (bits_Div64_K4 (fun y s yn1 yn0 un32 un1 un0 q1 rhat=>self (y,s,yn1,yn0,un32,un1,un0,q1,rhat))) (fun y s yn1 yn0 un32 un1 un0 q1 rhat=>self (y,s,yn1,yn0,un32,un1,un0,q1,rhat)) s.1 s.2.1 s.2.2.1 s.2.2.2.1 s.2.2.2.2.1 s.2.2.2.2.2.1 s.2.2.2.2.2.2.1 s.2.2.2.2.2.2.2.1 s.2.2.2.2.2.2.2.2) 18446744073709551616 (y,s,yn1,yn0,un32,un1,un0,q1,rhat)
def bits_Div64_K2:=bits_Div64_m2 (bits_Div64_K3)
def bits_Div64_K1:=bits_Div64_m1 (bits_Div64_K2)
def bits_Div64 (x:As [.int .u64,.int .u64,.int .u64]):bits_Div64_R:=bits_Div64_m0 bits_Div64_K1 x.1 x.2.1 x.2.2.1
noncomputable abbrev bits_Div64_P:=pfn Try.prog bits_Div64_e 6 18446744073709551616 (Ev.get bits_Div64_h) 74 bits_Div64_s
theorem bits_Div64_c8 {J y s un0 q1 un21 q0}:bits_Div64_P J 524287 [] (bits_Div64_k8 y s un0 q1 un21 q0)=bits_Div64_m8 y s un0 q1 un21 q0:=by kernel_rfl
theorem bits_Div64_c7 {J w6 y s yn1 yn0 un0 q1 rhat un21 q0 t113}:bits_Div64_P J 8388592 [w6] (bits_Div64_k7 y s yn1 yn0 un0 q1 rhat un21 q0 t113)=bits_Div64_m7 (fun y s un0 q1 un21 q0=>J 524287 [] (bits_Div64_k8 y s un0 q1 un21 q0)) (fun y s yn1 yn0 un0 q1 rhat un21 q0=>w6 (q3u_ y s yn1 yn0 un0 q1 rhat un21 q0)) y s yn1 yn0 un0 q1 rhat un21 q0 t113:=by kernel_rfl
theorem bits_Div64_c6 {J w6 y s yn1 yn0 un0 q1 rhat un21 q0}:bits_Div64_P J 2097148 [w6] (q3u_ y s yn1 yn0 un0 q1 rhat un21 q0)=bits_Div64_m6 (fun y s yn1 yn0 un0 q1 rhat un21 q0 t113=>J 8388592 [w6] (bits_Div64_k7 y s yn1 yn0 un0 q1 rhat un21 q0 t113)) (fun y s yn1 yn0 un0 q1 rhat un21 q0=>w6 (q3u_ y s yn1 yn0 un0 q1 rhat un21 q0)) y s yn1 yn0 un0 q1 rhat un21 q0:=by kernel_rfl
theorem bits_Div64_c5 {J y s yn1 yn0 un32 un1 un0 q1}:bits_Div64_P J 32767 [] (bits_Div64_k5 y s yn1 yn0 un32 un1 un0 q1)=bits_Div64_m5 (fun y s yn1 yn0 un0 q1 rhat un21 q0=>J 2097148 [] (q3u_ y s yn1 yn0 un0 q1 rhat un21 q0)) y s yn1 yn0 un32 un1 un0 q1:=by kernel_rfl
theorem bits_Div64_c4 {J w3 y s yn1 yn0 un32 un1 un0 q1 rhat t78}:bits_Div64_P J 524272 [w3] (bits_Div64_k4 y s yn1 yn0 un32 un1 un0 q1 rhat t78)=bits_Div64_m4 (fun y s yn1 yn0 un32 un1 un0 q1=>J 32767 [] (bits_Div64_k5 y s yn1 yn0 un32 un1 un0 q1)) (fun y s yn1 yn0 un32 un1 un0 q1 rhat=>w3 (q3t_ y s yn1 yn0 un32 un1 un0 q1 rhat)) y s yn1 yn0 un32 un1 un0 q1 rhat t78:=by kernel_rfl
theorem bits_Div64_c3 {J w3 y s yn1 yn0 un32 un1 un0 q1 rhat}:bits_Div64_P J 131068 [w3] (q3t_ y s yn1 yn0 un32 un1 un0 q1 rhat)=bits_Div64_m3 (fun y s yn1 yn0 un32 un1 un0 q1 rhat t78=>J 524272 [w3] (bits_Div64_k4 y s yn1 yn0 un32 un1 un0 q1 rhat t78)) (fun y s yn1 yn0 un32 un1 un0 q1 rhat=>w3 (q3t_ y s yn1 yn0 un32 un1 un0 q1 rhat)) y s yn1 yn0 un32 un1 un0 q1 rhat:=by kernel_rfl
theorem bits_Div64_c2 {J hi lo y}:bits_Div64_P J 7 [] (bits_Div64_k2 hi lo y)=bits_Div64_m2 (fun y s yn1 yn0 un32 un1 un0 q1 rhat=>J 131068 [] (q3t_ y s yn1 yn0 un32 un1 un0 q1 rhat)) hi lo y:=by kernel_rfl
theorem bits_Div64_c1 {J hi lo y}:bits_Div64_P J 3 [] (bits_Div64_k1 hi lo y)=bits_Div64_m1 (fun hi lo y=>J 7 [] (bits_Div64_k2 hi lo y)) hi lo y:=by kernel_rfl
theorem bits_Div64_c0 (J:Orc (As [.int .u64,.int .u64])) (x:As [.int .u64,.int .u64,.int .u64]):rfn Try.prog bits_Div64_e 6 18446744073709551616 (Ev.get bits_Div64_h) 74 bits_Div64_s J x=bits_Div64_m0 (fun hi lo y=>J 3 [] (bits_Div64_k1 hi lo y)) x.1 x.2.1 x.2.2.1:=by kernel_rfl
noncomputable abbrev bits_Div64_J:=jfn Try.prog bits_Div64_e 6 18446744073709551616 (Ev.get bits_Div64_h) 74 bits_Div64_s
theorem bits_Div64_g8  (y s un0 q1 un21 q0):bits_Div64_J 524287 [] (bits_Div64_k8 y s un0 q1 un21 q0)=bits_Div64_K8 y s un0 q1 un21 q0:=gN (by decide) bits_Div64_c8
theorem bits_Div64_g7  (w6 y s yn1 yn0 un0 q1 rhat un21 q0 t113):bits_Div64_J 8388592 [w6] (bits_Div64_k7 y s yn1 yn0 un0 q1 rhat un21 q0 t113)=bits_Div64_K7 (fun y s yn1 yn0 un0 q1 rhat un21 q0=>w6 (q3u_ y s yn1 yn0 un0 q1 rhat un21 q0)) y s yn1 yn0 un0 q1 rhat un21 q0 t113:=gN (by decide) (bits_Div64_c7.trans (by simp only [bits_Div64_g8]; rfl))
theorem bits_Div64_g6  (y s yn1 yn0 un0 q1 rhat un21 q0):bits_Div64_J 2097148 [] (q3u_ y s yn1 yn0 un0 q1 rhat un21 q0)=bits_Div64_K6 y s yn1 yn0 un0 q1 rhat un21 q0:=gL (σ:=(Int)×(Int)×(Int)×(Int)×(Int)×(Int)×(Int)×(Int)×(Int)) (mk:=fun s=>q3u_ s.1 s.2.1 s.2.2.1 s.2.2.2.1 s.2.2.2.2.1 s.2.2.2.2.2.1 s.2.2.2.2.2.2.1 s.2.2.2.2.2.2.2.1 s.2.2.2.2.2.2.2.2) (by decide) (by kernel_rfl) (fun w6 s=>bits_Div64_c6.trans (by simp only [bits_Div64_g7])) (y,s,yn1,yn0,un0,q1,rhat,un21,q0)
theorem bits_Div64_g5  (y s yn1 yn0 un32 un1 un0 q1):bits_Div64_J 32767 [] (bits_Div64_k5 y s yn1 yn0 un32 un1 un0 q1)=bits_Div64_K5 y s yn1 yn0 un32 un1 un0 q1:=gN (by decide) (bits_Div64_c5.trans (by simp only [bits_Div64_g6]; rfl))
theorem bits_Div64_g4  (w3 y s yn1 yn0 un32 un1 un0 q1 rhat t78):bits_Div64_J 524272 [w3] (bits_Div64_k4 y s yn1 yn0 un32 un1 un0 q1 rhat t78)=bits_Div64_K4 (fun y s yn1 yn0 un32 un1 un0 q1 rhat=>w3 (q3t_ y s yn1 yn0 un32 un1 un0 q1 rhat)) y s yn1 yn0 un32 un1 un0 q1 rhat t78:=gN (by decide) (bits_Div64_c4.trans (by simp only [bits_Div64_g5]; rfl))
theorem bits_Div64_g3  (y s yn1 yn0 un32 un1 un0 q1 rhat):bits_Div64_J 131068 [] (q3t_ y s yn1 yn0 un32 un1 un0 q1 rhat)=bits_Div64_K3 y s yn1 yn0 un32 un1 un0 q1 rhat:=gL (σ:=(Int)×(Int)×(Int)×(Int)×(Int)×(Int)×(Int)×(Int)×(Int)) (mk:=fun s=>q3t_ s.1 s.2.1 s.2.2.1 s.2.2.2.1 s.2.2.2.2.1 s.2.2.2.2.2.1 s.2.2.2.2.2.2.1 s.2.2.2.2.2.2.2.1 s.2.2.2.2.2.2.2.2) (by decide) (by kernel_rfl) (fun w3 s=>bits_Div64_c3.trans (by simp only [bits_Div64_g4])) (y,s,yn1,yn0,un32,un1,un0,q1,rhat)
theorem bits_Div64_g2  (hi lo y):bits_Div64_J 7 [] (bits_Div64_k2 hi lo y)=bits_Div64_K2 hi lo y:=gN (by decide) (bits_Div64_c2.trans (by simp only [bits_Div64_g3]; rfl))
theorem bits_Div64_g1  (hi lo y):bits_Div64_J 3 [] (bits_Div64_k1 hi lo y)=bits_Div64_K1 hi lo y:=gN (by decide) (bits_Div64_c1.trans (by simp only [bits_Div64_g2]; rfl))
theorem bits_Div64_t (x:As [.int .u64,.int .u64,.int .u64]):evT Try.prog bits_Div64_e 6 18446744073709551616 (Ev.get bits_Div64_h) 74 bits_Div64_s x=bits_Div64 x:=by
 rw [qi_,bits_Div64_c0]
 simp only [bits_Div64_g1]
 rfl
theorem bits_Div64_ok:CtOk Try.prog (fun _=>True) 74 ⟨bits_Div64_s,bits_Div64⟩:=qa_ (q2_ bits_LeadingZeros64_ok q6_) bits_Div64_t
@[reducible] def q5m_:Sh:=⟨[.d QVT9,.d (.int .i64),.d (.int .i64)],[],[.pr (.int .i64) (.int .u8),.int .i64,.int .i64],[.d QVT9,.d (.bool)],[],0,[.pr (.int .i64) (.int .u8),.bool]⟩
def qeq_:Env:=(cts [(54,(⟨q5o_,qq_⟩:Ct)),(63,(⟨q2j_,q27_⟩:Ct)),(73,(⟨bits_Mul64_s,bits_Mul64⟩:Ct)),(74,(⟨bits_Div64_s,bits_Div64⟩:Ct))])
def qe2_:List (Nat×Hint):=[(15,⟨[],[1,2,3,6,8,73,74,75]⟩),(1023,⟨[],[3,6,11,13]⟩),(8191,⟨[],[6,8,13]⟩),(4092,⟨[],[3,6,11,13,73,74,75]⟩),(16368,⟨[.agd 73 (.int .u64),.agd 74 (.int .u64),.agd 75 .bool],[3,6,11,13,76]⟩),(6,⟨[],[1,2,3,6,32,73,74,75]⟩)]
def qir_ (num den:Int) (t32:Bool) (d d_2 t6 t6_2:Int):St:=⟨[(1,dI num),(2,dI den),(3,.pb 0 0),(6,.pb 1 0),(32,dB t32)],94,[],[(0,.box 75 [dI d,d8 d_2]),(1,.box 75 [dI t6,d8 t6_2])],2,[],0⟩
def qid_ (num den n d d_2 t6 t6_2:Int):St:=⟨[(1,dI num),(2,dI den),(3,.pb 0 0),(6,.pb 1 0),(8,dI n)],94,[],[(0,.box 75 [dI d,d8 d_2]),(1,.box 75 [dI t6,d8 t6_2])],2,[],0⟩
def q2n_ (q places d d_2 t6 t6_2:Int):St:=⟨[(3,.pb 0 0),(6,.pb 1 0),(11,.d (.int .u64) q),(13,d8 places)],94,[],[(0,.box 75 [dI d,d8 d_2]),(1,.box 75 [dI t6,d8 t6_2])],2,[],0⟩
def qha_ (q places:Int) (t76:Bool) (d d_2 t6 t6_2:Int):St:=⟨[(3,.pb 0 0),(6,.pb 1 0),(11,.d (.int .u64) q),(13,d8 places),(76,dB t76)],94,[],[(0,.box 75 [dI d,d8 d_2]),(1,.box 75 [dI t6,d8 t6_2])],2,[],0⟩
def qhf_ (q places d d_2 t6 t6_2:Int):St:=⟨[(3,.pb 0 0),(6,.pb 1 0),(11,.d (.int .u64) q),(13,d8 places)],94,[],[(0,.box 75 [dI d,d8 d_2]),(1,.box 75 [dI t6,d8 t6_2])],2,[],0⟩
def qig_ (n places t6 t6_2:Int):St:=⟨[(6,.pb 0 0),(8,dI n),(13,d8 places)],94,[],[(0,.box 75 [dI t6,d8 t6_2])],1,[],0⟩
def qib_ (j2:Int->Int->Int->Int->Int->Int->Int->Option (As [.pr (.int .i64) (.int .u8),.bool])) (num den:Int) (t32:Bool) (d d_2 t6 t6_2:Int):Option (As [.pr (.int .i64) (.int .u8),.bool]) :=
 if t32=true then some ((0,0),false,()) else if lt d 0=true then j2 num den (Sx.neg .i64 d) d d_2 t6 t6_2 else j2 num den d d d_2 t6 t6_2
@[reducible] def zF2:Type:=Int->Int->Int->Int->Int->Int->Option (As [.pr (.int .i64) (.int .u8),.bool])
def qh2_ (j3:zF2) (num den n d d_2 t6 t6_2:Int):Option (As [.pr (.int .i64) (.int .u8),.bool]) :=
 Option.bind (q27_ (Sx.sub .i64 6 (cvt .i64 d_2),())) fun y=>Option.bind (bits_Mul64 (cvt .u64 (mul .i64 n y.1),cvt .u64 num,())) fun y=>if ge y.1 (cvt .u64 den)=true then some ((0,0),false,()) else Option.bind (bits_Div64 (y.1,y.2.1,cvt .u64 den,())) fun y=>if nei y.2.1 0=true then some ((0,0),false,()) else j3 y.1 6 d d_2 t6 t6_2
@[reducible] def zF3:Type:=Int->Int->Bool->Int->Int->Int->Int->Option (As [.pr (.int .i64) (.int .u8),.bool])
def q4k_ (j4:zF3) (self3:zF2) (q places d d_2 t6 t6_2:Int):Option (As [.pr (.int .i64) (.int .u8),.bool]) :=
 if gt places 0=true then j4 q places (eqi (rem q 10) 0) d d_2 t6 t6_2 else j4 q places false d d_2 t6 t6_2
def qav_ (j5 self3:zF2) (q places:Int) (t76:Bool) (d d_2 t6 t6_2:Int):Option (As [.pr (.int .i64) (.int .u8),.bool]) :=
 if t76=true then self3 (quo .u64 q 10) (Sx.sub .u8 places 1) d d_2 t6 t6_2 else j5 q places d d_2 t6 t6_2
def qin_ (j6:Int->Int->Int->Int->Option (As [.pr (.int .i64) (.int .u8),.bool])) (q places d d_2 t6 t6_2:Int):Option (As [.pr (.int .i64) (.int .u8),.bool]) :=
 if gt q 1000000000000=true then some ((0,0),false,()) else if lt d 0=true then j6 (Sx.neg .i64 (cvt .i64 q)) places t6 t6_2 else j6 (cvt .i64 q) places t6 t6_2
def qnd_ (n places t6 t6_2:Int):Option (As [.pr (.int .i64) (.int .u8),.bool]) :=
 some ((n,places),true,())
def q4c_ (j1:zF3) (d:Int×Int) (num den:Int):Option (As [.pr (.int .i64) (.int .u8),.bool]) :=
 Option.bind (qq_ (d,())) fun y=>if (!y.1)=true then j1 num den true d.1 d.2 0 0 else if lt num 1=true then j1 num den true d.1 d.2 0 0 else if gt num 1000000000=true then j1 num den true d.1 d.2 0 0 else if lt den 1=true then j1 num den true d.1 d.2 0 0 else j1 num den (gt den 1000000000) d.1 d.2 0 0
def qnf_:=qnd_
def q7g_:=qin_ (qnf_)
def q4o_ (u3:zF2):=qav_ (q7g_) u3
def qh5_ (q places d d_2 t6 t6_2:Int):Option (As [.pr (.int .i64) (.int .u8),.bool]) :=
 loopF (fun self s=>q4k_ (q4o_ (fun q places d d_2 t6 t6_2=>self (q,places,d,d_2,t6,t6_2))) (fun q places d d_2 t6 t6_2=>self (q,places,d,d_2,t6,t6_2)) s.1 s.2.1 s.2.2.1 s.2.2.2.1 s.2.2.2.2.1 s.2.2.2.2.2) 18446744073709551616 (q,places,d,d_2,t6,t6_2)
def qbj_:=qh2_ (qh5_)
def q2o_:=qib_ (qbj_)
def q43_ (x:As [.pr (.int .i64) (.int .u8),.int .i64,.int .i64]):Option (As [.pr (.int .i64) (.int .u8),.bool]):=q4c_ q2o_ x.1 x.2.1 x.2.2.1
noncomputable abbrev units_Times_P:=pfn Try.prog qeq_ 6 18446744073709551616 (Ev.get qe2_) 58 q5m_
theorem q10c_ {J n places t6 t6_2}:units_Times_P J 8191 [] (qig_ n places t6 t6_2)=qnd_ n places t6 t6_2:=by kernel_rfl
theorem qva_ {J q places d d_2 t6 t6_2}:units_Times_P J 1023 [] (qhf_ q places d d_2 t6 t6_2)=qin_ (fun n places t6 t6_2=>J 8191 [] (qig_ n places t6 t6_2)) q places d d_2 t6 t6_2:=by kernel_rfl
theorem quu_ {J w3 q places t76 d d_2 t6 t6_2}:units_Times_P J 16368 [w3] (qha_ q places t76 d d_2 t6 t6_2)=qav_ (fun q places d d_2 t6 t6_2=>J 1023 [] (qhf_ q places d d_2 t6 t6_2)) (fun q places d d_2 t6 t6_2=>w3 (q2n_ q places d d_2 t6 t6_2)) q places t76 d d_2 t6 t6_2:=by kernel_rfl
theorem qug_ {J w3 q places d d_2 t6 t6_2}:units_Times_P J 4092 [w3] (q2n_ q places d d_2 t6 t6_2)=q4k_ (fun q places t76 d d_2 t6 t6_2=>J 16368 [w3] (qha_ q places t76 d d_2 t6 t6_2)) (fun q places d d_2 t6 t6_2=>w3 (q2n_ q places d d_2 t6 t6_2)) q places d d_2 t6 t6_2:=by kernel_rfl
theorem qy7_ {J num den n d d_2 t6 t6_2}:units_Times_P J 15 [] (qid_ num den n d d_2 t6 t6_2)=qh2_ (fun q places d d_2 t6 t6_2=>J 4092 [] (q2n_ q places d d_2 t6 t6_2)) num den n d d_2 t6 t6_2:=by kernel_rfl
theorem qvf_ {J num den t32 d d_2 t6 t6_2}:units_Times_P J 6 [] (qir_ num den t32 d d_2 t6 t6_2)=qib_ (fun num den n d d_2 t6 t6_2=>J 15 [] (qid_ num den n d d_2 t6 t6_2)) num den t32 d d_2 t6 t6_2:=by kernel_rfl
theorem qzy_ (J:Orc (As [.pr (.int .i64) (.int .u8),.bool])) (x:As [.pr (.int .i64) (.int .u8),.int .i64,.int .i64]):rfn Try.prog qeq_ 6 18446744073709551616 (Ev.get qe2_) 58 q5m_ J x=q4c_ (fun num den t32 d d_2 t6 t6_2=>J 6 [] (qir_ num den t32 d d_2 t6 t6_2)) x.1 x.2.1 x.2.2.1:=by kernel_rfl
noncomputable abbrev units_Times_J:=jfn Try.prog qeq_ 6 18446744073709551616 (Ev.get qe2_) 58 q5m_
theorem q10h_  (n places t6 t6_2):units_Times_J 8191 [] (qig_ n places t6 t6_2)=qnf_ n places t6 t6_2:=gN (by decide) q10c_
theorem qy2_  (q places d d_2 t6 t6_2):units_Times_J 1023 [] (qhf_ q places d d_2 t6 t6_2)=q7g_ q places d d_2 t6 t6_2:=gN (by decide) (qva_.trans (by simp only [q10h_]; rfl))
theorem q108_  (w3 q places t76 d d_2 t6 t6_2):units_Times_J 16368 [w3] (qha_ q places t76 d d_2 t6 t6_2)=q4o_ (fun q places d d_2 t6 t6_2=>w3 (q2n_ q places d d_2 t6 t6_2)) q places t76 d d_2 t6 t6_2:=gN (by decide) (quu_.trans (by simp only [qy2_]; rfl))
theorem qzf_  (q places d d_2 t6 t6_2):units_Times_J 4092 [] (q2n_ q places d d_2 t6 t6_2)=qh5_ q places d d_2 t6 t6_2:=gL (σ:=(Int)×(Int)×(Int)×(Int)×(Int)×(Int)) (mk:=fun s=>q2n_ s.1 s.2.1 s.2.2.1 s.2.2.2.1 s.2.2.2.2.1 s.2.2.2.2.2) (by decide) (by kernel_rfl) (fun w3 s=>qug_.trans (by simp only [q108_])) (q,places,d,d_2,t6,t6_2)
theorem qz9_  (num den n d d_2 t6 t6_2):units_Times_J 15 [] (qid_ num den n d d_2 t6 t6_2)=qbj_ num den n d d_2 t6 t6_2:=gN (by decide) (qy7_.trans (by simp only [qzf_]; rfl))
theorem qyq_  (num den t32 d d_2 t6 t6_2):units_Times_J 6 [] (qir_ num den t32 d d_2 t6 t6_2)=q2o_ num den t32 d d_2 t6 t6_2:=gN (by decide) (qvf_.trans (by simp only [qz9_]; rfl))
theorem q11t_ (x:As [.pr (.int .i64) (.int .u8),.int .i64,.int .i64]):evT Try.prog qeq_ 6 18446744073709551616 (Ev.get qe2_) 58 q5m_ x=q43_ x:=by
 rw [qi_,qzy_]
 simp only [qyq_]
 rfl
theorem qw4_:CtOk Try.prog (fun _=>True) 58 ⟨q5m_,q43_⟩:=qa_ (q2_ q7v_ (q2_ qic_ (q2_ bits_Mul64_ok (q2_ bits_Div64_ok q6_)))) q11t_
@[reducible] def qc4_:Sh:=⟨[.d QVT9,.d (.str),.d (.str)],[],[.pr (.int .i64) (.int .u8),.str,.str],[.d QVT9,.d (.bool)],[],0,[.pr (.int .i64) (.int .u8),.bool]⟩
def qlf_:Env:=(cts [(58,(⟨q5m_,q43_⟩:Ct))])
def qle_:List (Nat×Hint):=[(62,⟨[],[3,6,9,11,38]⟩)]
def qn4_ (t38:Bool) (d d_2 t6 t6_2:Int) (a:List UInt8) (a_2 a_3:Int) (b:List UInt8) (b_2 b_3:Int):St:=⟨[(3,.pb 0 0),(6,.pb 1 0),(9,.pb 2 0),(11,.pb 3 0),(38,dB t38)],54,[],[(0,.box 75 [dI d,d8 d_2]),(1,.box 75 [dI t6,d8 t6_2]),(2,.box 103 [dS a,dI a_2,dI a_3]),(3,.box 103 [dS b,dI b_2,dI b_3])],4,[],0⟩
def qj9_ (t38:Bool) (d d_2 t6 t6_2:Int) (a:List UInt8) (a_2 a_3:Int) (b:List UInt8) (b_2 b_3:Int):Option (As [.pr (.int .i64) (.int .u8),.bool]) :=
 if t38=true then some ((0,0),false,()) else Option.bind (q43_ ((d,d_2),mul .i64 a_2 b_3,mul .i64 a_3 b_2,())) fun y=>some (y.1,y.2.1,())
def qss_ (j1:Bool->Int->Int->Int->Int->List UInt8->Int->Int->List UInt8->Int->Int->Option (As [.pr (.int .i64) (.int .u8),.bool])) (d:Int×Int) (from' to':List UInt8):Option (As [.pr (.int .i64) (.int .u8),.bool]) :=
 if (!Ev.isV (.pr .str QVT8) (if eqs [] from'=true then some ([],1,1) else if eqs [37] from'=true then some ([],1,1) else if eqs [109] from'=true then some ([109],1,1) else if eqs [99,109] from'=true then some ([109],1,100) else if eqs [109,109] from'=true then some ([109],1,1000) else if eqs [115] from'=true then some ([115],1,1) else if eqs [109,115] from'=true then some ([115],1,1000) else if eqs [109,105,110] from'=true then some ([115],60,1) else if eqs [104] from'=true then some ([115],3600,1) else if eqs [98,97,114] from'=true then some ([98,97,114],1,1) else if eqs [109,98,97,114] from'=true then some ([98,97,114],1,1000) else if eqs [107,80,97] from'=true then some ([98,97,114],1,100) else if eqs [107,103] from'=true then some ([107,103],1,1) else if eqs [103] from'=true then some ([107,103],1,1000) else if eqs [116] from'=true then some ([107,103],1000,1) else if eqs [108] from'=true then some ([108],1,1) else if eqs [109,108] from'=true then some ([108],1,1000) else if eqs [67] from'=true then some ([67],1,1) else Option.none))=true then j1 true d.1 d.2 0 0 (Ev.gdV (.pr .str QVT8) (if eqs [] from'=true then some ([],1,1) else if eqs [37] from'=true then some ([],1,1) else if eqs [109] from'=true then some ([109],1,1) else if eqs [99,109] from'=true then some ([109],1,100) else if eqs [109,109] from'=true then some ([109],1,1000) else if eqs [115] from'=true then some ([115],1,1) else if eqs [109,115] from'=true then some ([115],1,1000) else if eqs [109,105,110] from'=true then some ([115],60,1) else if eqs [104] from'=true then some ([115],3600,1) else if eqs [98,97,114] from'=true then some ([98,97,114],1,1) else if eqs [109,98,97,114] from'=true then some ([98,97,114],1,1000) else if eqs [107,80,97] from'=true then some ([98,97,114],1,100) else if eqs [107,103] from'=true then some ([107,103],1,1) else if eqs [103] from'=true then some ([107,103],1,1000) else if eqs [116] from'=true then some ([107,103],1000,1) else if eqs [108] from'=true then some ([108],1,1) else if eqs [109,108] from'=true then some ([108],1,1000) else if eqs [67] from'=true then some ([67],1,1) else Option.none) ([],0,0)).1 (Ev.gdV (.pr .str QVT8) (if eqs [] from'=true then some ([],1,1) else if eqs [37] from'=true then some ([],1,1) else if eqs [109] from'=true then some ([109],1,1) else if eqs [99,109] from'=true then some ([109],1,100) else if eqs [109,109] from'=true then some ([109],1,1000) else if eqs [115] from'=true then some ([115],1,1) else if eqs [109,115] from'=true then some ([115],1,1000) else if eqs [109,105,110] from'=true then some ([115],60,1) else if eqs [104] from'=true then some ([115],3600,1) else if eqs [98,97,114] from'=true then some ([98,97,114],1,1) else if eqs [109,98,97,114] from'=true then some ([98,97,114],1,1000) else if eqs [107,80,97] from'=true then some ([98,97,114],1,100) else if eqs [107,103] from'=true then some ([107,103],1,1) else if eqs [103] from'=true then some ([107,103],1,1000) else if eqs [116] from'=true then some ([107,103],1000,1) else if eqs [108] from'=true then some ([108],1,1) else if eqs [109,108] from'=true then some ([108],1,1000) else if eqs [67] from'=true then some ([67],1,1) else Option.none) ([],0,0)).2.1 (Ev.gdV (.pr .str QVT8) (if eqs [] from'=true then some ([],1,1) else if eqs [37] from'=true then some ([],1,1) else if eqs [109] from'=true then some ([109],1,1) else if eqs [99,109] from'=true then some ([109],1,100) else if eqs [109,109] from'=true then some ([109],1,1000) else if eqs [115] from'=true then some ([115],1,1) else if eqs [109,115] from'=true then some ([115],1,1000) else if eqs [109,105,110] from'=true then some ([115],60,1) else if eqs [104] from'=true then some ([115],3600,1) else if eqs [98,97,114] from'=true then some ([98,97,114],1,1) else if eqs [109,98,97,114] from'=true then some ([98,97,114],1,1000) else if eqs [107,80,97] from'=true then some ([98,97,114],1,100) else if eqs [107,103] from'=true then some ([107,103],1,1) else if eqs [103] from'=true then some ([107,103],1,1000) else if eqs [116] from'=true then some ([107,103],1000,1) else if eqs [108] from'=true then some ([108],1,1) else if eqs [109,108] from'=true then some ([108],1,1000) else if eqs [67] from'=true then some ([67],1,1) else Option.none) ([],0,0)).2.2 (Ev.gdV (.pr .str QVT8) (if eqs [] to'=true then some ([],1,1) else if eqs [37] to'=true then some ([],1,1) else if eqs [109] to'=true then some ([109],1,1) else if eqs [99,109] to'=true then some ([109],1,100) else if eqs [109,109] to'=true then some ([109],1,1000) else if eqs [115] to'=true then some ([115],1,1) else if eqs [109,115] to'=true then some ([115],1,1000) else if eqs [109,105,110] to'=true then some ([115],60,1) else if eqs [104] to'=true then some ([115],3600,1) else if eqs [98,97,114] to'=true then some ([98,97,114],1,1) else if eqs [109,98,97,114] to'=true then some ([98,97,114],1,1000) else if eqs [107,80,97] to'=true then some ([98,97,114],1,100) else if eqs [107,103] to'=true then some ([107,103],1,1) else if eqs [103] to'=true then some ([107,103],1,1000) else if eqs [116] to'=true then some ([107,103],1000,1) else if eqs [108] to'=true then some ([108],1,1) else if eqs [109,108] to'=true then some ([108],1,1000) else if eqs [67] to'=true then some ([67],1,1) else Option.none) ([],0,0)).1 (Ev.gdV (.pr .str QVT8) (if eqs [] to'=true then some ([],1,1) else if eqs [37] to'=true then some ([],1,1) else if eqs [109] to'=true then some ([109],1,1) else if eqs [99,109] to'=true then some ([109],1,100) else if eqs [109,109] to'=true then some ([109],1,1000) else if eqs [115] to'=true then some ([115],1,1) else if eqs [109,115] to'=true then some ([115],1,1000) else if eqs [109,105,110] to'=true then some ([115],60,1) else if eqs [104] to'=true then some ([115],3600,1) else if eqs [98,97,114] to'=true then some ([98,97,114],1,1) else if eqs [109,98,97,114] to'=true then some ([98,97,114],1,1000) else if eqs [107,80,97] to'=true then some ([98,97,114],1,100) else if eqs [107,103] to'=true then some ([107,103],1,1) else if eqs [103] to'=true then some ([107,103],1,1000) else if eqs [116] to'=true then some ([107,103],1000,1) else if eqs [108] to'=true then some ([108],1,1) else if eqs [109,108] to'=true then some ([108],1,1000) else if eqs [67] to'=true then some ([67],1,1) else Option.none) ([],0,0)).2.1 (Ev.gdV (.pr .str QVT8) (if eqs [] to'=true then some ([],1,1) else if eqs [37] to'=true then some ([],1,1) else if eqs [109] to'=true then some ([109],1,1) else if eqs [99,109] to'=true then some ([109],1,100) else if eqs [109,109] to'=true then some ([109],1,1000) else if eqs [115] to'=true then some ([115],1,1) else if eqs [109,115] to'=true then some ([115],1,1000) else if eqs [109,105,110] to'=true then some ([115],60,1) else if eqs [104] to'=true then some ([115],3600,1) else if eqs [98,97,114] to'=true then some ([98,97,114],1,1) else if eqs [109,98,97,114] to'=true then some ([98,97,114],1,1000) else if eqs [107,80,97] to'=true then some ([98,97,114],1,100) else if eqs [107,103] to'=true then some ([107,103],1,1) else if eqs [103] to'=true then some ([107,103],1,1000) else if eqs [116] to'=true then some ([107,103],1000,1) else if eqs [108] to'=true then some ([108],1,1) else if eqs [109,108] to'=true then some ([108],1,1000) else if eqs [67] to'=true then some ([67],1,1) else Option.none) ([],0,0)).2.2 else if (!Ev.isV (.pr .str QVT8) (if eqs [] to'=true then some ([],1,1) else if eqs [37] to'=true then some ([],1,1) else if eqs [109] to'=true then some ([109],1,1) else if eqs [99,109] to'=true then some ([109],1,100) else if eqs [109,109] to'=true then some ([109],1,1000) else if eqs [115] to'=true then some ([115],1,1) else if eqs [109,115] to'=true then some ([115],1,1000) else if eqs [109,105,110] to'=true then some ([115],60,1) else if eqs [104] to'=true then some ([115],3600,1) else if eqs [98,97,114] to'=true then some ([98,97,114],1,1) else if eqs [109,98,97,114] to'=true then some ([98,97,114],1,1000) else if eqs [107,80,97] to'=true then some ([98,97,114],1,100) else if eqs [107,103] to'=true then some ([107,103],1,1) else if eqs [103] to'=true then some ([107,103],1,1000) else if eqs [116] to'=true then some ([107,103],1000,1) else if eqs [108] to'=true then some ([108],1,1) else if eqs [109,108] to'=true then some ([108],1,1000) else if eqs [67] to'=true then some ([67],1,1) else Option.none))=true then j1 true d.1 d.2 0 0 (Ev.gdV (.pr .str QVT8) (if eqs [] from'=true then some ([],1,1) else if eqs [37] from'=true then some ([],1,1) else if eqs [109] from'=true then some ([109],1,1) else if eqs [99,109] from'=true then some ([109],1,100) else if eqs [109,109] from'=true then some ([109],1,1000) else if eqs [115] from'=true then some ([115],1,1) else if eqs [109,115] from'=true then some ([115],1,1000) else if eqs [109,105,110] from'=true then some ([115],60,1) else if eqs [104] from'=true then some ([115],3600,1) else if eqs [98,97,114] from'=true then some ([98,97,114],1,1) else if eqs [109,98,97,114] from'=true then some ([98,97,114],1,1000) else if eqs [107,80,97] from'=true then some ([98,97,114],1,100) else if eqs [107,103] from'=true then some ([107,103],1,1) else if eqs [103] from'=true then some ([107,103],1,1000) else if eqs [116] from'=true then some ([107,103],1000,1) else if eqs [108] from'=true then some ([108],1,1) else if eqs [109,108] from'=true then some ([108],1,1000) else if eqs [67] from'=true then some ([67],1,1) else Option.none) ([],0,0)).1 (Ev.gdV (.pr .str QVT8) (if eqs [] from'=true then some ([],1,1) else if eqs [37] from'=true then some ([],1,1) else if eqs [109] from'=true then some ([109],1,1) else if eqs [99,109] from'=true then some ([109],1,100) else if eqs [109,109] from'=true then some ([109],1,1000) else if eqs [115] from'=true then some ([115],1,1) else if eqs [109,115] from'=true then some ([115],1,1000) else if eqs [109,105,110] from'=true then some ([115],60,1) else if eqs [104] from'=true then some ([115],3600,1) else if eqs [98,97,114] from'=true then some ([98,97,114],1,1) else if eqs [109,98,97,114] from'=true then some ([98,97,114],1,1000) else if eqs [107,80,97] from'=true then some ([98,97,114],1,100) else if eqs [107,103] from'=true then some ([107,103],1,1) else if eqs [103] from'=true then some ([107,103],1,1000) else if eqs [116] from'=true then some ([107,103],1000,1) else if eqs [108] from'=true then some ([108],1,1) else if eqs [109,108] from'=true then some ([108],1,1000) else if eqs [67] from'=true then some ([67],1,1) else Option.none) ([],0,0)).2.1 (Ev.gdV (.pr .str QVT8) (if eqs [] from'=true then some ([],1,1) else if eqs [37] from'=true then some ([],1,1) else if eqs [109] from'=true then some ([109],1,1) else if eqs [99,109] from'=true then some ([109],1,100) else if eqs [109,109] from'=true then some ([109],1,1000) else if eqs [115] from'=true then some ([115],1,1) else if eqs [109,115] from'=true then some ([115],1,1000) else if eqs [109,105,110] from'=true then some ([115],60,1) else if eqs [104] from'=true then some ([115],3600,1) else if eqs [98,97,114] from'=true then some ([98,97,114],1,1) else if eqs [109,98,97,114] from'=true then some ([98,97,114],1,1000) else if eqs [107,80,97] from'=true then some ([98,97,114],1,100) else if eqs [107,103] from'=true then some ([107,103],1,1) else if eqs [103] from'=true then some ([107,103],1,1000) else if eqs [116] from'=true then some ([107,103],1000,1) else if eqs [108] from'=true then some ([108],1,1) else if eqs [109,108] from'=true then some ([108],1,1000) else if eqs [67] from'=true then some ([67],1,1) else Option.none) ([],0,0)).2.2 (Ev.gdV (.pr .str QVT8) (if eqs [] to'=true then some ([],1,1) else if eqs [37] to'=true then some ([],1,1) else if eqs [109] to'=true then some ([109],1,1) else if eqs [99,109] to'=true then some ([109],1,100) else if eqs [109,109] to'=true then some ([109],1,1000) else if eqs [115] to'=true then some ([115],1,1) else if eqs [109,115] to'=true then some ([115],1,1000) else if eqs [109,105,110] to'=true then some ([115],60,1) else if eqs [104] to'=true then some ([115],3600,1) else if eqs [98,97,114] to'=true then some ([98,97,114],1,1) else if eqs [109,98,97,114] to'=true then some ([98,97,114],1,1000) else if eqs [107,80,97] to'=true then some ([98,97,114],1,100) else if eqs [107,103] to'=true then some ([107,103],1,1) else if eqs [103] to'=true then some ([107,103],1,1000) else if eqs [116] to'=true then some ([107,103],1000,1) else if eqs [108] to'=true then some ([108],1,1) else if eqs [109,108] to'=true then some ([108],1,1000) else if eqs [67] to'=true then some ([67],1,1) else Option.none) ([],0,0)).1 (Ev.gdV (.pr .str QVT8) (if eqs [] to'=true then some ([],1,1) else if eqs [37] to'=true then some ([],1,1) else if eqs [109] to'=true then some ([109],1,1) else if eqs [99,109] to'=true then some ([109],1,100) else if eqs [109,109] to'=true then some ([109],1,1000) else if eqs [115] to'=true then some ([115],1,1) else if eqs [109,115] to'=true then some ([115],1,1000) else if eqs [109,105,110] to'=true then some ([115],60,1) else if eqs [104] to'=true then some ([115],3600,1) else if eqs [98,97,114] to'=true then some ([98,97,114],1,1) else if eqs [109,98,97,114] to'=true then some ([98,97,114],1,1000) else if eqs [107,80,97] to'=true then some ([98,97,114],1,100) else if eqs [107,103] to'=true then some ([107,103],1,1) else if eqs [103] to'=true then some ([107,103],1,1000) else if eqs [116] to'=true then some ([107,103],1000,1) else if eqs [108] to'=true then some ([108],1,1) else if eqs [109,108] to'=true then some ([108],1,1000) else if eqs [67] to'=true then some ([67],1,1) else Option.none) ([],0,0)).2.1 (Ev.gdV (.pr .str QVT8) (if eqs [] to'=true then some ([],1,1) else if eqs [37] to'=true then some ([],1,1) else if eqs [109] to'=true then some ([109],1,1) else if eqs [99,109] to'=true then some ([109],1,100) else if eqs [109,109] to'=true then some ([109],1,1000) else if eqs [115] to'=true then some ([115],1,1) else if eqs [109,115] to'=true then some ([115],1,1000) else if eqs [109,105,110] to'=true then some ([115],60,1) else if eqs [104] to'=true then some ([115],3600,1) else if eqs [98,97,114] to'=true then some ([98,97,114],1,1) else if eqs [109,98,97,114] to'=true then some ([98,97,114],1,1000) else if eqs [107,80,97] to'=true then some ([98,97,114],1,100) else if eqs [107,103] to'=true then some ([107,103],1,1) else if eqs [103] to'=true then some ([107,103],1,1000) else if eqs [116] to'=true then some ([107,103],1000,1) else if eqs [108] to'=true then some ([108],1,1) else if eqs [109,108] to'=true then some ([108],1,1000) else if eqs [67] to'=true then some ([67],1,1) else Option.none) ([],0,0)).2.2 else j1 (nes (Ev.gdV (.pr .str QVT8) (if eqs [] from'=true then some ([],1,1) else if eqs [37] from'=true then some ([],1,1) else if eqs [109] from'=true then some ([109],1,1) else if eqs [99,109] from'=true then some ([109],1,100) else if eqs [109,109] from'=true then some ([109],1,1000) else if eqs [115] from'=true then some ([115],1,1) else if eqs [109,115] from'=true then some ([115],1,1000) else if eqs [109,105,110] from'=true then some ([115],60,1) else if eqs [104] from'=true then some ([115],3600,1) else if eqs [98,97,114] from'=true then some ([98,97,114],1,1) else if eqs [109,98,97,114] from'=true then some ([98,97,114],1,1000) else if eqs [107,80,97] from'=true then some ([98,97,114],1,100) else if eqs [107,103] from'=true then some ([107,103],1,1) else if eqs [103] from'=true then some ([107,103],1,1000) else if eqs [116] from'=true then some ([107,103],1000,1) else if eqs [108] from'=true then some ([108],1,1) else if eqs [109,108] from'=true then some ([108],1,1000) else if eqs [67] from'=true then some ([67],1,1) else Option.none) ([],0,0)).1 (Ev.gdV (.pr .str QVT8) (if eqs [] to'=true then some ([],1,1) else if eqs [37] to'=true then some ([],1,1) else if eqs [109] to'=true then some ([109],1,1) else if eqs [99,109] to'=true then some ([109],1,100) else if eqs [109,109] to'=true then some ([109],1,1000) else if eqs [115] to'=true then some ([115],1,1) else if eqs [109,115] to'=true then some ([115],1,1000) else if eqs [109,105,110] to'=true then some ([115],60,1) else if eqs [104] to'=true then some ([115],3600,1) else if eqs [98,97,114] to'=true then some ([98,97,114],1,1) else if eqs [109,98,97,114] to'=true then some ([98,97,114],1,1000) else if eqs [107,80,97] to'=true then some ([98,97,114],1,100) else if eqs [107,103] to'=true then some ([107,103],1,1) else if eqs [103] to'=true then some ([107,103],1,1000) else if eqs [116] to'=true then some ([107,103],1000,1) else if eqs [108] to'=true then some ([108],1,1) else if eqs [109,108] to'=true then some ([108],1,1000) else if eqs [67] to'=true then some ([67],1,1) else Option.none) ([],0,0)).1) d.1 d.2 0 0 (Ev.gdV (.pr .str QVT8) (if eqs [] from'=true then some ([],1,1) else if eqs [37] from'=true then some ([],1,1) else if eqs [109] from'=true then some ([109],1,1) else if eqs [99,109] from'=true then some ([109],1,100) else if eqs [109,109] from'=true then some ([109],1,1000) else if eqs [115] from'=true then some ([115],1,1) else if eqs [109,115] from'=true then some ([115],1,1000) else if eqs [109,105,110] from'=true then some ([115],60,1) else if eqs [104] from'=true then some ([115],3600,1) else if eqs [98,97,114] from'=true then some ([98,97,114],1,1) else if eqs [109,98,97,114] from'=true then some ([98,97,114],1,1000) else if eqs [107,80,97] from'=true then some ([98,97,114],1,100) else if eqs [107,103] from'=true then some ([107,103],1,1) else if eqs [103] from'=true then some ([107,103],1,1000) else if eqs [116] from'=true then some ([107,103],1000,1) else if eqs [108] from'=true then some ([108],1,1) else if eqs [109,108] from'=true then some ([108],1,1000) else if eqs [67] from'=true then some ([67],1,1) else Option.none) ([],0,0)).1 (Ev.gdV (.pr .str QVT8) (if eqs [] from'=true then some ([],1,1) else if eqs [37] from'=true then some ([],1,1) else if eqs [109] from'=true then some ([109],1,1) else if eqs [99,109] from'=true then some ([109],1,100) else if eqs [109,109] from'=true then some ([109],1,1000) else if eqs [115] from'=true then some ([115],1,1) else if eqs [109,115] from'=true then some ([115],1,1000) else if eqs [109,105,110] from'=true then some ([115],60,1) else if eqs [104] from'=true then some ([115],3600,1) else if eqs [98,97,114] from'=true then some ([98,97,114],1,1) else if eqs [109,98,97,114] from'=true then some ([98,97,114],1,1000) else if eqs [107,80,97] from'=true then some ([98,97,114],1,100) else if eqs [107,103] from'=true then some ([107,103],1,1) else if eqs [103] from'=true then some ([107,103],1,1000) else if eqs [116] from'=true then some ([107,103],1000,1) else if eqs [108] from'=true then some ([108],1,1) else if eqs [109,108] from'=true then some ([108],1,1000) else if eqs [67] from'=true then some ([67],1,1) else Option.none) ([],0,0)).2.1 (Ev.gdV (.pr .str QVT8) (if eqs [] from'=true then some ([],1,1) else if eqs [37] from'=true then some ([],1,1) else if eqs [109] from'=true then some ([109],1,1) else if eqs [99,109] from'=true then some ([109],1,100) else if eqs [109,109] from'=true then some ([109],1,1000) else if eqs [115] from'=true then some ([115],1,1) else if eqs [109,115] from'=true then some ([115],1,1000) else if eqs [109,105,110] from'=true then some ([115],60,1) else if eqs [104] from'=true then some ([115],3600,1) else if eqs [98,97,114] from'=true then some ([98,97,114],1,1) else if eqs [109,98,97,114] from'=true then some ([98,97,114],1,1000) else if eqs [107,80,97] from'=true then some ([98,97,114],1,100) else if eqs [107,103] from'=true then some ([107,103],1,1) else if eqs [103] from'=true then some ([107,103],1,1000) else if eqs [116] from'=true then some ([107,103],1000,1) else if eqs [108] from'=true then some ([108],1,1) else if eqs [109,108] from'=true then some ([108],1,1000) else if eqs [67] from'=true then some ([67],1,1) else Option.none) ([],0,0)).2.2 (Ev.gdV (.pr .str QVT8) (if eqs [] to'=true then some ([],1,1) else if eqs [37] to'=true then some ([],1,1) else if eqs [109] to'=true then some ([109],1,1) else if eqs [99,109] to'=true then some ([109],1,100) else if eqs [109,109] to'=true then some ([109],1,1000) else if eqs [115] to'=true then some ([115],1,1) else if eqs [109,115] to'=true then some ([115],1,1000) else if eqs [109,105,110] to'=true then some ([115],60,1) else if eqs [104] to'=true then some ([115],3600,1) else if eqs [98,97,114] to'=true then some ([98,97,114],1,1) else if eqs [109,98,97,114] to'=true then some ([98,97,114],1,1000) else if eqs [107,80,97] to'=true then some ([98,97,114],1,100) else if eqs [107,103] to'=true then some ([107,103],1,1) else if eqs [103] to'=true then some ([107,103],1,1000) else if eqs [116] to'=true then some ([107,103],1000,1) else if eqs [108] to'=true then some ([108],1,1) else if eqs [109,108] to'=true then some ([108],1,1000) else if eqs [67] to'=true then some ([67],1,1) else Option.none) ([],0,0)).1 (Ev.gdV (.pr .str QVT8) (if eqs [] to'=true then some ([],1,1) else if eqs [37] to'=true then some ([],1,1) else if eqs [109] to'=true then some ([109],1,1) else if eqs [99,109] to'=true then some ([109],1,100) else if eqs [109,109] to'=true then some ([109],1,1000) else if eqs [115] to'=true then some ([115],1,1) else if eqs [109,115] to'=true then some ([115],1,1000) else if eqs [109,105,110] to'=true then some ([115],60,1) else if eqs [104] to'=true then some ([115],3600,1) else if eqs [98,97,114] to'=true then some ([98,97,114],1,1) else if eqs [109,98,97,114] to'=true then some ([98,97,114],1,1000) else if eqs [107,80,97] to'=true then some ([98,97,114],1,100) else if eqs [107,103] to'=true then some ([107,103],1,1) else if eqs [103] to'=true then some ([107,103],1,1000) else if eqs [116] to'=true then some ([107,103],1000,1) else if eqs [108] to'=true then some ([108],1,1) else if eqs [109,108] to'=true then some ([108],1,1000) else if eqs [67] to'=true then some ([67],1,1) else Option.none) ([],0,0)).2.1 (Ev.gdV (.pr .str QVT8) (if eqs [] to'=true then some ([],1,1) else if eqs [37] to'=true then some ([],1,1) else if eqs [109] to'=true then some ([109],1,1) else if eqs [99,109] to'=true then some ([109],1,100) else if eqs [109,109] to'=true then some ([109],1,1000) else if eqs [115] to'=true then some ([115],1,1) else if eqs [109,115] to'=true then some ([115],1,1000) else if eqs [109,105,110] to'=true then some ([115],60,1) else if eqs [104] to'=true then some ([115],3600,1) else if eqs [98,97,114] to'=true then some ([98,97,114],1,1) else if eqs [109,98,97,114] to'=true then some ([98,97,114],1,1000) else if eqs [107,80,97] to'=true then some ([98,97,114],1,100) else if eqs [107,103] to'=true then some ([107,103],1,1) else if eqs [103] to'=true then some ([107,103],1,1000) else if eqs [116] to'=true then some ([107,103],1000,1) else if eqs [108] to'=true then some ([108],1,1) else if eqs [109,108] to'=true then some ([108],1,1000) else if eqs [67] to'=true then some ([67],1,1) else Option.none) ([],0,0)).2.2
def q1r_:=qj9_
def q3n_ (x:As [.pr (.int .i64) (.int .u8),.str,.str]):Option (As [.pr (.int .i64) (.int .u8),.bool]):=qss_ q1r_ x.1 x.2.1 x.2.2.1
noncomputable abbrev units_To_P:=pfn Try.prog qlf_ 6 18446744073709551616 (Ev.get qle_) 38 qc4_
theorem q15r_ {J t38 d d_2 t6 t6_2 a a_2 a_3 b b_2 b_3}:units_To_P J 62 [] (qn4_ t38 d d_2 t6 t6_2 a a_2 a_3 b b_2 b_3)=qj9_ t38 d d_2 t6 t6_2 a a_2 a_3 b b_2 b_3:=by kernel_rfl
theorem q15x_ (J:Orc (As [.pr (.int .i64) (.int .u8),.bool])) (x:As [.pr (.int .i64) (.int .u8),.str,.str]):rfn Try.prog qlf_ 6 18446744073709551616 (Ev.get qle_) 38 qc4_ J x=qss_ (fun t38 d d_2 t6 t6_2 a a_2 a_3 b b_2 b_3=>J 62 [] (qn4_ t38 d d_2 t6 t6_2 a a_2 a_3 b b_2 b_3)) x.1 x.2.1 x.2.2.1:=by kernel_rfl
noncomputable abbrev units_To_J:=jfn Try.prog qlf_ 6 18446744073709551616 (Ev.get qle_) 38 qc4_
theorem q164_  (t38 d d_2 t6 t6_2 a a_2 a_3 b b_2 b_3):units_To_J 62 [] (qn4_ t38 d d_2 t6 t6_2 a a_2 a_3 b b_2 b_3)=q1r_ t38 d d_2 t6 t6_2 a a_2 a_3 b b_2 b_3:=gN (by decide) q15r_
theorem q16f_ (x:As [.pr (.int .i64) (.int .u8),.str,.str]):evT Try.prog qlf_ 6 18446744073709551616 (Ev.get qle_) 38 qc4_ x=q3n_ x:=by
 rw [qi_,q15x_]
 simp only [q164_]
 rfl
theorem q15s_:CtOk Try.prog (fun _=>True) 38 ⟨qc4_,q3n_⟩:=qa_ (q2_ qw4_ q6_) q16f_
@[reducible] def q6z_:Sh:=⟨[.d QVT9,.d QVT9],[],[.pr (.int .i64) (.int .u8),.pr (.int .i64) (.int .u8)],[.d (.int .i64)],[],0,[.int .i64]⟩
def qjf_:Env:=(cts [(54,(⟨q5o_,qq_⟩:Ct)),(63,(⟨q2j_,q27_⟩:Ct))])
def qjc_:List (Nat×Hint):=[(6,⟨[],[2,3,14]⟩)]
def qlw_ (t14:Bool) (a b:Int×Int):St:=⟨[(2,.pb 0 0),(3,.pb 1 0),(14,dB t14)],39,[],[(0,.box 75 [dI a.1,d8 a.2]),(1,.box 75 [dI b.1,d8 b.2])],2,[],0⟩
def qly_ (t14:Bool) (a b:Int×Int):Option (As [.int .i64]) :=
 if t14=true then some (0,()) else Option.bind (q27_ (Sx.sub .i64 6 (cvt .i64 a.2),())) fun y=>Option.bind (q27_ (Sx.sub .i64 6 (cvt .i64 b.2),())) fun y_1=>if lt (mul .i64 a.1 y.1) (mul .i64 b.1 y_1.1)=true then some (-1,()) else if gt (mul .i64 a.1 y.1) (mul .i64 b.1 y_1.1)=true then some (1,()) else some (0,())
def qgc_ (j1:Bool->Int×Int->Int×Int->Option (As [.int .i64])) (a b:Int×Int):Option (As [.int .i64]) :=
 Option.bind (qq_ (a,())) fun y=>if (!y.1)=true then j1 true a b else Option.bind (qq_ (b,())) fun y=>j1 (!y.1) a b
def qfo_:=qly_
def q39_ (x:As [.pr (.int .i64) (.int .u8),.pr (.int .i64) (.int .u8)]):Option (As [.int .i64]):=qgc_ qfo_ x.1 x.2.1
noncomputable abbrev units_Cmp_P:=pfn Try.prog qjf_ 6 18446744073709551616 (Ev.get qjc_) 43 q6z_
theorem q14m_ {J t14 a b}:units_Cmp_P J 6 [] (qlw_ t14 a b)=qly_ t14 a b:=by kernel_rfl
theorem q142_ (J:Orc (As [.int .i64])) (x:As [.pr (.int .i64) (.int .u8),.pr (.int .i64) (.int .u8)]):rfn Try.prog qjf_ 6 18446744073709551616 (Ev.get qjc_) 43 q6z_ J x=qgc_ (fun t14 a b=>J 6 [] (qlw_ t14 a b)) x.1 x.2.1:=by kernel_rfl
noncomputable abbrev units_Cmp_J:=jfn Try.prog qjf_ 6 18446744073709551616 (Ev.get qjc_) 43 q6z_
theorem q13v_  (t14 a b):units_Cmp_J 6 [] (qlw_ t14 a b)=qfo_ t14 a b:=gN (by decide) q14m_
theorem q15v_ (x:As [.pr (.int .i64) (.int .u8),.pr (.int .i64) (.int .u8)]):evT Try.prog qjf_ 6 18446744073709551616 (Ev.get qjc_) 43 q6z_ x=q39_ x:=by
 rw [qi_,q142_]
 simp only [q13v_]
 rfl
theorem qr1_:CtOk Try.prog (fun _=>True) 43 ⟨q6z_,q39_⟩:=qa_ (q2_ q7v_ (q2_ qic_ q6_)) q15v_
@[reducible] def q7t_:Sh:=⟨[.d (.int .i64)],[],[.int .i64],[.d (.int .u16),.d (.bool)],[],0,[.int .u16,.bool]⟩
def qfw_:Env:=(cts [])
def qfq_:List (Nat×Hint):=[(6,⟨[],[0,9]⟩)]
def qkj_ (x:Int) (t9:Bool):St:=⟨[(0,dI x),(9,dB t9)],12,[],[],0,[],0⟩
def qjq_ (x:Int) (t9:Bool):Option (As [.int .u16,.bool]) :=
 if t9=true then some (0,false,()) else some (cvt .u16 x,true,())
def qdp_ (j1:Int->Bool->Option (As [.int .u16,.bool])) (x:Int):Option (As [.int .u16,.bool]) :=
 if lt x (-32768)=true then j1 x true else j1 x (ge x 32768)
def qdt_:=qjq_
def ql9_ (x:As [.int .i64]):Option (As [.int .u16,.bool]):=qdp_ qdt_ x.1
noncomputable abbrev words_Word_P:=pfn Try.prog qfw_ 6 18446744073709551616 (Ev.get qfq_) 64 q7t_
theorem q11d_ {J x t9}:words_Word_P J 6 [] (qkj_ x t9)=qjq_ x t9:=by kernel_rfl
theorem q113_ (J:Orc (As [.int .u16,.bool])) (x:As [.int .i64]):rfn Try.prog qfw_ 6 18446744073709551616 (Ev.get qfq_) 64 q7t_ J x=qdp_ (fun x t9=>J 6 [] (qkj_ x t9)) x.1:=by kernel_rfl
noncomputable abbrev words_Word_J:=jfn Try.prog qfw_ 6 18446744073709551616 (Ev.get qfq_) 64 q7t_
theorem q11s_ (x:Int) (t9:Bool):words_Word_J 6 [] (qkj_ x t9)=qdt_ x t9:=gN (by decide) q11d_
theorem q14i_ (x:As [.int .i64]):evT Try.prog qfw_ 6 18446744073709551616 (Ev.get qfq_) 64 q7t_ x=ql9_ x:=by
 rw [qi_,q113_]
 simp only [q11s_]
 rfl
theorem q13k_:CtOk Try.prog (fun _=>True) 64 ⟨q7t_,ql9_⟩:=qa_ q6_ q14i_
@[reducible] def q7r_:Sh:=⟨[.d QVT9,.d (.int .i64),.d (.bool)],[],[.pr (.int .i64) (.int .u8),.int .i64,.bool],[.d (.int .u16),.d (.bool)],[],0,[.int .u16,.bool]⟩
def qfj_:Env:=(cts [(54,(⟨q5o_,qq_⟩:Ct)),(63,(⟨q2j_,q27_⟩:Ct)),(64,(⟨q7t_,ql9_⟩:Ct))])
def qfl_:List (Nat×Hint):=[(30,⟨[],[2,8,37]⟩),(6,⟨[],[1,2,3,22,35,36]⟩)]
def qkp_ (digits:Int) (signed t22:Bool) (d:Int×Int):St:=⟨[(1,dI digits),(2,dB signed),(3,.pb 0 0),(22,dB t22)],47,[],[(0,.box 75 [dI d.1,d8 d.2])],1,[],0⟩
def qkc_ (signed:Bool) (n:Int) (t37:Bool):St:=⟨[(2,dB signed),(8,dI n),(37,dB t37)],47,[],[],0,[],0⟩
def qkt_ (j2:Bool->Int->Bool->Option (As [.int .u16,.bool])) (digits:Int) (signed t22:Bool) (d:Int×Int):Option (As [.int .u16,.bool]) :=
 if t22=true then some (0,false,()) else Option.bind (q27_ (Sx.sub .i64 digits (cvt .i64 d.2),())) fun y=>if lt (mul .i64 d.1 y.1) (-32768)=true then j2 signed (mul .i64 d.1 y.1) true else j2 signed (mul .i64 d.1 y.1) (ge (mul .i64 d.1 y.1) 65536)
def qk4_ (signed:Bool) (n:Int) (t37:Bool):Option (As [.int .u16,.bool]) :=
 if t37=true then some (0,false,()) else if signed=true then Option.bind (ql9_ (n,())) fun y=>some (y.1,y.2.1,()) else if lt n 0=true then some (0,false,()) else some (cvt .u16 n,true,())
def qey_ (j1:Int->Bool->Bool->Int×Int->Option (As [.int .u16,.bool])) (d:Int×Int) (digits:Int) (signed:Bool):Option (As [.int .u16,.bool]) :=
 Option.bind (qq_ (d,())) fun y=>if (!y.1)=true then j1 digits signed true d else if lt digits (cvt .i64 d.2)=true then j1 digits signed true d else j1 digits signed (gt digits 6) d
def qdh_:=qk4_
def q8z_:=qkt_ (qdh_)
def q61_ (x:As [.pr (.int .i64) (.int .u8),.int .i64,.bool]):Option (As [.int .u16,.bool]):=qey_ q8z_ x.1 x.2.1 x.2.2.1
noncomputable abbrev units_Word_P:=pfn Try.prog qfj_ 6 18446744073709551616 (Ev.get qfl_) 44 q7r_
theorem q12d_ {J signed n t37}:units_Word_P J 30 [] (qkc_ signed n t37)=qk4_ signed n t37:=by kernel_rfl
theorem q136_ {J digits signed t22 d}:units_Word_P J 6 [] (qkp_ digits signed t22 d)=qkt_ (fun signed n t37=>J 30 [] (qkc_ signed n t37)) digits signed t22 d:=by kernel_rfl
theorem q10r_ (J:Orc (As [.int .u16,.bool])) (x:As [.pr (.int .i64) (.int .u8),.int .i64,.bool]):rfn Try.prog qfj_ 6 18446744073709551616 (Ev.get qfl_) 44 q7r_ J x=qey_ (fun digits signed t22 d=>J 6 [] (qkp_ digits signed t22 d)) x.1 x.2.1 x.2.2.1:=by kernel_rfl
noncomputable abbrev units_Word_J:=jfn Try.prog qfj_ 6 18446744073709551616 (Ev.get qfl_) 44 q7r_
theorem q11w_  (signed n t37):units_Word_J 30 [] (qkc_ signed n t37)=qdh_ signed n t37:=gN (by decide) q12d_
theorem q120_  (digits signed t22 d):units_Word_J 6 [] (qkp_ digits signed t22 d)=q8z_ digits signed t22 d:=gN (by decide) (q136_.trans (by simp only [q11w_]; rfl))
theorem q13x_ (x:As [.pr (.int .i64) (.int .u8),.int .i64,.bool]):evT Try.prog qfj_ 6 18446744073709551616 (Ev.get qfl_) 44 q7r_ x=q61_ x:=by
 rw [qi_,q10r_]
 simp only [q120_]
 rfl
theorem q122_:CtOk Try.prog (fun _=>True) 44 ⟨q7r_,q61_⟩:=qa_ (q2_ q7v_ (q2_ qic_ (q2_ q13k_ q6_))) q13x_
@[reducible] def q8d_:Sh:=⟨[.d (.pr .str QVT2),.d (.pr .str QVT7)],[],[.pr .str QVT2,.pr .str QVT7],[.d (.int .u16),.d (.int .i64)],[],0,[.int .u16,.int .i64]⟩
def qg4_:Env:=(cts [(38,(⟨qc4_,q3n_⟩:Ct)),(43,(⟨q6z_,q39_⟩:Ct)),(44,(⟨q7r_,q61_⟩:Ct))])
def qgi_:List (Nat×Hint):=[(30,⟨[],[2,6,32]⟩)]
@[reducible] def zF4:Type:=List UInt8×Int×Int×Bool×(Int×Int)×(Int×Int)×List UInt8
def qkx_ (t32:Bool) (p:zF4) (d:Int×Int):St:=⟨[(2,.pb 0 0),(6,.pb 1 0),(32,dB t32)],45,[],[(0,.box 77 [dS p.1,dI p.2.1,dI p.2.2.1,dB p.2.2.2.1,dI p.2.2.2.2.1.1,d8 p.2.2.2.2.1.2,dI p.2.2.2.2.2.1.1,d8 p.2.2.2.2.2.1.2,dS p.2.2.2.2.2.2]),(1,.box 75 [dI d.1,d8 d.2])],2,[],0⟩
def qd7_ (t32:Bool) (p:zF4) (d:Int×Int):Option (As [.int .u16,.int .i64]) :=
 if t32=true then some (0,153,()) else Option.bind (q61_ (d,p.2.2.1,p.2.2.2.1,())) fun y=>if (!y.2.1)=true then some (0,153,()) else some (y.1,0,())
def qde_ (j1:Bool->List UInt8×Int×Int×Bool×(Int×Int)×(Int×Int)×List UInt8->Int×Int->Option (As [.int .u16,.int .i64])) (p:zF4) (s:List UInt8×(Int×Int)×List UInt8×Int):Option (As [.int .u16,.int .i64]) :=
 Option.bind (q3n_ (s.2.1,s.2.2.1,p.2.2.2.2.2.2,())) fun y=>if (!y.2.1)=true then some (0,152,()) else Option.bind (q39_ (y.1,p.2.2.2.2.1,())) fun y_1=>if lt y_1.1 0=true then j1 true p y.1 else Option.bind (q39_ (y.1,p.2.2.2.2.2.1,())) fun y_2=>j1 (gt y_2.1 0) p y.1
def qe3_:=qd7_
def q13_ (x:As [.pr .str QVT2,.pr .str QVT7]):Option (As [.int .u16,.int .i64]):=qde_ qe3_ x.1 x.2.1
noncomputable abbrev valid_Word_P:=pfn Try.prog qg4_ 6 18446744073709551616 (Ev.get qgi_) 29 q8d_
theorem q12s_ {J t32 p d}:valid_Word_P J 30 [] (qkx_ t32 p d)=qd7_ t32 p d:=by kernel_rfl
theorem q13p_ (J:Orc (As [.int .u16,.int .i64])) (x:As [.pr .str QVT2,.pr .str QVT7]):rfn Try.prog qg4_ 6 18446744073709551616 (Ev.get qgi_) 29 q8d_ J x=qde_ (fun t32 p d=>J 30 [] (qkx_ t32 p d)) x.1 x.2.1:=by kernel_rfl
noncomputable abbrev valid_Word_J:=jfn Try.prog qg4_ 6 18446744073709551616 (Ev.get qgi_) 29 q8d_
theorem q12i_  (t32 p d):valid_Word_J 30 [] (qkx_ t32 p d)=qe3_ t32 p d:=gN (by decide) q12s_
theorem q156_ (x:As [.pr .str QVT2,.pr .str QVT7]):evT Try.prog qg4_ 6 18446744073709551616 (Ev.get qgi_) 29 q8d_ x=q13_ x:=by
 rw [qi_,q13p_]
 simp only [q12i_]
 rfl
theorem qpn_:CtOk Try.prog (fun _=>True) 29 ⟨q8d_,q13_⟩:=qa_ (q2_ q15s_ (q2_ qr1_ (q2_ q122_ q6_))) q156_
@[reducible] def qim_:Sh:=⟨[.d (.int .u8)],[],[.int .u8],[.d (.bool)],[],0,[.bool]⟩
def qti_ (c:Int):Option (As [.bool]) :=
 if ge c 97=true then some (le c 122,()) else some (false,())
def q3d_ (x:As [.int .u8]):Option (As [.bool]):=qti_ x.1
theorem qme_:CtOk Try.prog (fun _=>True) 71 ⟨qim_,q3d_⟩:=ctn q6_ 6 fun J x=>by kernel_rfl
@[reducible] def qix_:Sh:=⟨[.d (.int .u8)],[],[.int .u8],[.d (.bool)],[],0,[.bool]⟩
def qtc_ (c:Int):Option (As [.bool]) :=
 if ge c 48=true then some (le c 57,()) else some (false,())
def q4t_ (x:As [.int .u8]):Option (As [.bool]):=qtc_ x.1
theorem qmx_:CtOk Try.prog (fun _=>True) 72 ⟨qix_,q4t_⟩:=ctn q6_ 6 fun J x=>by kernel_rfl
@[reducible] def q5r_:Sh:=⟨[.d (.str)],[],[.str],[.d (.bool)],[],0,[.bool]⟩
def qe1_:Env:=(cts [(71,(⟨qim_,q3d_⟩:Ct)),(72,(⟨qix_,q4t_⟩:Ct))])
def qdj_:List (Nat×Hint):=[(7,⟨[],[0,44,45,48,49]⟩),(58,⟨[],[0,18,19,28,29,30,31,32,35,36,37,38,44,45,48,49]⟩),(3737,⟨[.agd 35 .str,.agd 36 (.int .i64),.agd 37 (.int .u8),.agd 38 .bool,.agd 28 .str,.agd 29 (.int .i64),.agd 30 (.int .u8),.agd 31 .bool,.agd 32 .bool],[0,18,19,39]⟩),(6,⟨[],[0,16,28,29,30,31,32,35,36,37,38,44,45,48,49]⟩)]
def qh8_ (s:List UInt8) (t16:Bool):St:=⟨[(0,dS s),(16,dB t16)],51,[],[],0,[],0⟩
def q2q_ (s:List UInt8) (t18 t19:Int):St:=⟨[(0,dS s),(18,dI t18),(19,dI t19)],51,[],[],0,[],0⟩
def qgy_ (s:List UInt8) (t18 t19:Int) (t39:Bool):St:=⟨[(0,dS s),(18,dI t18),(19,dI t19),(39,dB t39)],51,[],[],0,[],0⟩
def qhw_ (s:List UInt8):St:=⟨[(0,dS s)],51,[],[],0,[],0⟩
@[reducible] def zF5:Type:=List UInt8->Int->Int->Option (As [.bool])
def qnt_ (j2:zF5) (s:List UInt8) (t16:Bool):Option (As [.bool]) :=
 if t16=true then some (false,()) else j2 s (Int.ofNat (List.length s)) 0
def q4b_ (j3:List UInt8->Int->Int->Bool->Option (As [.bool])) (j4:List UInt8->Option (As [.bool])) (self2:zF5) (s:List UInt8) (t18 t19:Int):Option (As [.bool]) :=
 if lt t19 t18=true then Option.bind (at? s t19) fun c=>Option.bind (q3d_ (Int.ofNat (UInt8.toNat c),())) fun y=>if (!y.1)=true then Option.bind (at? s t19) fun c=>Option.bind (q4t_ (Int.ofNat (UInt8.toNat c),())) fun y=>if (!y.1)=true then Option.bind (at? s t19) fun c=>j3 s t18 t19 (nei (Int.ofNat (UInt8.toNat c)) 95) else j3 s t18 t19 false else j3 s t18 t19 false else j4 s
def qcs_ (self2:zF5) (s:List UInt8) (t18 t19:Int) (t39:Bool):Option (As [.bool]) :=
 if t39=true then some (false,()) else self2 s t18 (add .i64 t19 1)
def qat_ (s:List UInt8):Option (As [.bool]) :=
 if nes s [114,101,99,105,112,101]=true then if nes s [115,108,97,118,101]=true then some (nes s [101,110,100],()) else some (false,()) else some (false,())
def qb1_ (j1:List UInt8->Bool->Option (As [.bool])) (s:List UInt8):Option (As [.bool]) :=
 if eqs s []=true then j1 s true else if gt (Int.ofNat (List.length s)) 20=true then j1 s true else Option.bind (at? s 0) fun c=>Option.bind (q3d_ (Int.ofNat (UInt8.toNat c),())) fun y=>j1 s !y.1
def q77_ (u2:zF5):=qcs_ u2
def q8f_:=qat_
def qay_ (s:List UInt8) (t18 t19:Int):Option (As [.bool]) :=
 loopF (fun self s=>q4b_ (q77_ (fun s t18 t19=>self (s,t18,t19))) (q8f_) (fun s t18 t19=>self (s,t18,t19)) s.1 s.2.1 s.2.2) 18446744073709551616 (s,t18,t19)
def qai_:=qnt_ (qay_)
def q6v_ (x:As [.str]):Option (As [.bool]):=qb1_ qai_ x.1
noncomputable abbrev recipe_name_P:=pfn Try.prog qe1_ 6 18446744073709551616 (Ev.get qdj_) 53 q5r_
theorem qxc_ {J w2 s t18 t19 t39}:recipe_name_P J 3737 [w2] (qgy_ s t18 t19 t39)=qcs_ (fun s t18 t19=>w2 (q2q_ s t18 t19)) s t18 t19 t39:=by kernel_rfl
theorem qxr_ {J s}:recipe_name_P J 7 [] (qhw_ s)=qat_ s:=by kernel_rfl
theorem qxe_ {J w2 s t18 t19}:recipe_name_P J 58 [w2] (q2q_ s t18 t19)=q4b_ (fun s t18 t19 t39=>J 3737 [w2] (qgy_ s t18 t19 t39)) (fun s=>J 7 [] (qhw_ s)) (fun s t18 t19=>w2 (q2q_ s t18 t19)) s t18 t19:=by kernel_rfl
theorem qvp_ {J s t16}:recipe_name_P J 6 [] (qh8_ s t16)=qnt_ (fun s t18 t19=>J 58 [] (q2q_ s t18 t19)) s t16:=by kernel_rfl
theorem qya_ (J:Orc (As [.bool])) (x:As [.str]):rfn Try.prog qe1_ 6 18446744073709551616 (Ev.get qdj_) 53 q5r_ J x=qb1_ (fun s t16=>J 6 [] (qh8_ s t16)) x.1:=by kernel_rfl
noncomputable abbrev recipe_name_J:=jfn Try.prog qe1_ 6 18446744073709551616 (Ev.get qdj_) 53 q5r_
theorem q100_  (w2 s t18 t19 t39):recipe_name_J 3737 [w2] (qgy_ s t18 t19 t39)=q77_ (fun s t18 t19=>w2 (q2q_ s t18 t19)) s t18 t19 t39:=gN (by decide) qxc_
theorem qvg_  (s):recipe_name_J 7 [] (qhw_ s)=q8f_ s:=gN (by decide) qxr_
theorem qud_  (s t18 t19):recipe_name_J 58 [] (q2q_ s t18 t19)=qay_ s t18 t19:=gL (σ:=(List UInt8)×(Int)×(Int)) (mk:=fun s=>q2q_ s.1 s.2.1 s.2.2) (by decide) (by kernel_rfl) (fun w2 s=>qxe_.trans (by simp only [q100_,qvg_])) (s,t18,t19)
theorem qz3_  (s t16):recipe_name_J 6 [] (qh8_ s t16)=qai_ s t16:=gN (by decide) (qvp_.trans (by simp only [qud_]; rfl))
theorem q12b_ (x:As [.str]):evT Try.prog qe1_ 6 18446744073709551616 (Ev.get qdj_) 53 q5r_ x=q6v_ x:=by
 rw [qi_,qya_]
 simp only [qz3_]
 rfl
theorem qxk_:CtOk Try.prog (fun _=>True) 53 ⟨q5r_,q6v_⟩:=qa_ (q2_ qme_ (q2_ qmx_ q6_)) q12b_
@[reducible] def q5j_:Sh:=⟨[.d (.str)],[],[.str],[.d (.bool)],[],0,[.bool]⟩
def qen_:Env:=(cts [(71,(⟨qim_,q3d_⟩:Ct)),(72,(⟨qix_,q4t_⟩:Ct))])
def qej_:List (Nat×Hint):=[(58,⟨[],[0,10,11,20,21,22,23,24,25,28,29,34,35,36,37,38,39,40,41,42,43,44]⟩),(7475,⟨[.agd 20 (.int .u8),.agd 21 .bool,.agd 22 .bool,.agd 23 (.int .u8),.agd 24 .bool,.agd 25 .bool,.agd 28 (.int .u8),.agd 29 .bool],[0,3,4,5,10,11]⟩),(14951,⟨[.agd 37 (.int .u8),.agd 38 .bool,.agd 39 .bool,.agd 40 .bool,.agd 41 (.int .u8),.agd 42 .bool,.agd 43 .bool,.agd 34 (.int .i64),.agd 35 .bool,.agd 36 .bool,.agd 44 .bool],[0,10,11,45]⟩)]
def q1s_ (s:List UInt8) (t10 t11:Int):St:=⟨[(0,dS s),(10,dI t10),(11,dI t11)],47,[],[],0,[],0⟩
def qhl_ (s:List UInt8) (i c:Int) (letter:Bool) (t10 t11:Int):St:=⟨[(0,dS s),(3,dI i),(4,d8 c),(5,dB letter),(10,dI t10),(11,dI t11)],47,[],[],0,[],0⟩
def qi6_ (s:List UInt8) (t10 t11:Int) (t45:Bool):St:=⟨[(0,dS s),(10,dI t10),(11,dI t11),(45,dB t45)],47,[],[],0,[],0⟩
def q4g_ (j2:List UInt8->Int->Int->Bool->Int->Int->Option (As [.bool])) (self1:zF5) (s:List UInt8) (t10 t11:Int):Option (As [.bool]) :=
 if lt t11 t10=true then Option.bind (at? s t11) fun c=>Option.bind (q3d_ (Int.ofNat (UInt8.toNat c),())) fun y=>if y.1=true then j2 s t11 (Int.ofNat (UInt8.toNat c)) true t10 t11 else if ge (Int.ofNat (UInt8.toNat c)) 65=true then if le (Int.ofNat (UInt8.toNat c)) 90=true then j2 s t11 (Int.ofNat (UInt8.toNat c)) true t10 t11 else j2 s t11 (Int.ofNat (UInt8.toNat c)) (eqi (Int.ofNat (UInt8.toNat c)) 37) t10 t11 else j2 s t11 (Int.ofNat (UInt8.toNat c)) (eqi (Int.ofNat (UInt8.toNat c)) 37) t10 t11 else some (true,())
def qcm_ (j3:List UInt8->Int->Int->Bool->Option (As [.bool])) (self1:zF5) (s:List UInt8) (i c:Int) (letter:Bool) (t10 t11:Int):Option (As [.bool]) :=
 if (!letter)=true then if eqi i 0=true then j3 s t10 t11 true else Option.bind (q4t_ (c,())) fun y=>if (!y.1)=true then j3 s t10 t11 (nei c 95) else j3 s t10 t11 false else j3 s t10 t11 false
def qbb_ (self1:zF5) (s:List UInt8) (t10 t11:Int) (t45:Bool):Option (As [.bool]) :=
 if t45=true then some (false,()) else self1 s t10 (add .i64 t11 1)
def qc9_ (j1:zF5) (s:List UInt8):Option (As [.bool]) :=
 if gt (Int.ofNat (List.length s)) 20=true then some (false,()) else j1 s (Int.ofNat (List.length s)) 0
def qcg_ (u1:zF5):=qbb_ u1
def q7i_ (u1:zF5):=qcm_ (qcg_ u1) u1
def q8c_ (s:List UInt8) (t10 t11:Int):Option (As [.bool]) :=
 loopF (fun self s=>q4g_ (q7i_ (fun s t10 t11=>self (s,t10,t11))) (fun s t10 t11=>self (s,t10,t11)) s.1 s.2.1 s.2.2) 18446744073709551616 (s,t10,t11)
def qcx_ (x:As [.str]):Option (As [.bool]):=qc9_ q8c_ x.1
noncomputable abbrev recipe_unit_P:=pfn Try.prog qen_ 6 18446744073709551616 (Ev.get qej_) 55 q5j_
theorem qwi_ {J w1 s t10 t11 t45}:recipe_unit_P J 14951 [w1] (qi6_ s t10 t11 t45)=qbb_ (fun s t10 t11=>w1 (q1s_ s t10 t11)) s t10 t11 t45:=by kernel_rfl
theorem qub_ {J w1 s i c letter t10 t11}:recipe_unit_P J 7475 [w1] (qhl_ s i c letter t10 t11)=qcm_ (fun s t10 t11 t45=>J 14951 [w1] (qi6_ s t10 t11 t45)) (fun s t10 t11=>w1 (q1s_ s t10 t11)) s i c letter t10 t11:=by kernel_rfl
theorem quh_ {J w1 s t10 t11}:recipe_unit_P J 58 [w1] (q1s_ s t10 t11)=q4g_ (fun s i c letter t10 t11=>J 7475 [w1] (qhl_ s i c letter t10 t11)) (fun s t10 t11=>w1 (q1s_ s t10 t11)) s t10 t11:=by kernel_rfl
theorem qwn_ (J:Orc (As [.bool])) (x:As [.str]):rfn Try.prog qen_ 6 18446744073709551616 (Ev.get qej_) 55 q5j_ J x=qc9_ (fun s t10 t11=>J 58 [] (q1s_ s t10 t11)) x.1:=by kernel_rfl
noncomputable abbrev recipe_unit_J:=jfn Try.prog qen_ 6 18446744073709551616 (Ev.get qej_) 55 q5j_
theorem quw_  (w1 s t10 t11 t45):recipe_unit_J 14951 [w1] (qi6_ s t10 t11 t45)=qcg_ (fun s t10 t11=>w1 (q1s_ s t10 t11)) s t10 t11 t45:=gN (by decide) qwi_
theorem qyd_  (w1 s i c letter t10 t11):recipe_unit_J 7475 [w1] (qhl_ s i c letter t10 t11)=q7i_ (fun s t10 t11=>w1 (q1s_ s t10 t11)) s i c letter t10 t11:=gN (by decide) (qub_.trans (by simp only [quw_]; rfl))
theorem qyb_  (s t10 t11):recipe_unit_J 58 [] (q1s_ s t10 t11)=q8c_ s t10 t11:=gL (σ:=(List UInt8)×(Int)×(Int)) (mk:=fun s=>q1s_ s.1 s.2.1 s.2.2) (by decide) (by kernel_rfl) (fun w1 s=>quh_.trans (by simp only [qyd_])) (s,t10,t11)
theorem q13a_ (x:As [.str]):evT Try.prog qen_ 6 18446744073709551616 (Ev.get qej_) 55 q5j_ x=qcx_ x:=by
 rw [qi_,qwn_]
 simp only [qyb_]
 rfl
theorem qzu_:CtOk Try.prog (fun _=>True) 55 ⟨q5j_,qcx_⟩:=qa_ (q2_ qme_ (q2_ qmx_ q6_)) q13a_
@[reducible] def q4e_:Sh:=⟨[.d (.pr .str QVT5)],[],[.pr .str QVT5],[.d (.bool)],[],0,[.bool]⟩
def qbs_:Env:=(cts [(53,(⟨q5r_,q6v_⟩:Ct)),(54,(⟨q5o_,qq_⟩:Ct)),(55,(⟨q5j_,qcx_⟩:Ct))])
def qbm_:List (Nat×Hint):=[(58,⟨[],[18,19,20,29,30,31,32,46,47,48,49,52,53,54,55]⟩),(29902,⟨[],[18,19,20,29,30,31,32,35,36,37,46,47,48,49,52,53,54,55]⟩),(1913753,⟨[.agd 47 QVT9,.agd 48 .bool,.agd 49 .bool,.agd 53 .str,.agd 54 .bool,.agd 55 .bool],[18,19,20,35,36,37,56]⟩),(7474,⟨[.agd 30 (.sl (.pr .str QVT7)),.agd 31 (.int .i64),.agd 32 .bool],[4,18,19,20,33]⟩),(6,⟨[],[1,16,29,30,31,32,46,47,48,49,52,53,54,55]⟩)]
def qfd_ (t16:Bool) (r:List UInt8×List QVT1):St:=⟨[(1,.pb 0 0),(16,dB t16)],59,[],[(0,.box 42 [dS r.1,.d QVT5 r.2])],1,[],0⟩
def q14_ (t18:List QVT1) (t19 t20:Int):St:=⟨[(18,.d QVT5 t18),(19,dI t19),(20,dI t20)],59,[],[],0,[],0⟩
def qgg_ (t18:List QVT1) (t19 t20:Int) (t33:Bool) (part:List UInt8×Int×List QVT4):St:=⟨[(4,.pb 0 0),(18,.d QVT5 t18),(19,dI t19),(20,dI t20),(33,dB t33)],59,[],[(0,.box 80 [dS part.1,dI part.2.1,.d (.sl (.pr .str QVT7)) part.2.2])],1,[],0⟩
def q2h_ (t18:List QVT1) (t19 t20:Int) (t35:List QVT4) (t36 t37:Int):St:=⟨[(18,.d QVT5 t18),(19,dI t19),(20,dI t20),(35,.d (.sl (.pr .str QVT7)) t35),(36,dI t36),(37,dI t37)],59,[],[],0,[],0⟩
def qgm_ (t18:List QVT1) (t19 t20:Int) (t35:List QVT4) (t36 t37:Int) (t56:Bool):St:=⟨[(18,.d QVT5 t18),(19,dI t19),(20,dI t20),(35,.d (.sl (.pr .str QVT7)) t35),(36,dI t36),(37,dI t37),(56,dB t56)],59,[],[],0,[],0⟩
@[reducible] def zF6:Type:=List QVT1->Int->Int->Option (As [.bool])
def qmr_ (j2:zF6) (t16:Bool) (r:List UInt8×List QVT1):Option (As [.bool]) :=
 if t16=true then some (false,()) else j2 r.2 (Int.ofNat (List.length r.2)) 0
def q3e_ (j3:List QVT1->Int->Int->Bool->List UInt8×Int×List QVT4->Option (As [.bool])) (self2:zF6) (t18:List QVT1) (t19 t20:Int):Option (As [.bool]) :=
 if lt t20 t19=true then Option.bind (at? t18 t20) fun y=>Option.bind (q6v_ (y.1,())) fun y_1=>if (!y_1.1)=true then j3 t18 t19 t20 true y else j3 t18 t19 t20 (gt (Int.ofNat (List.length y.2.2)) 64) y else some (true,())
@[reducible] def zF7:Type:=List QVT1->Int->Int->List QVT4->Int->Int->Option (As [.bool])
def q9r_ (j4:zF7) (self2:zF6) (t18:List QVT1) (t19 t20:Int) (t33:Bool) (part:List UInt8×Int×List QVT4):Option (As [.bool]) :=
 if t33=true then some (false,()) else j4 t18 t19 t20 part.2.2 (Int.ofNat (List.length part.2.2)) 0
def q3f_ (j5:List QVT1->Int->Int->List QVT4->Int->Int->Bool->Option (As [.bool])) (self2:zF6) (self4:zF7) (t18:List QVT1) (t19 t20:Int) (t35:List QVT4) (t36 t37:Int):Option (As [.bool]) :=
 if lt t37 t36=true then Option.bind (at? t35 t37) fun y=>Option.bind (q6v_ (y.1,())) fun y_1=>if (!y_1.1)=true then j5 t18 t19 t20 t35 t36 t37 true else Option.bind (qq_ (y.2.1,())) fun y_2=>if (!y_2.1)=true then j5 t18 t19 t20 t35 t36 t37 true else Option.bind (qcx_ (y.2.2.1,())) fun y=>j5 t18 t19 t20 t35 t36 t37 !y.1 else self2 t18 t19 (add .i64 t20 1)
def q9o_ (self2:zF6) (self4:zF7) (t18:List QVT1) (t19 t20:Int) (t35:List QVT4) (t36 t37:Int) (t56:Bool):Option (As [.bool]) :=
 if t56=true then some (false,()) else self4 t18 t19 t20 t35 t36 (add .i64 t37 1)
def q9p_ (j1:Bool->List UInt8×List QVT1->Option (As [.bool])) (r:List UInt8×List QVT1):Option (As [.bool]) :=
 Option.bind (q6v_ (r.1,())) fun y=>if (!y.1)=true then j1 true r else j1 (gt (Int.ofNat (List.length r.2)) 8) r
def q9t_ (u2:zF6) (u4:zF7):=q9o_ u2 u4
def q6k_ (u2:zF6) (t18:List QVT1) (t19 t20:Int) (t35:List QVT4) (t36 t37:Int):Option (As [.bool]) :=
 loopF (fun self s=>q3f_ (q9t_ u2 (fun t18 t19 t20 t35 t36 t37=>self (t18,t19,t20,t35,t36,t37))) u2 (fun t18 t19 t20 t35 t36 t37=>self (t18,t19,t20,t35,t36,t37)) s.1 s.2.1 s.2.2.1 s.2.2.2.1 s.2.2.2.2.1 s.2.2.2.2.2) 18446744073709551616 (t18,t19,t20,t35,t36,t37)
def q9n_ (u2:zF6):=q9r_ (q6k_ u2) u2
def q69_ (t18:List QVT1) (t19 t20:Int):Option (As [.bool]) :=
 loopF (fun self s=>q3e_ (q9n_ (fun t18 t19 t20=>self (t18,t19,t20))) (fun t18 t19 t20=>self (t18,t19,t20)) s.1 s.2.1 s.2.2) 18446744073709551616 (t18,t19,t20)
def q9k_:=qmr_ (q69_)
def q57_ (x:As [.pr .str QVT5]):Option (As [.bool]):=q9p_ q9k_ x.1
noncomputable abbrev recipe_Right_P:=pfn Try.prog qbs_ 6 18446744073709551616 (Ev.get qbm_) 35 q4e_
theorem qtu_ {J w2 w4 t18 t19 t20 t35 t36 t37 t56}:recipe_Right_P J 1913753 [w2,w4] (qgm_ t18 t19 t20 t35 t36 t37 t56)=q9o_ (fun t18 t19 t20=>w2 (q14_ t18 t19 t20)) (fun t18 t19 t20 t35 t36 t37=>w4 (q2h_ t18 t19 t20 t35 t36 t37)) t18 t19 t20 t35 t36 t37 t56:=by kernel_rfl
theorem qt7_ {J w2 w4 t18 t19 t20 t35 t36 t37}:recipe_Right_P J 29902 [w2,w4] (q2h_ t18 t19 t20 t35 t36 t37)=q3f_ (fun t18 t19 t20 t35 t36 t37 t56=>J 1913753 [w2,w4] (qgm_ t18 t19 t20 t35 t36 t37 t56)) (fun t18 t19 t20=>w2 (q14_ t18 t19 t20)) (fun t18 t19 t20 t35 t36 t37=>w4 (q2h_ t18 t19 t20 t35 t36 t37)) t18 t19 t20 t35 t36 t37:=by kernel_rfl
theorem qu6_ {J w2 t18 t19 t20 t33 part}:recipe_Right_P J 7474 [w2] (qgg_ t18 t19 t20 t33 part)=q9r_ (fun t18 t19 t20 t35 t36 t37=>J 29902 [w2] (q2h_ t18 t19 t20 t35 t36 t37)) (fun t18 t19 t20=>w2 (q14_ t18 t19 t20)) t18 t19 t20 t33 part:=by kernel_rfl
theorem qsy_ {J w2 t18 t19 t20}:recipe_Right_P J 58 [w2] (q14_ t18 t19 t20)=q3e_ (fun t18 t19 t20 t33 part=>J 7474 [w2] (qgg_ t18 t19 t20 t33 part)) (fun t18 t19 t20=>w2 (q14_ t18 t19 t20)) t18 t19 t20:=by kernel_rfl
theorem qu4_ {J t16 r}:recipe_Right_P J 6 [] (qfd_ t16 r)=qmr_ (fun t18 t19 t20=>J 58 [] (q14_ t18 t19 t20)) t16 r:=by kernel_rfl
theorem qt8_ (J:Orc (As [.bool])) (x:As [.pr .str QVT5]):rfn Try.prog qbs_ 6 18446744073709551616 (Ev.get qbm_) 35 q4e_ J x=q9p_ (fun t16 r=>J 6 [] (qfd_ t16 r)) x.1:=by kernel_rfl
noncomputable abbrev recipe_Right_J:=jfn Try.prog qbs_ 6 18446744073709551616 (Ev.get qbm_) 35 q4e_
theorem qtm_  (w2 w4 t18 t19 t20 t35 t36 t37 t56):recipe_Right_J 1913753 [w2,w4] (qgm_ t18 t19 t20 t35 t36 t37 t56)=q9t_ (fun t18 t19 t20=>w2 (q14_ t18 t19 t20)) (fun t18 t19 t20 t35 t36 t37=>w4 (q2h_ t18 t19 t20 t35 t36 t37)) t18 t19 t20 t35 t36 t37 t56:=gN (by decide) qtu_
theorem qu2_  (w2 t18 t19 t20 t35 t36 t37):recipe_Right_J 29902 [w2] (q2h_ t18 t19 t20 t35 t36 t37)=q6k_ (fun t18 t19 t20=>w2 (q14_ t18 t19 t20)) t18 t19 t20 t35 t36 t37:=gL (σ:=(List QVT1)×(Int)×(Int)×(List QVT4)×(Int)×(Int)) (mk:=fun s=>q2h_ s.1 s.2.1 s.2.2.1 s.2.2.2.1 s.2.2.2.2.1 s.2.2.2.2.2) (by decide) (by kernel_rfl) (fun w4 s=>qt7_.trans (by simp only [qtm_])) (t18,t19,t20,t35,t36,t37)
theorem qt3_  (w2 t18 t19 t20 t33 part):recipe_Right_J 7474 [w2] (qgg_ t18 t19 t20 t33 part)=q9n_ (fun t18 t19 t20=>w2 (q14_ t18 t19 t20)) t18 t19 t20 t33 part:=gN (by decide) (qu6_.trans (by simp only [qu2_]; rfl))
theorem qty_  (t18 t19 t20):recipe_Right_J 58 [] (q14_ t18 t19 t20)=q69_ t18 t19 t20:=gL (σ:=(List QVT1)×(Int)×(Int)) (mk:=fun s=>q14_ s.1 s.2.1 s.2.2) (by decide) (by kernel_rfl) (fun w2 s=>qsy_.trans (by simp only [qt3_])) (t18,t19,t20)
theorem qtg_  (t16 r):recipe_Right_J 6 [] (qfd_ t16 r)=q9k_ t16 r:=gN (by decide) (qu4_.trans (by simp only [qty_]; rfl))
theorem qzb_ (x:As [.pr .str QVT5]):evT Try.prog qbs_ 6 18446744073709551616 (Ev.get qbm_) 35 q4e_ x=q57_ x:=by
 rw [qi_,qt8_]
 simp only [qtg_]
 rfl
theorem qmp_:CtOk Try.prog (fun _=>True) 35 ⟨q4e_,q57_⟩:=qa_ (q2_ qxk_ (q2_ q7v_ (q2_ qzu_ q6_))) qzb_
@[reducible] def qli_:Sh:=⟨[.d (.str)],[],[.str],[.d (.bool)],[],0,[.bool]⟩
def q10s_ (s:List UInt8):Option (As [.bool]) :=
 Option.bind (q57_ ((s,[]),())) fun y=>some (y.1,())
def qb6_ (x:As [.str]):Option (As [.bool]):=q10s_ x.1
theorem qpa_:CtOk Try.prog (fun _=>True) 68 ⟨qli_,qb6_⟩:=ctn (q2_ qmp_ q6_) 6 fun J x=>by kernel_rfl
@[reducible] def qpj_:Sh:=⟨[.d (.str)],[],[.str],[.d (.pr .str QVT8),.d (.bool)],[],0,[.pr .str QVT8,.bool]⟩
def qx3_ (name:List UInt8):Option (As [.pr .str QVT8,.bool]) :=
 some (Ev.gdV (.pr .str QVT8) (if eqs [] name=true then some ([],1,1) else if eqs [37] name=true then some ([],1,1) else if eqs [109] name=true then some ([109],1,1) else if eqs [99,109] name=true then some ([109],1,100) else if eqs [109,109] name=true then some ([109],1,1000) else if eqs [115] name=true then some ([115],1,1) else if eqs [109,115] name=true then some ([115],1,1000) else if eqs [109,105,110] name=true then some ([115],60,1) else if eqs [104] name=true then some ([115],3600,1) else if eqs [98,97,114] name=true then some ([98,97,114],1,1) else if eqs [109,98,97,114] name=true then some ([98,97,114],1,1000) else if eqs [107,80,97] name=true then some ([98,97,114],1,100) else if eqs [107,103] name=true then some ([107,103],1,1) else if eqs [103] name=true then some ([107,103],1,1000) else if eqs [116] name=true then some ([107,103],1000,1) else if eqs [108] name=true then some ([108],1,1) else if eqs [109,108] name=true then some ([108],1,1000) else if eqs [67] name=true then some ([67],1,1) else Option.none) ([],0,0),Ev.isV (.pr .str QVT8) (if eqs [] name=true then some ([],1,1) else if eqs [37] name=true then some ([],1,1) else if eqs [109] name=true then some ([109],1,1) else if eqs [99,109] name=true then some ([109],1,100) else if eqs [109,109] name=true then some ([109],1,1000) else if eqs [115] name=true then some ([115],1,1) else if eqs [109,115] name=true then some ([115],1,1000) else if eqs [109,105,110] name=true then some ([115],60,1) else if eqs [104] name=true then some ([115],3600,1) else if eqs [98,97,114] name=true then some ([98,97,114],1,1) else if eqs [109,98,97,114] name=true then some ([98,97,114],1,1000) else if eqs [107,80,97] name=true then some ([98,97,114],1,100) else if eqs [107,103] name=true then some ([107,103],1,1) else if eqs [103] name=true then some ([107,103],1,1000) else if eqs [116] name=true then some ([107,103],1000,1) else if eqs [108] name=true then some ([108],1,1) else if eqs [109,108] name=true then some ([108],1,1000) else if eqs [67] name=true then some ([67],1,1) else Option.none),())
def qd5_ (x:As [.str]):Option (As [.pr .str QVT8,.bool]):=qx3_ x.1
theorem qvj_:CtOk Try.prog (fun _=>True) 85 ⟨qpj_,qd5_⟩:=ctn q6_ 6 fun J x=>by kernel_rfl
@[reducible] def q24_:Sh:=⟨[.d (.pr .str QVT2)],[],[.pr .str QVT2],[.d (.bool)],[],0,[.bool]⟩
def q68_:Env:=(cts [(43,(⟨q6z_,q39_⟩:Ct)),(54,(⟨q5o_,qq_⟩:Ct)),(68,(⟨qli_,qb6_⟩:Ct)),(85,(⟨qpj_,qd5_⟩:Ct))])
def q6l_:List (Nat×Hint):=[(14,⟨[],[1,46]⟩),(6,⟨[],[1,28,34,35,36,37,40,41,42,43,44,45]⟩)]
def q9f_ (t28:Bool) (p:zF4):St:=⟨[(1,.pb 0 0),(28,dB t28)],54,[],[(0,.box 77 [dS p.1,dI p.2.1,dI p.2.2.1,dB p.2.2.2.1,dI p.2.2.2.2.1.1,d8 p.2.2.2.2.1.2,dI p.2.2.2.2.2.1.1,d8 p.2.2.2.2.2.1.2,dS p.2.2.2.2.2.2])],1,[],0⟩
def q9c_ (t46:Bool) (p:zF4):St:=⟨[(1,.pb 0 0),(46,dB t46)],54,[],[(0,.box 77 [dS p.1,dI p.2.1,dI p.2.2.1,dB p.2.2.2.1,dI p.2.2.2.2.1.1,d8 p.2.2.2.2.1.2,dI p.2.2.2.2.2.1.1,d8 p.2.2.2.2.2.1.2,dS p.2.2.2.2.2.2])],1,[],0⟩
@[reducible] def zF8:Type:=Bool->List UInt8×Int×Int×Bool×(Int×Int)×(Int×Int)×List UInt8->Option (As [.bool])
def q5d_ (j2:zF8) (t28:Bool) (p:zF4):Option (As [.bool]) :=
 if t28=true then some (false,()) else Option.bind (qq_ (p.2.2.2.2.1,())) fun y=>if (!y.1)=true then j2 true p else Option.bind (qq_ (p.2.2.2.2.2.1,())) fun y=>if (!y.1)=true then j2 true p else Option.bind (q39_ (p.2.2.2.2.1,p.2.2.2.2.2.1,())) fun y=>j2 (gt y.1 0) p
def q5f_ (t46:Bool) (p:zF4):Option (As [.bool]) :=
 if t46=true then some (false,()) else Option.bind (qd5_ (p.2.2.2.2.2.2,())) fun y=>some (y.2.1,())
def q59_ (j1:zF8) (p:zF4):Option (As [.bool]) :=
 Option.bind (qb6_ (p.1,())) fun y=>if (!y.1)=true then j1 true p else if lt p.2.1 0=true then j1 true p else if ge p.2.1 64=true then j1 true p else if lt p.2.2.1 0=true then j1 true p else j1 (gt p.2.2.1 6) p
def q5a_:=q5f_
def q2k_:=q5d_ (q5a_)
def q1o_ (x:As [.pr .str QVT2]):Option (As [.bool]):=q59_ q2k_ x.1
noncomputable abbrev valid_rightPoint_P:=pfn Try.prog q68_ 6 18446744073709551616 (Ev.get q6l_) 70 q24_
theorem qqi_ {J t46 p}:valid_rightPoint_P J 14 [] (q9c_ t46 p)=q5f_ t46 p:=by kernel_rfl
theorem qqn_ {J t28 p}:valid_rightPoint_P J 6 [] (q9f_ t28 p)=q5d_ (fun t46 p=>J 14 [] (q9c_ t46 p)) t28 p:=by kernel_rfl
theorem qpu_ (J:Orc (As [.bool])) (x:As [.pr .str QVT2]):rfn Try.prog q68_ 6 18446744073709551616 (Ev.get q6l_) 70 q24_ J x=q59_ (fun t28 p=>J 6 [] (q9f_ t28 p)) x.1:=by kernel_rfl
noncomputable abbrev valid_rightPoint_J:=jfn Try.prog q68_ 6 18446744073709551616 (Ev.get q6l_) 70 q24_
theorem qqo_  (t46 p):valid_rightPoint_J 14 [] (q9c_ t46 p)=q5a_ t46 p:=gN (by decide) qqi_
theorem qpz_  (t28 p):valid_rightPoint_J 6 [] (q9f_ t28 p)=q2k_ t28 p:=gN (by decide) (qqn_.trans (by simp only [qqo_]; rfl))
theorem qrq_ (x:As [.pr .str QVT2]):evT Try.prog q68_ 6 18446744073709551616 (Ev.get q6l_) 70 q24_ x=q1o_ x:=by
 rw [qi_,qpu_]
 simp only [qpz_]
 rfl
theorem qqj_:CtOk Try.prog (fun _=>True) 70 ⟨q24_,q1o_⟩:=qa_ (q2_ qr1_ (q2_ q7v_ (q2_ qpa_ (q2_ qvj_ q6_)))) qrq_
end Go.Proofs.Lx
end
