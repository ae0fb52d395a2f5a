/- Proved in the last of these 15 parts (this is part 14): TalkOwned. Conditions: those of the given statement, and no others. -/
import Derived.Test.YtljkanofaahagaaGreatPartm
import Derived.Test.YtljkanofaahagaaGreatPartd
import Derived.Test.YtljkanofaahagaaGreatProg
import Derived.Test.YtljkanofaahagaaGreatPartk
import Derived.Test.YtljkanofaahagaaGreatParte
set_option linter.unusedVariables false
set_option linter.unusedSimpArgs false
set_option linter.unusedSectionVars false
open Option renaming bind → zC, bind_some → zD
open Int renaming ofNat → zF, toNat → zI, tmod_eq_emod_of_nonneg → kC
open List renaming length → zG, getD_eq_getElem?_getD → zX, mem_of_getElem? → zY, length_map → kA, length_take → kB
noncomputable section
namespace Go.Proofs.Lx
open Go Ev Sx Pl
set_option maxRecDepth 100000
theorem repB_bytes {r:TR} (hr:RR r):∀ y ∈ repB r,0≤y∧y≤255:=by
 have app:∀ {l r:List Int},(∀ y ∈ l,0≤y∧y≤255)->(∀ y ∈ r,0≤y∧y≤255)->∀ y ∈ l++r,0≤y∧y≤255:=fun h1 h2 y hy=>by
  rcases List.mem_append.1 hy with h | h
  ·exact h1 y h
  ·exact h2 y h
 have con:∀ {x:Int} {r:List Int},(0≤x∧x≤255)->(∀ y ∈ r,0≤y∧y≤255)->∀ y ∈ x::r,0≤y∧y≤255:=fun h1 h2 y hy=>by
  rcases List.mem_cons.1 hy with h | h
  ·subst h; exact h1
  ·exact h2 y h
 have nil:∀ y ∈ ([]:List Int),0≤y∧y≤255:=fun y hy=>by cases hy
 cases hr with
 | ex f e h0 h h1 h2 =>
  have ea:add .u8 f 128=f + 128:=wu8 (by omega) (by omega)
  unfold repB
  rw [if_pos (by rw [qd_]; show e ≠ 0; omega)]
  unfold exB
  dsimp only
  rw [ea]
  exact con (by omega) (con (by omega) nil)
 | bits f l hf h1 h2 h3 =>
  have e:repB (f,0,l,[],0,0)=f::(packN l.length:Int) % 256::packS l:=by rcases hf with rfl | rfl <;> rfl
  rw [e]
  exact con (by omega) (con (by omega) (pack_bytes l))
 | words f l hf h1 h2 =>
  have e:repB (f,0,[],l,0,0)=f::2 * (l.length:Int) % 256::l.flatMap two:=by rcases hf with rfl | rfl | rfl <;> rfl
  rw [e]
  exact con (by omega) (con (by omega) (flat_bytes l))
 | coil b p =>
  show ∀ y ∈ (5:Int)::two p++two (if b=true then 65280 else 0),0≤y∧y≤255
  exact app (con (by decide) (q1i_ p)) (q1i_ _)
 | word x p =>
  show ∀ y ∈ (6:Int)::two p++two x,0≤y∧y≤255
  exact app (con (by decide) (q1i_ p)) (q1i_ _)
 | coils p n h1 h2 =>
  show ∀ y ∈ (15:Int)::two p++two n,0≤y∧y≤255
  exact app (con (by decide) (q1i_ p)) (q1i_ _)
 | regs p n h1 h2 =>
  show ∀ y ∈ (16:Int)::two p++two n,0≤y∧y≤255
  exact app (con (by decide) (q1i_ p)) (q1i_ _)
theorem mbap_P {tx unit:Int} {pdu:List Int} (h1:1≤pdu.length) (h2:pdu.length≤253) (ht:0≤tx) (ht2:tx≤65535) (hu:0≤unit) (hu2:unit≤255) (hb:∀ y ∈ pdu,0≤y∧y≤255):mbapP (mbapV tx unit pdu)=((tx,unit,pdu),0):=by
 have h:=q1p2_ h1 h2 ht ht2 hu hu2 hb
 have hall:∀ y ∈ mbapV tx unit pdu,0≤y∧y≤255:=by
  intro y hy
  unfold mbapV at hy
  rcases List.mem_append.1 hy with h | h
  ·simp at h
   rcases h with rfl | rfl | rfl | rfl | rfl <;> omega
  ·exact hb y h
 rw [mparse_eq (by simp [mbapV]; omega) hall] at h
 have h:=Option.some.inj h
 have e1:=congrArg (·.1) h
 have e2:=congrArg (·.2.1) h
 exact Prod.ext e1 e2
theorem rtu_P {unit:Int} {pdu:List Int} (h1:1≤pdu.length) (h2:pdu.length≤253) (hu:1≤unit) (hu2:unit≤247):rtuV (putV (unit::pdu))=(unit,pdu,0):=by
 have h:=q1p6_ h1 h2 hu hu2
 rw [rtup_eq] at h
 have h:=Option.some.inj h
 exact Prod.ext (congrArg (·.1) h) (Prod.ext (congrArg (·.2.1) h) (congrArg (·.2.2.1) h))
def replF (l u x:Int) (r:TR):List Int:=if l=2 then mbapV x u (repB r) else putV (u::repB r)
theorem take_ask {s:TSl} {a:TA} (ha:OkA a) (hr:qq_ a=true) (hu:1≤s.1∧s.1≤247) {x:Int} (hx:0≤x∧x≤65535):takeS s (frameV s.2.1 s.1 x a)=((servS s a).1,replF s.2.1 s.1 x (servS s a).2):=by
 have hl:=askB_len (q1s_ hr)
 have hb:=askB_bytes (q1s_ hr)
 unfold takeS frameV replF
 by_cases h2:s.2.1=2
 ·simp only [if_pos h2]
  rw [mbap_P (by omega) hl.2 hx.1 hx.2 (by omega) (by omega) hb]
  dsimp only
  rw [if_neg (by simp),full_ask ha hr]
 ·simp only [if_neg h2]
  rw [rtu_P (by omega) hl.2 hu.1 hu.2]
  dsimp only
  rw [if_neg (by simp),full_ask ha hr]
theorem find_rep {q:TP} {r:TR} (h:Rep r) (hq:OkP q):findV q (replF q.2.1 q.1 q.2.2.2.2.2.2.1 r)=some r:=by
 have hlen:=repB_len h.rr
 have hu:=hq.u0
 have hu2:=hq.u1
 have hpr:=rparse_back h.ok h.rr h.rt
 unfold findV replF
 by_cases h2:q.2.1=2
 ·simp only [if_pos h2]
  unfold tcpV
  rw [mbap_P (by omega) hlen.2 hq.x0 hq.x1 (by omega) (by omega) (repB_bytes h.rr)]
  dsimp only
  rw [hpr,if_neg (by decide),if_neg (fun e=>e rfl),if_neg (fun e=>e rfl),if_neg (by show ¬ (0:Int) ≠ 0; decide)]
 ·simp only [if_neg h2]
  unfold serV
  rw [rtu_P (by omega) hlen.2 hu hu2]
  dsimp only
  rw [hpr,if_neg (by decide),if_neg (fun e=>e rfl),if_neg (by show ¬ (0:Int) ≠ 0; decide)]
theorem take_rep {q:TP} {r:TR} (h:Rep r) (hq:OkP q) (hw:q.2.2.2.2.1=true) (hf:fitsV q.2.2.2.2.2.1 r=true):takeV q (replF q.2.1 q.1 q.2.2.2.2.2.2.1 r)=some r:=by
 unfold takeV
 rw [if_pos hw,find_rep h hq,zD,if_pos hf]
def goodX (t:TTk):Prop:=t.2.2.2.2.2.1 ≠ 0∧(t.2.2.2.2.2.1=2∨t.2.2.2.2.2.1=3->hasT t=true)
theorem goodX.good {t:TTk} (h:goodX t):goodT t:=⟨h.1,fun e=>h.2 (.inl e)⟩
theorem goodX_to {t:TTk} {k:Int} (h0:k ≠ 0) (h2:k=2∨k=3->hasT t=true):goodX (toT t k):=⟨h0,h2⟩
theorem goodX_next (t:TTk):goodX (nextT t):=by
 unfold nextT
 split
 ·exact goodX_to (by decide) (fun e=>by omega)
 ·rename_i h
  exact goodX_to (by decide) (fun _=>decide_eq_true (by omega))
theorem goodX_again {t:TTk} {k:Int} (h0:k ≠ 0) (h2:k=2∨k=3->hasT t=true) (h:(againT t k).2.2.2.2.2.1 ≠ 0):goodX (againT t k):=by
 unfold againT at h ⊢
 split
 ·rename_i h8
  rw [if_pos h8] at h
  exact absurd rfl h
 ·exact goodX_to h0 h2
theorem goodX_eff {t:TTk} {r:TR} (hg:goodX t) (ha:0≤t.2.2.2.2.2.1∧t.2.2.2.2.2.1≤7) (h:(effT t r).2.2.2.2.2.1 ≠ 0):goodX (effT t r):=by
 have E:∀ {s},(endT t s).2.2.2.2.2.1 ≠ 0->goodX (endT t s):=fun h=>absurd rfl h
 have hc:t.2.2.2.2.2.1=1∨t.2.2.2.2.2.1=2∨t.2.2.2.2.2.1=3∨t.2.2.2.2.2.1=4∨t.2.2.2.2.2.1=5∨t.2.2.2.2.2.1=6∨t.2.2.2.2.2.1=7:=by
  have:=hg.1
  omega
 have T:∀ {k:Int},4≤k->goodX (toT t k):=fun hk=>goodX_to (by omega) (fun e=>by omega)
 have A:∀ {k:Int},k=1∨k=4->(againT t k).2.2.2.2.2.1 ≠ 0->goodX (againT t k):=fun hk=>goodX_again (by omega) (fun e=>by omega)
 rcases hc with e | e | e | e | e | e | e
 ·rw [eff1 e] at h ⊢
  cases hr:readR r with
  | none=>rw [hr] at h; exact E h
  | some s =>
   rw [hr] at h
   dsimp only at h ⊢
   split
   ·rename_i q
    rw [if_pos q] at h; exact E h
   ·rename_i q
    rw [if_neg q] at h
    split
    ·exact goodX_next _
    ·rename_i q
     rw [if_neg q] at h
     exact A (.inl rfl) h
 ·rw [eff2 e] at h ⊢
  split
  ·rename_i q
   rw [if_pos q] at h; exact E h
  ·exact goodX_to (by decide) (fun _=>hg.2 (.inl e))
 ·rw [eff3 e] at h ⊢
  split
  ·exact goodX_next _
  ·rename_i q
   rw [if_neg q] at h
   exact goodX_again (by decide) (fun _=>hg.2 (.inr e)) h
 ·rw [eff4 e] at h ⊢
  cases hr:readR r with
  | none=>rw [hr] at h; exact E h
  | some s =>
   rw [hr] at h
   dsimp only at h ⊢
   split
   ·rename_i q
    rw [if_pos q] at h; exact E h
   ·rename_i q
    rw [if_neg q] at h
    exact A (.inr rfl) h
 ·unfold effT at h ⊢
  rw [e] at h ⊢
  simp only [show ¬ (5:Int)=1 by decide,show ¬ (5:Int)=2 by decide,show ¬ (5:Int)=3 by decide,show ¬ (5:Int)=4 by decide,if_false,if_true] at h ⊢
  cases hr:readR r with
  | none=>exact T (by decide)
  | some s =>
   rw [hr] at h
   dsimp only at h ⊢
   split
   ·rename_i q
    rw [if_pos q] at h; exact E h
   ·exact T (by decide)
 ·unfold effT at h ⊢
  rw [e] at h ⊢
  simp only [show ¬ (6:Int)=1 by decide,show ¬ (6:Int)=2 by decide,show ¬ (6:Int)=3 by decide,show ¬ (6:Int)=4 by decide,show ¬ (6:Int)=5 by decide,if_false,if_true] at h ⊢
  cases hr:readR r with
  | none=>exact T (by decide)
  | some s =>
   rw [hr] at h
   dsimp only at h ⊢
   split
   ·exact T (by decide)
   ·rename_i q
    rw [if_neg q] at h; exact E h
 ·unfold effT at h ⊢
  rw [e] at h ⊢
  simp only [show ¬ (7:Int)=1 by decide,show ¬ (7:Int)=2 by decide,show ¬ (7:Int)=3 by decide,show ¬ (7:Int)=4 by decide,show ¬ (7:Int)=5 by decide,show ¬ (7:Int)=6 by decide,if_false,if_true] at h ⊢
  split
  ·rename_i q
   rw [if_pos q] at h
   cases hr:readR r with
   | none=>exact T (by decide)
   | some s =>
    rw [hr] at h
    dsimp only at h ⊢
    split
    ·rename_i q
     rw [if_pos q] at h; exact E h
    ·exact T (by decide)
  ·rename_i q
   rw [if_neg q] at h
   cases hr:readR r with
   | none=>exact T (by decide)
   | some s =>
    rw [hr] at h
    dsimp only at h ⊢
    split
    ·exact T (by decide)
    ·rename_i q
     rw [if_neg q] at h; exact E h
def stepP (p:TP):TP:=(p.1,p.2.1,p.2.2.1,p.2.2.2.1,false,zA,nextV p.2.1 p.2.2.2.2.2.2.1,0,0)
structure OkX (t:TTk) (s:TSl):Prop where
 kt:OkT t
 ks:OkS s
 g:goodX t
 w:t.1.2.2.2.2.1=false
 u:s.1=t.1.1
 l:s.2.1=t.1.2.1
def effX (t:TTk) (s:TSl):TTk:=effT (stepP t.1,t.2) (servS s (reqT t)).2
def slX (t:TTk) (s:TSl):TSl:=(servS s (reqT t)).1
theorem sendT_go {t:TTk} {s:TSl} (h:OkX t s):sendT t=((sentP (waitP t.1 (reqT t)),t.2),frameV s.2.1 s.1 (nextV s.2.1 t.1.2.2.2.2.2.2.1) (reqT t)):=by
 unfold sendT
 rw [if_neg (by rw [h.w]; decide),if_pos (reqT_right h.kt h.g.good),h.u,h.l]
 rfl
theorem come_ask {t:TTk} {s:TSl} (h:OkX t s):takeS s (sendT t).2=(slX t s,replF s.2.1 s.1 (nextV s.2.1 t.1.2.2.2.2.2.2.1) (servS s (reqT t)).2):=by
 have hx:=nextV_rng s.2.1 h.kt.p.x0 h.kt.p.x1
 have h0:=h.kt.p.u0
 have h1:=h.kt.p.u1
 have hu:=h.u
 rw [sendT_go h]
 exact take_ask (reqT_ok h.kt) (reqT_right h.kt h.g.good) (by omega) hx
theorem come_rep {t:TTk} {s:TSl} (h:OkX t s):ttakeT (sendT t).1 (replF s.2.1 s.1 (nextV s.2.1 t.1.2.2.2.2.2.2.1) (servS s (reqT t)).2)=if (effX t s).2.2.2.2.2.1=0 then (effX t s,[]) else sendT (effX t s):=by
 have hx:=nextV_rng t.1.2.1 h.kt.p.x0 h.kt.p.x1
 have ha:=reqT_ok h.kt
 have hr:=reqT_right h.kt h.g.good
 have hp:OkP (sentP (waitP t.1 (reqT t))):=⟨h.kt.p.u0,h.kt.p.u1,h.kt.p.l,h.kt.p.t0,h.kt.p.t1,h.kt.p.r0,h.kt.p.r1,ha,hx.1,hx.2⟩
 have e:=take_rep (servS_rep h.ks ha hr) hp rfl (fits_serv h.ks ha hr)
 rw [sendT_go h,h.u,h.l]
 unfold ttakeT
 dsimp only
 have e2:takeV (sentP (waitP t.1 (reqT t))) (replF t.1.2.1 t.1.1 (nextV t.1.2.1 t.1.2.2.2.2.2.2.1) (servS s (reqT t)).2)=some (servS s (reqT t)).2:=e
 rw [e2]
 rfl
theorem effT_p (p:TP) (c:_) (r:TR):(effT (stepP p,c) r).1=stepP p:=by
 unfold effT nextT againT
 repeat' split
 all_goals rfl
theorem servS_line (s:TSl) (a:TA):(servS s a).1.1=s.1∧(servS s a).1.2.1=s.2.1:=by
 unfold servS
 repeat' split
 all_goals exact ⟨rfl,rfl⟩
theorem OkX.kt' {t:TTk} {s:TSl} (h:OkX t s):OkT (effX t s):=by
 have hx:=nextV_rng t.1.2.1 h.kt.p.x0 h.kt.p.x1
 have ok:OkT (stepP t.1,t.2):=⟨⟨h.kt.p.u0,h.kt.p.u1,h.kt.p.l,h.kt.p.t0,h.kt.p.t1,h.kt.p.r0,h.kt.p.r1,zA_ok,hx.1,hx.2⟩,h.kt.o,h.kt.x,h.kt.bl,h.kt.bf,h.kt.at',h.kt.n,h.kt.tr⟩
 exact ok.eff _
theorem OkX.ks' {t:TTk} {s:TSl} (h:OkX t s):OkS (slX t s):=servS_ok h.ks (reqT_ok h.kt) (reqT_right h.kt h.g.good)
theorem OkX.next {t:TTk} {s:TSl} (h:OkX t s) (h0:(effX t s).2.2.2.2.2.1 ≠ 0):OkX (effX t s) (slX t s):=by
 have e:(effX t s).1=stepP t.1:=effT_p _ _ _
 have l:=servS_line s (reqT t)
 refine ⟨h.kt',h.ks',goodX_eff h.g h.kt.at' h0,by rw [e]; rfl,?_,?_⟩
 ·rw [e]
  exact l.1.trans h.u
 ·rw [e]
  exact l.2.trans h.l
def calmP:Nat->TTk->TSl->TWay->TTk×TSl×TWay
 | 0,t,s,w=>(t,s,w)
 | _ + 1,t,s,[]=>(t,s,[])
 | n + 1,t,s,m::w=>calmP n (comeP m t s w).1 (comeP m t s w).2.1 (comeP m t s w).2.2
theorem calmP_nil (n:Nat) (t:TTk) (s:TSl):calmP n t s []=(t,s,[]):=by cases n <;> rfl
def runX:Nat->TTk->TSl->Option (TTk×TSl)
 | 0,_,_=>none
 | n + 1,t,s=>if (effX t s).2.2.2.2.2.1=0 then some (effX t s,slX t s) else runX n (effX t s) (slX t s)
theorem sendT_len {t:TTk} {s:TSl} (h:OkX t s):8≤(sendT t).2.length∧(sendT t).2.length≤260:=by
 have:=sentB_len (p:=waitP t.1 (reqT t)) (reqT_right h.kt h.g.good)
 unfold sendT
 rw [if_neg (by rw [h.w]; decide),if_pos (reqT_right h.kt h.g.good)]
 exact this
theorem replF_len {l u x:Int} {r:TR} (h:RR r):1≤(replF l u x r).length∧(replF l u x r).length≤300:=by
 have:=repB_len h
 unfold replF
 split
 ·simp [mbapV]; omega
 ·rw [putV_len]; simp; omega
theorem exch_one {t:TTk} {s:TSl} (h:OkX t s):comeP (false,(sendT t).2) (sendT t).1 s []=((sendT t).1,slX t s,[(true,replF s.2.1 s.1 (nextV s.2.1 t.1.2.2.2.2.2.2.1) (servS s (reqT t)).2)]):=by
 have hr:=servS_rep h.ks (reqT_ok h.kt) (reqT_right h.kt h.g.good)
 unfold comeP
 rw [if_neg (by simp)]
 dsimp only
 rw [come_ask h]
 unfold outW
 have hl:=replF_len (l:=s.2.1) (u:=s.1) (x:=nextV s.2.1 t.1.2.2.2.2.2.2.1) hr.rr
 rw [if_pos ⟨hl.1,by decide⟩]
 rfl
theorem exch_two {t:TTk} {s:TSl} (h:OkX t s):comeP (true,replF s.2.1 s.1 (nextV s.2.1 t.1.2.2.2.2.2.2.1) (servS s (reqT t)).2) (sendT t).1 (slX t s) [] =
  if (effX t s).2.2.2.2.2.1=0 then (effX t s,slX t s,[]) else ((sendT (effX t s)).1,slX t s,[(false,(sendT (effX t s)).2)]):=by
 unfold comeP
 rw [if_pos rfl]
 dsimp only
 rw [come_rep h]
 split
 ·rfl
 ·rename_i h0
  have:=sendT_len (h.next h0)
  unfold outW
  rw [if_pos ⟨by omega,by decide⟩]
  rfl
theorem calm_run:∀ {n m:Nat} {t:TTk} {s:TSl} {z:TTk×TSl},OkX t s->runX n t s=some z->2 * n≤m->calmP m (sendT t).1 s [(false,(sendT t).2)]=(z.1,z.2,[])
 | 0,_,_,_,_,_,h,_=>by cases h
 | n + 1,m,t,s,z,hx,h,hm=>by
  obtain ⟨k,rfl⟩:∃ k,m=k + 2:=⟨m - 2,by omega⟩
  show calmP (k + 1) (comeP (false,(sendT t).2) (sendT t).1 s []).1 (comeP (false,(sendT t).2) (sendT t).1 s []).2.1 (comeP (false,(sendT t).2) (sendT t).1 s []).2.2=_
  rw [exch_one hx]
  show calmP k (comeP (true,_) (sendT t).1 (slX t s) []).1 (comeP (true,_) (sendT t).1 (slX t s) []).2.1 (comeP (true,_) (sendT t).1 (slX t s) []).2.2=_
  rw [exch_two hx]
  unfold runX at h
  split at h
  ·rename_i h0
   rw [if_pos h0,calmP_nil]
   cases h
   rfl
  ·rename_i h0
   rw [if_neg h0]
   exact calm_run (hx.next h0) h (by omega)
def RunOk:Nat->TTk->TSl->TWay->Prop
 | 0,_,_,_=>True
 | _ + 1,_,_,[]=>True
 | n + 1,t,s,m::w=>OkT t∧OkM t m∧RunOk n (comeP m t s w).1 (comeP m t s w).2.1 (comeP m t s w).2.2
theorem comeP_ok {m:Bool×List Int} {t:TTk} {s:TSl} {w:TWay} (hs:OkS s) (hm:OkM t m):OkS (comeP m t s w).2.1:=by
 unfold comeP
 split
 ·exact hs
 ·exact takeS_ok hs hm.b
def calmF (self:Int×Int×(TTk×TSl×Unit×Int×Int×List (List TBlk))×TWay->Option (Bool×TTk×TSl×Int×Int×List (List TBlk)×TWay×Unit)) (st:Int×Int×(TTk×TSl×Unit×Int×Int×List (List TBlk))×TWay) :=
 q23_ q4n_ (fun t6 t7 p o=>self (t6,t7,p,o)) st.1 st.2.1 st.2.2.1 st.2.2.2
theorem calm_loop {N:Nat} (hN:N≤1000000) (x g:Int) (pl:List (List TBlk)):∀ (k i n:Nat) (t:TTk) (s:TSl) (w:TWay),i + k=N->k < n->OkS s->RunOk k t s w->w.length≤1000000 ->
  loopF calmF n ((N:Int),(i:Int),(t,s,(),x,g,pl),w)
   = some (eqi (zF (calmP k t s w).2.2.length) 0,(calmP k t s w).1,(calmP k t s w).2.1,x,g,pl,(calmP k t s w).2.2,())
 | _,_,0,_,_,_,_,h,_,_,_=>by omega
 | 0,i,n + 1,t,s,w,h,_,hs,_,_=>by
  rw [q11_]
  show q23_ q4n_ _ (N:Int) (i:Int) (t,s,(),x,g,pl) w=_
  unfold q23_
  rw [if_neg (fun h=>by have:=q5_.1 h; omega)]
  show qa8_ (t,s,(),x,g,pl) w=_
  unfold qa8_
  rw [q2c_ hs]
  rfl
 | k + 1,i,n + 1,t,s,[],h,_,hs,_,_=>by
  rw [q11_]
  show q23_ q4n_ _ (N:Int) (i:Int) (t,s,(),x,g,pl) []=_
  unfold q23_
  rw [if_pos (q5_.2 (by omega)),if_pos (show eqi (zF ([]:TWay).length) 0=true from rfl),q2c_ hs]
  rfl
 | k + 1,i,n + 1,t,s,m::w,h,hn,hs,hr,hw=>by
  have hl:(m::w).length=w.length + 1:=rfl
  rw [hl] at hw
  rw [q11_]
  show q23_ q4n_ _ (N:Int) (i:Int) (t,s,(),x,g,pl) (m::w)=_
  unfold q23_
  have e:List.take (zI (zF (m::w).length - 1)) (List.drop 1 (m::w))=w:=by
   have:zI (zF (m::w).length - 1)=w.length:=by rw [hl,q1_]; omega
   rw [this]
   exact List.take_length
  rw [if_pos (q5_.2 (by omega)),if_neg (fun e=>by have:=q4_.1 e; rw [q1_] at this; omega),q15_,zD,zD,qa_ (qo_.2 (by rw [q1_]; omega)),qa_ (qo_.2 (Int.le_refl _)),qa_ (q5_.2 (by rw [q1_]; omega)),e]
  dsimp only
  rw [q2c_ hs,come_law hr.1 hs hr.2.1,zD,qw_ (by omega)]
  refine calm_loop hN x g pl k (i + 1) n _ _ _ (by omega) (by omega) (comeP_ok hs hr.2.1) hr.2.2 ?_
  unfold comeP outW
  repeat' split
  all_goals first | (dsimp only; omega) | (dsimp only; rw [List.length_append]; have:∀ z:Bool×List Int,[z].length=1:=fun _=>rfl; rw [this]; omega)
theorem calm_law {N:Nat} (hN:N≤1000000) {t:TTk} {s:TSl} {w:TWay} (hs:OkS s) (hr:RunOk N t s w) (hw:w.length≤1000000) (x g:Int) (pl:List (List TBlk)) :
  q40_ ((N:Int),t,s,x,g,pl,w,())=some (eqi (zF (calmP N t s w).2.2.length) 0,(calmP N t s w).1,(calmP N t s w).2.1,x,g,pl,(calmP N t s w).2.2,()) :=
 calm_loop hN x g pl N 0 18446744073709551616 t s w (by omega) (by omega) hs hr hw
def pickB (alt:Bool) (t:TTk) (x:Int):Option (Int×Int) :=
 if t.2.2.2.2.1=1∧t.2.2.2.2.2.2.2.2=1∧alt=false then some (2,x) else if t.2.2.2.2.1=1∧(alt=true∨t.2.2.2.2.2.2.2.2=2) then some (3,x) else if t.2.2.2.2.1 ≠ 0∧t.2.2.2.2.2.2.2.2=0 then none else some (1,x + 1)
def planB (pl:List (List TBlk)) (y:Int):List TBlk:=pl.getD (y.toNat % pl.length) []
structure OkPl (pl:List (List TBlk)):Prop where
 l:pl.length≤1000000
 b:∀ q ∈ pl,q.length≤1000000∧∀ b ∈ q,b.2.length≤1000000∧∀ y ∈ b.2,0≤y∧y≤65535
theorem planB_ok {pl:List (List TBlk)} (h:OkPl pl) (y:Int):(planB pl y).length≤1000000∧∀ b ∈ planB pl y,b.2.length≤1000000∧∀ z ∈ b.2,0≤z∧z≤65535:=by
 unfold planB
 rw [zX]
 cases e:pl[y.toNat % pl.length]? with
 | none=>exact ⟨Nat.zero_le _,fun b hb=>by cases hb⟩
 | some q=>exact h.b q (zY e)
theorem begin_go {t:TTk} {s:TSl} (ht:OkT t) (hs:OkS s) {k y:Int} (hy:0≤y∧y≤4294967295) {pl:List (List TBlk)} (hp:OkPl pl) (x g:Int) (w:TWay) :
  q1v_ k y (t,s,(),x,g,pl) w=some (decide ((startT t k y (planB pl y)).2.2=0),(startT t k y (planB pl y)).1,s,y,if k=2 then y else g,pl,outW w false (startT t k y (planB pl y)).2.1,()):=by
 have k6:∀ (b:List Int) (e:Int) g' (t':TTk),q5n_ y b e (t,s,(),x,g',pl) w t'=some (eqi e 0,t',s,y,g',pl,outW w false b,()):=fun b e g' t'=>by
  show q9a_ y b e (t,s,(),x,g',pl) w t'=_
  unfold q9a_
  dsimp only
  rw [q2c_ hs,sent_law hs,zD]
  dsimp only
  rw [q2c_ hs]
 have st:∀ (l:List TBlk) (g':Int),l=planB pl y->(zC (q2r_ (t,k,y,l,())) fun z=>q5n_ y z.2.1 z.2.2.1 (t,s,(),x,g',pl) w z.1)=some (decide ((startT t k y (planB pl y)).2.2=0),(startT t k y (planB pl y)).1,s,y,g',pl,outW w false (startT t k y (planB pl y)).2.1,()):=fun l g' e=>by
  obtain ⟨h1,h2⟩:=planB_ok hp y
  rw [e,start_eq ht hy h1 (fun b hb=>(h2 b hb).1) (fun b hb=>(h2 b hb).2),zD]
  dsimp only
  rw [k6]
  have:∀ z:Int,eqi z 0=decide (z=0):=fun z=>by rw [Bool.eq_iff_iff,q4_,decide_eq_true_iff]
  rw [this]
 have k4:∀ g':Int,q96_ k y (t,s,(),x,g',pl) w=some (decide ((startT t k y (planB pl y)).2.2=0),(startT t k y (planB pl y)).1,s,y,g',pl,outW w false (startT t k y (planB pl y)).2.1,()):=fun g'=>by
  show q98_ q5n_ k y (t,s,(),x,g',pl) w=_
  unfold q98_
  by_cases h0:pl.length=0
  ·have e0:eqi (zF pl.length) 0=true:=q4_.2 (by rw [q1_]; omega)
   have:pl=[]:=List.length_eq_zero_iff.1 h0
   simp only [e0,if_true]
   rw [amb2 (eqAs_refl _),amb2 (eqAs_refl _)]
   exact st [] g' (by rw [this]; rfl)
  ·have e0:eqi (zF pl.length) 0=false:=by
    rw [<- Bool.not_eq_true,q4_,q1_]; omega
   have hl:=hp.l
   have er:rem (cvt .i64 y) (zF pl.length)=((y.toNat % pl.length:Nat):Int):=by
    obtain ⟨n,rfl⟩:=Int.eq_ofNat_of_zero_le hy.1
    rw [cvt64 (by omega) (by omega),q1_]
    unfold rem
    rw [kC (by omega),Int.toNat_natCast]
    rfl
   have hlt:y.toNat % pl.length < pl.length:=Nat.mod_lt _ (by omega)
   obtain ⟨q,hq⟩:=get_of (xs:=pl) hlt
   have ep:q=planB pl y:=by
    unfold planB
    rw [zX,hq]
    rfl
   simp only [e0]
   rw [if_neg (by decide),if_neg (by decide),qa_ (by rw [qd_,q1_]; omega),qa_ (by rw [qd_,q1_]; omega),er,qf_ hq,zD,zD,amb2 (eqAs_refl _),amb2 (eqAs_refl _)]
   exact st q g' ep
 show q9b_ q96_ k y (t,s,(),x,g,pl) w=_
 unfold q9b_
 by_cases h2:k=2
 ·rw [if_pos (q4_.2 h2),if_pos h2]
  exact k4 y
 ·rw [if_neg (fun e=>h2 (q4_.1 e)),if_neg h2]
  exact k4 g
def beginP (alt:Bool) (t:TTk) (s:TSl) (x g:Int) (pl:List (List TBlk)) (w:TWay):Bool×TTk×TSl×Int×Int×List (List TBlk)×TWay×Unit :=
 match pickB alt t x with
 | none=>(true,t,s,x,g,pl,w,())
 | some (k,y)=>(decide ((startT t k y (planB pl y)).2.2=0),(startT t k y (planB pl y)).1,s,y,if k=2 then y else g,pl,outW w false (startT t k y (planB pl y)).2.1,())
theorem begin_law {t:TTk} {s:TSl} (ht:OkT t) (hs:OkS s) (alt:Bool) {x:Int} (hx:0≤x∧x≤1000000) (g:Int) {pl:List (List TBlk)} (hp:OkPl pl) (w:TWay) :
  q2q_ (alt,t,s,x,g,pl,w,())=some (beginP alt t s x g pl w):=by
 have ea:add .u32 x 1=x + 1:=wu32 (by omega) (by omega)
 have go:=fun k y hy=>begin_go ht hs (k:=k) (y:=y) hy hp x g w
 have K5:∀ b,q5m_ 1 (x + 1) b (t,s,(),x,g,pl) w=if b=true then some (true,t,s,x,g,pl,w,()) else q1v_ 1 (x + 1) (t,s,(),x,g,pl) w:=fun b=>by
  show q99_ q1v_ 1 (x + 1) b (t,s,(),x,g,pl) w=_
  unfold q99_
  rw [q2c_ hs]
 have K3:∀ b,q43_ 1 (x + 1) b (t,s,(),x,g,pl) w=if b=true then q1v_ 3 x (t,s,(),x,g,pl) w else if nei t.2.2.2.2.1 0=true then q5m_ 1 (x + 1) (eqi t.2.2.2.2.2.2.2.2 0) (t,s,(),x,g,pl) w else q5m_ 1 (x + 1) false (t,s,(),x,g,pl) w:=fun b=>rfl
 have K1:∀ b,q97_ alt 1 (x + 1) b (t,s,(),x,g,pl) w=if b=true then q1v_ 2 x (t,s,(),x,g,pl) w else if eqi t.2.2.2.2.1 1=true then (if alt=true then q43_ 1 (x + 1) true (t,s,(),x,g,pl) w else q43_ 1 (x + 1) (eqi t.2.2.2.2.2.2.2.2 2) (t,s,(),x,g,pl) w) else q43_ 1 (x + 1) false (t,s,(),x,g,pl) w:=fun b=>rfl
 show q95_ q97_ alt t s x g pl w=_
 unfold q95_ beginP pickB
 rw [ea]
 simp only [K1,K3,K5,go 1 (x + 1) (by omega),go 2 x (by omega),go 3 x (by omega)]
 generalize t.2.2.2.2.1=a
 generalize t.2.2.2.2.2.2.2.2=c
 have eq:∀ p q:Int,(eqi p q=true)=(p=q):=fun p q=>propext q4_
 have ne:∀ p q:Int,(nei p q=true)=(p ≠ q):=fun p q=>propext qd_
 cases alt <;> simp only [eq,ne,Bool.not_true,Bool.not_false,if_true,Bool.false_eq_true,if_false] <;> (by_cases h1:a=1 <;> by_cases h2:c=1 <;> by_cases h3:c=2 <;> by_cases h4:c=0 <;> by_cases h5:a=0 <;> simp_all <;> omega)
theorem mbapV_bytes {tx unit:Int} {pdu:List Int} (hu:0≤unit∧unit≤255) (hb:∀ y ∈ pdu,0≤y∧y≤255):∀ y ∈ mbapV tx unit pdu,0≤y∧y≤255:=by
 intro y hy
 unfold mbapV at hy
 rcases List.mem_append.1 hy with h | h
 ·simp at h
  rcases h with rfl | rfl | rfl | rfl | rfl <;> omega
 ·exact hb y h
theorem putV_bytes {b:List Int} (hb:∀ y ∈ b,0≤y∧y≤255):∀ y ∈ putV b,0≤y∧y≤255:=by
 have hs:=sumV_rng b
 intro y hy
 unfold putV at hy
 rcases List.mem_append.1 hy with h | h
 ·exact hb y h
 ·simp at h
  rcases h with rfl | rfl <;> omega
theorem con_bytes {u:Int} {b:List Int} (hu:0≤u∧u≤255) (hb:∀ y ∈ b,0≤y∧y≤255):∀ y ∈ u::b,0≤y∧y≤255:=by
 intro y hy
 rcases List.mem_cons.1 hy with h | h
 ·exact h ▸ hu
 ·exact hb y h
theorem replF_bytes {l u x:Int} {r:TR} (hr:RR r) (hu:0≤u∧u≤255):∀ y ∈ replF l u x r,0≤y∧y≤255:=by
 unfold replF
 split
 ·exact mbapV_bytes hu (repB_bytes hr)
 ·exact putV_bytes (con_bytes hu (repB_bytes hr))
theorem frameV_bytes {l u x:Int} {a:TA} (hr:RA a) (hu:0≤u∧u≤255):∀ y ∈ frameV l u x a,0≤y∧y≤255:=by
 unfold frameV
 split
 ·exact mbapV_bytes hu (askB_bytes hr)
 ·exact putV_bytes (con_bytes hu (askB_bytes hr))
theorem sendT_ok {t:TTk} {s:TSl} (h:OkX t s):OkT (sendT t).1:=by
 have hx:=nextV_rng t.1.2.1 h.kt.p.x0 h.kt.p.x1
 rw [sendT_go h]
 exact ⟨⟨h.kt.p.u0,h.kt.p.u1,h.kt.p.l,h.kt.p.t0,h.kt.p.t1,h.kt.p.r0,h.kt.p.r1,reqT_ok h.kt,hx.1,hx.2⟩,h.kt.o,h.kt.x,h.kt.bl,h.kt.bf,h.kt.at',h.kt.n,h.kt.tr⟩
theorem q1p7_ {t:TTk} {s:TSl} (h:OkX t s):OkM (sendT t).1 (false,(sendT t).2):=by
 have hl:=sendT_len h
 have h0:=h.kt.p.u0
 have h1:=h.kt.p.u1
 have hu:=h.u
 refine ⟨?_,by dsimp only; omega,fun e=>by cases e⟩
 rw [sendT_go h]
 exact frameV_bytes (q1s_ (reqT_right h.kt h.g.good)) (by omega)
theorem rep_okM {t:TTk} {s:TSl} (h:OkX t s):OkM (sendT t).1 (true,replF s.2.1 s.1 (nextV s.2.1 t.1.2.2.2.2.2.2.1) (servS s (reqT t)).2):=by
 have h0:=h.kt.p.u0
 have h1:=h.kt.p.u1
 have hu:=h.u
 have hx:=nextV_rng t.1.2.1 h.kt.p.x0 h.kt.p.x1
 have ha:=reqT_ok h.kt
 have hr:=reqT_right h.kt h.g.good
 have rp:=servS_rep h.ks ha hr
 have hl:=replF_len (l:=s.2.1) (u:=s.1) (x:=nextV s.2.1 t.1.2.2.2.2.2.2.1) rp.rr
 refine ⟨replF_bytes rp.rr (by omega),by dsimp only; omega,fun _ r e=>?_⟩
 have hp:OkP (sentP (waitP t.1 (reqT t))):=⟨h.kt.p.u0,h.kt.p.u1,h.kt.p.l,h.kt.p.t0,h.kt.p.t1,h.kt.p.r0,h.kt.p.r1,ha,hx.1,hx.2⟩
 have e1:=take_rep rp hp rfl (fits_serv h.ks ha hr)
 have e2:takeV (sentP (waitP t.1 (reqT t))) (replF t.1.2.1 t.1.1 (nextV t.1.2.1 t.1.2.2.2.2.2.2.1) (servS s (reqT t)).2)=some (servS s (reqT t)).2:=e1
 rw [sendT_go h,h.u,h.l] at e
 dsimp only at e
 rw [e2] at e
 cases e
 have:=rp.ok.lw
 exact ⟨rp.ok.w,by omega⟩
theorem run_ok:∀ {n m:Nat} {t:TTk} {s:TSl} {z:TTk×TSl},OkX t s->runX n t s=some z->2 * n≤m->RunOk m (sendT t).1 s [(false,(sendT t).2)]
 | 0,_,_,_,_,_,h,_=>by cases h
 | n + 1,m,t,s,z,hx,h,hm=>by
  obtain ⟨k,rfl⟩:∃ k,m=k + 2:=⟨m - 2,by omega⟩
  refine ⟨sendT_ok hx,q1p7_ hx,?_⟩
  rw [exch_one hx]
  refine ⟨sendT_ok hx,rep_okM hx,?_⟩
  rw [exch_two hx]
  unfold runX at h
  split at h
  ·rename_i h0
   rw [if_pos h0]
   cases k <;> trivial
  ·rename_i h0
   rw [if_neg h0]
   exact run_ok (hx.next h0) h (by omega)
theorem calm_go {n N:Nat} {t:TTk} {s:TSl} {z:TTk×TSl} (h:OkX t s) (hz:runX n t s=some z) (hn:2 * n≤N) (hN:N≤1000000) (x g:Int) (pl:List (List TBlk)) :
  q40_ ((N:Int),(sendT t).1,s,x,g,pl,[(false,(sendT t).2)],())=some (true,z.1,z.2,x,g,pl,[],()):=by
 rw [calm_law hN h.ks (run_ok h hz hn) (Nat.le_add_left _ _),calm_run h hz hn]
 rfl
theorem runX_end:∀ {n:Nat} {t:TTk} {s:TSl} {z:TTk×TSl},OkX t s->runX n t s=some z->OkT z.1∧OkS z.2∧z.1.2.2.2.2.2.1=0∧z.1.1.2.2.2.2.1=false∧z.2.1=z.1.1.1∧z.2.2.1=z.1.1.2.1
 | 0,_,_,_,_,h=>by cases h
 | n + 1,t,s,z,hx,h=>by
  unfold runX at h
  split at h
  ·rename_i h0
   cases h
   have e:(effX t s).1=stepP t.1:=effT_p _ _ _
   have l:=servS_line s (reqT t)
   refine ⟨hx.kt',hx.ks',h0,by dsimp only; rw [e]; rfl,?_,?_⟩
   ·dsimp only; rw [e]; exact l.1.trans hx.u
   ·dsimp only; rw [e]; exact l.2.trans hx.l
  ·rename_i h0
   exact runX_end (hx.next h0) h
theorem start_go {t:TTk} {s:TSl} (ht:OkT t) (hs:OkS s) (hu:s.1=t.1.1) (hl:s.2.1=t.1.2.1) {g y:Int} {l:List TBlk} (hg:1≤g∧g≤3) (hy:1≤y∧y≤4294967295) (hf:g=1->fitL l=true) (hw:∀ b ∈ l,∀ z ∈ b.2,0≤z∧z≤65535) :
  startT t g y l=((sendT (beginT t g y l)).1,(sendT (beginT t g y l)).2,0)∧OkX (beginT t g y l) s:=by
 constructor
 ·unfold startT
  rw [if_neg (by rintro (h | h); exact h hg; omega),if_neg (fun h=>by rw [hf h.1] at h; exact absurd h.2 (by decide))]
 ·refine ⟨beginT_ok ht (by omega) hf hw,hs,?_,rfl,hu,hl⟩
  have hc:g=1∨g=2∨g=3:=by omega
  have e:(beginT t g y l).2.2.2.2.2.1=firstT g:=rfl
  unfold goodX
  rw [e]
  rcases hc with rfl | rfl | rfl <;> exact ⟨by decide,fun h=>absurd h (by decide)⟩
def fitB (x:TBlk):TBlk:=(x.1 % 64,x.2.take (min (min x.2.length 14) (64 - x.1 % 64).toNat))
def fitF (l:List TBlk):List TBlk:=(l.take 4).map fitB
theorem lfit_eq {l:List TBlk}:q12f_ (l,4,())=some (fitF l,()):=by
 show qx0_ qil_ l 4=_
 unfold qx0_ fitF
 have hc:cut l 0 (if lt 4 (zF l.length)=true then 4 else zF l.length)=some (l.take 4):=by
  by_cases h:4 < l.length
  ·rw [if_pos (by rw [q5_,q1_]; omega)]
   exact cut_to (j:=4) (by omega)
  ·rw [if_neg (by rw [q5_,q1_]; omega),q1_,cut_to (Nat.le_refl _),List.take_of_length_le (Nat.le_refl _),List.take_of_length_le (by omega)]
 rw [hc,zD]
 have h8:(l.take 4).length≤4:=by rw [kB]; omega
 generalize l.take 4=m at h8
 show qil_ m (zF m.length) 0 ((m.take 0).map fitB)=_
 unfold qil_
 refine loop_dt (N:=m.length) (mk:=fun i=>(m,zF m.length,(i:Int),(m.take i).map fitB)) ?_ ?_ m.length 0 _ (by omega) (by omega)
 ·intro self i hi
  show qhn_ (qoc_ _) _ m (zF m.length) (i:Int) ((m.take i).map fitB)=self (m,zF m.length,((i + 1:Nat):Int),(m.take (i + 1)).map fitB)
  obtain ⟨x,hx⟩:=get_of (xs:=m) (i:=i) hi
  have es:(m.take (i + 1)).map fitB=(m.take i).map fitB++[fitB x]:=by rw [List.take_add_one,hx,List.map_append]; rfl
  have hlen:((m.take i).map fitB).length≤4:=by rw [kA,kB]; omega
  rw [es]
  unfold qhn_
  rw [if_pos (by rw [q5_,q1_]; omega),qf_ hx,zD]
  have K2:qoc_ (fun t14 t15 t16 out=>self (t14,t15,t16,out)) (x.1 % 64) m (zF m.length) (i:Int) ((m.take i).map fitB) x=self (m,zF m.length,((i + 1:Nat):Int),(m.take i).map fitB++[fitB x]):=by
   show qx7_ _ (x.1 % 64) m (zF m.length) (i:Int) ((m.take i).map fitB) x=_
   unfold qx7_
   have e1:Sx.sub .i64 64 (x.1 % 64)=64 - x.1 % 64:=sub64 (by omega) (by omega)
   have hc2:cut x.2 0 (if lt (Sx.sub .i64 64 (x.1 % 64)) (if lt 14 (zF x.2.length)=true then 14 else zF x.2.length)=true then Sx.sub .i64 64 (x.1 % 64) else if lt 14 (zF x.2.length)=true then 14 else zF x.2.length)=some (fitB x).2:=by
    rw [e1]
    have e2:(if lt (64 - x.1 % 64) (if lt 14 (zF x.2.length)=true then 14 else zF x.2.length)=true then 64 - x.1 % 64 else if lt 14 (zF x.2.length)=true then 14 else zF x.2.length)=((min (min x.2.length 14) (64 - x.1 % 64).toNat:Nat):Int):=by
     simp only [lt_dec,q1_,decide_eq_true_eq]
     split <;> split <;> omega
    rw [e2,cut_to (by omega)]
    rfl
   rw [hc2,zD]
   have h14:(fitB x).2.length≤14:=by
    show (x.2.take _).length≤14
    rw [kB]
    omega
   rw [qe_ (by omega),qe_ (by show _ + 1≤_; omega),qw_ (by omega)]
   rfl
  have er:rem x.1 64=x.1 % 64∨(rem x.1 64 < 0∧rem x.1 64 + 64=x.1 % 64):=by
   unfold rem
   have:=Int.tmod_eq_emod (a:=x.1) (b:=64)
   rw [this]
   split <;> omega
  by_cases hneg:rem x.1 64 < 0
  ·rw [if_pos (q5_.2 hneg)]
   have h2:rem x.1 64 + 64=x.1 % 64:=by
    rcases er with e | e
    ·have:=Int.emod_nonneg x.1 (show (64:Int) ≠ 0 by decide); omega
    ·exact e.2
   rw [add64 (by omega) (by omega),h2]
   exact K2
  ·rw [if_neg (fun e=>hneg (q5_.1 e))]
   have h2:rem x.1 64=x.1 % 64:=by
    rcases er with e | e
    ·exact e
    ·exact absurd e.1 hneg
   rw [h2]
   exact K2
 ·intro self
  show qhn_ (qoc_ _) _ m (zF m.length) (m.length:Int) _=_
  unfold qhn_
  rw [if_neg (by rw [q5_,q1_]; omega),List.take_of_length_le (Nat.le_refl _)]
def begT (link timeout retries:Int):TTk:=((9,1 + link % 2,1 + timeout % 10,retries % 4,false,zA,0,0,0),7,0,[],0,0,0,0,0)
def begX (link:Int) (b:List Int):TSl:=(9,1 + link % 2,zAg (bank64 b) 40,List.replicate 16 false)
def begPl (plan:List (List TBlk)):List (List TBlk):=(plan.take 6).map fitF
theorem begT_ok {link timeout retries:Int} (h1:0≤link) (h2:0≤timeout) (h3:0≤retries):OkT (begT link timeout retries) :=
 ⟨rangesV_ok (decide_eq_true ⟨⟨by omega,by omega⟩,by omega,⟨by omega,by omega⟩,by omega,by omega⟩),(by decide:(1:Int)≤7∧(7:Int)≤65535),(by decide:(0:Int)≤0∧(0:Int)≤4294967295),Nat.zero_le _,fun b hb=>(by cases hb),(by decide:(0:Int)≤0∧(0:Int)≤7),(by decide:(0:Int)≤0∧(0:Int)≤((0:Nat):Int)),(by decide:(0:Int)≤0),fun e=>absurd rfl e⟩
theorem begX_ok {link:Int} {b:List Int} (h:0≤link) (hb:∀ x ∈ b,0≤x∧x≤65535):OkS (begX link b):=by
 refine ⟨⟨(by decide:(1:Int)≤9),(by decide:(9:Int)≤247)⟩,?_,ok_free (bank64_len b) (bank64_rng hb) ⟨by decide,by decide⟩ ⟨by decide,by decide⟩,rfl⟩
 show 1 + link % 2=1∨1 + link % 2=2
 omega
theorem tnew_eq {u l o t r:Int} (h:rangesV u l t r=true) (ho:o ≠ 0):qyw_ (u,l,o,t,r,())=some (((u,l,t,r,false,zA,0,0,0),o,0,[],0,0,0,0,0),0,()):=by
 show qu3_ q115_ u l o t r=_
 unfold qu3_
 rw [new_eq,if_pos h,zD]
 dsimp only
 rw [if_neg (by decide),show eqi o 0=false from by rw [<- Bool.not_eq_true,q4_]; exact ho]
 rfl
theorem snew_eq {link:Int} (h:0≤link) (b:List Int):q105_ (9,1 + link % 2,bank64 b,40,())=some (begX link b,0,()):=by
 show qz8_ 9 (1 + link % 2) (bank64 b) 40=_
 unfold qz8_
 have e:qor_ (9,1 + link % 2,())=some (true,()):=by
  show qgy_ 9 (1 + link % 2)=_
  unfold qgy_
  rw [if_pos (by decide),if_pos (by decide)]
  by_cases h1:1 + link % 2=1
  ·rw [if_pos (q4_.2 h1)]
  ·rw [if_neg (fun e=>h1 (q4_.1 e)),show eqi (1 + link % 2) 2=true from q4_.2 (by omega)]
 have hl:=bank64_len b
 rw [e,zD,if_neg (by decide),anew_eq (by omega),if_pos hl,if_pos (by decide),zD]
 rfl
theorem begun_eq {link timeout retries:Int} (h1:0≤link) (h2:0≤timeout) (h3:0≤retries) {bank:List Int} (hb:∀ x ∈ bank,0≤x∧x≤65535) (plan:List (List TBlk)) :
  qaz_ (link,timeout,retries,bank,plan,())=some (begT link timeout retries,begX link bank,0,0,begPl plan,true,[],()):=by
 show qhq_ q85_ link timeout retries bank plan=_
 unfold qhq_
 have e1:add .u8 1 (rem link 2)=1 + link % 2:=by
  unfold rem
  rw [kC h1]
  exact wu8 (by omega) (by omega)
 have e2:add .i64 1 (cvt .i64 (rem timeout 10))=1 + timeout % 10:=by
  unfold rem
  rw [kC h2,cvt64 (by omega) (by omega),add64 (by omega) (by omega)]
 have e3:cvt .i64 (rem retries 4)=retries % 4:=by
  unfold rem
  rw [kC h3,cvt64 (by omega) (by omega)]
 have hc:cut plan 0 (if lt 6 (zF plan.length)=true then 6 else zF plan.length)=some (plan.take 6):=by
  by_cases h:6 < plan.length
  ·rw [if_pos (by rw [q5_,q1_]; omega)]
   exact cut_to (j:=6) (by omega)
  ·rw [if_neg (by rw [q5_,q1_]; omega),q1_,cut_to (Nat.le_refl _),List.take_of_length_le (Nat.le_refl _),List.take_of_length_le (by omega)]
 rw [e1,e2,e3,tnew_eq (decide_eq_true ⟨⟨by omega,by omega⟩,by omega,⟨by omega,by omega⟩,by omega,by omega⟩) (by decide),zD,lbank_eq,zD,snew_eq h1,zD,hc,zD]
 have h6:(plan.take 6).length≤6:=by rw [kB]; omega
 unfold begPl
 generalize plan.take 6=m at h6
 show q85_ 0 0 0 m (zF m.length) 0 _ (begT link timeout retries) [begX link bank] (begT link timeout retries,begX link bank,(),0,0,()) [] ((m.take 0).map fitF)=_
 unfold q85_
 refine loop_dt (N:=m.length) (mk:=fun i=>(0,0,0,m,zF m.length,(i:Int),_,begT link timeout retries,[begX link bank],(begT link timeout retries,begX link bank,(),0,0,()),[],(m.take i).map fitF)) ?_ ?_ m.length 0 _ (by omega) (by omega)
 ·intro self i hi
  show q82_ qhw_ _ 0 0 0 m (zF m.length) (i:Int) _ (begT link timeout retries) [begX link bank] (begT link timeout retries,begX link bank,(),0,0,()) [] ((m.take i).map fitF)=_
  obtain ⟨x,hx⟩:=get_of (xs:=m) (i:=i) hi
  have es:(m.take (i + 1)).map fitF=(m.take i).map fitF++[fitF x]:=by rw [List.take_add_one,hx,List.map_append]; rfl
  have hlen:((m.take i).map fitF).length≤6:=by rw [kA,kB]; omega
  rw [es]
  unfold q82_
  rw [if_pos (by rw [q5_,q1_]; omega),qf_ hx,zD,lfit_eq,zD,qe_ (by show _ + 1≤_; omega),qw_ (by omega)]
  rfl
 ·intro self
  show q82_ qhw_ _ 0 0 0 m (zF m.length) (m.length:Int) _ (begT link timeout retries) [begX link bank] (begT link timeout retries,begX link bank,(),0,0,()) [] ((m.take m.length).map fitF)=_
  unfold q82_
  rw [if_neg (by rw [q5_,q1_]; omega),List.take_of_length_le (Nat.le_refl _)]
  show qit_ 0 0 0 _ (begT link timeout retries) [begX link bank] (begT link timeout retries,begX link bank,(),0,0,()) [] (m.map fitF)=_
  unfold qit_
  rw [if_pos (by decide),if_pos (by decide),if_pos (show eqi (begT link timeout retries).2.1 7=true from rfl),q15_,zD]
  dsimp only
  rw [q2c_ (begX_ok h1 hb)]
  rfl
def opR (o:Int×Int):TA:=(16,272,8,0,(cmdA (o.1,o.2,5,0,sumB [])).2.2.2.2.1,[])
theorem opR_ok {o:Int×Int} (h1:0≤o.1∧o.1≤65535) (h2:0≤o.2∧o.2≤255):OkC (o.1,o.2,5,0,sumB [])∧OkA (opR o)∧qq_ (opR o)=true:=by
 have h3:0≤sumB []∧sumB []≤4294967295:=sumW_rng _
 have hc:OkC (o.1,o.2,5,0,sumB []):=⟨h1,h2,(by decide:(0:Int)≤5∧(5:Int)≤4294967295),(by decide:(0:Int)≤0∧(0:Int)≤65535),h3⟩
 refine ⟨hc,⟨(by decide:(0:Int)≤16),(by decide:(16:Int)≤255),(by decide:(0:Int)≤272),(by decide:(272:Int)≤65535),(by decide:(0:Int)≤8),(by decide:(8:Int)≤65535),(by decide:(0:Int)≤0),(by decide:(0:Int)≤65535),(cmdA_ok hc).1.w,(by decide:8≤100000),(by decide:0≤100000)⟩,rfl⟩
theorem does_law {o:Int×Int} (h1:0≤o.1∧o.1≤65535) (h2:0≤o.2∧o.2≤255) {t:TTk} {s:TSl} (hs:OkS s) (x g:Int) (pl:List (List TBlk)) (w:TWay) :
  q9l_ (o,t,s,x,g,pl,w,())=some (eqi (servS s (opR o)).2.2.1 0,t,(servS s (opR o)).1,x,g,pl,w,()):=by
 obtain ⟨hc,ha,hr⟩:=opR_ok h1 h2
 have e0:qml_ ([],())=some (sumB [],()):=by kernel_rfl
 have k1:qd5_ (t,s,(),x,g,pl) w (o.1,o.2,5,0,sumB [])=some (eqi (servS s (opR o)).2.2.1 0,t,(servS s (opR o)).1,x,g,pl,w,()):=by
  show qdq_ (t,s,(),x,g,pl) w (o.1,o.2,5,0,sumB [])=_
  unfold qdq_
  rw [rwords_eq hc,zD]
  show (zC (q6o_ (opR o,())) _)=_
  rw [abytes_eq ha hr,zD]
  dsimp only
  rw [q2c_ hs,serve_ask hs ha hr,zD]
  dsimp only
  rw [rep_parse (servS_rep hs ha hr),zD,q2c_ (servS_ok hs ha hr)]
  rfl
 show qdh_ qd5_ o t s x g pl w=_
 unfold qdh_
 rw [amb2 (eqAs_refl _),e0,zD]
 exact k1
theorem loop_allb {σ α:Type} {b:Bool} {F:(σ->Option (Bool×Unit))->σ->Option (Bool×Unit)} {mk:Nat->σ} {l:List α} {p:α->Bool} (hs:∀ self i x,l[i]? = some x->F self (mk i)=if p x=true then self (mk (i + 1)) else some (false,()))
  (he:∀ self,F self (mk l.length)=some (b,())):∀ (k i n:Nat),i + k=l.length->k < n->loopF F n (mk i)=some ((l.drop i).all p && b,())
 | _,_,0,_,hn=>by omega
 | 0,i,n + 1,h,_=>by
  have:i=l.length:=by omega
  subst this
  rw [q11_,he,List.drop_length]
  rfl
 | k + 1,i,n + 1,h,hn=>by
  obtain ⟨x,hx⟩:=get_of (xs:=l) (i:=i) (by omega)
  rw [q11_,hs _ _ _ hx,loop_allb hs he k (i + 1) n (by omega) (by omega),List.drop_eq_getElem_cons (show i < l.length by omega),List.all_cons]
  have:l[i]'(by omega)=x:=by rw [List.getElem?_eq_getElem (by omega)] at hx; exact Option.some.inj hx
  rw [this]
  cases p x <;> rfl
def lightL (l:List TBlk):Bool:=l.all (fun b=>decide (b.2.length≤100)) && decide (l.length≤40)
theorem light_eq {l:List TBlk} (hl:l.length≤9223372036854775807):qug_ (l,())=some (lightL l,()):=by
 show qgz_ l l (zF l.length) 0=_
 unfold qgz_
 refine (loop_allb (b:=decide (l.length≤40)) (mk:=fun i=>(l,l,zF l.length,(i:Int))) (l:=l) (p:=fun b=>decide (b.2.length≤100)) ?_ ?_ l.length 0 18446744073709551616 (by omega) (by omega)).trans (by rw [List.drop_zero]; rfl)
 ·intro self i x hx
  have hi:=(List.getElem?_eq_some_iff.1 hx).1
  show qcu_ qq3_ _ l l (zF l.length) (i:Int)=_
  unfold qcu_
  rw [if_pos (q5_.2 (by rw [q1_]; omega)),qf_ hx,zD,show add .i64 (i:Int) 1=((i + 1:Nat):Int) from (add64 (by omega) (by omega)).trans (by omega)]
  by_cases h:x.2.length≤100
  ·rw [if_neg (fun e=>by have:=q1f_.1 e; rw [q1_] at this; omega),if_pos (decide_eq_true h)]
  ·rw [if_pos (q1f_.2 (by rw [q1_]; omega)),if_neg (by rw [decide_eq_true_eq]; exact h)]
 ·intro self
  show qcu_ qq3_ _ l l (zF l.length) (l.length:Int)=_
  unfold qcu_
  rw [if_neg (fun h=>by have:=q5_.1 h; rw [q1_] at this; omega)]
  show some (le (zF l.length) 40,())=_
  have:le (zF l.length) 40=decide (l.length≤40):=by rw [Bool.eq_iff_iff,qo_,decide_eq_true_iff,q1_]; omega
  rw [this]
theorem tsame_self {t:TTk} (h:OkT t):q100_ (t,t,())=some (true,()):=by
 have hz:=h.sz
 have er:∀ x:Int,eqi x x=true:=fun x=>q4_.2 rfl
 show qym_ t t=_
 unfold qym_
 rw [samep_eq hz.w hz.b,zD,decide_eq_true rfl,bsame_eq hz.l hz.k,decide_eq_true rfl]
 simp only [er,zD,if_true]
theorem serv_no {s:TSl} {c:TCm} (h:OkC c) (hA:(doS (ownA s.2.2.1) c).2 ≠ 0):servS s (cmdA c)=(s,(23,4,[],[],0,0)):=by
 obtain ⟨_,_,h3⟩:=cmdA_ok h
 have hw:wroteS s.2.2.1 (atW (cmdA c)) (cmdA c).2.2.2.2.1=(s.2.2.1,4):=by
  show wroteS s.2.2.1 272 (cmdA c).2.2.2.2.1=_
  unfold wroteS
  rw [if_pos rfl,cmdA_read h,if_neg (by simp),if_pos hA]
 have hn:¬ ((cmdA c).1=5∨(cmdA c).1=15):=by
  show ¬ ((23:Int)=5∨(23:Int)=15)
  decide
 have hl:¬ (cmdA c).2.2.2.2.1.length=0:=by
  show ¬ (8=0)
  decide
 unfold servS
 rw [if_neg (by rw [h3]; decide),if_neg hn,if_neg hl,hw,if_pos (by simp)]
 rfl
theorem serv_op {s:TSl} {o:Int×Int} (h1:0≤o.1∧o.1≤65535) (h2:0≤o.2∧o.2≤255) {A:TAg} (hA:doS (ownA s.2.2.1) (o.1,o.2,5,0,sumB [])=(A,0)):servS s (opR o)=(setA s A,(16,0,[],[],272,8)):=by
 have hc:=(opR_ok h1 h2).1
 have h3:chkS (opR o)=true:=by
  show decide ((272:Int)=272∧8=8∨(272:Int)=288∧8=20)=true
  decide
 have hw:wroteS s.2.2.1 (atW (opR o)) (opR o).2.2.2.2.1=(A,0):=by
  show wroteS s.2.2.1 272 (cmdA (o.1,o.2,5,0,sumB [])).2.2.2.2.1=_
  unfold wroteS
  rw [if_pos rfl,cmdA_read hc,hA,if_neg (by simp),if_neg (by simp)]
 unfold servS
 rw [if_neg (by rw [h3]; decide),if_neg (show ¬ ((opR o).1=5∨(opR o).1=15) from (by decide:¬ ((16:Int)=5∨(16:Int)=15))),if_neg (show ¬ (opR o).2.2.2.2.1.length=0 from (by decide:¬ (8=0))),hw,if_neg (by simp)]
 rfl
theorem others {a:TAg} (h1:a.2.1.1 ≠ 0) (h2:a.2.1.1 ≠ 7) {v t:Int} (n k:Int) (hv:1≤v∧v≤4) (ht:t ≠ 0):(doS (ownA a) (7,v,t,n,k)).2=22:=by
 unfold doS
 rw [if_neg (by rintro (h | h | h); exact absurd h (by decide:(7:Int) ≠ 0); exact ht h; exact h hv),if_pos ⟨h1,h2⟩]
theorem run_no {t:TTk} {s:TSl} (h:OkX t s) (h7:t.2.1=7) (hx:t.2.2.1 ≠ 0) (ha:t.2.2.2.2.2.1=1) (h1:s.2.2.1.2.1.1 ≠ 0) (h2:s.2.2.1.2.1.1 ≠ 7):runX 1 t s=some (endT (stepP t.1,t.2) 2,s):=by
 have e:reqT t=cmdA (cmdT t 1):=by unfold reqT; rw [if_pos ha]
 have es:servS s (reqT t)=(s,(23,4,[],[],0,0)):=by
  rw [e]
  refine serv_no (cmdT_ok h.kt (by decide)) ?_
  unfold cmdT
  rw [h7,others h1 h2 _ _ (by decide) hx]
  decide
 have ex:effX t s=endT (stepP t.1,t.2) 2:=by
  unfold effX
  rw [es,eff1 (t:=(stepP t.1,t.2)) ha]
  rfl
 unfold runX slX
 rw [ex,es,if_pos (show (endT (stepP t.1,t.2) 2).2.2.2.2.2.1=0 from rfl)]
def lookT (t:TTk):TTk:=toT (stepP t.1,t.2) 7
theorem run_abort {t:TTk} {s:TSl} (h:OkX t s) (h7:t.2.1=7) (hx:t.2.2.1 ≠ 0) (ha:t.2.2.2.2.2.1=6) (hg:t.2.2.2.2.1=3) (h1:s.2.2.1.2.1.1 ≠ 0) (h2:s.2.2.1.2.1.1 ≠ 7):runX 2 t s=some (endT (stepP (lookT t).1,(lookT t).2) 1,s):=by
 have e:reqT t=cmdA (cmdT t 4):=by unfold reqT; rw [ha]; rfl
 have es:servS s (reqT t)=(s,(23,4,[],[],0,0)):=by
  rw [e]
  refine serv_no (cmdT_ok h.kt (by decide)) ?_
  unfold cmdT
  rw [h7,others h1 h2 _ _ (by decide) hx]
  decide
 have ex:effX t s=lookT t:=by
  unfold effX
  rw [es,eff6 (t:=(stepP t.1,t.2)) ha]
  rfl
 have sx:slX t s=s:=by unfold slX; rw [es]
 have hn:=h.next (by rw [ex]; show (7:Int) ≠ 0; decide)
 rw [ex,sx] at hn
 have e2:reqT (lookT t)=rdQ 256 8:=rfl
 have es2:servS s (reqT (lookT t))=(s,(3,0,[],statA s.2.2.1,0,0)):=by
  rw [e2,serv_rd s (by decide)]
  show (s,((3:Int),(0:Int),([]:List Bool),((holdS s.2.2.1).drop 256).take 8,(0:Int),(0:Int)))=_
  rw [hold_stat h.ks.a]
 have ex2:effX (lookT t) s=endT (stepP (lookT t).1,(lookT t).2) 1:=by
  unfold effX
  rw [es2,eff7 (t:=(stepP (lookT t).1,(lookT t).2)) rfl,if_neg (by show ¬ t.2.2.2.2.1=2; omega)]
  have hr:∃ a b c,readR (3,0,[],statA s.2.2.1,0,0)=some (s.2.2.1.2.1.1,a,b,c):=⟨_,_,_,rfl⟩
  obtain ⟨a,b,c,hr⟩:=hr
  rw [hr]
  dsimp only
  rw [if_neg]
  unfold ownQ
  rw [decide_eq_true_iff]
  rintro ⟨h3,_⟩
  exact h2 (h3.trans h7)
 show (if (effX t s).2.2.2.2.2.1=0 then _ else runX 1 (effX t s) (slX t s))=_
 rw [ex,sx,if_neg (by show ¬ (7:Int)=0; decide)]
 show (if (effX (lookT t) s).2.2.2.2.2.1=0 then some (effX (lookT t) s,slX (lookT t) s) else _)=_
 rw [ex2,if_pos (show (endT (stepP (lookT t).1,(lookT t).2) 1).2.2.2.2.2.1=0 from rfl)]
 unfold slX
 rw [es2]
def hAg (b:List Int) (o:Int) (h:Bool):TAg:=if h=true then (b,(o,-1),2,5,0,(5,zSt.2),40) else (b,(o,40),1,5,0,(5,zSt.2),40)
theorem claim_new {b:List Int} {o:Int} (ho:o ≠ 0) (k:Int):doS (ownA (zAg b 40)) (o,1,5,0,k)=(hAg b o false,0):=by
 show doS (b,(0,0),0,0,0,(0,zSt.2.1,nzB zSt.2.1 zSt.2.2),40) (o,1,5,0,k)=_
 unfold doS
 dsimp only
 rw [if_neg (by omega),if_neg (by omega),if_pos rfl,if_neg (by omega),if_neg (by omega)]
 rfl
theorem prep_new {b:List Int} {o:Int} (ho:o ≠ 0):doS (ownA (hAg b o false)) (o,2,5,0,sumB [])=(hAg b o true,0):=by
 show doS (b,(o,40),1,5,0,(5,zSt.2.1,nzB zSt.2.1 zSt.2.2),40) (o,2,5,0,sumB [])=_
 have hw:wholeA (b,(o,40),1,5,0,(5,zSt.2.1,nzB zSt.2.1 zSt.2.2),40) 0 (sumB [])=true:=by
  show (decide ((0:Int)≤0∧(0:Int)≤8) && (firstN zSt.2.1 0 && decide (sumB (blkS zSt.2.1 (nzB zSt.2.1 zSt.2.2))=sumB [])))=true
  kernel_rfl
 unfold doS
 dsimp only
 rw [if_neg (by omega),if_neg (by simp),if_neg (by decide),if_pos rfl,if_pos (Or.inr ⟨rfl,rfl,hw⟩)]
 rfl
theorem hAg_ok {b:List Int} (hl:b.length=64) (hb:∀ x ∈ b,0≤x∧x≤65535) {o:Int} (ho:o ≠ 0) (h1:0≤o∧o≤65535) (h:Bool):OkG (hAg b o h):=by
 have h0:OkG (zAg b 40):=ok_free hl hb ⟨by decide,by decide⟩ ⟨by decide,by decide⟩
 have c1:=h0.own.doS (c:=(o,1,5,0,sumB [])) h1 (by show (0:Int)≤5∧(5:Int)≤4294967295; decide) (by show (0:Int)≤0∧(0:Int)≤65535; decide)
 rw [claim_new ho] at c1
 cases h with
 | false=>exact c1
 | true =>
  have c2:=c1.own.doS (c:=(o,2,5,0,sumB [])) h1 (by show (0:Int)≤5∧(5:Int)≤4294967295; decide) (by show (0:Int)≤0∧(0:Int)≤65535; decide)
  rw [prep_new ho] at c2
  exact c2
def hSl (link:Int) (b:List Int) (o:Int) (h:Bool):TSl:=setA (begX link b) (hAg (bank64 b) o h)
theorem hSl_ok {link:Int} {b:List Int} (h0:0≤link) (hb:∀ x ∈ b,0≤x∧x≤65535) {o:Int} (ho:o ≠ 0) (h1:0≤o∧o≤65535) (h:Bool):OkS (hSl link b o h) :=
 ⟨(begX_ok h0 hb).u,(begX_ok h0 hb).l,hAg_ok (bank64_len b) (bank64_rng hb) ho h1 h,rfl⟩
theorem hSl_own (link:Int) (b:List Int) (o:Int) (h:Bool):(hSl link b o h).2.2.1.2.1.1=o:=by cases h <;> rfl
end Go.Proofs.Lx
end
noncomputable section
open Go Go.Proofs Ev Sx
set_option maxRecDepth 100000
namespace Go.Proofs.Lx
abbrev YToT2:Type:=(Int×Int×Int×Int×Bool×(Int×Int×Int×Int×List Int×List Bool)×Int×Int×Int)
abbrev YToT0:Type:=(YToT2×Int×Int×List (Int×List Int)×Int×Int×Int×Int×Int)
abbrev YToT1:Type:=(Int×Int×(List Int×(Int×Int)×Int×Int×Int×(Int×List Bool×List (Int×List Int))×Int)×List Bool)
abbrev YToT3:Ty:=(.sl (.pr (.int .i64) (.sl (.int .u16))))
abbrev TaOq0:Type:=YToT2×Int×Int×List (Int×List Int)×Int×Int×Int×Int×Int
@[reducible] def q7e_:Sh:=⟨[.d (.int .u8),.d (.sl (.int .u16)),.d (.int .u16),.d (.bool),.d (.int .u8),.d (.int .u32),.d YToT3],[],[.int .u8,.sl (.int .u16),.int .u16,.bool,.int .u8,.int .u32,.sl (.pr (.int .i64) (.sl (.int .u16)))],[.d (.bool)],[],0,[.bool]⟩
def qbf_:Env:=(cts [(1000048,Ev.bxCt),(9000046,Ev.bxCt),(9999999,Ev.bxCt),(9,(⟨q7b_,qaz_⟩:Ct)),(10,(⟨q1m_,q2q_⟩:Ct)),(11,(⟨q5g_,q40_⟩:Ct)),(15,(⟨q4c_,qbb_⟩:Ct)),(18,(⟨q58_,q9l_⟩:Ct)),(21,(⟨q167_,qij_⟩:Ct)),(24,(⟨qeo_,qug_⟩:Ct)),(25,(⟨q6q_,q2r_⟩:Ct)),(26,(⟨qer_,q3t_⟩:Ct)),(27,(⟨q18f_,q100_⟩:Ct))])
def qbi_:List (Nat×Hint):=[(2047,⟨[],[15,19,20,21,22,151,152,153,154,155,156,159,160,161,162,163,164,165,166,169]⟩),(8188,⟨[],[4,6,15,19,20,21,22,120,151,152,153,154,155,156,159,160,161,162,163,164,165,166,169]⟩),(131022,⟨[],[6,15,19,20,21,22,151,152,153,154,155,156,159,160,161,162,163,164,165,166,169]⟩),(1048178,⟨[],[6,15,19,20,21,22,134,135,136,151,152,153,154,155,156,159,160,161,162,163,164,165,166,169]⟩),(510,⟨[],[4,5,6,15,109,124,125,128,129,151,152,153,154,155,156,159,160,161,162,163,164,165,166,169]⟩),(254,⟨[],[4,5,6,15,18,84,88,89,92,93,94,95,98,99,100,101,104,105,106,107,108,124,125,128,129,151,152,153,154,155,156,159,160,161,162,163,164,165,166,169]⟩),(62,⟨[],[4,5,6,15,63,69,70,73,74,75,76,79,80,81,82,83,88,89,92,93,94,95,98,99,100,101,104,105,106,107,108,124,125,128,129,151,152,153,154,155,156,159,160,161,162,163,164,165,166,169]⟩),(14,⟨[],[2,3,4,5,6,15,16,45,48,56,57,58,59,60,61,62,69,70,73,74,75,76,79,80,81,82,83,88,89,92,93,94,95,98,99,100,101,104,105,106,107,108,124,125,128,129,151,152,153,154,155,156,159,160,161,162,163,164,165,166,169]⟩)]
@[reducible] def zN0:Type:=List (Int×List Int)
@[reducible] def zN1:Type:=List (Bool×List Int)
def qgq_ (other:Int) (held:Bool) (goal tx:Int) (l:zN0) (ok t45:Bool) (p:YToT0×YToT1×Unit×Int×Int×List (List (Int×List Int))) (o:zN1):St:=⟨[(2,d6 other),(3,dB held),(4,d8 goal),(5,d2 tx),(6,.d YToT3 l),(15,.pb 0 0),(16,dB ok),(45,dB t45)],171,[],[(0,.box 48 (talkC p.1 (slC p.2.1 [.row 1,d2 p.2.2.2.1,d2 p.2.2.2.2.1,.d (.sl YToT3) p.2.2.2.2.2]))),(1,.que (.pr .bool (.sl (.int .u8))) 63 o)],2,[],0⟩
def qgn_ (goal tx:Int) (l:zN0) (t63:Bool) (p:YToT0×YToT1×Unit×Int×Int×List (List (Int×List Int))) (o:zN1):St:=⟨[(4,d8 goal),(5,d2 tx),(6,.d YToT3 l),(15,.pb 0 0),(63,dB t63)],171,[],[(0,.box 48 (talkC p.1 (slC p.2.1 [.row 1,d2 p.2.2.2.1,d2 p.2.2.2.2.1,.d (.sl YToT3) p.2.2.2.2.2]))),(1,.que (.pr .bool (.sl (.int .u8))) 63 o)],2,[],0⟩
def qgd_ (goal tx:Int) (l:zN0) (was:Int) (t84:Bool) (p:YToT0×YToT1×Unit×Int×Int×List (List (Int×List Int))) (o:zN1) (was_2:List YToT1):St:=⟨[(4,d8 goal),(5,d2 tx),(6,.d YToT3 l),(15,.pb 0 0),(18,.prw 2 was 35 0),(84,dB t84)],171,[],[(0,.box 48 (talkC p.1 (slC p.2.1 [.row 1,d2 p.2.2.2.1,d2 p.2.2.2.2.1,.d (.sl YToT3) p.2.2.2.2.2]))),(1,.que (.pr .bool (.sl (.int .u8))) 63 o),(2,.row (.pr (.int .u8) (.pr (.int .u8) (.pr (.pr (.sl (.int .u16)) (.pr (.pr (.int .u16) (.int .i64)) (.pr (.int .u8) (.pr (.int .u32) (.pr (.int .u32) (.pr (.pr (.int .u32) (.pr (.ar 8 .bool) (.ar 8 (.pr (.int .i64) (.sl (.int .u16)))))) (.int .i64))))))) (.sl .bool)))) 45 was_2)],3,[],0⟩
def qgx_ (goal tx:Int) (l:zN0) (t109:Bool) (p:YToT0×YToT1×Unit×Int×Int×List (List (Int×List Int))) (o:zN1):St:=⟨[(4,d8 goal),(5,d2 tx),(6,.d YToT3 l),(15,.pb 0 0),(109,dB t109)],171,[],[(0,.box 48 (talkC p.1 (slC p.2.1 [.row 1,d2 p.2.2.2.1,d2 p.2.2.2.2.1,.d (.sl YToT3) p.2.2.2.2.2]))),(1,.que (.pr .bool (.sl (.int .u8))) 63 o)],2,[],0⟩
def qgp_ (goal:Int) (l:zN0) (out:List Int) (e want:Int) (t120:Bool) (p:YToT0×YToT1×Unit×Int×Int×List (List (Int×List Int))) (o:zN1) (t:TaOq0):St:=⟨[(4,d8 goal),(6,.d YToT3 l),(15,.pb 0 0),(19,.pb 2 0),(20,dL out),(21,dI e),(22,dI want),(120,dB t120)],171,[],[(0,.box 48 (talkC p.1 (slC p.2.1 [.row 1,d2 p.2.2.2.1,d2 p.2.2.2.2.1,.d (.sl YToT3) p.2.2.2.2.2]))),(1,.que (.pr .bool (.sl (.int .u8))) 63 o),(2,.box 33 (talkC t []))],3,[],0⟩
def qaa_ (out:List Int) (e want:Int) (p:YToT0×YToT1×Unit×Int×Int×List (List (Int×List Int))) (o:zN1) (t:TaOq0):St:=⟨[(15,.pb 0 0),(19,.pb 2 0),(20,dL out),(21,dI e),(22,dI want)],171,[],[(0,.box 48 (talkC p.1 (slC p.2.1 [.row 1,d2 p.2.2.2.1,d2 p.2.2.2.2.1,.d (.sl YToT3) p.2.2.2.2.2]))),(1,.que (.pr .bool (.sl (.int .u8))) 63 o),(2,.box 33 (talkC t []))],3,[],0⟩
def qat_ (l:zN0) (out:List Int) (e want:Int) (t134:zN0) (t135 t136:Int) (p:YToT0×YToT1×Unit×Int×Int×List (List (Int×List Int))) (o:zN1) (t:TaOq0):St:=⟨[(6,.d YToT3 l),(15,.pb 0 0),(19,.pb 2 0),(20,dL out),(21,dI e),(22,dI want),(134,.d YToT3 t134),(135,dI t135),(136,dI t136)],171,[],[(0,.box 48 (talkC p.1 (slC p.2.1 [.row 1,d2 p.2.2.2.1,d2 p.2.2.2.2.1,.d (.sl YToT3) p.2.2.2.2.2]))),(1,.que (.pr .bool (.sl (.int .u8))) 63 o),(2,.box 33 (talkC t []))],3,[],0⟩
def qgk_ (l:zN0) (out:List Int) (e want:Int) (p:YToT0×YToT1×Unit×Int×Int×List (List (Int×List Int))) (o:zN1) (t:TaOq0):St:=⟨[(6,.d YToT3 l),(15,.pb 0 0),(19,.pb 2 0),(20,dL out),(21,dI e),(22,dI want)],171,[],[(0,.box 48 (talkC p.1 (slC p.2.1 [.row 1,d2 p.2.2.2.1,d2 p.2.2.2.2.1,.d (.sl YToT3) p.2.2.2.2.2]))),(1,.que (.pr .bool (.sl (.int .u8))) 63 o),(2,.box 33 (talkC t []))],3,[],0⟩
def q4l_ (j2:Int->Int->List (Int×List Int)->Bool->YToT0×YToT1×Unit×Int×Int×List (List (Int×List Int))->List (Bool×List Int)->Option (As [.bool])) (other:Int) (held:Bool) (goal tx:Int) (l:zN0) (ok t45:Bool) (p:YToT0×YToT1×Unit×Int×Int×List (List (Int×List Int))) (o:zN1):Option (As [.bool]) :=
 if t45=true then if ok=true then zC (qbb_ ()) fun y=>some (y.1,()) else some (false,()) else zC (q9l_ ((other,1),p.1,(mkSl p.2.1),p.2.2.2.1,p.2.2.2.2.1,p.2.2.2.2.2,o,())) fun y=>if (!y.1)=true then j2 goal tx l true (y.2.1,y.2.2.1,(),y.2.2.2.1,y.2.2.2.2.1,y.2.2.2.2.2.1) y.2.2.2.2.2.2.1 else if held=true then zC (q9l_ ((other,2),y.2.1,(mkSl y.2.2.1),y.2.2.2.1,y.2.2.2.2.1,y.2.2.2.2.2.1,y.2.2.2.2.2.2.1,())) fun y=>j2 goal tx l (!y.1) (y.2.1,y.2.2.1,(),y.2.2.2.1,y.2.2.2.2.1,y.2.2.2.2.2.1) y.2.2.2.2.2.2.1 else j2 goal tx l false (y.2.1,y.2.2.1,(),y.2.2.2.1,y.2.2.2.2.1,y.2.2.2.2.2.1) y.2.2.2.2.2.2.1
def q9z_ (j3:Int->Int->List (Int×List Int)->Int->Bool->YToT0×YToT1×Unit×Int×Int×List (List (Int×List Int))->List (Bool×List Int)->List YToT1->Option (As [.bool])) (goal tx:Int) (l:zN0) (t63:Bool) (p:YToT0×YToT1×Unit×Int×Int×List (List (Int×List Int))) (o:zN1):Option (As [.bool]) :=
 if t63=true then some (false,()) else zC (q2q_ (false,p.1,(mkSl p.2.1),p.2.2.2.1,p.2.2.2.2.1,p.2.2.2.2.2,o,())) fun y=>if (!y.1)=true then j3 goal tx l 0 true (y.2.1,y.2.2.1,(),y.2.2.2.1,y.2.2.2.2.1,y.2.2.2.2.2.1) y.2.2.2.2.2.2.1 [(mkSl p.2.1)] else zC (q40_ (60,y.2.1,(mkSl y.2.2.1),y.2.2.2.1,y.2.2.2.2.1,y.2.2.2.2.2.1,y.2.2.2.2.2.2.1,())) fun y=>if (!y.1)=true then j3 goal tx l 0 true (y.2.1,y.2.2.1,(),y.2.2.2.1,y.2.2.2.2.1,y.2.2.2.2.2.1) y.2.2.2.2.2.2.1 [(mkSl p.2.1)] else if nei y.2.1.2.2.2.2.2.2.2.2 2=true then j3 goal tx l 0 true (y.2.1,y.2.2.1,(),y.2.2.2.1,y.2.2.2.2.1,y.2.2.2.2.2.1) y.2.2.2.2.2.2.1 [(mkSl p.2.1)] else zC (qij_ ((mkSl y.2.2.1),(mkSl p.2.1),())) fun y_1=>j3 goal tx l 0 (!y_1.1) (y.2.1,y.2.2.1,(),y.2.2.2.1,y.2.2.2.2.1,y.2.2.2.2.2.1) y.2.2.2.2.2.2.1 [(mkSl p.2.1)]
def qa2_ (j4:Int->Int->List (Int×List Int)->Bool->YToT0×YToT1×Unit×Int×Int×List (List (Int×List Int))->List (Bool×List Int)->Option (As [.bool])) (goal tx:Int) (l:zN0) (was:Int) (t84:Bool) (p:YToT0×YToT1×Unit×Int×Int×List (List (Int×List Int))) (o:zN1) (was_2:List YToT1):Option (As [.bool]) :=
 if t84=true then some (false,()) else zC (q2q_ (false,p.1,(mkSl p.2.1),p.2.2.2.1,p.2.2.2.2.1,p.2.2.2.2.2,o,())) fun y=>if (!y.1)=true then j4 goal tx l true (y.2.1,y.2.2.1,(),y.2.2.2.1,y.2.2.2.2.1,y.2.2.2.2.2.1) y.2.2.2.2.2.2.1 else zC (q40_ (60,y.2.1,(mkSl y.2.2.1),y.2.2.2.1,y.2.2.2.2.1,y.2.2.2.2.2.1,y.2.2.2.2.2.2.1,())) fun y=>if (!y.1)=true then j4 goal tx l true (y.2.1,y.2.2.1,(),y.2.2.2.1,y.2.2.2.2.1,y.2.2.2.2.2.1) y.2.2.2.2.2.2.1 else if nei y.2.1.2.2.2.2.1 3=true then j4 goal tx l true (y.2.1,y.2.2.1,(),y.2.2.2.1,y.2.2.2.2.1,y.2.2.2.2.2.1) y.2.2.2.2.2.2.1 else if nei y.2.1.2.2.2.2.2.2.2.2 1=true then j4 goal tx l true (y.2.1,y.2.2.1,(),y.2.2.2.1,y.2.2.2.2.1,y.2.2.2.2.2.1) y.2.2.2.2.2.2.1 else zC (at? was_2 was) fun y_1=>zC (qij_ ((mkSl y.2.2.1),y_1,())) fun y_2=>j4 goal tx l (!y_2.1) (y.2.1,y.2.2.1,(),y.2.2.2.1,y.2.2.2.2.1,y.2.2.2.2.2.1) y.2.2.2.2.2.2.1
def qab_ (j5:Int->List (Int×List Int)->List Int->Int->Int->Bool->YToT0×YToT1×Unit×Int×Int×List (List (Int×List Int))->List (Bool×List Int)->TaOq0->Option (As [.bool])) (goal tx:Int) (l:zN0) (t109:Bool) (p:YToT0×YToT1×Unit×Int×Int×List (List (Int×List Int))) (o:zN1):Option (As [.bool]) :=
 if t109=true then some (false,()) else zC (q2r_ (p.1,goal,tx,l,())) fun y=>if lt goal 1=true then j5 goal l y.2.1 y.2.2.1 0 true p o y.1 else if gt goal 3=true then j5 goal l y.2.1 y.2.2.1 0 true p o y.1 else j5 goal l y.2.1 y.2.2.1 0 (eqi tx 0) p o y.1
def quw_ (j6:List Int->Int->Int->YToT0×YToT1×Unit×Int×Int×List (List (Int×List Int))->List (Bool×List Int)->TaOq0->Option (As [.bool])) (j7:List (Int×List Int)->List Int->Int->Int->List (Int×List Int)->Int->Int->YToT0×YToT1×Unit×Int×Int×List (List (Int×List Int))->List (Bool×List Int)->TaOq0->Option (As [.bool])) (goal:Int) (l:zN0) (out:List Int) (e want:Int) (t120:Bool) (p:YToT0×YToT1×Unit×Int×Int×List (List (Int×List Int))) (o:zN1) (t:TaOq0):Option (As [.bool]) :=
 if t120=true then j6 out e 2 p o t else if eqi goal 1=true then j7 l out e want l (zF (zG l)) 0 p o t else j6 out e want p o t
def q4o_ (out:List Int) (e want:Int) (p:YToT0×YToT1×Unit×Int×Int×List (List (Int×List Int))) (o:zN1) (t:TaOq0):Option (As [.bool]) :=
 if eqi e want=true then if Sx.eqb (eqi e 0) (gt (zF (zG out)) 0)=true then if eqi e 0=true then zC (qbb_ ()) fun y=>some (y.1,()) else zC (q100_ (t,p.1,())) fun y=>if y.1=true then zC (qbb_ ()) fun y=>some (y.1,()) else some (false,()) else some (false,()) else some (false,())
def q4m_ (j8:List (Int×List Int)->List Int->Int->Int->YToT0×YToT1×Unit×Int×Int×List (List (Int×List Int))->List (Bool×List Int)->TaOq0->Option (As [.bool])) (self7:List (Int×List Int)->List Int->Int->Int->List (Int×List Int)->Int->Int->YToT0×YToT1×Unit×Int×Int×List (List (Int×List Int))->List (Bool×List Int)->TaOq0->Option (As [.bool])) (l:zN0) (out:List Int) (e want:Int) (t134:zN0) (t135 t136:Int) (p:YToT0×YToT1×Unit×Int×Int×List (List (Int×List Int))) (o:zN1) (t:TaOq0):Option (As [.bool]) :=
 if lt t136 t135=true then zC (at? t134 t136) fun y=>zC (q3t_ (y,())) fun y=>if (!y.1)=true then self7 l out e 20 t134 t135 (add .i64 t136 1) p o t else self7 l out e want t134 t135 (add .i64 t136 1) p o t else j8 l out e want p o t
def qa6_ (j6:List Int->Int->Int->YToT0×YToT1×Unit×Int×Int×List (List (Int×List Int))->List (Bool×List Int)->TaOq0->Option (As [.bool])) (l:zN0) (out:List Int) (e want:Int) (p:YToT0×YToT1×Unit×Int×Int×List (List (Int×List Int))) (o:zN1) (t:TaOq0):Option (As [.bool]) :=
 if gt (zF (zG l)) 8=true then j6 out e 20 p o t else j6 out e want p o t
def qae_ (j1:Int->Bool->Int->Int->List (Int×List Int)->Bool->Bool->YToT0×YToT1×Unit×Int×Int×List (List (Int×List Int))->List (Bool×List Int)->Option (As [.bool])) (link:Int) (b:List Int) (other:Int) (held:Bool) (goal tx:Int) (l:zN0):Option (As [.bool]) :=
 zC (qaz_ (link,3,1,b,[],())) fun y=>if (!y.2.2.2.2.2.1)=true then j1 other held goal tx l y.2.2.2.2.2.1 true (y.1,y.2.1,(),y.2.2.1,y.2.2.2.1,y.2.2.2.2.1) y.2.2.2.2.2.2.1 else if eqi other 0=true then j1 other held goal tx l y.2.2.2.2.2.1 true (y.1,y.2.1,(),y.2.2.1,y.2.2.2.1,y.2.2.2.2.1) y.2.2.2.2.2.2.1 else if eqi other 7=true then j1 other held goal tx l y.2.2.2.2.2.1 true (y.1,y.2.1,(),y.2.2.1,y.2.2.2.1,y.2.2.2.2.1) y.2.2.2.2.2.2.1 else zC (qug_ (l,())) fun y_1=>j1 other held goal tx l y.2.2.2.2.2.1 (!y_1.1) (y.1,y.2.1,(),y.2.2.1,y.2.2.2.1,y.2.2.2.2.1) y.2.2.2.2.2.2.1
def q1o_:=q4o_
def q6l_:=qa6_ (q1o_)
def q4s_ (l:zN0) (out:List Int) (e want:Int) (t134:zN0) (t135 t136:Int) (p:YToT0×YToT1×Unit×Int×Int×List (List (Int×List Int))) (o:zN1) (t:TaOq0):Option (As [.bool]) :=
 loopF (fun self s=>q4m_ (q6l_) (fun l out e want t134 t135 t136 p o t=>self (l,out,e,want,t134,t135,t136,p,o,t)) s.1 s.2.1 s.2.2.1 s.2.2.2.1 s.2.2.2.2.1 s.2.2.2.2.2.1 s.2.2.2.2.2.2.1 s.2.2.2.2.2.2.2.1 s.2.2.2.2.2.2.2.2.1 s.2.2.2.2.2.2.2.2.2) 18446744073709551616 (l,out,e,want,t134,t135,t136,p,o,t)
def q6n_:=quw_ (q1o_) (q4s_)
def qa7_:=qab_ (q6n_)
def qag_:=qa2_ (qa7_)
def q6h_:=q9z_ (qag_)
def qai_:=q4l_ (q6h_)
def qfe_ (x:As [.int .u8,.sl (.int .u16),.int .u16,.bool,.int .u8,.int .u32,.sl (.pr (.int .i64) (.sl (.int .u16)))]):Option (As [.bool]):=qae_ qai_ x.1 x.2.1 x.2.2.1 x.2.2.2.1 x.2.2.2.2.1 x.2.2.2.2.2.1 x.2.2.2.2.2.2.1
abbrev law25_TalkOwned_P:=zp qbf_ qbi_ 6 q7e_
theorem q175_ {J a b c d e f}:law25_TalkOwned_P J 2047 [] (qaa_ a b c d e f)=q4o_ a b c d e f:=by kernel_rfl
theorem q16o_ {J a b c d e f g}:law25_TalkOwned_P J 131022 [] (qgk_ a b c d e f g)=qa6_ (C (J 2047 []) qaa_) a b c d e f g:=by kernel_rfl
theorem q17e_ {J w7 a b c d e f g h i j}:law25_TalkOwned_P J 1048178 [w7] (qat_ a b c d e f g h i j)=q4m_ (C (J 131022 []) qgk_) (C w7 qat_) a b c d e f g h i j:=by kernel_rfl
theorem q17u_ {J a b c d e f g h i}:law25_TalkOwned_P J 8188 [] (qgp_ a b c d e f g h i)=quw_ (C (J 2047 []) qaa_) (C (J 1048178 []) qat_) a b c d e f g h i:=by kernel_rfl
theorem q16w_ {J a b c d e f}:law25_TalkOwned_P J 510 [] (qgx_ a b c d e f)=qab_ (C (J 8188 []) qgp_) a b c d e f:=by kernel_rfl
theorem q17r_ {J a b c d e f g h}:law25_TalkOwned_P J 254 [] (qgd_ a b c d e f g h)=qa2_ (C (J 510 []) qgx_) a b c d e f g h:=by kernel_rfl
theorem q16b_ {J a b c d e f}:law25_TalkOwned_P J 62 [] (qgn_ a b c d e f)=q9z_ (C (J 254 []) qgd_) a b c d e f:=by kernel_rfl
theorem q16u_ {J a b c d e f g h i}:law25_TalkOwned_P J 14 [] (qgq_ a b c d e f g h i)=q4l_ (C (J 62 []) qgn_) a b c d e f g h i:=by kernel_rfl
theorem q17w_ (J:Orc (As [.bool])) (x:As [.int .u8,.sl (.int .u16),.int .u16,.bool,.int .u8,.int .u32,.sl (.pr (.int .i64) (.sl (.int .u16)))]):rfn Tryz.prog qbf_ 6 18446744073709551616 (Ev.get qbi_) 6 q7e_ J x=qae_ (C (J 14 []) qgq_) x.1 x.2.1 x.2.2.1 x.2.2.2.1 x.2.2.2.2.1 x.2.2.2.2.2.1 x.2.2.2.2.2.2.1:=by kernel_rfl
abbrev law25_TalkOwned_J:=zj qbf_ qbi_ 6 q7e_
theorem qu8_:C (law25_TalkOwned_J 2047 []) qaa_=q1o_:=gNC (by decide) fun _=>q175_
theorem q16g_:C (law25_TalkOwned_J 131022 []) qgk_=q6l_:=gNC (by decide) fun _=>q16o_.trans (by rw [qu8_] <;> kernel_rfl)
theorem q15s_:C (law25_TalkOwned_J 1048178 []) qat_=q4s_:=gLC (by decide) (by kernel_rfl) (fun _=>by unfold q4s_; rfl) fun _ _=>q17e_.trans (by rw [q16g_] <;> kernel_rfl)
theorem q15v_:C (law25_TalkOwned_J 8188 []) qgp_=q6n_:=gNC (by decide) fun _=>q17u_.trans (by rw [qu8_,q15s_] <;> kernel_rfl)
theorem q15f_:C (law25_TalkOwned_J 510 []) qgx_=qa7_:=gNC (by decide) fun _=>q16w_.trans (by rw [q15v_] <;> kernel_rfl)
theorem q15l_:C (law25_TalkOwned_J 254 []) qgd_=qag_:=gNC (by decide) fun _=>q17r_.trans (by rw [q15f_] <;> kernel_rfl)
theorem q166_:C (law25_TalkOwned_J 62 []) qgn_=q6h_:=gNC (by decide) fun _=>q16b_.trans (by rw [q15l_] <;> kernel_rfl)
theorem q16r_:C (law25_TalkOwned_J 14 []) qgq_=qai_:=gNC (by decide) fun _=>q16u_.trans (by rw [q166_] <;> kernel_rfl)
theorem q18a_ (x:As [.int .u8,.sl (.int .u16),.int .u16,.bool,.int .u8,.int .u32,.sl (.pr (.int .i64) (.sl (.int .u16)))]):evT Tryz.prog qbf_ 6 18446744073709551616 (Ev.get qbi_) 6 q7e_ x=qfe_ x:=by
 rw [qb_,q17w_,q16r_] <;> rfl
theorem q16k_:CtOk Tryz.prog (fun _=>True) 6 ⟨q7e_,qfe_⟩:=q7_ (q0_ Ev.bx_ok (q0_ Ev.bx_ok (q0_ Ev.bx_ok (q0_ q12p_ (q0_ qqg_ (q0_ q162_ (q0_ q1dj_ (q0_ q1a5_ (q0_ q1h5_ (q0_ q1lq_ (q0_ qvj_ (q0_ q8k_ (q0_ q1li_ q2_))))))))))))) q18a_
end Go.Proofs.Lx
end
noncomputable section
namespace Go.Proofs.Lx
open Go Ev Sx Pl
set_option maxRecDepth 100000
theorem awake_eq:qbb_ ()=some (true,()):=by kernel_rfl
abbrev TPr:=TTk×TSl×Unit×Int×Int×List (List TBlk)
theorem begin_calm {alt:Bool} {t:TTk} {s:TSl} {x g k y:Int} {n:Nat} {z:TTk×TSl} {pl:List (List TBlk)} (ht:OkT t) (hs:OkS s) (hu:s.1=t.1.1) (hl:s.2.1=t.1.2.1) (hx:0≤x∧x≤1000000) (hp:OkPl pl)
  (hk:pickB alt t x=some (k,y)) (hk3:1≤k∧k≤3) (hy:1≤y∧y≤4294967295) (hf:k=1->fitL (planB pl y)=true) (hz:OkX (beginT t k y (planB pl y)) s->runX n (beginT t k y (planB pl y)) s=some z) (hn:2 * n≤60) :
  ∃ t' w',q2q_ (alt,t,s,x,g,pl,[],())=some (true,t',s,y,if k=2 then y else g,pl,w',())∧q40_ (60,t',s,y,if k=2 then y else g,pl,w',())=some (true,z.1,z.2,y,if k=2 then y else g,pl,[],()) ∧
   OkT z.1∧OkS z.2∧z.1.2.2.2.2.2.1=0∧z.1.1.2.2.2.2.1=false∧z.2.1=z.1.1.1∧z.2.2.1=z.1.1.2.1:=by
 obtain ⟨e1,ox⟩:=start_go (g:=k) (y:=y) (l:=planB pl y) ht hs hu hl hk3 hy hf (fun b hb=>((planB_ok hp y).2 b hb).2)
 have hz:=hz ox
 have hlen:=sendT_len ox
 refine ⟨(sendT (beginT t k y (planB pl y))).1,[(false,(sendT (beginT t k y (planB pl y))).2)],?_,calm_go (N:=60) ox hz hn (by decide) _ _ _,runX_end ox hz⟩
 rw [begin_law ht hs alt hx g hp []]
 unfold beginP
 rw [hk]
 dsimp only
 have eo:outW [] false (sendT (beginT t k y (planB pl y))).2=[(false,(sendT (beginT t k y (planB pl y))).2)]:=by
  unfold outW
  rw [if_pos ⟨by omega,by decide⟩]
  rfl
 rw [e1]
 dsimp only
 rw [eo]
 rfl
section
variable {link other goal tx:Int} {b:List Int} {held:Bool} {l:List TBlk} (hk:0≤link) (hb:∀ x ∈ b,0≤x∧x≤65535) (ho:0≤other∧other≤65535) (h0:other ≠ 0) (h7:other ≠ 7) (hg:0≤goal∧goal≤255) (hx:0≤tx∧tx≤4294967295) (hl:l.length≤40) (hw:∀ b ∈ l,∀ y ∈ b.2,0≤y∧y≤65535) (hc:∀ b ∈ l,b.2.length≤100)
include hl hc in
theorem owned_K7 (out:List Int) (e:Int) (p:TPr) (o:TWay) (t:TTk):q4s_ l out e 0 l (zF l.length) 0 p o t=q1o_ out e (if fitL l=true then 0 else 20) p o t:=by
 unfold q4s_
 have e0:(0:Int)=if (l.take 0).all fitsB=true then 0 else 20:=rfl
 rw [show q1o_ out e (if fitL l=true then 0 else 20) p o t=q6l_ l out e (if (l.take l.length).all fitsB=true then 0 else 20) p o t from ?_]
 ·refine loop_dt (N:=l.length) (mk:=fun i=>(l,out,e,(if (l.take i).all fitsB=true then 0 else 20),l,zF l.length,(i:Int),p,o,t)) ?_ ?_ l.length 0 _ (by omega) (by omega)
  ·intro self i hi
   obtain ⟨x,hx⟩:=get_of (xs:=l) (i:=i) hi
   show q4m_ q6l_ _ l out e (if (l.take i).all fitsB=true then 0 else 20) l (zF l.length) (i:Int) p o t=_
   unfold q4m_
   rw [if_pos (q5_.2 (by rw [q1_]; omega)),qf_ hx,zD,bfits_eq (by have:=hc x (zY hx); omega),zD,qw_ (by omega),List.take_add_one,hx]
   have:∀ m:List TBlk,(m++(some x).toList).all fitsB=(m.all fitsB && fitsB x):=fun m=>by simp
   rw [this]
   cases fitsB x with
   | true =>
    rw [Bool.and_true]
    rfl
   | false =>
    rw [Bool.and_false]
    rfl
  ·intro self
   show q4m_ q6l_ _ l out e _ l (zF l.length) (l.length:Int) p o t=_
   unfold q4m_
   rw [if_neg (fun h=>by have:=q5_.1 h; rw [q1_] at this; omega)]
 ·show _=qa6_ q1o_ l out e _ p o t
  unfold qa6_ fitL
  rw [List.take_length]
  by_cases h8:l.length≤8
  ·rw [decide_eq_true h8,Bool.true_and]
   exact (if_neg (fun h=>by have:=q1f_.1 h; rw [q1_] at this; omega)).symm
  ·rw [decide_eq_false h8,Bool.false_and]
   exact (if_pos (q1f_.2 (by rw [q1_]; omega))).symm
include hx hg hl hw hc in
theorem owned_K4 {t:TTk} {s:TSl} (ht:OkT t) (hs:OkS s) (hu:s.1=t.1.1) (hln:s.2.1=t.1.2.1) (o:TWay):qa7_ goal tx l false (t,s,(),1,0,[]) o=some (true,()):=by
 have er:∀ x:Int,eqi x x=true:=fun x=>q4_.2 rfl
 have bad:∀ e:Int,e ≠ 0->q1o_ [] e e (t,s,(),1,0,[]) o t=some (true,()):=fun e he=>by
  have e0:eqi e 0=false:=by rw [<- Bool.not_eq_true,q4_]; exact he
  show q4o_ [] e e (t,s,(),1,0,[]) o t=_
  unfold q4o_
  rw [er,if_pos rfl,e0,if_pos (by decide),if_neg (by decide)]
  dsimp only
  rw [tsame_self ht,zD,if_pos rfl,awake_eq]
  rfl
 have good:∀ (out:List Int) t',0 < out.length->q1o_ out 0 0 (t,s,(),1,0,[]) o t'=some (true,()):=fun out t' h=>by
  show q4o_ out 0 0 (t,s,(),1,0,[]) o t'=_
  unfold q4o_
  rw [if_pos (by decide),show gt (zF out.length) 0=true from q1f_.2 (by rw [q1_]; omega),if_pos (by decide),if_pos (by decide),awake_eq]
  rfl
 show qab_ q6n_ goal tx l false (t,s,(),1,0,[]) o=_
 unfold qab_
 rw [if_neg (by decide)]
 dsimp only
 rw [start_eq ht hx (by omega) (fun b hb=>by have:=hc b hb; omega) hw,zD]
 dsimp only
 have K5t:∀ out e t',q6n_ goal l out e 0 true (t,s,(),1,0,[]) o t'=q1o_ out e 2 (t,s,(),1,0,[]) o t':=fun _ _ _=>rfl
 have K5f:∀ out e t',q6n_ goal l out e 0 false (t,s,(),1,0,[]) o t'=if eqi goal 1=true then q4s_ l out e 0 l (zF l.length) 0 (t,s,(),1,0,[]) o t' else q1o_ out e 0 (t,s,(),1,0,[]) o t':=fun _ _ _=>rfl
 by_cases hgg:1≤goal∧goal≤3
 ·rw [if_neg (fun e=>by have:=q5_.1 e; omega),if_neg (fun e=>by have:=q1f_.1 e; omega)]
  by_cases h0:tx=0
  ·have e:startT t goal tx l=(t,[],2):=if_pos (.inr h0)
   rw [e,h0,er,K5t]
   exact bad 2 (by decide)
  ·rw [show eqi tx 0=false from by rw [<- Bool.not_eq_true,q4_]; exact h0,K5f,owned_K7 hl hc]
   by_cases h1:goal=1∧fitL l=false
   ·have e:startT t goal tx l=(t,[],20):=by
     unfold startT
     rw [if_neg (by rintro (h | h); exact h hgg; exact h0 h),if_pos h1]
    rw [e,if_pos (q4_.2 h1.1),h1.2,if_neg (by decide)]
    exact bad 20 (by decide)
   ·have hf:goal=1->fitL l=true:=fun e=>by
     cases h:fitL l with
     | true=>rfl
     | false=>exact absurd ⟨e,h⟩ h1
    obtain ⟨e,ox⟩:=start_go ht hs hu hln hgg (by omega:1≤tx∧tx≤4294967295) hf hw
    have hlen:=sendT_len ox
    rw [e]
    dsimp only
    by_cases h2:goal=1
    ·rw [if_pos (q4_.2 h2),hf h2,if_pos rfl]
     exact good _ _ (by omega)
    ·rw [if_neg (fun e=>h2 (q4_.1 e))]
     exact good _ _ (by omega)
 ·have e:startT t goal tx l=(t,[],2):=if_pos (.inl hgg)
  rw [e]
  by_cases h1:goal < 1
  ·rw [if_pos (q5_.2 h1),K5t]
   exact bad 2 (by decide)
  ·rw [if_neg (fun e=>h1 (q5_.1 e)),if_pos (q1f_.2 (by omega)),K5t]
   exact bad 2 (by decide)
include hk hb ho h0 h7 hg hx hl hw hc in
theorem owned_K2 (h:Bool):q6h_ goal tx l false (begT link 3 1,hSl link b other h,(),0,0,[]) []=some (true,()):=by
 have ht:=begT_ok hk (show (0:Int)≤3 by decide) (show (0:Int)≤1 by decide)
 have hs:=hSl_ok hk hb h0 ho h
 have n1:(hSl link b other h).2.2.1.2.1.1 ≠ 0:=by rw [hSl_own]; exact h0
 have n7:(hSl link b other h).2.2.1.2.1.1 ≠ 7:=by rw [hSl_own]; exact h7
 have hp:OkPl []:=⟨Nat.zero_le _,fun q hq=>by cases hq⟩
 have same:=slsame_self hs
 obtain ⟨t1,w1,b1,c1,ok1,_,a1,_,u1,l1⟩:=begin_calm (alt:=false) (g:=0) (k:=1) (y:=1) (n:=1) (z:=(endT (stepP (beginT (begT link 3 1) 1 1 []).1,(beginT (begT link 3 1) 1 1 []).2) 2,hSl link b other h)) ht hs rfl rfl (x:=0) ⟨by decide,by decide⟩ hp rfl ⟨by decide,by decide⟩ ⟨by decide,by decide⟩ (fun _=>rfl) (fun ox=>run_no ox rfl (show (1:Int) ≠ 0 by decide) rfl n1 n7) (by decide)
 generalize ez:endT (stepP (beginT (begT link 3 1) 1 1 []).1,(beginT (begT link 3 1) 1 1 []).2) 2=t2 at *
 have q1:t2.2.2.2.2.2.2.2.2=2:=by rw [<- ez]; rfl
 have q2:t2.2.2.2.2.1=1:=by rw [<- ez]; rfl
 have q3:t2.2.1=7:=by rw [<- ez]; rfl
 dsimp only at ok1 a1 u1 l1 c1
 have hpk:pickB false t2 1=some (3,1):=by
  unfold pickB
  rw [q1,q2]
  rfl
 obtain ⟨t3,w3,b3,c3,ok3,_,a3,_,u3,l3⟩:=begin_calm (alt:=false) (g:=0) (k:=3) (y:=1) (n:=2) (z:=(endT (stepP (lookT (beginT t2 3 1 [])).1,(lookT (beginT t2 3 1 [])).2) 1,hSl link b other h)) ok1 hs u1 l1 (x:=1) ⟨by decide,by decide⟩ hp hpk ⟨by decide,by decide⟩ ⟨by decide,by decide⟩ (fun e=>absurd e (by decide)) (fun ox=>run_abort ox q3 (show (1:Int) ≠ 0 by decide) rfl rfl n1 n7) (by decide)
 generalize ez4:endT (stepP (lookT (beginT t2 3 1 [])).1,(lookT (beginT t2 3 1 [])).2) 1=t4 at *
 have r1:t4.2.2.2.2.2.2.2.2=1:=by rw [<- ez4]; rfl
 have r2:t4.2.2.2.2.1=3:=by rw [<- ez4]; rfl
 dsimp only at ok3 a3 u3 l3 c3
 have k3:qag_ goal tx l 0 false (t2,hSl link b other h,(),1,0,[]) [] [hSl link b other h]=some (true,()):=by
  show qa2_ qa7_ goal tx l 0 false (t2,hSl link b other h,(),1,0,[]) [] [hSl link b other h]=_
  unfold qa2_
  rw [if_neg (by decide)]
  dsimp only
  rw [q2c_ hs,b3,zD]
  dsimp only
  rw [if_neg (by decide),q2c_ hs,c3,zD]
  dsimp only
  rw [if_neg (by decide),r2,if_neg (by decide),r1,if_neg (by decide),q15_,zD,q2c_ hs,same,zD]
  exact owned_K4 hg hx hl hw hc ok3 hs u3 l3 []
 show q9z_ qag_ goal tx l false (begT link 3 1,hSl link b other h,(),0,0,[]) []=_
 unfold q9z_
 rw [if_neg (by decide)]
 dsimp only
 rw [q2c_ hs,b1,zD]
 dsimp only
 rw [if_neg (by decide),q2c_ hs,c1,zD]
 dsimp only
 rw [if_neg (by decide),q1,if_neg (by decide),q2c_ hs,same,zD]
 exact k3
end
theorem owned_law {link other goal tx:Int} {b:List Int} {held:Bool} {l:List TBlk} (hk:0≤link) (hb:∀ x ∈ b,0≤x∧x≤65535) (ho:0≤other∧other≤65535) (hg:0≤goal∧goal≤255) (hx:0≤tx∧tx≤4294967295) (hl:l.length≤9223372036854775807) (hw:∀ b ∈ l,∀ y ∈ b.2,0≤y∧y≤65535) :
  qfe_ (link,b,other,held,goal,tx,l,())=some (true,()):=by
 have er:∀ x:Int,eqi x x=true:=fun x=>q4_.2 rfl
 have hsb:=begX_ok hk hb
 have K1t:∀ p o,qai_ other held goal tx l true true p o=some (true,()):=fun p o=>by
  show q4l_ q6h_ other held goal tx l true true p o=_
  unfold q4l_
  rw [if_pos rfl,if_pos rfl,awake_eq]
  rfl
 show qae_ qai_ link b other held goal tx l=_
 unfold qae_
 rw [begun_eq hk (by decide) (by decide) hb,zD]
 dsimp only
 rw [if_neg (by decide)]
 by_cases h0:other=0
 ·rw [if_pos (q4_.2 h0),K1t]
 rw [if_neg (fun e=>h0 (q4_.1 e))]
 by_cases h7:other=7
 ·rw [if_pos (q4_.2 h7),K1t]
 rw [if_neg (fun e=>h7 (q4_.1 e)),light_eq hl,zD]
 dsimp only
 cases hL:lightL l with
 | false=>exact K1t _ _
 | true =>
  unfold lightL at hL
  simp only [Bool.and_eq_true,List.all_eq_true,decide_eq_true_eq] at hL
  have k2:=owned_K2 hk hb ho h0 h7 hg hx hL.2 hw hL.1
  have hc1:servS (begX link b) (opR (other,1))=(hSl link b other false,(16,0,[],[],272,8)):=serv_op ho (show (0:Int)≤1∧(1:Int)≤255 by decide) (claim_new h0 _)
  have hs1:=hSl_ok hk hb h0 ho false
  have hc2:servS (hSl link b other false) (opR (other,2))=(hSl link b other true,(16,0,[],[],272,8)):=serv_op ho (show (0:Int)≤2∧(2:Int)≤255 by decide) (prep_new h0)
  show q4l_ q6h_ other held goal tx l true false (begT link 3 1,begX link b,(),0,0,[]) []=_
  unfold q4l_
  rw [if_neg (by decide)]
  dsimp only
  rw [q2c_ hsb,does_law (o:=(other,1)) ho (show (0:Int)≤1∧(1:Int)≤255 by decide) hsb,hc1,zD]
  dsimp only
  rw [if_neg (by decide)]
  cases held with
  | true =>
   rw [if_pos rfl,q2c_ hs1,does_law (o:=(other,2)) ho (show (0:Int)≤2∧(2:Int)≤255 by decide) hs1,hc2,zD]
   exact k2 true
  | false =>
   rw [if_neg (by decide)]
   exact k2 false
theorem okw32 {x:Int} (h:(Lit.int .u32 x).wf=true):0≤x∧x≤4294967295:=by
 simp [Lit.wf] at h
 have e1:IntKind.u32.min=0:=rfl
 have e2:IntKind.u32.max=4294967295:=rfl
 omega
abbrev tBlk:Ty:=.pr (.int .i64) (.sl (.int .u16))
theorem owned_row (x:As [.int .u8,.sl (.int .u16),.int .u16,.bool,.int .u8,.int .u32,.sl tBlk]) (h:Rw.okA [.int .u8,.sl (.int .u16),.int .u16,.bool,.int .u8,.int .u32,.sl tBlk] x):qfe_ x=some (true,()) :=
 owned_law (link:=x.1) (b:=x.2.1) (other:=x.2.2.1) (held:=x.2.2.2.1) (goal:=x.2.2.2.2.1) (tx:=x.2.2.2.2.2.1) (l:=x.2.2.2.2.2.2.1) (ok8 h.1).1 (fun y hy=>ok16 (h.2.1.2 y hy)) (ok16 h.2.2.1) (ok8 h.2.2.2.2.1) (okw32 h.2.2.2.2.2.1) (by have:=h.2.2.2.2.2.2.1.1; unfold maxLen at this; omega) (fun y hy w hw=>ok16 ((h.2.2.2.2.2.2.1.2 y hy).2.2 w hw))
end Go.Proofs.Lx
end
