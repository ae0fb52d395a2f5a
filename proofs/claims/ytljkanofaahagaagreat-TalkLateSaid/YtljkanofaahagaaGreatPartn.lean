/- Proved in the last of these 15 parts (this is part 14): TalkLate. Conditions: those of the given statement, and no others. -/
import Derived.Test.YtljkanofaahagaaGreatPartm
import Derived.Test.YtljkanofaahagaaGreatPartd
import Derived.Test.YtljkanofaahagaaGreatProg
import Derived.Test.YtljkanofaahagaaGreatPartk
import Derived.Test.YtljkanofaahagaaGreatParte
set_option linter.unusedVariables false
set_option linter.unusedSimpArgs false
set_option linter.unusedSectionVars false
open Option renaming bind → zC, bind_some → zD
open List renaming replicate → zE, length → zG, getD_eq_getElem?_getD → zX, mem_of_getElem? → zY, length_map → kA, length_take → kB, length_replicate → kD
open Int renaming ofNat → zF, toNat → zI, toNat_natCast → zQ, tmod_eq_emod_of_nonneg → kC
noncomputable section
namespace Go.Proofs.Lx
open Go Ev Sx Pl
set_option maxRecDepth 100000
theorem repB_bytes {r:TR} (hr:RR r):∀ y ∈ repB r,0≤y∧y≤255:=by
 have app:∀ {l r:List Int},(∀ y ∈ l,0≤y∧y≤255)->(∀ y ∈ r,0≤y∧y≤255)->∀ y ∈ l++r,0≤y∧y≤255:=fun h1 h2 y hy=>by
  rcases List.mem_append.1 hy with h | h
  ·exact h1 y h
  ·exact h2 y h
 have con:∀ {x:Int} {r:List Int},(0≤x∧x≤255)->(∀ y ∈ r,0≤y∧y≤255)->∀ y ∈ x::r,0≤y∧y≤255:=fun h1 h2 y hy=>by
  rcases List.mem_cons.1 hy with h | h
  ·subst h; exact h1
  ·exact h2 y h
 have nil:∀ y ∈ ([]:List Int),0≤y∧y≤255:=fun y hy=>by cases hy
 cases hr with
 | ex f e h0 h h1 h2 =>
  have ea:add .u8 f 128=f + 128:=wu8 (by omega) (by omega)
  unfold repB
  rw [if_pos (by rw [qd_]; show e ≠ 0; omega)]
  unfold exB
  dsimp only
  rw [ea]
  exact con (by omega) (con (by omega) nil)
 | bits f l hf h1 h2 h3 =>
  have e:repB (f,0,l,[],0,0)=f::(packN l.length:Int) % 256::packS l:=by rcases hf with rfl | rfl <;> rfl
  rw [e]
  exact con (by omega) (con (by omega) (pack_bytes l))
 | words f l hf h1 h2 =>
  have e:repB (f,0,[],l,0,0)=f::2 * (l.length:Int) % 256::l.flatMap two:=by rcases hf with rfl | rfl | rfl <;> rfl
  rw [e]
  exact con (by omega) (con (by omega) (flat_bytes l))
 | coil b p =>
  show ∀ y ∈ (5:Int)::two p++two (if b=true then 65280 else 0),0≤y∧y≤255
  exact app (con (by decide) (q1h_ p)) (q1h_ _)
 | word x p =>
  show ∀ y ∈ (6:Int)::two p++two x,0≤y∧y≤255
  exact app (con (by decide) (q1h_ p)) (q1h_ _)
 | coils p n h1 h2 =>
  show ∀ y ∈ (15:Int)::two p++two n,0≤y∧y≤255
  exact app (con (by decide) (q1h_ p)) (q1h_ _)
 | regs p n h1 h2 =>
  show ∀ y ∈ (16:Int)::two p++two n,0≤y∧y≤255
  exact app (con (by decide) (q1h_ p)) (q1h_ _)
theorem mbap_P {tx unit:Int} {pdu:List Int} (h1:1≤pdu.length) (h2:pdu.length≤253) (ht:0≤tx) (ht2:tx≤65535) (hu:0≤unit) (hu2:unit≤255) (hb:∀ y ∈ pdu,0≤y∧y≤255):mbapP (mbapV tx unit pdu)=((tx,unit,pdu),0):=by
 have h:=q1op_ h1 h2 ht ht2 hu hu2 hb
 have hall:∀ y ∈ mbapV tx unit pdu,0≤y∧y≤255:=by
  intro y hy
  unfold mbapV at hy
  rcases List.mem_append.1 hy with h | h
  ·simp at h
   rcases h with rfl | rfl | rfl | rfl | rfl <;> omega
  ·exact hb y h
 rw [mparse_eq (by simp [mbapV]; omega) hall] at h
 have h:=Option.some.inj h
 have e1:=congrArg (·.1) h
 have e2:=congrArg (·.2.1) h
 exact Prod.ext e1 e2
theorem rtu_P {unit:Int} {pdu:List Int} (h1:1≤pdu.length) (h2:pdu.length≤253) (hu:1≤unit) (hu2:unit≤247):rtuV (putV (unit::pdu))=(unit,pdu,0):=by
 have h:=q1or_ h1 h2 hu hu2
 rw [rtup_eq] at h
 have h:=Option.some.inj h
 exact Prod.ext (congrArg (·.1) h) (Prod.ext (congrArg (·.2.1) h) (congrArg (·.2.2.1) h))
def replF (l u x:Int) (r:TR):List Int:=if l=2 then mbapV x u (repB r) else putV (u::repB r)
theorem take_ask {s:TSl} {a:TA} (ha:OkA a) (hr:qm_ a=true) (hu:1≤s.1∧s.1≤247) {x:Int} (hx:0≤x∧x≤65535):takeS s (frameV s.2.1 s.1 x a)=((servS s a).1,replF s.2.1 s.1 x (servS s a).2):=by
 have hl:=askB_len (q1q_ hr)
 have hb:=askB_bytes (q1q_ hr)
 unfold takeS frameV replF
 by_cases h2:s.2.1=2
 ·simp only [if_pos h2]
  rw [mbap_P (by omega) hl.2 hx.1 hx.2 (by omega) (by omega) hb]
  dsimp only
  rw [if_neg (by simp),full_ask ha hr]
 ·simp only [if_neg h2]
  rw [rtu_P (by omega) hl.2 hu.1 hu.2]
  dsimp only
  rw [if_neg (by simp),full_ask ha hr]
theorem find_rep {q:TP} {r:TR} (h:Rep r) (hq:OkP q):findV q (replF q.2.1 q.1 q.2.2.2.2.2.2.1 r)=some r:=by
 have hlen:=repB_len h.rr
 have hu:=hq.u0
 have hu2:=hq.u1
 have hpr:=rparse_back h.ok h.rr h.rt
 unfold findV replF
 by_cases h2:q.2.1=2
 ·simp only [if_pos h2]
  unfold tcpV
  rw [mbap_P (by omega) hlen.2 hq.x0 hq.x1 (by omega) (by omega) (repB_bytes h.rr)]
  dsimp only
  rw [hpr,if_neg (by decide),if_neg (fun e=>e rfl),if_neg (fun e=>e rfl),if_neg (by show ¬ (0:Int) ≠ 0; decide)]
 ·simp only [if_neg h2]
  unfold serV
  rw [rtu_P (by omega) hlen.2 hu hu2]
  dsimp only
  rw [hpr,if_neg (by decide),if_neg (fun e=>e rfl),if_neg (by show ¬ (0:Int) ≠ 0; decide)]
theorem take_rep {q:TP} {r:TR} (h:Rep r) (hq:OkP q) (hw:q.2.2.2.2.1=true) (hf:fitsV q.2.2.2.2.2.1 r=true):takeV q (replF q.2.1 q.1 q.2.2.2.2.2.2.1 r)=some r:=by
 unfold takeV
 rw [if_pos hw,find_rep h hq,zD,if_pos hf]
def goodX (t:TTk):Prop:=t.2.2.2.2.2.1 ≠ 0∧(t.2.2.2.2.2.1=2∨t.2.2.2.2.2.1=3->hasT t=true)
theorem goodX.good {t:TTk} (h:goodX t):goodT t:=⟨h.1,fun e=>h.2 (.inl e)⟩
theorem goodX_to {t:TTk} {k:Int} (h0:k ≠ 0) (h2:k=2∨k=3->hasT t=true):goodX (toT t k):=⟨h0,h2⟩
theorem goodX_next (t:TTk):goodX (nextT t):=by
 unfold nextT
 split
 ·exact goodX_to (by decide) (fun e=>by omega)
 ·rename_i h
  exact goodX_to (by decide) (fun _=>decide_eq_true (by omega))
theorem goodX_again {t:TTk} {k:Int} (h0:k ≠ 0) (h2:k=2∨k=3->hasT t=true) (h:(againT t k).2.2.2.2.2.1 ≠ 0):goodX (againT t k):=by
 unfold againT at h ⊢
 split
 ·rename_i h8
  rw [if_pos h8] at h
  exact absurd rfl h
 ·exact goodX_to h0 h2
theorem goodX_eff {t:TTk} {r:TR} (hg:goodX t) (ha:0≤t.2.2.2.2.2.1∧t.2.2.2.2.2.1≤7) (h:(effT t r).2.2.2.2.2.1 ≠ 0):goodX (effT t r):=by
 have E:∀ {s},(endT t s).2.2.2.2.2.1 ≠ 0->goodX (endT t s):=fun h=>absurd rfl h
 have hc:t.2.2.2.2.2.1=1∨t.2.2.2.2.2.1=2∨t.2.2.2.2.2.1=3∨t.2.2.2.2.2.1=4∨t.2.2.2.2.2.1=5∨t.2.2.2.2.2.1=6∨t.2.2.2.2.2.1=7:=by
  have:=hg.1
  omega
 have T:∀ {k:Int},4≤k->goodX (toT t k):=fun hk=>goodX_to (by omega) (fun e=>by omega)
 have A:∀ {k:Int},k=1∨k=4->(againT t k).2.2.2.2.2.1 ≠ 0->goodX (againT t k):=fun hk=>goodX_again (by omega) (fun e=>by omega)
 rcases hc with e | e | e | e | e | e | e
 ·rw [eff1 e] at h ⊢
  cases hr:readR r with
  | none=>rw [hr] at h; exact E h
  | some s =>
   rw [hr] at h
   dsimp only at h ⊢
   split
   ·rename_i q
    rw [if_pos q] at h; exact E h
   ·rename_i q
    rw [if_neg q] at h
    split
    ·exact goodX_next _
    ·rename_i q
     rw [if_neg q] at h
     exact A (.inl rfl) h
 ·rw [eff2 e] at h ⊢
  split
  ·rename_i q
   rw [if_pos q] at h; exact E h
  ·exact goodX_to (by decide) (fun _=>hg.2 (.inl e))
 ·rw [eff3 e] at h ⊢
  split
  ·exact goodX_next _
  ·rename_i q
   rw [if_neg q] at h
   exact goodX_again (by decide) (fun _=>hg.2 (.inr e)) h
 ·rw [eff4 e] at h ⊢
  cases hr:readR r with
  | none=>rw [hr] at h; exact E h
  | some s =>
   rw [hr] at h
   dsimp only at h ⊢
   split
   ·rename_i q
    rw [if_pos q] at h; exact E h
   ·rename_i q
    rw [if_neg q] at h
    exact A (.inr rfl) h
 ·unfold effT at h ⊢
  rw [e] at h ⊢
  simp only [show ¬ (5:Int)=1 by decide,show ¬ (5:Int)=2 by decide,show ¬ (5:Int)=3 by decide,show ¬ (5:Int)=4 by decide,if_false,if_true] at h ⊢
  cases hr:readR r with
  | none=>exact T (by decide)
  | some s =>
   rw [hr] at h
   dsimp only at h ⊢
   split
   ·rename_i q
    rw [if_pos q] at h; exact E h
   ·exact T (by decide)
 ·unfold effT at h ⊢
  rw [e] at h ⊢
  simp only [show ¬ (6:Int)=1 by decide,show ¬ (6:Int)=2 by decide,show ¬ (6:Int)=3 by decide,show ¬ (6:Int)=4 by decide,show ¬ (6:Int)=5 by decide,if_false,if_true] at h ⊢
  cases hr:readR r with
  | none=>exact T (by decide)
  | some s =>
   rw [hr] at h
   dsimp only at h ⊢
   split
   ·exact T (by decide)
   ·rename_i q
    rw [if_neg q] at h; exact E h
 ·unfold effT at h ⊢
  rw [e] at h ⊢
  simp only [show ¬ (7:Int)=1 by decide,show ¬ (7:Int)=2 by decide,show ¬ (7:Int)=3 by decide,show ¬ (7:Int)=4 by decide,show ¬ (7:Int)=5 by decide,show ¬ (7:Int)=6 by decide,if_false,if_true] at h ⊢
  split
  ·rename_i q
   rw [if_pos q] at h
   cases hr:readR r with
   | none=>exact T (by decide)
   | some s =>
    rw [hr] at h
    dsimp only at h ⊢
    split
    ·rename_i q
     rw [if_pos q] at h; exact E h
    ·exact T (by decide)
  ·rename_i q
   rw [if_neg q] at h
   cases hr:readR r with
   | none=>exact T (by decide)
   | some s =>
    rw [hr] at h
    dsimp only at h ⊢
    split
    ·exact T (by decide)
    ·rename_i q
     rw [if_neg q] at h; exact E h
def stepP (p:TP):TP:=(p.1,p.2.1,p.2.2.1,p.2.2.2.1,false,zA,nextV p.2.1 p.2.2.2.2.2.2.1,0,0)
structure OkX (t:TTk) (s:TSl):Prop where
 kt:OkT t
 ks:OkS s
 g:goodX t
 w:t.1.2.2.2.2.1=false
 u:s.1=t.1.1
 l:s.2.1=t.1.2.1
def effX (t:TTk) (s:TSl):TTk:=effT (stepP t.1,t.2) (servS s (reqT t)).2
def slX (t:TTk) (s:TSl):TSl:=(servS s (reqT t)).1
theorem sendT_go {t:TTk} {s:TSl} (h:OkX t s):sendT t=((sentP (waitP t.1 (reqT t)),t.2),frameV s.2.1 s.1 (nextV s.2.1 t.1.2.2.2.2.2.2.1) (reqT t)):=by
 unfold sendT
 rw [if_neg (by rw [h.w]; decide),if_pos (q5b_ h.kt h.g.good),h.u,h.l]
 rfl
theorem come_ask {t:TTk} {s:TSl} (h:OkX t s):takeS s (sendT t).2=(slX t s,replF s.2.1 s.1 (nextV s.2.1 t.1.2.2.2.2.2.2.1) (servS s (reqT t)).2):=by
 have hx:=nextV_rng s.2.1 h.kt.p.x0 h.kt.p.x1
 have h0:=h.kt.p.u0
 have h1:=h.kt.p.u1
 have hu:=h.u
 rw [sendT_go h]
 exact take_ask (reqT_ok h.kt) (q5b_ h.kt h.g.good) (by omega) hx
theorem come_rep {t:TTk} {s:TSl} (h:OkX t s):ttakeT (sendT t).1 (replF s.2.1 s.1 (nextV s.2.1 t.1.2.2.2.2.2.2.1) (servS s (reqT t)).2)=if (effX t s).2.2.2.2.2.1=0 then (effX t s,[]) else sendT (effX t s):=by
 have hx:=nextV_rng t.1.2.1 h.kt.p.x0 h.kt.p.x1
 have ha:=reqT_ok h.kt
 have hr:=q5b_ h.kt h.g.good
 have hp:OkP (sentP (waitP t.1 (reqT t))):=⟨h.kt.p.u0,h.kt.p.u1,h.kt.p.l,h.kt.p.t0,h.kt.p.t1,h.kt.p.r0,h.kt.p.r1,ha,hx.1,hx.2⟩
 have e:=take_rep (servS_rep h.ks ha hr) hp rfl (fits_serv h.ks ha hr)
 rw [sendT_go h,h.u,h.l]
 unfold ttakeT
 dsimp only
 have e2:takeV (sentP (waitP t.1 (reqT t))) (replF t.1.2.1 t.1.1 (nextV t.1.2.1 t.1.2.2.2.2.2.2.1) (servS s (reqT t)).2)=some (servS s (reqT t)).2:=e
 rw [e2]
 rfl
theorem effT_p (p:TP) (c:_) (r:TR):(effT (stepP p,c) r).1=stepP p:=by
 unfold effT nextT againT
 repeat' split
 all_goals rfl
theorem servS_line (s:TSl) (a:TA):(servS s a).1.1=s.1∧(servS s a).1.2.1=s.2.1:=by
 unfold servS
 repeat' split
 all_goals exact ⟨rfl,rfl⟩
theorem OkX.kt' {t:TTk} {s:TSl} (h:OkX t s):OkT (effX t s):=by
 have hx:=nextV_rng t.1.2.1 h.kt.p.x0 h.kt.p.x1
 have ok:OkT (stepP t.1,t.2):=⟨⟨h.kt.p.u0,h.kt.p.u1,h.kt.p.l,h.kt.p.t0,h.kt.p.t1,h.kt.p.r0,h.kt.p.r1,zA_ok,hx.1,hx.2⟩,h.kt.o,h.kt.x,h.kt.bl,h.kt.bf,h.kt.at',h.kt.n,h.kt.tr⟩
 exact ok.eff _
theorem OkX.ks' {t:TTk} {s:TSl} (h:OkX t s):OkS (slX t s):=servS_ok h.ks (reqT_ok h.kt) (q5b_ h.kt h.g.good)
theorem OkX.next {t:TTk} {s:TSl} (h:OkX t s) (h0:(effX t s).2.2.2.2.2.1 ≠ 0):OkX (effX t s) (slX t s):=by
 have e:(effX t s).1=stepP t.1:=effT_p _ _ _
 have l:=servS_line s (reqT t)
 refine ⟨h.kt',h.ks',goodX_eff h.g h.kt.at' h0,by rw [e]; rfl,?_,?_⟩
 ·rw [e]
  exact l.1.trans h.u
 ·rw [e]
  exact l.2.trans h.l
def calmP:Nat->TTk->TSl->TWay->TTk×TSl×TWay
 | 0,t,s,w=>(t,s,w)
 | _ + 1,t,s,[]=>(t,s,[])
 | n + 1,t,s,m::w=>calmP n (comeP m t s w).1 (comeP m t s w).2.1 (comeP m t s w).2.2
theorem calmP_nil (n:Nat) (t:TTk) (s:TSl):calmP n t s []=(t,s,[]):=by cases n <;> rfl
def runX:Nat->TTk->TSl->Option (TTk×TSl)
 | 0,_,_=>none
 | n + 1,t,s=>if (effX t s).2.2.2.2.2.1=0 then some (effX t s,slX t s) else runX n (effX t s) (slX t s)
theorem sendT_len {t:TTk} {s:TSl} (h:OkX t s):8≤(sendT t).2.length∧(sendT t).2.length≤260:=by
 have:=sentB_len (p:=waitP t.1 (reqT t)) (q5b_ h.kt h.g.good)
 unfold sendT
 rw [if_neg (by rw [h.w]; decide),if_pos (q5b_ h.kt h.g.good)]
 exact this
theorem replF_len {l u x:Int} {r:TR} (h:RR r):1≤(replF l u x r).length∧(replF l u x r).length≤300:=by
 have:=repB_len h
 unfold replF
 split
 ·simp [mbapV]; omega
 ·rw [putV_len]; simp; omega
theorem exch_one {t:TTk} {s:TSl} (h:OkX t s):comeP (false,(sendT t).2) (sendT t).1 s []=((sendT t).1,slX t s,[(true,replF s.2.1 s.1 (nextV s.2.1 t.1.2.2.2.2.2.2.1) (servS s (reqT t)).2)]):=by
 have hr:=servS_rep h.ks (reqT_ok h.kt) (q5b_ h.kt h.g.good)
 unfold comeP
 rw [if_neg (by simp)]
 dsimp only
 rw [come_ask h]
 unfold outW
 have hl:=replF_len (l:=s.2.1) (u:=s.1) (x:=nextV s.2.1 t.1.2.2.2.2.2.2.1) hr.rr
 rw [if_pos ⟨hl.1,by decide⟩]
 rfl
theorem exch_two {t:TTk} {s:TSl} (h:OkX t s):comeP (true,replF s.2.1 s.1 (nextV s.2.1 t.1.2.2.2.2.2.2.1) (servS s (reqT t)).2) (sendT t).1 (slX t s) [] =
  if (effX t s).2.2.2.2.2.1=0 then (effX t s,slX t s,[]) else ((sendT (effX t s)).1,slX t s,[(false,(sendT (effX t s)).2)]):=by
 unfold comeP
 rw [if_pos rfl]
 dsimp only
 rw [come_rep h]
 split
 ·rfl
 ·rename_i h0
  have:=sendT_len (h.next h0)
  unfold outW
  rw [if_pos ⟨by omega,by decide⟩]
  rfl
theorem calm_run:∀ {n m:Nat} {t:TTk} {s:TSl} {z:TTk×TSl},OkX t s->runX n t s=some z->2 * n≤m->calmP m (sendT t).1 s [(false,(sendT t).2)]=(z.1,z.2,[])
 | 0,_,_,_,_,_,h,_=>by cases h
 | n + 1,m,t,s,z,hx,h,hm=>by
  obtain ⟨k,rfl⟩:∃ k,m=k + 2:=⟨m - 2,by omega⟩
  show calmP (k + 1) (comeP (false,(sendT t).2) (sendT t).1 s []).1 (comeP (false,(sendT t).2) (sendT t).1 s []).2.1 (comeP (false,(sendT t).2) (sendT t).1 s []).2.2=_
  rw [exch_one hx]
  show calmP k (comeP (true,_) (sendT t).1 (slX t s) []).1 (comeP (true,_) (sendT t).1 (slX t s) []).2.1 (comeP (true,_) (sendT t).1 (slX t s) []).2.2=_
  rw [exch_two hx]
  unfold runX at h
  split at h
  ·rename_i h0
   rw [if_pos h0,calmP_nil]
   cases h
   rfl
  ·rename_i h0
   rw [if_neg h0]
   exact calm_run (hx.next h0) h (by omega)
def RunOk:Nat->TTk->TSl->TWay->Prop
 | 0,_,_,_=>True
 | _ + 1,_,_,[]=>True
 | n + 1,t,s,m::w=>OkT t∧OkM t m∧RunOk n (comeP m t s w).1 (comeP m t s w).2.1 (comeP m t s w).2.2
theorem comeP_ok {m:Bool×List Int} {t:TTk} {s:TSl} {w:TWay} (hs:OkS s) (hm:OkM t m):OkS (comeP m t s w).2.1:=by
 unfold comeP
 split
 ·exact hs
 ·exact takeS_ok hs hm.b
def calmF (self:Int×Int×(TTk×TSl×Unit×Int×Int×List (List TBlk))×TWay->Option (Bool×TTk×TSl×Int×Int×List (List TBlk)×TWay×Unit)) (st:Int×Int×(TTk×TSl×Unit×Int×Int×List (List TBlk))×TWay) :=
 q26_ q4q_ (fun t6 t7 p o=>self (t6,t7,p,o)) st.1 st.2.1 st.2.2.1 st.2.2.2
theorem calm_loop {N:Nat} (hN:N≤1000000) (x g:Int) (pl:List (List TBlk)):∀ (k i n:Nat) (t:TTk) (s:TSl) (w:TWay),i + k=N->k < n->OkS s->RunOk k t s w->w.length≤1000000 ->
  loopF calmF n ((N:Int),(i:Int),(t,s,(),x,g,pl),w)
   = some (eqi (zF (calmP k t s w).2.2.length) 0,(calmP k t s w).1,(calmP k t s w).2.1,x,g,pl,(calmP k t s w).2.2,())
 | _,_,0,_,_,_,_,h,_,_,_=>by omega
 | 0,i,n + 1,t,s,w,h,_,hs,_,_=>by
  rw [qr_]
  show q26_ q4q_ _ (N:Int) (i:Int) (t,s,(),x,g,pl) w=_
  unfold q26_
  rw [if_neg (fun h=>by have:=q5_.1 h; omega)]
  show qa5_ (t,s,(),x,g,pl) w=_
  unfold qa5_
  rw [q1v_ hs]
  rfl
 | k + 1,i,n + 1,t,s,[],h,_,hs,_,_=>by
  rw [qr_]
  show q26_ q4q_ _ (N:Int) (i:Int) (t,s,(),x,g,pl) []=_
  unfold q26_
  rw [if_pos (q5_.2 (by omega)),if_pos (show eqi (zF ([]:TWay).length) 0=true from rfl),q1v_ hs]
  rfl
 | k + 1,i,n + 1,t,s,m::w,h,hn,hs,hr,hw=>by
  have hl:(m::w).length=w.length + 1:=rfl
  rw [hl] at hw
  rw [qr_]
  show q26_ q4q_ _ (N:Int) (i:Int) (t,s,(),x,g,pl) (m::w)=_
  unfold q26_
  have e:List.take (zI (zF (m::w).length - 1)) (List.drop 1 (m::w))=w:=by
   have:zI (zF (m::w).length - 1)=w.length:=by rw [hl,q2_]; omega
   rw [this]
   exact List.take_length
  rw [if_pos (q5_.2 (by omega)),if_neg (fun e=>by have:=q4_.1 e; rw [q2_] at this; omega),q12_,zD,zD,q9_ (qo_.2 (by rw [q2_]; omega)),q9_ (qo_.2 (Int.le_refl _)),q9_ (q5_.2 (by rw [q2_]; omega)),e]
  dsimp only
  rw [q1v_ hs,come_law hr.1 hs hr.2.1,zD,qv_ (by omega)]
  refine calm_loop hN x g pl k (i + 1) n _ _ _ (by omega) (by omega) (comeP_ok hs hr.2.1) hr.2.2 ?_
  unfold comeP outW
  repeat' split
  all_goals first | (dsimp only; omega) | (dsimp only; rw [List.length_append]; have:∀ z:Bool×List Int,[z].length=1:=fun _=>rfl; rw [this]; omega)
theorem calm_law {N:Nat} (hN:N≤1000000) {t:TTk} {s:TSl} {w:TWay} (hs:OkS s) (hr:RunOk N t s w) (hw:w.length≤1000000) (x g:Int) (pl:List (List TBlk)) :
  q27_ ((N:Int),t,s,x,g,pl,w,())=some (eqi (zF (calmP N t s w).2.2.length) 0,(calmP N t s w).1,(calmP N t s w).2.1,x,g,pl,(calmP N t s w).2.2,()) :=
 calm_loop hN x g pl N 0 18446744073709551616 t s w (by omega) (by omega) hs hr hw
def pickB (alt:Bool) (t:TTk) (x:Int):Option (Int×Int) :=
 if t.2.2.2.2.1=1∧t.2.2.2.2.2.2.2.2=1∧alt=false then some (2,x) else if t.2.2.2.2.1=1∧(alt=true∨t.2.2.2.2.2.2.2.2=2) then some (3,x) else if t.2.2.2.2.1 ≠ 0∧t.2.2.2.2.2.2.2.2=0 then none else some (1,x + 1)
def planB (pl:List (List TBlk)) (y:Int):List TBlk:=pl.getD (y.toNat % pl.length) []
structure OkPl (pl:List (List TBlk)):Prop where
 l:pl.length≤1000000
 b:∀ q ∈ pl,q.length≤1000000∧∀ b ∈ q,b.2.length≤1000000∧∀ y ∈ b.2,0≤y∧y≤65535
theorem planB_ok {pl:List (List TBlk)} (h:OkPl pl) (y:Int):(planB pl y).length≤1000000∧∀ b ∈ planB pl y,b.2.length≤1000000∧∀ z ∈ b.2,0≤z∧z≤65535:=by
 unfold planB
 rw [zX]
 cases e:pl[y.toNat % pl.length]? with
 | none=>exact ⟨Nat.zero_le _,fun b hb=>by cases hb⟩
 | some q=>exact h.b q (zY e)
theorem begin_go {t:TTk} {s:TSl} (ht:OkT t) (hs:OkS s) {k y:Int} (hy:0≤y∧y≤4294967295) {pl:List (List TBlk)} (hp:OkPl pl) (x g:Int) (w:TWay) :
  q1t_ k y (t,s,(),x,g,pl) w=some (decide ((startT t k y (planB pl y)).2.2=0),(startT t k y (planB pl y)).1,s,y,if k=2 then y else g,pl,outW w false (startT t k y (planB pl y)).2.1,()):=by
 have k6:∀ (b:List Int) (e:Int) g' (t':TTk),q5n_ y b e (t,s,(),x,g',pl) w t'=some (eqi e 0,t',s,y,g',pl,outW w false b,()):=fun b e g' t'=>by
  show q97_ y b e (t,s,(),x,g',pl) w t'=_
  unfold q97_
  dsimp only
  rw [q1v_ hs,sent_law hs,zD]
  dsimp only
  rw [q1v_ hs]
 have st:∀ (l:List TBlk) (g':Int),l=planB pl y->(zC (q3o_ (t,k,y,l,())) fun z=>q5n_ y z.2.1 z.2.2.1 (t,s,(),x,g',pl) w z.1)=some (decide ((startT t k y (planB pl y)).2.2=0),(startT t k y (planB pl y)).1,s,y,g',pl,outW w false (startT t k y (planB pl y)).2.1,()):=fun l g' e=>by
  obtain ⟨h1,h2⟩:=planB_ok hp y
  rw [e,start_eq ht hy h1 (fun b hb=>(h2 b hb).1) (fun b hb=>(h2 b hb).2),zD]
  dsimp only
  rw [k6]
  have:∀ z:Int,eqi z 0=decide (z=0):=fun z=>by rw [Bool.eq_iff_iff,q4_,decide_eq_true_iff]
  rw [this]
 have k4:∀ g':Int,q95_ k y (t,s,(),x,g',pl) w=some (decide ((startT t k y (planB pl y)).2.2=0),(startT t k y (planB pl y)).1,s,y,g',pl,outW w false (startT t k y (planB pl y)).2.1,()):=fun g'=>by
  show q98_ q5n_ k y (t,s,(),x,g',pl) w=_
  unfold q98_
  by_cases h0:pl.length=0
  ·have e0:eqi (zF pl.length) 0=true:=q4_.2 (by rw [q2_]; omega)
   have:pl=[]:=List.length_eq_zero_iff.1 h0
   simp only [e0,if_true]
   rw [amb2 (eqAs_refl _),amb2 (eqAs_refl _)]
   exact st [] g' (by rw [this]; rfl)
  ·have e0:eqi (zF pl.length) 0=false:=by
    rw [<- Bool.not_eq_true,q4_,q2_]; omega
   have hl:=hp.l
   have er:rem (cvt .i64 y) (zF pl.length)=((y.toNat % pl.length:Nat):Int):=by
    obtain ⟨n,rfl⟩:=Int.eq_ofNat_of_zero_le hy.1
    rw [cvt64 (by omega) (by omega),q2_]
    unfold rem
    rw [kC (by omega),zQ]
    rfl
   have hlt:y.toNat % pl.length < pl.length:=Nat.mod_lt _ (by omega)
   obtain ⟨q,hq⟩:=get_of (xs:=pl) hlt
   have ep:q=planB pl y:=by
    unfold planB
    rw [zX,hq]
    rfl
   simp only [e0]
   rw [if_neg (by decide),if_neg (by decide),q9_ (by rw [qd_,q2_]; omega),q9_ (by rw [qd_,q2_]; omega),er,qf_ hq,zD,zD,amb2 (eqAs_refl _),amb2 (eqAs_refl _)]
   exact st q g' ep
 show q96_ q95_ k y (t,s,(),x,g,pl) w=_
 unfold q96_
 by_cases h2:k=2
 ·rw [if_pos (q4_.2 h2),if_pos h2]
  exact k4 y
 ·rw [if_neg (fun e=>h2 (q4_.1 e)),if_neg h2]
  exact k4 g
def beginP (alt:Bool) (t:TTk) (s:TSl) (x g:Int) (pl:List (List TBlk)) (w:TWay):Bool×TTk×TSl×Int×Int×List (List TBlk)×TWay×Unit :=
 match pickB alt t x with
 | none=>(true,t,s,x,g,pl,w,())
 | some (k,y)=>(decide ((startT t k y (planB pl y)).2.2=0),(startT t k y (planB pl y)).1,s,y,if k=2 then y else g,pl,outW w false (startT t k y (planB pl y)).2.1,())
theorem begin_law {t:TTk} {s:TSl} (ht:OkT t) (hs:OkS s) (alt:Bool) {x:Int} (hx:0≤x∧x≤1000000) (g:Int) {pl:List (List TBlk)} (hp:OkPl pl) (w:TWay) :
  q1a_ (alt,t,s,x,g,pl,w,())=some (beginP alt t s x g pl w):=by
 have ea:add .u32 x 1=x + 1:=wu32 (by omega) (by omega)
 have go:=fun k y hy=>begin_go ht hs (k:=k) (y:=y) hy hp x g w
 have K5:∀ b,q5p_ 1 (x + 1) b (t,s,(),x,g,pl) w=if b=true then some (true,t,s,x,g,pl,w,()) else q1t_ 1 (x + 1) (t,s,(),x,g,pl) w:=fun b=>by
  show q99_ q1t_ 1 (x + 1) b (t,s,(),x,g,pl) w=_
  unfold q99_
  rw [q1v_ hs]
 have K3:∀ b,q42_ 1 (x + 1) b (t,s,(),x,g,pl) w=if b=true then q1t_ 3 x (t,s,(),x,g,pl) w else if nei t.2.2.2.2.1 0=true then q5p_ 1 (x + 1) (eqi t.2.2.2.2.2.2.2.2 0) (t,s,(),x,g,pl) w else q5p_ 1 (x + 1) false (t,s,(),x,g,pl) w:=fun b=>rfl
 have K1:∀ b,q94_ alt 1 (x + 1) b (t,s,(),x,g,pl) w=if b=true then q1t_ 2 x (t,s,(),x,g,pl) w else if eqi t.2.2.2.2.1 1=true then (if alt=true then q42_ 1 (x + 1) true (t,s,(),x,g,pl) w else q42_ 1 (x + 1) (eqi t.2.2.2.2.2.2.2.2 2) (t,s,(),x,g,pl) w) else q42_ 1 (x + 1) false (t,s,(),x,g,pl) w:=fun b=>rfl
 show q93_ q94_ alt t s x g pl w=_
 unfold q93_ beginP pickB
 rw [ea]
 simp only [K1,K3,K5,go 1 (x + 1) (by omega),go 2 x (by omega),go 3 x (by omega)]
 generalize t.2.2.2.2.1=a
 generalize t.2.2.2.2.2.2.2.2=c
 have eq:∀ p q:Int,(eqi p q=true)=(p=q):=fun p q=>propext q4_
 have ne:∀ p q:Int,(nei p q=true)=(p ≠ q):=fun p q=>propext qd_
 cases alt <;> simp only [eq,ne,Bool.not_true,Bool.not_false,if_true,Bool.false_eq_true,if_false] <;> (by_cases h1:a=1 <;> by_cases h2:c=1 <;> by_cases h3:c=2 <;> by_cases h4:c=0 <;> by_cases h5:a=0 <;> simp_all <;> omega)
theorem mbapV_bytes {tx unit:Int} {pdu:List Int} (hu:0≤unit∧unit≤255) (hb:∀ y ∈ pdu,0≤y∧y≤255):∀ y ∈ mbapV tx unit pdu,0≤y∧y≤255:=by
 intro y hy
 unfold mbapV at hy
 rcases List.mem_append.1 hy with h | h
 ·simp at h
  rcases h with rfl | rfl | rfl | rfl | rfl <;> omega
 ·exact hb y h
theorem putV_bytes {b:List Int} (hb:∀ y ∈ b,0≤y∧y≤255):∀ y ∈ putV b,0≤y∧y≤255:=by
 have hs:=sumV_rng b
 intro y hy
 unfold putV at hy
 rcases List.mem_append.1 hy with h | h
 ·exact hb y h
 ·simp at h
  rcases h with rfl | rfl <;> omega
theorem con_bytes {u:Int} {b:List Int} (hu:0≤u∧u≤255) (hb:∀ y ∈ b,0≤y∧y≤255):∀ y ∈ u::b,0≤y∧y≤255:=by
 intro y hy
 rcases List.mem_cons.1 hy with h | h
 ·exact h ▸ hu
 ·exact hb y h
theorem replF_bytes {l u x:Int} {r:TR} (hr:RR r) (hu:0≤u∧u≤255):∀ y ∈ replF l u x r,0≤y∧y≤255:=by
 unfold replF
 split
 ·exact mbapV_bytes hu (repB_bytes hr)
 ·exact putV_bytes (con_bytes hu (repB_bytes hr))
theorem frameV_bytes {l u x:Int} {a:TA} (hr:RA a) (hu:0≤u∧u≤255):∀ y ∈ frameV l u x a,0≤y∧y≤255:=by
 unfold frameV
 split
 ·exact mbapV_bytes hu (askB_bytes hr)
 ·exact putV_bytes (con_bytes hu (askB_bytes hr))
theorem sendT_ok {t:TTk} {s:TSl} (h:OkX t s):OkT (sendT t).1:=by
 have hx:=nextV_rng t.1.2.1 h.kt.p.x0 h.kt.p.x1
 rw [sendT_go h]
 exact ⟨⟨h.kt.p.u0,h.kt.p.u1,h.kt.p.l,h.kt.p.t0,h.kt.p.t1,h.kt.p.r0,h.kt.p.r1,reqT_ok h.kt,hx.1,hx.2⟩,h.kt.o,h.kt.x,h.kt.bl,h.kt.bf,h.kt.at',h.kt.n,h.kt.tr⟩
theorem q1nw_ {t:TTk} {s:TSl} (h:OkX t s):OkM (sendT t).1 (false,(sendT t).2):=by
 have hl:=sendT_len h
 have h0:=h.kt.p.u0
 have h1:=h.kt.p.u1
 have hu:=h.u
 refine ⟨?_,by dsimp only; omega,fun e=>by cases e⟩
 rw [sendT_go h]
 exact frameV_bytes (q1q_ (q5b_ h.kt h.g.good)) (by omega)
theorem rep_okM {t:TTk} {s:TSl} (h:OkX t s):OkM (sendT t).1 (true,replF s.2.1 s.1 (nextV s.2.1 t.1.2.2.2.2.2.2.1) (servS s (reqT t)).2):=by
 have h0:=h.kt.p.u0
 have h1:=h.kt.p.u1
 have hu:=h.u
 have hx:=nextV_rng t.1.2.1 h.kt.p.x0 h.kt.p.x1
 have ha:=reqT_ok h.kt
 have hr:=q5b_ h.kt h.g.good
 have rp:=servS_rep h.ks ha hr
 have hl:=replF_len (l:=s.2.1) (u:=s.1) (x:=nextV s.2.1 t.1.2.2.2.2.2.2.1) rp.rr
 refine ⟨replF_bytes rp.rr (by omega),by dsimp only; omega,fun _ r e=>?_⟩
 have hp:OkP (sentP (waitP t.1 (reqT t))):=⟨h.kt.p.u0,h.kt.p.u1,h.kt.p.l,h.kt.p.t0,h.kt.p.t1,h.kt.p.r0,h.kt.p.r1,ha,hx.1,hx.2⟩
 have e1:=take_rep rp hp rfl (fits_serv h.ks ha hr)
 have e2:takeV (sentP (waitP t.1 (reqT t))) (replF t.1.2.1 t.1.1 (nextV t.1.2.1 t.1.2.2.2.2.2.2.1) (servS s (reqT t)).2)=some (servS s (reqT t)).2:=e1
 rw [sendT_go h,h.u,h.l] at e
 dsimp only at e
 rw [e2] at e
 cases e
 have:=rp.ok.lw
 exact ⟨rp.ok.w,by omega⟩
theorem run_ok:∀ {n m:Nat} {t:TTk} {s:TSl} {z:TTk×TSl},OkX t s->runX n t s=some z->2 * n≤m->RunOk m (sendT t).1 s [(false,(sendT t).2)]
 | 0,_,_,_,_,_,h,_=>by cases h
 | n + 1,m,t,s,z,hx,h,hm=>by
  obtain ⟨k,rfl⟩:∃ k,m=k + 2:=⟨m - 2,by omega⟩
  refine ⟨sendT_ok hx,q1nw_ hx,?_⟩
  rw [exch_one hx]
  refine ⟨sendT_ok hx,rep_okM hx,?_⟩
  rw [exch_two hx]
  unfold runX at h
  split at h
  ·rename_i h0
   rw [if_pos h0]
   cases k <;> trivial
  ·rename_i h0
   rw [if_neg h0]
   exact run_ok (hx.next h0) h (by omega)
theorem calm_go {n N:Nat} {t:TTk} {s:TSl} {z:TTk×TSl} (h:OkX t s) (hz:runX n t s=some z) (hn:2 * n≤N) (hN:N≤1000000) (x g:Int) (pl:List (List TBlk)) :
  q27_ ((N:Int),(sendT t).1,s,x,g,pl,[(false,(sendT t).2)],())=some (true,z.1,z.2,x,g,pl,[],()):=by
 rw [calm_law hN h.ks (run_ok h hz hn) (Nat.le_add_left _ _),calm_run h hz hn]
 rfl
theorem runX_end:∀ {n:Nat} {t:TTk} {s:TSl} {z:TTk×TSl},OkX t s->runX n t s=some z->OkT z.1∧OkS z.2∧z.1.2.2.2.2.2.1=0∧z.1.1.2.2.2.2.1=false∧z.2.1=z.1.1.1∧z.2.2.1=z.1.1.2.1
 | 0,_,_,_,_,h=>by cases h
 | n + 1,t,s,z,hx,h=>by
  unfold runX at h
  split at h
  ·rename_i h0
   cases h
   have e:(effX t s).1=stepP t.1:=effT_p _ _ _
   have l:=servS_line s (reqT t)
   refine ⟨hx.kt',hx.ks',h0,by dsimp only; rw [e]; rfl,?_,?_⟩
   ·dsimp only; rw [e]; exact l.1.trans hx.u
   ·dsimp only; rw [e]; exact l.2.trans hx.l
  ·rename_i h0
   exact runX_end (hx.next h0) h
theorem start_go {t:TTk} {s:TSl} (ht:OkT t) (hs:OkS s) (hu:s.1=t.1.1) (hl:s.2.1=t.1.2.1) {g y:Int} {l:List TBlk} (hg:1≤g∧g≤3) (hy:1≤y∧y≤4294967295) (hf:g=1->fitL l=true) (hw:∀ b ∈ l,∀ z ∈ b.2,0≤z∧z≤65535) :
  startT t g y l=((sendT (beginT t g y l)).1,(sendT (beginT t g y l)).2,0)∧OkX (beginT t g y l) s:=by
 constructor
 ·unfold startT
  rw [if_neg (by rintro (h | h); exact h hg; omega),if_neg (fun h=>by rw [hf h.1] at h; exact absurd h.2 (by decide))]
 ·refine ⟨beginT_ok ht (by omega) hf hw,hs,?_,rfl,hu,hl⟩
  have hc:g=1∨g=2∨g=3:=by omega
  have e:(beginT t g y l).2.2.2.2.2.1=firstT g:=rfl
  unfold goodX
  rw [e]
  rcases hc with rfl | rfl | rfl <;> exact ⟨by decide,fun h=>absurd h (by decide)⟩
def fitB (x:TBlk):TBlk:=(x.1 % 64,x.2.take (min (min x.2.length 14) (64 - x.1 % 64).toNat))
def fitF (l:List TBlk):List TBlk:=(l.take 4).map fitB
theorem fitB_fits (x:TBlk):fitsB (fitB x)=true:=by
 unfold fitsB fitB
 rw [decide_eq_true_eq]
 dsimp only
 rw [kB]
 omega
theorem lfit_eq {l:List TBlk}:q11k_ (l,4,())=some (fitF l,()):=by
 show qx9_ qhv_ l 4=_
 unfold qx9_ fitF
 have hc:cut l 0 (if lt 4 (zF l.length)=true then 4 else zF l.length)=some (l.take 4):=by
  by_cases h:4 < l.length
  ·rw [if_pos (by rw [q5_,q2_]; omega)]
   exact cut_to (j:=4) (by omega)
  ·rw [if_neg (by rw [q5_,q2_]; omega),q2_,cut_to (Nat.le_refl _),List.take_of_length_le (Nat.le_refl _),List.take_of_length_le (by omega)]
 rw [hc,zD]
 have h8:(l.take 4).length≤4:=by rw [kB]; omega
 generalize l.take 4=m at h8
 show qhv_ m (zF m.length) 0 ((m.take 0).map fitB)=_
 unfold qhv_
 refine loop_dt (N:=m.length) (mk:=fun i=>(m,zF m.length,(i:Int),(m.take i).map fitB)) ?_ ?_ m.length 0 _ (by omega) (by omega)
 ·intro self i hi
  show qhi_ (qn7_ _) _ m (zF m.length) (i:Int) ((m.take i).map fitB)=self (m,zF m.length,((i + 1:Nat):Int),(m.take (i + 1)).map fitB)
  obtain ⟨x,hx⟩:=get_of (xs:=m) (i:=i) hi
  have es:(m.take (i + 1)).map fitB=(m.take i).map fitB++[fitB x]:=by rw [List.take_add_one,hx,List.map_append]; rfl
  have hlen:((m.take i).map fitB).length≤4:=by rw [kA,kB]; omega
  rw [es]
  unfold qhi_
  rw [if_pos (by rw [q5_,q2_]; omega),qf_ hx,zD]
  have K2:qn7_ (fun t14 t15 t16 out=>self (t14,t15,t16,out)) (x.1 % 64) m (zF m.length) (i:Int) ((m.take i).map fitB) x=self (m,zF m.length,((i + 1:Nat):Int),(m.take i).map fitB++[fitB x]):=by
   show qx5_ _ (x.1 % 64) m (zF m.length) (i:Int) ((m.take i).map fitB) x=_
   unfold qx5_
   have e1:Sx.sub .i64 64 (x.1 % 64)=64 - x.1 % 64:=sub64 (by omega) (by omega)
   have hc2:cut x.2 0 (if lt (Sx.sub .i64 64 (x.1 % 64)) (if lt 14 (zF x.2.length)=true then 14 else zF x.2.length)=true then Sx.sub .i64 64 (x.1 % 64) else if lt 14 (zF x.2.length)=true then 14 else zF x.2.length)=some (fitB x).2:=by
    rw [e1]
    have e2:(if lt (64 - x.1 % 64) (if lt 14 (zF x.2.length)=true then 14 else zF x.2.length)=true then 64 - x.1 % 64 else if lt 14 (zF x.2.length)=true then 14 else zF x.2.length)=((min (min x.2.length 14) (64 - x.1 % 64).toNat:Nat):Int):=by
     simp only [lt_dec,q2_,decide_eq_true_eq]
     split <;> split <;> omega
    rw [e2,cut_to (by omega)]
    rfl
   rw [hc2,zD]
   have h14:(fitB x).2.length≤14:=by
    show (x.2.take _).length≤14
    rw [kB]
    omega
   rw [qe_ (by omega),qe_ (by show _ + 1≤_; omega),qv_ (by omega)]
   rfl
  have er:rem x.1 64=x.1 % 64∨(rem x.1 64 < 0∧rem x.1 64 + 64=x.1 % 64):=by
   unfold rem
   have:=Int.tmod_eq_emod (a:=x.1) (b:=64)
   rw [this]
   split <;> omega
  by_cases hneg:rem x.1 64 < 0
  ·rw [if_pos (q5_.2 hneg)]
   have h2:rem x.1 64 + 64=x.1 % 64:=by
    rcases er with e | e
    ·have:=Int.emod_nonneg x.1 (show (64:Int) ≠ 0 by decide); omega
    ·exact e.2
   rw [add64 (by omega) (by omega),h2]
   exact K2
  ·rw [if_neg (fun e=>hneg (q5_.1 e))]
   have h2:rem x.1 64=x.1 % 64:=by
    rcases er with e | e
    ·exact e
    ·exact absurd e.1 hneg
   rw [h2]
   exact K2
 ·intro self
  show qhi_ (qn7_ _) _ m (zF m.length) (m.length:Int) _=_
  unfold qhi_
  rw [if_neg (by rw [q5_,q2_]; omega),List.take_of_length_le (Nat.le_refl _)]
def begT (link timeout retries:Int):TTk:=((9,1 + link % 2,1 + timeout % 10,retries % 4,false,zA,0,0,0),7,0,[],0,0,0,0,0)
def begX (link:Int) (b:List Int):TSl:=(9,1 + link % 2,zAg (bank64 b) 40,zE 16 false)
def begPl (plan:List (List TBlk)):List (List TBlk):=(plan.take 6).map fitF
theorem begT_ok {link timeout retries:Int} (h1:0≤link) (h2:0≤timeout) (h3:0≤retries):OkT (begT link timeout retries) :=
 ⟨rangesV_ok (decide_eq_true ⟨⟨by omega,by omega⟩,by omega,⟨by omega,by omega⟩,by omega,by omega⟩),(by decide:(1:Int)≤7∧(7:Int)≤65535),(by decide:(0:Int)≤0∧(0:Int)≤4294967295),Nat.zero_le _,fun b hb=>(by cases hb),(by decide:(0:Int)≤0∧(0:Int)≤7),(by decide:(0:Int)≤0∧(0:Int)≤((0:Nat):Int)),(by decide:(0:Int)≤0),fun e=>absurd rfl e⟩
theorem begX_ok {link:Int} {b:List Int} (h:0≤link) (hb:∀ x ∈ b,0≤x∧x≤65535):OkS (begX link b):=by
 refine ⟨⟨(by decide:(1:Int)≤9),(by decide:(9:Int)≤247)⟩,?_,ok_free (bank64_len b) (bank64_rng hb) ⟨by decide,by decide⟩ ⟨by decide,by decide⟩,rfl⟩
 show 1 + link % 2=1∨1 + link % 2=2
 omega
theorem fitF_ok {l:List TBlk} (hw:∀ b ∈ l,∀ y ∈ b.2,0≤y∧y≤65535):(fitF l).length≤4∧∀ b ∈ fitF l,fitsB b=true∧b.2.length≤14∧∀ y ∈ b.2,0≤y∧y≤65535:=by
 refine ⟨by unfold fitF; rw [kA,kB]; omega,fun b hb=>?_⟩
 obtain ⟨x,hx,rfl⟩:=List.mem_map.1 hb
 refine ⟨fitB_fits x,?_,fun y hy=>hw x (List.mem_of_mem_take hx) y (List.mem_of_mem_take hy)⟩
 unfold fitB
 dsimp only
 rw [kB]
 omega
theorem begPl_ok {plan:List (List TBlk)} (hw:∀ l ∈ plan,∀ b ∈ l,∀ y ∈ b.2,0≤y∧y≤65535):OkPl (begPl plan):=by
 refine ⟨by unfold begPl; rw [kA,kB]; omega,fun q hq=>?_⟩
 obtain ⟨l,hl,rfl⟩:=List.mem_map.1 hq
 obtain ⟨h1,h2⟩:=fitF_ok (hw l (List.mem_of_mem_take hl))
 exact ⟨by omega,fun b hb=>⟨by have:=(h2 b hb).2.1; omega,(h2 b hb).2.2⟩⟩
theorem fitL_fits {l:List TBlk} (h:l.length≤8) (hf:∀ b ∈ l,fitsB b=true):fitL l=true:=by
 unfold fitL
 rw [decide_eq_true h,Bool.true_and,List.all_eq_true]
 exact hf
theorem tnew_eq {u l o t r:Int} (h:rangesV u l t r=true) (ho:o ≠ 0):qxi_ (u,l,o,t,r,())=some (((u,l,t,r,false,zA,0,0,0),o,0,[],0,0,0,0,0),0,()):=by
 show qtw_ q10i_ u l o t r=_
 unfold qtw_
 rw [new_eq,if_pos h,zD]
 dsimp only
 rw [if_neg (by decide),show eqi o 0=false from by rw [<- Bool.not_eq_true,q4_]; exact ho]
 rfl
theorem snew_eq {link:Int} (h:0≤link) (b:List Int):q106_ (9,1 + link % 2,bank64 b,40,())=some (begX link b,0,()):=by
 show qyv_ 9 (1 + link % 2) (bank64 b) 40=_
 unfold qyv_
 have e:qn1_ (9,1 + link % 2,())=some (true,()):=by
  show qgo_ 9 (1 + link % 2)=_
  unfold qgo_
  rw [if_pos (by decide),if_pos (by decide)]
  by_cases h1:1 + link % 2=1
  ·rw [if_pos (q4_.2 h1)]
  ·rw [if_neg (fun e=>h1 (q4_.1 e)),show eqi (1 + link % 2) 2=true from q4_.2 (by omega)]
 have hl:=bank64_len b
 rw [e,zD,if_neg (by decide),anew_eq (by omega),if_pos hl,if_pos (by decide),zD]
 rfl
theorem begun_eq {link timeout retries:Int} (h1:0≤link) (h2:0≤timeout) (h3:0≤retries) {bank:List Int} (hb:∀ x ∈ bank,0≤x∧x≤65535) (plan:List (List TBlk)) :
  qal_ (link,timeout,retries,bank,plan,())=some (begT link timeout retries,begX link bank,0,0,begPl plan,true,[],()):=by
 show qie_ q86_ link timeout retries bank plan=_
 unfold qie_
 have e1:add .u8 1 (rem link 2)=1 + link % 2:=by
  unfold rem
  rw [kC h1]
  exact wu8 (by omega) (by omega)
 have e2:add .i64 1 (cvt .i64 (rem timeout 10))=1 + timeout % 10:=by
  unfold rem
  rw [kC h2,cvt64 (by omega) (by omega),add64 (by omega) (by omega)]
 have e3:cvt .i64 (rem retries 4)=retries % 4:=by
  unfold rem
  rw [kC h3,cvt64 (by omega) (by omega)]
 have hc:cut plan 0 (if lt 6 (zF plan.length)=true then 6 else zF plan.length)=some (plan.take 6):=by
  by_cases h:6 < plan.length
  ·rw [if_pos (by rw [q5_,q2_]; omega)]
   exact cut_to (j:=6) (by omega)
  ·rw [if_neg (by rw [q5_,q2_]; omega),q2_,cut_to (Nat.le_refl _),List.take_of_length_le (Nat.le_refl _),List.take_of_length_le (by omega)]
 rw [e1,e2,e3,tnew_eq (decide_eq_true ⟨⟨by omega,by omega⟩,by omega,⟨by omega,by omega⟩,by omega,by omega⟩) (by decide),zD,lbank_eq,zD,snew_eq h1,zD,hc,zD]
 have h6:(plan.take 6).length≤6:=by rw [kB]; omega
 unfold begPl
 generalize plan.take 6=m at h6
 show q86_ 0 0 0 m (zF m.length) 0 _ (begT link timeout retries) [begX link bank] (begT link timeout retries,begX link bank,(),0,0,()) [] ((m.take 0).map fitF)=_
 unfold q86_
 refine loop_dt (N:=m.length) (mk:=fun i=>(0,0,0,m,zF m.length,(i:Int),_,begT link timeout retries,[begX link bank],(begT link timeout retries,begX link bank,(),0,0,()),[],(m.take i).map fitF)) ?_ ?_ m.length 0 _ (by omega) (by omega)
 ·intro self i hi
  show q80_ qi9_ _ 0 0 0 m (zF m.length) (i:Int) _ (begT link timeout retries) [begX link bank] (begT link timeout retries,begX link bank,(),0,0,()) [] ((m.take i).map fitF)=_
  obtain ⟨x,hx⟩:=get_of (xs:=m) (i:=i) hi
  have es:(m.take (i + 1)).map fitF=(m.take i).map fitF++[fitF x]:=by rw [List.take_add_one,hx,List.map_append]; rfl
  have hlen:((m.take i).map fitF).length≤6:=by rw [kA,kB]; omega
  rw [es]
  unfold q80_
  rw [if_pos (by rw [q5_,q2_]; omega),qf_ hx,zD,lfit_eq,zD,qe_ (by show _ + 1≤_; omega),qv_ (by omega)]
  rfl
 ·intro self
  show q80_ qi9_ _ 0 0 0 m (zF m.length) (m.length:Int) _ (begT link timeout retries) [begX link bank] (begT link timeout retries,begX link bank,(),0,0,()) [] ((m.take m.length).map fitF)=_
  unfold q80_
  rw [if_neg (by rw [q5_,q2_]; omega),List.take_of_length_le (Nat.le_refl _)]
  show qif_ 0 0 0 _ (begT link timeout retries) [begX link bank] (begT link timeout retries,begX link bank,(),0,0,()) [] (m.map fitF)=_
  unfold qif_
  rw [if_pos (by decide),if_pos (by decide),if_pos (show eqi (begT link timeout retries).2.1 7=true from rfl),q12_,zD]
  dsimp only
  rw [q1v_ (begX_ok h1 hb)]
  rfl
def opR (o:Int×Int):TA:=(16,272,8,0,(cmdA (o.1,o.2,5,0,sumB [])).2.2.2.2.1,[])
theorem opR_ok {o:Int×Int} (h1:0≤o.1∧o.1≤65535) (h2:0≤o.2∧o.2≤255):OkC (o.1,o.2,5,0,sumB [])∧OkA (opR o)∧qm_ (opR o)=true:=by
 have h3:0≤sumB []∧sumB []≤4294967295:=sumW_rng _
 have hc:OkC (o.1,o.2,5,0,sumB []):=⟨h1,h2,(by decide:(0:Int)≤5∧(5:Int)≤4294967295),(by decide:(0:Int)≤0∧(0:Int)≤65535),h3⟩
 refine ⟨hc,⟨(by decide:(0:Int)≤16),(by decide:(16:Int)≤255),(by decide:(0:Int)≤272),(by decide:(272:Int)≤65535),(by decide:(0:Int)≤8),(by decide:(8:Int)≤65535),(by decide:(0:Int)≤0),(by decide:(0:Int)≤65535),(cmdA_ok hc).1.w,(by decide:8≤100000),(by decide:0≤100000)⟩,rfl⟩
theorem does_law {o:Int×Int} (h1:0≤o.1∧o.1≤65535) (h2:0≤o.2∧o.2≤255) {t:TTk} {s:TSl} (hs:OkS s) (x g:Int) (pl:List (List TBlk)) (w:TWay) :
  qe5_ (o,t,s,x,g,pl,w,())=some (eqi (servS s (opR o)).2.2.1 0,t,(servS s (opR o)).1,x,g,pl,w,()):=by
 obtain ⟨hc,ha,hr⟩:=opR_ok h1 h2
 have e0:qmi_ ([],())=some (sumB [],()):=by kernel_rfl
 have k1:qd3_ (t,s,(),x,g,pl) w (o.1,o.2,5,0,sumB [])=some (eqi (servS s (opR o)).2.2.1 0,t,(servS s (opR o)).1,x,g,pl,w,()):=by
  show qdm_ (t,s,(),x,g,pl) w (o.1,o.2,5,0,sumB [])=_
  unfold qdm_
  rw [rwords_eq hc,zD]
  show (zC (q6m_ (opR o,())) _)=_
  rw [abytes_eq ha hr,zD]
  dsimp only
  rw [q1v_ hs,serve_ask hs ha hr,zD]
  dsimp only
  rw [rep_parse (servS_rep hs ha hr),zD,q1v_ (servS_ok hs ha hr)]
  rfl
 show qda_ qd3_ o t s x g pl w=_
 unfold qda_
 rw [amb2 (eqAs_refl _),e0,zD]
 exact k1
theorem serv_no {s:TSl} {c:TCm} (h:OkC c) (hA:(doS (ownA s.2.2.1) c).2 ≠ 0):servS s (cmdA c)=(s,(23,4,[],[],0,0)):=by
 obtain ⟨_,_,h3⟩:=cmdA_ok h
 have hw:wroteS s.2.2.1 (atW (cmdA c)) (cmdA c).2.2.2.2.1=(s.2.2.1,4):=by
  show wroteS s.2.2.1 272 (cmdA c).2.2.2.2.1=_
  unfold wroteS
  rw [if_pos rfl,cmdA_read h,if_neg (by simp),if_pos hA]
 have hn:¬ ((cmdA c).1=5∨(cmdA c).1=15):=by
  show ¬ ((23:Int)=5∨(23:Int)=15)
  decide
 have hl:¬ (cmdA c).2.2.2.2.1.length=0:=by
  show ¬ (8=0)
  decide
 unfold servS
 rw [if_neg (by rw [h3]; decide),if_neg hn,if_neg hl,hw,if_pos (by simp)]
 rfl
theorem serv_op {s:TSl} {o:Int×Int} (h1:0≤o.1∧o.1≤65535) (h2:0≤o.2∧o.2≤255) {A:TAg} (hA:doS (ownA s.2.2.1) (o.1,o.2,5,0,sumB [])=(A,0)):servS s (opR o)=(setA s A,(16,0,[],[],272,8)):=by
 have hc:=(opR_ok h1 h2).1
 have h3:chkS (opR o)=true:=by
  show decide ((272:Int)=272∧8=8∨(272:Int)=288∧8=20)=true
  decide
 have hw:wroteS s.2.2.1 (atW (opR o)) (opR o).2.2.2.2.1=(A,0):=by
  show wroteS s.2.2.1 272 (cmdA (o.1,o.2,5,0,sumB [])).2.2.2.2.1=_
  unfold wroteS
  rw [if_pos rfl,cmdA_read hc,hA,if_neg (by simp),if_neg (by simp)]
 unfold servS
 rw [if_neg (by rw [h3]; decide),if_neg (show ¬ ((opR o).1=5∨(opR o).1=15) from (by decide:¬ ((16:Int)=5∨(16:Int)=15))),if_neg (show ¬ (opR o).2.2.2.2.1.length=0 from (by decide:¬ (8=0))),hw,if_neg (by simp)]
 rfl
theorem others {a:TAg} (h1:a.2.1.1 ≠ 0) (h2:a.2.1.1 ≠ 7) {v t:Int} (n k:Int) (hv:1≤v∧v≤4) (ht:t ≠ 0):(doS (ownA a) (7,v,t,n,k)).2=22:=by
 unfold doS
 rw [if_neg (by rintro (h | h | h); exact absurd h (by decide:(7:Int) ≠ 0); exact ht h; exact h hv),if_pos ⟨h1,h2⟩]
def hvK (k:Nat):List Bool:=zE k true++zE (8 - k) false
def bsK (L:List TBlk) (k:Nat):List TBlk:=L.take k++zE (8 - k) zB
def agK (bank:List Int) (o tx tk la:Int) (L:List TBlk) (k:Nat):TAg:=(bank,(o,tk),1,tx,la,(tx,hvK k,bsK L k),tk)
theorem hvK_len {k:Nat} (h:k≤8):(hvK k).length=8:=by simp [hvK]; omega
theorem bsK_len {L:List TBlk} {k:Nat} (h:k≤8) (hL:k≤L.length):(bsK L k).length=8:=by simp [bsK]; omega
theorem hvK_set {k:Nat} (h:k < 8):(hvK k).set k true=hvK (k + 1):=by
 have:∀ k:Fin 8,(hvK k.1).set k.1 true=hvK (k.1 + 1):=by decide
 exact this ⟨k,h⟩
theorem bsK_set {L:List TBlk} {k:Nat} {x:TBlk} (h:k < 8) (hx:L[k]? = some x):(bsK L k).set k x=bsK L (k + 1):=by
 have hk:=(List.getElem?_eq_some_iff.1 hx).1
 unfold bsK
 have lp:(L.take k).length=k:=by rw [kB]; omega
 have er:zE (8 - k) zB=zB::zE (8 - (k + 1)) zB:=by
  rw [show 8 - k=(8 - (k + 1)) + 1 by omega]
  rfl
 have:=set_at (L.take k) zB x (zE (8 - (k + 1)) zB)
 rw [lp] at this
 rw [er,this,List.take_add_one,hx,List.append_assoc]
 rfl
theorem blkS_app:∀ {h1 h2:List Bool} {b1 b2:List TBlk},h1.length=b1.length->blkS (h1++h2) (b1++b2)=blkS h1 b1++blkS h2 b2:=by
 intro h1 h2 b1 b2 h
 unfold blkS
 rw [List.zip_append h,List.filter_append,List.map_append]
theorem blkS_true:∀ (l:List TBlk),blkS (zE l.length true) l=l
 | []=>rfl
 | x::r=>by
  have:=blkS_true r
  unfold blkS at this ⊢
  rw [List.length_cons,List.replicate_succ,List.zip_cons_cons,List.filter_cons,if_pos rfl,List.map_cons,this]
theorem blkS_false:∀ (n m:Nat),blkS (zE n false) (zE m zB)=[]
 | 0,_=>by simp [blkS]
 | n + 1,0=>by simp [blkS]
 | n + 1,m + 1=>by
  have:=blkS_false n m
  unfold blkS at this ⊢
  rw [List.replicate_succ,List.replicate_succ,List.zip_cons_cons,List.filter_cons,if_neg (by decide),this]
theorem blkS_K {L:List TBlk} {k:Nat} (hL:k≤L.length):blkS (hvK k) (bsK L k)=L.take k:=by
 have lp:(L.take k).length=k:=by rw [kB]; omega
 unfold hvK bsK
 rw [blkS_app (by rw [kD,lp]),blkS_false,List.append_nil]
 have:=blkS_true (L.take k)
 rw [lp] at this
 exact this
theorem nzB_app {h1 h2:List Bool} {b1 b2:List TBlk} (h:h1.length=b1.length):nzB (h1++h2) (b1++b2)=nzB h1 b1++nzB h2 b2:=by
 unfold nzB
 exact List.zipWith_append h
theorem nzB_true:∀ (l:List TBlk),nzB (zE l.length true) l=l
 | []=>rfl
 | x::r=>by
  have:=nzB_true r
  unfold nzB at this ⊢
  rw [List.length_cons,List.replicate_succ,List.zipWith_cons_cons,if_pos rfl,this]
theorem nzB_false:∀ (n:Nat),nzB (zE n false) (zE n zB)=zE n zB
 | 0=>rfl
 | n + 1=>by
  have:=nzB_false n
  unfold nzB at this ⊢
  rw [List.replicate_succ,List.replicate_succ,List.zipWith_cons_cons,if_neg (by decide),this]
theorem nzB_K {L:List TBlk} {k:Nat} (hL:k≤L.length):nzB (hvK k) (bsK L k)=bsK L k:=by
 have lp:(L.take k).length=k:=by rw [kB]; omega
 unfold hvK bsK
 rw [nzB_app (by rw [kD,lp]),nzB_false]
 have:=nzB_true (L.take k)
 rw [lp] at this
 rw [this]
theorem hvK_first {k:Nat} (h:k≤8):firstN (hvK k) (k:Int)=true:=by
 have:∀ k:Fin 9,firstN (hvK k.1) (k.1:Int)=true:=by decide
 exact this ⟨k,by omega⟩
section
variable {bank:List Int} {o tx tk la:Int} {L:List TBlk} (hb:bank.length=64) (hbr:∀ x ∈ bank,0≤x∧x≤65535) (ho:1≤o∧o≤65535) (ht:1≤tx∧tx≤4294967295) (hk:1≤tk∧tk≤9223372036854775807)
 (hL:L.length≤8) (hf:∀ x ∈ L,fitsB x=true) (hw:∀ x ∈ L,∀ w ∈ x.2,0≤w∧w≤65535) (hla:0≤la∧la < tx)
include hb hbr ho ht hk hL hf hw hla
theorem bsK_mem {k:Nat} {P:TBlk->Prop} (hz:P zB) (hp:∀ x ∈ L,P x):∀ x ∈ bsK L k,P x:=by
 intro x hx
 rcases List.mem_append.1 hx with e | e
 ·exact hp x (List.mem_of_mem_take e)
 ·rw [List.eq_of_mem_replicate e]; exact hz
theorem agK_ok {k:Nat} (h:k≤L.length):OkG (agK bank o tx tk la L k) where
 bl:=hb
 bw:=hbr
 lr:=Or.inr ⟨by show o ≠ 0; omega,Or.inl hk.1⟩
 l1:=⟨by show 0≤o; omega,ho.2⟩
 l2:=hk.2
 pr:=⟨by show (0:Int)≤1; decide,by show (1:Int)≤2; decide⟩
 tr:=⟨by show 0≤tx; omega,ht.2⟩
 ar:=⟨hla.1,by show la≤4294967295; omega⟩
 kr:=hk
 hl:=hvK_len (by omega)
 sl:=bsK_len (by omega) h
 bb:=bsK_mem hb hbr ho ht hk hL hf hw hla (P:=fun b=>b.2.length≤1000) (by show 0≤1000; omega) (fun x hx=>by have:=of_decide_eq_true (hf x hx); omega)
 wb:=bsK_mem hb hbr ho ht hk hL hf hw hla (P:=fun b=>∀ w ∈ b.2,0≤w∧w≤65535) (by intro w hw; cases hw) hw
 fb:=fun b hb=>by
  have:b ∈ blkS (hvK k) (bsK L k):=hb
  rw [blkS_K h] at this
  exact hf b (List.mem_of_mem_take this)
 p0:=fun e=>absurd e (show (1:Int) ≠ 0 by decide)
 pn:=fun _=>⟨by show o ≠ 0; omega,by show la < tx; omega,rfl⟩
 p1:=fun _=>hk.1
 p2:=fun e=>absurd e (show (1:Int) ≠ 2 by decide)
theorem agK_own {k:Nat} (h:k≤L.length):ownA (agK bank o tx tk la L k)=agK bank o tx tk la L k:=by
 unfold ownA agK
 dsimp only
 rw [nzB_K h]
theorem agK_put {k:Nat} {x:TBlk} (hx:L[k]? = some x):putA (ownA (agK bank o tx tk la L k)) o tx (k:Int) x=(agK bank o tx tk la L (k + 1),0):=by
 have hk':=(List.getElem?_eq_some_iff.1 hx).1
 rw [agK_own hb hbr ho ht hk hL hf hw hla (by omega)]
 unfold putA agK
 dsimp only
 rw [if_neg (by omega),if_neg (by omega),if_neg (by simp)]
 have et:takeL (o,tk) o tk=(o,tk):=by
  unfold takeL
  split <;> rfl
 have es:putS (tx,hvK k,bsK L k) (zI (k:Int)) x=(tx,hvK (k + 1),bsK L (k + 1)):=by
  unfold putS
  dsimp only
  rw [zQ,hvK_set (by omega),bsK_set (by omega) hx,nzB_K (by omega)]
 rw [et,es]
theorem free_claim (n c:Int):doS (ownA (bank,(0,0),0,0,la,zSt,tk)) (o,1,tx,n,c)=(agK bank o tx tk la L 0,0):=by
 show doS (bank,(0,0),0,0,la,(0,zSt.2.1,nzB zSt.2.1 zSt.2.2),tk) (o,1,tx,n,c)=_
 unfold doS
 dsimp only
 rw [if_neg (by omega),if_neg (by omega),if_pos rfl,if_neg (by omega),if_neg (by omega)]
 rfl
def agP (bank:List Int) (o tx tk la:Int) (L:List TBlk):TAg:=(bank,(o,-1),2,tx,la,(tx,hvK L.length,bsK L L.length),tk)
theorem agK_prep:doS (ownA (agK bank o tx tk la L L.length)) (o,2,tx,(L.length:Int),sumB L)=(agP bank o tx tk la L,0):=by
 rw [agK_own hb hbr ho ht hk hL hf hw hla (Nat.le_refl _)]
 unfold doS
 have hwh:wholeA (agK bank o tx tk la L L.length) (L.length:Int) (sumB L)=true:=by
  show (decide (0≤(L.length:Int)∧(L.length:Int)≤8) && (firstN (hvK L.length) (L.length:Int) && decide (sumB (blkS (hvK L.length) (bsK L L.length))=sumB L)))=true
  rw [blkS_K (Nat.le_refl _),List.take_length,hvK_first hL,decide_eq_true rfl,decide_eq_true (by omega)]
  rfl
 unfold agK at hwh ⊢
 dsimp only
 rw [if_neg (by omega),if_neg (by omega),if_neg (by decide),if_pos rfl,if_pos (Or.inr ⟨rfl,rfl,hwh⟩)]
 rfl
theorem agP_ok:OkG (agP bank o tx tk la L):=by
 have h0:=agK_ok hb hbr ho ht hk hL hf hw hla (Nat.le_refl L.length)
 have h1:=h0.own.doS (c:=(o,2,tx,(L.length:Int),sumB L)) ⟨by show 0≤o; omega,ho.2⟩ ⟨by show 0≤tx; omega,ht.2⟩ ⟨by show (0:Int)≤(L.length:Int); omega,by show (L.length:Int)≤65535; omega⟩
 rw [agK_prep hb hbr ho ht hk hL hf hw hla] at h1
 exact h1
theorem agP_commit (n c:Int):doS (ownA (agP bank o tx tk la L)) (o,3,tx,n,c)=(freeA (overB bank L,(o,-1),2,tx,tx,(tx,hvK L.length,bsK L L.length),tk),0):=by
 have e:ownA (agP bank o tx tk la L)=agP bank o tx tk la L:=by
  unfold ownA agP
  dsimp only
  rw [nzB_K (Nat.le_refl _)]
 rw [e]
 unfold doS agP
 dsimp only
 rw [if_neg (by omega),if_neg (by omega),if_neg (by decide),if_neg (by decide),if_pos rfl,if_neg (by omega),if_pos ⟨rfl,rfl⟩,blkS_K (Nat.le_refl _),List.take_length]
end
theorem stat_read (f:Int) (A:TAg):readR (f,0,[],statA A,0,0)=some (A.2.1.1,A.2.2.1,A.2.2.2.1,A.2.2.2.2.1):=by
 have e:readR (f,0,[],statA A,0,0)=some (A.2.1.1,A.2.2.1,65536 * (A.2.2.2.1 / 65536) + A.2.2.2.1 % 65536,65536 * (A.2.2.2.2.1 / 65536) + A.2.2.2.2.1 % 65536):=rfl
 have h:∀ x:Int,65536 * (x / 65536) + x % 65536=x:=fun x=>by omega
 rw [e,h,h]
section
variable {bank:List Int} {tx tk la:Int} {L:List TBlk} (hb:bank.length=64) (hbr:∀ x ∈ bank,0≤x∧x≤65535) (ht:1≤tx∧tx≤4294967295) (hk:1≤tk∧tk≤9223372036854775807)
 (hL:L.length≤8) (hf:∀ x ∈ L,fitsB x=true) (hw:∀ x ∈ L,∀ w ∈ x.2,0≤w∧w≤65535) (hla:0≤la∧la < tx)
include hb hbr ht hk hL hf hw hla
theorem run_claim {t:TTk} {s:TSl} (h:OkX t s) (h2:t.2=(7,tx,L,1,1,0,0,0)) (hs:s.2.2.1=(bank,(0,0),0,0,la,zSt,tk)):effX t s=nextT (numT (stepP t.1,t.2) 0)∧slX t s=setA s (agK bank 7 tx tk la L 0):=by
 obtain ⟨p,c⟩:=t
 dsimp only at h2
 subst h2
 have e:reqT (p,(7,tx,L,1,1,0,0,0))=cmdA (7,1,tx,0,0):=rfl
 have hc:OkC (7,1,tx,0,0):=cmdT_ok (v:=1) h.kt (by decide)
 have es:=serv_cmd h.ks hc (A:=agK bank 7 tx tk la L 0) (by rw [hs]; exact free_claim hb hbr (by decide:(1:Int)≤7∧(7:Int)≤65535) ht hk hL hf hw hla 0 0) (agK_ok hb hbr (by decide:(1:Int)≤7∧(7:Int)≤65535) ht hk hL hf hw hla (Nat.zero_le _))
 constructor
 ·unfold effX
  rw [e,es,eff1 rfl,stat_read]
  dsimp only
  rw [if_neg,if_pos]
  ·exact ⟨decide_eq_true ⟨rfl,rfl⟩,rfl⟩
  ·rintro ⟨_,h⟩
   exact absurd h (show ¬ (1:Int)=2 by decide)
 ·unfold slX
  rw [e,es]
theorem run_write {p:TP} {s:TSl} {k:Nat} {x:TBlk} (h:OkX (p,(7,tx,L,1,2,(k:Int),0,0)) s) (hx:L[k]? = some x) (hs:s.2.2.1=agK bank 7 tx tk la L k):effX (p,(7,tx,L,1,2,(k:Int),0,0)) s=(stepP p,(7,tx,L,1,3,(k:Int),0,0))∧slX (p,(7,tx,L,1,2,(k:Int),0,0)) s=setA s (agK bank 7 tx tk la L (k + 1)):=by
 have hk':=(List.getElem?_eq_some_iff.1 hx).1
 have hm:=zY hx
 have eb:blkT (p,(7,tx,L,1,2,(k:Int),0,0))=tagB 7 tx (k:Int) x:=by
  unfold blkT
  dsimp only
  rw [zQ,hx]
 have e:reqT (p,(7,tx,L,1,2,(k:Int),0,0))=blkA (tagB 7 tx (k:Int) x):=by
  rw [<- eb]
  show (if hasT (p,(7,tx,L,1,2,(k:Int),0,0))=true then blkA _ else zA)=_
  exact if_pos (decide_eq_true (show (k:Int) < (L.length:Int) by omega))
 have es:=serv_blk h.ks (hf x hm) (o:=7) (tx:=tx) (n:=(k:Int)) (by omega) (tagB_rng (by decide) (by omega) (by omega) (hw x hm)) (A:=agK bank 7 tx tk la L (k + 1)) (by rw [hs]; exact agK_put hb hbr (by decide:(1:Int)≤7∧(7:Int)≤65535) ht hk hL hf hw hla hx)
 constructor
 ·unfold effX
  rw [e,es,eff2 rfl]
  exact if_neg (show ¬ (0:Int) ≠ 0 by decide)
 ·unfold slX
  rw [e,es]
theorem run_back {p:TP} {s:TSl} {k:Nat} {x:TBlk} (h:OkX (p,(7,tx,L,1,3,(k:Int),0,0)) s) (hx:L[k]? = some x) (hs:s.2.2.1=agK bank 7 tx tk la L (k + 1)):effX (p,(7,tx,L,1,3,(k:Int),0,0)) s=nextT (stepP p,(7,tx,L,1,3,(k:Int) + 1,0,0))∧slX (p,(7,tx,L,1,3,(k:Int),0,0)) s=s:=by
 have hk':=(List.getElem?_eq_some_iff.1 hx).1
 have eb:blkT (stepP p,(7,tx,L,1,3,(k:Int),0,0))=tagB 7 tx (k:Int) x:=by
  unfold blkT
  dsimp only
  rw [zQ,hx]
 have e:reqT (p,(7,tx,L,1,3,(k:Int),0,0))=rdQ (512 + (k:Int) * 32) 20:=by
  show rdQ (512 + 32 * (k:Int)) 20=_
  rw [Int.mul_comm]
 have hbk:backS s.2.2.1.2.2.2.2.2.1 s.2.2.1.2.1.1 (k:Int)=tagB 7 tx (k:Int) x:=by
  rw [hs]
  unfold backS agK
  dsimp only
  rw [zQ]
  have e1:(hvK (k + 1))[k]? = some true:=by
   unfold hvK
   rw [List.getElem?_append_left (by rw [kD]; omega),List.getElem?_replicate,if_pos (by omega)]
  have e2:(bsK L (k + 1))[k]? = some x:=by
   unfold bsK
   rw [List.getElem?_append_left (by rw [kB]; omega),List.getElem?_take,if_pos (by omega),hx]
  rw [e1,e2]
 have es:servS s (rdQ (512 + (k:Int) * 32) 20)=(s,(3,0,[],tagB 7 tx (k:Int) x,0,0)):=by
  rw [serv_rd s (rdH_back (by omega)),<- hbk,<- hold_back h.ks.a (by omega:k < 8)]
  have:(512 + (k:Int) * 32).toNat=512 + k * 32:=by omega
  rw [this]
  rfl
 constructor
 ·unfold effX
  rw [e,es,eff3 rfl]
  exact if_pos ⟨decide_eq_true (show (k:Int) < (L.length:Int) by omega),rfl,eb.symm⟩
 ·unfold slX
  rw [e,es]
theorem run_prep {p:TP} {s:TSl} (h:OkX (p,(7,tx,L,1,4,(L.length:Int),0,0)) s) (hs:s.2.2.1=agK bank 7 tx tk la L L.length):effX (p,(7,tx,L,1,4,(L.length:Int),0,0)) s=(stepP p,(7,tx,L,1,0,(L.length:Int),0,1))∧slX (p,(7,tx,L,1,4,(L.length:Int),0,0)) s=setA s (agP bank 7 tx tk la L):=by
 have e:reqT (p,(7,tx,L,1,4,(L.length:Int),0,0))=cmdA (7,2,tx,(L.length:Int),sumB L):=rfl
 have hc:OkC (7,2,tx,(L.length:Int),sumB L):=cmdT_ok (v:=2) h.kt (by decide)
 have es:=serv_cmd h.ks hc (A:=agP bank 7 tx tk la L) (by rw [hs]; exact agK_prep hb hbr (by decide:(1:Int)≤7∧(7:Int)≤65535) ht hk hL hf hw hla) (agP_ok hb hbr (by decide:(1:Int)≤7∧(7:Int)≤65535) ht hk hL hf hw hla)
 constructor
 ·unfold effX
  rw [e,es,eff4 rfl,stat_read]
  dsimp only
  rw [if_pos ⟨decide_eq_true ⟨rfl,rfl⟩,rfl⟩]
  rfl
 ·unfold slX
  rw [e,es]
end
def preT (tx:Int) (L:List TBlk) (k:Nat):Int×Int×List TBlk×Int×Int×Int×Int×Int:=(7,tx,L,1,if k < L.length then 2 else 4,(k:Int),0,0)
theorem nextT_pre (p:TP) (tx:Int) (L:List TBlk) (a:Int) (k:Nat):nextT (p,(7,tx,L,1,a,(k:Int),0,0))=(p,preT tx L k):=by
 unfold nextT preT
 dsimp only
 by_cases h:k < L.length
 ·rw [if_neg (by omega),if_pos h]
  rfl
 ·rw [if_pos (by omega),if_neg h]
  rfl
section
variable {bank:List Int} {tx tk la:Int} {L:List TBlk} (hb:bank.length=64) (hbr:∀ x ∈ bank,0≤x∧x≤65535) (ht:1≤tx∧tx≤4294967295) (hk:1≤tk∧tk≤9223372036854775807)
 (hL:L.length≤8) (hf:∀ x ∈ L,fitsB x=true) (hw:∀ x ∈ L,∀ w ∈ x.2,0≤w∧w≤65535) (hla:0≤la∧la < tx)
include hb hbr ht hk hL hf hw hla
theorem run_blocks:∀ (j k:Nat) (p:TP) (s:TSl),k + j=L.length->OkX (p,preT tx L k) s->s.2.2.1=agK bank 7 tx tk la L k->∃ p',runX (2 * j + 1) (p,preT tx L k) s=some ((p',(7,tx,L,1,0,(L.length:Int),0,1)),setA s (agP bank 7 tx tk la L))
 | 0,k,p,s,hj,hx,hs=>by
  have e:k=L.length:=by omega
  subst e
  have ep:preT tx L L.length=(7,tx,L,1,4,(L.length:Int),0,0):=by
   unfold preT
   rw [if_neg (by omega)]
  rw [ep] at hx ⊢
  obtain ⟨e1,e2⟩:=run_prep hb hbr ht hk hL hf hw hla hx hs
  refine ⟨stepP p,?_⟩
  show (if (effX _ s).2.2.2.2.2.1=0 then some (effX _ s,slX _ s) else _)=_
  rw [e1,e2]
  exact if_pos rfl
 | j + 1,k,p,s,hj,hx,hs=>by
  have ep:preT tx L k=(7,tx,L,1,2,(k:Int),0,0):=by
   unfold preT
   rw [if_pos (by omega)]
  obtain ⟨x,hxk⟩:=get_of (xs:=L) (i:=k) (by omega)
  rw [ep] at hx ⊢
  obtain ⟨e1,e2⟩:=run_write hb hbr ht hk hL hf hw hla hx hxk hs
  have h1:=hx.next (by rw [e1]; show (3:Int) ≠ 0; decide)
  rw [e1,e2] at h1
  obtain ⟨e3,e4⟩:=run_back hb hbr ht hk hL hf hw hla h1 hxk rfl
  have ec:(k:Int) + 1=((k + 1:Nat):Int):=by omega
  rw [ec,nextT_pre] at e3
  have n0:(preT tx L (k + 1)).2.2.2.2.1 ≠ 0:=by
   unfold preT
   dsimp only
   split <;> decide
  have h2:=h1.next (by rw [e3]; exact n0)
  rw [e3,e4] at h2
  obtain ⟨p',ih⟩:=run_blocks j (k + 1) _ _ (by omega) h2 rfl
  refine ⟨p',?_⟩
  have er:2 * (j + 1) + 1=(2 * j + 1) + 1 + 1:=by omega
  rw [er]
  show (if (effX _ s).2.2.2.2.2.1=0 then _ else runX ((2 * j + 1) + 1) (effX _ s) (slX _ s))=_
  rw [e1,e2,if_neg (show ¬ (3:Int)=0 by decide)]
  show (if (effX _ _).2.2.2.2.2.1=0 then _ else runX (2 * j + 1) (effX _ _) (slX _ _))=_
  rw [e3,e4,if_neg n0]
  exact ih
theorem run_prepare {p:TP} {s:TSl} (h:OkX (p,(7,tx,L,1,1,0,0,0)) s) (hs:s.2.2.1=(bank,(0,0),0,0,la,zSt,tk)) :
  ∃ p',runX (2 * L.length + 2) (p,(7,tx,L,1,1,0,0,0)) s=some ((p',(7,tx,L,1,0,(L.length:Int),0,1)),setA s (agP bank 7 tx tk la L)):=by
 obtain ⟨e1,e2⟩:=run_claim hb hbr ht hk hL hf hw hla h rfl hs
 have e1:effX (p,(7,tx,L,1,1,0,0,0)) s=(stepP p,preT tx L 0):=e1.trans (nextT_pre _ tx L 1 0)
 have n0:(preT tx L 0).2.2.2.2.1 ≠ 0:=by
  unfold preT
  dsimp only
  split <;> decide
 have h1:=h.next (by rw [e1]; exact n0)
 rw [e1,e2] at h1
 obtain ⟨p',ih⟩:=run_blocks hb hbr ht hk hL hf hw hla L.length 0 _ _ (by omega) h1 rfl
 refine ⟨p',?_⟩
 show (if (effX _ s).2.2.2.2.2.1=0 then _ else runX (2 * L.length + 1) (effX _ s) (slX _ s))=_
 rw [e1,e2,if_neg n0]
 exact ih
end
section
variable {bank:List Int} {tx tk la:Int} {L:List TBlk} (hb:bank.length=64) (hbr:∀ x ∈ bank,0≤x∧x≤65535) (ht:1≤tx∧tx≤4294967295) (hk:1≤tk∧tk≤9223372036854775807)
 (hL:L.length≤8) (hf:∀ x ∈ L,fitsB x=true) (hw:∀ x ∈ L,∀ w ∈ x.2,0≤w∧w≤65535) (hla:0≤la∧la < tx)
include hb hbr ht hk hL hf hw hla
def doneA (bank:List Int) (tx tk:Int) (L:List TBlk):TAg:=(overB bank L,(0,0),0,0,tx,zSt,tk)
theorem commit_do:doS (ownA (agP bank 7 tx tk la L)) (7,3,tx,0,0)=(doneA bank tx tk L,0) :=
 agP_commit hb hbr (by decide:(1:Int)≤7∧(7:Int)≤65535) ht hk hL hf hw hla 0 0
theorem done_ok:OkG (doneA bank tx tk L):=by
 have h:=(agP_ok hb hbr (by decide:(1:Int)≤7∧(7:Int)≤65535) ht hk hL hf hw hla).own.doS (c:=(7,3,tx,0,0)) (by show (0:Int)≤7∧(7:Int)≤65535; decide) (by show 0≤tx∧tx≤4294967295; omega) (by show (0:Int)≤0∧(0:Int)≤65535; decide)
 rw [commit_do hb hbr ht hk hL hf hw hla] at h
 exact h
theorem run_commit {p:TP} {s:TSl} {n:Int} (h:OkX (p,(7,tx,[],2,5,n,0,0)) s) (hs:s.2.2.1=agP bank 7 tx tk la L):runX 1 (p,(7,tx,[],2,5,n,0,0)) s=some ((stepP p,(7,tx,[],2,0,n,0,1)),setA s (doneA bank tx tk L)):=by
 have e:reqT (p,(7,tx,[],2,5,n,0,0))=cmdA (7,3,tx,0,0):=rfl
 have hc:OkC (7,3,tx,0,0):=cmdT_ok (v:=3) h.kt (by decide)
 have es:=serv_cmd h.ks hc (A:=doneA bank tx tk L) (by rw [hs]; exact commit_do hb hbr ht hk hL hf hw hla) (done_ok hb hbr ht hk hL hf hw hla)
 have ex:effX (p,(7,tx,[],2,5,n,0,0)) s=(stepP p,(7,tx,[],2,0,n,0,1)):=by
  unfold effX
  rw [e,es,eff5 rfl,stat_read]
  exact if_pos (show tx≤tx by omega)
 show (if (effX _ s).2.2.2.2.2.1=0 then some (effX _ s,slX _ s) else _)=_
 rw [ex]
 unfold slX
 rw [e,es]
 exact if_pos rfl
def leftA (bank:List Int) (la tk:Int):TAg:=(bank,(0,0),0,0,la,zSt,tk)
theorem abort_do:doS (ownA (agP bank 7 tx tk la L)) (7,4,tx,0,0)=(leftA bank la tk,0):=by
 have e:ownA (agP bank 7 tx tk la L)=agP bank 7 tx tk la L:=by
  unfold ownA agP
  dsimp only
  rw [nzB_K (Nat.le_refl _)]
 rw [e]
 unfold doS agP
 dsimp only
 rw [if_neg (by omega),if_neg (by omega),if_neg (by decide),if_neg (by decide),if_neg (by decide),if_neg (by omega),if_pos ⟨rfl,rfl⟩]
 rfl
theorem left_ok:OkG (leftA bank la tk):=ok_free hb hbr ⟨hla.1,by omega⟩ hk
theorem run_gone {p:TP} {s:TSl} {n:Int} (h:OkX (p,(7,tx,[],3,6,n,0,0)) s) (hs:s.2.2.1=agP bank 7 tx tk la L):runX 1 (p,(7,tx,[],3,6,n,0,0)) s=some ((stepP p,(7,tx,[],3,0,n,0,1)),setA s (leftA bank la tk)):=by
 have e:reqT (p,(7,tx,[],3,6,n,0,0))=cmdA (7,4,tx,0,0):=rfl
 have hc:OkC (7,4,tx,0,0):=cmdT_ok (v:=4) h.kt (by decide)
 have es:=serv_cmd h.ks hc (A:=leftA bank la tk) (by rw [hs]; exact abort_do hb hbr ht hk hL hf hw hla) (left_ok hb hbr ht hk hL hf hw hla)
 have ex:effX (p,(7,tx,[],3,6,n,0,0)) s=(stepP p,(7,tx,[],3,0,n,0,1)):=by
  unfold effX
  rw [e,es,eff6 rfl,stat_read]
  refine if_neg (fun h=>?_)
  have:=(of_decide_eq_true h).1
  exact absurd this (show ¬ (0:Int)=7 by decide)
 show (if (effX _ s).2.2.2.2.2.1=0 then some (effX _ s,slX _ s) else _)=_
 rw [ex]
 unfold slX
 rw [e,es]
 exact if_pos rfl
end
def OkW (p:TP):Prop:=p.2.2.2.2.1=true->qm_ p.2.2.2.2.2.1=true∧1≤p.2.2.2.2.2.2.2.1∧p.2.2.2.2.2.2.2.1≤100000∧0≤p.2.2.2.2.2.2.2.2∧p.2.2.2.2.2.2.2.2≤1000
theorem tickV_ok {p:TP} (h:OkP p):OkP (tickV p).1:=by
 unfold tickV
 split
 ·split
  ·split
   ·have hx:=nextV_rng p.2.1 h.x0 h.x1
    exact ⟨h.u0,h.u1,h.l,h.t0,h.t1,h.r0,h.r1,h.a,hx.1,hx.2⟩
   ·exact ⟨h.u0,h.u1,h.l,h.t0,h.t1,h.r0,h.r1,zA_ok,h.x0,h.x1⟩
  ·exact ⟨h.u0,h.u1,h.l,h.t0,h.t1,h.r0,h.r1,h.a,h.x0,h.x1⟩
 ·exact h
theorem OkT.poll {t:TTk} (h:OkT t) {p:TP} (hp:OkP p):OkT (p,t.2):=⟨hp,h.o,h.x,h.bl,h.bf,h.at',h.n,h.tr⟩
theorem ttick_eq {t:TTk} (h:OkT t) (hw:OkW t.1):qmn_ (t,())=some ((ttickT t).1,(ttickT t).2,()):=by
 have ok:=h.poll (tickV_ok h.p)
 show qxe_ t=_
 unfold qxe_ ttickT
 rw [town_eq h.sz,zD,tick_eq h.p hw,zD]
 dsimp only
 cases hb:(tickV t.1).2.2 with
 | false=>rfl
 | true =>
  have e0:¬ (true=false):=by decide
  rw [if_neg (show ¬ (!true)=true by decide)]
  simp only [if_neg e0]
  by_cases e:t.2.2.2.2.1=1
  ·rw [if_pos (q4_.2 e),if_pos e]
   rfl
  ·rw [if_neg (fun h=>e (q4_.1 h)),if_neg e,tsend_eq ok]
   rfl
def lessT (t:TTk) (n:Int):TTk:=((t.1.1,t.1.2.1,t.1.2.2.1,t.1.2.2.2.1,t.1.2.2.2.2.1,t.1.2.2.2.2.2.1,t.1.2.2.2.2.2.2.1,t.1.2.2.2.2.2.2.2.1,n),t.2)
theorem ttake_less {t:TTk} {n:Int} {f:List Int} {r:TR} (h:takeV t.1 f=some r):ttakeT (lessT t n) f=ttakeT t f:=by
 have e:takeV (lessT t n).1 f=some r:=h
 unfold ttakeT
 rw [e,h]
 rfl
theorem take_sent {t:TTk} {s:TSl} (h:OkX t s):takeV (sendT t).1.1 (replF s.2.1 s.1 (nextV s.2.1 t.1.2.2.2.2.2.2.1) (servS s (reqT t)).2)=some (servS s (reqT t)).2:=by
 have hx:=nextV_rng t.1.2.1 h.kt.p.x0 h.kt.p.x1
 have ha:=reqT_ok h.kt
 have hr:=q5b_ h.kt h.g.good
 have hp:OkP (sentP (waitP t.1 (reqT t))):=⟨h.kt.p.u0,h.kt.p.u1,h.kt.p.l,h.kt.p.t0,h.kt.p.t1,h.kt.p.r0,h.kt.p.r1,ha,hx.1,hx.2⟩
 have e:=take_rep (servS_rep h.ks ha hr) hp rfl (fits_serv h.ks ha hr)
 rw [sendT_go h,h.u,h.l]
 exact e
theorem less_ok {t:TTk} (h:OkT t) (n:Int):OkT (lessT t n) :=
 ⟨⟨h.p.u0,h.p.u1,h.p.l,h.p.t0,h.p.t1,h.p.r0,h.p.r1,h.p.a,h.p.x0,h.p.x1⟩,h.o,h.x,h.bl,h.bf,h.at',h.n,h.tr⟩
theorem come_ask_less {t:TTk} {s:TSl} (h:OkX t s) (k:Int):comeP (false,(sendT t).2) (lessT (sendT t).1 k) s []=(lessT (sendT t).1 k,slX t s,[(true,replF s.2.1 s.1 (nextV s.2.1 t.1.2.2.2.2.2.2.1) (servS s (reqT t)).2)]):=by
 have e:=exch_one h
 have e0:∀ t',comeP (false,(sendT t).2) t' s []=(t',(takeS s (sendT t).2).1,outW [] true (takeS s (sendT t).2).2):=fun t'=>rfl
 rw [e0] at e ⊢
 exact Prod.ext rfl (congrArg (·.2) e)
theorem come_rep_less {t:TTk} {s:TSl} (h:OkX t s) (k:Int) (w:TWay):comeP (true,replF s.2.1 s.1 (nextV s.2.1 t.1.2.2.2.2.2.2.1) (servS s (reqT t)).2) (lessT (sendT t).1 k) (slX t s) w=comeP (true,replF s.2.1 s.1 (nextV s.2.1 t.1.2.2.2.2.2.2.1) (servS s (reqT t)).2) (sendT t).1 (slX t s) w:=by
 unfold comeP
 rw [if_pos rfl,if_pos rfl]
 dsimp only
 rw [ttake_less (take_sent h)]
theorem calm_less {n m:Nat} {t:TTk} {s:TSl} {z:TTk×TSl} (h:OkX t s) (hz:runX n t s=some z) (hm:2 * n≤m) (k:Int) :
  calmP m (lessT (sendT t).1 k) s [(false,(sendT t).2)]=(z.1,z.2,[])∧RunOk m (lessT (sendT t).1 k) s [(false,(sendT t).2)]:=by
 cases n with
 | zero=>cases hz
 | succ n =>
  obtain ⟨j,rfl⟩:∃ j,m=j + 2:=⟨m - 2,by omega⟩
  have e1:=calm_run h hz hm
  have e2:=run_ok h hz hm
  have st:calmP (j + 2) (sendT t).1 s [(false,(sendT t).2)]=calmP (j + 1) (comeP (false,(sendT t).2) (sendT t).1 s []).1 (comeP (false,(sendT t).2) (sendT t).1 s []).2.1 (comeP (false,(sendT t).2) (sendT t).1 s []).2.2:=rfl
  have st':calmP (j + 2) (lessT (sendT t).1 k) s [(false,(sendT t).2)]=calmP (j + 1) (comeP (false,(sendT t).2) (lessT (sendT t).1 k) s []).1 (comeP (false,(sendT t).2) (lessT (sendT t).1 k) s []).2.1 (comeP (false,(sendT t).2) (lessT (sendT t).1 k) s []).2.2:=rfl
  obtain ⟨a1,a2,a3⟩:=e2
  rw [st,exch_one h] at e1
  rw [exch_one h] at a3
  have ok:=sendT_ok h
  refine ⟨?_,less_ok ok k,⟨a2.b,a2.l,fun e=>by cases e⟩,?_⟩
  ·rw [st',come_ask_less h]
   have e3:∀ t',calmP (j + 1) t' (slX t s) [(true,replF s.2.1 s.1 (nextV s.2.1 t.1.2.2.2.2.2.2.1) (servS s (reqT t)).2)]=calmP j (comeP (true,replF s.2.1 s.1 (nextV s.2.1 t.1.2.2.2.2.2.2.1) (servS s (reqT t)).2) t' (slX t s) []).1 (comeP (true,replF s.2.1 s.1 (nextV s.2.1 t.1.2.2.2.2.2.2.1) (servS s (reqT t)).2) t' (slX t s) []).2.1 (comeP (true,replF s.2.1 s.1 (nextV s.2.1 t.1.2.2.2.2.2.2.1) (servS s (reqT t)).2) t' (slX t s) []).2.2:=fun t'=>rfl
   dsimp only at e1 ⊢
   rw [e3,come_rep_less h]
   exact e1
  ·rw [come_ask_less h]
   obtain ⟨b1,b2,b3⟩:=a3
   refine ⟨less_ok ok k,⟨b2.b,b2.l,fun e r hr=>b2.r e r hr⟩,?_⟩
   rw [come_rep_less h]
   exact b3
theorem calm_go_less {n N:Nat} {t:TTk} {s:TSl} {z:TTk×TSl} (h:OkX t s) (hz:runX n t s=some z) (hn:2 * n≤N) (hN:N≤1000000) (k x g:Int) (pl:List (List TBlk)) :
  q27_ ((N:Int),lessT (sendT t).1 k,s,x,g,pl,[(false,(sendT t).2)],())=some (true,z.1,z.2,x,g,pl,[],()):=by
 obtain ⟨e1,e2⟩:=calm_less h hz hn k
 rw [calm_law hN h.ks e2 (Nat.le_add_left _ _),e1]
 rfl
theorem awake_eq:qeg_ ()=some (true,()):=by kernel_rfl
abbrev TPr:=TTk×TSl×Unit×Int×Int×List (List TBlk)
theorem begin_one {alt:Bool} {t:TTk} {s:TSl} {x g k y:Int} {pl:List (List TBlk)} (ht:OkT t) (hs:OkS s) (hu:s.1=t.1.1) (hl:s.2.1=t.1.2.1) (hx:0≤x∧x≤1000000) (hp:OkPl pl)
  (hk:pickB alt t x=some (k,y)) (hk3:1≤k∧k≤3) (hy:1≤y∧y≤4294967295) (hf:k=1->fitL (planB pl y)=true) :
  q1a_ (alt,t,s,x,g,pl,[],())=some (true,(sendT (beginT t k y (planB pl y))).1,s,y,if k=2 then y else g,pl,[(false,(sendT (beginT t k y (planB pl y))).2)],())∧OkX (beginT t k y (planB pl y)) s:=by
 obtain ⟨e1,ox⟩:=start_go (g:=k) (y:=y) (l:=planB pl y) ht hs hu hl hk3 hy hf (fun b hb=>((planB_ok hp y).2 b hb).2)
 have hlen:=sendT_len ox
 refine ⟨?_,ox⟩
 rw [begin_law ht hs alt hx g hp []]
 unfold beginP
 rw [hk]
 dsimp only
 have eo:outW [] false (sendT (beginT t k y (planB pl y))).2=[(false,(sendT (beginT t k y (planB pl y))).2)]:=by
  unfold outW
  rw [if_pos ⟨by omega,by decide⟩]
  rfl
 rw [e1]
 dsimp only
 rw [eo]
 rfl
theorem runX_poll:∀ {n:Nat} {t:TTk} {s:TSl} {z:TTk×TSl},OkX t s->runX n t s=some z->z.1.1.2.2.1=t.1.2.2.1∧z.1.1.2.2.2.1=t.1.2.2.2.1
 | 0,_,_,_,_,h=>by cases h
 | n + 1,t,s,z,hx,h=>by
  have e:(effX t s).1=stepP t.1:=effT_p _ _ _
  unfold runX at h
  split at h
  ·cases h
   dsimp only
   rw [e]
   exact ⟨rfl,rfl⟩
  ·rename_i h0
   have ih:=runX_poll (hx.next h0) h
   rw [e] at ih
   exact ih
def wqP (u l:Int) (a:TA) (x k:Int):TP:=(u,l,4,1,true,a,x,k,1)
theorem tick_wq {u l:Int} {a:TA} {x k:Int} (c) (h:k ≠ 1):ttickT (wqP u l a x k,c)=((wqP u l a x (k - 1),c),[]):=by
 have e:tickV (wqP u l a x k)=(wqP u l a x (k - 1),[],false):=by
  unfold tickV
  rw [if_pos (show (wqP u l a x k).2.2.2.2.1=true from rfl),if_neg (show ¬ (wqP u l a x k).2.2.2.2.2.2.2.1=1 from h)]
  rfl
 unfold ttickT
 dsimp only
 rw [e,if_pos rfl]
theorem tick_wq1 (u l:Int) (a:TA) (x:Int) (c):ttickT (wqP u l a x 1,c)=(((u,l,4,1,true,a,nextV l x,4,0),c),frameV l u (nextV l x) a):=rfl
theorem wq_w {u l:Int} {a:TA} {x k:Int} (hr:qm_ a=true) (hk:1≤k∧k≤4):OkW (wqP u l a x k):=fun _=>⟨hr,hk.1,by show k≤100000; omega,by show (0:Int)≤1; decide,by show (1:Int)≤1000; decide⟩
def lateA (B:List Int) (o:Int):Nat->TAg
 | 0=>leftA B 1 40
 | 1=>agK B o 5 40 1 [] 0
 | 2=>agP B o 5 40 1 []
 | _=>leftA B 5 40
section
variable {B:List Int} {o:Int} (hb:B.length=64) (hbr:∀ x ∈ B,0≤x∧x≤65535) (ho:1≤o∧o≤65535)
include hb hbr ho
theorem late_do:∀ i:Nat,i < 3->doS (ownA (lateA B o i)) (o,(i:Int) + 1,5,0,sumB [])=(lateA B o (i + 1),0):=by
 have h5:(1:Int)≤5∧(5:Int)≤4294967295:=by decide
 have hk:(1:Int)≤40∧(40:Int)≤9223372036854775807:=by decide
 have hl:([]:List TBlk).length≤8:=Nat.zero_le _
 have hf:∀ x ∈ ([]:List TBlk),fitsB x=true:=fun x hx=>by cases hx
 have hw:∀ x ∈ ([]:List TBlk),∀ w ∈ x.2,0≤w∧w≤65535:=fun x hx=>by cases hx
 have ha:(0:Int)≤1∧(1:Int) < 5:=by decide
 intro i hi
 match i,hi with
 | 0,_=>exact free_claim hb hbr ho h5 hk hl hf hw ha 0 (sumB [])
 | 1,_=>exact agK_prep hb hbr ho h5 hk hl hf hw ha
 | 2,_=>exact agP_commit hb hbr ho h5 hk hl hf hw ha 0 (sumB [])
theorem late_ok:∀ i:Nat,OkG (lateA B o i):=by
 have h5:(1:Int)≤5∧(5:Int)≤4294967295:=by decide
 have hk:(1:Int)≤40∧(40:Int)≤9223372036854775807:=by decide
 have hl:([]:List TBlk).length≤8:=Nat.zero_le _
 have hf:∀ x ∈ ([]:List TBlk),fitsB x=true:=fun x hx=>by cases hx
 have hw:∀ x ∈ ([]:List TBlk),∀ w ∈ x.2,0≤w∧w≤65535:=fun x hx=>by cases hx
 have ha:(0:Int)≤1∧(1:Int) < 5:=by decide
 intro i
 match i with
 | 0=>exact ok_free hb hbr ⟨by decide,by decide⟩ hk
 | 1=>exact agK_ok hb hbr ho h5 hk hl hf hw ha (Nat.le_refl _)
 | 2=>exact agP_ok hb hbr ho h5 hk hl hf hw ha
 | n + 3=>exact ok_free hb hbr ⟨by decide,by decide⟩ hk
theorem late_la:∀ i:Nat,1≤(lateA B o i).2.2.2.2.1
 | 0=>by show (1:Int)≤1; decide
 | 1=>by show (1:Int)≤1; decide
 | 2=>by show (1:Int)≤1; decide
 | n + 3=>by show (1:Int)≤5; decide
theorem late_commit (h7:o ≠ 7):∀ i:Nat,doS (ownA (lateA B o i)) (7,3,1,0,0)=(lateA B o i,0)∨(doS (ownA (lateA B o i)) (7,3,1,0,0)).2 ≠ 0
 | 0=>.inl rfl
 | 1=>.inr (by rw [others (show o ≠ 0 by omega) h7 0 0 (by decide) (by decide)]; decide)
 | 2=>.inr (by rw [others (show o ≠ 0 by omega) h7 0 0 (by decide) (by decide)]; decide)
 | n + 3=>.inr (by
   have:doS (ownA (lateA B o (n + 3))) (7,3,1,0,0)=(ownA (lateA B o (n + 3)),23):=rfl
   rw [this]
   exact (by decide:(23:Int) ≠ 0))
end
theorem run_late {p:TP} {s:TSl} {tx n:Int} (h:OkX (p,(7,tx,[],2,5,n,0,0)) s) (hl:tx≤s.2.2.1.2.2.2.2.1) (hd:doS (ownA s.2.2.1) (7,3,tx,0,0)=(s.2.2.1,0)∨(doS (ownA s.2.2.1) (7,3,tx,0,0)).2 ≠ 0) :
  ∃ t',runX 2 (p,(7,tx,[],2,5,n,0,0)) s=some (t',s)∧t'.2.2.2.2.2.2.2.2=1:=by
 have e:reqT (p,(7,tx,[],2,5,n,0,0))=cmdA (7,3,tx,0,0):=rfl
 have hc:OkC (7,3,tx,0,0):=cmdT_ok (v:=3) h.kt (by decide)
 rcases hd with hd | hd
 ·have es:=serv_cmd h.ks hc hd h.ks.a
  have ex:effX (p,(7,tx,[],2,5,n,0,0)) s=(stepP p,(7,tx,[],2,0,n,0,1)):=by
   unfold effX
   rw [e,es,eff5 rfl,stat_read]
   exact if_pos hl
  refine ⟨(stepP p,(7,tx,[],2,0,n,0,1)),?_,rfl⟩
  show (if (effX _ s).2.2.2.2.2.1=0 then some (effX _ s,slX _ s) else _)=_
  rw [ex]
  unfold slX
  rw [e,es]
  exact if_pos rfl
 ·have es:=serv_no (s:=s) hc hd
  have ex:effX (p,(7,tx,[],2,5,n,0,0)) s=(stepP p,(7,tx,[],2,7,n,0,0)):=by
   unfold effX
   rw [e,es,eff5 rfl]
   rfl
  have sx:slX (p,(7,tx,[],2,5,n,0,0)) s=s:=by
   unfold slX
   rw [e,es]
  have hn:=h.next (by rw [ex]; show (7:Int) ≠ 0; decide)
  rw [ex,sx] at hn
  have e2:reqT (stepP p,(7,tx,[],2,7,n,0,0))=rdQ 256 8:=rfl
  have es2:servS s (reqT (stepP p,(7,tx,[],2,7,n,0,0)))=(s,(3,0,[],statA s.2.2.1,0,0)):=by
   rw [e2,serv_rd s (by decide)]
   show (s,((3:Int),(0:Int),([]:List Bool),((holdS s.2.2.1).drop 256).take 8,(0:Int),(0:Int)))=_
   rw [hold_stat h.ks.a]
  have ex2:effX (stepP p,(7,tx,[],2,7,n,0,0)) s=(stepP (stepP p),(7,tx,[],2,0,n,0,1)):=by
   unfold effX
   rw [es2,eff7 rfl,if_pos rfl,stat_read]
   exact if_pos hl
  refine ⟨(stepP (stepP p),(7,tx,[],2,0,n,0,1)),?_,rfl⟩
  show (if (effX _ s).2.2.2.2.2.1=0 then _ else runX 1 (effX _ s) (slX _ s))=_
  rw [ex,sx,if_neg (by show ¬ (7:Int)=0; decide)]
  show (if (effX _ s).2.2.2.2.2.1=0 then some (effX _ s,slX _ s) else _)=_
  rw [ex2,if_pos rfl]
  unfold slX
  rw [es2]
structure InvE (i:Nat) (T:TTk) (S:TSl) (B:List Int) (la:Int):Prop where
 ok:OkT T
 os:OkS S
 u:S.1=T.1.1
 l:S.2.1=T.1.2.1
 o:T.2.1=7
 g:T.2.2.2.2.1=0∨(T.2.2.2.2.1=2∨T.2.2.2.2.1=3)∧T.2.2.2.2.2.2.2.2=1
 a:S.2.2.1=leftA B la 40
 bl:B.length=64
 br:∀ x ∈ B,0≤x∧x≤65535
 la:0≤la∧la≤i
theorem InvE.pick {i:Nat} {T:TTk} {S:TSl} {B:List Int} {la:Int} (h:InvE i T S B la) (x:Int):pickB false T x=some (1,x + 1):=by
 unfold pickB
 rcases h.g with e | ⟨e | e,s⟩
 ·rw [e,if_neg (fun q=>absurd q.1 (by decide)),if_neg (fun q=>absurd q.1 (by decide)),if_neg (fun q=>q.1 rfl)]
 ·rw [e,s,if_neg (by decide),if_neg (by decide),if_neg (by decide)]
 ·rw [e,s,if_neg (by decide),if_neg (by decide),if_neg (by decide)]
def endB (gone:Bool) (B:List Int) (L:List TBlk):List Int:=if gone=true then B else overB B L
def endL (gone:Bool) (la:Int) (i:Nat):Int:=if gone=true then la else (i:Int) + 1
theorem round {gone:Bool} {i:Nat} {T:TTk} {S:TSl} {B:List Int} {la g:Int} {pl:List (List TBlk)} {L:List TBlk} (h:InvE i T S B la) (hi:i < 100) (hp:OkPl pl) (eL:planB pl ((i:Int) + 1)=L) (hL:L.length≤4) (hf:∀ x ∈ L,fitsB x=true) (hw:∀ x ∈ L,∀ w ∈ x.2,0≤w∧w≤65535) :
  ∃ T1 w1 T2 S2 T3 w3 T4 S4,q1a_ (false,T,S,(i:Int),g,pl,[],())=some (true,T1,S,(i:Int) + 1,g,pl,w1,())∧q27_ (60,T1,S,(i:Int) + 1,g,pl,w1,())=some (true,T2,S2,(i:Int) + 1,g,pl,[],()) ∧
   q1a_ (gone,T2,S2,(i:Int) + 1,g,pl,[],())=some (true,T3,S2,(i:Int) + 1,if gone=true then g else (i:Int) + 1,pl,w3,())∧q27_ (60,T3,S2,(i:Int) + 1,if gone=true then g else (i:Int) + 1,pl,w3,())=some (true,T4,S4,(i:Int) + 1,if gone=true then g else (i:Int) + 1,pl,[],()) ∧
   OkS S2∧T2.2.2.2.2.1=1∧T2.2.2.2.2.2.2.2.2=1∧S2.2.2.1.2.2.1=2 ∧
   InvE (i + 1) T4 S4 (endB gone B L) (endL gone la i)∧T4.2.2.2.2.2.2.2.2=1∧T4.2.2.2.2.2.1=0∧T4.1.2.2.2.2.1=false:=by
 have hi1:(1:Int)≤(i:Int) + 1∧(i:Int) + 1≤4294967295:=by omega
 have hfit:fitL L=true:=fitL_fits (by omega) hf
 have hla:0≤la∧la < (i:Int) + 1:=by have:=h.la; omega
 have k40:(1:Int)≤40∧(40:Int)≤9223372036854775807:=by decide
 obtain ⟨b1,ox1⟩:=begin_one (alt:=false) (g:=g) (k:=1) (y:=(i:Int) + 1) (x:=(i:Int)) h.ok h.os h.u h.l (by omega) hp (h.pick _) ⟨by decide,by decide⟩ hi1 (fun _=>by rw [eL]; exact hfit)
 rw [eL] at b1 ox1
 have e1:beginT T 1 ((i:Int) + 1) L=(dropP T.1,(7,(i:Int) + 1,L,1,1,0,0,0)):=by
  show (dropP T.1,(T.2.1,(i:Int) + 1,L,1,1,0,0,0))=_
  rw [h.o]
 rw [e1] at b1 ox1
 obtain ⟨p',hz⟩:=run_prepare h.bl h.br hi1 k40 (by omega) hf hw hla ox1 h.a
 have c1:=calm_go (N:=60) ox1 hz (by omega) (by decide) ((i:Int) + 1) g pl
 obtain ⟨ok1,os1,a1,w1,u1,l1⟩:=runX_end ox1 hz
 dsimp only at ok1 os1 a1 w1 u1 l1
 cases gone with
 | true =>
  obtain ⟨b2,ox2⟩:=begin_one (alt:=true) (g:=g) (k:=3) (y:=(i:Int) + 1) (x:=(i:Int) + 1) ok1 os1 u1 l1 (by omega) hp rfl ⟨by decide,by decide⟩ hi1 (fun e=>absurd e (by decide))
  have e2:beginT (p',(7,(i:Int) + 1,L,1,0,(L.length:Int),0,1)) 3 ((i:Int) + 1) (planB pl ((i:Int) + 1))=(dropP p',(7,(i:Int) + 1,[],3,6,0,0,0)):=rfl
  rw [e2] at b2 ox2
  have hz2:=run_gone h.bl h.br hi1 k40 (by omega) hf hw hla ox2 rfl
  have c2:=calm_go (N:=60) ox2 hz2 (by omega) (by decide) ((i:Int) + 1) g pl
  obtain ⟨ok2,os2,a2,w2,u2,l2⟩:=runX_end ox2 hz2
  exact ⟨_,_,_,_,_,_,_,_,b1,c1,b2,c2,os1,rfl,rfl,rfl,⟨ok2,os2,u2,l2,rfl,.inr ⟨.inr rfl,rfl⟩,rfl,h.bl,h.br,by show 0≤la∧la≤((i + 1:Nat):Int); omega⟩,rfl,rfl,w2⟩
 | false =>
  obtain ⟨b2,ox2⟩:=begin_one (alt:=false) (g:=g) (k:=2) (y:=(i:Int) + 1) (x:=(i:Int) + 1) ok1 os1 u1 l1 (by omega) hp rfl ⟨by decide,by decide⟩ hi1 (fun e=>absurd e (by decide))
  have e2:beginT (p',(7,(i:Int) + 1,L,1,0,(L.length:Int),0,1)) 2 ((i:Int) + 1) (planB pl ((i:Int) + 1))=(dropP p',(7,(i:Int) + 1,[],2,5,0,0,0)):=rfl
  rw [e2] at b2 ox2
  have hz2:=run_commit h.bl h.br hi1 k40 (by omega) hf hw hla ox2 rfl
  have c2:=calm_go (N:=60) ox2 hz2 (by omega) (by decide) ((i:Int) + 1) ((i:Int) + 1) pl
  obtain ⟨ok2,os2,a2,w2,u2,l2⟩:=runX_end ox2 hz2
  exact ⟨_,_,_,_,_,_,_,_,b1,c1,b2,c2,os1,rfl,rfl,rfl,⟨ok2,os2,u2,l2,rfl,.inr ⟨.inl rfl,rfl⟩,rfl,overB_len h.bl hf,overB_rng h.br hw,by show 0≤(i:Int) + 1∧(i:Int) + 1≤((i + 1:Nat):Int); omega⟩,rfl,rfl,w2⟩
end Go.Proofs.Lx
end
noncomputable section
open Go Go.Proofs Ev Sx
set_option maxRecDepth 100000
namespace Go.Proofs.Lx
abbrev YTlT0:Type:=((Int×Int×Int×Int×Bool×(Int×Int×Int×Int×List Int×List Bool)×Int×Int×Int)×Int×Int×List (Int×List Int)×Int×Int×Int×Int×Int)
abbrev YTlT1:Type:=(Int×Int×(List Int×(Int×Int)×Int×Int×Int×(Int×List Bool×List (Int×List Int))×Int)×List Bool)
abbrev YTlT2:Ty:=(.pr (.int .i64) aC)
@[reducible] def q8a_:Sh:=⟨[.d (.int .u8),.d aC,.d (.sl YTlT2),.d (.int .u16),.d (.int .u8)],[],[.int .u8,.sl (.int .u16),.sl YTlT2,.int .u16,.int .u8],[.d (.bool)],[],0,[.bool]⟩
def qdc_:Env:=(cts [(1000048,Ev.bxCt),(9000046,Ev.bxCt),(9999999,Ev.bxCt),(9,(⟨q77_,qal_⟩:Ct)),(10,(⟨q1o_,q1a_⟩:Ct)),(11,(⟨q5f_,q27_⟩:Ct)),(12,(⟨qek_,qg5_⟩:Ct)),(14,(⟨qef_,qgi_⟩:Ct)),(15,(⟨q48_,qeg_⟩:Ct)),(16,(⟨q1x_,q2l_⟩:Ct)),(17,(⟨q139_,qrz_⟩:Ct)),(18,(⟨q58_,qe5_⟩:Ct)),(19,(⟨q10s_,qmn_⟩:Ct)),(20,(⟨q2v_,q2y_⟩:Ct)),(21,(⟨q16s_,qo6_⟩:Ct))])
def qcy_:List (Nat×Hint):=[(511,⟨[],[11,133,134,135,136,139,140,141,142,145]⟩),(2047,⟨[],[11,17,133,134,135,136,139,140,141,142,145]⟩),(16378,⟨[],[11,17,118,133,134,135,136,139,140,141,142,145]⟩),(4090,⟨[],[3,11,104,105,106,133,134,135,136,139,140,141,142,145]⟩),(510,⟨[],[3,4,11,100,133,134,135,136,139,140,141,142,145]⟩),(30,⟨[],[1,3,4,11,63,80,81,82,83,84,87,88,89,90,91,92,93,96,97,98,99,133,134,135,136,139,140,141,142,145]⟩),(14,⟨[],[1,3,4,11,12,37,40,45,46,49,50,51,52,55,56,59,60,61,62,80,81,82,83,84,87,88,89,90,91,92,93,96,97,98,99,133,134,135,136,139,140,141,142,145]⟩)]
@[reducible] def zN0:Type:=List (Bool×List Int)
def qj1_ (b:List Int) (other far:Int) (ok t37:Bool) (p:YTlT0×YTlT1×Unit×Int×Int×List aH) (o:zN0):St:=⟨[(1,dW b),(3,d6 other),(4,d8 far),(11,.pb 0 0),(12,dB ok),(37,dB t37)],147,[],[(0,.box 48 (talkC p.1 (slC p.2.1 [.row 1,d2 p.2.2.2.1,d2 p.2.2.2.2.1,.d (.sl (.sl YTlT2)) p.2.2.2.2.2]))),(1,.que dR 63 o)],2,[],0⟩
def qj3_ (b:List Int) (other far:Int) (t63:Bool) (p:YTlT0×YTlT1×Unit×Int×Int×List aH) (o:zN0):St:=⟨[(1,dW b),(3,d6 other),(4,d8 far),(11,.pb 0 0),(63,dB t63)],147,[],[(0,.box 48 (talkC p.1 (slC p.2.1 [.row 1,d2 p.2.2.2.1,d2 p.2.2.2.2.1,.d (.sl (.sl YTlT2)) p.2.2.2.2.2]))),(1,.que dR 63 o)],2,[],0⟩
def qiy_ (other far:Int) (t100:Bool) (p:YTlT0×YTlT1×Unit×Int×Int×List aH) (o:zN0):St:=⟨[(3,d6 other),(4,d8 far),(11,.pb 0 0),(100,dB t100)],147,[],[(0,.box 48 (talkC p.1 (slC p.2.1 [.row 1,d2 p.2.2.2.1,d2 p.2.2.2.2.1,.d (.sl (.sl YTlT2)) p.2.2.2.2.2]))),(1,.que dR 63 o)],2,[],0⟩
def qb4_ (other t104 t104_2 t105 t106:Int) (p:YTlT0×YTlT1×Unit×Int×Int×List aH) (o:zN0) (t104_3:List Int):St:=⟨[(3,d6 other),(11,.pb 0 0),(104,.sub 2 1 t104 t104_2),(105,dI t105),(106,dI t106)],147,[],[(0,.box 48 (talkC p.1 (slC p.2.1 [.row 1,d2 p.2.2.2.1,d2 p.2.2.2.2.1,.d (.sl (.sl YTlT2)) p.2.2.2.2.2]))),(1,.que dR 63 o),(2,.row (.int .u8) 5 t104_3)],3,[],0⟩
def qj2_ (p:YTlT0×YTlT1×Unit×Int×Int×List aH) (o:zN0):St:=⟨[(11,.pb 0 0)],147,[],[(0,.box 48 (talkC p.1 (slC p.2.1 [.row 1,d2 p.2.2.2.1,d2 p.2.2.2.2.1,.d (.sl (.sl YTlT2)) p.2.2.2.2.2]))),(1,.que dR 63 o)],2,[],0⟩
def qb3_ (was t118:Int) (p:YTlT0×YTlT1×Unit×Int×Int×List aH) (o:zN0) (was_2:List YTlT1):St:=⟨[(11,.pb 0 0),(17,.prw 2 was 35 0),(118,dI t118)],147,[],[(0,.box 48 (talkC p.1 (slC p.2.1 [.row 1,d2 p.2.2.2.1,d2 p.2.2.2.2.1,.d (.sl (.sl YTlT2)) p.2.2.2.2.2]))),(1,.que dR 63 o),(2,.row (.pr (.int .u8) (.pr (.int .u8) (.pr (.pr aC (.pr bP (.pr (.int .u8) (.pr (.int .u32) (.pr (.int .u32) (.pr (.pr (.int .u32) (.pr (.ar 8 .bool) (.ar 8 YTlT2))) (.int .i64))))))) (.sl .bool)))) 45 was_2)],3,[],0⟩
def qiu_ (was:Int) (p:YTlT0×YTlT1×Unit×Int×Int×List aH) (o:zN0) (was_2:List YTlT1):St:=⟨[(11,.pb 0 0),(17,.prw 2 was 35 0)],147,[],[(0,.box 48 (talkC p.1 (slC p.2.1 [.row 1,d2 p.2.2.2.1,d2 p.2.2.2.2.1,.d (.sl (.sl YTlT2)) p.2.2.2.2.2]))),(1,.que dR 63 o),(2,.row (.pr (.int .u8) (.pr (.int .u8) (.pr (.pr aC (.pr bP (.pr (.int .u8) (.pr (.int .u32) (.pr (.int .u32) (.pr (.pr (.int .u32) (.pr (.ar 8 .bool) (.ar 8 YTlT2))) (.int .i64))))))) (.sl .bool)))) 45 was_2)],3,[],0⟩
def q5g_ (j2:List Int->Int->Int->Bool->YTlT0×YTlT1×Unit×Int×Int×List aH->List (Bool×List Int)->Option aF) (b:List Int) (other far:Int) (ok t37:Bool) (p:YTlT0×YTlT1×Unit×Int×Int×List aH) (o:zN0):Option aF :=
 if t37=true then if ok=true then zC (qeg_ ()) fun y=>some (y.1,()) else some (false,()) else zC (q1a_ (false,p.1,(mkSl p.2.1),p.2.2.2.1,p.2.2.2.2.1,p.2.2.2.2.2,o,())) fun y=>if (!y.1)=true then j2 b other far true (y.2.1,y.2.2.1,(),y.2.2.2.1,y.2.2.2.2.1,y.2.2.2.2.2.1) y.2.2.2.2.2.2.1 else zC (q27_ (60,y.2.1,(mkSl y.2.2.1),y.2.2.2.1,y.2.2.2.2.1,y.2.2.2.2.2.1,y.2.2.2.2.2.2.1,())) fun y=>if (!y.1)=true then j2 b other far true (y.2.1,y.2.2.1,(),y.2.2.2.1,y.2.2.2.2.1,y.2.2.2.2.2.1) y.2.2.2.2.2.2.1 else if nei y.2.1.2.2.2.2.2.2.2.2 1=true then j2 b other far true (y.2.1,y.2.2.1,(),y.2.2.2.1,y.2.2.2.2.1,y.2.2.2.2.2.1) y.2.2.2.2.2.2.1 else zC (q1a_ (false,y.2.1,(mkSl y.2.2.1),y.2.2.2.1,y.2.2.2.2.1,y.2.2.2.2.2.1,y.2.2.2.2.2.2.1,())) fun y=>if (!y.1)=true then j2 b other far true (y.2.1,y.2.2.1,(),y.2.2.2.1,y.2.2.2.2.1,y.2.2.2.2.2.1) y.2.2.2.2.2.2.1 else j2 b other far (nei (zF (zG y.2.2.2.2.2.2.1)) 1) (y.2.1,y.2.2.1,(),y.2.2.2.1,y.2.2.2.2.1,y.2.2.2.2.2.1) y.2.2.2.2.2.2.1
def qbe_ (j3:Int->Int->Bool->YTlT0×YTlT1×Unit×Int×Int×List aH->List (Bool×List Int)->Option aF) (b:List Int) (other far:Int) (t63:Bool) (p:YTlT0×YTlT1×Unit×Int×Int×List aH) (o:zN0):Option aF :=
 if t63=true then some (false,()) else zC (at? o 0) fun x=>zC (at? o 0) fun y=>zC (q2l_ (y,p.1,(mkSl p.2.1),p.2.2.2.1,p.2.2.2.2.1,p.2.2.2.2.2,o,())) fun y=>zC (qrz_ (b,())) fun y_1=>if eqi (zF (zG y.2.2.2.2.1)) 0=true then zC (qg5_ (y_1.1,[],())) fun y_2=>if nei y_2.2.1 0=true then j3 other far true (y.1,y.2.1,(),y.2.2.1,y.2.2.2.1,y.2.2.2.2.1) [] else if nei y.2.1.2.2.1.2.2.2.2.1 1=true then j3 other far true (y.1,y.2.1,(),y.2.2.1,y.2.2.2.1,y.2.2.2.2.1) [] else zC (qgi_ (y.2.1.2.2.1.1,y_2.1,())) fun y_3=>if (!y_3.1)=true then j3 other far true (y.1,y.2.1,(),y.2.2.1,y.2.2.2.1,y.2.2.2.2.1) [] else j3 other far (nei y.1.2.2.2.2.2.2.2.2 0) (y.1,y.2.1,(),y.2.2.1,y.2.2.2.1,y.2.2.2.2.1) [] else need (nei (zF (zG y.2.2.2.2.1)) 0) (zC (at? y.2.2.2.2.1 (rem 1 (zF (zG y.2.2.2.2.1)))) fun y_2=>zC (qg5_ (y_1.1,y_2,())) fun y_3=>if nei y_3.2.1 0=true then j3 other far true (y.1,y.2.1,(),y.2.2.1,y.2.2.2.1,y.2.2.2.2.1) [] else if nei y.2.1.2.2.1.2.2.2.2.1 1=true then j3 other far true (y.1,y.2.1,(),y.2.2.1,y.2.2.2.1,y.2.2.2.2.1) [] else zC (qgi_ (y.2.1.2.2.1.1,y_3.1,())) fun y_4=>if (!y_4.1)=true then j3 other far true (y.1,y.2.1,(),y.2.2.1,y.2.2.2.1,y.2.2.2.2.1) [] else j3 other far (nei y.1.2.2.2.2.2.2.2.2 0) (y.1,y.2.1,(),y.2.2.1,y.2.2.2.1,y.2.2.2.2.1) [])
def qb1_ (j4:Int->Int->Int->Int->Int->YTlT0×YTlT1×Unit×Int×Int×List aH->List (Bool×List Int)->List Int->Option aF) (other far:Int) (t100:Bool) (p:YTlT0×YTlT1×Unit×Int×Int×List aH) (o:zN0):Option aF :=
 if t100=true then some (false,()) else need (le 0 (rem far 4)) (need (le (rem far 4) 3) (j4 other 0 (rem far 4 - 0) (rem far 4 - 0) 0 p o [1,2,3]))
def q3t_ (j5:YTlT0×YTlT1×Unit×Int×Int×List aH->List (Bool×List Int)->Option aF) (self4:Int->Int->Int->Int->Int->YTlT0×YTlT1×Unit×Int×Int×List aH->List (Bool×List Int)->List Int->Option aF) (other t104 t104_2 t105 t106:Int) (p:YTlT0×YTlT1×Unit×Int×Int×List aH) (o:zN0) (t104_3:List Int):Option aF :=
 if lt t106 t105=true then need (ge t106 0) (need (lt t106 t104_2) (zC (at? t104_3 (t104 + t106)) fun x=>zC (at? t104_3 (t104 + t106)) fun y=>zC (qe5_ ((other,y),p.1,(mkSl p.2.1),p.2.2.2.1,p.2.2.2.2.1,p.2.2.2.2.2,o,())) fun y=>if (!y.1)=true then some (false,()) else self4 other t104 t104_2 t105 (add .i64 t106 1) (y.2.1,y.2.2.1,(),y.2.2.2.1,y.2.2.2.2.1,y.2.2.2.2.2.1) y.2.2.2.2.2.2.1 t104_3)) else j5 p o
def qwc_ (j6:Int->Int->YTlT0×YTlT1×Unit×Int×Int×List aH->List (Bool×List Int)->List YTlT1->Option aF) (p:YTlT0×YTlT1×Unit×Int×Int×List aH) (o:zN0):Option aF :=
 j6 0 0 p o [(mkSl p.2.1)]
def q5c_ (j7:Int->YTlT0×YTlT1×Unit×Int×Int×List aH->List (Bool×List Int)->List YTlT1->Option aF) (self6:Int->Int->YTlT0×YTlT1×Unit×Int×Int×List aH->List (Bool×List Int)->List YTlT1->Option aF) (was t118:Int) (p:YTlT0×YTlT1×Unit×Int×Int×List aH) (o:zN0) (was_2:List YTlT1):Option aF :=
 if lt t118 4=true then zC (qmn_ (p.1,())) fun y=>zC (q2y_ (y.2.1,y.1,(mkSl p.2.1),p.2.2.2.1,p.2.2.2.2.1,p.2.2.2.2.2,o,())) fun y=>self6 was (add .i64 t118 1) (y.1,y.2.1,(),y.2.2.1,y.2.2.2.1,y.2.2.2.2.1) y.2.2.2.2.2.1 was_2 else j7 was p o was_2
def qb2_ (was:Int) (p:YTlT0×YTlT1×Unit×Int×Int×List aH) (o:zN0) (was_2:List YTlT1):Option aF :=
 zC (q27_ (60,p.1,(mkSl p.2.1),p.2.2.2.1,p.2.2.2.2.1,p.2.2.2.2.2,o,())) fun y=>if y.1=true then if eqi y.2.1.2.2.2.2.2.2.2.2 1=true then zC (at? was_2 was) fun y_1=>zC (qo6_ ((mkSl y.2.2.1),y_1,())) fun y=>if y.1=true then zC (qeg_ ()) fun y=>some (y.1,()) else some (false,()) else some (false,()) else some (false,())
def qbh_ (j1:List Int->Int->Int->Bool->Bool->YTlT0×YTlT1×Unit×Int×Int×List aH->List (Bool×List Int)->Option aF) (link:Int) (b:List Int) (l:List (Int×List Int)) (other far:Int):Option aF :=
 zC (qal_ (link,3,1,b,[l],())) fun y=>if (!y.2.2.2.2.2.1)=true then j1 b other far y.2.2.2.2.2.1 true (y.1,y.2.1,(),y.2.2.1,y.2.2.2.1,y.2.2.2.2.1) y.2.2.2.2.2.2.1 else if eqi other 0=true then j1 b other far y.2.2.2.2.2.1 true (y.1,y.2.1,(),y.2.2.1,y.2.2.2.1,y.2.2.2.2.1) y.2.2.2.2.2.2.1 else j1 b other far y.2.2.2.2.2.1 (eqi other 7) (y.1,y.2.1,(),y.2.2.1,y.2.2.2.1,y.2.2.2.2.1) y.2.2.2.2.2.2.1
def q5h_:=qb2_
def q5d_ (was t118:Int) (p:YTlT0×YTlT1×Unit×Int×Int×List aH) (o:zN0) (was_2:List YTlT1):Option aF :=
 loopF (fun self s=>q5c_ (q5h_) (fun was t118 p o was_2=>self (was,t118,p,o,was_2)) s.1 s.2.1 s.2.2.1 s.2.2.2.1 s.2.2.2.2) 18446744073709551616 (was,t118,p,o,was_2)
def q5e_:=qwc_ (q5d_)
def qb8_ (other t104 t104_2 t105 t106:Int) (p:YTlT0×YTlT1×Unit×Int×Int×List aH) (o:zN0) (t104_3:List Int):Option aF :=
 loopF (fun self s=>q3t_ (q5e_) (fun other t104 t104_2 t105 t106 p o t104_3=>self (other,t104,t104_2,t105,t106,p,o,t104_3)) s.1 s.2.1 s.2.2.1 s.2.2.2.1 s.2.2.2.2.1 s.2.2.2.2.2.1 s.2.2.2.2.2.2.1 s.2.2.2.2.2.2.2) 18446744073709551616 (other,t104,t104_2,t105,t106,p,o,t104_3)
def qix_:=qb1_ (qb8_)
def q79_:=qbe_ (qix_)
def qba_:=q5g_ (q79_)
def qil_ (x:As [.int .u8,.sl (.int .u16),.sl YTlT2,.int .u16,.int .u8]):Option aF:=qbh_ qba_ x.1 x.2.1 x.2.2.1 x.2.2.2.1 x.2.2.2.2.1
abbrev pBn:=zp qdc_ qcy_ 4 q8a_
theorem q17q_ {J a b c d}:pBn J 2047 [] (qiu_ a b c d)=qb2_ a b c d:=by kernel_rfl
theorem q17y_ {J w6 a b c d e}:pBn J 16378 [w6] (qb3_ a b c d e)=q5c_ (C (J 2047 []) qiu_) (C w6 qb3_) a b c d e:=by kernel_rfl
theorem q17z_ {J a b}:pBn J 511 [] (qj2_ a b)=qwc_ (C (J 16378 []) qb3_) a b:=by kernel_rfl
theorem q180_ {J w4 a b c d e f g h}:pBn J 4090 [w4] (qb4_ a b c d e f g h)=q3t_ (C (J 511 []) qj2_) (C w4 qb4_) a b c d e f g h:=by kernel_rfl
theorem q17h_ {J a b c d e}:pBn J 510 [] (qiy_ a b c d e)=qb1_ (C (J 4090 []) qb4_) a b c d e:=by kernel_rfl
theorem q17k_ {J a b c d e f}:pBn J 30 [] (qj3_ a b c d e f)=qbe_ (C (J 510 []) qiy_) a b c d e f:=by kernel_rfl
theorem q184_ {J a b c d e f g}:pBn J 14 [] (qj1_ a b c d e f g)=q5g_ (C (J 30 []) qj3_) a b c d e f g:=by kernel_rfl
abbrev pBm:=zj qdc_ qcy_ 4 q8a_
theorem q17x_:C (pBm 2047 []) qiu_=q5h_:=gNC (by decide) fun _=>q17q_
theorem q17v_:C (pBm 16378 []) qb3_=q5d_:=gLC (by decide) (by kernel_rfl) (fun _=>by unfold q5d_; rfl) fun _ _=>q17y_.trans (by rw [q17x_] <;> kernel_rfl)
theorem q17f_:C (pBm 511 []) qj2_=q5e_:=gNC (by decide) fun _=>q17z_.trans (by rw [q17v_] <;> kernel_rfl)
theorem q17j_:C (pBm 4090 []) qb4_=qb8_:=gLC (by decide) (by kernel_rfl) (fun _=>by unfold qb8_; rfl) fun _ _=>q180_.trans (by rw [q17f_] <;> kernel_rfl)
theorem q185_:C (pBm 510 []) qiy_=qix_:=gNC (by decide) fun _=>q17h_.trans (by rw [q17j_] <;> kernel_rfl)
theorem q181_:C (pBm 30 []) qj3_=q79_:=gNC (by decide) fun _=>q17k_.trans (by rw [q185_] <;> kernel_rfl)
theorem q17m_:C (pBm 14 []) qj1_=qba_:=gNC (by decide) fun _=>q184_.trans (by rw [q181_] <;> kernel_rfl)
theorem q17n_:CtOk Tryz.prog (fun _=>True) 4 ⟨q8a_,qil_⟩:=zcc (env:=qdc_) (d:=6) (hs:=Ev.get qcy_) (q0_ Ev.bx_ok (q0_ Ev.bx_ok (q0_ Ev.bx_ok (q0_ q11j_ (q0_ qqk_ (q0_ q15x_ (q0_ q15t_ (q0_ q1m3_ (q0_ q1dl_ (q0_ qg9_ (q0_ q18d_ (q0_ q19n_ (q0_ q176_ (q0_ qgk_ (q0_ q1g7_ q1_))))))))))))))) (fun J x=>qbh_ (C (J 14 []) qj1_) x.1 x.2.1 x.2.2.1 x.2.2.2.1 x.2.2.2.2.1) (fun _ _=>by kernel_rfl) fun _=>by rw [q17m_] <;> rfl
end Go.Proofs.Lx
end
noncomputable section
namespace Go.Proofs.Lx
open Go Ev Sx Pl
set_option maxRecDepth 100000
section
variable {link other far:Int} {b:List Int} {l:List TBlk} (hk:0≤link) (hb:∀ x ∈ b,0≤x∧x≤65535) (ho:1≤other∧other≤65535) (h7:other ≠ 7) (hw:∀ b ∈ l,∀ y ∈ b.2,0≤y∧y≤65535)
structure OkL (p:TP) (s:TSl) (u l' n:Int):Prop where
 ox:OkX (p,(7,1,[],2,5,n,0,0)) s
 t:p.2.2.1=4∧p.2.2.2.1=1
theorem late_send {p:TP} {s:TSl} {u l' n:Int} (h:OkL p s u l' n):(sendT (p,(7,1,[],2,5,n,0,0))).1=(wqP p.1 p.2.1 (cmdA (7,3,1,0,0)) (nextV p.2.1 p.2.2.2.2.2.2.1) 4,(7,1,[],2,5,n,0,0)):=by
 rw [sendT_go h.ox]
 have e1:=h.t.1
 have e2:=h.t.2
 show ((p.1,p.2.1,p.2.2.1,p.2.2.2.1,true,cmdA (7,3,1,0,0),nextV p.2.1 p.2.2.2.2.2.2.1,p.2.2.1,p.2.2.2.1),_)=_
 rw [e1,e2]
 rfl
theorem late_again {p:TP} {s s':TSl} {u l' n:Int} (h:OkL p s u l' n) (hs:OkS s') (hu:s'.1=s.1) (hl:s'.2.1=s.2.1):OkX (stepP p,(7,1,[],2,5,n,0,0)) s' ∧
  (((p.1,p.2.1,4,1,true,cmdA (7,3,1,0,0),nextV p.2.1 (nextV p.2.1 p.2.2.2.2.2.2.1),4,0),(7,1,[],2,5,n,0,0)):TTk)=lessT (sendT (stepP p,(7,1,[],2,5,n,0,0))).1 0 ∧
  frameV p.2.1 p.1 (nextV p.2.1 (nextV p.2.1 p.2.2.2.2.2.2.1)) (cmdA (7,3,1,0,0))=(sendT (stepP p,(7,1,[],2,5,n,0,0))).2:=by
 have hx:=nextV_rng p.2.1 h.ox.kt.p.x0 h.ox.kt.p.x1
 have k:=h.ox.kt
 have ox:OkX (stepP p,(7,1,[],2,5,n,0,0)) s':=⟨⟨⟨k.p.u0,k.p.u1,k.p.l,k.p.t0,k.p.t1,k.p.r0,k.p.r1,zA_ok,hx.1,hx.2⟩,k.o,k.x,k.bl,k.bf,k.at',k.n,k.tr⟩,hs,h.ox.g,rfl,hu.trans h.ox.u,hl.trans h.ox.l⟩
 have e1:=h.t.1
 have e2:=h.t.2
 refine ⟨ox,?_,?_⟩
 ·rw [sendT_go ox]
  show _=((p.1,p.2.1,p.2.2.1,p.2.2.2.1,true,cmdA (7,3,1,0,0),nextV p.2.1 (nextV p.2.1 p.2.2.2.2.2.2.1),p.2.2.1,0),_)
  rw [e1,e2]
 ·rw [sendT_go ox,ox.u,ox.l]
  rfl
theorem late_K6 {p:TP} {s s':TSl} {u l' n:Int} {pl:List (List TBlk)} (h:OkL p s u l' n) (hs:OkS s') (hu:s'.1=s.1) (hl:s'.2.1=s.2.1) :
  q5d_ 0 0 ((sendT (p,(7,1,[],2,5,n,0,0))).1,s',(),1,1,pl) [] [s']=q5h_ 0 (lessT (sendT (stepP p,(7,1,[],2,5,n,0,0))).1 0,s',(),1,1,pl) [(false,(sendT (stepP p,(7,1,[],2,5,n,0,0))).2)] [s']:=by
 have hr:qm_ (cmdA (7,3,1,0,0))=true:=q5b_ h.ox.kt h.ox.g.good
 have k:=h.ox.kt
 have hx:=nextV_rng p.2.1 k.p.x0 k.p.x1
 have ok:∀ j,OkT (wqP p.1 p.2.1 (cmdA (7,3,1,0,0)) (nextV p.2.1 p.2.2.2.2.2.2.1) j,(7,1,[],2,5,n,0,0)):=fun j=>⟨⟨k.p.u0,k.p.u1,k.p.l,(by decide:(1:Int)≤4),(by decide:(4:Int)≤100000),(by decide:(0:Int)≤1),(by decide:(1:Int)≤1000),reqT_ok k,hx.1,hx.2⟩,k.o,k.x,k.bl,k.bf,k.at',k.n,k.tr⟩
 obtain ⟨ox,a1,a2⟩:=late_again h hs hu hl
 have hln:=sendT_len ox
 rw [late_send h,<- a1]
 unfold q5d_
 have st:∀ (self:_->Option aF) (i:Nat) (j:Int),i < 3->2≤j∧j≤4->q5c_ q5h_ (fun a b c d e=>self (a,b,c,d,e)) 0 (i:Int) ((wqP p.1 p.2.1 (cmdA (7,3,1,0,0)) (nextV p.2.1 p.2.2.2.2.2.2.1) j,(7,1,[],2,5,n,0,0)),s',(),1,1,pl) [] [s']=self (0,((i + 1:Nat):Int),((wqP p.1 p.2.1 (cmdA (7,3,1,0,0)) (nextV p.2.1 p.2.2.2.2.2.2.1) (j - 1),(7,1,[],2,5,n,0,0)),s',(),1,1,pl),[],[s']):=fun self i j hi hj=>by
  unfold q5c_
  rw [if_pos (q5_.2 (by omega)),ttick_eq (ok j) (wq_w hr (by omega)),zD]
  dsimp only
  rw [tick_wq _ (by omega),q1v_ hs,sent_law hs,zD,qv_ (by omega)]
  rfl
 rw [qr_]
 refine (st _ 0 4 (by decide) (by decide)).trans ?_
 rw [qr_]
 refine (st _ 1 3 (by decide) (by decide)).trans ?_
 rw [qr_]
 refine (st _ 2 2 (by decide) (by decide)).trans ?_
 rw [qr_]
 show q5c_ q5h_ _ 0 3 ((wqP p.1 p.2.1 (cmdA (7,3,1,0,0)) (nextV p.2.1 p.2.2.2.2.2.2.1) 1,(7,1,[],2,5,n,0,0)),s',(),1,1,pl) [] [s']=_
 unfold q5c_
 rw [if_pos (by decide),ttick_eq (ok 1) (wq_w hr (by decide)),zD]
 dsimp only
 rw [tick_wq1,q1v_ hs,sent_law hs,zD]
 dsimp only
 have eo:outW [] false (frameV p.2.1 p.1 (nextV p.2.1 (nextV p.2.1 p.2.2.2.2.2.2.1)) (cmdA (7,3,1,0,0)))=[(false,(sendT (stepP p,(7,1,[],2,5,n,0,0))).2)]:=by
  rw [a2]
  unfold outW
  rw [if_pos ⟨by omega,by decide⟩]
  rfl
 rw [eo,qr_]
 show (if lt (add .i64 3 1) 4=true then _ else q5h_ 0 _ _ _)=_
 exact if_neg (by decide)
theorem late_K5 {p:TP} {s s':TSl} {u l' n:Int} {pl:List (List TBlk)} (h:OkL p s u l' n) (hs:OkS s') (hu:s'.1=s.1) (hl:s'.2.1=s.2.1) (hla:1≤s'.2.2.1.2.2.2.2.1) (hd:doS (ownA s'.2.2.1) (7,3,1,0,0)=(s'.2.2.1,0)∨(doS (ownA s'.2.2.1) (7,3,1,0,0)).2 ≠ 0) :
  q5e_ ((sendT (p,(7,1,[],2,5,n,0,0))).1,s',(),1,1,pl) []=some (true,()):=by
 obtain ⟨ox,_,_⟩:=late_again h hs hu hl
 obtain ⟨t',hz,hsd⟩:=run_late ox hla hd
 show q5d_ 0 0 ((sendT (p,(7,1,[],2,5,n,0,0))).1,s',(),1,1,pl) [] [mkSl s']=_
 rw [q1v_ hs,late_K6 h hs hu hl]
 show qb2_ 0 (lessT (sendT (stepP p,(7,1,[],2,5,n,0,0))).1 0,s',(),1,1,pl) _ [s']=_
 unfold qb2_
 dsimp only
 have e:=calm_go_less (N:=60) ox hz (by decide) (by decide) 0 1 1 pl
 rw [q1v_ hs,show (60:Int)=((60:Nat):Int) from rfl,e,zD]
 dsimp only
 rw [if_pos rfl,if_pos (q4_.2 hsd),q12_,zD,q1v_ hs,slsame_self hs,zD,if_pos rfl,awake_eq]
 rfl
theorem late_K4 {p:TP} {s:TSl} {B:List Int} {o u l' n:Int} {pl:List (List TBlk)} (hb:B.length=64) (hbr:∀ x ∈ B,0≤x∧x≤65535) (ho:1≤o∧o≤65535) (h7:o ≠ 7) (h:OkL p s u l' n) (hs:OkS s) {m:Nat} (hm:m≤3) :
  ∀ (j i k:Nat),i + j=m->j < k->loopF (fun (self:Int×Int×Int×Int×Int×TPr×TWay×List Int->Option aF) st=>q3t_ q5e_ (fun a b c d e f g h=>self (a,b,c,d,e,f,g,h)) st.1 st.2.1 st.2.2.1 st.2.2.2.1 st.2.2.2.2.1 st.2.2.2.2.2.1 st.2.2.2.2.2.2.1 st.2.2.2.2.2.2.2) k
   (o,0,(m:Int),(m:Int),(i:Int),((sendT (p,(7,1,[],2,5,n,0,0))).1,setA s (lateA B o i),(),1,1,pl),[],[1,2,3])=some (true,())
 | _,_,0,_,hk=>by omega
 | 0,i,k + 1,hj,_=>by
  have:i=m:=by omega
  subst this
  rw [qr_]
  show q3t_ q5e_ _ o 0 (i:Int) (i:Int) (i:Int) _ [] _=_
  unfold q3t_
  rw [if_neg (fun e=>by have:=q5_.1 e; omega)]
  have hs':OkS (setA s (lateA B o i)):=⟨hs.u,hs.l,late_ok hb hbr ho i,hs.c⟩
  exact late_K5 h hs' rfl rfl (late_la hb hbr ho i) (late_commit hb hbr ho h7 i)
 | j + 1,i,k + 1,hj,hk=>by
  rw [qr_]
  show q3t_ q5e_ _ o 0 (m:Int) (m:Int) (i:Int) ((sendT (p,(7,1,[],2,5,n,0,0))).1,setA s (lateA B o i),(),1,1,pl) [] [1,2,3]=_
  unfold q3t_
  have hs':OkS (setA s (lateA B o i)):=⟨hs.u,hs.l,late_ok hb hbr ho i,hs.c⟩
  have hi:i < 3:=by omega
  have ea:at? ([1,2,3]:List Int) (0 + (i:Int))=some ((i:Int) + 1):=by
   match i,hi with
   | 0,_=>rfl
   | 1,_=>rfl
   | 2,_=>rfl
  have ho':0≤o∧o≤65535:=by omega
  have hv:0≤(i:Int) + 1∧(i:Int) + 1≤255:=by omega
  have es:=serv_op (s:=setA s (lateA B o i)) (o:=(o,(i:Int) + 1)) ho' hv (late_do hb hbr ho i hi)
  rw [if_pos (q5_.2 (by omega)),q9_ (qs_.2 (by omega)),q9_ (q5_.2 (by omega)),ea,zD,zD]
  dsimp only
  rw [q1v_ hs',does_law (o:=(o,(i:Int) + 1)) ho' hv hs',es,zD,qv_ (by omega)]
  dsimp only
  rw [if_neg (by decide)]
  exact late_K4 hb hbr ho h7 h hs hm j (i + 1) k (by omega) (by omega)
end
theorem late_two {T:TTk} {S:TSl} {B:List Int} {g:Int} {pl:List (List TBlk)} {L:List TBlk} (h:InvE 0 T S B 0) (hT:T.1.2.2.1=4∧T.1.2.2.2.1=1) (hp:OkPl pl) (eL:planB pl 1=L) (hL:L.length≤4) (hf:∀ x ∈ L,fitsB x=true) (hw:∀ x ∈ L,∀ w ∈ x.2,0≤w∧w≤65535) :
  ∃ T1 w1 T2 S2 p,q1a_ (false,T,S,0,g,pl,[],())=some (true,T1,S,1,g,pl,w1,())∧q27_ (60,T1,S,1,g,pl,w1,())=some (true,T2,S2,1,g,pl,[],()) ∧
   q1a_ (false,T2,S2,1,g,pl,[],())=some (true,(sendT (p,(7,1,[],2,5,0,0,0))).1,S2,1,1,pl,[(false,(sendT (p,(7,1,[],2,5,0,0,0))).2)],()) ∧
   OkS S2∧T2.2.2.2.2.2.2.2.2=1∧OkX (p,(7,1,[],2,5,0,0,0)) S2∧S2.2.2.1=agP B 7 1 40 0 L∧p.2.2.1=4∧p.2.2.2.1=1:=by
 have one:(1:Int)≤1∧(1:Int)≤4294967295:=by decide
 have k40:(1:Int)≤40∧(40:Int)≤9223372036854775807:=by decide
 have z1:(0:Int)≤0∧(0:Int) < 1:=by decide
 have hfit:fitL L=true:=fitL_fits (by omega) hf
 obtain ⟨b1,ox1⟩:=begin_one (alt:=false) (g:=g) (k:=1) (y:=1) (x:=0) h.ok h.os h.u h.l ⟨by decide,by decide⟩ hp (h.pick 0) ⟨by decide,by decide⟩ one (fun _=>by rw [eL]; exact hfit)
 rw [eL] at b1 ox1
 have e1:beginT T 1 1 L=(dropP T.1,(7,1,L,1,1,0,0,0)):=by
  show (dropP T.1,(T.2.1,(1:Int),L,1,1,0,0,0))=_
  rw [h.o]
 rw [e1] at b1 ox1
 obtain ⟨p',hz⟩:=run_prepare h.bl h.br one k40 (by omega) hf hw z1 ox1 h.a
 have c1:=calm_go (N:=60) ox1 hz (by omega) (by decide) 1 g pl
 have hpt:=runX_poll ox1 hz
 obtain ⟨ok1,os1,a1,w1,u1,l1⟩:=runX_end ox1 hz
 dsimp only at ok1 os1 a1 w1 u1 l1 hpt
 obtain ⟨b2,ox2⟩:=begin_one (alt:=false) (g:=g) (k:=2) (y:=1) (x:=1) ok1 os1 u1 l1 ⟨by decide,by decide⟩ hp rfl ⟨by decide,by decide⟩ one (fun e=>absurd e (by decide))
 have e2:beginT (p',(7,1,L,1,0,(L.length:Int),0,1)) 2 1 (planB pl 1)=(dropP p',(7,1,[],2,5,0,0,0)):=rfl
 rw [e2] at b2 ox2
 exact ⟨_,_,_,_,_,b1,c1,b2,os1,rfl,ox2,rfl,hpt.1.trans hT.1,hpt.2.trans hT.2⟩
section
variable {other far:Int} {b:List Int} {L:List TBlk} (ho:1≤other∧other≤65535) (h7:other ≠ 7) (hf:0≤far∧far≤255) (hb:∀ x ∈ b,0≤x∧x≤65535) (hL:L.length≤4) (fB:∀ x ∈ L,fitsB x=true) (wB:∀ x ∈ L,∀ y ∈ x.2,0≤y∧y≤65535)
include ho h7 hf hb hL fB wB
theorem late_K2 {p:TP} {S:TSl} (ox2:OkX (p,(7,1,[],2,5,0,0,0)) S) (hS:S.2.2.1=agP (bank64 b) 7 1 40 0 L) (hpt:p.2.2.1=4∧p.2.2.2.1=1) :
  q79_ b other far false ((sendT (p,(7,1,[],2,5,0,0,0))).1,S,(),1,1,[L]) [(false,(sendT (p,(7,1,[],2,5,0,0,0))).2)]=some (true,()):=by
 have one:(1:Int)≤1∧(1:Int)≤4294967295:=by decide
 have k40:(1:Int)≤40∧(40:Int)≤9223372036854775807:=by decide
 have z1:(0:Int)≤0∧(0:Int) < 1:=by decide
 have h64:=bank64_len b
 have h64r:=bank64_rng hb
 have os1:=ox2.ks
 show qbe_ qix_ b other far false _ [(false,_)]=_
 unfold qbe_
 rw [if_neg (by decide),q12_,zD,zD]
 dsimp only
 have ec:∀ w,∃ w',comeP (false,(sendT (p,(7,1,[],2,5,0,0,0))).2) (sendT (p,(7,1,[],2,5,0,0,0))).1 S w=((sendT (p,(7,1,[],2,5,0,0,0))).1,slX (p,(7,1,[],2,5,0,0,0)) S,w'):=fun w=>by
  unfold comeP
  rw [if_neg (by simp)]
  dsimp only
  rw [come_ask ox2]
  exact ⟨_,rfl⟩
 obtain ⟨w',ec⟩:=ec [(false,(sendT (p,(7,1,[],2,5,0,0,0))).2)]
 rw [q1v_ os1,come_law (sendT_ok ox2) os1 (q1nw_ ox2),ec,zD,lbank_eq,zD]
 dsimp only
 have hc:OkC (7,3,1,0,0):=cmdT_ok (v:=3) ox2.kt (by decide)
 have es:=serv_cmd os1 hc (A:=doneA (bank64 b) 1 40 L) (by rw [hS]; exact commit_do h64 h64r one k40 (by omega) fB wB z1) (done_ok h64 h64r one k40 (by omega) fB wB z1)
 have esl:slX (p,(7,1,[],2,5,0,0,0)) S=setA S (lateA (overB (bank64 b) L) other 0):=by
  have:reqT (p,(7,1,[],2,5,0,0,0))=cmdA (7,3,1,0,0):=rfl
  unfold slX
  rw [this,es]
  rfl
 have el:zF [L].length=1:=rfl
 rw [esl,el,if_neg (by decide),q9_ (by decide),show rem (1:Int) 1=0 from rfl,q12_,zD,bover_eq h64 (by omega) fB,zD]
 dsimp only
 have ela:nei (setA S (lateA (overB (bank64 b) L) other 0)).2.2.1.2.2.2.2.1 1=false:=rfl
 rw [if_neg (by decide),ela,if_neg (by decide)]
 have hB64:(overB (bank64 b) L).length=64:=overB_len h64 fB
 have hBr:∀ x ∈ overB (bank64 b) L,0≤x∧x≤65535:=overB_rng h64r wB
 have ew:qgi_ ((setA S (lateA (overB (bank64 b) L) other 0)).2.2.1.1,overB (bank64 b) L,())=some (true,()):=by
  rw [lwords_eq (by show (overB (bank64 b) L).length≤_; omega)]
  exact congrArg some (Prod.ext (decide_eq_true rfl) rfl)
 rw [ew,zD,if_neg (by decide)]
 have hm4:(far.toNat % 4)≤3:=by omega
 have er:rem far 4=((far.toNat % 4:Nat):Int):=by
  unfold rem
  rw [kC hf.1]
  omega
 have hL0:OkL p S 9 9 0:=⟨ox2,hpt⟩
 have esd:nei (sendT (p,(7,1,[],2,5,0,0,0))).1.2.2.2.2.2.2.2.2 0=false:=by
  rw [sendT_go ox2]
  rfl
 rw [esd]
 show qb1_ qb8_ other far false _ _=_
 unfold qb1_
 rw [if_neg (by decide),er,q9_ (qo_.2 (by omega)),q9_ (qo_.2 (by omega)),Int.sub_zero]
 exact late_K4 hB64 hBr ho h7 hL0 os1 hm4 (far.toNat % 4) 0 18446744073709551616 (by omega) (by omega)
end
theorem late_law {link other far:Int} {b:List Int} {l:List TBlk} (hk:0≤link) (hb:∀ x ∈ b,0≤x∧x≤65535) (hw:∀ b ∈ l,∀ y ∈ b.2,0≤y∧y≤65535) (ho:0≤other∧other≤65535) (hf:0≤far∧far≤255) :
  qil_ (link,b,l,other,far,())=some (true,()):=by
 have hsb:=begX_ok hk hb
 have htb:=begT_ok hk (show (0:Int)≤3 by decide) (show (0:Int)≤1 by decide)
 have K1t:∀ p o,qba_ b other far true true p o=some (true,()):=fun p o=>by
  show q5g_ q79_ b other far true true p o=_
  unfold q5g_
  rw [if_pos rfl,if_pos rfl,awake_eq]
  rfl
 show qbh_ qba_ link b l other far=_
 unfold qbh_
 rw [begun_eq hk (by decide) (by decide) hb,zD]
 dsimp only
 rw [if_neg (by decide)]
 by_cases h0:other=0
 ·rw [if_pos (q4_.2 h0),K1t]
 rw [if_neg (fun e=>h0 (q4_.1 e))]
 by_cases h7:other=7
 ·rw [show eqi other 7=true from q4_.2 h7,K1t]
 rw [show eqi other 7=false from by rw [<- Bool.not_eq_true,q4_]; exact h7]
 have hp:OkPl (begPl [l]):=begPl_ok (fun q hq=>by have:=List.mem_singleton.1 hq; subst this; exact hw)
 obtain ⟨hL4,hLb⟩:=fitF_ok hw
 have eL:planB [fitF l] 1=fitF l:=by kernel_rfl
 have fB:∀ x ∈ fitF l,fitsB x=true:=fun x hx=>(hLb x hx).1
 have wB:∀ x ∈ fitF l,∀ y ∈ x.2,0≤y∧y≤65535:=fun x hx=>(hLb x hx).2.2
 have epl:begPl [l]=[fitF l]:=rfl
 rw [epl] at hp ⊢
 generalize fitF l=L at hp hL4 eL fB wB ⊢
 have hI:InvE 0 (begT link 3 1) (begX link b) (bank64 b) 0:=⟨htb,hsb,rfl,rfl,rfl,.inl rfl,rfl,bank64_len b,bank64_rng hb,by decide,by decide⟩
 obtain ⟨T1,w1,T2,S2,p,b1,c1,b2,os2,sd2,ox2,aS,hpt⟩:=late_two (g:=0) hI ⟨rfl,rfl⟩ hp eL hL4 fB wB
 show q5g_ q79_ b other far true false (begT link 3 1,begX link b,(),0,0,[L]) []=_
 unfold q5g_
 rw [if_neg (by decide)]
 dsimp only
 rw [q1v_ hsb,b1,zD]
 dsimp only
 rw [if_neg (by decide),q1v_ hsb,c1,zD]
 dsimp only
 rw [if_neg (by decide),sd2,if_neg (by decide),q1v_ os2,b2,zD]
 dsimp only
 rw [if_neg (by decide)]
 exact late_K2 (by omega) h7 hf hb hL4 fB wB ox2 aS hpt
abbrev tBlk:Ty:=.pr (.int .i64) aC
theorem late_row (x:As [.int .u8,.sl (.int .u16),.sl tBlk,.int .u16,.int .u8]) (h:Rw.okA [.int .u8,.sl (.int .u16),.sl tBlk,.int .u16,.int .u8] x):qil_ x=some (true,()) :=
 late_law (link:=x.1) (b:=x.2.1) (l:=x.2.2.1) (other:=x.2.2.2.1) (far:=x.2.2.2.2.1) (ok8 h.1).1 (fun y hy=>ok16 (h.2.1.2 y hy)) (fun y hy w hw=>ok16 ((h.2.2.1.2 y hy).2.2 w hw)) (ok16 h.2.2.2.1) (ok8 h.2.2.2.2.1)
end Go.Proofs.Lx
end
