/- Part 11 of 14: PlanTells returns true, whatever it is given. Conditions: those of the given statement, no others. -/
import Derived.Test.YtnamnibaedolaaaPartj
import Derived.Test.YtnamnibaedolaaaParte
import Derived.Test.YtnamnibaedolaaaParti
import Derived.Test.YtnamnibaedolaaaPartd
import Derived.Test.YtnamnibaedolaaaProg
set_option linter.unusedVariables false
set_option linter.unusedSimpArgs false
section
set_option maxRecDepth 100000
namespace Go.Proofs.Lx
open Go Go.Proofs Go.RowKit Ev Sx Pl
noncomputable def wdH0:Code:=seqL wdL0
noncomputable def wdI0:Code:=seqL (seqR wdL0)
noncomputable def wdA0:Code:=seqL (blkC (seqL (seqR (seqR wdL0))))
noncomputable def wdM0:Code:=seqR (blkC (seqL (seqR (seqR wdL0))))
noncomputable def wdS0:Code:=seqR (seqR (seqR wdL0))
theorem wdL0_eq:wdL0 = .seq wdH0 (.seq wdI0 (.seq (.block 1 (.seq wdA0 wdM0)) wdS0)):=rfl
def w0Fr (t:Vl tabT) (v7:Value) (n k:Int):Fr:=[(28,.d kT n),(29,.d kT k),(7,.k v7),(0,.d tabT t),(3,.pb 0 0),(5,.pb 1 0)]
def w0S (fr:Fr) (r:Vl recT):St:={ fr:=fr,nt:=92,up:=[],own:=[(0,.box 42 [.d .str r.1,.d (.sl partT) r.2]),(1,.box 50 [.d kT 0,.d kT 0])],nx:=2,log:=[],ln:=0 }
def h0W (ts:List Nat):Hint:=⟨[],ts++[28,29,7,0,3,5]⟩
section
variable (vc:Vc) (vf:Vf) (vw:Vw) (t:Vl tabT) (r:Vl recT) (v7:Value) (n k:Int)
theorem h0_eq:evF NW (wdEnv vc vf vw) bkNo (h0W [30]) wdH0 (w0S (w0Fr t v7 n k) r)=some (.n,w0S ((30,.d .bool (lt k n))::w0Fr t v7 n k) r):=by kernel_rfl
theorem i0_eq (b:Bool):evF NW (wdEnv vc vf vw) bkNo (h0W []) wdI0 (w0S ((30,.d .bool b)::w0Fr t v7 n k) r)=if b=true then some (.n,w0S (w0Fr t v7 n k) r) else some (.x 0,w0S (w0Fr t v7 n k) r):=by kernel_rfl
theorem a0_eq:evF NW (wdEnv vc vf vw) bkNo (h0W [8]) wdA0 (w0S (w0Fr t v7 n k) r)=some (.n,w0S ((8,.d kT k)::w0Fr t v7 n k) r):=by kernel_rfl
theorem s0_eq:evF NW (wdEnv vc vf vw) bkNo (h0W []) wdS0 (w0S (w0Fr t v7 n k) r)=some (.n,w0S (w0Fr t v7 n (add .i64 k 1)) r):=by kernel_rfl
end
theorem m0_ops:∃ id o1 o2 o3 o4 o5,wdM0 = .region id #[o1,o2,o3,o4,o5] false∧o1={ o1 with dst:=some 32,op:=.move (.tmp 7),guard:=none }∧o2={ o2 with dst:=some 33,op:=.move (.tmp 8),guard:=none } ∧
  o3={ o3 with dst:=some 34,op:=.makeMap 24 none,guard:=none }∧o4={ o4 with dst:=some 35,op:=.indexAddr 54 (.tmp 32) (.tmp 33),guard:=none }∧o5={ o5 with dst:=none,op:=.store 24 (.tmp 35) (.tmp 34),guard:=none }:=⟨_,_,_,_,_,_,rfl,rfl,rfl,rfl,rfl,rfl⟩
section
variable {B0:Nat->Prop} {F:Lx} {pl:List Ev.Place} {own:List (Nat×Ent)} {w:World} {l:List Value} {fr:Fr}
theorem wd5_wp {n:Nat} {v7:Value} {a:Option Addr} {c:Nat} (hv:v7 = .slice a n c) (hl:l.length=92) {L:Lx} (hfr:FrD pl L w fr l) (h7:l.getD 7 undef=v7) (hno:∀ j ∈ [27,28,29],Ev.get fr j=none) :
  CW Try.prog wd5 (fun e a w'=>∃ l',e = .normal∧a=mk l'∧l'.length=92∧w'=w∧FrD pl L w ((28,.d kT n)::(29,.d kT 0)::(7,.k v7)::fr) l') l w:=by
 obtain ⟨id,o1,o2,o3,e0,e1,e2,e3⟩:=wd5_ops
 rw [e0,e1,e2,e3]
 subst hv
 refine cw_region (ops:=[_,_,_]) ?_
 refine wl_val (v:=.slice a n c) rfl (run_move h7) ?_
 have i1:Sx.ev (st l (some 27) (.slice a n c)) (.tmp 27) = .slice a n c:=q1g_ (by omega)
 refine wl_val (v:=.int .i64 n) rfl (Sx.run_len_slice (e:=24) (by kernel_rfl) i1) ?_
 refine wl_val (v:=.int .i64 0) rfl (run_move rfl) (wl_nil ⟨_,rfl,rfl,by simp [st,hl],rfl,?_⟩)
 refine ql_ ?_ (ql_ ?_ (ql_ ?_ ?_))
 ·show Den _ _ _ _ ((((l.set 27 _).set 28 _).set 29 _).getD 28 undef)
  rw [q36_ (by decide),q1g_ (by simp; omega)]
  exact ⟨_,rfl,rfl⟩
 ·show Den _ _ _ _ ((((l.set 27 _).set 28 _).set 29 _).getD 29 undef)
  rw [q1g_ (by simp; omega)]
  exact ⟨_,rfl,rfl⟩
 ·show ((((l.set 27 _).set 28 _).set 29 _).getD 7 undef)=_
  rw [q36_ (by decide),q36_ (by decide),q36_ (by decide)]
  exact h7
 ·show FrD _ _ _ fr (((l.set 27 _).set 28 _).set 29 _)
  exact frD_set (frD_set (frD_set hfr (hno 27 (by simp))) (hno 28 (by simp))) (hno 29 (by simp))
theorem put_cells {gs:List Nat} {n b:Nat} (h:gs.length < n):(gs.map mv++List.replicate (n - gs.length) nm).take gs.length++[mv b]++(gs.map mv++List.replicate (n - gs.length) nm).drop (gs.length + 1)=(gs++[b]).map mv++List.replicate (n - (gs++[b]).length) nm:=by
 have e1:(gs.map mv++List.replicate (n - gs.length) nm).take gs.length=gs.map mv:=by
  rw [List.take_append_of_le_length (by simp)]
  exact List.take_of_length_le (by simp)
 have e2:(gs.map mv++List.replicate (n - gs.length) nm).drop (gs.length + 1)=List.replicate (n - (gs++[b]).length) nm:=by
  rw [List.drop_append,List.drop_eq_nil_of_le (by simp),List.nil_append,List.drop_replicate]
  congr 1
  simp
  omega
 rw [e1,e2]
 simp
theorem m0_wp {g n:Nat} {gs:List Nat} {xs:List Mw} (hr:RowI B0 F w g n gs xs) (hlt:gs.length < n) (hst:Sto B0 [] (FM F g gs) pl own w) (hB:∀ k,w.heap.size≤k->B0 k) (hl:l.length=92) (hfr:FrD pl (lx pl own++FM F g gs) w fr l)
  (h7:l.getD 7 undef = .slice (some ⟨g,0,none⟩) n n) (h8:l.getD 8 undef = .int .i64 (gs.length:Nat)) (hno:∀ j ∈ [32,33,34,35],Ev.get fr j=none) :
  CW Try.prog wdM0 (fun e a w'=>∃ l' b,e = .normal∧a=mk l'∧l'.length=92∧RowI B0 F w' g n (gs++[b]) (xs++[[]])∧Sto B0 [] (FM F g (gs++[b])) pl own w'∧Blw B0 w w'∧FrD pl (lx pl own++FM F g (gs++[b])) w' fr l') l w:=by
 obtain ⟨id,o1,o2,o3,o4,o5,e0,e1,e2,e3,e4,e5⟩:=m0_ops
 rw [e0,e1,e2,e3,e4,e5]
 have hgl:=hr.lt
 refine cw_region (ops:=[_,_,_,_,_]) ?_
 refine wl_val (v:=.slice (some ⟨g,0,none⟩) n n) rfl (run_move h7) ?_
 refine wl_val (v:=.int .i64 (gs.length:Nat)) rfl (run_move (show Sx.ev (st l (some 32) _) (.tmp 8)=_ from (q36_ (by decide)).trans h8)) ?_
 refine wl_val (v:=.map (some w.heap.size)) (w':=w.alloc (.map #[] 0)) rfl rfl ?_
 refine wl_val rfl (run_indexAddr' (e:=24) (sz:=1) (k:=.i64) (j:=(gs.length:Nat)) (a:=some ⟨g,0,none⟩) (b:=g) (o:=0) (n:=n) (c:=n) (by kernel_rfl) (by kernel_rfl) ?_ rfl ?_ (by omega) (by simpa using hlt)) ?_
 ·show (((l.set 32 _).set 33 _).set 34 _).getD 32 undef=_
  rw [q36_ (by decide),q36_ (by decide),q1g_ (by omega)]
 ·show (((l.set 32 _).set 33 _).set 34 _).getD 33 undef=_
  rw [q36_ (by decide),q1g_ (by simp; omega)]
 have hf1:Fz [] w (w.alloc (.map #[] 0)):=Fz.alloc _ _ _
 have hb1:Bx (w.alloc (.map #[] 0)) g (gs.map mv++List.replicate (n - gs.length) nm) 24:=hr.bx.step hf1 nilN
 obtain ⟨W2,x1,x2,x3,x4⟩:=run_store_box (P:=Try.prog) (l:=(((l.set 32 (.slice (some ⟨g,0,none⟩) n n)).set 33 (.int .i64 (gs.length:Nat))).set 34 (.map (some w.heap.size))).set 35 (.pointer (some ⟨g,0 + ((gs.length:Nat):Int).toNat * 1,none⟩))) (w:=w.alloc (.map #[] 0)) (d:=none) (ty:=o5.type) (pos:=o5.pos) (af:=o5.after) (gd:=none) (t:=24) (x:=.tmp 35) (y:=.tmp 34) (g:=g) (j:=gs.length) (n:=1) (vs:=[mv w.heap.size]) (v:=mv w.heap.size) (by kernel_rfl)
  (by
    show ((((l.set 32 _).set 33 _).set 34 _).set 35 _).getD 35 undef=_
    rw [q1g_ (by simp; omega)]
    simp)
  (by
    show ((((l.set 32 _).set 33 _).set 34 _).set 35 _).getD 34 undef=_
    rw [q36_ (by decide),q1g_ (by simp; omega)])
  rfl rfl (by simp [Value.oneCell']) hb1 (by simp; omega)
 refine wl_skip rfl x1 ?_
 rw [put_cells hlt] at x4
 have hsz:W2.heap.size=w.heap.size + 1:=by rw [x2]; simp
 have hf:Fz [some g] w W2:=(hf1.sub (fun k hk=>by cases hk)).trans x3
 have hgn:g < w.heap.size:=hr.bx.lt
 have hF:∀ k,some k ∈ FM F g (gs++[w.heap.size])->(some k ∈ FM F g gs∨w.heap.size≤k)∧k < w.heap.size + 1:=fun k hk=>by
  rcases FM_mem.1 hk with h | h
  ·exact ⟨.inl (FM_mem.2 (.inl h)),by have:=(hst.far k (FM_mem.2 (.inl h))).2; omega⟩
  ·rw [<- List.cons_append] at h
   rcases List.mem_append.1 h with h | h
   ·exact ⟨.inl (FM_mem.2 (.inr h)),by have:=hgl k h; omega⟩
   ·simp at h; subst h; exact ⟨.inr (Nat.le_refl _),by omega⟩
 have hst1:Sto B0 [] (FM F g (gs++[w.heap.size])) pl own (w.alloc (.map #[] 0)):=hst.grow hf1 (fun k hk=>by simpa using hF k hk)
 have hst2:Sto B0 [] (FM F g (gs++[w.heap.size])) pl own W2:=hst1.turn (x3.sub fun k hk=>by simp at hk; subst hk; exact FM_mem.2 (.inr (by simp)))
 have hkeep:∀ b ∈ gs,W2.heap[b]? = w.heap[b]?:=fun b hb=>by
  refine hf.block b (hgl b (List.mem_cons_of_mem _ hb)) fun hk=>?_
  simp at hk
  subst hk
  exact (List.nodup_cons.1 hr.nd).1 hb
 have hnew:W2.heap[w.heap.size]? = some (.map #[] 0):=by
  rw [x3.block w.heap.size (by simp) (fun hk=>by simp at hk; omega)]
  exact Sx.heap_last w _
 refine wl_nil ⟨_,w.heap.size,rfl,rfl,by simp [st,hl],⟨x4,by simp; omega,by simp [hr.len],fun k b x h1 h2=>?_,?_,fun k hk=>?_,fun k hk=>?_⟩,hst2,(blw_alloc hf1).trans (blw_fz x3 (fun k hk=>by simp at hk; subst hk; exact hr.own _ (by simp))),?_⟩
 ·rcases Nat.lt_or_ge k gs.length with hk | hk
  ·rw [List.getElem?_append_left hk] at h1
   rw [List.getElem?_append_left (by rw [<- hr.len]; exact hk)] at h2
   exact MapIs.keep (hr.maps k b x h1 h2) (hkeep b (List.mem_of_getElem? h1))
  ·have hk1:=(List.getElem?_eq_some_iff.1 h1).1
   simp at hk1
   obtain rfl:k=gs.length:=by omega
   rw [List.getElem?_append_right (Nat.le_refl _),Nat.sub_self] at h1
   rw [List.getElem?_append_right (by have:=hr.len; omega),<- hr.len,Nat.sub_self] at h2
   cases h1
   cases h2
   exact ⟨#[],0,hnew,rfl,MapKept.stamped_empty 0⟩
 ·rw [<- List.cons_append]
  refine List.nodup_append.2 ⟨hr.nd,by simp,fun a ha b hb=>?_⟩
  simp at hb
  subst hb
  exact fun e=>by subst e; exact Nat.lt_irrefl _ (hgl _ ha)
 ·rw [<- List.cons_append] at hk
  rcases List.mem_append.1 hk with h | h
  ·exact hr.own k h
  ·simp at h; subst h; exact hB _ (Nat.le_refl _)
 ·rw [<- List.cons_append] at hk
  rcases List.mem_append.1 hk with h | h
  ·exact hr.far k h
  ·simp at h; subst h; exact fun hm=>by have:=(hst.far _ (FM_mem.2 (.inl hm))).2; omega
 ·have hE:Ext pl (lx pl own++FM F g gs) w pl (lx pl own++FM F g (gs++[w.heap.size])) W2:=by
   have hs:Sub w (lx pl own++FM F g (gs++[w.heap.size])) (lx pl own++FM F g gs):=fun k hk=>by
    rcases List.mem_append.1 hk with hk | hk
    ·exact .inl (List.mem_append_left _ hk)
    ·rcases (hF k hk).1 with h1 | h1
     ·exact .inl (List.mem_append_right _ h1)
     ·exact .inr h1
   have hM:∀ k,some k ∈ [some g]->some k ∈ lx pl own++FM F g (gs++[w.heap.size]):=fun k hk=>by simp at hk; subst hk; exact List.mem_append_right _ (FM_mem.2 (.inr (by simp)))
   have hf2:Fz (lx pl own++FM F g (gs++[w.heap.size])) w W2:=hf.sub hM
   exact ⟨fun _ _ h=>h,by intro α R cs x h; exact R.mono (R.grow h hs) hf2,by intro α R b o x h; exact (h.grow hs).mono hf2⟩
  show FrD _ _ _ fr ((((l.set 32 _).set 33 _).set 34 _).set 35 _)
  exact frD_set (frD_set (frD_set (frD_set (hfr.ext hE) (hno 32 (by simp))) (hno 33 (by simp))) (hno 34 (by simp))) (hno 35 (by simp))
end
end Go.Proofs.Lx
end
section
set_option maxRecDepth 100000
namespace Go.Proofs.Lx
open Go Go.Proofs Go.RowKit Ev Sx Pl
theorem q1d_ {P:Program} {c:Code} {Q Q':Exit->Act->World->Prop} {l:List Value} {w:World} (h:CW P c Q l w) (hq:∀ e a w,Q e a w->Q' e a w):CW P c Q' l w:=fun r=>Code.wpIn_mono hq (h r)
section
variable {B0:Nat->Prop} {p0:List Ev.Place} {F F1:Lx} {pl:List Ev.Place} {own:List (Nat×Ent)} {w w':World}
theorem bo_of {sz:Nat} (hbase:∀ k,sz≤k->B0 k) (hs:sz≤w.heap.size) (hst:Sto B0 p0 F1 pl own w):∀ k,Bo pl own w k->B0 k:=fun k hk=>by
 rcases hk with hk | hk
 ·exact hst.lo k hk
 ·exact hbase k (Nat.le_trans hs hk)
theorem keep_far (hst:Sto B0 p0 F1 pl own w) (hb:Blw (Bo pl own w) w w'):∀ k,some k ∈ F1->w'.heap[k]? = w.heap[k]?:=fun k hk=>hb.block k (hst.far k hk).2 (fun hx=>by
 rcases hx with hx | hx
 ·exact (hst.far k hk).1 hx
 ·have:=(hst.far k hk).2; omega)
theorem RowI.over {g n:Nat} {gs:List Nat} {xs:List Mw} (hr:RowI B0 F w g n gs xs) (hst:Sto B0 p0 (FM F g gs) pl own w) (hb:Blw (Bo pl own w) w w'):RowI B0 F w' g n gs xs :=
 hr.keep fun k hk=>keep_far hst hb k (FM_mem.2 (.inr hk))
end
def cntF (n:Nat) (self:Nat->Option Unit) (k:Nat):Option Unit:=if k < n then self (k + 1) else some ()
theorem cnt_all (n:Nat):∀ (m k:Nat),k≤n->n - k < m->loopF (cntF n) m k=some ()
 | 0,_,_,h=>by omega
 | m + 1,k,hk,h=>by
  show cntF n (loopF (cntF n) m) k=some ()
  unfold cntF
  by_cases hlt:k < n
  ·rw [if_pos hlt]; exact cnt_all n m (k + 1) (by omega) (by omega)
  ·rw [if_neg hlt]
section
variable {vc:Vc} {vf:Vf} {vw:Vw} {B0:Nat->Prop} {F:Lx} {sz:Nat} {wa:World}
theorem loop0_wp (henv:EnvOk Try.prog (fun _=>True) (wdEnv vc vf vw)) (hbase:∀ k,sz≤k->B0 k) {t:Vl tabT} {r:Vl recT} {g n:Nat} (hn:n≤1000) {pl:List Ev.Place} {w:World} {l:List Value} (hsz:sz≤w.heap.size)
  (hr:RowI B0 F w g n [] []) (hst:Sto B0 [] (FM F g []) pl (w0S [] r).own w) (hpl:pl.length=2) (hl:l.length=92) (hfr:FrD pl (lx pl (w0S [] r).own++FM F g []) w (w0Fr t (.slice (some ⟨g,0,none⟩) n n) n 0) l) :
  CW Try.prog (.loop wdL0) (fun e a w'=>∃ l' pl' gs,e = .exit 0∧a=mk l'∧l'.length=92∧pl'.length=2∧gs.length=n∧RowI B0 F w' g n gs (List.replicate n [])∧Sto B0 [] (FM F g gs) pl' (w0S [] r).own w'∧Blw B0 w w' ∧
   FrD pl' (lx pl' (w0S [] r).own++FM F g gs) w' (w0Fr t (.slice (some ⟨g,0,none⟩) n n) n n) l') l w:=by
 refine cw_loop (σ:=Nat) (R:=Unit) (cntF n) () (fun k l' w'=>k≤n∧∃ gs pl',gs.length=k∧RowI B0 F w' g n gs (List.replicate k [])∧Sto B0 [] (FM F g gs) pl' (w0S [] r).own w'∧pl'.length=2∧l'.length=92∧Blw B0 w w' ∧
   FrD pl' (lx pl' (w0S [] r).own++FM F g gs) w' (w0Fr t (.slice (some ⟨g,0,none⟩) n n) n k) l') ?_ (n:=n + 1) (s:=0) ⟨Nat.zero_le _,[],pl,rfl,hr,hst,hpl,hl,Blw.refl _ _,hfr⟩ (cnt_all n (n + 1) 0 (Nat.zero_le _) (by omega))
 rintro self k l1 w1 ⟨hk,gs,pl1,hgs,r1,s1,hp1,hl1,b1,f1⟩ hself
 have z1:sz≤w1.heap.size:=Nat.le_trans hsz b1.size
 rw [wdL0_eq]
 have p:=q15_ (S:=w0S (w0Fr t (.slice (some ⟨g,0,none⟩) n n) n k) r) (l:=l1) henv (bo_of hbase z1 s1) s1 rfl hp1.symm rfl hl1 f1 (h0_eq vc vf vw t r (.slice (some ⟨g,0,none⟩) n n) n k)
 refine cw_seq (q1d_ p ?_)
 rintro e a w2 ⟨pl2,l2,rfl,rfl,hl2,hp2,s2,f2,b2⟩
 have r2:=r1.over s1 b2
 have b2':=b1.trans (qo_ b2 (bo_of hbase z1 s1))
 have z2:sz≤w2.heap.size:=Nat.le_trans hsz b2'.size
 refine ⟨l2,rfl,?_⟩
 have p:=q15_ (S:=w0S ((30,.d .bool (lt k n))::w0Fr t (.slice (some ⟨g,0,none⟩) n n) n k) r) (l:=l2) henv (bo_of hbase z2 s2) s2 rfl hp2.symm rfl hl2 f2 (S1:=w0S (w0Fr t (.slice (some ⟨g,0,none⟩) n n) n k) r) (e0:=if (lt k n)=true then .n else .x 0) (by
  rw [i0_eq]
  split <;> rfl)
 refine cw_seq (q1d_ p ?_)
 rintro e a w3 ⟨pl3,l3,rfl,rfl,hl3,hp3,s3,f3,b3⟩
 have r3:=r2.over s2 b3
 have b3':=b2'.trans (qo_ b3 (bo_of hbase z2 s2))
 have z3:sz≤w3.heap.size:=Nat.le_trans hsz b3'.size
 by_cases hlt:k < n
 ·rw [if_pos (q1_.2 (by omega))]
  refine ⟨l3,rfl,?_⟩
  have hself:self (k + 1)=some ():=by unfold cntF at hself; rwa [if_pos hlt] at hself
  refine cw_seq (cw_block (cw_seq ?_))
  have p:=q15_ (S:=w0S (w0Fr t (.slice (some ⟨g,0,none⟩) n n) n k) r) (l:=l3) henv (bo_of hbase z3 s3) s3 rfl hp3.symm rfl hl3 f3 (a0_eq vc vf vw t r (.slice (some ⟨g,0,none⟩) n n) n k)
  refine q1d_ p ?_
  rintro e a w4 ⟨pl4,l4,rfl,rfl,hl4,hp4,s4,f4,b4⟩
  have r4:=r3.over s3 b4
  have b4':=b3'.trans (qo_ b4 (bo_of hbase z3 s3))
  have z4:sz≤w4.heap.size:=Nat.le_trans hsz b4'.size
  refine ⟨l4,rfl,?_⟩
  have d8:l4.getD 8 undef = .int .i64 (gs.length:Nat):=by
   obtain ⟨cs,h1,h2⟩:=f4 8 _ rfl
   rw [h2,hgs]
   cases h1
   rfl
  have d7:l4.getD 7 undef = .slice (some ⟨g,0,none⟩) n n:=f4 7 _ rfl
  refine q1d_ (m0_wp (fr:=w0Fr t (.slice (some ⟨g,0,none⟩) n n) n k) r4 (by omega) s4 (fun k hk=>hbase k (Nat.le_trans z4 hk)) hl4 (fun t' s' hg=>f4 t' s' (by
   show Ev.get ((8,_)::_) t'=_
   unfold Ev.get
   split
   ·rename_i e; subst e; cases hg
   ·exact hg)) d7 d8 (fun j hj=>by simp at hj; rcases hj with rfl | rfl | rfl | rfl <;> rfl)) ?_
  rintro e a w5 ⟨l5,b,rfl,rfl,hl5,r5,s5,b5,f5⟩
  have b5':=b4'.trans b5
  have z5:sz≤w5.heap.size:=Nat.le_trans hsz b5'.size
  refine ⟨l5,rfl,?_⟩
  have p:=q15_ (S:=w0S (w0Fr t (.slice (some ⟨g,0,none⟩) n n) n k) r) (l:=l5) henv (bo_of hbase z5 s5) s5 rfl hp4.symm rfl hl5 f5 (s0_eq vc vf vw t r (.slice (some ⟨g,0,none⟩) n n) n k)
  refine q1d_ p ?_
  rintro e a w6 ⟨pl6,l6,rfl,rfl,hl6,hp6,s6,f6,b6⟩
  have r6:=r5.over s5 b6
  refine ⟨l6,rfl,k + 1,⟨by omega,gs++[b],pl6,by simp [hgs],?_,s6,hp6,hl6,b5'.trans (qo_ b6 (bo_of hbase z5 s5)),?_⟩,hself⟩
  ·rw [List.replicate_succ']
   exact r6
  ·have e1:add .i64 (k:Int) 1=((k + 1:Nat):Int):=by rw [add64 (by omega) (by omega)]; omega
   rw [e1] at f6
   exact f6
 ·obtain rfl:k=n:=by omega
  rw [if_neg (by rw [q1_]; omega)]
  exact ⟨l3,pl3,gs,rfl,rfl,hl3,hp3,hgs,r3,s3,b3',f3⟩
end
end Go.Proofs.Lx
end
section
set_option maxRecDepth 100000
namespace Go.Proofs.Lx
open Go Go.Proofs Go.RowKit Ev Sx Pl
section
variable (vc:Vc) (vf:Vf) (vw:Vw) (t:Vl tabT) (r:Vl recT) (ps:List (Vl partT)) (v7:Value) (n k:Int)
theorem c6_eq:evF NW (wdEnv vc vf vw) bkNo hW2 wd6 (w0S (w0Fr t v7 n k) r)=some (.n,wS3 t r.2 v7 (Int.ofNat (List.length r.2)) 0):=by kernel_rfl
theorem hd_eq:evF NW (wdEnv vc vf vw) bkNo hW3 wdH (wS3 t ps v7 n k)=some (.n,{ wS3 t ps v7 n k with fr:=(41,.d .bool (lt k n))::(wS3 t ps v7 n k).fr }):=by kernel_rfl
theorem if_eq (b:Bool):evF NW (wdEnv vc vf vw) bkNo hW2 wdI { wS3 t ps v7 n k with fr:=(41,.d .bool b)::(wS3 t ps v7 n k).fr }=if b=true then some (.n,wS3 t ps v7 n k) else some (.x 2,wS3 t ps v7 n k):=by kernel_rfl
theorem b1_eq:evF NW (wdEnv vc vf vw) bkNo hW4 wdB1 (wS3 t ps v7 n k)=(at? ps k).bind fun y=>some (.n,wS4 t ps v7 n k y):=by kernel_rfl
theorem b2_eq (y:Vl partT):evF NW (wdEnv vc vf vw) bkNo hW5 wdB2 (wS4 t ps v7 n k y)=(vf (t,y.1,())).bind fun z=>some (.n,wS5 t ps v7 n k y z.1 z.2.1):=by kernel_rfl
theorem b3_eq (y:Vl partT) (i:Int) (ok:Bool):evF NW (wdEnv vc vf vw) bkNo hW5 wdB3 (wS5 t ps v7 n k y i ok)=if (!ok)=true then some (.x 3,wS5 t ps v7 n k y i ok) else some (.n,wS5 t ps v7 n k y i ok):=by kernel_rfl
theorem s_eq:evF NW (wdEnv vc vf vw) bkNo hW2 wdS (wS3 t ps v7 n k)=some (.n,wS3 t ps v7 n (add .i64 k 1)):=by kernel_rfl
theorem s5_eq (y:Vl partT) (i:Int) (ok:Bool):evF NW (wdEnv vc vf vw) bkNo hW2 wdS (wS5 t ps v7 n k y i ok)=some (.n,wS3 t ps v7 n (add .i64 k 1)):=by kernel_rfl
end
def wPart (vf:Vf) (vw:Vw) (t:Vl tabT) (y:Vl partT) (xs:List Mw):Option (List Mw) :=
 (vf (t,y.1,())).bind fun z=>if z.2.1=true then (at? t z.1).bind fun d=>(at? xs z.1).bind fun m=>(wSets vw d.2 y.2.2 m).bind fun m'=>some (xs.set z.1.toNat m') else some xs
def wAll (vf:Vf) (vw:Vw) (t:Vl tabT):List (Vl partT)->List Mw->Option (List Mw)
 | [],xs=>some xs
 | y::q,xs=>(wPart vf vw t y xs).bind fun xs'=>wAll vf vw t q xs'
abbrev rowP (g n:Nat):Ev.Place:=⟨some ⟨g,0,none⟩,n,n⟩
abbrev mapP (b:Nat):Ev.Place:=⟨some ⟨b,0,none⟩,0,0⟩
def FX (F:Lx) (gs:List Nat) (b:Nat):Lx:=F++(gs.filter (·≠ b)).map some
theorem FX_mem {F:Lx} {gs:List Nat} {b k:Nat}:some k ∈ FX F gs b ↔ some k ∈ F∨(k ∈ gs∧k ≠ b):=by
 unfold FX
 rw [List.mem_append]
 constructor
 ·rintro (h | h)
  ·exact .inl h
  ·obtain ⟨a,h1,h2⟩:=List.mem_map.1 h
   cases h2
   have:=List.mem_filter.1 h1
   exact .inr ⟨this.1,by simpa using this.2⟩
 ·rintro (h | h)
  ·exact .inl h
  ·exact .inr (List.mem_map_of_mem (f:=some) (List.mem_filter.2 ⟨h.1,by simpa using h.2⟩))
def mVals (m:Mw):List (Int×Value):=m.map fun a=>(a.1,Value.int .u16 a.2)
theorem dmd_of (L:Lx) (w:World):∀ m:Mw,DmD (kt:=kT) (vt:=uT) L w (mVals m) m
 | []=>rfl
 | a::q=>⟨a,q,rfl,rfl,⟨[.int .u16 a.2],rfl,rfl⟩,dmd_of L w q⟩
theorem dmd_to {L:Lx} {w:World}:∀ {vs:List (Int×Value)} {m:Mw},DmD (kt:=kT) (vt:=uT) L w vs m->vs=mVals m
 | [],_,h=>by cases h; rfl
 | (a,v)::q,_,⟨b,r,h1,h2,⟨cs,h3,h4⟩,h5⟩=>by
  subst h1
  have h2:a=b.1:=h2
  cases h3
  have h4:v = .int .u16 b.2:=h4
  subst h2 h4
  rw [dmd_to h5]
  rfl
theorem mis_of {w:World} {b:Nat} {m:Mw} (h:MapIs (keyV kT) (fun v:Int=>Value.int .u16 v) w b m):MapIs (keyV kT) (fun v:Value=>v) w b (mVals m):=by
 obtain ⟨es,cl,h1,h2,h3⟩:=h
 refine ⟨es,cl,h1,?_,h3⟩
 rw [h2]
 unfold mVals
 rw [List.map_map]
 rfl
theorem mis_to {w:World} {b:Nat} {m:Mw} (h:MapIs (keyV kT) (fun v:Value=>v) w b (mVals m)):MapIs (keyV kT) (fun v:Int=>Value.int .u16 v) w b m:=by
 obtain ⟨es,cl,h1,h2,h3⟩:=h
 refine ⟨es,cl,h1,?_,h3⟩
 rw [h2]
 unfold mVals
 rw [List.map_map]
 rfl
section
variable {B0:Nat->Prop} {F:Lx} {pl:List Ev.Place} {w w':World} {l:List Value} {t:Vl tabT} {ps:List (Vl partT)} {n k i:Int} {y:Vl partT} {g nd b:Nat} {gs:List Nat} {xs:List Mw} {m:Mw} {v7:Value} {ok:Bool}
theorem gs_ne (hr:RowI B0 F w g nd gs xs) (hb:b ∈ gs):g ≠ b:=fun e=>by
 subst e
 exact (List.nodup_cons.1 hr.nd).1 hb
theorem box_shift {L L':Lx} {p q:Ev.Place} {i:Nat} {T:TypeId} {cs:List SV} (hs:∀ k:Nat,some k ∈ L'->some k ∈ L) (hd:∀ us,DenL pl L w cs us->DenL (p::q::pl) L' w cs us) (h:EntD pl L w i (.box T cs)):EntD (p::q::pl) L' w (i + 2) (.box T cs):=by
 obtain ⟨a,n,c,us,h1,h2,h3,h4⟩:=h
 exact ⟨a,n,c,us,h1,h2,hd us h3,h4⟩
theorem denL_d {L L':Lx} {pl pl':List Ev.Place} (hs:∀ k:Nat,some k ∈ L'->some k ∈ L):∀ {cs:List SV} {us:List Value},(∀ s ∈ cs,∃ (ty:Ty) (x:Vl ty),s = .d ty x)->DenL pl L w cs us->DenL pl' L' w cs us
 | [],_,_,h=>h
 | _::q,_,hc,⟨v,r,h1,h2,h3⟩=>by
  obtain ⟨ty,x,rfl⟩:=hc _ (List.mem_cons_self ..)
  obtain ⟨cs,e1,e2⟩:=h2
  exact ⟨v,r,h1,⟨cs,Rp.grow _ e1 (sub_of hs),e2⟩,denL_d hs (fun s hs'=>hc s (List.mem_cons_of_mem _ hs')) h3⟩
theorem conv_in (hr:RowI B0 F w g nd gs xs) (hgs:gs.length=nd) (hst:Sto B0 [] (FM F g gs) pl (wOwn1 y) w) (hpl:pl.length=2) (hi:0≤i) (hb:gs[i.toNat]? = some b) (hm:xs[i.toNat]? = some m)
  (hfr:FrD pl (lx pl (wOwn1 y)++FM F g gs) w (wS5 t ps (.slice (some ⟨g,0,none⟩) nd nd) n k y i ok).fr l) :
  Sto B0 [rowP g nd,mapP b] (FX F gs b) (rowP g nd::mapP b::pl) (wS6 (gs.map mv) t ps n k y i m).own w ∧
  FrD (rowP g nd::mapP b::pl) (lx (rowP g nd::mapP b::pl) (wS6 (gs.map mv) t ps n k y i m).own++FX F gs b) w (wS6 (gs.map mv) t ps n k y i m).fr l:=by
 have hbm:b ∈ gs:=List.mem_of_getElem? hb
 have hgb:=gs_ne hr hbm
 have hlx:lx (rowP g nd::mapP b::pl) (wS6 (gs.map mv) t ps n k y i m).own=some g::some b::lx pl (wOwn1 y):=rfl
 have hsub:∀ z:Nat,some z ∈ lx (rowP g nd::mapP b::pl) (wS6 (gs.map mv) t ps n k y i m).own++FX F gs b->some z ∈ lx pl (wOwn1 y)++FM F g gs:=fun k hk=>by
  rw [hlx] at hk
  rcases List.mem_append.1 hk with hk | hk
  ·rcases List.mem_cons.1 hk with hk | hk
   ·cases hk; exact List.mem_append_right _ (FM_mem.2 (.inr (by simp)))
   ·rcases List.mem_cons.1 hk with hk | hk
    ·cases hk; exact List.mem_append_right _ (FM_mem.2 (.inr (List.mem_cons_of_mem _ hbm)))
    ·exact List.mem_append_left _ hk
  ·rcases FX_mem.1 hk with h | h
   ·exact List.mem_append_right _ (FM_mem.2 (.inl h))
   ·exact List.mem_append_right _ (FM_mem.2 (.inr (List.mem_cons_of_mem _ h.1)))
 have hnot:∀ k ∈ g::gs,some k ∉ lx pl (wOwn1 y):=fun k hk=>(hst.far k (FM_mem.2 (.inr hk))).1
 have hbxs:gs.map mv++List.replicate (nd - gs.length) nm=gs.map mv:=by rw [hgs,Nat.sub_self]; simp
 have hbx:=hr.bx
 rw [hbxs] at hbx
 have hilt:i.toNat < nd:=by rw [<- hgs]; exact (List.getElem?_eq_some_iff.1 hb).1
 refine ⟨⟨?_,fun k hk=>?_,fun k hk=>?_,fun k hk=>⟨fun hx=>?_,?_⟩,fun j p hp=>?_,fun e he=>?_⟩,?_⟩
 ·rw [hlx]
  refine List.pairwise_cons.2 ⟨fun a ha k e1 e2=>?_,List.pairwise_cons.2 ⟨fun a ha k e1 e2=>?_,hst.pair⟩⟩
  ·cases e1
   subst e2
   rcases List.mem_cons.1 ha with h | h
   ·cases h; exact hgb rfl
   ·exact hnot _ (by simp) h
  ·cases e1
   subst e2
   exact hnot _ (List.mem_cons_of_mem _ hbm) ha
 ·rw [hlx] at hk
  rcases List.mem_cons.1 hk with h | h
  ·cases h; exact hr.own _ (by simp)
  ·rcases List.mem_cons.1 h with h | h
   ·cases h; exact hr.own _ (List.mem_cons_of_mem _ hbm)
   ·exact hst.lo k h
 ·rw [hlx] at hk
  rcases List.mem_cons.1 hk with h | h
  ·cases h; exact hr.lt _ (by simp)
  ·rcases List.mem_cons.1 h with h | h
   ·cases h; exact hr.lt _ (List.mem_cons_of_mem _ hbm)
   ·exact hst.hi k h
 ·rw [hlx] at hx
  rcases FX_mem.1 hk with h | h
  ·rcases List.mem_cons.1 hx with hx | hx
   ·cases hx; exact hr.far _ (by simp) h
   ·rcases List.mem_cons.1 hx with hx | hx
    ·cases hx; exact hr.far _ (List.mem_cons_of_mem _ hbm) h
    ·exact (hst.far k (FM_mem.2 (.inl h))).1 hx
  ·rcases List.mem_cons.1 hx with hx | hx
   ·cases hx; exact (List.nodup_cons.1 hr.nd).1 h.1
   ·rcases List.mem_cons.1 hx with hx | hx
    ·cases hx; exact h.2 rfl
    ·exact hnot k (List.mem_cons_of_mem _ h.1) hx
 ·rcases FX_mem.1 hk with h | h
  ·exact (hst.far k (FM_mem.2 (.inl h))).2
  ·exact hr.lt k (List.mem_cons_of_mem _ h.1)
 ·match j,hp with
  | 0,hp=>exact hp
  | 1,hp=>exact hp
 ·have e0:=hst.ent (0,_) (show (0,Ent.box 80 [.d .str y.1,.d kT y.2.1,.d (.sl setT) y.2.2]) ∈ wOwn1 y by simp [wOwn1])
  have e1:=hst.ent (1,_) (show (1,Ent.box 50 [.d kT 0,.d kT 0]) ∈ wOwn1 y by simp [wOwn1])
  simp only [wS6,List.mem_cons,List.not_mem_nil,or_false] at he
  rcases he with rfl | rfl | rfl | rfl
  ·refine ⟨g,nd,nd,mv b,rfl,hbx,by simp [hgs],⟨hi,hilt⟩,?_,⟨_,[],rfl,⟨b,0,0,rfl,rfl⟩,rfl⟩⟩
   rw [List.getElem?_map,hb]
   rfl
  ·exact ⟨b,0,0,mVals m,rfl,mis_of (hr.maps _ _ _ hb hm),dmd_of _ _ m⟩
  ·exact box_shift hsub (fun us=>denL_d hsub (by simp)) e0
  ·exact box_shift hsub (fun us=>denL_d hsub (by simp)) e1
 ·have dd:∀ {j:Nat} {ty:Ty} {x:Vl ty},Ev.get (wS5 t ps (.slice (some ⟨g,0,none⟩) nd nd) n k y i ok).fr j=some (.d ty x)->Den (rowP g nd::mapP b::pl) (lx (rowP g nd::mapP b::pl) (wS6 (gs.map mv) t ps n k y i m).own++FX F gs b) w (.d ty x) (l.getD j undef):=fun hg=>by
   obtain ⟨cs,h1,h2⟩:=hfr _ _ hg
   exact ⟨cs,Rp.grow _ h1 (sub_of hsub),h2⟩
  have dp:∀ {j o:Nat},Ev.get (wS5 t ps (.slice (some ⟨g,0,none⟩) nd nd) n k y i ok).fr j=some (.pb o 0)->Den (rowP g nd::mapP b::pl) (lx (rowP g nd::mapP b::pl) (wS6 (gs.map mv) t ps n k y i m).own++FX F gs b) w (.pb (o + 2) 0) (l.getD j undef):=fun hg=>by
   obtain ⟨a,n',c',h1,h2⟩:=hfr _ _ hg
   exact ⟨a,n',c',h1,h2⟩
  refine ql_ (dd rfl) (ql_ (dp (o:=0) rfl) (ql_ ⟨rowP g nd,rfl,hfr 7 _ rfl⟩ (ql_ (dd rfl) (ql_ (dp (o:=1) rfl) (ql_ (dd rfl) (ql_ (dd rfl) (ql_ (dd rfl) frD_nil)))))))
end
end Go.Proofs.Lx
end
section
set_option maxRecDepth 100000
namespace Go.Proofs.Lx
open Go Go.Proofs Go.RowKit Ev Sx Pl
section
variable {B0:Nat->Prop} {F:Lx} {w w':World} {l l':List Value} {t:Vl tabT} {ps:List (Vl partT)} {n kk i:Int} {y:Vl partT} {g nd b:Nat} {gs:List Nat} {xs:List Mw} {m m':Mw}
theorem conv_out {pl2:List Ev.Place} (hr:RowI B0 F w g nd gs xs) (hgs:gs.length=nd) (hb:gs[i.toNat]? = some b) (hm:xs[i.toNat]? = some m)
  (hst:Sto B0 [rowP g nd,mapP b] (FX F gs b) pl2 (lOwn (gs.map mv) i m') w') (hpl:pl2.length=3) (hkeep:∀ k:Nat,some k ∈ FX F gs b->w'.heap[k]? = w.heap[k]?)
  (hfr:FrD pl2 (lx pl2 (lOwn (gs.map mv) i m')++FX F gs b) w' (wS7 (gs.map mv) t ps n kk i m').fr l') :
  RowI B0 F w' g nd gs (xs.set i.toNat m')∧∃ pl3,pl3.length=1∧Sto B0 [] (FM F g gs) pl3 wOwn w'∧FrD pl3 (lx pl3 wOwn++FM F g gs) w' (wS3 t ps (.slice (some ⟨g,0,none⟩) nd nd) n kk).fr l':=by
 have hbm:b ∈ gs:=List.mem_of_getElem? hb
 have hgb:=gs_ne hr hbm
 have hbxs:gs.map mv++List.replicate (nd - gs.length) nm=gs.map mv:=by rw [hgs,Nat.sub_self]; simp
 match pl2,hpl,hst,hfr with
 | [p,q,c],_,hst,hfr =>
 obtain rfl:rowP g nd=p:=Option.some.inj (hst.pre 0 _ rfl).symm
 obtain rfl:mapP b=q:=Option.some.inj (hst.pre 1 _ rfl).symm
 obtain ⟨g',n',c',u,e1,e2,e3,e4,e5,_⟩:=hst.ent (0,.rowq 24 (gs.map mv) i [.mp 1]) (by simp [lOwn])
 cases e1
 obtain ⟨b',n2,c2,vs,d1,d2,d3⟩:=hst.ent (1,.dm kT uT m') (by simp [lOwn])
 cases d1
 have dB:=hst.ent (2,.box 50 [.d kT 0,.d kT 0]) (by simp [lOwn])
 have hlx:lx [rowP g nd,mapP b,c] (lOwn (gs.map mv) i m')=[some g,some b,blk c.a]:=rfl
 have hlx3:lx [c] wOwn=[blk c.a]:=rfl
 have hpair:=hst.pair
 rw [hlx] at hpair
 have hp1:=List.pairwise_cons.1 hpair
 have hp2:=List.pairwise_cons.1 hp1.2
 have hR:RowI B0 F w' g nd gs (xs.set i.toNat m'):=by
  refine ⟨by rw [hbxs]; exact e2,hr.le,by rw [List.length_set]; exact hr.len,fun k b2 x h1 h2=>?_,hr.nd,hr.own,hr.far⟩
  by_cases hk:i.toNat=k
  ·subst hk
   rw [hb] at h1
   cases h1
   rw [List.getElem?_set_self (by have:=(List.getElem?_eq_some_iff.1 hm).1; exact this)] at h2
   cases h2
   rw [dmd_to d3] at d2
   exact mis_to d2
  ·rw [List.getElem?_set_ne hk] at h2
   have hne:b2 ≠ b:=fun e=>by
    subst e
    have h3:=(List.getElem?_eq_some_iff.1 h1)
    have h4:=(List.getElem?_eq_some_iff.1 hb)
    exact hk ((List.getElem_inj (List.nodup_cons.1 hr.nd).2).1 (h4.2.trans h3.2.symm))
   exact MapIs.keep (hr.maps k b2 x h1 h2) (hkeep b2 (FX_mem.2 (.inr ⟨List.mem_of_getElem? h1,hne⟩)))
 have hsub:∀ z:Nat,some z ∈ lx [c] wOwn++FM F g gs->some z ∈ lx [rowP g nd,mapP b,c] (lOwn (gs.map mv) i m')++FX F gs b:=fun k hk=>by
  rw [hlx]
  rw [hlx3] at hk
  rcases List.mem_append.1 hk with hk | hk
  ·exact List.mem_append_left _ (List.mem_cons_of_mem _ (List.mem_cons_of_mem _ hk))
  ·rcases FM_mem.1 hk with h | h
   ·exact List.mem_append_right _ (FX_mem.2 (.inl h))
   ·rcases List.mem_cons.1 h with h | h
    ·subst h; exact List.mem_append_left _ (by simp)
    ·by_cases hkb:k=b
     ·subst hkb; exact List.mem_append_left _ (by simp)
     ·exact List.mem_append_right _ (FX_mem.2 (.inr ⟨h,hkb⟩))
 refine ⟨hR,[c],rfl,⟨?_,fun k hk=>?_,fun k hk=>?_,fun k hk=>⟨fun hx=>?_,?_⟩,(fun j p hp=>by simp at hp),fun e he=>?_⟩,?_⟩
 ·rw [hlx3]; simp
 ·rw [hlx3] at hk
  exact hst.lo k (by rw [hlx]; exact List.mem_cons_of_mem _ (List.mem_cons_of_mem _ hk))
 ·rw [hlx3] at hk
  exact hst.hi k (by rw [hlx]; exact List.mem_cons_of_mem _ (List.mem_cons_of_mem _ hk))
 ·rw [hlx3] at hx
  have hx':blk c.a=some k:=(List.mem_singleton.1 hx).symm
  rcases FM_mem.1 hk with h | h
  ·exact (hst.far k (FX_mem.2 (.inl h))).1 (by rw [hlx,hx']; simp)
  ·rcases List.mem_cons.1 h with h | h
   ·subst h; exact hp1.1 (blk c.a) (by simp) _ rfl hx'
   ·by_cases hkb:k=b
    ·subst hkb; exact hp2.1 (blk c.a) (by simp) _ rfl hx'
    ·exact (hst.far k (FX_mem.2 (.inr ⟨h,hkb⟩))).1 (by rw [hlx,hx']; simp)
 ·rcases FM_mem.1 hk with h | h
  ·exact (hst.far k (FX_mem.2 (.inl h))).2
  ·exact hR.lt k h
 ·simp [wOwn] at he
  subst he
  obtain ⟨a,n3,c3,us,h1,h2,h3,h4⟩:=dB
  exact ⟨a,n3,c3,us,h1,h2,denL_d hsub (by simp) h3,h4⟩
 ·have dd:∀ {j:Nat} {ty:Ty} {x:Vl ty},Ev.get (wS7 (gs.map mv) t ps n kk i m').fr j=some (.d ty x)->Den [c] (lx [c] wOwn++FM F g gs) w' (.d ty x) (l'.getD j undef):=fun hg=>by
   obtain ⟨cs,h1,h2⟩:=hfr _ _ hg
   exact ⟨cs,Rp.grow _ h1 (sub_of hsub),h2⟩
  have d7:l'.getD 7 undef = .slice (some ⟨g,0,none⟩) nd nd:=by
   obtain ⟨p,h1,h2⟩:=hfr 7 _ rfl
   cases h1
   exact h2
  have d5:Den [c] (lx [c] wOwn++FM F g gs) w' (.pb 0 0) (l'.getD 5 undef):=by
   obtain ⟨a,n',c',h1,h2⟩:=hfr 5 _ rfl
   exact ⟨a,n',c',h1,h2⟩
  exact ql_ d7 (ql_ (dd rfl) (ql_ d5 (ql_ (dd rfl) (ql_ (dd rfl) (ql_ (dd rfl) frD_nil)))))
end
section
variable {vc:Vc} {vf:Vf} {vw:Vw} {B0:Nat->Prop} {F:Lx} {sz:Nat}
def okT (t:Vl tabT):Bool:=(show List (Vl devT) from t).all fun d=>decide ((show List (Vl ptT) from d.2).length≤1000)
def okP (ps:List (Vl partT)):Bool:=decide (ps.length≤1000) && ps.all fun y=>decide ((show List (Vl setT) from y.2.2).length≤1000)
theorem at_mem {α:Type} {xs:List α} {j:Int} {x:α} (h:at? xs j=some x):x ∈ xs:=List.mem_of_getElem? (at_some h).2.1
def outF (vf:Vf) (vw:Vw) (t:Vl tabT) (ps:List (Vl partT)) (self:Nat×List Mw->Option (List Mw)) (s:Nat×List Mw):Option (List Mw) :=
 match ps[s.1]? with
 | some y=>(wPart vf vw t y s.2).bind fun xs=>self (s.1 + 1,xs)
 | none=>some s.2
theorem out_all (vf:Vf) (vw:Vw) (t:Vl tabT) (ps:List (Vl partT)):∀ (m k:Nat) (xs:List Mw),k≤ps.length->ps.length - k < m->loopF (outF vf vw t ps) m (k,xs)=wAll vf vw t (ps.drop k) xs
 | 0,_,_,_,h=>by omega
 | m + 1,k,xs,hk,h=>by
  show outF vf vw t ps (loopF (outF vf vw t ps) m) (k,xs)=_
  unfold outF
  by_cases hlt:k < ps.length
  ·rw [List.getElem?_eq_getElem hlt,List.drop_eq_getElem_cons hlt,wAll]
   simp only
   congr 1
   funext xs'
   exact out_all vf vw t ps m (k + 1) xs' (by omega) (by omega)
  ·obtain rfl:k=ps.length:=by omega
   rw [List.getElem?_eq_none (Nat.le_refl _),List.drop_length]
   rfl
theorem loop2_wp (henv:EnvOk Try.prog (fun _=>True) (wdEnv vc vf vw)) (hbase:∀ k,sz≤k->B0 k) {t:Vl tabT} {ps:List (Vl partT)} (hot:okT t=true) (hop:okP ps=true) {g nd:Nat} {gs:List Nat} {xs0 xsE:List Mw} (hgs:gs.length=nd) {pl:List Ev.Place} {w:World} {l:List Value} (hsz:sz≤w.heap.size)
  (hr:RowI B0 F w g nd gs xs0) (hst:Sto B0 [] (FM F g gs) pl wOwn w) (hpl:pl.length=1) (hl:l.length=92) (hfr:FrD pl (lx pl wOwn++FM F g gs) w (wS3 t ps (.slice (some ⟨g,0,none⟩) nd nd) (Int.ofNat ps.length) 0).fr l) (hw:wAll vf vw t ps xs0=some xsE) :
  CW Try.prog (.loop wdL2) (fun e a w'=>∃ l' pl',e = .exit 2∧a=mk l'∧l'.length=92∧pl'.length=1∧RowI B0 F w' g nd gs xsE∧Sto B0 [] (FM F g gs) pl' wOwn w'∧Blw B0 w w' ∧
   FrD pl' (lx pl' wOwn++FM F g gs) w' (wS3 t ps (.slice (some ⟨g,0,none⟩) nd nd) (Int.ofNat ps.length) (Int.ofNat ps.length)).fr l') l w:=by
 unfold okP at hop
 rw [Bool.and_eq_true] at hop
 have hpl1:ps.length≤1000:=of_decide_eq_true hop.1
 refine cw_loop (σ:=Nat×List Mw) (R:=List Mw) (outF vf vw t ps) xsE (fun s l' w'=>s.1≤ps.length∧∃ pl',RowI B0 F w' g nd gs s.2∧Sto B0 [] (FM F g gs) pl' wOwn w'∧pl'.length=1∧l'.length=92∧Blw B0 w w' ∧
   FrD pl' (lx pl' wOwn++FM F g gs) w' (wS3 t ps (.slice (some ⟨g,0,none⟩) nd nd) (Int.ofNat ps.length) s.1).fr l') ?_ (n:=ps.length + 1) (s:=(0,xs0)) ⟨Nat.zero_le _,pl,hr,hst,hpl,hl,Blw.refl _ _,hfr⟩ (by rw [out_all vf vw t ps _ 0 xs0 (Nat.zero_le _) (by omega)]; exact hw)
 rintro self ⟨k,xs⟩ l1 w1 ⟨hk,pl1,r1,s1,hp1,hl1,b1,f1⟩ hself
 simp only at hk r1 f1
 have z1:sz≤w1.heap.size:=Nat.le_trans hsz b1.size
 obtain ⟨v7,hv7⟩:∃ v7,v7=Value.slice (some ⟨g,0,none⟩) nd nd:=⟨_,rfl⟩
 rw [<- hv7] at f1
 rw [wdL2_eq]
 have p:=q15_ (S:=wS3 t ps v7 (Int.ofNat ps.length) k) (l:=l1) henv (bo_of hbase z1 s1) s1 rfl hp1.symm rfl hl1 f1 (hd_eq vc vf vw t ps v7 (Int.ofNat ps.length) k)
 refine cw_seq (q1d_ p ?_)
 rintro e a w2 ⟨pl2,l2,rfl,rfl,hl2,hp2,s2,f2,b2⟩
 have r2:=r1.over s1 b2
 have b2':=b1.trans (qo_ b2 (bo_of hbase z1 s1))
 have z2:sz≤w2.heap.size:=Nat.le_trans hsz b2'.size
 refine ⟨l2,rfl,?_⟩
 have p:=q15_ (S:={ wS3 t ps v7 (Int.ofNat ps.length) k with fr:=(41,.d .bool (lt k (Int.ofNat ps.length)))::(wS3 t ps v7 (Int.ofNat ps.length) k).fr }) (l:=l2) henv (bo_of hbase z2 s2) s2 rfl hp2.symm rfl hl2 f2 (S1:=wS3 t ps v7 (Int.ofNat ps.length) k) (e0:=if (lt k (Int.ofNat ps.length))=true then .n else .x 2) (by
  rw [if_eq]
  split <;> rfl)
 refine cw_seq (q1d_ p ?_)
 rintro e a w3 ⟨pl3,l3,rfl,rfl,hl3,hp3,s3,f3,b3⟩
 have r3:=r2.over s2 b3
 have b3':=b2'.trans (qo_ b3 (bo_of hbase z2 s2))
 have z3:sz≤w3.heap.size:=Nat.le_trans hsz b3'.size
 by_cases hlt:k < ps.length
 case neg =>
  obtain rfl:k=ps.length:=by omega
  rw [if_neg (by rw [q1_]; show ¬ (ps.length:Int) < (ps.length:Int); omega)]
  unfold outF at hself
  rw [List.getElem?_eq_none (Nat.le_refl _)] at hself
  cases hself
  subst hv7
  exact ⟨l3,pl3,rfl,rfl,hl3,hp3,r3,s3,b3',f3⟩
 rw [if_pos (by rw [q1_]; show (k:Int) < (ps.length:Int); omega)]
 refine ⟨l3,rfl,?_⟩
 obtain ⟨y,hy⟩:∃ y,ps[k]? = some y:=⟨_,List.getElem?_eq_getElem hlt⟩
 have hyl:(show List (Vl setT) from y.2.2).length≤1000:=of_decide_eq_true (List.all_eq_true.1 hop.2 y (List.mem_of_getElem? hy))
 unfold outF at hself
 simp only [hy] at hself
 obtain ⟨xs2,hx2,hself⟩:=qc_ hself
 unfold wPart at hx2
 obtain ⟨z,hz,hx2⟩:=qc_ hx2
 have e1:add .i64 (k:Int) 1=((k + 1:Nat):Int):=by rw [add64 (by omega) (by omega)]; omega
 refine cw_seq (cw_block (cw_seq ?_))
 have hat:at? ps (k:Int)=some y:=by unfold at?; rw [if_pos (by omega),Int.toNat_natCast]; exact hy
 have p:=q15_ (S:=wS3 t ps v7 (Int.ofNat ps.length) k) (l:=l3) henv (bo_of hbase z3 s3) s3 rfl hp3.symm rfl hl3 f3 ((b1_eq vc vf vw t ps v7 (Int.ofNat ps.length) k).trans (by rw [hat]; rfl)) (S1:=wS4 t ps v7 (Int.ofNat ps.length) k y) (e0:=.n)
 refine q1d_ p ?_
 rintro e a w4 ⟨pl4,l4,rfl,rfl,hl4,hp4,s4,f4,b4⟩
 have r4:=r3.over s3 b4
 have b4':=b3'.trans (qo_ b4 (bo_of hbase z3 s3))
 have z4:sz≤w4.heap.size:=Nat.le_trans hsz b4'.size
 refine ⟨l4,rfl,cw_seq ?_⟩
 have p:=q15_ (S:=wS4 t ps v7 (Int.ofNat ps.length) k y) (l:=l4) henv (bo_of hbase z4 s4) s4 rfl hp4.symm rfl hl4 f4 ((b2_eq vc vf vw t ps v7 (Int.ofNat ps.length) k y).trans (by rw [hz]; rfl)) (S1:=wS5 t ps v7 (Int.ofNat ps.length) k y z.1 z.2.1) (e0:=.n)
 refine q1d_ p ?_
 rintro e a w5 ⟨pl5,l5,rfl,rfl,hl5,hp5,s5,f5,b5⟩
 have r5:=r4.over s4 b5
 have b5':=b4'.trans (qo_ b5 (bo_of hbase z4 s4))
 have z5:sz≤w5.heap.size:=Nat.le_trans hsz b5'.size
 refine ⟨l5,rfl,cw_seq ?_⟩
 have p:=q15_ (S:=wS5 t ps v7 (Int.ofNat ps.length) k y z.1 z.2.1) (l:=l5) henv (bo_of hbase z5 s5) s5 rfl hp5.symm rfl hl5 f5 (S1:=wS5 t ps v7 (Int.ofNat ps.length) k y z.1 z.2.1) (e0:=if (!z.2.1)=true then .x 3 else .n) (by
  rw [b3_eq]
  split <;> rfl)
 refine q1d_ p ?_
 rintro e a w6 ⟨pl6,l6,rfl,rfl,hl6,hp6,s6,f6,b6⟩
 have r6:=r5.over s5 b6
 have b6':=b5'.trans (qo_ b6 (bo_of hbase z5 s5))
 have z6:sz≤w6.heap.size:=Nat.le_trans hsz b6'.size
 by_cases hok:z.2.1=true
 case neg =>
  have hok':(!z.2.1)=true:=by simpa using hok
  rw [if_pos hok']
  rw [if_neg hok] at hx2
  cases hx2
  refine ⟨l6,rfl,?_⟩
  have p:=q15_ (S:=wS5 t ps v7 (Int.ofNat ps.length) k y z.1 z.2.1) (l:=l6) henv (bo_of hbase z6 s6) s6 rfl hp6.symm rfl hl6 f6 (s5_eq vc vf vw t ps v7 (Int.ofNat ps.length) k y z.1 z.2.1)
  refine q1d_ p ?_
  rintro e a w7 ⟨pl7,l7,rfl,rfl,hl7,hp7,s7,f7,b7⟩
  rw [e1] at f7
  subst hv7
  exact ⟨l7,rfl,(k + 1,xs),⟨by show k + 1≤_; omega,pl7,r6.over s6 b7,s7,hp7,hl7,b6'.trans (qo_ b7 (bo_of hbase z6 s6)),f7⟩,hself⟩
 rw [if_neg (by rw [hok]; decide)]
 rw [if_pos hok] at hx2
 obtain ⟨d,hd,hx2⟩:=qc_ hx2
 obtain ⟨m,hm,hx2⟩:=qc_ hx2
 obtain ⟨m',hm',hx2⟩:=qc_ hx2
 cases hx2
 have hi0:=(at_some hm).1
 have hmi:=(at_some hm).2.1
 obtain ⟨b,hb⟩:∃ b,gs[z.1.toNat]? = some b:=⟨_,List.getElem?_eq_getElem (by rw [r6.len]; exact (at_some hm).2.2)⟩
 have hdl:(show List (Vl ptT) from d.2).length≤1000:=of_decide_eq_true (List.all_eq_true.1 hot d (at_mem hd))
 refine ⟨l6,rfl,?_⟩
 subst hv7
 obtain ⟨q1,q2⟩:=conv_in (i:=z.1) (m:=m) (ok:=z.2.1) r6 hgs s6 hp6 hi0 hb hmi f6
 have h6:pl6.length=2:=hp6
 have h4:4=pl6.length + 1 + 1:=by omega
 have p:=q15_ (N:=NW) (hs:=hsW) (hint:=hW6) (c:=wdB4) (S:=wS6 (gs.map mv) t ps (Int.ofNat ps.length) k y z.1 m) (S1:=wS7 (gs.map mv) t ps (Int.ofNat ps.length) k z.1 m') (e0:=.n) (l:=l6) henv (bo_of hbase z6 q1) q1 rfl h4 rfl hl6 q2
  ((pw_eq vc vf vw (gs.map mv) t ps (Int.ofNat ps.length) k z.1 hd (Nat.lt_of_le_of_lt hdl (by decide)) (Nat.lt_of_le_of_lt hyl (by decide)) m).trans (by rw [hm']; rfl))
 refine q1d_ p ?_
 rintro e a w7 ⟨pl7,l7,rfl,rfl,hl7,hp7,s7,f7,b7⟩
 have b7':=b6'.trans (qo_ b7 (bo_of hbase z6 q1))
 have z7:sz≤w7.heap.size:=Nat.le_trans hsz b7'.size
 obtain ⟨r7,pl8,hp8,s8,f8⟩:=conv_out r6 hgs hb hmi s7 hp7 (keep_far q1 b7) f7
 refine ⟨l7,rfl,?_⟩
 have p:=q15_ (S:=wS3 t ps (.slice (some ⟨g,0,none⟩) nd nd) (Int.ofNat ps.length) k) (l:=l7) henv (bo_of hbase z7 s8) s8 rfl hp8.symm rfl hl7 f8 (s_eq vc vf vw t ps (.slice (some ⟨g,0,none⟩) nd nd) (Int.ofNat ps.length) k)
 refine q1d_ p ?_
 rintro e a w9 ⟨pl9,l9,rfl,rfl,hl9,hp9,s9,f9,b9⟩
 rw [e1] at f9
 exact ⟨l9,rfl,(k + 1,xs.set z.1.toNat m'),⟨by show k + 1≤_; omega,pl9,r7.over s8 b9,s9,hp9,hl9,b7'.trans (qo_ b9 (bo_of hbase z7 s8)),f9⟩,hself⟩
end
end Go.Proofs.Lx
end
section
set_option maxRecDepth 100000
namespace Go.Proofs.Lx
open Go Go.Proofs Go.RowKit Ev Sx Pl
@[reducible] def q16_:Sh:=⟨[.d tabT,.d recT],[],[tabT,recT],[.d (.sl mT),.d fltT],[],0,[.sl mT,fltT]⟩
def wordsM (vc:Vc) (vf:Vf) (vw:Vw) (x:As q16_.ps):Option (As q16_.rs) :=
 (vc (x.1,x.2.1,())).bind fun f=>if (!(eqi f.1.1 0 && (eqi f.1.2 0 && true)))=true then some ([],f.1,()) else
  if (okT x.1 && okP x.2.1.2 && decide ((show List (Vl devT) from x.1).length≤1000))=true then (wAll vf vw x.1 x.2.1.2 (List.replicate (show List (Vl devT) from x.1).length [])).bind fun l=>some (l,(0,0),()) else none
def wSX (t:Vl tabT) (r:Vl recT) (f:Int×Int):St:={ fr:=[(0,.d tabT t),(3,.pb 0 0),(4,nilV),(5,.pb 1 0)],nt:=92,up:=[],own:=[(0,.box 42 [.d .str r.1,.d (.sl partT) r.2]),(1,.box 50 [.d kT f.1,.d kT f.2])],nx:=2,log:=[],ln:=0 }
def wSE (xs:List Mw):St:={ fr:=[(7,.d (.sl mT) xs),(5,.pb 0 0)],nt:=92,up:=[],own:=wOwn,nx:=1,log:=[],ln:=0 }
def wSF (xs:List Mw):St:={ fr:=[(4,.d (.sl mT) xs),(5,.pb 0 0)],nt:=92,up:=[],own:=wOwn,nx:=1,log:=[],ln:=0 }
section
variable (vc:Vc) (vf:Vf) (vw:Vw) (t:Vl tabT) (r:Vl recT)
theorem r1_eq:evF NW (wdEnv vc vf vw) bkNo hW1 wd1 (wS0 t r)=some (.n,wSX t r (0,0)):=by kernel_rfl
theorem rx_eq:evF NW (wdEnv vc vf vw) bkNo hW1 wdX (wSX t r (0,0))=(vc (t,r,())).bind fun f=>if (!(eqi f.1.1 0 && (eqi f.1.2 0 && true)))=true then some (.r,wSX t r f.1) else some (.n,wSX t r (0,0)):=by kernel_rfl
theorem re_eq (xs:List Mw):evF NW (wdEnv vc vf vw) bkNo ⟨[],[4,5]⟩ wdE (wSE xs)=some (.r,wSF xs):=by kernel_rfl
theorem fx_eq (f:Int×Int):∃ S1,nrm Try.prog ⟨[.agd 4 (.sl mT)],[4,5]⟩ (wSX t r f)=some S1∧resK Try.prog S1 Try.f20.results.toList (fun ss=>some ss)=some [.d (.sl mT) [],.d fltT f]:=⟨{ fr:=[(4,.d (.sl mT) []),(5,.pb 0 0)],nt:=92,up:=[],own:=[(0,.box 50 [.d kT f.1,.d kT f.2])],nx:=1,log:=[],ln:=0 },by kernel_rfl,by kernel_rfl⟩
theorem fe_eq (xs:List Mw):∃ S1,nrm Try.prog ⟨[],[4,5]⟩ (wSF xs)=some S1∧resK Try.prog S1 Try.f20.results.toList (fun ss=>some ss)=some [.d (.sl mT) xs,.d fltT (0,0)]:=⟨wSF xs,by kernel_rfl,by kernel_rfl⟩
end
theorem w_res {B1:Nat->Prop} {F':Lx} {pl:List Ev.Place} {S S1:St} {l:List Value} {W:World} {L:List Mw} {f:Int×Int} {h:Hint} (hb:∀ k,Bo pl S.own W k->B1 k)
  (hst:Sto B1 [] F' pl S.own W) (hup:S.up=[]) (hnx:S.nx=pl.length) (hln:S.ln=0) (hnt:l.length=S.nt) (hfr:FrD pl (lx pl S.own++F') W S.fr l)
  (hn:nrm Try.prog h S=some S1) (hr:resK Try.prog S1 Try.f20.results.toList (fun ss=>some ss)=some [.d (.sl mT) L,.d fltT f]) :
  ∃ pl' us,DenL pl' (lx pl' S1.own++F') W [.d (.sl mT) L,.d fltT f] us∧∀ R:Ending->World->Prop,R (.returned (retV us)) W->bodyPost Try.prog Try.f20 R .ret (mk l) W:=by
 have h1:=hst.rel hup hnx hln hnt hfr
 obtain ⟨wr2,pl2,h2⟩:=nrm_ok h1 hn
 obtain ⟨ss,us,h3,h4,h5⟩:=resK_ok h2 hr
 cases h3
 exact ⟨pl2,us,h5,fun R hR=>ret_post (fn:=Try.f20) (by decide) h4 hR⟩
theorem w_after {F F':Lx} {w0 W:World} {pl':List Ev.Place} {own':List (Nat×Ent)} {L:List Mw} {f:Int×Int} {us:List Value}
  (hL:LOk (Bo [] [] w0) (lx [] []) F w0) (hF:∀ k,some k ∈ F->some k ∈ F') (hB:Blw (Bo [] [] w0) w0 W)
  (hd:DenL pl' (lx pl' own'++F') W [.d (.sl mT) L,.d fltT f] us):After q16_ (L,f,()) F w0 [] [] W us:=by
 have hsub:∀ k,some k ∈ lx [] []++F->some k ∈ lx pl' own'++F':=fun k hk=>List.mem_append_right _ (hF k (by simpa [lx] using hk))
 refine ⟨[],[.d (.sl mT) L,.d fltT f],[],rfl,fun _ _ h=>h,rfl,hB,⟨hL.pair,hL.lo,(fun k hk=>by cases hk),hL.baseS hB.size,hL.farS hB.size⟩,(fun e he=>by cases he),?_⟩
 obtain ⟨v,q,h1,⟨cs,h2,h3⟩,v',q',h4,⟨cs',h5,h6⟩,h7⟩:=hd
 exact ⟨v,q,h1,⟨cs,Rp.grow _ h2 (sub_of hsub),h3⟩,v',q',h4,⟨cs',Rp.grow _ h5 (sub_of hsub),h6⟩,h7⟩
theorem rows_of {w:World} {L:Lx}:∀ {gs:List Nat} {xs:List Mw},gs.length=xs.length->(∀ b ∈ gs,some b ∉ L∧b < w.heap.size)->(∀ (k b:Nat) (x:Mw),gs[k]? = some b->xs[k]? = some x->MapIs (keyV kT) (fun v:Int=>Value.int .u16 v) w b x)->RowsOf (rp mT) L w (gs.map mv) xs
 | [],[],_,_,_=>rfl
 | b::gs,x::xs,hl,hL,hm=>⟨[mv b],gs.map mv,rfl,⟨b,mVals x,rfl,(hL b (by simp)).1,(hL b (by simp)).2,mis_of (hm 0 b x rfl rfl),DmD.iff.2 (dmd_of _ _ x)⟩,
   rows_of (by simpa using hl) (fun c hc=>hL c (List.mem_cons_of_mem _ hc)) fun k c y h1 h2=>hm (k + 1) c y h1 h2⟩
theorem row_data {B0:Nat->Prop} {F L:Lx} {w:World} {g n:Nat} {gs:List Nat} {xs:List Mw} (hr:RowI B0 F w g n gs xs) (hgs:gs.length=n) (hn:n≤1000) (hL:∀ k ∈ g::gs,some k ∉ L) (pl:List Ev.Place) :
  Den pl L w (.d (.sl mT) xs) (.slice (some ⟨g,0,none⟩) n n):=by
 have hbx:=hr.bx
 rw [hgs,Nat.sub_self,show List.replicate 0 nm=[] from rfl,List.append_nil] at hbx
 have hl:=hr.len
 have ho:=ow_arr (t:=mT) (L:=L) (xs:=xs) hbx (rows_of hl (fun b hb=>⟨hL b (List.mem_cons_of_mem _ hb),hr.lt b (List.mem_cons_of_mem _ hb)⟩) hr.maps) (by omega)
 rw [<- hl,hgs] at ho
 exact ⟨_,ho.freeze (Sub.refl _ _) (fun k hk=>by cases hk; exact hL g (by simp)),rfl⟩
theorem q10d_ {I:World->Prop} {vc:Vc} {vf:Vf} {vw:Vw} (hc:CtOk Try.prog (fun _=>True) 23 ⟨vcS,vc⟩) (hf:CtOk Try.prog (fun _=>True) 27 ⟨vfS,vf⟩) (hw:CtOk Try.prog (fun _=>True) 29 ⟨vwS,vw⟩):CtOk Try.prog I 20 ⟨q16_,wordsM vc vf vw⟩:=by
 intro F w0 pl0 x y ss own vs hx hA hpl hI0 hL hE hD
 obtain ⟨t,r,u0⟩:=x
 have hx:(vc (t,r,())).bind (fun f=>if (!(eqi f.1.1 0 && (eqi f.1.2 0 && true)))=true then some (([],f.1,()):As q16_.rs) else
  if (okT t && okP r.2 && decide ((show List (Vl devT) from t).length≤1000))=true then (wAll vf vw t r.2 (List.replicate (show List (Vl devT) from t).length [])).bind (fun l=>some (l,(0,0),())) else none)=some y:=hx
 obtain ⟨f,hvc,hx⟩:=qc_ hx
 have hA:some ([SV.d tabT t,SV.d recT r],[])=some (ss,own):=hA
 cases hA
 have hpl:pl0.length=0:=hpl
 obtain rfl:=List.eq_nil_of_length_eq_zero hpl
 obtain ⟨u1,q1,rfl,d0,u2,q2,rfl,d1,rfl⟩:=hD
 have henv:EnvOk Try.prog (fun _=>True) (wdEnv vc vf vw):=q2_ hc (q2_ hf (q2_ hw q6_))
 obtain ⟨B0,hB0⟩:∃ B0,B0=Bo [] [] w0:=⟨_,rfl⟩
 have hbase:∀ k,w0.heap.size≤k->B0 k:=fun k hk=>by subst hB0; exact .inr hk
 have hst0:Sto B0 [] F [] [] w0:=⟨List.Pairwise.nil,(fun k hk=>by cases hk),(fun k hk=>by cases hk),fun k hk=>⟨(fun hx=>by cases hx),(hL.far k hk).2⟩,fun _ _ h=>h,(fun e he=>by cases he)⟩
 refine enter (f:=20) (args:=[u1,u2]) Try.func20 wd_eq rfl (l:=u1::u2::List.replicate 90 undef) rfl ?_
 generalize hR:(fun (e:Ending) (w':World)=>∃ us,e = .returned (retV us)∧After q16_ y F w0 [] [] w' us)=R
 have hRe:∀ {W:World} {us:List Value},After q16_ y F w0 [] [] W us->R (.returned (retV us)) W:=fun h=>by subst hR; exact ⟨_,rfl,h⟩
 have hfr0:FrD [] (lx [] []++F) w0 [(0,.d tabT t),(1,.d recT r)] (u1::u2::List.replicate 90 undef):=ql_ d0 (ql_ d1 frD_nil)
 have p:=q15_ (S:=wS0 t r) (l:=u1::u2::List.replicate 90 undef) henv (bo_of hbase (Nat.le_refl _) hst0) hst0 rfl rfl rfl rfl hfr0 (r1_eq vc vf vw t r)
 refine cw_seq (q1d_ p ?_)
 rintro e a w1 ⟨pl1,l1,rfl,rfl,hl1,hp1,s1,f1,b1⟩
 have b1':Blw B0 w0 w1:=qo_ b1 (bo_of hbase (Nat.le_refl _) hst0)
 have z1:=b1'.size
 refine ⟨l1,rfl,cw_seq ?_⟩
 by_cases hfz:(!(eqi f.1.1 0 && (eqi f.1.2 0 && true)))=true
 ·-- a fault
  rw [if_pos hfz] at hx
  cases hx
  have p:=q15_ (S:=wSX t r (0,0)) (l:=l1) henv (bo_of hbase z1 s1) s1 rfl hp1.symm rfl hl1 f1 (S1:=wSX t r f.1) (e0:=.r) (by rw [rx_eq,hvc,Option.bind_some,if_pos hfz])
  refine q1d_ p ?_
  rintro e a w2 ⟨pl2,l2,rfl,rfl,hl2,hp2,s2,f2,b2⟩
  have b2':=b1'.trans (qo_ b2 (bo_of hbase z1 s1))
  obtain ⟨S1,y1,y2⟩:=fx_eq t r f.1
  obtain ⟨pl',us,y3,y4⟩:=w_res (bo_of hbase b2'.size s2) s2 rfl hp2.symm rfl hl2 f2 y1 y2
  refine y4 R (hRe ?_)
  subst hB0
  exact w_after hL (fun _ h=>h) b2' y3
 rw [if_neg hfz] at hx
 split at hx
 case isFalse=>cases hx
 rename_i hok
 simp only [Bool.and_eq_true,decide_eq_true_eq] at hok
 obtain ⟨⟨hot,hop⟩,hn⟩:=hok
 obtain ⟨xsE,hwE,hx⟩:=qc_ hx
 cases hx
 have p:=q15_ (S:=wSX t r (0,0)) (l:=l1) henv (bo_of hbase z1 s1) s1 rfl hp1.symm rfl hl1 f1 (S1:=wSX t r (0,0)) (e0:=.n) (by rw [rx_eq,hvc,Option.bind_some,if_neg hfz])
 refine q1d_ p ?_
 rintro e a w2 ⟨pl2,l2,rfl,rfl,hl2,hp2,s2,f2,b2⟩
 have b2':=b1'.trans (qo_ b2 (bo_of hbase z1 s1))
 have z2:=b2'.size
 refine ⟨l2,rfl,cw_seq ?_⟩
 obtain ⟨n,hnn⟩:∃ n,n=(show List (Vl devT) from t).length:=⟨_,rfl⟩
 rw [<- hnn] at hn hwE
 refine q1d_ (wd4_wp (fr:=(wSX t r (0,0)).fr) (t:=t) hnn.symm hn s2 (fun k hk=>hbase k (Nat.le_trans z2 hk)) hl2 f2 rfl (fun j hj=>by simp at hj; rcases hj with rfl | rfl | rfl | rfl <;> rfl)) ?_
 rintro e a w3 ⟨l3,g,rfl,rfl,hl3,r3,s3,b3,f3,d7⟩
 have b3':=b2'.trans b3
 have z3:=b3'.size
 refine ⟨l3,rfl,cw_seq (cw_seq ?_)⟩
 have f3':FrD pl2 (lx pl2 (wSX t r (0,0)).own++FM F g []) w3 [(0,.d tabT t),(3,.pb 0 0),(5,.pb 1 0)] l3:=ql_ (f3 0 _ rfl) (ql_ (f3 3 _ rfl) (ql_ (f3 5 _ rfl) frD_nil))
 refine q1d_ (wd5_wp (n:=n) (a:=some ⟨g,0,none⟩) (c:=n) rfl hl3 f3' d7 (fun j hj=>by simp at hj; rcases hj with rfl | rfl | rfl <;> rfl)) ?_
 rintro e a w4 ⟨l4,rfl,rfl,hl4,rfl,f4⟩
 refine ⟨l4,rfl,cw_block ?_⟩
 refine q1d_ (loop0_wp (r:=r) henv hbase hn z3 r3 s3 hp2 hl4 f4) ?_
 rintro e a w5 ⟨l5,pl5,gs,rfl,rfl,hl5,hp5,hgs,r5,s5,b5,f5⟩
 have b5':=b3'.trans b5
 have z5:=b5'.size
 refine ⟨l5,rfl,cw_seq (cw_seq ?_)⟩
 have p:=q15_ (S:=w0S (w0Fr t (.slice (some ⟨g,0,none⟩) n n) n n) r) (l:=l5) henv (bo_of hbase z5 s5) s5 rfl hp5.symm rfl hl5 f5 (c6_eq vc vf vw t r (.slice (some ⟨g,0,none⟩) n n) n n)
 refine q1d_ p ?_
 rintro e a w6 ⟨pl6,l6,rfl,rfl,hl6,hp6,s6,f6,b6⟩
 have r6:=r5.over s5 b6
 have b6':=b5'.trans (qo_ b6 (bo_of hbase z5 s5))
 have z6:=b6'.size
 refine ⟨l6,rfl,cw_block ?_⟩
 refine q1d_ (loop2_wp henv hbase hot hop hgs z6 r6 s6 hp6 hl6 f6 hwE) ?_
 rintro e a w7 ⟨l7,pl7,rfl,rfl,hl7,hp7,r7,s7,b7,f7⟩
 have b7':=b6'.trans b7
 have z7:=b7'.size
 refine ⟨l7,rfl,?_⟩
 have hnot:∀ k ∈ g::gs,some k ∉ lx pl7 wOwn++F:=fun k hk hm=>by
  rcases List.mem_append.1 hm with hm | hm
  ·exact (s7.far k (FM_mem.2 (.inr hk))).1 hm
  ·exact r7.far k hk hm
 have s8:Sto B0 [] F pl7 wOwn w7:=s7.less (fun k hk=>FM_mem.2 (.inl hk))
 have f8:FrD pl7 (lx pl7 wOwn++F) w7 (wSE xsE).fr l7:=by
  refine ql_ ?_ (ql_ ?_ frD_nil)
  ·have:l7.getD 7 undef = .slice (some ⟨g,0,none⟩) n n:=f7 7 _ rfl
   rw [this]
   exact row_data r7 hgs hn hnot pl7
  ·obtain ⟨a,n',c',h1,h2⟩:=f7 5 _ rfl
   exact ⟨a,n',c',h1,h2⟩
 have p:=q15_ (S:=wSE xsE) (l:=l7) henv (bo_of hbase z7 s8) s8 rfl hp7.symm rfl hl7 f8 (re_eq vc vf vw xsE)
 refine q1d_ p ?_
 rintro e a w9 ⟨pl9,l9,rfl,rfl,hl9,hp9,s9,f9,b9⟩
 have b9':=b7'.trans (qo_ b9 (bo_of hbase z7 s8))
 obtain ⟨S1,y1,y2⟩:=fe_eq xsE
 obtain ⟨pl',us,y3,y4⟩:=w_res (bo_of hbase b9'.size s9) s9 rfl hp9.symm rfl hl9 f9 y1 y2
 refine y4 R (hRe ?_)
 subst hB0
 exact w_after hL (fun _ h=>h) b9' y3
end Go.Proofs.Lx
end
section
set_option maxRecDepth 100000
namespace Go.Proofs.Lx
open Go Go.Proofs Ev Sx
def qcu_ (x:As q16_.ps):Option (As q16_.rs):=wordsM q99_ q22_ q13_ x
theorem qp4_:CtOk Try.prog (fun _=>True) 20 ⟨q16_,qcu_⟩:=q10d_ qw2_ qkg_ qpn_
end Go.Proofs.Lx
end
section
set_option maxRecDepth 100000
namespace Go.Proofs.Lx
open Go Ev Sx Pl
abbrev EnL:=List (Int×Int)
def fillM (m L:EnL):EnL:=L.foldl (fun m e=>dput kT m e.1 e.2) m
theorem dget_put (m:EnL) (k v j:Int):dget kT (dput kT m k v) j=if k=j then some v else dget kT m j:=by
 have:=dget_dput (kt:=kT) keqI (V:=Int) k v j m
 rw [this]
 by_cases h:k=j
 ·rw [if_pos h,if_pos ((keqI _ _).2 h)]
 ·rw [if_neg h,if_neg (fun e=>h ((keqI _ _).1 e))]
theorem fill_some:∀ (L:EnL) (m:EnL) (a w:Int),dget kT (fillM m L) a=some w->(a,w) ∈ L∨dget kT m a=some w
 | [],_,_,_,h=>.inr h
 | e::q,m,a,w,h=>by
  rcases fill_some q _ a w h with h | h
  ·exact .inl (List.mem_cons_of_mem _ h)
  ·rw [dget_put] at h
   split at h
   ·rename_i he
    cases h
    subst he
    exact .inl (List.mem_cons_self ..)
   ·exact .inr h
def Func (L:EnL):Prop:=∀ a w v,(a,w) ∈ L->(a,v) ∈ L->w=v
theorem dput_keys (m:EnL) (k v:Int):(m.map (·.1)).Nodup->((dput kT m k v).map (·.1)).Nodup∧∀ x,x ∈ (dput kT m k v).map (·.1)->x=k∨x ∈ m.map (·.1):=by
 induction m with
 | nil=>intro _; exact ⟨by simp [dput],by simp [dput]⟩
 | cons e q ih =>
  intro h
  obtain ⟨a,b⟩:=e
  rw [List.map_cons,List.nodup_cons] at h
  unfold dput
  by_cases hk:keq kT a k=true
  ·rw [if_pos hk]
   have:=(keqI _ _).1 hk
   subst this
   refine ⟨by rw [List.map_cons,List.nodup_cons]; exact h,fun x hx=>?_⟩
   exact .inr hx
  ·rw [if_neg hk]
   obtain ⟨h1,h2⟩:=ih h.2
   have hne:a ≠ k:=fun e=>hk ((keqI _ _).2 e)
   refine ⟨?_,fun x hx=>?_⟩
   ·rw [List.map_cons,List.nodup_cons]
    refine ⟨fun hm=>?_,h1⟩
    rcases h2 _ hm with h3 | h3
    ·exact hne h3
    ·exact h.1 h3
   ·rw [List.map_cons] at hx
    rcases List.mem_cons.1 hx with h3 | h3
    ·exact .inr (by rw [h3]; exact List.mem_cons_self ..)
    ·rcases h2 _ h3 with h4 | h4
     ·exact .inl h4
     ·exact .inr (List.mem_cons_of_mem _ h4)
theorem fill_nodup:∀ (L m:EnL),(m.map (·.1)).Nodup->((fillM m L).map (·.1)).Nodup
 | [],_,h=>h
 | e::q,m,h=>fill_nodup q _ (dput_keys m e.1 e.2 h).1
theorem dget_none {m:EnL} {k:Int}:dget kT m k=none ↔ k ∉ m.map (·.1):=by
 induction m with
 | nil=>simp [dget]
 | cons e q ih =>
  obtain ⟨a,b⟩:=e
  unfold dget
  by_cases hk:keq kT a k=true
  ·rw [if_pos hk]
   have:=(keqI _ _).1 hk
   subst this
   simp
  ·rw [if_neg hk,ih]
   have hne:a ≠ k:=fun e=>hk ((keqI _ _).2 e)
   simp only [List.map_cons,List.mem_cons,not_or]
   exact ⟨fun h=>⟨fun e=>hne e.symm,h⟩,fun h=>h.2⟩
def wrP (s:TSet) (qs:List TPt):EnL:=(qs.filter fun p=>eqs p.1 s.1).map fun p=>(p.2.1,(wrdS p s).1)
def wrS (qs:List TPt) (ss:List TSet):EnL:=ss.flatMap fun s=>wrP s qs
def wrD (d:TDev) (ps:List TPart):EnL:=ps.flatMap fun p=>if eqs d.1 p.1=true then wrS d.2 p.2.2 else []
def GoodP (qs:List TPt):Prop:=∀ p ∈ qs,PtR p∧rgt p.2.2.2.2.1=true∧rgt p.2.2.2.2.2.1=true
theorem wPts_eq {s:TSet} (hs:0≤s.2.1.2):∀ {qs:List TPt} (m:EnL),GoodP qs->wPts q13_ s qs m=some (fillM m (wrP s qs))
 | [],_,_=>rfl
 | p::q,m,h=>by
  have hp:=h p (by simp)
  have hq:GoodP q:=fun x hx=>h x (List.mem_cons_of_mem _ hx)
  unfold wPts
  by_cases hb:eqs p.1 s.1=true
  ·rw [if_pos hb,vword_eq hp.1 hp.2.1 hp.2.2 hs,Option.bind_some,wPts_eq hs _ hq]
   show _=some (fillM m (wrP s (p::q)))
   unfold wrP
   rw [List.filter_cons_of_pos (p:=fun p:TPt=>eqs p.1 s.1) hb]
   rfl
  ·rw [if_neg hb,wPts_eq hs _ hq]
   unfold wrP
   rw [List.filter_cons_of_neg (p:=fun p:TPt=>eqs p.1 s.1) (by simpa using hb)]
theorem fill_app (m L K:EnL):fillM m (L++K)=fillM (fillM m L) K:=by unfold fillM; rw [List.foldl_append]
theorem wSets_eq {qs:List TPt} (h:GoodP qs):∀ {ss:List TSet} (m:EnL),(∀ s ∈ ss,0≤s.2.1.2)->wSets q13_ qs ss m=some (fillM m (wrS qs ss))
 | [],_,_=>rfl
 | s::r,m,hs=>by
  unfold wSets
  rw [wPts_eq (hs s (by simp)) m h,Option.bind_some,wSets_eq h _ fun x hx=>hs x (List.mem_cons_of_mem _ hx)]
  show _=some (fillM m (wrP s qs++wrS qs r))
  rw [fill_app]
def DisD (t:TTab):Prop:=∀ (i j:Nat) (d e:TDev),t[i]? = some d->t[j]? = some e->d.1=e.1->i=j
theorem eqs_i {a b:List UInt8}:eqs a b=true ↔ a=b:=q1h_
theorem wPart_eq {t:TTab} (hl:t.length≤1000000) (hd:DisD t) (hg:∀ d ∈ t,GoodP d.2) {y:TPart} (hy:∀ s ∈ y.2.2,0≤s.2.1.2) {xs:List EnL} (hx:xs.length=t.length) :
  ∃ xs',wPart q22_ q13_ t y xs=some xs'∧xs'.length=t.length∧∀ (i:Nat) (d:TDev) (m:EnL),t[i]? = some d->xs[i]? = some m->xs'[i]? = some (fillM m (if eqs d.1 y.1=true then wrS d.2 y.2.2 else [])):=by
 unfold wPart
 rw [find_eq hl,Option.bind_some]
 cases hz:srch (fun d=>eqs d.1 y.1) t 0 with
 | none =>
  refine ⟨xs,rfl,hx,fun i d m hi hm=>?_⟩
  have:=srch_none hz d (List.mem_of_getElem? hi)
  rw [if_neg (by rw [this]; decide),hm]
  rfl
 | some z =>
  obtain ⟨z1,z2⟩:=z
  obtain ⟨hm,hi,hn⟩:=srch_mem hz
  have hlt:=(List.getElem?_eq_some_iff.1 hi).1
  obtain ⟨m0,hm0⟩:∃ m,xs[z1]? = some m:=⟨_,List.getElem?_eq_getElem (by omega)⟩
  dsimp only
  rw [if_pos rfl,q4_ hi,Option.bind_some,q4_ hm0,Option.bind_some,wSets_eq (hg z2 hm) _ hy,Option.bind_some,Int.toNat_natCast]
  refine ⟨_,rfl,by rw [List.length_set,hx],fun i d m hi' hm'=>?_⟩
  by_cases he:z1=i
  ·subst he
   rw [hi] at hi'
   cases hi'
   rw [hm0] at hm'
   cases hm'
   rw [if_pos hn,List.getElem?_set_self (by omega)]
  ·rw [List.getElem?_set_ne he,hm']
   have:¬ eqs d.1 y.1=true:=fun e=>he (hd z1 i z2 d hi hi' (by rw [eqs_i.1 hn,eqs_i.1 e]))
   rw [if_neg this]
   rfl
theorem wAll_eq {t:TTab} (hl:t.length≤1000000) (hd:DisD t) (hg:∀ d ∈ t,GoodP d.2):∀ {ps:List TPart} (_:∀ y ∈ ps,∀ s ∈ y.2.2,0≤s.2.1.2) {xs:List EnL} (_:xs.length=t.length),
  ∃ xs',wAll q22_ q13_ t ps xs=some xs'∧xs'.length=t.length∧∀ (i:Nat) (d:TDev) (m:EnL),t[i]? = some d->xs[i]? = some m->xs'[i]? = some (fillM m (wrD d ps))
 | [],_,xs,hx=>⟨xs,rfl,hx,fun i d m _ hm=>hm⟩
 | y::q,hy,xs,hx=>by
  obtain ⟨x1,h1,h2,h3⟩:=wPart_eq hl hd hg (hy y (by simp)) hx
  obtain ⟨x2,h4,h5,h6⟩:=wAll_eq hl hd hg (fun z hz=>hy z (List.mem_cons_of_mem _ hz)) h2
  refine ⟨x2,?_,h5,fun i d m hi hm=>?_⟩
  ·unfold wAll
   rw [h1,Option.bind_some,h4]
  ·rw [h6 i d _ hi (h3 i d m hi hm),<- fill_app]
   rfl
def qj_ (t:TTab) (ps:List TPart):List EnL:=t.map fun d=>fillM [] (wrD d ps)
theorem wordsS_eq {t:TTab} (hl:t.length≤1000000) (hd:DisD t) (hg:∀ d ∈ t,GoodP d.2) {ps:List TPart} (hy:∀ y ∈ ps,∀ s ∈ y.2.2,0≤s.2.1.2):wAll q22_ q13_ t ps (List.replicate t.length [])=some (qj_ t ps):=by
 obtain ⟨xs,h1,h2,h3⟩:=wAll_eq hl hd hg hy (xs:=List.replicate t.length []) (by simp)
 rw [h1]
 congr 1
 refine List.ext_getElem? fun i=>?_
 unfold qj_
 rw [List.getElem?_map]
 cases hi:t[i]? with
 | none =>
  rw [List.getElem?_eq_none_iff] at hi
  rw [List.getElem?_eq_none (by omega)]
  rfl
 | some d =>
  have hlt:=(List.getElem?_eq_some_iff.1 hi).1
  exact h3 i d [] hi (by rw [List.getElem?_replicate,if_pos hlt])
theorem tabL_dis:∀ {q:TTab} {N:List (List UInt8)},tabL q N=true->(q.map (·.1)).Nodup∧∀ d ∈ q,d.1 ∉ N
 | [],_,_=>⟨by simp,(fun d hd=>by cases hd)⟩
 | x::q,N,h=>by
  rw [tabL] at h
  simp only [Bool.and_eq_true,Bool.not_eq_true',decide_eq_false_iff_not] at h
  obtain ⟨h1,h2⟩:=tabL_dis h.2.2
  refine ⟨by rw [List.map_cons,List.nodup_cons]; refine ⟨fun hm=>?_,h1⟩; obtain ⟨e,he,h3⟩:=List.mem_map.1 hm; exact h2 e he (by rw [h3]; exact List.mem_cons_self ..),fun d hd=>?_⟩
  rcases List.mem_cons.1 hd with rfl | hd
  ·exact h.2.1
  ·exact fun hm=>h2 d hd (List.mem_cons_of_mem _ hm)
theorem devL_dis:∀ {q:List TPt} {N:List (List UInt8)} {A:List Int},devL q N A=true->((q.map (·.1)).Nodup∧∀ d ∈ q,d.1 ∉ N)∧((q.map (·.2.1)).Nodup∧∀ d ∈ q,d.2.1 ∉ A)
 | [],_,_,_=>⟨⟨by simp,(fun d hd=>by cases hd)⟩,⟨by simp,(fun d hd=>by cases hd)⟩⟩
 | x::q,N,A,h=>by
  rw [devL] at h
  simp only [Bool.and_eq_true,Bool.not_eq_true',decide_eq_false_iff_not] at h
  obtain ⟨⟨h1,h2⟩,h3,h4⟩:=devL_dis h.2.2.2
  refine ⟨⟨?_,fun d hd=>?_⟩,?_,fun d hd=>?_⟩
  ·rw [List.map_cons,List.nodup_cons]; refine ⟨fun hm=>?_,h1⟩; obtain ⟨e,he,h5⟩:=List.mem_map.1 hm; exact h2 e he (by rw [h5]; exact List.mem_cons_self ..)
  ·rcases List.mem_cons.1 hd with rfl | hd
   ·exact h.2.1
   ·exact fun hm=>h2 d hd (List.mem_cons_of_mem _ hm)
  ·rw [List.map_cons,List.nodup_cons]; refine ⟨fun hm=>?_,h3⟩; obtain ⟨e,he,h5⟩:=List.mem_map.1 hm; exact h4 e he (by rw [h5]; exact List.mem_cons_self ..)
  ·rcases List.mem_cons.1 hd with rfl | hd
   ·exact h.2.2.1
   ·exact fun hm=>h4 d hd (List.mem_cons_of_mem _ hm)
theorem nodup_at {α β:Type} {f:α->β}:∀ {xs:List α},(xs.map f).Nodup->∀ (i j:Nat) (a b:α),xs[i]? = some a->xs[j]? = some b->f a=f b->i=j
 | [],_,_,_,_,_,h,_,_=>by simp at h
 | x::q,h,i,j,a,b,hi,hj,he=>by
  rw [List.map_cons,List.nodup_cons] at h
  cases i with
  | zero =>
   cases j with
   | zero=>rfl
   | succ j =>
    simp at hi hj
    subst hi
    exact absurd (List.mem_map.2 ⟨b,List.mem_of_getElem? hj,he.symm⟩) h.1
  | succ i =>
   cases j with
   | zero =>
    simp at hi hj
    subst hj
    exact absurd (List.mem_map.2 ⟨a,List.mem_of_getElem? hi,he⟩) h.1
   | succ j =>
    simp at hi hj
    rw [nodup_at h.2 i j a b hi hj he]
theorem nodup_mem {α β:Type} {f:α->β} {xs:List α} (h:(xs.map f).Nodup) {a b:α} (ha:a ∈ xs) (hb:b ∈ xs) (he:f a=f b):a=b:=by
 obtain ⟨i,hi⟩:=List.getElem?_of_mem ha
 obtain ⟨j,hj⟩:=List.getElem?_of_mem hb
 have:=nodup_at h i j a b hi hj he
 subst this
 rw [hi] at hj
 exact Option.some.inj hj
theorem tabB_dis {t:TTab} (h:tabB t=true):(t.map (·.1)).Nodup∧DisD t∧∀ d ∈ t,devB d=true:=by
 unfold tabB at h
 simp only [Bool.and_eq_true] at h
 have:=(tabL_dis h.2.2).1
 exact ⟨this,fun i j d e hi hj he=>nodup_at this i j d e hi hj he,tabL_dev h.2.2⟩
theorem devB_dis {d:TDev} (h:devB d=true):(d.2.map (·.1)).Nodup∧(d.2.map (·.2.1)).Nodup∧∀ p ∈ d.2,ptB p=true:=by
 have hp:=dev_pt h
 unfold devB at h
 simp only [Bool.and_eq_true] at h
 exact ⟨(devL_dis h.2.2).1.1,(devL_dis h.2.2).2.1,hp⟩
theorem tab_good {t:TTab} (h:tabB t=true) (ht:TabR t):∀ d ∈ t,GoodP d.2:=fun d hd p hp=>⟨(ht.2 d hd).2 p hp,ptB_rgt ((devB_dis ((tabB_dis h).2.2 d hd)).2.2 p hp)⟩
theorem setsS_ok {d:TDev}:∀ {ss:List TSet} {N:List (List UInt8)},setsS d ss N=none->((ss.map (·.1)).Nodup∧∀ s ∈ ss,s.1 ∉ N)∧∀ s ∈ ss,∃ z,srch (fun p=>eqs p.1 s.1) d.2 0=some z∧(wrdS z.2 s).2=0
 | [],_,_=>⟨⟨by simp,(fun d hd=>by cases hd)⟩,(fun d hd=>by cases hd)⟩
 | s::q,N,h=>by
  rw [setsS] at h
  cases hz:srch (fun p=>eqs p.1 s.1) d.2 0 with
  | none=>rw [hz] at h; cases h
  | some z =>
   rw [hz] at h
   dsimp only at h
   by_cases h1:s.1 ∈ N
   ·rw [if_pos h1] at h; cases h
   ·rw [if_neg h1] at h
    by_cases h2:(wrdS z.2 s).2=0
    ·rw [if_pos h2] at h
     obtain ⟨⟨h3,h4⟩,h5⟩:=setsS_ok h
     refine ⟨⟨?_,fun x hx=>?_⟩,fun x hx=>?_⟩
     ·rw [List.map_cons,List.nodup_cons]; refine ⟨fun hm=>?_,h3⟩; obtain ⟨e,he,h6⟩:=List.mem_map.1 hm; exact h4 e he (by rw [h6]; exact List.mem_cons_self ..)
     ·rcases List.mem_cons.1 hx with rfl | hx
      ·exact h1
      ·exact fun hm=>h4 x hx (List.mem_cons_of_mem _ hm)
     ·rcases List.mem_cons.1 hx with rfl | hx
      ·exact ⟨z,hz,h2⟩
      ·exact h5 x hx
    ·rw [if_neg h2] at h; cases h
theorem partsS_ok {t:TTab}:∀ {ps:List TPart} {N:List (List UInt8)},partsS t ps N=none->((ps.map (·.1)).Nodup∧∀ p ∈ ps,p.1 ∉ N)∧∀ p ∈ ps,∃ z,srch (fun d=>eqs d.1 p.1) t 0=some z∧setsS z.2 p.2.2 []=none
 | [],_,_=>⟨⟨by simp,(fun d hd=>by cases hd)⟩,(fun d hd=>by cases hd)⟩
 | p::q,N,h=>by
  rw [partsS] at h
  cases hz:srch (fun d=>eqs d.1 p.1) t 0 with
  | none=>rw [hz] at h; cases h
  | some z =>
   rw [hz] at h
   dsimp only at h
   by_cases h1:p.1 ∈ N
   ·rw [if_pos h1] at h; cases h
   ·rw [if_neg h1] at h
    cases h2:setsS z.2 p.2.2 [] with
    | some f=>rw [h2] at h; cases h
    | none =>
     rw [h2] at h
     dsimp only at h
     obtain ⟨⟨h3,h4⟩,h5⟩:=partsS_ok h
     refine ⟨⟨?_,fun x hx=>?_⟩,fun x hx=>?_⟩
     ·rw [List.map_cons,List.nodup_cons]; refine ⟨fun hm=>?_,h3⟩; obtain ⟨e,he,h6⟩:=List.mem_map.1 hm; exact h4 e he (by rw [h6]; exact List.mem_cons_self ..)
     ·rcases List.mem_cons.1 hx with rfl | hx
      ·exact h1
      ·exact fun hm=>h4 x hx (List.mem_cons_of_mem _ hm)
     ·rcases List.mem_cons.1 hx with rfl | hx
      ·exact ⟨z,hz,h2⟩
      ·exact h5 x hx
theorem setsS_err {d:TDev}:∀ {ss:List TSet} {N:List (List UInt8)} {f:Int×Int},setsS d ss N=some f->f.1=151∨f.1=152∨f.1=153
 | [],_,_,h=>by cases h
 | s::q,N,f,h=>by
  rw [setsS] at h
  split at h
  ·cases h; exact .inl rfl
  ·rename_i z hz
   split at h
   ·cases h; exact .inl rfl
   ·split at h
    ·exact setsS_err h
    ·rename_i h2
     cases h
     rcases wrd_err z.2 s with h | h
     ·exact absurd h h2
     ·exact .inr h
theorem partsS_err {t:TTab}:∀ {ps:List TPart} {N:List (List UInt8)} {f:Int×Int},partsS t ps N=some f->f.1=150∨f.1=151∨f.1=152∨f.1=153
 | [],_,_,h=>by cases h
 | p::q,N,f,h=>by
  rw [partsS] at h
  split at h
  ·cases h; exact .inl rfl
  ·split at h
   ·cases h; exact .inl rfl
   ·split at h
    ·rename_i g hg
     cases h
     exact .inr (setsS_err hg)
    ·exact partsS_err h
theorem check_cases (t:TTab) (r:TRec):(checkS t r=(0,0)∧tabB t=true∧rightB r=true∧partsS t r.2 []=none)∨((checkS t r).1 ≠ 0∧(checkS t r).1 ≠ 160):=by
 unfold checkS
 by_cases h:(tabB t && rightB r)=true
 ·rw [if_pos h]
  rw [Bool.and_eq_true] at h
  cases hp:partsS t r.2 [] with
  | none=>exact .inl ⟨rfl,h.1,h.2,rfl⟩
  | some f =>
   right
   have:=partsS_err hp
   show f.1 ≠ 0∧f.1 ≠ 160
   omega
 ·rw [if_neg h]
  right
  decide
theorem wrD_mem {d:TDev} {ps:List TPart} {a w:Int}:(a,w) ∈ wrD d ps ↔ ∃ p ∈ ps,d.1=p.1∧∃ s ∈ p.2.2,∃ q ∈ d.2,q.1=s.1∧q.2.1=a∧(wrdS q s).1=w:=by
 unfold wrD wrS wrP
 simp only [List.mem_flatMap]
 constructor
 ·rintro ⟨p,hp,h⟩
  split at h
  ·rename_i he
   simp only [List.mem_flatMap,List.mem_map,List.mem_filter] at h
   obtain ⟨s,hs,q,⟨hq1,hq2⟩,h⟩:=h
   cases h
   exact ⟨p,hp,eqs_i.1 he,s,hs,q,hq1,eqs_i.1 hq2,rfl,rfl⟩
  ·cases h
 ·rintro ⟨p,hp,he,s,hs,q,hq,h1,h2,h3⟩
  refine ⟨p,hp,?_⟩
  rw [if_pos (eqs_i.2 he)]
  simp only [List.mem_flatMap,List.mem_map,List.mem_filter]
  exact ⟨s,hs,q,⟨hq,eqs_i.2 h1⟩,by rw [h2,h3]⟩
theorem q152_ {t:TTab} {r:TRec} (ht:TabR t) (hr:RecR r):qcu_ (t,r,())=if checkS t r=(0,0) then some (qj_ t r.2,(0,0),()) else some ([],checkS t r,()):=by
 have ht1:=ht.1
 show (q99_ (t,r,())).bind (fun f=>if (!(eqi f.1.1 0 && (eqi f.1.2 0 && true)))=true then some (([],f.1,()):As q16_.rs) else
  if (okT t && okP r.2 && decide (t.length≤1000))=true then (wAll q22_ q13_ t r.2 (List.replicate t.length [])).bind (fun l=>some (l,(0,0),())) else none)=_
 rw [check_eq ht hr,Option.bind_some]
 dsimp only
 rcases check_cases t r with ⟨h1,h2,h3,h4⟩ | ⟨h1,_⟩
 ·rw [h1,if_neg (by decide),if_pos rfl]
  have h5:okT t=true:=List.all_eq_true.2 fun d hd=>decide_eq_true (ht.2 d hd).1
  have h6:okP r.2=true:=by
   unfold okP
   rw [decide_eq_true hr.1]
   exact List.all_eq_true.2 fun p hp=>decide_eq_true (hr.2 p hp).1
  rw [h5,h6,decide_eq_true ht1,if_pos (show (true && true && true)=true from rfl),wordsS_eq (by omega) (tabB_dis h2).2.1 (tab_good h2 ht) fun y hy=>(hr.2 y hy).2,Option.bind_some]
 ·have:¬ checkS t r=(0,0):=fun e=>h1 (by rw [e])
  rw [if_neg this,if_pos]
  have:eqi (checkS t r).1 0=false:=by rw [Bool.eq_false_iff]; exact fun e=>h1 (qb_.1 e)
  rw [this]
  rfl
end Go.Proofs.Lx
end
section
set_option maxRecDepth 100000
namespace Go.Proofs.Lx
open Go Ev Sx Pl
def ents:Nat->List Int->List Bool->List (Int×Int)
 | i,w::ws,b::bs=>if b=true then ((i:Int),w)::ents (i + 1) ws bs else ents (i + 1) ws bs
 | _,_,_=>[]
@[reducible] def zK0:Type:=List (Int×Int)
def rise (es:zK0):Prop:=(es.map (·.1)).Pairwise (·< ·)
theorem ents_lo:∀ {i:Nat} {ws:List Int} {bs:List Bool} {e:Int×Int},e ∈ ents i ws bs->(i:Int)≤e.1∧e.1 < i + bs.length
 | i,w::ws,b::bs,e,h=>by
  unfold ents at h
  have hr:∀ {e},e ∈ ents (i + 1) ws bs->(i:Int)≤e.1∧e.1 < i + (b::bs).length:=fun h=>by
   have:=ents_lo h
   simp only [List.length_cons]
   omega
  split at h
  ·rcases List.mem_cons.1 h with h | h
   ·subst h; simp only [List.length_cons]; omega
   ·exact hr h
  ·exact hr h
 | _,[],_,_,h=>by simp [ents] at h
 | _,_::_,[],_,h=>by simp [ents] at h
theorem ents_rise:∀ {i:Nat} {ws:List Int} {bs:List Bool},rise (ents i ws bs)
 | i,w::ws,b::bs=>by
  unfold ents
  split
  ·unfold rise
   simp only [List.map_cons,List.pairwise_cons]
   refine ⟨fun k hk=>?_,ents_rise⟩
   obtain ⟨e,he,rfl⟩:=List.mem_map.1 hk
   have:=ents_lo he
   omega
  ·exact ents_rise
 | _,[],_=>by simp [ents,rise]
 | _,_::_,[]=>by simp [ents,rise]
theorem ents_len:∀ {i:Nat} {ws:List Int} {bs:List Bool},(ents i ws bs).length≤bs.length
 | i,w::ws,b::bs=>by
  unfold ents
  have:=@ents_len (i + 1) ws bs
  split <;> simp only [List.length_cons] <;> omega
 | _,[],_=>by simp [ents]
 | _,_::_,[]=>by simp [ents]
theorem keqi {k:IntKind} {a b:Int}:keq (.int k) a b=true ↔ a=b:=by simp [keq,eqi]
theorem dget_in {k:IntKind}:∀ {m:List (Int×Int)} {a b:Int},rise m->(a,b) ∈ m->dget (.int k) m a=some b
 | [],_,_,_,h=>by cases h
 | (c,d)::r,a,b,hr,h=>by
  unfold rise at hr
  simp only [List.map_cons,List.pairwise_cons] at hr
  unfold dget
  rcases List.mem_cons.1 h with h | h
  ·cases h
   rw [if_pos (keqi.2 rfl)]
  ·have:=hr.1 a (List.mem_map.2 ⟨_,h,rfl⟩)
   rw [if_neg (by rw [keqi]; omega)]
   exact dget_in hr.2 h
theorem dput_out {k:IntKind}:∀ {m:List (Int×Int)} {a b:Int},(∀ e ∈ m,e.1 ≠ a)->dput (.int k) m a b=m++[(a,b)]
 | [],_,_,_=>rfl
 | (c,d)::r,a,b,h=>by
  unfold dput
  rw [if_neg (by rw [keqi]; exact h _ (List.mem_cons_self ..)),dput_out fun e he=>h e (List.mem_cons_of_mem _ he)]
  rfl
theorem sorted_rise {m:List (Int×Int)} (h:rise m):sorted (m.map (·.1))=m.map (·.1) :=
 List.mergeSort_of_pairwise (h.imp fun h=>by simp; omega)
def stepV (v:Int) (l:List Bk) (z:Int):Option (List Bk) :=
 if z < 0∨64≤z then none else
 match l.getLast? with
 | none=>some [(z,[v])]
 | some (a,ws)=>if z ≠ a + (ws.length:Int)∨ws.length=14 then (if l.length=8 then none else some (l++[(z,[v])])) else some (l.dropLast++[(a,ws++[v])])
theorem stepV_eq (m:zK0) (l:List Bk) (z:Int):bkStep m l z=stepV (bkV m z) l z:=rfl
def foldE:List (Int×Int)->Option (List Bk)->Option (List Bk)
 | [],r=>r
 | e::q,r=>foldE q (r.bind fun l=>stepV e.2 l e.1)
theorem bkAll_fold {m:List (Int×Int)}:∀ {es:List (Int×Int)} {r:Option (List Bk)},(∀ e ∈ es,dget kT m e.1=some e.2)->bkAll m (es.map (·.1)) r=foldE es r
 | [],_,_=>rfl
 | e::q,r,h=>by
  show bkAll m (q.map (·.1)) _=foldE q _
  rw [bkAll_fold fun e he=>h e (List.mem_cons_of_mem _ he)]
  have hv:bkV m e.1=e.2:=by unfold bkV; rw [h e (List.mem_cons_self ..)]; rfl
  congr 1
  cases r with
  | none=>rfl
  | some l=>show bkStep m l e.1=stepV e.2 l e.1; rw [stepV_eq,hv]
theorem foldE_none:∀ es:List (Int×Int),foldE es none=none
 | []=>rfl
 | _::q=>foldE_none q
def resOf:Option (List Bk)->List Bk×Bool
 | some l=>(l,true)
 | none=>([],false)
theorem bkRes_eq (m:zK0):bkRes m=if m.length > 64 then ([],false) else resOf (bkAll m (sorted (m.map (·.1))) (some [])):=by
 unfold bkRes
 cases bkAll m (sorted (m.map (·.1))) (some []) <;> rfl
theorem bkRes_rise {m:List (Int×Int)} (h:rise m) (hl:m.length≤64):bkRes m=resOf (foldE m (some [])):=by
 rw [bkRes_eq,if_neg (by omega),sorted_rise h,bkAll_fold fun e he=>dget_in h he]
theorem bkRes_far {m:List (Int×Int)} (h:rise m) (hk:∀ e ∈ m,e.1 < 64) (v:Int):bkRes (m++[(64,v)])=([],false):=by
 rw [bkRes_eq]
 split
 ·rfl
 ·have hr:rise (m++[(64,v)]):=by
   unfold rise
   rw [List.map_append,List.pairwise_append]
   refine ⟨h,by simp,fun a ha b hb=>?_⟩
   obtain ⟨e,he,rfl⟩:=List.mem_map.1 ha
   simp at hb
   have:=hk e he
   omega
  rw [sorted_rise hr,List.map_append,List.map_singleton,bkAll_snoc]
  cases bkAll (m++[(64,v)]) (m.map (·.1)) (some []) with
  | none=>rfl
  | some l =>
   have:bkStep (m++[(64,v)]) l 64=none:=by unfold bkStep; rw [if_pos (.inr (by decide))]
   show resOf (bkStep (m++[(64,v)]) l 64)=_
   rw [this]
   rfl
def fl:Int->List Int->List (Int×Int)
 | a,w::r=>(a,w)::fl (a + 1) r
 | _,[]=>[]
def flat (l:List Bk):List (Int×Int):=l.flatMap fun b=>fl b.1 b.2
def nxt (b c:Bk):Prop:=b.1 + (b.2.length:Int) < c.1∨(b.1 + (b.2.length:Int)=c.1∧b.2.length=14)
structure Good (l:List Bk):Prop where
 len:∀ b ∈ l,1≤b.2.length∧b.2.length≤14
 chn:∀ (j:Nat) (b c:Bk),l[j]? = some b->l[j + 1]? = some c->nxt b c
structure BI (i runs:Nat) (l:List Bk):Prop where
 zero:runs=0->∀ a ws,l.getLast? = some (a,ws)->a + (ws.length:Int) < i
 pos:runs ≠ 0->∃ l' a ws,l=l'++[(a,ws)]∧a + (ws.length:Int)=i∧ws.length=(runs - 1) % 14 + 1
end Go.Proofs.Lx
end
section
set_option maxRecDepth 100000
namespace Go.Proofs.Lx
open Go Ev Sx Pl
@[reducible] def zK1:Type:=(List Int)×(List Bool)×(Int)×(Int)×(List (Int×Int))->Option (As [.sl (.pr (.int .i64) (.int .u16))])
def qi2_ :=(fun (self:zK1) (s:(List Int)×(List Bool)×(Int)×(Int)×(List (Int×Int)))=>q7a_ (qfz_ (fun w is' t9 t10 out=>self (w,is',t9,t10,out))) (fun w is' t9 t10 out=>self (w,is',t9,t10,out)) s.1 s.2.1 s.2.2.1 s.2.2.2.1 s.2.2.2.2)
theorem qmw_  (self:zK1) (w:List Int) (is':List Bool) (t9:Int) (t10:Int) (out:zK0):qi2_ self (w,is',t9,t10,out)=q7a_ (qfz_ (fun w is' t9 t10 out=>self (w,is',t9,t10,out))) (fun w is' t9 t10 out=>self (w,is',t9,t10,out)) w is' t9 t10 out:=rfl
theorem qtw_  (w:List Int) (is':List Bool) (t9:Int) (t10:Int) (out:zK0):qfc_ w is' t9 t10 out=loopF (qi2_) 18446744073709551616 (w,is',t9,t10,out):=rfl
@[reducible] def zK2:Type:=(List (Int×List Int))×(List (Int×List Int))×(Int)×(Int)->Option (As [.bool])
def q6h_ :=(fun (self:zK2) (s:(List (Int×List Int))×(List (Int×List Int))×(Int)×(Int))=>q5v_ (q92_ (fun a b t12 t13=>self (a,b,t12,t13))) (fun a b t12 t13=>self (a,b,t12,t13)) s.1 s.2.1 s.2.2.1 s.2.2.2)
@[reducible] def zK3:Type:=List (Int×List Int)
theorem qln_  (self:zK2) (a:zK3) (b:zK3) (t12:Int) (t13:Int):q6h_ self (a,b,t12,t13)=q5v_ (q92_ (fun a b t12 t13=>self (a,b,t12,t13))) (fun a b t12 t13=>self (a,b,t12,t13)) a b t12 t13:=rfl
theorem qst_  (a:zK3) (b:zK3) (t12:Int) (t13:Int):qem_ a b t12 t13=loopF (q6h_) 18446744073709551616 (a,b,t12,t13):=rfl
@[reducible] def zK4:Type:=(List Int)×(List Int)×(Int)×(Int)->Option (As [.bool])
def q9h_ :=(fun (self:zK4) (s:(List Int)×(List Int)×(Int)×(Int))=>q5y_ (fun a b t12 t13=>self (a,b,t12,t13)) s.1 s.2.1 s.2.2.1 s.2.2.2)
theorem qlz_  (self:zK4) (a:List Int) (b:List Int) (t12:Int) (t13:Int):q9h_ self (a,b,t12,t13)=q5y_ (fun a b t12 t13=>self (a,b,t12,t13)) a b t12 t13:=rfl
theorem qsu_  (a:List Int) (b:List Int) (t12:Int) (t13:Int):qdx_ a b t12 t13=loopF (q9h_) 18446744073709551616 (a,b,t12,t13):=rfl
@[reducible] def zK5:Type:=(List (Int×List Int))×(Int)×(Int)×(List Int)->Option (As [.sl (.int .u16)])
def qbf_ :=(fun (self:zK5) (s:(List (Int×List Int))×(Int)×(Int)×(List Int))=>q7j_ (qac_ (fun t12 t13 t14 bank=>self (t12,t13,t14,bank))) (fun t12 t13 t14 bank=>self (t12,t13,t14,bank)) s.1 s.2.1 s.2.2.1 s.2.2.2)
theorem qmi_  (self:zK5) (t12:zK3) (t13:Int) (t14:Int) (bank:List Int):qbf_ self (t12,t13,t14,bank)=q7j_ (qac_ (fun t12 t13 t14 bank=>self (t12,t13,t14,bank))) (fun t12 t13 t14 bank=>self (t12,t13,t14,bank)) t12 t13 t14 bank:=rfl
theorem qtr_  (t12:zK3) (t13:Int) (t14:Int) (bank:List Int):qgp_ t12 t13 t14 bank=loopF (qbf_) 18446744073709551616 (t12,t13,t14,bank):=rfl
@[reducible] def zK6:Type:=List (Int×List Int)->Int->Int->List Int->Option (As [.sl (.int .u16)])
@[reducible] def zK7:Type:=(List (Int×List Int))×(Int)×(Int)×(List Int)×(Int)×(Int)×(List Int)×(Int×List Int)->Option (As [.sl (.int .u16)])
def qc8_ (u1:zK6):=(fun (self:zK7) (s:(List (Int×List Int))×(Int)×(Int)×(List Int)×(Int)×(Int)×(List Int)×(Int×List Int))=>q89_ (q9z_ u1 (fun t12 t13 t14 t19 t20 t21 bank x=>self (t12,t13,t14,t19,t20,t21,bank,x))) u1 (fun t12 t13 t14 t19 t20 t21 bank x=>self (t12,t13,t14,t19,t20,t21,bank,x)) s.1 s.2.1 s.2.2.1 s.2.2.2.1 s.2.2.2.2.1 s.2.2.2.2.2.1 s.2.2.2.2.2.2.1 s.2.2.2.2.2.2.2)
theorem qms_ (u1:zK6) (self:zK7) (t12:zK3) (t13 t14:Int) (t19:List Int) (t20 t21:Int) (bank:List Int) (x:Int×List Int):qc8_ u1 self (t12,t13,t14,t19,t20,t21,bank,x)=q89_ (q9z_ u1 (fun t12 t13 t14 t19 t20 t21 bank x=>self (t12,t13,t14,t19,t20,t21,bank,x))) u1 (fun t12 t13 t14 t19 t20 t21 bank x=>self (t12,t13,t14,t19,t20,t21,bank,x)) t12 t13 t14 t19 t20 t21 bank x:=rfl
theorem qtq_ (u1:zK6) (t12:zK3) (t13 t14:Int) (t19:List Int) (t20 t21:Int) (bank:List Int) (x:Int×List Int):qac_ u1 t12 t13 t14 t19 t20 t21 bank x=loopF (qc8_ u1) 18446744073709551616 (t12,t13,t14,t19,t20,t21,bank,x):=rfl
theorem row_go (W:List Int) (V:List Bool) (hl:W.length=V.length) (hs:W.length≤1000000):∀ (k i n:Nat) (out:zK0),i + k=W.length->k < n->(∀ e ∈ out,e.1 < (i:Int)) ->
  loopF qi2_ n (W,V,Int.ofNat W.length,(i:Int),out)=some (out++ents i (W.drop i) (V.drop i),())
 | k,_,0,_,_,h,_=>by omega
 | 0,i,n + 1,out,h,_,ho=>by
  rw [q5_,qmw_]
  unfold q7a_
  rw [if_neg (by rw [q1_,q0_]; omega),List.drop_eq_nil_of_le (by omega)]
  simp [ents]
 | k + 1,i,n + 1,out,h,hn,ho=>by
  have hw:i < W.length:=by omega
  have hv:i < V.length:=by omega
  have ew:W[i]? = some W[i]:=List.getElem?_eq_getElem hw
  have ev:V[i]? = some V[i]:=List.getElem?_eq_getElem hv
  rw [q5_,qmw_]
  unfold q7a_
  rw [if_pos (by rw [q1_,q0_]; omega),if_pos (by rw [q1_,q0_]; omega),q4_ ev,Option.bind_some]
  show qff_ _ W V (i:Int) (Int.ofNat W.length) (i:Int) V[i] out=_
  unfold qff_
  rw [List.drop_eq_getElem_cons hw,List.drop_eq_getElem_cons hv,q4_ ew,Option.bind_some,show add .i64 (i:Int) 1=((i + 1:Nat):Int) from q9_ (by omega)]
  cases hb:V[i] with
  | true =>
   rw [if_pos rfl,dput_out (fun e he=>by have:=ho e he; omega)]
   refine (row_go W V hl hs k (i + 1) n _ (by omega) (by omega) (fun e he=>by
    rcases List.mem_append.1 he with he | he
    ·have:=ho e he; omega
    ·simp at he; subst he; omega)).trans ?_
   simp [ents]
  | false =>
   rw [if_neg (by simp)]
   refine (row_go W V hl hs k (i + 1) n _ (by omega) (by omega) (fun e he=>by have:=ho e he; omega)).trans ?_
   simp [ents]
theorem row_eq (W:List Int) (V:List Bool) (hl:W.length=V.length) (hs:W.length≤1000000):q6b_ (W,V,())=some (ents 0 W V,()):=by
 show qfc_ W V (Int.ofNat W.length) 0 []=_
 rw [qtw_]
 have:=row_go W V hl hs W.length 0 18446744073709551616 [] (by omega) (by omega) (fun e he=>by cases he)
 simpa using this
theorem regs_go (a b:List Int) (hl:a.length=b.length) (hs:a.length≤1000000):∀ (k i n:Nat),i + k=a.length->k < n->loopF q9h_ n (a,b,Int.ofNat a.length,(i:Int))=some (decide (a.drop i=b.drop i),())
 | k,_,0,_,h=>by omega
 | 0,i,n + 1,h,_=>by
  rw [q5_,qlz_]
  unfold q5y_
  rw [if_neg (by rw [q1_,q0_]; omega),List.drop_eq_nil_of_le (by omega),List.drop_eq_nil_of_le (by omega)]
  simp
 | k + 1,i,n + 1,h,hn=>by
  have hw:i < a.length:=by omega
  have hv:i < b.length:=by omega
  rw [q5_,qlz_]
  unfold q5y_
  rw [if_pos (by rw [q1_,q0_]; omega),q4_ (List.getElem?_eq_getElem hw),Option.bind_some,q4_ (List.getElem?_eq_getElem hv),Option.bind_some,List.drop_eq_getElem_cons hw,List.drop_eq_getElem_cons hv]
  rw [show add .i64 (i:Int) 1=((i + 1:Nat):Int) from q9_ (by omega)]
  have ih:=regs_go a b hl hs k (i + 1) n (by omega) (by omega)
  show (if nei a[i] b[i]=true then _ else loopF q9h_ n (a,b,Int.ofNat a.length,((i + 1:Nat):Int)))=_
  rw [ih]
  generalize a[i]=x,b[i]=y,a.drop (i + 1)=p,b.drop (i + 1)=q
  by_cases hc:x=y
  ·rw [if_neg (by rw [qh_]; simp [hc])]
   simp [hc]
  ·rw [if_pos (qh_.2 hc)]
   simp [hc]
theorem regs_eq (a b:List Int) (h1:a.length≤1000000) (h2:b.length≤1000000):q32_ (a,b,())=some (decide (a=b),()):=by
 show qeh_ qdx_ a b=_
 unfold qeh_
 by_cases hl:a.length=b.length
 ·rw [if_neg (by rw [qh_,q0_,q0_]; omega),qsu_]
  have:=regs_go a b hl h1 a.length 0 18446744073709551616 (by omega) (by omega)
  simpa using this
 ·rw [if_pos (by rw [qh_,q0_,q0_]; omega)]
  have:a ≠ b:=fun e=>hl (by rw [e])
  simp [this]
def SmB (l:List Bk):Prop:=l.length≤1000000∧∀ b ∈ l,b.2.length≤1000000
theorem same_go (a b:List Bk) (hl:a.length=b.length) (ha:SmB a) (hb:SmB b):∀ (k i n:Nat),i + k=a.length->k < n->loopF q6h_ n (a,b,Int.ofNat a.length,(i:Int))=some (decide (a.drop i=b.drop i),())
 | k,_,0,_,h=>by omega
 | 0,i,n + 1,h,_=>by
  rw [q5_,qln_]
  unfold q5v_
  rw [if_neg (by rw [q1_,q0_]; omega),List.drop_eq_nil_of_le (by omega),List.drop_eq_nil_of_le (by omega)]
  simp
 | k + 1,i,n + 1,h,hn=>by
  have hw:i < a.length:=by omega
  have hv:i < b.length:=by omega
  have h6:=ha.1
  rw [q5_,qln_]
  unfold q5v_
  rw [if_pos (by rw [q1_,q0_]; omega),q4_ (List.getElem?_eq_getElem hw),Option.bind_some,q4_ (List.getElem?_eq_getElem hv),Option.bind_some,List.drop_eq_getElem_cons hw,List.drop_eq_getElem_cons hv,Option.bind_some,Option.bind_some,
   regs_eq _ _ (ha.2 _ (List.getElem_mem hw)) (hb.2 _ (List.getElem_mem hv)),Option.bind_some]
  have hk:∀ c,q92_ (fun a b t12 t13=>loopF q6h_ n (a,b,t12,t13)) a b (Int.ofNat a.length) (i:Int) c=if c=true then some (false,()) else some (decide (a.drop (i + 1)=b.drop (i + 1)),()):=fun c=>by
   show qev_ _ a b _ _ c=_
   unfold qev_
   rw [show add .i64 (i:Int) 1=((i + 1:Nat):Int) from q9_ (by omega)]
   have ih:=same_go a b hl ha hb k (i + 1) n (by omega) (by omega)
   show (if c=true then _ else loopF q6h_ n (a,b,Int.ofNat a.length,((i + 1:Nat):Int)))=_
   rw [ih]
  rw [hk,hk]
  generalize a[i]=x,b[i]=y,a.drop (i + 1)=p,b.drop (i + 1)=q
  by_cases h1:x.1=y.1
  ·rw [if_neg (by rw [qh_]; simp [h1])]
   by_cases h2:x.2=y.2
   ·have:x=y:=Prod.ext h1 h2
    simp [this]
   ·have:¬ x=y:=fun e=>h2 (by rw [e])
    simp [this,h2]
  ·have:¬ x=y:=fun e=>h1 (by rw [e])
   rw [if_pos (qh_.2 h1),if_pos rfl]
   simp [this]
theorem same_eq (a b:List Bk) (ha:SmB a) (hb:SmB b):q2g_ (a,b,())=some (decide (a=b),()):=by
 show qec_ qem_ a b=_
 unfold qec_
 by_cases hl:a.length=b.length
 ·rw [if_neg (by rw [qh_,q0_,q0_]; omega),qst_]
  have:=same_go a b hl ha hb a.length 0 18446744073709551616 (by omega) (by have:=ha.1; omega)
  simpa using this
 ·rw [if_pos (by rw [qh_,q0_,q0_]; omega)]
  have:a ≠ b:=fun e=>hl (by rw [e])
  simp [this]
end Go.Proofs.Lx
end
section
set_option maxRecDepth 100000
namespace Go.Proofs.Lx
open Go Ev Sx Pl
def setW (bank:List Int) (a w:Int):List Int:=if 0≤a∧a < (bank.length:Int) then bank.set a.toNat w else bank
theorem setW_len (bank:List Int) (a w:Int):(setW bank a w).length=bank.length:=by unfold setW; split <;> simp
def overW:List Int->Int->List Int->List Int
 | bank,_,[]=>bank
 | bank,a,w::r=>overW (setW bank a w) (a + 1) r
theorem overW_len:∀ (ws bank:List Int) (a:Int),(overW bank a ws).length=bank.length
 | [],_,_=>rfl
 | w::r,bank,a=>by rw [overW,overW_len r,setW_len]
def over:List Int->List Bk->List Int
 | bank,[]=>bank
 | bank,b::r=>over (overW bank b.1 b.2) r
theorem over_len:∀ (l:List Bk) (bank:List Int),(over bank l).length=bank.length
 | [],_=>rfl
 | b::r,bank=>by rw [over,over_len r,overW_len]
def FitB (l:List Bk):Prop:=l.length≤1000000∧∀ b ∈ l,b.2.length≤1000000∧-1000000≤b.1∧b.1≤1000000
theorem FitB.sm {l:List Bk} (h:FitB l):SmB l:=⟨h.1,fun b hb=>(h.2 b hb).1⟩
theorem at_some_in {α:Type} {s:List α} {i:Int} (h:0≤i∧i < (s.length:Int)):∃ c,at? s i=some c:=by
 obtain ⟨n,rfl⟩:=Int.eq_ofNat_of_zero_le h.1
 exact ⟨_,q4_ (List.getElem?_eq_getElem (show n < s.length by omega))⟩
theorem over_in (u1:List Bk->Int->Int->List Int->Option (As [.sl (.int .u16)])) (l:List Bk) (j:Int) (x:Bk) (h1:x.2.length≤1000000) (h2:-1000000≤x.1∧x.1≤1000000) :
  ∀ (k i n:Nat) (bank:List Int),i + k=x.2.length->k < n->bank.length≤1000000->loopF (qc8_ u1) n (l,Int.ofNat l.length,j,x.2,Int.ofNat x.2.length,(i:Int),bank,x)=u1 l (Int.ofNat l.length) (add .i64 j 1) (overW bank (x.1 + (i:Int)) (x.2.drop i))
 | k,_,0,_,_,h,_=>by omega
 | 0,i,n + 1,bank,h,_,hb=>by
  rw [q5_,qms_]
  unfold q89_
  rw [if_neg (by rw [q1_,q0_]; omega),List.drop_eq_nil_of_le (by omega)]
  rfl
 | k + 1,i,n + 1,bank,h,hn,hb=>by
  have hw:i < x.2.length:=by omega
  rw [q5_,qms_]
  unfold q89_
  have ea:add .i64 x.1 (i:Int)=x.1 + (i:Int):=add64 (by omega) (by omega)
  rw [if_pos (by rw [q1_,q0_]; omega),q4_ (List.getElem?_eq_getElem hw),Option.bind_some,ea,List.drop_eq_getElem_cons hw,overW,Int.add_assoc]
  have e1:add .i64 (i:Int) 1=((i + 1:Nat):Int):=q9_ (by omega)
  have e2:((i:Int) + 1)=((i + 1:Nat):Int):=by omega
  have ih:=fun bank' hb'=>over_in u1 l j x h1 h2 k (i + 1) n bank' (by omega) (by omega) hb'
  have step:∀ c:Bool,c=decide (0≤x.1 + (i:Int)∧x.1 + (i:Int) < (bank.length:Int))->q9z_ u1 (fun t12 t13 t14 t19 t20 t21 bank x=>loopF (qc8_ u1) n (t12,t13,t14,t19,t20,t21,bank,x)) x.2[i] (x.1 + (i:Int)) l (Int.ofNat l.length) j x.2 (Int.ofNat x.2.length) (i:Int) c bank x =
    u1 l (Int.ofNat l.length) (add .i64 j 1) (overW (setW bank (x.1 + (i:Int)) x.2[i]) (x.1 + ((i:Int) + 1)) (x.2.drop (i + 1))):=by
   intro c hc
   show qg6_ u1 _ x.2[i] (x.1 + (i:Int)) l (Int.ofNat l.length) j x.2 (Int.ofNat x.2.length) (i:Int) c bank x=_
   unfold qg6_
   rw [e1]
   by_cases hin:0≤x.1 + (i:Int)∧x.1 + (i:Int) < (bank.length:Int)
   ·obtain ⟨v,hv⟩:=at_some_in hin
    rw [hc,if_pos (by simpa using hin),hv,Option.bind_some,Option.bind_some]
    have hs:setW bank (x.1 + (i:Int)) x.2[i]=bank.set (x.1 + (i:Int)).toNat x.2[i]:=by unfold setW; rw [if_pos hin]
    rw [hs,e2]
    exact ih _ (by simpa using hb)
   ·rw [hc,if_neg (by simpa using hin)]
    have hs:setW bank (x.1 + (i:Int)) x.2[i]=bank:=by unfold setW; rw [if_neg hin]
    rw [hs,e2]
    exact ih _ hb
  by_cases h0:0≤x.1 + (i:Int)
  ·rw [if_pos (ge_iff.2 h0)]
   exact step _ (by simp [lt,h0])
  ·rw [if_neg (by rw [ge_iff]; exact h0)]
   exact step _ (by simp [h0])
theorem over_out (l:List Bk) (h:FitB l):∀ (k j n:Nat) (bank:List Int),j + k=l.length->k < n->bank.length≤1000000->loopF qbf_ n (l,Int.ofNat l.length,(j:Int),bank)=some (over bank (l.drop j),())
 | k,_,0,_,_,h,_=>by omega
 | 0,j,n + 1,bank,hj,_,hb=>by
  rw [q5_,qmi_]
  unfold q7j_
  rw [if_neg (by rw [q1_,q0_]; omega),List.drop_eq_nil_of_le (by omega)]
  rfl
 | k + 1,j,n + 1,bank,hj,hn,hb=>by
  have hw:j < l.length:=by omega
  have h6:=h.1
  have h7:=h.2 _ (List.getElem_mem hw)
  rw [q5_,qmi_]
  unfold q7j_
  rw [if_pos (by rw [q1_,q0_]; omega),q4_ (List.getElem?_eq_getElem hw),Option.bind_some,qtq_]
  have:=over_in (fun t12 t13 t14 bank=>loopF qbf_ n (t12,t13,t14,bank)) l (j:Int) l[j] h7.1 h7.2 l[j].2.length 0 18446744073709551616 bank (by omega) (by omega) hb
  refine Eq.trans this ?_
  rw [show add .i64 (j:Int) 1=((j + 1:Nat):Int) from q9_ (by omega)]
  refine (over_out l h k (j + 1) n _ (by omega) (by omega) (by rw [overW_len]; exact hb)).trans ?_
  rw [List.drop_eq_getElem_cons hw,over]
  simp
theorem eqAs_r {rs:List Ty} (a:Option (As rs)):amb (eqAs rs) [a,a]=a:=amb2 (eqAs_refl rs) a
theorem clone_n (s:List Int) (h:s.length≤1000000):q31_ (s,())=some (s,()):=by
 show q40_ s=_
 unfold q40_
 by_cases h0:s=[]
 ·subst h0
  rw [if_pos (by decide),qp_ (by decide)]
  exact eqAs_r _
 ·have:s.length ≠ 0:=fun e=>h0 (List.eq_nil_of_length_eq_zero e)
  rw [if_neg (by rw [qb_,q0_]; omega),q1v_ (by omega)]
theorem over_eq (bank:List Int) (l:List Bk) (hb:bank.length≤1000000) (h:FitB l):q62_ (bank,l,())=some (over bank l,()):=by
 show qfp_ qgp_ bank l=_
 unfold qfp_
 rw [clone_n bank hb,Option.bind_some,qtr_]
 have:=over_out l h l.length 0 18446744073709551616 bank (by omega) (by have:=h.1; omega) hb
 simpa using this
theorem blocks_eq {m:List (Int×Int)} (h:m.all keyOk=true):q1q_ (m,())=some ((bkRes m).1,(bkRes m).2,m,()):=by
 show (if m.all keyOk=true then _ else _)=_
 rw [if_pos h]
theorem res1:bkRes [(3,7),(4,8),(6,9)]=([(3,[7,8]),(6,[9])],true):=by
 rw [bkRes_rise (by unfold rise; decide) (by decide)]
 decide
theorem res2:bkRes [(64,1)]=([],false):=bkRes_far (m:=[]) (by unfold rise; decide) (by simp) 1
def m15:List (Int×Int):=[(0,0),(1,1),(2,2),(3,3),(4,4),(5,5),(6,6),(7,7),(8,8),(9,9),(10,10),(11,11),(12,12),(13,13),(14,14)]
theorem res3:bkRes m15=([(0,[0,1,2,3,4,5,6,7,8,9,10,11,12,13]),(14,[14])],true):=by
 rw [bkRes_rise (by unfold rise m15; decide) (by decide)]
 decide
theorem awake_loop (a:List Bk) (x:Bool):q84_ a x 0 []=qhq_ a x m15:=by kernel_rfl
theorem awake:q1b_ ()=some (true,()):=by
 show qbd_ q84_=_
 unfold qbd_
 rw [blocks_eq (by decide),res1,Option.bind_some]
 show q84_ [(3,[7,8]),(6,[9])] true 0 []=_
 rw [awake_loop]
 show qbo_ [(3,[7,8]),(6,[9])] true m15=_
 unfold qbo_
 rw [blocks_eq (m:=m15) (by decide),res3,Option.bind_some,blocks_eq (by decide),res2,Option.bind_some,if_pos rfl,if_pos rfl,if_pos (by decide),
  same_eq _ _ ⟨by decide,by decide⟩ ⟨by decide,by decide⟩,Option.bind_some,if_pos (by decide),if_pos (by decide)]
 show Option.bind (some (0,[0,1,2,3,4,5,6,7,8,9,10,11,12,13])) _=_
 rw [Option.bind_some,if_pos (by decide)]
 show Option.bind (some (14,[14])) _=_
 rw [Option.bind_some,if_pos (by decide),over_eq _ _ (by decide) ⟨by decide,by decide⟩,Option.bind_some,regs_eq _ _ (by rw [over_len]; decide) (by decide),Option.bind_some]
 decide
end Go.Proofs.Lx
end
section
set_option maxRecDepth 100000
namespace Go.Proofs.Lx
open Go Ev Sx Pl
end Go.Proofs.Lx
end
section
open Go Go.Proofs Ev Sx
set_option maxRecDepth 100000
namespace Go.Proofs.Lx
abbrev QMT0:Type:=(List UInt8×Int×Int×Bool×(Int×Int)×(Int×Int)×List UInt8)
abbrev QMT6:Type:=(List UInt8×(Int×Int)×List UInt8×Int)
abbrev QMT1:Type:=(List UInt8×Int×List QMT6)
abbrev QMT2:Ty:=(.sl (.pr .str (.pr (.int .i64) (.pr (.int .i64) (.pr .bool (.pr (.pr (.int .i64) (.int .u8)) (.pr (.pr (.int .i64) (.int .u8)) .str)))))))
abbrev QMT3:Type:=(Int×List (Int×List Int))
abbrev QMT4:Ty:=(.sl (.pr .str (.pr (.int .i64) (.sl (.pr .str (.pr (.pr (.int .i64) (.int .u8)) (.pr .str (.int .i64))))))))
abbrev QMT5:Ty:=(.pr (.int .i64) (.sl (.pr (.int .i64) (.sl (.int .u16)))))
@[reducible] def q98_:Sh:=⟨[.d (.sl (.pr .str QMT2)),.d (.pr .str QMT4)],[],[.sl (.pr .str QMT2),.pr .str QMT4],[.d (.sl QMT5),.d (.pr (.int .i64) (.int .i64))],[],0,[.sl QMT5,.pr (.int .i64) (.int .i64)]⟩
def qja_:Env:=(cts [(8,(⟨q2d_,q90_⟩:Ct)),(20,(⟨q16_,qcu_⟩:Ct)),(27,(⟨q50_,q22_⟩:Ct))])
def qjd_:List (Nat×Hint):=[(15,⟨[],[5,6]⟩),(63,⟨[],[5,14]⟩),(506,⟨[.row 14 64],[5,14,58,59,60]⟩),(122,⟨[],[0,5,6,30,31,32]⟩)]
@[reducible] def zK8:Type:=List (List UInt8×List QMT0)
@[reducible] def zK9:Type:=List (List (Int×Int))
def q9x_ (t:zK8) (words:zK9) (t30:List QMT1) (t31 t32:Int) (t5:Int×Int):St:=⟨[(0,.d (.sl (.pr .str QMT2)) t),(5,.pb 0 0),(6,.d (.sl (.mp (.int .i64) (.int .u16))) words),(30,.d QMT4 t30),(31,dI t31),(32,dI t32)],82,[],[(0,.box 50 [dI t5.1,dI t5.2])],1,[],0⟩
def qlp_ (words:zK9) (t5:Int×Int):St:=⟨[(5,.pb 0 0),(6,.d (.sl (.mp (.int .i64) (.int .u16))) words)],82,[],[(0,.box 50 [dI t5.1,dI t5.2])],1,[],0⟩
def qa1_ (t58:zK9) (t59 t60:Int) (t5:Int×Int) (l:List QMT3):St:=⟨[(5,.pb 0 0),(14,.row 1),(58,.d (.sl (.mp (.int .i64) (.int .u16))) t58),(59,dI t59),(60,dI t60)],82,[],[(0,.box 50 [dI t5.1,dI t5.2]),(1,.row QMT5 64 l)],2,[],0⟩
def qm3_ (t5:Int×Int) (l:List QMT3):St:=⟨[(5,.pb 0 0),(14,.row 1)],82,[],[(0,.box 50 [dI t5.1,dI t5.2]),(1,.row QMT5 64 l)],2,[],0⟩
@[reducible] def zK10:Type:=List (List UInt8×List QMT0)->List (List (Int×Int))->List QMT1->Int->Int->Int×Int->Option (As [.sl QMT5,.pr (.int .i64) (.int .i64)])
def q7h_ (j2:List (List (Int×Int))->Int×Int->Option (As [.sl QMT5,.pr (.int .i64) (.int .i64)])) (self1:zK10) (t:zK8) (words:zK9) (t30:List QMT1) (t31 t32:Int) (t5:Int×Int):Option (As [.sl QMT5,.pr (.int .i64) (.int .i64)]) :=
 if lt t32 t31=true then Option.bind (at? t30 t32) fun y=>Option.bind (q22_ (t,y.1,())) fun y_1=>if y_1.2.1=true then Option.bind (at? words y_1.1) fun y_2=>Option.bind (q90_ (y_2,())) fun y_3=>if (!y_3.2.1)=true then some ([],(160,y.2.1),()) else self1 t words t30 t31 (add .i64 t32 1) t5 else self1 t words t30 t31 (add .i64 t32 1) t5 else j2 words t5
@[reducible] def zK11:Type:=List (List (Int×Int))->Int->Int->Int×Int->List QMT3->Option (As [.sl QMT5,.pr (.int .i64) (.int .i64)])
def qs1_ (j3:zK11) (words:zK9) (t5:Int×Int):Option (As [.sl QMT5,.pr (.int .i64) (.int .i64)]) :=
 j3 words (Int.ofNat (List.length words)) 0 t5 []
def q7f_ (j4:Int×Int->List QMT3->Option (As [.sl QMT5,.pr (.int .i64) (.int .i64)])) (self3:zK11) (t58:zK9) (t59 t60:Int) (t5:Int×Int) (l:List QMT3):Option (As [.sl QMT5,.pr (.int .i64) (.int .i64)]) :=
 if lt t60 t59=true then Option.bind (at? t58 t60) fun y=>Option.bind (q90_ (y,())) fun y=>if gt (Int.ofNat (List.length y.1)) 0=true then need (small (List.length l + Nat.succ 0)) (self3 t58 t59 (add .i64 t60 1) t5 (l++[(t60,y.1)])) else self3 t58 t59 (add .i64 t60 1) t5 l else j4 t5 l
def qqu_ (t5:Int×Int) (l:List QMT3):Option (As [.sl QMT5,.pr (.int .i64) (.int .i64)]) :=
 some (l,(0,0),())
@[reducible] def zK12:Type:=List UInt8×List QMT1
def qgf_ (j1:zK10) (t:zK8) (r:zK12):Option (As [.sl QMT5,.pr (.int .i64) (.int .i64)]) :=
 Option.bind (qcu_ (t,r,())) fun y=>if (!(eqi y.2.1.1 0 && (eqi y.2.1.2 0 && true)))=true then some ([],y.2.1,()) else j1 t y.1 r.2 (Int.ofNat (List.length r.2)) 0 (0,0)
def qgk_:=qqu_
def qgj_ (t58:zK9) (t59 t60:Int) (t5:Int×Int) (l:List QMT3):Option (As [.sl QMT5,.pr (.int .i64) (.int .i64)]) :=
 loopF (fun self s=>q7f_ (qgk_) (fun t58 t59 t60 t5 l=>self (t58,t59,t60,t5,l)) s.1 s.2.1 s.2.2.1 s.2.2.2.1 s.2.2.2.2) 18446744073709551616 (t58,t59,t60,t5,l)
def qa0_:=qs1_ (qgj_)
def qgo_ (t:zK8) (words:zK9) (t30:List QMT1) (t31 t32:Int) (t5:Int×Int):Option (As [.sl QMT5,.pr (.int .i64) (.int .i64)]) :=
 loopF (fun self s=>q7h_ (qa0_) (fun t words t30 t31 t32 t5=>self (t,words,t30,t31,t32,t5)) s.1 s.2.1 s.2.2.1 s.2.2.2.1 s.2.2.2.2.1 s.2.2.2.2.2) 18446744073709551616 (t,words,t30,t31,t32,t5)
def qfa_ (x:As [.sl (.pr .str QMT2),.pr .str QMT4]):Option (As [.sl QMT5,.pr (.int .i64) (.int .i64)]):=qgf_ qgo_ x.1 x.2.1
noncomputable abbrev plan_Make_P:=pfn Try.prog qja_ 6 18446744073709551616 (Ev.get qjd_) 17 q98_
theorem q13u_ {J t5 l}:plan_Make_P J 63 [] (qm3_ t5 l)=qqu_ t5 l:=by kernel_rfl
theorem q149_ {J w3 t58 t59 t60 t5 l}:plan_Make_P J 506 [w3] (qa1_ t58 t59 t60 t5 l)=q7f_ (fun t5 l=>J 63 [] (qm3_ t5 l)) (fun t58 t59 t60 t5 l=>w3 (qa1_ t58 t59 t60 t5 l)) t58 t59 t60 t5 l:=by kernel_rfl
theorem q15h_ {J words t5}:plan_Make_P J 15 [] (qlp_ words t5)=qs1_ (fun t58 t59 t60 t5 l=>J 506 [] (qa1_ t58 t59 t60 t5 l)) words t5:=by kernel_rfl
theorem q13y_ {J w1 t words t30 t31 t32 t5}:plan_Make_P J 122 [w1] (q9x_ t words t30 t31 t32 t5)=q7h_ (fun words t5=>J 15 [] (qlp_ words t5)) (fun t words t30 t31 t32 t5=>w1 (q9x_ t words t30 t31 t32 t5)) t words t30 t31 t32 t5:=by kernel_rfl
theorem q141_ (J:Orc (As [.sl QMT5,.pr (.int .i64) (.int .i64)])) (x:As [.sl (.pr .str QMT2),.pr .str QMT4]):rfn Try.prog qja_ 6 18446744073709551616 (Ev.get qjd_) 17 q98_ J x=qgf_ (fun t words t30 t31 t32 t5=>J 122 [] (q9x_ t words t30 t31 t32 t5)) x.1 x.2.1:=by kernel_rfl
noncomputable abbrev plan_Make_J:=jfn Try.prog qja_ 6 18446744073709551616 (Ev.get qjd_) 17 q98_
theorem q15j_  (t5 l):plan_Make_J 63 [] (qm3_ t5 l)=qgk_ t5 l:=gN (by decide) q13u_
theorem q14a_  (t58 t59 t60 t5 l):plan_Make_J 506 [] (qa1_ t58 t59 t60 t5 l)=qgj_ t58 t59 t60 t5 l:=gL (σ:=(List (List (Int×Int)))×(Int)×(Int)×(Int×Int)×(List QMT3)) (mk:=fun s=>qa1_ s.1 s.2.1 s.2.2.1 s.2.2.2.1 s.2.2.2.2) (by decide) (by kernel_rfl) (fun w3 s=>q149_.trans (by simp only [q15j_])) (t58,t59,t60,t5,l)
theorem q14t_  (words t5):plan_Make_J 15 [] (qlp_ words t5)=qa0_ words t5:=gN (by decide) (q15h_.trans (by simp only [q14a_]; rfl))
theorem q14r_  (t words t30 t31 t32 t5):plan_Make_J 122 [] (q9x_ t words t30 t31 t32 t5)=qgo_ t words t30 t31 t32 t5:=gL (σ:=(List (List UInt8×List QMT0))×(List (List (Int×Int)))×(List QMT1)×(Int)×(Int)×(Int×Int)) (mk:=fun s=>q9x_ s.1 s.2.1 s.2.2.1 s.2.2.2.1 s.2.2.2.2.1 s.2.2.2.2.2) (by decide) (by kernel_rfl) (fun w1 s=>q13y_.trans (by simp only [q14t_])) (t,words,t30,t31,t32,t5)
theorem q15w_ (x:As [.sl (.pr .str QMT2),.pr .str QMT4]):evT Try.prog qja_ 6 18446744073709551616 (Ev.get qjd_) 17 q98_ x=qfa_ x:=by
 rw [qi_,q141_]
 simp only [q14r_]
 rfl
theorem q144_:CtOk Try.prog (fun _=>True) 17 ⟨q98_,qfa_⟩:=qa_ (q2_ qsx_ (q2_ qp4_ (q2_ qkg_ q6_))) q15w_
@[reducible] def zK13:Type:=List Int->List Int->List QMT1->Int->Int->List QMT6->Int->Int->List UInt8×List QMT0->List (Int×Int)->Option (As [.bool])
@[reducible] def zK14:Type:=List Int->List Int->List QMT1->Int->Int->List UInt8×List QMT0->List (Int×Int)->Option (As [.bool])
@[reducible] def zK15:Type:=List UInt8×List QMT0
@[reducible] def q11e_:Sh:=⟨[.d (.pr .str QMT2),.d (.pr .str QMT4),.d (.sl (.int .u16)),.d (.sl (.int .u16))],[],[.pr .str QMT2,.pr .str QMT4,.sl (.int .u16),.sl (.int .u16)],[.d (.bool)],[],0,[.bool]⟩
def qxx_ (j2:zK13) (j3:List Int->List Int->List (Int×Int)->Option (As [.bool])) (self1:zK14) (was now:List Int) (t23:List QMT1) (t24 t25:Int) (d:zK15) (said:zK0):Option (As [.bool]) :=
 if lt t25 t24=true then Option.bind (at? t23 t25) fun y=>if nes y.1 d.1=true then self1 was now t23 t24 (add .i64 t25 1) d said else j2 was now t23 t24 t25 y.2.2 (Int.ofNat (List.length y.2.2)) 0 d said else j3 was now said
@[reducible] def zK16:Type:=List Int->List Int->List QMT1->Int->Int->List QMT6->Int->Int->List QMT0->Int->Int->List UInt8×List QMT0->List (Int×Int)->List UInt8×(Int×Int)×List UInt8×Int->Option (As [.bool])
def q105_ (j4:zK16) (self1:zK14) (self2:zK13) (was now:List Int) (t23:List QMT1) (t24 t25:Int) (t35:List QMT6) (t36 t37:Int) (d:zK15) (said:zK0):Option (As [.bool]) :=
 if lt t37 t36=true then Option.bind (at? t35 t37) fun y=>j4 was now t23 t24 t25 t35 t36 t37 d.2 (Int.ofNat (List.length d.2)) 0 d said y else self1 was now t23 t24 (add .i64 t25 1) d said
@[reducible] def zK17:Type:=List Int->List Int->Int->Int->List (Int×Int)->Option (As [.bool])
def qxg_ (j5:zK17) (was now:List Int) (said:zK0):Option (As [.bool]) :=
 j5 was now (Int.ofNat (List.length was)) 0 said
@[reducible] def zK18:Type:=List UInt8×(Int×Int)×List UInt8×Int
def qzr_ (j6:List Int->List Int->Bool->Bool->List QMT1->Int->Int->List QMT6->Int->Int->List QMT0->Int->Int->List UInt8×List QMT0->List (Int×Int)->List UInt8×(Int×Int)×List UInt8×Int->List UInt8×Int×Int×Bool×(Int×Int)×(Int×Int)×List UInt8->Int×Int->Int×Int->Option (As [.bool])) (self1:zK14) (self2:zK13) (self4:zK16) (was now:List Int) (t23:List QMT1) (t24 t25:Int) (t35:List QMT6) (t36 t37:Int) (t42:List QMT0) (t43 t44:Int) (d:zK15) (said:zK0) (s:zK18):Option (As [.bool]) :=
 if lt t44 t43=true then Option.bind (at? t42 t44) fun y=>if nes y.1 s.1=true then self4 was now t23 t24 t25 t35 t36 t37 t42 t43 (add .i64 t44 1) d said s else Option.bind (q3n_ (s.2.1,s.2.2.1,y.2.2.2.2.2.2,())) fun y_1=>Option.bind (at? now y.2.1) fun y_2=>amb (eqAs q11e_.rs) [Option.bind (qsr_ (y_2,y.2.2.1,y.2.2.2.1,())) fun y_3=>j6 was now y_1.2.1 y_3.2.1 t23 t24 t25 t35 t36 t37 t42 t43 t44 d said s y y_1.1 y_3.1,Option.bind (qsr_ (y_2,y.2.2.1,y.2.2.2.1,())) fun y_3=>j6 was now y_1.2.1 y_3.2.1 t23 t24 t25 t35 t36 t37 t42 t43 t44 d said s y y_1.1 y_3.1] else self2 was now t23 t24 t25 t35 t36 (add .i64 t37 1) d said
def qul_ (j7:List Int->List Int->Int->Int->Bool->List (Int×Int)->Option (As [.bool])) (self5:zK17) (was now:List Int) (t96 t97:Int) (said:zK0):Option (As [.bool]) :=
 if lt t97 t96=true then if eqi (Ev.gdV (.int .i64) (Ev.dget (.int .i64) said t97) 0) 0=true then Option.bind (at? now t97) fun y=>Option.bind (at? was t97) fun y_1=>j7 was now t96 t97 (nei y y_1) said else j7 was now t96 t97 false said else some (true,())
@[reducible] def zK19:Type:=List UInt8×Int×Int×Bool×(Int×Int)×(Int×Int)×List UInt8
def q10a_ (j8:List Int->List Int->List QMT1->Int->Int->List QMT6->Int->Int->List QMT0->Int->Int->Bool->List UInt8×List QMT0->List (Int×Int)->List UInt8×(Int×Int)×List UInt8×Int->List UInt8×Int×Int×Bool×(Int×Int)×(Int×Int)×List UInt8->Option (As [.bool])) (self1:zK14) (self2:zK13) (self4:zK16) (was now:List Int) (ok is':Bool) (t23:List QMT1) (t24 t25:Int) (t35:List QMT6) (t36 t37:Int) (t42:List QMT0) (t43 t44:Int) (d:zK15) (said:zK0) (s:zK18) (q:zK19) (v w:Int×Int):Option (As [.bool]) :=
 if (!ok)=true then j8 was now t23 t24 t25 t35 t36 t37 t42 t43 t44 true d said s q else if (!is')=true then j8 was now t23 t24 t25 t35 t36 t37 t42 t43 t44 true d said s q else j8 was now t23 t24 t25 t35 t36 t37 t42 t43 t44 (!(eqi v.1 w.1 && (eqi v.2 w.2 && true))) d said s q
def qxw_ (self5:zK17) (was now:List Int) (t96 t97:Int) (t114:Bool) (said:zK0):Option (As [.bool]) :=
 if t114=true then some (false,()) else self5 was now t96 (add .i64 t97 1) said
def qvc_ (self1:zK14) (self2:zK13) (self4:zK16) (was now:List Int) (t23:List QMT1) (t24 t25:Int) (t35:List QMT6) (t36 t37:Int) (t42:List QMT0) (t43 t44:Int) (t86:Bool) (d:zK15) (said:zK0) (s:zK18) (q:zK19):Option (As [.bool]) :=
 if t86=true then some (false,()) else self4 was now t23 t24 t25 t35 t36 t37 t42 t43 (add .i64 t44 1) d (Ev.dput (.int .i64) said q.2.1 (add .i64 (Ev.gdV (.int .i64) (Ev.dget (.int .i64) said q.2.1) 0) 1)) s
def qzi_ (j1:zK14) (d:zK15) (r:zK12) (was now:List Int):Option (As [.bool]) :=
 j1 was now r.2 (Int.ofNat (List.length r.2)) 0 d []
def qvi_ (u1:zK14) (u2:zK13) (u4:zK16):=qvc_ u1 u2 u4
def qwo_ (u1:zK14) (u2:zK13) (u4:zK16):=q10a_ (qvi_ u1 u2 u4) u1 u2 u4
def qz4_ (u1:zK14) (u2:zK13) (was now:List Int) (t23:List QMT1) (t24 t25:Int) (t35:List QMT6) (t36 t37:Int) (t42:List QMT0) (t43 t44:Int) (d:zK15) (said:zK0) (s:zK18):Option (As [.bool]) :=
 loopF (fun self s=>qzr_ (qwo_ u1 u2 (fun was now t23 t24 t25 t35 t36 t37 t42 t43 t44 d said s=>self (was,now,t23,t24,t25,t35,t36,t37,t42,t43,t44,d,said,s))) u1 u2 (fun was now t23 t24 t25 t35 t36 t37 t42 t43 t44 d said s=>self (was,now,t23,t24,t25,t35,t36,t37,t42,t43,t44,d,said,s)) s.1 s.2.1 s.2.2.1 s.2.2.2.1 s.2.2.2.2.1 s.2.2.2.2.2.1 s.2.2.2.2.2.2.1 s.2.2.2.2.2.2.2.1 s.2.2.2.2.2.2.2.2.1 s.2.2.2.2.2.2.2.2.2.1 s.2.2.2.2.2.2.2.2.2.2.1 s.2.2.2.2.2.2.2.2.2.2.2.1 s.2.2.2.2.2.2.2.2.2.2.2.2.1 s.2.2.2.2.2.2.2.2.2.2.2.2.2) 18446744073709551616 (was,now,t23,t24,t25,t35,t36,t37,t42,t43,t44,d,said,s)
def qzc_ (u1:zK14) (was now:List Int) (t23:List QMT1) (t24 t25:Int) (t35:List QMT6) (t36 t37:Int) (d:zK15) (said:zK0):Option (As [.bool]) :=
 loopF (fun self s=>q105_ (qz4_ u1 (fun was now t23 t24 t25 t35 t36 t37 d said=>self (was,now,t23,t24,t25,t35,t36,t37,d,said))) u1 (fun was now t23 t24 t25 t35 t36 t37 d said=>self (was,now,t23,t24,t25,t35,t36,t37,d,said)) s.1 s.2.1 s.2.2.1 s.2.2.2.1 s.2.2.2.2.1 s.2.2.2.2.2.1 s.2.2.2.2.2.2.1 s.2.2.2.2.2.2.2.1 s.2.2.2.2.2.2.2.2.1 s.2.2.2.2.2.2.2.2.2) 18446744073709551616 (was,now,t23,t24,t25,t35,t36,t37,d,said)
def que_ (u5:zK17):=qxw_ u5
def qun_ (was now:List Int) (t96 t97:Int) (said:zK0):Option (As [.bool]) :=
 loopF (fun self s=>qul_ (que_ (fun was now t96 t97 said=>self (was,now,t96,t97,said))) (fun was now t96 t97 said=>self (was,now,t96,t97,said)) s.1 s.2.1 s.2.2.1 s.2.2.2.1 s.2.2.2.2) 18446744073709551616 (was,now,t96,t97,said)
def qyg_:=qxg_ (qun_)
def qxm_ (was now:List Int) (t23:List QMT1) (t24 t25:Int) (d:zK15) (said:zK0):Option (As [.bool]) :=
 loopF (fun self s=>qxx_ (qzc_ (fun was now t23 t24 t25 d said=>self (was,now,t23,t24,t25,d,said))) (qyg_) (fun was now t23 t24 t25 d said=>self (was,now,t23,t24,t25,d,said)) s.1 s.2.1 s.2.2.1 s.2.2.2.1 s.2.2.2.2.1 s.2.2.2.2.2.1 s.2.2.2.2.2.2) 18446744073709551616 (was,now,t23,t24,t25,d,said)
def q166_ (x:As [.pr .str QMT2,.pr .str QMT4,.sl (.int .u16),.sl (.int .u16)]):Option (As [.bool]):=qzi_ qxm_ x.1 x.2.1 x.2.2.1 x.2.2.2.1
@[reducible] def zK20:Type:=List (List UInt8×List QMT0)->List QMT3->Int->List QMT3->Int->Int->List UInt8×List QMT1->List Int->Option (As [.bool])
def qry_ (j2:zK20) (t:zK8) (bank:List Int) (t27:Bool) (r:zK12):Option (As [.bool]) :=
 if t27=true then Option.bind (q1b_ ()) fun y=>some (y.1,()) else Option.bind (qfa_ (t,r,())) fun y=>if nei y.2.1.1 0=true then if eqi (Int.ofNat (List.length y.1)) 0=true then Option.bind (q99_ (t,r,())) fun y_1=>if Sx.eqb (eqi y.2.1.1 160) (eqi y_1.1.1 0)=true then Option.bind (q1b_ ()) fun y=>some (y.1,()) else some (false,()) else some (false,()) else j2 t y.1 (-1) y.1 (Int.ofNat (List.length y.1)) 0 r (List.take 64 bank++List.drop (0 + List.length (List.take 64 bank)) (List.replicate 64 0))
def qs9_ (j3:List (List UInt8×List QMT0)->List QMT3->List QMT3->Int->Int->Bool->List UInt8×List QMT1->List Int->Int×List (Int×List Int)->Option (As [.bool])) (j4:List (List UInt8×List QMT0)->List QMT3->List UInt8×List QMT1->List Int->Option (As [.bool])) (self2:zK20) (t:zK8) (l:List QMT3) (last:Int) (t59:List QMT3) (t60 t61:Int) (r:zK12) (was:List Int):Option (As [.bool]) :=
 if lt t61 t60=true then Option.bind (at? t59 t61) fun y=>if le y.1 last=true then j3 t l t59 t60 t61 true r was y else if ge y.1 (Int.ofNat (List.length t))=true then j3 t l t59 t60 t61 true r was y else if lt (Int.ofNat (List.length y.2)) 1=true then j3 t l t59 t60 t61 true r was y else j3 t l t59 t60 t61 (gt (Int.ofNat (List.length y.2)) 8) r was y else j4 t l r was
@[reducible] def zK21:Type:=Int×List (Int×List Int)
def qs4_ (self2:zK20) (t:zK8) (l t59:List QMT3) (t60 t61:Int) (t87:Bool) (r:zK12) (was:List Int) (s:zK21):Option (As [.bool]) :=
 if t87=true then some (false,()) else self2 t l s.1 t59 t60 (add .i64 t61 1) r was
@[reducible] def zK22:Type:=List QMT3->List Int->List (List UInt8×List QMT0)->Int->Int->List UInt8×List QMT1->Option (As [.bool])
def qrn_ (j5:zK22) (t:zK8) (l:List QMT3) (r:zK12) (was:List Int):Option (As [.bool]) :=
 j5 l was t (Int.ofNat (List.length t)) 0 r
@[reducible] def zK23:Type:=List QMT3->List Int->Int->List Int->List (List UInt8×List QMT0)->Int->Int->List QMT3->Int->Int->List UInt8×List QMT1->List UInt8×List QMT0->Option (As [.bool])
def qra_ (j6:zK23) (self5:zK22) (l:List QMT3) (was:List Int) (t91:zK8) (t92 t93:Int) (r:zK12):Option (As [.bool]) :=
 if lt t93 t92=true then Option.bind (at? t91 t93) fun y=>j6 l was t93 was t91 t92 t93 l (Int.ofNat (List.length l)) 0 r y else Option.bind (q1b_ ()) fun y=>some (y.1,())
@[reducible] def zK24:Type:=List QMT3->List Int->Int->Int->List (List UInt8×List QMT0)->Int->Int->List QMT3->Int->Int->List UInt8×List QMT1->List UInt8×List QMT0->Int×List (Int×List Int)->List (Int×List Int)->Option (As [.bool])
def qsc_ (j7:zK24) (j8:List QMT3->List Int->List Int->List (List UInt8×List QMT0)->Int->Int->List UInt8×List QMT1->List UInt8×List QMT0->Option (As [.bool])) (self5:zK22) (self6:zK23) (l:List QMT3) (was:List Int) (i:Int) (now:List Int) (t91:zK8) (t92 t93:Int) (t99:List QMT3) (t100 t101:Int) (r:zK12) (d:zK15):Option (As [.bool]) :=
 if lt t101 t100=true then Option.bind (at? t99 t101) fun y=>if eqi y.1 i=true then j7 l was i (Sx.sub .i64 (Int.ofNat (List.length y.2)) 1) t91 t92 t93 t99 t100 t101 r d y [] else self6 l was i now t91 t92 t93 t99 t100 (add .i64 t101 1) r d else j8 l was now t91 t92 t93 r d
def qrg_ (j9:List QMT3->List Int->Int->List (List UInt8×List QMT0)->Int->Int->List QMT3->Int->Int->List UInt8×List QMT1->List UInt8×List QMT0->Int×List (Int×List Int)->List (Int×List Int)->Option (As [.bool])) (self5:zK22) (self6:zK23) (self7:zK24) (l:List QMT3) (was:List Int) (i k:Int) (t91:zK8) (t92 t93:Int) (t99:List QMT3) (t100 t101:Int) (r:zK12) (d:zK15) (s:zK21) (back:zK3):Option (As [.bool]) :=
 if ge k 0=true then Option.bind (at? s.2 k) fun y=>need (small (List.length back + Nat.succ 0)) (self7 l was i (Sx.sub .i64 k 1) t91 t92 t93 t99 t100 t101 r d s (back++[y])) else j9 l was i t91 t92 t93 t99 t100 t101 r d s back
def qrv_ (j10:List QMT3->List Int->List (List UInt8×List QMT0)->Int->Int->Bool->List UInt8×List QMT1->Option (As [.bool])) (self5:zK22) (l:List QMT3) (was now:List Int) (t91:zK8) (t92 t93:Int) (r:zK12) (d:zK15):Option (As [.bool]) :=
 if nei (Int.ofNat (List.length now)) (Int.ofNat (List.length was))=true then j10 l was t91 t92 t93 true r else Option.bind (q166_ (d,r,was,now,())) fun y=>j10 l was t91 t92 t93 (!y.1) r
def qr6_ (self5:zK22) (self6:zK23) (l:List QMT3) (was:List Int) (i:Int) (t91:zK8) (t92 t93:Int) (t99:List QMT3) (t100 t101:Int) (r:zK12) (d:zK15) (s:zK21) (back:zK3):Option (As [.bool]) :=
 Option.bind (q62_ (was,s.2,())) fun y=>Option.bind (q62_ (was,back,())) fun y_1=>Option.bind (q32_ (y.1,y_1.1,())) fun y_2=>if (!y_2.1)=true then some (false,()) else self6 l was i y.1 t91 t92 t93 t99 t100 (add .i64 t101 1) r d
def qq4_ (self5:zK22) (l:List QMT3) (was:List Int) (t91:zK8) (t92 t93:Int) (t148:Bool) (r:zK12):Option (As [.bool]) :=
 if t148=true then some (false,()) else self5 l was t91 t92 (add .i64 t93 1) r
def qqt_ (j1:List (List UInt8×List QMT0)->List Int->Bool->List UInt8×List QMT1->Option (As [.bool])) (t:zK8) (r:zK12) (bank:List Int):Option (As [.bool]) :=
 Option.bind (q9b_ (t,())) fun y=>if (!y.1)=true then j1 t bank true r else Option.bind (qfb_ (r,())) fun y=>j1 t bank (!y.1) r
def qs2_ (u2:zK20):=qs4_ u2
def qrf_ (u5:zK22) (u6:zK23):=qr6_ u5 u6
def qre_ (u5:zK22) (u6:zK23) (l:List QMT3) (was:List Int) (i k:Int) (t91:zK8) (t92 t93:Int) (t99:List QMT3) (t100 t101:Int) (r:zK12) (d:zK15) (s:zK21) (back:zK3):Option (As [.bool]) :=
 loopF (fun self s=>qrg_ (qrf_ u5 u6) u5 u6 (fun l was i k t91 t92 t93 t99 t100 t101 r d s back=>self (l,was,i,k,t91,t92,t93,t99,t100,t101,r,d,s,back)) s.1 s.2.1 s.2.2.1 s.2.2.2.1 s.2.2.2.2.1 s.2.2.2.2.2.1 s.2.2.2.2.2.2.1 s.2.2.2.2.2.2.2.1 s.2.2.2.2.2.2.2.2.1 s.2.2.2.2.2.2.2.2.2.1 s.2.2.2.2.2.2.2.2.2.2.1 s.2.2.2.2.2.2.2.2.2.2.2.1 s.2.2.2.2.2.2.2.2.2.2.2.2.1 s.2.2.2.2.2.2.2.2.2.2.2.2.2) 18446744073709551616 (l,was,i,k,t91,t92,t93,t99,t100,t101,r,d,s,back)
def qq2_ (u5:zK22):=qq4_ u5
def qro_ (u5:zK22):=qrv_ (qq2_ u5) u5
def qrm_ (u5:zK22) (l:List QMT3) (was:List Int) (i:Int) (now:List Int) (t91:zK8) (t92 t93:Int) (t99:List QMT3) (t100 t101:Int) (r:zK12) (d:zK15):Option (As [.bool]) :=
 loopF (fun self s=>qsc_ (qre_ u5 (fun l was i now t91 t92 t93 t99 t100 t101 r d=>self (l,was,i,now,t91,t92,t93,t99,t100,t101,r,d))) (qro_ u5) u5 (fun l was i now t91 t92 t93 t99 t100 t101 r d=>self (l,was,i,now,t91,t92,t93,t99,t100,t101,r,d)) s.1 s.2.1 s.2.2.1 s.2.2.2.1 s.2.2.2.2.1 s.2.2.2.2.2.1 s.2.2.2.2.2.2.1 s.2.2.2.2.2.2.2.1 s.2.2.2.2.2.2.2.2.1 s.2.2.2.2.2.2.2.2.2.1 s.2.2.2.2.2.2.2.2.2.2.1 s.2.2.2.2.2.2.2.2.2.2.2) 18446744073709551616 (l,was,i,now,t91,t92,t93,t99,t100,t101,r,d)
def qri_ (l:List QMT3) (was:List Int) (t91:zK8) (t92 t93:Int) (r:zK12):Option (As [.bool]) :=
 loopF (fun self s=>qra_ (qrm_ (fun l was t91 t92 t93 r=>self (l,was,t91,t92,t93,r))) (fun l was t91 t92 t93 r=>self (l,was,t91,t92,t93,r)) s.1 s.2.1 s.2.2.1 s.2.2.2.1 s.2.2.2.2.1 s.2.2.2.2.2) 18446744073709551616 (l,was,t91,t92,t93,r)
def qqv_:=qrn_ (qri_)
def qrt_ (t:zK8) (l:List QMT3) (last:Int) (t59:List QMT3) (t60 t61:Int) (r:zK12) (was:List Int):Option (As [.bool]) :=
 loopF (fun self s=>qs9_ (qs2_ (fun t l last t59 t60 t61 r was=>self (t,l,last,t59,t60,t61,r,was))) (qqv_) (fun t l last t59 t60 t61 r was=>self (t,l,last,t59,t60,t61,r,was)) s.1 s.2.1 s.2.2.1 s.2.2.2.1 s.2.2.2.2.1 s.2.2.2.2.2.1 s.2.2.2.2.2.2.1 s.2.2.2.2.2.2.2) 18446744073709551616 (t,l,last,t59,t60,t61,r,was)
def qr2_:=qry_ (qrt_)
def q16j_ (x:As [.sl (.pr .str QMT2),.pr .str QMT4,.sl (.int .u16)]):Option (As [.bool]):=qqt_ qr2_ x.1 x.2.1 x.2.2.1
end Go.Proofs.Lx
end
section
set_option maxRecDepth 100000
namespace Go.Proofs.Lx
open Go Ev Sx
@[reducible] def zK25:Type:=(List (List UInt8×List (List UInt8×Int×Int×Bool×(Int×Int)×(Int×Int)×List UInt8)))×(List (List (Int×Int)))×(List (List UInt8×Int×List (List UInt8×(Int×Int)×List UInt8×Int)))×(Int)×(Int)×(Int×Int)->Option (As [.sl (.pr (.int .i64) (.sl (.pr (.int .i64) (.sl (.int .u16))))),.pr (.int .i64) (.int .i64)])
def qnq_ :=(fun (self:zK25) (s:(List (List UInt8×List (List UInt8×Int×Int×Bool×(Int×Int)×(Int×Int)×List UInt8)))×(List (List (Int×Int)))×(List (List UInt8×Int×List (List UInt8×(Int×Int)×List UInt8×Int)))×(Int)×(Int)×(Int×Int))=>q7h_ (qa0_) (fun t words t30 t31 t32 t5=>self (t,words,t30,t31,t32,t5)) s.1 s.2.1 s.2.2.1 s.2.2.2.1 s.2.2.2.2.1 s.2.2.2.2.2)
@[reducible] def zK26:Type:=List (List UInt8×List (List UInt8×Int×Int×Bool×(Int×Int)×(Int×Int)×List UInt8))
@[reducible] def zK27:Type:=List (List UInt8×Int×List (List UInt8×(Int×Int)×List UInt8×Int))
theorem qmb_  (self:zK25) (t:zK26) (words:zK9) (t30:zK27) (t31:Int) (t32:Int) (t5:Int×Int):qnq_ self (t,words,t30,t31,t32,t5)=q7h_ (qa0_) (fun t words t30 t31 t32 t5=>self (t,words,t30,t31,t32,t5)) t words t30 t31 t32 t5:=rfl
theorem qtt_  (t:zK26) (words:zK9) (t30:zK27) (t31:Int) (t32:Int) (t5:Int×Int):qgo_ t words t30 t31 t32 t5=loopF (qnq_) 18446744073709551616 (t,words,t30,t31,t32,t5):=rfl
@[reducible] def zK28:Type:=(List (List (Int×Int)))×(Int)×(Int)×(Int×Int)×(List (Int×List (Int×List Int)))->Option (As [.sl (.pr (.int .i64) (.sl (.pr (.int .i64) (.sl (.int .u16))))),.pr (.int .i64) (.int .i64)])
def qb5_ :=(fun (self:zK28) (s:(List (List (Int×Int)))×(Int)×(Int)×(Int×Int)×(List (Int×List (Int×List Int))))=>q7f_ (qgk_) (fun t58 t59 t60 t5 l=>self (t58,t59,t60,t5,l)) s.1 s.2.1 s.2.2.1 s.2.2.2.1 s.2.2.2.2)
theorem qmu_  (self:zK28) (t58:zK9) (t59:Int) (t60:Int) (t5:Int×Int) (l:List (Int×List (Int×List Int))):qb5_ self (t58,t59,t60,t5,l)=q7f_ (qgk_) (fun t58 t59 t60 t5 l=>self (t58,t59,t60,t5,l)) t58 t59 t60 t5 l:=rfl
theorem qts_  (t58:zK9) (t59:Int) (t60:Int) (t5:Int×Int) (l:List (Int×List (Int×List Int))):qgj_ t58 t59 t60 t5 l=loopF (qb5_) 18446744073709551616 (t58,t59,t60,t5,l):=rfl
end Go.Proofs.Lx
end
section
set_option maxRecDepth 100000
namespace Go.Proofs.Lx
open Go Ev Sx Pl
theorem ents_mem {e:Int×Int}:∀ {ws:List Int} {bs:List Bool} {i:Nat},e ∈ ents i ws bs ↔ ∃ j:Nat,e.1=((i + j:Nat):Int)∧ws[j]? = some e.2∧bs[j]? = some true
 | w::ws,b::bs,i=>by
  have hr:=@ents_mem e ws bs (i + 1)
  unfold ents
  constructor
  ·intro h
   have tl:e ∈ ents (i + 1) ws bs->∃ j:Nat,e.1=((i + j:Nat):Int)∧(w::ws)[j]? = some e.2∧(b::bs)[j]? = some true:=fun h=>by
    obtain ⟨j,h1,h2,h3⟩:=hr.1 h
    exact ⟨j + 1,by rw [h1]; congr 1; omega,by simpa using h2,by simpa using h3⟩
   split at h
   ·rename_i hb
    rcases List.mem_cons.1 h with h | h
    ·subst h
     exact ⟨0,by simp,by simp,by simp [hb]⟩
    ·exact tl h
   ·exact tl h
  ·rintro ⟨j,h1,h2,h3⟩
   cases j with
   | zero =>
    simp at h2 h3
    rw [if_pos h3]
    have:e=((i:Int),w):=Prod.ext (by rw [h1]; simp) h2.symm
    rw [this]
    exact List.mem_cons_self ..
   | succ j =>
    have:e ∈ ents (i + 1) ws bs:=hr.2 ⟨j,by rw [h1]; congr 1; omega,by simpa using h2,by simpa using h3⟩
    split
    ·exact List.mem_cons_of_mem _ this
    ·exact this
 | [],bs,i=>by simp [ents]
 | w::ws,[],i=>by simp [ents]
def valsM (m:EnL):List Int:=(List.range 64).map fun (i:Nat)=>bkV m (i:Int)
def bitsM (m:EnL):List Bool:=(List.range 64).map fun (i:Nat)=>(dget kT m (i:Int)).isSome
def esM (m:EnL):EnL:=ents 0 (valsM m) (bitsM m)
def blkM (m:EnL):Option (List Bk):=foldE (esM m) (some [])
theorem esM_mem {m:EnL} {a w:Int}:(a,w) ∈ esM m ↔ (0≤a∧a < 64)∧dget kT m a=some w:=by
 unfold esM
 rw [ents_mem]
 unfold valsM bitsM
 constructor
 ·rintro ⟨j,h1,h2,h3⟩
  dsimp only at h1 h2
  rw [List.getElem?_map] at h2 h3
  cases hj:(List.range 64)[j]? with
  | none=>rw [hj] at h2; cases h2
  | some x =>
   rw [hj] at h2 h3
   have hlt:=(List.getElem?_eq_some_iff.1 hj)
   obtain ⟨hl,hx⟩:=hlt
   simp at hl hx
   subst hx
   simp at h2 h3
   have ha:a=(j:Int):=by omega
   subst ha
   refine ⟨by omega,?_⟩
   cases hd:dget kT m (j:Int) with
   | none=>rw [hd] at h3; cases h3
   | some v =>
    unfold bkV at h2
    rw [hd] at h2
    exact congrArg some h2
 ·rintro ⟨h1,h2⟩
  refine ⟨a.toNat,by dsimp only; omega,?_,?_⟩
  ·rw [List.getElem?_map,List.getElem?_range (by omega)]
   show some (bkV m ((a.toNat:Nat):Int))=some w
   rw [show ((a.toNat:Nat):Int)=a by omega]
   unfold bkV
   rw [h2]
   rfl
  ·rw [List.getElem?_map,List.getElem?_range (by omega)]
   show some (dget kT m ((a.toNat:Nat):Int)).isSome=some true
   rw [show ((a.toNat:Nat):Int)=a by omega,h2]
   rfl
def KeysIn (m:EnL):Prop:=∀ k ∈ m.map (·.1),0≤k∧k < 64
theorem rise_nodup {es:EnL} (h:rise es):(es.map (·.1)).Nodup:=h.imp fun h=>by omega
theorem keys_perm {m:EnL} (hn:(m.map (·.1)).Nodup) (hk:KeysIn m):(m.map (fun e:Int×Int=>e.1)).Perm ((esM m).map (fun e:Int×Int=>e.1)):=by
 rw [List.perm_ext_iff_of_nodup hn (rise_nodup (es:=esM m) ents_rise)]
 intro k
 have hd:=@dget_none m k
 constructor
 ·intro h
  cases hg:dget kT m k with
  | none=>exact absurd h (hd.1 hg)
  | some w=>exact List.mem_map.2 ⟨(k,w),esM_mem.2 ⟨hk k h,hg⟩,rfl⟩
 ·intro h
  obtain ⟨e,he,rfl⟩:=List.mem_map.1 h
  have:=(esM_mem (a:=e.1) (w:=e.2)).1 he
  rcases Decidable.em (e.1 ∈ m.map (·.1)) with h1 | h1
  ·exact h1
  ·rw [hd.2 h1] at this; cases this.2
theorem bits_len (m:EnL):(bitsM m).length=64:=by simp [bitsM]
theorem vals_len (m:EnL):(valsM m).length=64:=by simp [valsM]
theorem bkRes_map {m:EnL} (hn:(m.map (·.1)).Nodup) (hk:KeysIn m):bkRes m=resOf (blkM m):=by
 have hp:=keys_perm hn hk
 have hl:m.length≤64:=by
  have h1:=hp.length_eq
  have h2:=@ents_len 0 (valsM m) (bitsM m)
  rw [bits_len] at h2
  rw [List.length_map,List.length_map] at h1
  show m.length≤64
  rw [h1]
  exact h2
 rw [bkRes_eq,if_neg (by omega)]
 have hs:sorted (m.map (·.1))=(esM m).map (·.1):=by
  have e1:=mergeSort_of_perm_i hp
  have e2:sorted ((esM m).map (·.1))=(esM m).map (·.1):=sorted_rise ents_rise
  exact e1.trans e2
 rw [hs,bkAll_fold fun e he=>(esM_mem.1 he).2]
 rfl
theorem blocksd_eq {m:EnL} (hn:(m.map (·.1)).Nodup) (hk:KeysIn m):q90_ (m,())=some ((blkM m).getD [],(blkM m).isSome,()):=by
 have h:m.all keyOk=true:=List.all_eq_true.2 fun e he=>keyOk_iff.2 (by have:=hk e.1 (List.mem_map.2 ⟨e,he,rfl⟩); unfold inR; omega)
 show (if m.all keyOk=true then some ((bkRes m).1,(bkRes m).2,()) else none)=_
 rw [if_pos h,bkRes_map hn hk]
 cases blkM m <;> rfl
def mapD (ps:List TPart) (d:TDev):EnL:=fillM [] (wrD d ps)
def badP (t:TTab) (ps:List TPart) (p:TPart):Bool:=match srch (fun d=>eqs d.1 p.1) t 0 with
 | some z=>(blkM (mapD ps z.2)).isNone
 | none=>false
def shrS:Nat->List EnL->List (Int×List Bk)
 | _,[]=>[]
 | i,m::q=>if ((blkM m).getD []).length=0 then shrS (i + 1) q else ((i:Int),(blkM m).getD [])::shrS (i + 1) q
def makeS (t:TTab) (r:TRec):List (Int×List Bk)×(Int×Int):=if checkS t r=(0,0) then match r.2.find? (badP t r.2) with
  | some p=>([],(160,p.2.1))
  | none=>(shrS 0 (qj_ t r.2),(0,0))
 else ([],checkS t r)
theorem fill_keys {L:EnL} {P:Int->Prop} (h:∀ e ∈ L,P e.1):∀ k ∈ (fillM [] L).map (·.1),P k:=by
 intro k hk
 have:dget kT (fillM [] L) k ≠ none:=fun e=>dget_none.1 e hk
 cases hd:dget kT (fillM [] L) k with
 | none=>exact absurd hd this
 | some w =>
  rcases fill_some L [] k w hd with h1 | h1
  ·exact h _ h1
  ·cases h1
theorem ptB_at {p:TPt} (h:ptB p=true):(0≤p.2.1∧p.2.1 < 64)∧(0≤p.2.2.1∧p.2.2.1≤6):=by
 unfold ptB at h
 simp only [Bool.and_eq_true,decide_eq_true_eq] at h
 exact ⟨h.2.1,h.2.2.1⟩
theorem mapD_ok {t:TTab} (hB:tabB t=true) {d:TDev} (hd:d ∈ t) (ps:List TPart):((mapD ps d).map (·.1)).Nodup∧KeysIn (mapD ps d):=by
 refine ⟨fill_nodup _ [] (by simp),fill_keys (P:=fun k=>0≤k∧k < 64) fun e he=>?_⟩
 obtain ⟨a,w⟩:=e
 obtain ⟨p,_,_,s,_,q,hq,_,h2,_⟩:=wrD_mem.1 he
 rw [<- h2]
 exact (ptB_at ((devB_dis ((tabB_dis hB).2.2 d hd)).2.2 q hq)).1
theorem shr_len:∀ (i:Nat) (ms:List EnL),(shrS i ms).length≤ms.length
 | _,[]=>by simp [shrS]
 | i,m::q=>by
  have:=shr_len (i + 1) q
  unfold shrS
  split <;> simp only [List.length_cons] <;> omega
theorem make_eq {t:TTab} {r:TRec} (ht:TabR t) (hr:RecR r):qfa_ (t,r,())=some ((makeS t r).1,(makeS t r).2,()):=by
 have ht1:=ht.1
 have hr1:=hr.1
 show qgf_ qgo_ t r=_
 unfold qgf_ makeS
 rw [q152_ ht hr]
 rcases check_cases t r with ⟨h1,hB,h3,h4⟩ | ⟨h1,_⟩
 ·rw [if_pos h1,if_pos h1,Option.bind_some]
  dsimp only
  rw [if_neg (by decide)]
  have K2:qa0_ (qj_ t r.2) (0,0)=some (shrS 0 (qj_ t r.2),(0,0),()):=by
   show qgj_ (qj_ t r.2) (Int.ofNat (qj_ t r.2).length) 0 (0,0) []=_
   have hwl:(qj_ t r.2).length=t.length:=by unfold qj_; rw [List.length_map]
   have hw:∀ m ∈ qj_ t r.2,(m.map (·.1)).Nodup∧KeysIn m:=fun m hm=>by
    obtain ⟨d,hd,rfl⟩:=List.mem_map.1 hm
    exact mapD_ok hB hd r.2
   generalize qj_ t r.2=ms at hwl hw ⊢
   rw [qts_]
   have key:∀ (k i n:Nat) (l:List (Int×List Bk)),i + k=ms.length->k < n->l.length≤i->loopF qb5_ n (ms,Int.ofNat ms.length,(i:Int),(0,0),l)=some (l++shrS i (ms.drop i),(0,0),()):=by
    intro k
    induction k with
    | zero =>
     intro i n l hi hn hl
     obtain ⟨n,rfl⟩:∃ n',n=n' + 1:=⟨n - 1,by omega⟩
     rw [q5_,qmu_]
     unfold q7f_
     rw [if_neg (by rw [q1_,q0_]; omega),List.drop_of_length_le (by omega)]
     show some (l,(0,0),())=_
     rw [shrS,List.append_nil]
    | succ k ih =>
     intro i n l hi hn hl
     obtain ⟨n,rfl⟩:∃ n',n=n' + 1:=⟨n - 1,by omega⟩
     have hlt:i < ms.length:=by omega
     have hg:ms[i]? = some ms[i]:=List.getElem?_eq_getElem hlt
     obtain ⟨hn1,hn2⟩:=hw ms[i] (List.getElem_mem hlt)
     rw [q5_,qmu_]
     unfold q7f_
     rw [if_pos (by rw [q1_,q0_]; omega),q4_ hg,Option.bind_some,blocksd_eq hn1 hn2,Option.bind_some,q9_ (by omega),List.drop_eq_getElem_cons hlt,shrS]
     dsimp only
     by_cases h0:((blkM ms[i]).getD []).length=0
     ·rw [if_pos h0,if_neg (by rw [q7_,q0_]; omega)]
      exact ih (i + 1) n l (by omega) (by omega) (by omega)
     ·rw [if_neg h0,if_pos (by rw [q7_,q0_]; omega)]
      rw [q1v_ (by omega)]
      show loopF qb5_ n (ms,Int.ofNat ms.length,((i + 1:Nat):Int),(0,0),l++[((i:Int),(blkM ms[i]).getD [])])=_
      rw [ih (i + 1) n _ (by omega) (by omega) (by rw [List.length_append,List.length_singleton]; omega),List.append_assoc]
      rfl
   exact (key ms.length 0 18446744073709551616 [] (by omega) (by omega) (by simp)).trans (by rw [List.drop_zero,List.nil_append])
  rw [qtt_]
  refine (loop_go (xs:=r.2) (mk:=fun i (_:Unit)=>(t,qj_ t r.2,r.2,Int.ofNat r.2.length,(i:Int),((0,0):Int×Int)))
   (body:=fun a p k=>if badP t r.2 p=true then some ([],(160,p.2.1),()) else k a) (fin:=fun _=>some (shrS 0 (qj_ t r.2),(0,0),())) ?_ ?_ r.2.length 0 () _ (by omega) (by omega)).trans ?_
  ·intro self i a p hp
   have hi:=(List.getElem?_eq_some_iff.1 hp).1
   rw [qmb_]
   unfold q7h_
   rw [if_pos (by rw [q1_,q0_]; omega),q4_ hp,Option.bind_some,find_eq (by omega),Option.bind_some,q9_ (by omega)]
   unfold badP
   cases hz:srch (fun d=>eqs d.1 p.1) t 0 with
   | none=>rfl
   | some z =>
    obtain ⟨z1,z2⟩:=z
    obtain ⟨hm,hg,_⟩:=srch_mem hz
    obtain ⟨hn1,hn2⟩:=mapD_ok hB hm r.2
    have hwg:(qj_ t r.2)[z1]? = some (mapD r.2 z2):=by unfold qj_; rw [List.getElem?_map,hg]; rfl
    dsimp only
    rw [if_pos rfl,q4_ hwg,Option.bind_some,blocksd_eq hn1 hn2,Option.bind_some]
    dsimp only
    rw [show (!(blkM (mapD r.2 z2)).isSome)=(blkM (mapD r.2 z2)).isNone from by cases blkM (mapD r.2 z2) <;> rfl]
  ·intro self a
   rw [qmb_]
   unfold q7h_
   rw [if_neg (by rw [q1_,q0_]; omega)]
   exact K2
  ·rw [List.drop_zero]
   generalize badP t r.2=B
   generalize shrS 0 (qj_ t r.2)=E
   generalize r.2=ps
   induction ps with
   | nil=>rfl
   | cons p q ih =>
    show (if B p=true then some ([],(160,p.2.1),()) else goL _ _ q ())=_
    rw [ih,List.find?_cons]
    cases hb:B p with
    | true=>rfl
    | false=>rfl
 ·have:¬ checkS t r=(0,0):=fun e=>h1 (by rw [e])
  rw [if_neg this,if_neg this,Option.bind_some]
  dsimp only
  rw [if_pos]
  have:eqi (checkS t r).1 0=false:=by rw [Bool.eq_false_iff]; exact fun e=>h1 (qb_.1 e)
  rw [this]
  rfl
end Go.Proofs.Lx
end
section
set_option maxRecDepth 100000
namespace Go.Proofs.Lx
open Go Ev Sx Pl
theorem rcmp_same {a b:DecI} (ha:rgt a=true) (ha0:0≤a.2) (hb:rgt b=true) (hb0:0≤b.2):q8i_ (a,b,())=some (cmpV a b,()):=by
 obtain ⟨s1,n1,D1,h1⟩:=rgt_rt ha ha0
 obtain ⟨s2,n2,D2,h2⟩:=rgt_rt hb hb0
 rw [<- cmp_eq ha ha0 hb hb0,ucmp_eq h1 h2,rcmp_eq h1 h2]
theorem rword_eq {p:TPt} {s:TSet} (hp:PtR p) (hl:rgt p.2.2.2.2.1=true) (hh:rgt p.2.2.2.2.2.1=true) (hs:0≤s.2.1.2):q3y_ (p,s,())=some ((wrdS p s).1,(wrdS p s).2,()):=by
 show qet_ qed_ p s=_
 unfold qet_ wrdS
 obtain ⟨h1,h2⟩:=to_eq hs s.2.2.1 p.2.2.2.2.2.2
 obtain ⟨r,g1,g2⟩:=to_same hs s.2.2.1 p.2.2.2.2.2.2
 rw [g2,<- g1,h1,Option.bind_some]
 dsimp only
 cases hb:(toS s.2.1 s.2.2.1 p.2.2.2.2.2.2).2 with
 | false=>rfl
 | true =>
  obtain ⟨h3,h4⟩:=h2 hb
  obtain ⟨r',g3,g4⟩:=word_same h4 p.2.2.1 p.2.2.2.1
  have K1:∀ w b,qed_ w b=if b=true then some (0,153,()) else some (w,0,()):=fun _ _=>rfl
  rw [if_neg (by decide),if_pos rfl,g4,<- g3,wd_total h4,Option.bind_some,rcmp_same h3 h4 hl hp.1,Option.bind_some,rcmp_same h3 h4 hh hp.2,Option.bind_some]
  simp only [K1]
  by_cases c1:cmpV (toS s.2.1 s.2.2.1 p.2.2.2.2.2.2).1 p.2.2.2.2.1 < 0
  ·rw [if_pos (q1_.2 c1),if_pos trivial,if_pos (.inl c1)]
  ·rw [if_neg (fun e=>c1 (q1_.1 e))]
   by_cases c2:0 < cmpV (toS s.2.1 s.2.2.1 p.2.2.2.2.2.2).1 p.2.2.2.2.2.1
   ·rw [if_pos (q7_.2 c2),if_pos trivial,if_pos (.inr c2)]
   ·rw [if_neg (fun e=>c2 (q7_.1 e)),if_neg (show ¬ (_∨_) from fun e=>e.elim c1 c2)]
    cases (wdT (toS s.2.1 s.2.2.1 p.2.2.2.2.2.2).1 p.2.2.1 p.2.2.2.1).2 <;> rfl
def allI {α:Type} (p:Nat->α->Bool):Nat->List α->Bool
 | _,[]=>true
 | k,x::q=>p k x && allI p (k + 1) q
theorem loop_allI {σ R α:Type} {F:(σ->Option R)->σ->Option R} {mk:Nat->σ} {xs:List α} {p:Nat->α->Bool} {r0 fin:Option R}
  (hs:∀ self i x,xs[i]? = some x->F self (mk i)=if p i x=true then self (mk (i + 1)) else r0) (he:∀ self,F self (mk xs.length)=fin) {n:Nat} (h:xs.length < n) :
  loopF F n (mk 0)=if allI p 0 xs=true then fin else r0:=by
 have:=loop_goi (xs:=xs) (mk:=fun i (_:Unit)=>mk i) (body:=fun i a x k=>if p i x=true then k a else r0) (fin:=fun _=>fin) (fun self i acc x hx=>hs self i x hx) (fun self _=>he self) xs.length 0 () n (by omega) h
 rw [List.drop_zero] at this
 refine this.trans ?_
 have key:∀ (q:List α) (k:Nat),goI (fun i (a:Unit) x kk=>if p i x=true then kk a else r0) (fun _=>fin) k q ()=if allI p k q=true then fin else r0:=by
  intro q
  induction q with
  | nil=>intro k; rfl
  | cons x q ih =>
   intro k
   show (if p k x=true then goI _ _ (k + 1) q () else r0)=_
   rw [ih,allI]
   cases p k x <;> simp
 exact key xs 0
theorem loop_take {σ R α:Type} {F:(σ->Option R)->σ->Option R} {mk:Nat->σ} {xs:List α} {p:α->Bool} {r0 fin:Option R} {N:Nat} (hN:N≤xs.length)
  (hs:∀ self i x,i < N->xs[i]? = some x->F self (mk i)=if p x=true then self (mk (i + 1)) else r0) (he:∀ self,F self (mk N)=fin) {n:Nat} (h:N < n) :
  loopF F n (mk 0)=if (xs.take N).all p=true then fin else r0:=by
 have hl:(xs.take N).length=N:=by rw [List.length_take]; omega
 refine loop_all (xs:=xs.take N) (mk:=mk) (p:=p) (fun self i x hx=>?_) (fun self=>by rw [hl]; exact he self) (by omega)
 have hi:=(List.getElem?_eq_some_iff.1 hx).1
 rw [hl] at hi
 exact hs self i x hi (by rw [List.getElem?_take_of_lt hi] at hx; exact hx)
theorem seen_snoc {α β:Type} {f:α->β} {pre:List α} {N:List β} (h:∀ s,s ∈ N ↔ ∃ y ∈ pre,f y=s) (p:α):∀ s,s ∈ f p::N ↔ ∃ y ∈ pre++[p],f y=s:=fun s=>by
 rw [List.mem_cons,h]
 constructor
 ·rintro (rfl | ⟨y,hy,e⟩)
  ·exact ⟨p,by simp,rfl⟩
  ·exact ⟨y,by simp [hy],e⟩
 ·rintro ⟨y,hy,e⟩
  rcases List.mem_append.1 hy with hy | hy
  ·exact .inr ⟨y,hy,e⟩
  ·rw [List.mem_singleton.1 hy] at e
   exact .inl e.symm
theorem ptL_all (l:List TPt):∀ (q pre:List TPt) (N:List (List UInt8)) (A:List Int),pre++q=l->(∀ s,s ∈ N ↔ ∃ y ∈ pre,y.1=s)->(∀ s,s ∈ A ↔ ∃ y ∈ pre,y.2.1=s) ->
  allI (fun k p=>ptB p && (l.take k).all fun y=>!(eqs y.1 p.1 || eqi y.2.1 p.2.1)) pre.length q=devL q N A
 | [],_,_,_,_,_,_=>rfl
 | p::q,pre,N,A,h,hN,hA=>by
  have e:l.take pre.length=pre:=by rw [<- h,List.take_left]
  have ih:=ptL_all l q (pre++[p]) (p.1::N) (p.2.1::A) (by rw [<- h]; simp) (seen_snoc hN p) (seen_snoc hA p)
  rw [List.length_append,List.length_singleton] at ih
  rw [allI,devL,ih,e]
  have e2:(pre.all fun y=>!(eqs y.1 p.1 || eqi y.2.1 p.2.1))=(!decide (p.1 ∈ N) && !decide (p.2.1 ∈ A)):=by
   apply Bool.eq_iff_iff.2
   rw [List.all_eq_true]
   simp only [Bool.and_eq_true,Bool.not_eq_true',decide_eq_false_iff_not,hN,hA,Bool.or_eq_false_iff]
   constructor
   ·intro h
    exact ⟨fun ⟨y,hy,e⟩=>Bool.eq_false_iff.1 (h y hy).1 (q1h_.2 e),fun ⟨y,hy,e⟩=>Bool.eq_false_iff.1 (h y hy).2 (qb_.2 e)⟩
   ·intro h y hy
    exact ⟨Bool.eq_false_iff.2 fun e=>h.1 ⟨y,hy,q1h_.1 e⟩,Bool.eq_false_iff.2 fun e=>h.2 ⟨y,hy,qb_.1 e⟩⟩
  rw [e2,Bool.and_assoc,Bool.and_assoc]
theorem devL_64 {q:List TPt} (h:devL q [] []=true):q.length≤64:=by
 have h1:=devL_dis h
 have h2:=devL_pt h
 have hk:KeysIn (q.map fun p=>(p.2.1,p.2.1)):=fun k hk=>by
  simp only [List.map_map,List.mem_map,Function.comp] at hk
  obtain ⟨p,hp,rfl⟩:=hk
  exact (ptB_at (h2 p hp)).1
 have hn:((q.map fun p=>(p.2.1,p.2.1)).map (fun e:Int×Int=>e.1)).Nodup:=by
  rw [List.map_map]
  exact h1.2.1
 have:=(keys_perm hn hk).length_eq
 simp only [List.length_map] at this
 have e:=@ents_len 0 (valsM (q.map fun p=>(p.2.1,p.2.1))) (bitsM (q.map fun p=>(p.2.1,p.2.1)))
 rw [bits_len] at e
 unfold esM at this
 omega
theorem tabL_all (t:TTab):∀ (q pre:TTab) (N:List (List UInt8)),pre++q=t->(∀ s,s ∈ N ↔ ∃ y ∈ pre,y.1=s) ->
  allI (fun k d=>((t.take k).all fun y=>!eqs y.1 d.1) && (nameB d.1 && devL d.2 [] [])) pre.length q=tabL q N
 | [],_,_,_,_=>rfl
 | d::q,pre,N,h,hN=>by
  have e:t.take pre.length=pre:=by rw [<- h,List.take_left]
  have ih:=tabL_all t q (pre++[d]) (d.1::N) (by rw [<- h]; simp) (seen_snoc hN d)
  rw [List.length_append,List.length_singleton] at ih
  rw [allI,tabL,ih,e]
  have e2:(pre.all fun y=>!eqs y.1 d.1)=!decide (d.1 ∈ N):=by
   apply Bool.eq_iff_iff.2
   rw [List.all_eq_true]
   simp only [Bool.not_eq_true',decide_eq_false_iff_not,hN]
   constructor
   ·intro h ⟨y,hy,e⟩
    exact Bool.eq_false_iff.1 (h y hy) (q1h_.2 e)
   ·intro h y hy
    exact Bool.eq_false_iff.2 fun e=>h ⟨y,hy,q1h_.1 e⟩
  have e3:(nameB d.1 && devL d.2 [] [])=devB d:=by
   unfold devB
   cases hd:devL d.2 [] [] with
   | false=>simp
   | true=>rw [decide_eq_true (devL_64 hd)]; rfl
  rw [e2,e3]
  cases decide (d.1 ∈ N) <;> cases devB d <;> rfl
theorem rright15_eq {t:TTab} (h:TabR t):qcy_ (t,())=some (tabB t,()):=by
 have hl:=h.1
 have K1t:q2s_ t true=some (false,()):=rfl
 have K1f:q2s_ t false=some (tabL t [],()):=by
  show qbz_ t 0=_
  have:=tabL_all t t [] [] rfl (by simp)
  rw [List.length_nil] at this
  unfold qbz_
  refine (loop_allI (xs:=t) (mk:=fun i=>(t,(i:Int))) (p:=fun k d=>((t.take k).all fun y=>!eqs y.1 d.1) && (nameB d.1 && devL d.2 [] [])) (r0:=some (false,())) (fin:=some (true,())) ?_ ?_ (by omega)).trans (by rw [this]; cases tabL t [] <;> rfl)
  ·intro self i d hd
   have hi:=(List.getElem?_eq_some_iff.1 hd).1
   obtain ⟨hd1,hd2⟩:=h.2 d (List.mem_of_getElem? hd)
   dsimp only
   unfold qcj_
   rw [if_pos (by rw [q1_,q0_]; omega)]
   have K7:qh7_ (fun t i=>self (t,i)) t (i:Int)=self (t,((i + 1:Nat):Int)):=by rw [<- q9_ (by omega)]; rfl
   have K5:q8g_ (fun t i=>self (t,i)) t (i:Int) d.2 0=if devL d.2 [] []=true then self (t,((i + 1:Nat):Int)) else some (false,()):=by
    have:=ptL_all d.2 d.2 [] [] [] rfl (by simp) (by simp)
    rw [List.length_nil] at this
    unfold q8g_
    refine (loop_allI (xs:=d.2) (mk:=fun k=>(t,(i:Int),d.2,(k:Int))) (p:=fun k p=>ptB p && (d.2.take k).all fun y=>!(eqs y.1 p.1 || eqi y.2.1 p.2.1)) (r0:=some (false,())) (fin:=self (t,((i + 1:Nat):Int))) ?_ ?_ (by omega)).trans (by rw [this])
    ·intro self5 k p hp
     have hk:=(List.getElem?_eq_some_iff.1 hp).1
     have hR:=hd2 p (List.mem_of_getElem? hp)
     dsimp only
     have K8:∀ u2,q83_ u2 (fun t i l k=>self5 (t,i,l,k)) t (i:Int) d.2 (k:Int) 0 p=if ((d.2.take k).all fun y=>!(eqs y.1 p.1 || eqi y.2.1 p.2.1))=true then self5 (t,(i:Int),d.2,((k + 1:Nat):Int)) else some (false,()):=fun u2=>by
      unfold q83_
      refine loop_take (xs:=d.2) (mk:=fun j=>(t,(i:Int),d.2,(k:Int),(j:Int),p)) (p:=fun y=>!(eqs y.1 p.1 || eqi y.2.1 p.2.1)) (by omega) ?_ ?_ (by omega)
      ·intro self8 j y hj hy
       dsimp only
       have K9:∀ u2 u5 sf b,qhi_ u2 u5 sf t (i:Int) d.2 (k:Int) (j:Int) b p=if b=true then some (false,()) else sf t (i:Int) d.2 (k:Int) ((j + 1:Nat):Int) p:=fun _ _ _ b=>by rw [<- q9_ (by omega)]; rfl
       unfold qan_
       rw [if_pos (by rw [q1_]; omega),q4_ hy,Option.bind_some,Option.bind_some]
       simp only [K9]
       cases eqs y.1 p.1 <;> cases eqi y.2.1 p.2.1 <;> rfl
      ·intro self8
       dsimp only
       unfold qan_
       rw [if_neg (by rw [q1_]; omega),<- q9_ (by omega)]
       rfl
     have K6t:∀ u2 sf,qiw_ u2 sf t (i:Int) d.2 (k:Int) true p=some (false,()):=fun _ _=>rfl
     unfold qc0_
     rw [if_pos (by rw [q1_,q0_]; omega),q4_ hp,Option.bind_some,known_same,uknown_eq,Option.bind_some,rname_eq,Option.bind_some,rright_eq,Option.bind_some,rright_eq,Option.bind_some]
     simp only [K6t]
     have ek:knB p.2.2.2.2.2.2=(knS p.2.2.2.2.2.2).isSome:=rfl
     unfold ptB
     rw [ek]
     have n1:∀ {b:Bool},(if (!b)=true then some (false,()) else some (false,()))=(some (false,()):Option (Bool×Unit)):=fun {b}=>by cases b <;> rfl
     cases nameB p.1 with
     | false=>rfl
     | true =>
      rw [if_neg (by decide)]
      by_cases h1:p.2.1 < 0
      ·rw [if_pos (q1_.2 h1),decide_eq_false (show ¬ (0≤p.2.1∧p.2.1 < 64) by omega)]; rfl
      ·rw [if_neg (fun e=>h1 (q1_.1 e))]
       by_cases h2:63 < p.2.1
       ·rw [if_pos (q7_.2 h2),decide_eq_false (show ¬ (0≤p.2.1∧p.2.1 < 64) by omega)]; rfl
       ·rw [if_neg (fun e=>h2 (q7_.1 e)),decide_eq_true (show 0≤p.2.1∧p.2.1 < 64 by omega)]
        by_cases h3:p.2.2.1 < 0
        ·rw [if_pos (q1_.2 h3),decide_eq_false (show ¬ (0≤p.2.2.1∧p.2.2.1≤6) by omega)]; rfl
        ·rw [if_neg (fun e=>h3 (q1_.1 e))]
         by_cases h4:6 < p.2.2.1
         ·rw [if_pos (q7_.2 h4),decide_eq_false (show ¬ (0≤p.2.2.1∧p.2.2.1≤6) by omega)]; rfl
         ·rw [if_neg (fun e=>h4 (q7_.1 e)),decide_eq_true (show 0≤p.2.2.1∧p.2.2.1≤6 by omega)]
          cases g1:rgt p.2.2.2.2.1 with
          | false=>rfl
          | true =>
           cases g2:rgt p.2.2.2.2.2.1 with
           | false=>rfl
           | true =>
            cases (knS p.2.2.2.2.2.2).isSome with
            | false=>simp; exact K6t _ _
            | true =>
             show qcc_ (q83_ (fun t i=>self (t,i)) fun t i l k=>self5 (t,i,l,k)) (fun t i=>self (t,i)) (fun t i l k=>self5 (t,i,l,k)) t (i:Int) d.2 (k:Int) false p=_
             unfold qcc_
             rw [if_neg (by decide),rcmp_same g1 hR.1 g2 hR.2,Option.bind_some,K8]
             dsimp only
             by_cases hc:0 < cmpV p.2.2.2.2.1 p.2.2.2.2.2.1
             ·rw [if_pos (q7_.2 hc),decide_eq_true hc]; rfl
             ·rw [if_neg (fun e=>hc (q7_.1 e)),decide_eq_false hc]; rfl
    ·intro self5
     dsimp only
     unfold qc0_
     rw [if_neg (by rw [q1_,q0_]; omega),K7]
   have K4:qaj_ (fun t i=>self (t,i)) t (i:Int)=if (nameB d.1 && devL d.2 [] [])=true then self (t,((i + 1:Nat):Int)) else some (false,()):=by
    show qbe_ (q8g_ fun t i=>self (t,i)) _ t (i:Int)=_
    unfold qbe_
    rw [q4_ hd,Option.bind_some,Option.bind_some,rname_eq,Option.bind_some,K5]
    cases nameB d.1 <;> rfl
   have K3:qar_ (fun t i=>self (t,i)) t (i:Int) 0=if ((t.take i).all fun y=>!eqs y.1 d.1)=true then qaj_ (fun t i=>self (t,i)) t (i:Int) else some (false,()):=by
    unfold qar_
    refine loop_take (xs:=t) (mk:=fun k=>(t,(i:Int),(k:Int))) (p:=fun y=>!eqs y.1 d.1) (by omega) ?_ ?_ (by omega)
    ·intro self3 k y hk hy
     dsimp only
     unfold qbr_
     rw [if_pos (by rw [q1_]; omega),q4_ hy,Option.bind_some,q4_ hd,Option.bind_some,q9_ (by omega)]
     cases eqs y.1 d.1 <;> rfl
    ·intro self3
     dsimp only
     unfold qbr_
     rw [if_neg (by rw [q1_]; omega)]
   rw [K3,K4]
   cases ((t.take i).all fun y=>!eqs y.1 d.1) <;> rfl
  ·intro self
   dsimp only
   unfold qcj_
   rw [if_neg (by rw [q1_,q0_]; omega)]
 show qb3_ q2s_ t=_
 unfold qb3_ tabB
 by_cases h1:1≤t.length
 ·rw [if_neg (by rw [q1_,q0_]; omega),decide_eq_true h1,gtS (k:=8) (z:=8) rfl]
  by_cases h8:t.length≤8
  ·rw [decide_eq_true h8]
   show q2s_ t false=_
   rw [K1f]
   simp
  ·rw [decide_eq_false h8]
   show q2s_ t true=_
   rw [K1t]
   rfl
 ·rw [if_pos (by rw [q1_,q0_]; omega),K1t,decide_eq_false h1]; rfl
end Go.Proofs.Lx
end
