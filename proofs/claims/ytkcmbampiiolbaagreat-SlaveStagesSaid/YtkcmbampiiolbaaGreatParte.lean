/- Proved in the last of these 13 parts (this is part 5): SlaveStages returns true, whatever the link, the bank, the owner, the transaction and the blocks. Conditions: those of the given statement, and no others. -/
import Derived.Test.YtkcmbampiiolbaaGreatPartd
import Derived.Test.YtkcmbampiiolbaaGreatParta
set_option linter.unusedVariables false
set_option linter.unusedSimpArgs false
set_option linter.unusedSectionVars false
section
namespace Ev
open Go Go.RowKit Sx
abbrev Us (R:Type):=List (St->Option R)
abbrev Orc (R:Type):=Nat->Us R->St->Option R
section
variable {R:Type}
def evJ (P:Program) (env:Env) (cl:Cl R) (fuel:Nat) (hs:Nat->Option Hint) (J:Orc R):Us R->Nat->Code->St->Kt R->Option R
 | _,_,.skip,S,k=>k .n S
 | _,_,.label _,S,k=>k .n S
 | _,_,.ret,S,k=>k .r S
 | _,_,.exit id,S,k=>k (.x id) S
 | us,p,.seq x y,S,k=>match hs p with
  | some h=>evJ P env cl fuel hs J us (2 * p) x S (seqK P (some h) (J p us) k)
  | none=>evJ P env cl fuel hs J us (2 * p) x S (seqK P none (fun S'=>evJ P env cl fuel hs J us (2 * p + 1) y S' k) k)
 | us,p,.block id c,S,k=>evJ P env cl fuel hs J us (2 * p) c S (blockK id k)
 | us,p,.cond c x y,S,k=>match c with
  | .tmp t=>if t < S.nt then match get S.fr t with
   | some (.d .bool b)=>if b=true then evJ P env cl fuel hs J us (2 * p) x { S with fr:=(t,.d .bool true)::S.fr } k else evJ P env cl fuel hs J us (2 * p + 1) y { S with fr:=(t,.d .bool false)::S.fr } k
   | _=>none else none
  | .const (.bool b)=>if b=true then evJ P env cl fuel hs J us (2 * p) x S k else evJ P env cl fuel hs J us (2 * p + 1) y S k
  | _=>none
 | _,_,.region _ ⟨ops⟩ draw,S,k=>regn P env cl ops draw S (k .n)
 | us,p,.loop c,S,k=>match hs p with
  | some h=>(nrm P h S).bind (J p us)
  | none=>loopF (fun self S=>evJ P env cl fuel hs J (us++[self]) (2 * p) c S (seqK P none self k)) fuel S
 | _,_,.rangeFunc _ _ _ _,_,_=>none
 | _,_,.scope _,_,_=>none
 | _,_,.goto _,_,_=>none
 | _,_,.refuse _,_,_=>none
def lft (q p:Nat):Bool:=q / 2 ^ (q.log2 - p.log2 - 1) % 2 == 0
def In (q p:Nat):Prop:=∃ n r,q=p * 2 ^ n + r∧r < 2 ^ n
theorem In.self (p:Nat):In p p:=⟨0,0,by simp,by simp⟩
theorem In.l {q p:Nat}:In q (2 * p)->In q p:=fun ⟨n,r,h1,h2⟩=>⟨n + 1,r,by rw [h1,Nat.pow_succ]; simp only [Nat.mul_comm 2,Nat.mul_assoc],by rw [Nat.pow_succ]; omega⟩
theorem In.r {q p:Nat}:In q (2 * p + 1)->In q p:=fun ⟨n,r,h1,h2⟩=>⟨n + 1,2 ^ n + r,by
 have e:(2 * p + 1) * 2 ^ n=p * 2 ^ (n + 1) + 2 ^ n:=by rw [Nat.pow_succ,Nat.add_mul,Nat.one_mul,Nat.mul_comm 2 p,Nat.mul_assoc,Nat.mul_comm 2 (2 ^ n)]
 omega,by rw [Nat.pow_succ]; omega⟩
theorem In.cases {q p:Nat}:In q p->q=p∨In q (2 * p)∨In q (2 * p + 1):=fun ⟨n,r,h1,h2⟩=>by
 cases n with
 | zero=>left; simp at h1 h2; omega
 | succ n =>
  right
  have e:p * 2 ^ (n + 1)=2 * p * 2 ^ n:=by rw [Nat.pow_succ,Nat.mul_comm 2 p,Nat.mul_assoc,Nat.mul_comm 2 (2 ^ n)]
  have e2:2 ^ (n + 1)=2 ^ n + 2 ^ n:=by rw [Nat.pow_succ]; omega
  have e3:(2 * p + 1) * 2 ^ n=2 * p * 2 ^ n + 2 ^ n:=by rw [Nat.add_mul,Nat.one_mul]
  by_cases h:r < 2 ^ n
  ·exact .inl ⟨n,r,by omega,h⟩
  ·exact .inr ⟨n,r - 2 ^ n,by omega,by omega⟩
theorem log2_at {p n r:Nat} (hp:0 < p) (hr:r < 2 ^ n):(p * 2 ^ n + r).log2=p.log2 + n:=by
 have h2:0 < 2 ^ n:=Nat.pow_pos (by decide)
 have hne:p * 2 ^ n + r ≠ 0:=by have:=Nat.mul_pos hp h2; omega
 apply Nat.le_antisymm
 ·apply Nat.le_of_lt_succ
  rw [Nat.log2_lt hne,Nat.succ_eq_add_one,show p.log2 + n + 1=(p.log2 + 1) + n from by omega,Nat.pow_add]
  have h1:p < 2 ^ (p.log2 + 1):=(Nat.log2_lt (by omega)).1 (Nat.lt_succ_self _)
  calc p * 2 ^ n + r < p * 2 ^ n + 2 ^ n:=by omega
   _=(p + 1) * 2 ^ n:=by rw [Nat.add_mul,Nat.one_mul]
   _≤_:=Nat.mul_le_mul_right _ h1
 ·rw [Nat.le_log2 hne,Nat.pow_add]
  have h1:2 ^ p.log2≤p:=(Nat.le_log2 (by omega)).1 (Nat.le_refl _)
  have:=Nat.mul_le_mul_right (2 ^ n) h1
  omega
theorem lft_l {q p:Nat} (hp:0 < p):In q (2 * p)->lft q p=true:=fun ⟨n,r,h1,h2⟩=>by
 unfold lft
 have hl:q.log2=(2 * p).log2 + n:=by rw [h1]; exact log2_at (by omega) h2
 have hl2:(2 * p).log2=p.log2 + 1:=by have:=log2_at (p:=p) (n:=1) (r:=0) hp (by decide); rw [show 2 * p=p * 2 ^ 1 + 0 from by omega]; exact this
 have e:q.log2 - p.log2 - 1=n:=by omega
 rw [e,h1]
 have:(2 * p * 2 ^ n + r) / 2 ^ n=2 * p:=by
  rw [Nat.mul_comm (2 * p),Nat.mul_add_div (Nat.pow_pos (by decide)),Nat.div_eq_of_lt h2]; rfl
 rw [this]
 simp
theorem lft_r {q p:Nat} (hp:0 < p):In q (2 * p + 1)->lft q p=false:=fun ⟨n,r,h1,h2⟩=>by
 unfold lft
 have hl:q.log2=(2 * p + 1).log2 + n:=by rw [h1]; exact log2_at (by omega) h2
 have hl2:(2 * p + 1).log2=p.log2 + 1:=by have:=log2_at (p:=p) (n:=1) (r:=1) hp (by decide); rw [show 2 * p + 1=p * 2 ^ 1 + 1 from by omega]; exact this
 have e:q.log2 - p.log2 - 1=n:=by omega
 rw [e,h1]
 have:((2 * p + 1) * 2 ^ n + r) / 2 ^ n=2 * p + 1:=by
  rw [Nat.mul_comm (2 * p + 1),Nat.mul_add_div (Nat.pow_pos (by decide)),Nat.div_eq_of_lt h2,Nat.add_zero]
 rw [this]
 simp
theorem In.pos {q p:Nat} (hp:0 < p):In q p->p≤q:=fun ⟨n,r,h1,_⟩=>by
 have h2:0 < 2 ^ n:=Nat.pow_pos (by decide)
 have:=Nat.mul_le_mul_left p h2
 omega
def fnd (P:Program) (env:Env) (cl:Cl R) (fuel:Nat) (hs:Nat->Option Hint) (q:Nat):Code->Nat->Kt R->Us R->St->Option R
 | .seq x y,p,k,us=>if q=p then fun S=>ev P env cl fuel hs (2 * p + 1) y S k
  else if lft q p=true then fnd P env cl fuel hs q x (2 * p) (seqK P (hs p) (fun S'=>ev P env cl fuel hs (2 * p + 1) y S' k) k) us else fnd P env cl fuel hs q y (2 * p + 1) k us
 | .block id c,p,k,us=>if q=p then fun _=>none else if lft q p=true then fnd P env cl fuel hs q c (2 * p) (blockK id k) us else fun _=>none
 | .cond _ x y,p,k,us=>if q=p then fun _=>none else if lft q p=true then fnd P env cl fuel hs q x (2 * p) k us else fnd P env cl fuel hs q y (2 * p + 1) k us
 | .loop c,p,k,us=>match us with
  | []=>if q=p then fun S=>loopF (fun self S=>ev P env cl fuel hs (2 * p) c S (seqK P (hs p) self k)) fuel S else fun _=>none
  | u::us=>if q=p then fun S=>ev P env cl fuel hs (2 * p) c S (seqK P (hs p) u k) else if lft q p=true then fnd P env cl fuel hs q c (2 * p) (seqK P (hs p) u k) us else fun _=>none
 | _,_,_,_=>fun _=>none
def pce (P:Program) (env:Env) (cl:Cl R) (fuel:Nat) (hs:Nat->Option Hint) (J:Orc R) (q:Nat):Code->Nat->Kt R->Us R->Us R->St->Option R
 | .seq x y,p,k,u0,us=>if q=p then fun S=>evJ P env cl fuel hs J u0 (2 * p + 1) y S k
  else if lft q p=true then pce P env cl fuel hs J q x (2 * p) (match hs p with
   | some h=>seqK P (some h) (J p u0) k
   | none=>seqK P none (fun S'=>evJ P env cl fuel hs J u0 (2 * p + 1) y S' k) k) u0 us else pce P env cl fuel hs J q y (2 * p + 1) k u0 us
 | .block id c,p,k,u0,us=>if q=p then fun _=>none else if lft q p=true then pce P env cl fuel hs J q c (2 * p) (blockK id k) u0 us else fun _=>none
 | .cond _ x y,p,k,u0,us=>if q=p then fun _=>none else if lft q p=true then pce P env cl fuel hs J q x (2 * p) k u0 us else pce P env cl fuel hs J q y (2 * p + 1) k u0 us
 | .loop c,p,k,u0,us=>match us with
  | []=>if q=p then fun S=>loopF (fun self S=>evJ P env cl fuel hs J (u0++[self]) (2 * p) c S (seqK P (hs p) self k)) fuel S else fun _=>none
  | u::us=>if q=p then fun S=>evJ P env cl fuel hs J (u0++[u]) (2 * p) c S (seqK P (hs p) u k) else if lft q p=true then pce P env cl fuel hs J q c (2 * p) (seqK P (hs p) u k) (u0++[u]) us else fun _=>none
 | _,_,_,_,_=>fun _=>none
end
section
variable {R:Type} {P:Program} {env:Env} {cl:Cl R} {fuel:Nat} {hs:Nat->Option Hint} {J:Orc R}
theorem evJ_eq:∀ {c:Code} {p:Nat} {us:Us R} {S:St} {k:Kt R},0 < p->(∀ q us',In q p->J q (us++us')=fnd P env cl fuel hs q c p k us')->evJ P env cl fuel hs J us p c S k=ev P env cl fuel hs p c S k:=by
 intro c
 induction c with
 | skip=>intros; rfl
 | label _=>intros; rfl
 | ret=>intros; rfl
 | exit _=>intros; rfl
 | rangeFunc=>intros; rfl
 | scope=>intros; rfl
 | goto=>intros; rfl
 | refuse=>intros; rfl
 | region id ops draw=>intros; rfl
 | seq x y ihx ihy =>
  intro p us S k hp H
  have hx:∀ q us',In q (2 * p)->J q (us++us')=fnd P env cl fuel hs q x (2 * p) (seqK P (hs p) (fun S'=>ev P env cl fuel hs (2 * p + 1) y S' k) k) us':=fun q us' hq=>by
   rw [H q us' hq.l,fnd,if_neg (by have:=In.pos (by omega) hq; omega),if_pos (lft_l hp hq)]
  have hy:∀ q us',In q (2 * p + 1)->J q (us++us')=fnd P env cl fuel hs q y (2 * p + 1) k us':=fun q us' hq=>by
   rw [H q us' hq.r,fnd,if_neg (by have:=In.pos (by omega) hq; omega),if_neg (by rw [lft_r hp hq]; decide)]
  have hJ:J p us=fun S=>ev P env cl fuel hs (2 * p + 1) y S k:=by
   have:=H p [] (In.self p)
   rw [List.append_nil] at this
   rw [this,fnd,if_pos rfl]
  rw [evJ,ev]
  split
  ·rename_i h hh
   rw [hJ,<- hh]
   exact ihx (by omega) hx
  ·rename_i hh
   have:(fun S'=>evJ P env cl fuel hs J us (2 * p + 1) y S' k)=(fun S'=>ev P env cl fuel hs (2 * p + 1) y S' k):=funext fun S'=>ihy (by omega) hy
   rw [this,<- hh]
   exact ihx (by omega) hx
 | block id c ih =>
  intro p us S k hp H
  rw [evJ,ev]
  exact ih (by omega) (fun q us' hq=>by rw [H q us' hq.l,fnd,if_neg (by have:=In.pos (by omega) hq; omega),if_pos (lft_l hp hq)])
 | cond c x y ihx ihy =>
  intro p us S k hp H
  have hx:∀ q us',In q (2 * p)->J q (us++us')=fnd P env cl fuel hs q x (2 * p) k us':=fun q us' hq=>by
   rw [H q us' hq.l,fnd,if_neg (by have:=In.pos (by omega) hq; omega),if_pos (lft_l hp hq)]
  have hy:∀ q us',In q (2 * p + 1)->J q (us++us')=fnd P env cl fuel hs q y (2 * p + 1) k us':=fun q us' hq=>by
   rw [H q us' hq.r,fnd,if_neg (by have:=In.pos (by omega) hq; omega),if_neg (by rw [lft_r hp hq]; decide)]
  have e1:∀ S,evJ P env cl fuel hs J us (2 * p) x S k=ev P env cl fuel hs (2 * p) x S k:=fun S=>ihx (by omega) hx
  have e2:∀ S,evJ P env cl fuel hs J us (2 * p + 1) y S k=ev P env cl fuel hs (2 * p + 1) y S k:=fun S=>ihy (by omega) hy
  unfold evJ ev
  simp only [e1,e2]
  all_goals rfl
 | loop c ih =>
  intro p us S k hp H
  have hJ:J p us=fun S=>loopF (fun self S=>ev P env cl fuel hs (2 * p) c S (seqK P (hs p) self k)) fuel S:=by
   have:=H p [] (In.self p)
   rw [List.append_nil] at this
   rw [this,fnd,if_pos rfl]
  rw [evJ,ev]
  split
  ·rename_i h hh
   rw [hJ,hh]
  ·rename_i hh
   have:(fun self S=>evJ P env cl fuel hs J (us++[self]) (2 * p) c S (seqK P none self k))=(fun self S=>ev P env cl fuel hs (2 * p) c S (seqK P (hs p) self k)):=by
    funext self S
    rw [hh]
    refine ih (by omega) (fun q us' hq=>?_)
    rw [List.append_assoc,H q _ hq.l,List.singleton_append,fnd,if_neg (by have:=In.pos (by omega) hq; omega),if_pos (lft_l hp hq),hh]
   rw [this,hh]
theorem pce_eq {q:Nat}:∀ {c:Code} {p:Nat} {u0:Us R} {k:Kt R} {us:Us R},0 < p->In q p->(∀ q us',In q p->J q (u0++us')=fnd P env cl fuel hs q c p k us')->pce P env cl fuel hs J q c p k u0 us=fnd P env cl fuel hs q c p k us:=by
 intro c
 induction c with
 | skip=>intros; rfl
 | label _=>intros; rfl
 | ret=>intros; rfl
 | exit _=>intros; rfl
 | rangeFunc=>intros; rfl
 | scope=>intros; rfl
 | goto=>intros; rfl
 | refuse=>intros; rfl
 | region id ops draw=>intros; rfl
 | seq x y ihx ihy =>
  intro p us k us2 hp hq H
  have hx:∀ q us',In q (2 * p)->J q (us++us')=fnd P env cl fuel hs q x (2 * p) (seqK P (hs p) (fun S'=>ev P env cl fuel hs (2 * p + 1) y S' k) k) us':=fun q us' hq=>by
   rw [H q us' hq.l,fnd,if_neg (by have:=In.pos (by omega) hq; omega),if_pos (lft_l hp hq)]
  have hy:∀ q us',In q (2 * p + 1)->J q (us++us')=fnd P env cl fuel hs q y (2 * p + 1) k us':=fun q us' hq=>by
   rw [H q us' hq.r,fnd,if_neg (by have:=In.pos (by omega) hq; omega),if_neg (by rw [lft_r hp hq]; decide)]
  have hJ:J p us=fun S=>ev P env cl fuel hs (2 * p + 1) y S k:=by
   have:=H p [] (In.self p)
   rw [List.append_nil] at this
   rw [this,fnd,if_pos rfl]
  have he:(fun S'=>evJ P env cl fuel hs J us (2 * p + 1) y S' k)=(fun S'=>ev P env cl fuel hs (2 * p + 1) y S' k):=funext fun S'=>evJ_eq (by omega) hy
  rw [pce,fnd]
  rcases hq.cases with h | h | h
  ·rw [if_pos h,if_pos h]; exact he
  ·have hne:q ≠ p:=by have:=In.pos (by omega) h; omega
   rw [if_neg hne,if_neg hne,if_pos (lft_l hp h),if_pos (lft_l hp h)]
   have hk:(match hs p with
    | some h=>seqK P (some h) (J p us) k
    | none=>seqK P none (fun S'=>evJ P env cl fuel hs J us (2 * p + 1) y S' k) k)=seqK P (hs p) (fun S'=>ev P env cl fuel hs (2 * p + 1) y S' k) k:=by
    split
    ·rename_i hn hh; rw [hJ,hh]
    ·rename_i hh; rw [he,hh]
   rw [hk]
   exact ihx (by omega) h hx
  ·have hne:q ≠ p:=by have:=In.pos (by omega) h; omega
   rw [if_neg hne,if_neg hne,if_neg (by rw [lft_r hp h]; decide),if_neg (by rw [lft_r hp h]; decide)]
   exact ihy (by omega) h hy
 | block id c ih =>
  intro p us k us2 hp hq H
  rw [pce,fnd]
  rcases hq.cases with h | h | h
  ·rw [if_pos h,if_pos h]
  ·have hne:q ≠ p:=by have:=In.pos (by omega) h; omega
   rw [if_neg hne,if_neg hne,if_pos (lft_l hp h),if_pos (lft_l hp h)]
   exact ih (by omega) h (fun q us' hq=>by rw [H q us' hq.l,fnd,if_neg (by have:=In.pos (by omega) hq; omega),if_pos (lft_l hp hq)])
  ·have hne:q ≠ p:=by have:=In.pos (by omega) h; omega
   rw [if_neg hne,if_neg hne,if_neg (by rw [lft_r hp h]; decide),if_neg (by rw [lft_r hp h]; decide)]
 | cond c x y ihx ihy =>
  intro p us k us2 hp hq H
  have hx:∀ q us',In q (2 * p)->J q (us++us')=fnd P env cl fuel hs q x (2 * p) k us':=fun q us' hq=>by
   rw [H q us' hq.l,fnd,if_neg (by have:=In.pos (by omega) hq; omega),if_pos (lft_l hp hq)]
  have hy:∀ q us',In q (2 * p + 1)->J q (us++us')=fnd P env cl fuel hs q y (2 * p + 1) k us':=fun q us' hq=>by
   rw [H q us' hq.r,fnd,if_neg (by have:=In.pos (by omega) hq; omega),if_neg (by rw [lft_r hp hq]; decide)]
  rw [pce,fnd]
  rcases hq.cases with h | h | h
  ·rw [if_pos h,if_pos h]
  ·have hne:q ≠ p:=by have:=In.pos (by omega) h; omega
   rw [if_neg hne,if_neg hne,if_pos (lft_l hp h),if_pos (lft_l hp h)]
   exact ihx (by omega) h hx
  ·have hne:q ≠ p:=by have:=In.pos (by omega) h; omega
   rw [if_neg hne,if_neg hne,if_neg (by rw [lft_r hp h]; decide),if_neg (by rw [lft_r hp h]; decide)]
   exact ihy (by omega) h hy
 | loop c ih =>
  intro p us k us2 hp hq H
  have hb:∀ (u:St->Option R) q us',In q (2 * p)->J q ((us++[u])++us')=fnd P env cl fuel hs q c (2 * p) (seqK P (hs p) u k) us':=fun u q us' hq=>by
   rw [List.append_assoc,H q _ hq.l,List.singleton_append,fnd,if_neg (by have:=In.pos (by omega) hq; omega),if_pos (lft_l hp hq)]
  have he:∀ u S,evJ P env cl fuel hs J (us++[u]) (2 * p) c S (seqK P (hs p) u k)=ev P env cl fuel hs (2 * p) c S (seqK P (hs p) u k):=fun u S=>evJ_eq (by omega) (hb u)
  cases us2 with
  | nil =>
   rw [pce,fnd]
   split
   ·simp only [he]
   ·rfl
  | cons u us2 =>
   rw [pce,fnd]
   rcases hq.cases with h | h | h
   ·rw [if_pos h,if_pos h]
    simp only [he]
   ·have hne:q ≠ p:=by have:=In.pos (by omega) h; omega
    rw [if_neg hne,if_neg hne,if_pos (lft_l hp h),if_pos (lft_l hp h)]
    exact ih (by omega) h (hb u)
   ·have hne:q ≠ p:=by have:=In.pos (by omega) h; omega
    rw [if_neg hne,if_neg hne,if_neg (by rw [lft_r hp h]; decide),if_neg (by rw [lft_r hp h]; decide)]
theorem loopF_sim {σ:Type} {mk:σ->St} {F:(St->Option R)->St->Option R} {G:(σ->Option R)->σ->Option R} (h:∀ g s,F g (mk s)=G (fun t=>g (mk t)) s):∀ n s,loopF F n (mk s)=loopF G n s
 | 0,s=>rfl
 | n + 1,s=>by
  have ih:=loopF_sim h n
  show F (loopF F n) (mk s)=G (loopF G n) s
  rw [h]
  congr 1
  funext t
  exact ih t
theorem In.one:∀ {q:Nat},0 < q->In q 1:=fun {q} h=>⟨q.log2,q - 2 ^ q.log2,by
  have:=(Nat.le_log2 (n:=q) (k:=q.log2) (by omega)).1 (Nat.le_refl _)
  omega,by
  have h1:q < 2 ^ (q.log2 + 1):=(Nat.log2_lt (by omega)).1 (Nat.lt_succ_self _)
  rw [Nat.pow_succ] at h1
  omega⟩
def jfn (P:Program) (env:Env) (d fuel:Nat) (hs:Nat->Option Hint) (f:FuncId) (sh:Sh):Orc (As sh.rs):=fun q us =>
 match P.funcs[f]? with
 | some fn=>match fn.body with
  | some c=>fnd P env (evC P env fuel (eqAs sh.rs) d) fuel hs q c 1 (topK P fn sh) us
  | none=>fun _=>none
 | none=>fun _=>none
def pfn (P:Program) (env:Env) (d fuel:Nat) (hs:Nat->Option Hint) (f:FuncId) (sh:Sh) (J:Orc (As sh.rs)):Orc (As sh.rs):=fun q us =>
 match P.funcs[f]? with
 | some fn=>match fn.body with
  | some c=>pce P env (evC P env fuel (eqAs sh.rs) d) fuel hs J q c 1 (topK P fn sh) [] us
  | none=>fun _=>none
 | none=>fun _=>none
def rfn (P:Program) (env:Env) (d fuel:Nat) (hs:Nat->Option Hint) (f:FuncId) (sh:Sh) (J:Orc (As sh.rs)) (x:As sh.ps):Option (As sh.rs) :=
 match P.funcs[f]? with
 | some fn=>match fn.body with
  | some c=>match fA sh.as (en 0 sh.es) (dvAs sh.ps x) with
   | some (ss,own)=>if ss.length≤fn.ntmps∧fn.results.size≤5 then evJ P env (evC P env fuel (eqAs sh.rs) d) fuel hs J [] 1 c { fr:=parF 0 ss,nt:=fn.ntmps,up:=[],own:=own,nx:=sh.es.length,log:=[],ln:=sh.es.length } (topK P fn sh) else none
   | none=>none
  | none=>none
 | none=>none
theorem pfn_eq {d:Nat} {f:FuncId} {sh:Sh} {q:Nat} {us:Us (As sh.rs)} (hq:0 < q):jfn P env d fuel hs f sh q us=pfn P env d fuel hs f sh (jfn P env d fuel hs f sh) q us:=by
 show _=(match P.funcs[f]? with
  | some fn=>match fn.body with
   | some c=>pce P env (evC P env fuel (eqAs sh.rs) d) fuel hs (jfn P env d fuel hs f sh) q c 1 (topK P fn sh) [] us
   | none=>fun _=>none
  | none=>fun _=>none)
 split
 ·rename_i fn hf
  split
  ·rename_i c hb
   have e:∀ q us,jfn P env d fuel hs f sh q us=fnd P env (evC P env fuel (eqAs sh.rs) d) fuel hs q c 1 (topK P fn sh) us:=fun q us=>by
    unfold jfn
    split
    ·rename_i fn' hf'
     rw [hf] at hf'
     cases hf'
     split
     ·rename_i c' hb'
      rw [hb] at hb'
      cases hb'
      rfl
     ·rename_i hb'
      rw [hb] at hb'
      cases hb'
    ·rename_i hf'
     rw [hf] at hf'
     cases hf'
   rw [pce_eq (by decide) (In.one hq) (fun q us _=>e q us),e]
  ·rename_i hb
   unfold jfn
   rw [hf]
   simp only [hb]
 ·rename_i hf
  unfold jfn
  rw [hf]
theorem rfn_eq {d:Nat} {f:FuncId} {sh:Sh} {x:As sh.ps}:evT P env d fuel hs f sh x=rfn P env d fuel hs f sh (jfn P env d fuel hs f sh) x:=by
 cases hf:P.funcs[f]? with
 | none=>unfold evT rfn; rw [hf]
 | some fn =>
  cases hb:fn.body with
  | none=>unfold evT rfn; rw [hf]; simp only [hb]
  | some c =>
   have e:∀ q us,jfn P env d fuel hs f sh q us=fnd P env (evC P env fuel (eqAs sh.rs) d) fuel hs q c 1 (topK P fn sh) us:=fun q us=>by
    unfold jfn; rw [hf]; simp only [hb]
   unfold evT rfn
   rw [hf]
   simp only [hb]
   have e2:∀ S,evJ P env (evC P env fuel (eqAs sh.rs) d) fuel hs (jfn P env d fuel hs f sh) [] 1 c S (topK P fn sh)=ev P env (evC P env fuel (eqAs sh.rs) d) fuel hs 1 c S (topK P fn sh):=fun S=>evJ_eq (by decide) (fun q us _=>by rw [List.nil_append]; exact e q us)
   first
   | (simp only [e2]; done)
   | (simp only [e2]; rfl)
def lpAt (q:Nat):Code->Nat->Nat->Bool
 | .seq x y,p,n=>if q=p then false else if lft q p=true then lpAt q x (2 * p) n else lpAt q y (2 * p + 1) n
 | .block _ c,p,n=>if q=p then false else if lft q p=true then lpAt q c (2 * p) n else false
 | .cond _ x y,p,n=>if q=p then false else if lft q p=true then lpAt q x (2 * p) n else lpAt q y (2 * p + 1) n
 | .loop c,p,n=>match n with
  | 0=>decide (q=p)
  | n + 1=>if q=p then false else if lft q p=true then lpAt q c (2 * p) n else false
 | _,_,_=>false
def lpf (P:Program) (f:FuncId) (q n:Nat):Bool:=match P.funcs[f]? with
 | some fn=>match fn.body with
  | some c=>lpAt q c 1 n
  | none=>false
 | none=>false
theorem pce_loop {q:Nat}:∀ {c:Code} {p:Nat} {u0 us:Us R} {k:Kt R} {S:St},lpAt q c p us.length=true ->
  pce P env cl fuel hs J q c p k u0 us S=loopF (fun self S=>pce P env cl fuel hs J q c p k u0 (us++[self]) S) fuel S:=by
 intro c
 induction c with
 | skip | label _ | ret | exit _ | rangeFunc | scope | goto | refuse | region _ _ _=>intro p u0 us k S h; cases h
 | seq x y ihx ihy =>
  intro p u0 us k S h
  unfold lpAt at h
  split at h
  ·cases h
  ·rename_i hne
   split at h
   ·rename_i hl
    simp only [pce,if_neg hne,if_pos hl]
    exact ihx h
   ·rename_i hl
    simp only [pce,if_neg hne,if_neg hl]
    exact ihy h
 | block id c ih =>
  intro p u0 us k S h
  unfold lpAt at h
  split at h
  ·cases h
  ·rename_i hne
   split at h
   ·rename_i hl
    simp only [pce,if_neg hne,if_pos hl]
    exact ih h
   ·cases h
 | cond c x y ihx ihy =>
  intro p u0 us k S h
  unfold lpAt at h
  split at h
  ·cases h
  ·rename_i hne
   split at h
   ·rename_i hl
    simp only [pce,if_neg hne,if_pos hl]
    exact ihx h
   ·rename_i hl
    simp only [pce,if_neg hne,if_neg hl]
    exact ihy h
 | loop c ih =>
  intro p u0 us k S h
  cases us with
  | nil =>
   have h:decide (q=p)=true:=h
   have h:=of_decide_eq_true h
   simp only [pce,List.nil_append,if_pos h]
  | cons u us =>
   have h:(if q=p then false else if lft q p=true then lpAt q c (2 * p) us.length else false)=true:=h
   split at h
   ·cases h
   ·rename_i hne
    split at h
    ·rename_i hl
     simp only [pce,List.cons_append,if_neg hne,if_pos hl]
     exact ih h
    ·cases h
theorem pfn_loop {d:Nat} {f:FuncId} {sh:Sh} {J:Orc (As sh.rs)} {q:Nat} {us:Us (As sh.rs)} (h:lpf P f q us.length=true) (S:St) :
  pfn P env d fuel hs f sh J q us S=loopF (fun self S=>pfn P env d fuel hs f sh J q (us++[self]) S) fuel S:=by
 cases hf:P.funcs[f]? with
 | none=>unfold lpf at h; rw [hf] at h; cases h
 | some fn =>
  cases hb:fn.body with
  | none=>unfold lpf at h; rw [hf] at h; simp only [hb] at h; cases h
  | some c =>
   unfold lpf at h
   rw [hf] at h
   simp only [hb] at h
   unfold pfn
   rw [hf]
   simp only [hb]
   exact pce_loop h
end
def bxSh:Sh:=⟨[],[],[],[],[],0,[]⟩
def bxCt:Ct:=⟨bxSh,fun _=>none⟩
theorem bx_ok {P:Program} {I:World->Prop} {f:FuncId}:CtOk P I f bxCt:=fun _ _ _ _ _ _ _ _ h=>by cases h
end Ev
end
section
namespace Rw
open Go Ev Sx Go.RowKit
def dgo (g:TypeId->Option Ty) (P:Program):Nat->List Field->Option (List Ty)
 | _,[]=>some []
 | off,f::r=>(g f.type).bind fun a=>if f.offset=off∧P.cellsOf f.type=a.size then (dgo g P (off + a.size) r).map fun q=>a::q else none
def sumS:List Ty->Nat
 | []=>0
 | a::r=>a.size + sumS r
def dty (P:Program):Nat->TypeId->Option Ty
 | 0,_=>none
 | n + 1,t=>match P.underlying t with
  | some (.int k)=>some (.int k)
  | some .bool=>some .bool
  | some .string=>some .str
  | some (.slice e)=>(dty P n e).bind fun y=>if P.cellsOf e=y.size∧y.size ≠ 0 then some (.sl y) else none
  | some (.struct fs)=>(dgo (dty P n) P 0 fs.toList).bind fun l=>if P.cellsOf t=sumS l then some (strTy l) else none
  | _=>none
def okV:(t:Ty)->Vl t->Prop
 | .int k,x=>(Lit.int k x).wf=true
 | .bool,_=>True
 | .str,x=>x.length≤maxLen
 | .sl t,xs=>xs.length≤maxLen∧∀ x ∈ xs,okV t x
 | .pr a b,x=>okV a x.1∧okV b x.2
 | .wr a,x=>okV a x
 | .un,_=>True
 | .ar n t,xs=>xs.length=n∧∀ x ∈ xs,okV t x
section
variable {H:Type} {enc:TypeId×Value->H} {P:Program} {w:World} {base:Nat} {sp:Nat->Bool} {held:Bool}
theorem rp_len {t:Ty} {L:Lx} {cs:List Value} {x:Vl t} (h:(rp t).rel L w cs x):cs.length=t.size:=by rw [(rp t).len h,rp_size]
def FieldOk (w:World) (cs:List Value) (off:Nat) (a:Ty):Prop:=∃ v:Vl a,(rp a).rel [] w ((cs.drop off).take a.size) v∧okV a v
def FieldsOk (w:World) (cs:List Value):Nat->List Ty->Prop
 | _,[]=>True
 | off,a::r=>FieldOk w cs off a∧FieldsOk w cs (off + a.size) r
theorem prs_ok {cs:List Value}:∀ (r:List Ty) (a:Ty) (off:Nat),FieldsOk w cs off (a::r)->off + a.size + sumS r=cs.length->∃ v:Vl (strTy.prs a r),(rp (strTy.prs a r)).rel [] w (cs.drop off) v∧okV (strTy.prs a r) v
 | [],a,off,⟨⟨v,h1,h2⟩,_⟩,hl=>by
  have:(cs.drop off).take a.size=cs.drop off:=List.take_of_length_le (by simp [sumS] at hl ⊢; omega)
  rw [this] at h1
  exact ⟨v,h1,h2⟩
 | b::r,a,off,⟨⟨v,h1,h2⟩,h3⟩,hl=>by
  obtain ⟨u,h4,h5⟩:=prs_ok r b (off + a.size) h3 (by simp [sumS] at hl ⊢; omega)
  refine ⟨(v,u),⟨(cs.drop off).take a.size,cs.drop (off + a.size),?_,h1,h4⟩,h2,h5⟩
  rw [<- List.drop_drop]
  exact (List.take_append_drop _ _).symm
theorem str_ok {cs:List Value}:∀ (l:List Ty),FieldsOk w cs 0 l->sumS l=cs.length->∃ v:Vl (strTy l),(rp (strTy l)).rel [] w cs v∧okV (strTy l) v
 | [],_,hl=>⟨(),(by show cs=[]; exact List.eq_nil_of_length_eq_zero hl.symm),trivial⟩
 | [a],⟨⟨v,h1,h2⟩,_⟩,hl=>by
  have:(cs.drop 0).take a.size=cs:=by rw [List.drop_zero]; exact List.take_of_length_le (by simp [sumS] at hl; omega)
  rw [this] at h1
  exact ⟨v,h1,h2⟩
 | a::b::r,h,hl=>prs_ok (b::r) a 0 h (by simp [sumS] at hl ⊢; omega)
theorem dgo_ok {g:TypeId->Option Ty} {cs:List Value} (ih:∀ t y n c x,g t=some y->DataW.trod enc P w base sp held n t c=some x->∃ v:Vl y,(rp y).rel [] w c v∧okV y v) (n:Nat) :
  ∀ (fs:List Field) (off:Nat) (l:List Ty),dgo g P off fs=some l->(∀ f ∈ fs,∃ x,DataW.trod enc P w base sp held n f.type ((cs.drop f.offset).take (P.cellsOf f.type))=some x)->FieldsOk w cs off l
 | [],off,l,h,_=>by cases h; trivial
 | f::r,off,l,h,hx=>by
  obtain ⟨a,h1,h⟩:=Option.bind_eq_some_iff.1 h
  split at h
  ·rename_i hc
   obtain ⟨q,h2,rfl⟩:=Option.map_eq_some_iff.1 h
   obtain ⟨x,h3⟩:=hx f (List.mem_cons_self ..)
   obtain ⟨v,h4,h5⟩:=ih _ _ _ _ _ h1 h3
   rw [hc.1,hc.2] at h4
   exact ⟨⟨v,h4,h5⟩,dgo_ok ih n r _ _ h2 fun f hf=>hx f (List.mem_cons_of_mem _ hf)⟩
  ·cases h
theorem cells_at {a:Addr} {n:Nat} {cs:List Value} (h:w.cells? base a n=some cs):cs.length=n∧∀ j v,cs[j]? = some v->w.cell? (a.add j)=some v:=by
 unfold World.cells? at h
 split at h
 ·have hl:cs.length=n:=by simpa using mapM_some_length h
  refine ⟨hl,fun j v hj=>?_⟩
  have hjl:j < n:=by rw [<- hl]; exact (List.getElem?_eq_some_iff.1 hj).1
  have:=mapM_some_get h j j (by simp [hjl])
  rw [this,hj]
 ·cases h
theorem cell_plain {a:Addr} {v:Value} (h:w.cell? a=some v):a.spot=none∧a.block < w.heap.size:=by
 unfold World.cell? at h
 split at h
 ·rename_i hb
  split at h
  ·cases h
  ·rename_i hs
   exact ⟨by simpa using hs,(Array.getElem?_eq_some_iff.1 hb).1⟩
 ·cases h
theorem add_plain (b o n:Nat):(⟨b,o,none⟩:Addr).add n=⟨b,o + n,none⟩:=by
 unfold Addr.add
 split
 ·rename_i h; subst h; rfl
 ·rfl
theorem add_zero (a:Addr):a.add 0=a:=by unfold Addr.add; rw [if_pos rfl]
theorem trod_ok:∀ (m:Nat) (t:TypeId) (y:Ty) (n:Nat) (cs:List Value) (x:DataW H×List MemPlace),dty P m t=some y->DataW.trod enc P w base sp held n t cs=some x->∃ v:Vl y,(rp y).rel [] w cs v∧okV y v
 | 0,_,_,_,_,_,h,_=>by cases h
 | m + 1,t,y,n,cs,x,h,hx=>by
  unfold dty at h
  split at h
  ·rename_i k ht
   cases h
   obtain ⟨z,rfl,_,hw⟩:=DataW.trod_int ht hx
   exact ⟨z,rfl,hw⟩
  ·rename_i ht
   cases h
   obtain ⟨b,rfl,_⟩:=DataW.trod_bool ht hx
   exact ⟨b,rfl,trivial⟩
  ·rename_i ht
   cases h
   obtain ⟨⟨⟨s⟩⟩,rfl,_,hs⟩:=DataW.trod_string ht hx
   exact ⟨s,rfl,hs⟩
  ·rename_i e ht
   obtain ⟨y',h1,h⟩:=Option.bind_eq_some_iff.1 h
   split at h
   ·rename_i hc
    cases h
    rcases DataW.trod_slice ht hx with ⟨rfl,_⟩ | ⟨a,len,cap,elems,rest,n',_,rfl,_,_,hlc,hcm,hel,hat,_⟩
    ·exact ⟨[],slice_nil _ _ _ _ _,by simp,fun x hx=>by cases hx⟩
    ·have each:∀ i:Fin len,∃ v:Vl y',(∃ c,(rp y').rel [] w c v∧c.length=y'.size∧∀ j u,c[j]? = some u->w.cell? ((a.add (i.1 * P.cellsOf e)).add j)=some u)∧okV y' v:=fun i=>by
      have hi:=hat i.1 i.2
      have:∃ z,elems[i.1]? = some z:=⟨_,List.getElem?_eq_getElem (by rw [hel]; exact i.2)⟩
      obtain ⟨z,hz⟩:=this
      rw [hz] at hi
      obtain ⟨c,hc1,hc2⟩:=Option.bind_eq_some_iff.1 hi
      obtain ⟨v,hv1,hv2⟩:=trod_ok m e y' n' c z h1 hc2
      exact ⟨v,⟨c,hv1,rp_len hv1,(cells_at hc1).2⟩,hv2⟩
     refine ⟨List.ofFn fun i=>Classical.choose (each i),⟨some a,cap,by simp,by simp; omega,fun hne=>?_⟩,by simp; omega,fun v hv=>?_⟩
     ·have hlen:0 < len:=by
       rcases Nat.eq_zero_or_pos len with h0 | h0
       ·subst h0; simp at hne
       ·exact h0
      obtain ⟨⟨c,_,hcl,hcc⟩,_⟩:=Classical.choose_spec (each ⟨0,hlen⟩)
      have hpos:0 < c.length:=by have:=hc.2; omega
      have h0:=cell_plain (hcc 0 c[0] (List.getElem?_eq_getElem hpos))
      rw [show (⟨0,hlen⟩:Fin len).1 * P.cellsOf e=0 from Nat.zero_mul _,add_zero,add_zero] at h0
      obtain ⟨b,o,s⟩:=a
      obtain ⟨hs,hb⟩:=h0
      have hs:s=none:=hs
      subst hs
      refine ⟨b,o,rfl,fun i x hi=>?_⟩
      have hil:i < len:=by have:=(List.getElem?_eq_some_iff.1 hi).1; simpa using this
      have hxe:x=Classical.choose (each ⟨i,hil⟩):=by
       rw [List.getElem?_ofFn,dif_pos hil] at hi
       exact (Option.some.inj hi).symm
      obtain ⟨⟨c,hc1,_,hc3⟩,_⟩:=Classical.choose_spec (each ⟨i,hil⟩)
      subst hxe
      refine ⟨hb,by simp,c,hc1,fun j v hj=>?_⟩
      have:=hc3 j v hj
      rw [rp_size,<- hc.1]
      rw [add_plain,add_plain] at this
      exact this
     ·obtain ⟨i,rfl⟩:=List.mem_ofFn.1 hv
      exact (Classical.choose_spec (each i)).2
   ·cases h
  ·rename_i fs ht
   obtain ⟨l,h1,h⟩:=Option.bind_eq_some_iff.1 h
   split at h
   ·rename_i hc
    cases h
    obtain ⟨xs,n',_,_,hl,hxl,hf⟩:=DataW.trod_struct ht hx
    refine str_ok l ?_ (by rw [hl,hc])
    refine dgo_ok (fun t y n c x h1 h2=>trod_ok m t y n c x h1 h2) n' fs.toList 0 l h1 fun f hfm=>?_
    obtain ⟨i,hi,rfl⟩:=List.getElem_of_mem hfm
    have hi':i < fs.size:=by simpa using hi
    have:=hf i fs[i] (Array.getElem?_eq_getElem hi')
    rw [List.getElem?_eq_getElem (by omega)] at this
    exact ⟨_,this⟩
   ·cases h
  ·cases h
theorem val_of {t:TypeId} {y:Ty} {m:Nat} {v:Value} {d:DataW H} {ps:List MemPlace} {r:Reach} {b':Nat} {w':World} (hd:dty P (m + 1) t=some y) (ho:Value.okWide P w' r b' t v) (h:DataW.Trod enc P w base sp held t v d ps):∃ x:Vl y,Den [] [] w (.d y x) v∧okV y x:=by
 obtain ⟨n,hn⟩:=h
 obtain ⟨x,h1,h2⟩:=trod_ok (m + 1) t y n _ _ hd hn
 refine ⟨x,⟨v.cells.toList,h1,?_⟩,h2⟩
 have one:∀ u:Value,v=u->u.cells = #[u]->y.agg=false->v=(rp y).val v.cells.toList:=fun u e hc ha=>by
  subst e
  simp [Rp.val,rp_agg,ha,hc]
 unfold dty at hd
 split at hd
 ·rename_i k ht
  cases hd
  obtain ⟨z,rfl⟩:=Go.WideShapes.okWide_int ht ho
  exact one _ rfl rfl rfl
 ·rename_i ht
  cases hd
  obtain ⟨b,hb,_⟩:=DataW.trod_bool ht hn
  have:∃ b,v = .bool b:=by
   simp only [Value.okWide,ht,Cell.okWide] at ho
   cases v <;> simp_all [Cell.ok]
  obtain ⟨b,rfl⟩:=this
  exact one _ rfl rfl rfl
 ·rename_i ht
  cases hd
  obtain ⟨s,rfl⟩:=Go.WideShapes.okWide_string ht ho
  exact one _ rfl rfl rfl
 ·rename_i e ht
  obtain ⟨y',h3,hd⟩:=Option.bind_eq_some_iff.1 hd
  split at hd
  ·cases hd
   obtain ⟨a,len,cap,rfl⟩:=Go.WideShapes.okWide_slice ht ho
   exact one _ rfl rfl rfl
  ·cases hd
 ·rename_i fs ht
  obtain ⟨l,h3,hd⟩:=Option.bind_eq_some_iff.1 hd
  split at hd
  ·cases hd
   simp only [Value.okWide,ht] at ho
   obtain ⟨cs,rfl,_,_⟩:=ho
   have ha:(strTy l).agg=true:=by
    match l with
    | []=>rfl
    | [a]=>rfl
    | a::b::q=>rfl
   simp [Rp.val,rp_agg,ha,Value.cells]
  ·cases hd
 ·cases hd
end
end Rw
end
section
namespace Rw
open Go Ev Sx Go.RowKit
theorem below_of {W W':World} (h:Blw (Bo [] [] W) W W'):Below W.heap.size W W' :=
 ⟨h.os,h.tape,h.output,h.size,fun k hk=>h.block k hk (by
  rintro (h | h)
  ·cases h
  ·omega)⟩
theorem lok0 (W:World):LOk (Bo [] [] W) (lx [] []) [] W:=⟨.nil,fun k h=>(by cases h),fun k h=>(by cases h),fun k h=>.inr h,fun k h=>(by cases h)⟩
theorem law_calls {P:Program} {f:FuncId} {ts:List TS} {ps:List Ty} {m:As ps->Option (Bool×Unit)} (h:CtOk P (fun _=>True) f ⟨⟨ts,[],ps,[.d .bool],[],0,[.bool]⟩,m⟩) {x:As ps} (hm:m x=some (true,())) {ss:List SV} (hA:fA ts [] (dvAs ps x)=some (ss,[])) {vs:List Value} {W:World} (hd:DenL [] [] W ss vs) :
  Calls P f vs.toArray W (fun e W'=>∃ v,e = .returned v∧v = .bool true∧Below W.heap.size W W'):=by
 refine (h [] W [] x (true,()) ss [] vs hm hA rfl (fun _ _=>trivial) (lok0 W) (fun e he=>by cases he) hd).mono fun e w' he=>?_
 obtain ⟨us,rfl,pl',rr,own',h1,_,_,h4,_,_,h7⟩:=he
 have h1:some ([SV.d .bool true],([]:List (Nat×Ent)))=some (rr,own'):=h1
 cases h1
 obtain ⟨v,q,rfl,h8,h9⟩:=h7
 cases h9
 exact ⟨_,rfl,den_bool h8,below_of h4⟩
def okA:(ps:List Ty)->As ps->Prop
 | [],_=>True
 | a::r,x=>okV a x.1∧okA r x.2
def dS:(ps:List Ty)->As ps->List SV
 | [],_=>[]
 | a::r,x=>.d a x.1::dS r x.2
theorem fL_d:∀ (ps:List Ty) (x:As ps),fL (ps.map TS.d) (dvAs ps x)=some (dS ps x,[])
 | [],_=>rfl
 | a::r,x=>by
  show (fS (.d a) (⟨a,x.1⟩::dvAs r x.2)).bind _=_
  unfold fS
  simp only [castTy_self,Option.map_some,Option.bind_some]
  rw [fL_d r x.2]
  rfl
theorem fA_d (ps:List Ty) (x:As ps):fA (ps.map TS.d) [] (dvAs ps x)=some (dS ps x,[]):=by
 unfold fA
 rw [fL_d,Option.bind_some]
 rfl
def dtys (P:Program):List TypeId->Option (List Ty)
 | []=>some []
 | t::r=>(dty P 13 t).bind fun y=>(dtys P r).map fun q=>y::q
theorem law_den {P:Program} {H:Type} {enc:TypeId×Value->H} {W:World} {b0:Nat} {sp:Nat->Bool} {held:Bool}:∀ {ts:List TypeId} {ps:List Ty} {vs:List Value} {ds:List (DataW H)} {p:List MemPlace},dtys P ts=some ps ->
  (∀ (j:Nat) t v,ts[j]? = some t->vs[j]? = some v->∃ r b w',Value.okWide P w' r b t v)->DataW.TrodAll enc P W b0 sp held ts vs ds p->∃ x:As ps,okA ps x∧DenL [] [] W (dS ps x) vs
 | [],ps,vs,ds,p,h,_,hA=>by
  cases h
  cases vs with
  | nil=>exact ⟨(),trivial,rfl⟩
  | cons v vs=>cases ds <;> exact absurd hA (by simp [DataW.TrodAll])
 | t::ts,ps,vs,ds,p,h,ho,hA=>by
  obtain ⟨y,h1,h⟩:=Option.bind_eq_some_iff.1 h
  obtain ⟨q,h2,rfl⟩:=Option.map_eq_some_iff.1 h
  match vs,ds,hA with
  | v::vs,d::ds,hA =>
   obtain ⟨p1,p2,h3,h4,_⟩:=hA
   obtain ⟨r,b,w',h5⟩:=ho 0 t v rfl rfl
   obtain ⟨x,hx1,hx2⟩:=val_of h1 h5 h3
   obtain ⟨xs,hy1,hy2⟩:=law_den h2 (fun j t v ht hv=>ho (j + 1) t v ht hv) h4
   exact ⟨(x,xs),⟨hx2,hy1⟩,v,vs,rfl,hx1,hy2⟩
  | [],_,hA=>exact absurd hA (by simp [DataW.TrodAll])
  | _::_,[],hA=>exact absurd hA (by simp [DataW.TrodAll])
theorem law_row {P:Program} {f:FuncId} {ps:List Ty} {m:As ps->Option (Bool×Unit)} (h:CtOk P (fun _=>True) f ⟨⟨ps.map TS.d,[],ps,[.d .bool],[],0,[.bool]⟩,m⟩) (law:∀ x,okA ps x->m x=some (true,()))
  {ts:Array TypeId} (ht:dtys P ts.toList=some ps) {H:Type} {enc:TypeId×Value->H} {W:World} {b0:Nat} {sp:Nat->Bool} {held:Bool} {args:Array Value} {ds:List (DataW H)} {p:List MemPlace}
  (hval:∀ (j:Nat) t v,ts[j]? = some t->args[j]? = some v->∃ r b w',Value.okWide P w' r b t v) (hA:DataW.TrodAll enc P W b0 sp held ts.toList args.toList ds p) :
  Calls P f args W (fun e W'=>∃ v,e = .returned v∧v = .bool true∧Below W.heap.size W W'):=by
 obtain ⟨x,h1,h2⟩:=law_den ht (fun j t v h3 h4=>hval j t v (by simpa using h3) (by simpa using h4)) hA
 have:=law_calls h (law x h1) (fA_d ps x) h2
 simpa using this
end Rw
end
section
namespace Go.Proofs.Lx
open Go Ev Sx
abbrev TBlk:=Int×List Int
abbrev TStg:=Int×List Bool×List TBlk
abbrev TLs:=Int×Int
abbrev TAg:=List Int×TLs×Int×Int×Int×TStg×Int
abbrev TSl:=Int×Int×TAg×List Bool
abbrev TCl:=As [.int .u8,.int .u8,.sl (.int .u16),.int .u16,.int .i64,.int .u8,.int .u32,.int .u32,.int .u32,.bool,.bool,.bool,.bool,.bool,.bool,.bool,.bool,.int .i64,.sl (.int .u16),.int .i64,.sl (.int .u16),.int .i64,.sl (.int .u16),.int .i64,.sl (.int .u16),.int .i64,.sl (.int .u16),.int .i64,.sl (.int .u16),.int .i64,.sl (.int .u16),.int .i64,.sl (.int .u16),.int .i64,.sl .bool]
abbrev zSt:TStg:=(0,[false,false,false,false,false,false,false,false],[(0,[]),(0,[]),(0,[]),(0,[]),(0,[]),(0,[]),(0,[]),(0,[])])
abbrev zAg0:TAg:=([],(0,0),0,0,0,zSt,0)
abbrev zSl:TSl:=(0,0,zAg0,[])
abbrev mkAg (a:TAg):TAg:=(a.1,a.2.1,a.2.2.1,a.2.2.2.1,a.2.2.2.2.1,(a.2.2.2.2.2.1.1,[a.2.2.2.2.2.1.2.1.getD 0 false,a.2.2.2.2.2.1.2.1.getD 1 false,a.2.2.2.2.2.1.2.1.getD 2 false,a.2.2.2.2.2.1.2.1.getD 3 false,a.2.2.2.2.2.1.2.1.getD 4 false,a.2.2.2.2.2.1.2.1.getD 5 false,a.2.2.2.2.2.1.2.1.getD 6 false,a.2.2.2.2.2.1.2.1.getD 7 false],[a.2.2.2.2.2.1.2.2.getD 0 (0,[]),a.2.2.2.2.2.1.2.2.getD 1 (0,[]),a.2.2.2.2.2.1.2.2.getD 2 (0,[]),a.2.2.2.2.2.1.2.2.getD 3 (0,[]),a.2.2.2.2.2.1.2.2.getD 4 (0,[]),a.2.2.2.2.2.1.2.2.getD 5 (0,[]),a.2.2.2.2.2.1.2.2.getD 6 (0,[]),a.2.2.2.2.2.1.2.2.getD 7 (0,[])]),a.2.2.2.2.2.2)
@[reducible] def pkS (s:TSl):TCl :=
 (s.1,s.2.1,s.2.2.1.1,s.2.2.1.2.1.1,s.2.2.1.2.1.2,s.2.2.1.2.2.1,s.2.2.1.2.2.2.1,s.2.2.1.2.2.2.2.1,s.2.2.1.2.2.2.2.2.1.1,
  List.getD s.2.2.1.2.2.2.2.2.1.2.1 0 false,List.getD s.2.2.1.2.2.2.2.2.1.2.1 1 false,List.getD s.2.2.1.2.2.2.2.2.1.2.1 2 false,List.getD s.2.2.1.2.2.2.2.2.1.2.1 3 false,List.getD s.2.2.1.2.2.2.2.2.1.2.1 4 false,List.getD s.2.2.1.2.2.2.2.2.1.2.1 5 false,List.getD s.2.2.1.2.2.2.2.2.1.2.1 6 false,List.getD s.2.2.1.2.2.2.2.2.1.2.1 7 false,
  (List.getD s.2.2.1.2.2.2.2.2.1.2.2 0 (0,[])).1,(List.getD s.2.2.1.2.2.2.2.2.1.2.2 0 (0,[])).2,(List.getD s.2.2.1.2.2.2.2.2.1.2.2 1 (0,[])).1,(List.getD s.2.2.1.2.2.2.2.2.1.2.2 1 (0,[])).2,(List.getD s.2.2.1.2.2.2.2.2.1.2.2 2 (0,[])).1,(List.getD s.2.2.1.2.2.2.2.2.1.2.2 2 (0,[])).2,(List.getD s.2.2.1.2.2.2.2.2.1.2.2 3 (0,[])).1,(List.getD s.2.2.1.2.2.2.2.2.1.2.2 3 (0,[])).2,(List.getD s.2.2.1.2.2.2.2.2.1.2.2 4 (0,[])).1,(List.getD s.2.2.1.2.2.2.2.2.1.2.2 4 (0,[])).2,(List.getD s.2.2.1.2.2.2.2.2.1.2.2 5 (0,[])).1,(List.getD s.2.2.1.2.2.2.2.2.1.2.2 5 (0,[])).2,(List.getD s.2.2.1.2.2.2.2.2.1.2.2 6 (0,[])).1,(List.getD s.2.2.1.2.2.2.2.2.1.2.2 6 (0,[])).2,(List.getD s.2.2.1.2.2.2.2.2.1.2.2 7 (0,[])).1,(List.getD s.2.2.1.2.2.2.2.2.1.2.2 7 (0,[])).2,
  s.2.2.1.2.2.2.2.2.2,s.2.2.2,())
abbrev unS (y:TCl):TSl :=
 (y.1,y.2.1,(y.2.2.1,(y.2.2.2.1,y.2.2.2.2.1),y.2.2.2.2.2.1,y.2.2.2.2.2.2.1,y.2.2.2.2.2.2.2.1,(y.2.2.2.2.2.2.2.2.1,[y.2.2.2.2.2.2.2.2.2.1,y.2.2.2.2.2.2.2.2.2.2.1,y.2.2.2.2.2.2.2.2.2.2.2.1,y.2.2.2.2.2.2.2.2.2.2.2.2.1,y.2.2.2.2.2.2.2.2.2.2.2.2.2.1,y.2.2.2.2.2.2.2.2.2.2.2.2.2.2.1,y.2.2.2.2.2.2.2.2.2.2.2.2.2.2.2.1,y.2.2.2.2.2.2.2.2.2.2.2.2.2.2.2.2.1],
  [(y.2.2.2.2.2.2.2.2.2.2.2.2.2.2.2.2.2.1,y.2.2.2.2.2.2.2.2.2.2.2.2.2.2.2.2.2.2.1),(y.2.2.2.2.2.2.2.2.2.2.2.2.2.2.2.2.2.2.2.1,y.2.2.2.2.2.2.2.2.2.2.2.2.2.2.2.2.2.2.2.2.1),(y.2.2.2.2.2.2.2.2.2.2.2.2.2.2.2.2.2.2.2.2.2.1,y.2.2.2.2.2.2.2.2.2.2.2.2.2.2.2.2.2.2.2.2.2.2.1),(y.2.2.2.2.2.2.2.2.2.2.2.2.2.2.2.2.2.2.2.2.2.2.2.1,y.2.2.2.2.2.2.2.2.2.2.2.2.2.2.2.2.2.2.2.2.2.2.2.2.1),(y.2.2.2.2.2.2.2.2.2.2.2.2.2.2.2.2.2.2.2.2.2.2.2.2.2.1,y.2.2.2.2.2.2.2.2.2.2.2.2.2.2.2.2.2.2.2.2.2.2.2.2.2.2.1),(y.2.2.2.2.2.2.2.2.2.2.2.2.2.2.2.2.2.2.2.2.2.2.2.2.2.2.2.1,y.2.2.2.2.2.2.2.2.2.2.2.2.2.2.2.2.2.2.2.2.2.2.2.2.2.2.2.2.1),(y.2.2.2.2.2.2.2.2.2.2.2.2.2.2.2.2.2.2.2.2.2.2.2.2.2.2.2.2.2.1,y.2.2.2.2.2.2.2.2.2.2.2.2.2.2.2.2.2.2.2.2.2.2.2.2.2.2.2.2.2.2.1),(y.2.2.2.2.2.2.2.2.2.2.2.2.2.2.2.2.2.2.2.2.2.2.2.2.2.2.2.2.2.2.2.1,y.2.2.2.2.2.2.2.2.2.2.2.2.2.2.2.2.2.2.2.2.2.2.2.2.2.2.2.2.2.2.2.2.1)]),y.2.2.2.2.2.2.2.2.2.2.2.2.2.2.2.2.2.2.2.2.2.2.2.2.2.2.2.2.2.2.2.2.2.1),y.2.2.2.2.2.2.2.2.2.2.2.2.2.2.2.2.2.2.2.2.2.2.2.2.2.2.2.2.2.2.2.2.2.2.1)
end Go.Proofs.Lx
end
