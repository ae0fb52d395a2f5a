/- Proved in the last of these 13 parts (this is part 5): SlaveBank returns true, whatever the link, the bank, the ticks and what comes. Conditions: those of the given statement, and no others. -/
import Derived.Test.YtkcmbampiiolbaaGreatPartd
import Derived.Test.YtkcmbampiiolbaaGreatParta
import Derived.Test.YtkcmbampiiolbaaGreatProg
set_option linter.unusedVariables false
set_option linter.unusedSimpArgs false
set_option linter.unusedSectionVars false
section
namespace Ev
open Go Go.RowKit Sx
abbrev Us (R:Type):=List (St->Option R)
abbrev Orc (R:Type):=Nat->Us R->St->Option R
section
variable {R:Type}
def evJ (P:Program) (env:Env) (cl:Cl R) (fuel:Nat) (hs:Nat->Option Hint) (J:Orc R):Us R->Nat->Code->St->Kt R->Option R
 | _,_,.skip,S,k=>k .n S
 | _,_,.label _,S,k=>k .n S
 | _,_,.ret,S,k=>k .r S
 | _,_,.exit id,S,k=>k (.x id) S
 | us,p,.seq x y,S,k=>match hs p with
  | some h=>evJ P env cl fuel hs J us (2 * p) x S (seqK P (some h) (J p us) k)
  | none=>evJ P env cl fuel hs J us (2 * p) x S (seqK P none (fun S'=>evJ P env cl fuel hs J us (2 * p + 1) y S' k) k)
 | us,p,.block id c,S,k=>evJ P env cl fuel hs J us (2 * p) c S (blockK id k)
 | us,p,.cond c x y,S,k=>match c with
  | .tmp t=>if t < S.nt then match get S.fr t with
   | some (.d .bool b)=>if b=true then evJ P env cl fuel hs J us (2 * p) x { S with fr:=(t,.d .bool true)::S.fr } k else evJ P env cl fuel hs J us (2 * p + 1) y { S with fr:=(t,.d .bool false)::S.fr } k
   | _=>none else none
  | .const (.bool b)=>if b=true then evJ P env cl fuel hs J us (2 * p) x S k else evJ P env cl fuel hs J us (2 * p + 1) y S k
  | _=>none
 | _,_,.region _ ⟨ops⟩ draw,S,k=>regn P env cl ops draw S (k .n)
 | us,p,.loop c,S,k=>match hs p with
  | some h=>(nrm P h S).bind (J p us)
  | none=>loopF (fun self S=>evJ P env cl fuel hs J (us++[self]) (2 * p) c S (seqK P none self k)) fuel S
 | _,_,.rangeFunc _ _ _ _,_,_=>none
 | _,_,.scope _,_,_=>none
 | _,_,.goto _,_,_=>none
 | _,_,.refuse _,_,_=>none
def lft (q p:Nat):Bool:=q / 2 ^ (q.log2 - p.log2 - 1) % 2 == 0
def In (q p:Nat):Prop:=∃ n r,q=p * 2 ^ n + r∧r < 2 ^ n
theorem In.self (p:Nat):In p p:=⟨0,0,by simp,by simp⟩
theorem In.l {q p:Nat}:In q (2 * p)->In q p:=fun ⟨n,r,h1,h2⟩=>⟨n + 1,r,by rw [h1,Nat.pow_succ]; simp only [Nat.mul_comm 2,Nat.mul_assoc],by rw [Nat.pow_succ]; omega⟩
theorem In.r {q p:Nat}:In q (2 * p + 1)->In q p:=fun ⟨n,r,h1,h2⟩=>⟨n + 1,2 ^ n + r,by
 have e:(2 * p + 1) * 2 ^ n=p * 2 ^ (n + 1) + 2 ^ n:=by rw [Nat.pow_succ,Nat.add_mul,Nat.one_mul,Nat.mul_comm 2 p,Nat.mul_assoc,Nat.mul_comm 2 (2 ^ n)]
 omega,by rw [Nat.pow_succ]; omega⟩
theorem In.cases {q p:Nat}:In q p->q=p∨In q (2 * p)∨In q (2 * p + 1):=fun ⟨n,r,h1,h2⟩=>by
 cases n with
 | zero=>left; simp at h1 h2; omega
 | succ n =>
  right
  have e:p * 2 ^ (n + 1)=2 * p * 2 ^ n:=by rw [Nat.pow_succ,Nat.mul_comm 2 p,Nat.mul_assoc,Nat.mul_comm 2 (2 ^ n)]
  have e2:2 ^ (n + 1)=2 ^ n + 2 ^ n:=by rw [Nat.pow_succ]; omega
  have e3:(2 * p + 1) * 2 ^ n=2 * p * 2 ^ n + 2 ^ n:=by rw [Nat.add_mul,Nat.one_mul]
  by_cases h:r < 2 ^ n
  ·exact .inl ⟨n,r,by omega,h⟩
  ·exact .inr ⟨n,r - 2 ^ n,by omega,by omega⟩
theorem log2_at {p n r:Nat} (hp:0 < p) (hr:r < 2 ^ n):(p * 2 ^ n + r).log2=p.log2 + n:=by
 have h2:0 < 2 ^ n:=Nat.pow_pos (by decide)
 have hne:p * 2 ^ n + r ≠ 0:=by have:=Nat.mul_pos hp h2; omega
 apply Nat.le_antisymm
 ·apply Nat.le_of_lt_succ
  rw [Nat.log2_lt hne,Nat.succ_eq_add_one,show p.log2 + n + 1=(p.log2 + 1) + n from by omega,Nat.pow_add]
  have h1:p < 2 ^ (p.log2 + 1):=(Nat.log2_lt (by omega)).1 (Nat.lt_succ_self _)
  calc p * 2 ^ n + r < p * 2 ^ n + 2 ^ n:=by omega
   _=(p + 1) * 2 ^ n:=by rw [Nat.add_mul,Nat.one_mul]
   _≤_:=Nat.mul_le_mul_right _ h1
 ·rw [Nat.le_log2 hne,Nat.pow_add]
  have h1:2 ^ p.log2≤p:=(Nat.le_log2 (by omega)).1 (Nat.le_refl _)
  have:=Nat.mul_le_mul_right (2 ^ n) h1
  omega
theorem lft_l {q p:Nat} (hp:0 < p):In q (2 * p)->lft q p=true:=fun ⟨n,r,h1,h2⟩=>by
 unfold lft
 have hl:q.log2=(2 * p).log2 + n:=by rw [h1]; exact log2_at (by omega) h2
 have hl2:(2 * p).log2=p.log2 + 1:=by have:=log2_at (p:=p) (n:=1) (r:=0) hp (by decide); rw [show 2 * p=p * 2 ^ 1 + 0 from by omega]; exact this
 have e:q.log2 - p.log2 - 1=n:=by omega
 rw [e,h1]
 have:(2 * p * 2 ^ n + r) / 2 ^ n=2 * p:=by
  rw [Nat.mul_comm (2 * p),Nat.mul_add_div (Nat.pow_pos (by decide)),Nat.div_eq_of_lt h2]; rfl
 rw [this]
 simp
theorem lft_r {q p:Nat} (hp:0 < p):In q (2 * p + 1)->lft q p=false:=fun ⟨n,r,h1,h2⟩=>by
 unfold lft
 have hl:q.log2=(2 * p + 1).log2 + n:=by rw [h1]; exact log2_at (by omega) h2
 have hl2:(2 * p + 1).log2=p.log2 + 1:=by have:=log2_at (p:=p) (n:=1) (r:=1) hp (by decide); rw [show 2 * p + 1=p * 2 ^ 1 + 1 from by omega]; exact this
 have e:q.log2 - p.log2 - 1=n:=by omega
 rw [e,h1]
 have:((2 * p + 1) * 2 ^ n + r) / 2 ^ n=2 * p + 1:=by
  rw [Nat.mul_comm (2 * p + 1),Nat.mul_add_div (Nat.pow_pos (by decide)),Nat.div_eq_of_lt h2,Nat.add_zero]
 rw [this]
 simp
theorem In.pos {q p:Nat} (hp:0 < p):In q p->p≤q:=fun ⟨n,r,h1,_⟩=>by
 have h2:0 < 2 ^ n:=Nat.pow_pos (by decide)
 have:=Nat.mul_le_mul_left p h2
 omega
def fnd (P:Program) (env:Env) (cl:Cl R) (fuel:Nat) (hs:Nat->Option Hint) (q:Nat):Code->Nat->Kt R->Us R->St->Option R
 | .seq x y,p,k,us=>if q=p then fun S=>ev P env cl fuel hs (2 * p + 1) y S k
  else if lft q p=true then fnd P env cl fuel hs q x (2 * p) (seqK P (hs p) (fun S'=>ev P env cl fuel hs (2 * p + 1) y S' k) k) us else fnd P env cl fuel hs q y (2 * p + 1) k us
 | .block id c,p,k,us=>if q=p then fun _=>none else if lft q p=true then fnd P env cl fuel hs q c (2 * p) (blockK id k) us else fun _=>none
 | .cond _ x y,p,k,us=>if q=p then fun _=>none else if lft q p=true then fnd P env cl fuel hs q x (2 * p) k us else fnd P env cl fuel hs q y (2 * p + 1) k us
 | .loop c,p,k,us=>match us with
  | []=>if q=p then fun S=>loopF (fun self S=>ev P env cl fuel hs (2 * p) c S (seqK P (hs p) self k)) fuel S else fun _=>none
  | u::us=>if q=p then fun S=>ev P env cl fuel hs (2 * p) c S (seqK P (hs p) u k) else if lft q p=true then fnd P env cl fuel hs q c (2 * p) (seqK P (hs p) u k) us else fun _=>none
 | _,_,_,_=>fun _=>none
def pce (P:Program) (env:Env) (cl:Cl R) (fuel:Nat) (hs:Nat->Option Hint) (J:Orc R) (q:Nat):Code->Nat->Kt R->Us R->Us R->St->Option R
 | .seq x y,p,k,u0,us=>if q=p then fun S=>evJ P env cl fuel hs J u0 (2 * p + 1) y S k
  else if lft q p=true then pce P env cl fuel hs J q x (2 * p) (match hs p with
   | some h=>seqK P (some h) (J p u0) k
   | none=>seqK P none (fun S'=>evJ P env cl fuel hs J u0 (2 * p + 1) y S' k) k) u0 us else pce P env cl fuel hs J q y (2 * p + 1) k u0 us
 | .block id c,p,k,u0,us=>if q=p then fun _=>none else if lft q p=true then pce P env cl fuel hs J q c (2 * p) (blockK id k) u0 us else fun _=>none
 | .cond _ x y,p,k,u0,us=>if q=p then fun _=>none else if lft q p=true then pce P env cl fuel hs J q x (2 * p) k u0 us else pce P env cl fuel hs J q y (2 * p + 1) k u0 us
 | .loop c,p,k,u0,us=>match us with
  | []=>if q=p then fun S=>loopF (fun self S=>evJ P env cl fuel hs J (u0++[self]) (2 * p) c S (seqK P (hs p) self k)) fuel S else fun _=>none
  | u::us=>if q=p then fun S=>evJ P env cl fuel hs J (u0++[u]) (2 * p) c S (seqK P (hs p) u k) else if lft q p=true then pce P env cl fuel hs J q c (2 * p) (seqK P (hs p) u k) (u0++[u]) us else fun _=>none
 | _,_,_,_,_=>fun _=>none
end
section
variable {R:Type} {P:Program} {env:Env} {cl:Cl R} {fuel:Nat} {hs:Nat->Option Hint} {J:Orc R}
theorem evJ_eq:∀ {c:Code} {p:Nat} {us:Us R} {S:St} {k:Kt R},0 < p->(∀ q us',In q p->J q (us++us')=fnd P env cl fuel hs q c p k us')->evJ P env cl fuel hs J us p c S k=ev P env cl fuel hs p c S k:=by
 intro c
 induction c with
 | skip=>intros; rfl
 | label _=>intros; rfl
 | ret=>intros; rfl
 | exit _=>intros; rfl
 | rangeFunc=>intros; rfl
 | scope=>intros; rfl
 | goto=>intros; rfl
 | refuse=>intros; rfl
 | region id ops draw=>intros; rfl
 | seq x y ihx ihy =>
  intro p us S k hp H
  have hx:∀ q us',In q (2 * p)->J q (us++us')=fnd P env cl fuel hs q x (2 * p) (seqK P (hs p) (fun S'=>ev P env cl fuel hs (2 * p + 1) y S' k) k) us':=fun q us' hq=>by
   rw [H q us' hq.l,fnd,if_neg (by have:=In.pos (by omega) hq; omega),if_pos (lft_l hp hq)]
  have hy:∀ q us',In q (2 * p + 1)->J q (us++us')=fnd P env cl fuel hs q y (2 * p + 1) k us':=fun q us' hq=>by
   rw [H q us' hq.r,fnd,if_neg (by have:=In.pos (by omega) hq; omega),if_neg (by rw [lft_r hp hq]; decide)]
  have hJ:J p us=fun S=>ev P env cl fuel hs (2 * p + 1) y S k:=by
   have:=H p [] (In.self p)
   rw [List.append_nil] at this
   rw [this,fnd,if_pos rfl]
  rw [evJ,ev]
  split
  ·rename_i h hh
   rw [hJ,<- hh]
   exact ihx (by omega) hx
  ·rename_i hh
   have:(fun S'=>evJ P env cl fuel hs J us (2 * p + 1) y S' k)=(fun S'=>ev P env cl fuel hs (2 * p + 1) y S' k):=funext fun S'=>ihy (by omega) hy
   rw [this,<- hh]
   exact ihx (by omega) hx
 | block id c ih =>
  intro p us S k hp H
  rw [evJ,ev]
  exact ih (by omega) (fun q us' hq=>by rw [H q us' hq.l,fnd,if_neg (by have:=In.pos (by omega) hq; omega),if_pos (lft_l hp hq)])
 | cond c x y ihx ihy =>
  intro p us S k hp H
  have hx:∀ q us',In q (2 * p)->J q (us++us')=fnd P env cl fuel hs q x (2 * p) k us':=fun q us' hq=>by
   rw [H q us' hq.l,fnd,if_neg (by have:=In.pos (by omega) hq; omega),if_pos (lft_l hp hq)]
  have hy:∀ q us',In q (2 * p + 1)->J q (us++us')=fnd P env cl fuel hs q y (2 * p + 1) k us':=fun q us' hq=>by
   rw [H q us' hq.r,fnd,if_neg (by have:=In.pos (by omega) hq; omega),if_neg (by rw [lft_r hp hq]; decide)]
  have e1:∀ S,evJ P env cl fuel hs J us (2 * p) x S k=ev P env cl fuel hs (2 * p) x S k:=fun S=>ihx (by omega) hx
  have e2:∀ S,evJ P env cl fuel hs J us (2 * p + 1) y S k=ev P env cl fuel hs (2 * p + 1) y S k:=fun S=>ihy (by omega) hy
  unfold evJ ev
  simp only [e1,e2]
  all_goals rfl
 | loop c ih =>
  intro p us S k hp H
  have hJ:J p us=fun S=>loopF (fun self S=>ev P env cl fuel hs (2 * p) c S (seqK P (hs p) self k)) fuel S:=by
   have:=H p [] (In.self p)
   rw [List.append_nil] at this
   rw [this,fnd,if_pos rfl]
  rw [evJ,ev]
  split
  ·rename_i h hh
   rw [hJ,hh]
  ·rename_i hh
   have:(fun self S=>evJ P env cl fuel hs J (us++[self]) (2 * p) c S (seqK P none self k))=(fun self S=>ev P env cl fuel hs (2 * p) c S (seqK P (hs p) self k)):=by
    funext self S
    rw [hh]
    refine ih (by omega) (fun q us' hq=>?_)
    rw [List.append_assoc,H q _ hq.l,List.singleton_append,fnd,if_neg (by have:=In.pos (by omega) hq; omega),if_pos (lft_l hp hq),hh]
   rw [this,hh]
theorem pce_eq {q:Nat}:∀ {c:Code} {p:Nat} {u0:Us R} {k:Kt R} {us:Us R},0 < p->In q p->(∀ q us',In q p->J q (u0++us')=fnd P env cl fuel hs q c p k us')->pce P env cl fuel hs J q c p k u0 us=fnd P env cl fuel hs q c p k us:=by
 intro c
 induction c with
 | skip=>intros; rfl
 | label _=>intros; rfl
 | ret=>intros; rfl
 | exit _=>intros; rfl
 | rangeFunc=>intros; rfl
 | scope=>intros; rfl
 | goto=>intros; rfl
 | refuse=>intros; rfl
 | region id ops draw=>intros; rfl
 | seq x y ihx ihy =>
  intro p us k us2 hp hq H
  have hx:∀ q us',In q (2 * p)->J q (us++us')=fnd P env cl fuel hs q x (2 * p) (seqK P (hs p) (fun S'=>ev P env cl fuel hs (2 * p + 1) y S' k) k) us':=fun q us' hq=>by
   rw [H q us' hq.l,fnd,if_neg (by have:=In.pos (by omega) hq; omega),if_pos (lft_l hp hq)]
  have hy:∀ q us',In q (2 * p + 1)->J q (us++us')=fnd P env cl fuel hs q y (2 * p + 1) k us':=fun q us' hq=>by
   rw [H q us' hq.r,fnd,if_neg (by have:=In.pos (by omega) hq; omega),if_neg (by rw [lft_r hp hq]; decide)]
  have hJ:J p us=fun S=>ev P env cl fuel hs (2 * p + 1) y S k:=by
   have:=H p [] (In.self p)
   rw [List.append_nil] at this
   rw [this,fnd,if_pos rfl]
  have he:(fun S'=>evJ P env cl fuel hs J us (2 * p + 1) y S' k)=(fun S'=>ev P env cl fuel hs (2 * p + 1) y S' k):=funext fun S'=>evJ_eq (by omega) hy
  rw [pce,fnd]
  rcases hq.cases with h | h | h
  ·rw [if_pos h,if_pos h]; exact he
  ·have hne:q ≠ p:=by have:=In.pos (by omega) h; omega
   rw [if_neg hne,if_neg hne,if_pos (lft_l hp h),if_pos (lft_l hp h)]
   have hk:(match hs p with
    | some h=>seqK P (some h) (J p us) k
    | none=>seqK P none (fun S'=>evJ P env cl fuel hs J us (2 * p + 1) y S' k) k)=seqK P (hs p) (fun S'=>ev P env cl fuel hs (2 * p + 1) y S' k) k:=by
    split
    ·rename_i hn hh; rw [hJ,hh]
    ·rename_i hh; rw [he,hh]
   rw [hk]
   exact ihx (by omega) h hx
  ·have hne:q ≠ p:=by have:=In.pos (by omega) h; omega
   rw [if_neg hne,if_neg hne,if_neg (by rw [lft_r hp h]; decide),if_neg (by rw [lft_r hp h]; decide)]
   exact ihy (by omega) h hy
 | block id c ih =>
  intro p us k us2 hp hq H
  rw [pce,fnd]
  rcases hq.cases with h | h | h
  ·rw [if_pos h,if_pos h]
  ·have hne:q ≠ p:=by have:=In.pos (by omega) h; omega
   rw [if_neg hne,if_neg hne,if_pos (lft_l hp h),if_pos (lft_l hp h)]
   exact ih (by omega) h (fun q us' hq=>by rw [H q us' hq.l,fnd,if_neg (by have:=In.pos (by omega) hq; omega),if_pos (lft_l hp hq)])
  ·have hne:q ≠ p:=by have:=In.pos (by omega) h; omega
   rw [if_neg hne,if_neg hne,if_neg (by rw [lft_r hp h]; decide),if_neg (by rw [lft_r hp h]; decide)]
 | cond c x y ihx ihy =>
  intro p us k us2 hp hq H
  have hx:∀ q us',In q (2 * p)->J q (us++us')=fnd P env cl fuel hs q x (2 * p) k us':=fun q us' hq=>by
   rw [H q us' hq.l,fnd,if_neg (by have:=In.pos (by omega) hq; omega),if_pos (lft_l hp hq)]
  have hy:∀ q us',In q (2 * p + 1)->J q (us++us')=fnd P env cl fuel hs q y (2 * p + 1) k us':=fun q us' hq=>by
   rw [H q us' hq.r,fnd,if_neg (by have:=In.pos (by omega) hq; omega),if_neg (by rw [lft_r hp hq]; decide)]
  rw [pce,fnd]
  rcases hq.cases with h | h | h
  ·rw [if_pos h,if_pos h]
  ·have hne:q ≠ p:=by have:=In.pos (by omega) h; omega
   rw [if_neg hne,if_neg hne,if_pos (lft_l hp h),if_pos (lft_l hp h)]
   exact ihx (by omega) h hx
  ·have hne:q ≠ p:=by have:=In.pos (by omega) h; omega
   rw [if_neg hne,if_neg hne,if_neg (by rw [lft_r hp h]; decide),if_neg (by rw [lft_r hp h]; decide)]
   exact ihy (by omega) h hy
 | loop c ih =>
  intro p us k us2 hp hq H
  have hb:∀ (u:St->Option R) q us',In q (2 * p)->J q ((us++[u])++us')=fnd P env cl fuel hs q c (2 * p) (seqK P (hs p) u k) us':=fun u q us' hq=>by
   rw [List.append_assoc,H q _ hq.l,List.singleton_append,fnd,if_neg (by have:=In.pos (by omega) hq; omega),if_pos (lft_l hp hq)]
  have he:∀ u S,evJ P env cl fuel hs J (us++[u]) (2 * p) c S (seqK P (hs p) u k)=ev P env cl fuel hs (2 * p) c S (seqK P (hs p) u k):=fun u S=>evJ_eq (by omega) (hb u)
  cases us2 with
  | nil =>
   rw [pce,fnd]
   split
   ·simp only [he]
   ·rfl
  | cons u us2 =>
   rw [pce,fnd]
   rcases hq.cases with h | h | h
   ·rw [if_pos h,if_pos h]
    simp only [he]
   ·have hne:q ≠ p:=by have:=In.pos (by omega) h; omega
    rw [if_neg hne,if_neg hne,if_pos (lft_l hp h),if_pos (lft_l hp h)]
    exact ih (by omega) h (hb u)
   ·have hne:q ≠ p:=by have:=In.pos (by omega) h; omega
    rw [if_neg hne,if_neg hne,if_neg (by rw [lft_r hp h]; decide),if_neg (by rw [lft_r hp h]; decide)]
theorem qh_ {σ:Type} {mk:σ->St} {F:(St->Option R)->St->Option R} {G:(σ->Option R)->σ->Option R} (h:∀ g s,F g (mk s)=G (fun t=>g (mk t)) s):∀ n s,loopF F n (mk s)=loopF G n s
 | 0,s=>rfl
 | n + 1,s=>by
  have ih:=qh_ h n
  show F (loopF F n) (mk s)=G (loopF G n) s
  rw [h]
  congr 1
  funext t
  exact ih t
theorem In.one:∀ {q:Nat},0 < q->In q 1:=fun {q} h=>⟨q.log2,q - 2 ^ q.log2,by
  have:=(Nat.le_log2 (n:=q) (k:=q.log2) (by omega)).1 (Nat.le_refl _)
  omega,by
  have h1:q < 2 ^ (q.log2 + 1):=(Nat.log2_lt (by omega)).1 (Nat.lt_succ_self _)
  rw [Nat.pow_succ] at h1
  omega⟩
def jfn (P:Program) (env:Env) (d fuel:Nat) (hs:Nat->Option Hint) (f:FuncId) (sh:Sh):Orc (As sh.rs):=fun q us =>
 match P.funcs[f]? with
 | some fn=>match fn.body with
  | some c=>fnd P env (evC P env fuel (eqAs sh.rs) d) fuel hs q c 1 (topK P fn sh) us
  | none=>fun _=>none
 | none=>fun _=>none
def pfn (P:Program) (env:Env) (d fuel:Nat) (hs:Nat->Option Hint) (f:FuncId) (sh:Sh) (J:Orc (As sh.rs)):Orc (As sh.rs):=fun q us =>
 match P.funcs[f]? with
 | some fn=>match fn.body with
  | some c=>pce P env (evC P env fuel (eqAs sh.rs) d) fuel hs J q c 1 (topK P fn sh) [] us
  | none=>fun _=>none
 | none=>fun _=>none
def rfn (P:Program) (env:Env) (d fuel:Nat) (hs:Nat->Option Hint) (f:FuncId) (sh:Sh) (J:Orc (As sh.rs)) (x:As sh.ps):Option (As sh.rs) :=
 match P.funcs[f]? with
 | some fn=>match fn.body with
  | some c=>match fA sh.as (en 0 sh.es) (dvAs sh.ps x) with
   | some (ss,own)=>if ss.length≤fn.ntmps∧fn.results.size≤5 then evJ P env (evC P env fuel (eqAs sh.rs) d) fuel hs J [] 1 c { fr:=parF 0 ss,nt:=fn.ntmps,up:=[],own:=own,nx:=sh.es.length,log:=[],ln:=sh.es.length } (topK P fn sh) else none
   | none=>none
  | none=>none
 | none=>none
theorem q6_ {d:Nat} {f:FuncId} {sh:Sh} {q:Nat} {us:Us (As sh.rs)} (hq:0 < q):jfn P env d fuel hs f sh q us=pfn P env d fuel hs f sh (jfn P env d fuel hs f sh) q us:=by
 show _=(match P.funcs[f]? with
  | some fn=>match fn.body with
   | some c=>pce P env (evC P env fuel (eqAs sh.rs) d) fuel hs (jfn P env d fuel hs f sh) q c 1 (topK P fn sh) [] us
   | none=>fun _=>none
  | none=>fun _=>none)
 split
 ·rename_i fn hf
  split
  ·rename_i c hb
   have e:∀ q us,jfn P env d fuel hs f sh q us=fnd P env (evC P env fuel (eqAs sh.rs) d) fuel hs q c 1 (topK P fn sh) us:=fun q us=>by
    unfold jfn
    split
    ·rename_i fn' hf'
     rw [hf] at hf'
     cases hf'
     split
     ·rename_i c' hb'
      rw [hb] at hb'
      cases hb'
      rfl
     ·rename_i hb'
      rw [hb] at hb'
      cases hb'
    ·rename_i hf'
     rw [hf] at hf'
     cases hf'
   rw [pce_eq (by decide) (In.one hq) (fun q us _=>e q us),e]
  ·rename_i hb
   unfold jfn
   rw [hf]
   simp only [hb]
 ·rename_i hf
  unfold jfn
  rw [hf]
theorem qi_ {d:Nat} {f:FuncId} {sh:Sh} {x:As sh.ps}:evT P env d fuel hs f sh x=rfn P env d fuel hs f sh (jfn P env d fuel hs f sh) x:=by
 cases hf:P.funcs[f]? with
 | none=>unfold evT rfn; rw [hf]
 | some fn =>
  cases hb:fn.body with
  | none=>unfold evT rfn; rw [hf]; simp only [hb]
  | some c =>
   have e:∀ q us,jfn P env d fuel hs f sh q us=fnd P env (evC P env fuel (eqAs sh.rs) d) fuel hs q c 1 (topK P fn sh) us:=fun q us=>by
    unfold jfn; rw [hf]; simp only [hb]
   unfold evT rfn
   rw [hf]
   simp only [hb]
   have e2:∀ S,evJ P env (evC P env fuel (eqAs sh.rs) d) fuel hs (jfn P env d fuel hs f sh) [] 1 c S (topK P fn sh)=ev P env (evC P env fuel (eqAs sh.rs) d) fuel hs 1 c S (topK P fn sh):=fun S=>evJ_eq (by decide) (fun q us _=>by rw [List.nil_append]; exact e q us)
   first
   | (simp only [e2]; done)
   | (simp only [e2]; rfl)
theorem ctn {P:Program} {I:World->Prop} {env:Env} {f:FuncId} {sh:Sh} {m:As sh.ps->Option (As sh.rs)} (he:EnvOk P I env) (d:Nat) (hm:∀ J x,rfn P env d 18446744073709551616 (Ev.get []) f sh J x=m x):CtOk P I f ⟨sh,m⟩:=qc_ he fun x=>qi_.trans (hm _ x)
def lpAt (q:Nat):Code->Nat->Nat->Bool
 | .seq x y,p,n=>if q=p then false else if lft q p=true then lpAt q x (2 * p) n else lpAt q y (2 * p + 1) n
 | .block _ c,p,n=>if q=p then false else if lft q p=true then lpAt q c (2 * p) n else false
 | .cond _ x y,p,n=>if q=p then false else if lft q p=true then lpAt q x (2 * p) n else lpAt q y (2 * p + 1) n
 | .loop c,p,n=>match n with
  | 0=>decide (q=p)
  | n + 1=>if q=p then false else if lft q p=true then lpAt q c (2 * p) n else false
 | _,_,_=>false
def lpf (P:Program) (f:FuncId) (q n:Nat):Bool:=match P.funcs[f]? with
 | some fn=>match fn.body with
  | some c=>lpAt q c 1 n
  | none=>false
 | none=>false
theorem pce_loop {q:Nat}:∀ {c:Code} {p:Nat} {u0 us:Us R} {k:Kt R} {S:St},lpAt q c p us.length=true ->
  pce P env cl fuel hs J q c p k u0 us S=loopF (fun self S=>pce P env cl fuel hs J q c p k u0 (us++[self]) S) fuel S:=by
 intro c
 induction c with
 | skip | label _ | ret | exit _ | rangeFunc | scope | goto | refuse | region _ _ _=>intro p u0 us k S h; cases h
 | seq x y ihx ihy =>
  intro p u0 us k S h
  unfold lpAt at h
  split at h
  ·cases h
  ·rename_i hne
   split at h
   ·rename_i hl
    simp only [pce,if_neg hne,if_pos hl]
    exact ihx h
   ·rename_i hl
    simp only [pce,if_neg hne,if_neg hl]
    exact ihy h
 | block id c ih =>
  intro p u0 us k S h
  unfold lpAt at h
  split at h
  ·cases h
  ·rename_i hne
   split at h
   ·rename_i hl
    simp only [pce,if_neg hne,if_pos hl]
    exact ih h
   ·cases h
 | cond c x y ihx ihy =>
  intro p u0 us k S h
  unfold lpAt at h
  split at h
  ·cases h
  ·rename_i hne
   split at h
   ·rename_i hl
    simp only [pce,if_neg hne,if_pos hl]
    exact ihx h
   ·rename_i hl
    simp only [pce,if_neg hne,if_neg hl]
    exact ihy h
 | loop c ih =>
  intro p u0 us k S h
  cases us with
  | nil =>
   have h:decide (q=p)=true:=h
   have h:=of_decide_eq_true h
   simp only [pce,List.nil_append,if_pos h]
  | cons u us =>
   have h:(if q=p then false else if lft q p=true then lpAt q c (2 * p) us.length else false)=true:=h
   split at h
   ·cases h
   ·rename_i hne
    split at h
    ·rename_i hl
     simp only [pce,List.cons_append,if_neg hne,if_pos hl]
     exact ih h
    ·cases h
theorem qn_ {d:Nat} {f:FuncId} {sh:Sh} {J:Orc (As sh.rs)} {q:Nat} {us:Us (As sh.rs)} (h:lpf P f q us.length=true) (S:St) :
  pfn P env d fuel hs f sh J q us S=loopF (fun self S=>pfn P env d fuel hs f sh J q (us++[self]) S) fuel S:=by
 cases hf:P.funcs[f]? with
 | none=>unfold lpf at h; rw [hf] at h; cases h
 | some fn =>
  cases hb:fn.body with
  | none=>unfold lpf at h; rw [hf] at h; simp only [hb] at h; cases h
  | some c =>
   unfold lpf at h
   rw [hf] at h
   simp only [hb] at h
   unfold pfn
   rw [hf]
   simp only [hb]
   exact pce_loop h
end
def bxSh:Sh:=⟨[],[],[],[],[],0,[]⟩
def bxCt:Ct:=⟨bxSh,fun _=>none⟩
theorem bx_ok {P:Program} {I:World->Prop} {f:FuncId}:CtOk P I f bxCt:=fun _ _ _ _ _ _ _ _ h=>by cases h
end Ev
end
section
namespace Rw
open Go Ev Sx Go.RowKit
def dgo (g:TypeId->Option Ty) (P:Program):Nat->List Field->Option (List Ty)
 | _,[]=>some []
 | off,f::r=>(g f.type).bind fun a=>if f.offset=off∧P.cellsOf f.type=a.size then (dgo g P (off + a.size) r).map fun q=>a::q else none
def sumS:List Ty->Nat
 | []=>0
 | a::r=>a.size + sumS r
def dty (P:Program):Nat->TypeId->Option Ty
 | 0,_=>none
 | n + 1,t=>match P.underlying t with
  | some (.int k)=>some (.int k)
  | some .bool=>some .bool
  | some .string=>some .str
  | some (.slice e)=>(dty P n e).bind fun y=>if P.cellsOf e=y.size∧y.size ≠ 0 then some (.sl y) else none
  | some (.struct fs)=>(dgo (dty P n) P 0 fs.toList).bind fun l=>if P.cellsOf t=sumS l then some (strTy l) else none
  | _=>none
def okV:(t:Ty)->Vl t->Prop
 | .int k,x=>(Lit.int k x).wf=true
 | .bool,_=>True
 | .str,x=>x.length≤maxLen
 | .sl t,xs=>xs.length≤maxLen∧∀ x ∈ xs,okV t x
 | .pr a b,x=>okV a x.1∧okV b x.2
 | .wr a,x=>okV a x
 | .un,_=>True
 | .ar n t,xs=>xs.length=n∧∀ x ∈ xs,okV t x
section
variable {H:Type} {enc:TypeId×Value->H} {P:Program} {w:World} {base:Nat} {sp:Nat->Bool} {held:Bool}
theorem rp_len {t:Ty} {L:Lx} {cs:List Value} {x:Vl t} (h:(rp t).rel L w cs x):cs.length=t.size:=by rw [(rp t).len h,qp_]
def FieldOk (w:World) (cs:List Value) (off:Nat) (a:Ty):Prop:=∃ v:Vl a,(rp a).rel [] w ((cs.drop off).take a.size) v∧okV a v
def FieldsOk (w:World) (cs:List Value):Nat->List Ty->Prop
 | _,[]=>True
 | off,a::r=>FieldOk w cs off a∧FieldsOk w cs (off + a.size) r
theorem prs_ok {cs:List Value}:∀ (r:List Ty) (a:Ty) (off:Nat),FieldsOk w cs off (a::r)->off + a.size + sumS r=cs.length->∃ v:Vl (strTy.prs a r),(rp (strTy.prs a r)).rel [] w (cs.drop off) v∧okV (strTy.prs a r) v
 | [],a,off,⟨⟨v,h1,h2⟩,_⟩,hl=>by
  have:(cs.drop off).take a.size=cs.drop off:=List.take_of_length_le (by simp [sumS] at hl ⊢; omega)
  rw [this] at h1
  exact ⟨v,h1,h2⟩
 | b::r,a,off,⟨⟨v,h1,h2⟩,h3⟩,hl=>by
  obtain ⟨u,h4,h5⟩:=prs_ok r b (off + a.size) h3 (by simp [sumS] at hl ⊢; omega)
  refine ⟨(v,u),⟨(cs.drop off).take a.size,cs.drop (off + a.size),?_,h1,h4⟩,h2,h5⟩
  rw [<- List.drop_drop]
  exact (List.take_append_drop _ _).symm
theorem str_ok {cs:List Value}:∀ (l:List Ty),FieldsOk w cs 0 l->sumS l=cs.length->∃ v:Vl (strTy l),(rp (strTy l)).rel [] w cs v∧okV (strTy l) v
 | [],_,hl=>⟨(),(by show cs=[]; exact List.eq_nil_of_length_eq_zero hl.symm),trivial⟩
 | [a],⟨⟨v,h1,h2⟩,_⟩,hl=>by
  have:(cs.drop 0).take a.size=cs:=by rw [List.drop_zero]; exact List.take_of_length_le (by simp [sumS] at hl; omega)
  rw [this] at h1
  exact ⟨v,h1,h2⟩
 | a::b::r,h,hl=>prs_ok (b::r) a 0 h (by simp [sumS] at hl ⊢; omega)
theorem dgo_ok {g:TypeId->Option Ty} {cs:List Value} (ih:∀ t y n c x,g t=some y->DataW.trod enc P w base sp held n t c=some x->∃ v:Vl y,(rp y).rel [] w c v∧okV y v) (n:Nat) :
  ∀ (fs:List Field) (off:Nat) (l:List Ty),dgo g P off fs=some l->(∀ f ∈ fs,∃ x,DataW.trod enc P w base sp held n f.type ((cs.drop f.offset).take (P.cellsOf f.type))=some x)->FieldsOk w cs off l
 | [],off,l,h,_=>by cases h; trivial
 | f::r,off,l,h,hx=>by
  obtain ⟨a,h1,h⟩:=Option.bind_eq_some_iff.1 h
  split at h
  ·rename_i hc
   obtain ⟨q,h2,rfl⟩:=Option.map_eq_some_iff.1 h
   obtain ⟨x,h3⟩:=hx f (List.mem_cons_self ..)
   obtain ⟨v,h4,h5⟩:=ih _ _ _ _ _ h1 h3
   rw [hc.1,hc.2] at h4
   exact ⟨⟨v,h4,h5⟩,dgo_ok ih n r _ _ h2 fun f hf=>hx f (List.mem_cons_of_mem _ hf)⟩
  ·cases h
theorem cells_at {a:Addr} {n:Nat} {cs:List Value} (h:w.cells? base a n=some cs):cs.length=n∧∀ j v,cs[j]? = some v->w.cell? (a.add j)=some v:=by
 unfold World.cells? at h
 split at h
 ·have hl:cs.length=n:=by simpa using mapM_some_length h
  refine ⟨hl,fun j v hj=>?_⟩
  have hjl:j < n:=by rw [<- hl]; exact (List.getElem?_eq_some_iff.1 hj).1
  have:=mapM_some_get h j j (by simp [hjl])
  rw [this,hj]
 ·cases h
theorem cell_plain {a:Addr} {v:Value} (h:w.cell? a=some v):a.spot=none∧a.block < w.heap.size:=by
 unfold World.cell? at h
 split at h
 ·rename_i hb
  split at h
  ·cases h
  ·rename_i hs
   exact ⟨by simpa using hs,(Array.getElem?_eq_some_iff.1 hb).1⟩
 ·cases h
theorem add_plain (b o n:Nat):(⟨b,o,none⟩:Addr).add n=⟨b,o + n,none⟩:=by
 unfold Addr.add
 split
 ·rename_i h; subst h; rfl
 ·rfl
theorem add_zero (a:Addr):a.add 0=a:=by unfold Addr.add; rw [if_pos rfl]
theorem trod_ok:∀ (m:Nat) (t:TypeId) (y:Ty) (n:Nat) (cs:List Value) (x:DataW H×List MemPlace),dty P m t=some y->DataW.trod enc P w base sp held n t cs=some x->∃ v:Vl y,(rp y).rel [] w cs v∧okV y v
 | 0,_,_,_,_,_,h,_=>by cases h
 | m + 1,t,y,n,cs,x,h,hx=>by
  unfold dty at h
  split at h
  ·rename_i k ht
   cases h
   obtain ⟨z,rfl,_,hw⟩:=DataW.trod_int ht hx
   exact ⟨z,rfl,hw⟩
  ·rename_i ht
   cases h
   obtain ⟨b,rfl,_⟩:=DataW.trod_bool ht hx
   exact ⟨b,rfl,trivial⟩
  ·rename_i ht
   cases h
   obtain ⟨⟨⟨s⟩⟩,rfl,_,hs⟩:=DataW.trod_string ht hx
   exact ⟨s,rfl,hs⟩
  ·rename_i e ht
   obtain ⟨y',h1,h⟩:=Option.bind_eq_some_iff.1 h
   split at h
   ·rename_i hc
    cases h
    rcases DataW.trod_slice ht hx with ⟨rfl,_⟩ | ⟨a,len,cap,elems,rest,n',_,rfl,_,_,hlc,hcm,hel,hat,_⟩
    ·exact ⟨[],slice_nil _ _ _ _ _,by simp,fun x hx=>by cases hx⟩
    ·have each:∀ i:Fin len,∃ v:Vl y',(∃ c,(rp y').rel [] w c v∧c.length=y'.size∧∀ j u,c[j]? = some u->w.cell? ((a.add (i.1 * P.cellsOf e)).add j)=some u)∧okV y' v:=fun i=>by
      have hi:=hat i.1 i.2
      have:∃ z,elems[i.1]? = some z:=⟨_,List.getElem?_eq_getElem (by rw [hel]; exact i.2)⟩
      obtain ⟨z,hz⟩:=this
      rw [hz] at hi
      obtain ⟨c,hc1,hc2⟩:=Option.bind_eq_some_iff.1 hi
      obtain ⟨v,hv1,hv2⟩:=trod_ok m e y' n' c z h1 hc2
      exact ⟨v,⟨c,hv1,rp_len hv1,(cells_at hc1).2⟩,hv2⟩
     refine ⟨List.ofFn fun i=>Classical.choose (each i),⟨some a,cap,by simp,by simp; omega,fun hne=>?_⟩,by simp; omega,fun v hv=>?_⟩
     ·have hlen:0 < len:=by
       rcases Nat.eq_zero_or_pos len with h0 | h0
       ·subst h0; simp at hne
       ·exact h0
      obtain ⟨⟨c,_,hcl,hcc⟩,_⟩:=Classical.choose_spec (each ⟨0,hlen⟩)
      have hpos:0 < c.length:=by have:=hc.2; omega
      have h0:=cell_plain (hcc 0 c[0] (List.getElem?_eq_getElem hpos))
      rw [show (⟨0,hlen⟩:Fin len).1 * P.cellsOf e=0 from Nat.zero_mul _,add_zero,add_zero] at h0
      obtain ⟨b,o,s⟩:=a
      obtain ⟨hs,hb⟩:=h0
      have hs:s=none:=hs
      subst hs
      refine ⟨b,o,rfl,fun i x hi=>?_⟩
      have hil:i < len:=by have:=(List.getElem?_eq_some_iff.1 hi).1; simpa using this
      have hxe:x=Classical.choose (each ⟨i,hil⟩):=by
       rw [List.getElem?_ofFn,dif_pos hil] at hi
       exact (Option.some.inj hi).symm
      obtain ⟨⟨c,hc1,_,hc3⟩,_⟩:=Classical.choose_spec (each ⟨i,hil⟩)
      subst hxe
      refine ⟨hb,by simp,c,hc1,fun j v hj=>?_⟩
      have:=hc3 j v hj
      rw [qp_,<- hc.1]
      rw [add_plain,add_plain] at this
      exact this
     ·obtain ⟨i,rfl⟩:=List.mem_ofFn.1 hv
      exact (Classical.choose_spec (each i)).2
   ·cases h
  ·rename_i fs ht
   obtain ⟨l,h1,h⟩:=Option.bind_eq_some_iff.1 h
   split at h
   ·rename_i hc
    cases h
    obtain ⟨xs,n',_,_,hl,hxl,hf⟩:=DataW.trod_struct ht hx
    refine str_ok l ?_ (by rw [hl,hc])
    refine dgo_ok (fun t y n c x h1 h2=>trod_ok m t y n c x h1 h2) n' fs.toList 0 l h1 fun f hfm=>?_
    obtain ⟨i,hi,rfl⟩:=List.getElem_of_mem hfm
    have hi':i < fs.size:=by simpa using hi
    have:=hf i fs[i] (Array.getElem?_eq_getElem hi')
    rw [List.getElem?_eq_getElem (by omega)] at this
    exact ⟨_,this⟩
   ·cases h
  ·cases h
theorem val_of {t:TypeId} {y:Ty} {m:Nat} {v:Value} {d:DataW H} {ps:List MemPlace} {r:Reach} {b':Nat} {w':World} (hd:dty P (m + 1) t=some y) (ho:Value.okWide P w' r b' t v) (h:DataW.Trod enc P w base sp held t v d ps):∃ x:Vl y,Den [] [] w (.d y x) v∧okV y x:=by
 obtain ⟨n,hn⟩:=h
 obtain ⟨x,h1,h2⟩:=trod_ok (m + 1) t y n _ _ hd hn
 refine ⟨x,⟨v.cells.toList,h1,?_⟩,h2⟩
 have one:∀ u:Value,v=u->u.cells = #[u]->y.agg=false->v=(rp y).val v.cells.toList:=fun u e hc ha=>by
  subst e
  simp [Rp.val,q2n_,ha,hc]
 unfold dty at hd
 split at hd
 ·rename_i k ht
  cases hd
  obtain ⟨z,rfl⟩:=Go.WideShapes.okWide_int ht ho
  exact one _ rfl rfl rfl
 ·rename_i ht
  cases hd
  obtain ⟨b,hb,_⟩:=DataW.trod_bool ht hn
  have:∃ b,v = .bool b:=by
   simp only [Value.okWide,ht,Cell.okWide] at ho
   cases v <;> simp_all [Cell.ok]
  obtain ⟨b,rfl⟩:=this
  exact one _ rfl rfl rfl
 ·rename_i ht
  cases hd
  obtain ⟨s,rfl⟩:=Go.WideShapes.okWide_string ht ho
  exact one _ rfl rfl rfl
 ·rename_i e ht
  obtain ⟨y',h3,hd⟩:=Option.bind_eq_some_iff.1 hd
  split at hd
  ·cases hd
   obtain ⟨a,len,cap,rfl⟩:=Go.WideShapes.okWide_slice ht ho
   exact one _ rfl rfl rfl
  ·cases hd
 ·rename_i fs ht
  obtain ⟨l,h3,hd⟩:=Option.bind_eq_some_iff.1 hd
  split at hd
  ·cases hd
   simp only [Value.okWide,ht] at ho
   obtain ⟨cs,rfl,_,_⟩:=ho
   have ha:(strTy l).agg=true:=by
    match l with
    | []=>rfl
    | [a]=>rfl
    | a::b::q=>rfl
   simp [Rp.val,q2n_,ha,Value.cells]
  ·cases hd
 ·cases hd
end
end Rw
end
section
namespace Rw
open Go Ev Sx Go.RowKit
theorem below_of {W W':World} (h:Blw (Bo [] [] W) W W'):Below W.heap.size W W' :=
 ⟨h.os,h.tape,h.output,h.size,fun k hk=>h.block k hk (by
  rintro (h | h)
  ·cases h
  ·omega)⟩
theorem lok0 (W:World):LOk (Bo [] [] W) (lx [] []) [] W:=⟨.nil,fun k h=>(by cases h),fun k h=>(by cases h),fun k h=>.inr h,fun k h=>(by cases h)⟩
theorem law_calls {P:Program} {f:FuncId} {ts:List TS} {ps:List Ty} {m:As ps->Option (Bool×Unit)} (h:CtOk P (fun _=>True) f ⟨⟨ts,[],ps,[.d .bool],[],0,[.bool]⟩,m⟩) {x:As ps} (hm:m x=some (true,())) {ss:List SV} (hA:fA ts [] (dvAs ps x)=some (ss,[])) {vs:List Value} {W:World} (hd:DenL [] [] W ss vs) :
  Calls P f vs.toArray W (fun e W'=>∃ v,e = .returned v∧v = .bool true∧Below W.heap.size W W'):=by
 refine (h [] W [] x (true,()) ss [] vs hm hA rfl (fun _ _=>trivial) (lok0 W) (fun e he=>by cases he) hd).mono fun e w' he=>?_
 obtain ⟨us,rfl,pl',rr,own',h1,_,_,h4,_,_,h7⟩:=he
 have h1:some ([SV.d .bool true],([]:List (Nat×Ent)))=some (rr,own'):=h1
 cases h1
 obtain ⟨v,q,rfl,h8,h9⟩:=h7
 cases h9
 exact ⟨_,rfl,den_bool h8,below_of h4⟩
def okA:(ps:List Ty)->As ps->Prop
 | [],_=>True
 | a::r,x=>okV a x.1∧okA r x.2
def dS:(ps:List Ty)->As ps->List SV
 | [],_=>[]
 | a::r,x=>.d a x.1::dS r x.2
theorem fL_d:∀ (ps:List Ty) (x:As ps),fL (ps.map TS.d) (dvAs ps x)=some (dS ps x,[])
 | [],_=>rfl
 | a::r,x=>by
  show (fS (.d a) (⟨a,x.1⟩::dvAs r x.2)).bind _=_
  unfold fS
  simp only [q6z_,Option.map_some,Option.bind_some]
  rw [fL_d r x.2]
  rfl
theorem fA_d (ps:List Ty) (x:As ps):fA (ps.map TS.d) [] (dvAs ps x)=some (dS ps x,[]):=by
 unfold fA
 rw [fL_d,Option.bind_some]
 rfl
def dtys (P:Program):List TypeId->Option (List Ty)
 | []=>some []
 | t::r=>(dty P 13 t).bind fun y=>(dtys P r).map fun q=>y::q
theorem law_den {P:Program} {H:Type} {enc:TypeId×Value->H} {W:World} {b0:Nat} {sp:Nat->Bool} {held:Bool}:∀ {ts:List TypeId} {ps:List Ty} {vs:List Value} {ds:List (DataW H)} {p:List MemPlace},dtys P ts=some ps ->
  (∀ (j:Nat) t v,ts[j]? = some t->vs[j]? = some v->∃ r b w',Value.okWide P w' r b t v)->DataW.TrodAll enc P W b0 sp held ts vs ds p->∃ x:As ps,okA ps x∧DenL [] [] W (dS ps x) vs
 | [],ps,vs,ds,p,h,_,hA=>by
  cases h
  cases vs with
  | nil=>exact ⟨(),trivial,rfl⟩
  | cons v vs=>cases ds <;> exact absurd hA (by simp [DataW.TrodAll])
 | t::ts,ps,vs,ds,p,h,ho,hA=>by
  obtain ⟨y,h1,h⟩:=Option.bind_eq_some_iff.1 h
  obtain ⟨q,h2,rfl⟩:=Option.map_eq_some_iff.1 h
  match vs,ds,hA with
  | v::vs,d::ds,hA =>
   obtain ⟨p1,p2,h3,h4,_⟩:=hA
   obtain ⟨r,b,w',h5⟩:=ho 0 t v rfl rfl
   obtain ⟨x,hx1,hx2⟩:=val_of h1 h5 h3
   obtain ⟨xs,hy1,hy2⟩:=law_den h2 (fun j t v ht hv=>ho (j + 1) t v ht hv) h4
   exact ⟨(x,xs),⟨hx2,hy1⟩,v,vs,rfl,hx1,hy2⟩
  | [],_,hA=>exact absurd hA (by simp [DataW.TrodAll])
  | _::_,[],hA=>exact absurd hA (by simp [DataW.TrodAll])
theorem law_row {P:Program} {f:FuncId} {ps:List Ty} {m:As ps->Option (Bool×Unit)} (h:CtOk P (fun _=>True) f ⟨⟨ps.map TS.d,[],ps,[.d .bool],[],0,[.bool]⟩,m⟩) (law:∀ x,okA ps x->m x=some (true,()))
  {ts:Array TypeId} (ht:dtys P ts.toList=some ps) {H:Type} {enc:TypeId×Value->H} {W:World} {b0:Nat} {sp:Nat->Bool} {held:Bool} {args:Array Value} {ds:List (DataW H)} {p:List MemPlace}
  (hval:∀ (j:Nat) t v,ts[j]? = some t->args[j]? = some v->∃ r b w',Value.okWide P w' r b t v) (hA:DataW.TrodAll enc P W b0 sp held ts.toList args.toList ds p) :
  Calls P f args W (fun e W'=>∃ v,e = .returned v∧v = .bool true∧Below W.heap.size W W'):=by
 obtain ⟨x,h1,h2⟩:=law_den ht (fun j t v h3 h4=>hval j t v (by simpa using h3) (by simpa using h4)) hA
 have:=law_calls h (law x h1) (fA_d ps x) h2
 simpa using this
end Rw
end
section
namespace Go.Proofs.Lx
open Go Ev Sx
abbrev TBlk:=Int×List Int
abbrev TStg:=Int×List Bool×List TBlk
abbrev TLs:=Int×Int
abbrev TAg:=List Int×TLs×Int×Int×Int×TStg×Int
abbrev TSl:=Int×Int×TAg×List Bool
abbrev TCl:=As [.int .u8,.int .u8,.sl (.int .u16),.int .u16,.int .i64,.int .u8,.int .u32,.int .u32,.int .u32,.bool,.bool,.bool,.bool,.bool,.bool,.bool,.bool,.int .i64,.sl (.int .u16),.int .i64,.sl (.int .u16),.int .i64,.sl (.int .u16),.int .i64,.sl (.int .u16),.int .i64,.sl (.int .u16),.int .i64,.sl (.int .u16),.int .i64,.sl (.int .u16),.int .i64,.sl (.int .u16),.int .i64,.sl .bool]
abbrev zSt:TStg:=(0,[false,false,false,false,false,false,false,false],[(0,[]),(0,[]),(0,[]),(0,[]),(0,[]),(0,[]),(0,[]),(0,[])])
abbrev zAg0:TAg:=([],(0,0),0,0,0,zSt,0)
abbrev zSl:TSl:=(0,0,zAg0,[])
abbrev mkAg (a:TAg):TAg:=(a.1,a.2.1,a.2.2.1,a.2.2.2.1,a.2.2.2.2.1,(a.2.2.2.2.2.1.1,[a.2.2.2.2.2.1.2.1.getD 0 false,a.2.2.2.2.2.1.2.1.getD 1 false,a.2.2.2.2.2.1.2.1.getD 2 false,a.2.2.2.2.2.1.2.1.getD 3 false,a.2.2.2.2.2.1.2.1.getD 4 false,a.2.2.2.2.2.1.2.1.getD 5 false,a.2.2.2.2.2.1.2.1.getD 6 false,a.2.2.2.2.2.1.2.1.getD 7 false],[a.2.2.2.2.2.1.2.2.getD 0 (0,[]),a.2.2.2.2.2.1.2.2.getD 1 (0,[]),a.2.2.2.2.2.1.2.2.getD 2 (0,[]),a.2.2.2.2.2.1.2.2.getD 3 (0,[]),a.2.2.2.2.2.1.2.2.getD 4 (0,[]),a.2.2.2.2.2.1.2.2.getD 5 (0,[]),a.2.2.2.2.2.1.2.2.getD 6 (0,[]),a.2.2.2.2.2.1.2.2.getD 7 (0,[])]),a.2.2.2.2.2.2)
@[reducible] def pkS (s:TSl):TCl :=
 (s.1,s.2.1,s.2.2.1.1,s.2.2.1.2.1.1,s.2.2.1.2.1.2,s.2.2.1.2.2.1,s.2.2.1.2.2.2.1,s.2.2.1.2.2.2.2.1,s.2.2.1.2.2.2.2.2.1.1,
  List.getD s.2.2.1.2.2.2.2.2.1.2.1 0 false,List.getD s.2.2.1.2.2.2.2.2.1.2.1 1 false,List.getD s.2.2.1.2.2.2.2.2.1.2.1 2 false,List.getD s.2.2.1.2.2.2.2.2.1.2.1 3 false,List.getD s.2.2.1.2.2.2.2.2.1.2.1 4 false,List.getD s.2.2.1.2.2.2.2.2.1.2.1 5 false,List.getD s.2.2.1.2.2.2.2.2.1.2.1 6 false,List.getD s.2.2.1.2.2.2.2.2.1.2.1 7 false,
  (List.getD s.2.2.1.2.2.2.2.2.1.2.2 0 (0,[])).1,(List.getD s.2.2.1.2.2.2.2.2.1.2.2 0 (0,[])).2,(List.getD s.2.2.1.2.2.2.2.2.1.2.2 1 (0,[])).1,(List.getD s.2.2.1.2.2.2.2.2.1.2.2 1 (0,[])).2,(List.getD s.2.2.1.2.2.2.2.2.1.2.2 2 (0,[])).1,(List.getD s.2.2.1.2.2.2.2.2.1.2.2 2 (0,[])).2,(List.getD s.2.2.1.2.2.2.2.2.1.2.2 3 (0,[])).1,(List.getD s.2.2.1.2.2.2.2.2.1.2.2 3 (0,[])).2,(List.getD s.2.2.1.2.2.2.2.2.1.2.2 4 (0,[])).1,(List.getD s.2.2.1.2.2.2.2.2.1.2.2 4 (0,[])).2,(List.getD s.2.2.1.2.2.2.2.2.1.2.2 5 (0,[])).1,(List.getD s.2.2.1.2.2.2.2.2.1.2.2 5 (0,[])).2,(List.getD s.2.2.1.2.2.2.2.2.1.2.2 6 (0,[])).1,(List.getD s.2.2.1.2.2.2.2.2.1.2.2 6 (0,[])).2,(List.getD s.2.2.1.2.2.2.2.2.1.2.2 7 (0,[])).1,(List.getD s.2.2.1.2.2.2.2.2.1.2.2 7 (0,[])).2,
  s.2.2.1.2.2.2.2.2.2,s.2.2.2,())
end Go.Proofs.Lx
end
section
open Go Go.Proofs Ev Sx
set_option maxRecDepth 100000
namespace Go.Proofs.Lx
abbrev YTT8:Ty:=(.pr (.int .i64) (.sl (.int .u16)))
abbrev YTT0:Ty:=(.pr (.pr (.int .u16) (.int .i64)) (.pr (.int .u8) (.pr (.int .u32) (.pr (.int .u32) (.pr (.pr (.int .u32) (.pr (.ar 8 .bool) (.ar 8 YTT8))) (.int .i64))))))
abbrev YTT12:Ty:=(.pr (.int .i64) (.pr .bool (.pr .bool .bool)))
abbrev YTT1:Ty:=(.sl (.pr (.int .i64) YTT12))
abbrev YTT9:Type:=(Int×List Bool×List (Int×List Int))
abbrev YTT2:Type:=(List Int×(Int×Int)×Int×Int×Int×YTT9×Int)
abbrev YTT3:Ty:=(.pr (.int .u8) (.pr (.sl .bool) (.pr (.sl (.int .u16)) (.pr (.int .u16) (.int .u16)))))
abbrev YTT4:Ty:=(.pr (.int .u16) (.pr (.int .u16) (.pr (.int .u16) (.pr (.sl (.int .u16)) (.sl .bool)))))
abbrev YTT5:Type:=(Int×Int×Bool×Bool×Bool)
abbrev YTT6:Ty:=(.pr (.int .u8) (.pr (.int .u32) (.pr (.int .u16) (.int .u32))))
abbrev YTT16:Type:=(Int×Int×Int×Int×List Int×List Bool)
abbrev YTT7:Type:=(Int×List Int×YTT16×Int×Int×Int×Int×Int)
abbrev YTT10:Ty:=(.pr (.sl .bool) (.pr (.sl (.int .u16)) (.sl (.int .u16))))
abbrev YTT11:Type:=(Int×Int×List Bool×List Int×Int×Int)
abbrev YTT13:Type:=(List Bool×List Bool×List Int×List Int)
abbrev YTT14:Ty:=(.pr (.int .u8) (.sl (.int .u8)))
abbrev YTT15:Ty:=(.pr (.int .i64) (.pr (.int .i64) (.pr .bool .bool)))
abbrev YaA1q0:Type:=Int×Int×Bool×Bool×Bool
@[reducible] def qxs_:Sh:=⟨[.d (.int .u8),.d (.int .u8)],[],[.int .u8,.int .u8],[.d (.bool)],[],0,[.bool]⟩
def qid_ (unit link:Int):Option (As [.bool]) :=
 if ge unit 1=true then if le unit 247=true then if eqi link 1=true then some (true,()) else some (eqi link 2,()) else some (false,()) else some (false,())
def qn5_ (x:As [.int .u8,.int .u8]):Option (As [.bool]):=qid_ x.1 x.2.1
theorem qx0_:CtOk Tryz.prog (fun _=>True) 91 ⟨qxs_,qn5_⟩:=ctn q3_ 6 fun J x=>by kernel_rfl
@[reducible] def q5k_:Sh:=⟨[.d (.sl (.int .u16))],[],[.sl (.int .u16)],[.d (.sl (.int .u16))],[],0,[.sl (.int .u16)]⟩
def qbk_ (s:List Int):Option (As [.sl (.int .u16)]) :=
 if eqi (Int.ofNat (List.length s)) 0=true then amb (eqAs q5k_.rs) [some ([],()),need (small (0 + List.length s)) (some (s,()))] else need (small (0 + List.length s)) (some (s,()))
def qf_ (x:As [.sl (.int .u16)]):Option (As [.sl (.int .u16)]):=qbk_ x.1
theorem q54_:CtOk Tryz.prog (fun _=>True) 131 ⟨q5k_,qf_⟩:=ctn q3_ 6 fun J x=>by kernel_rfl
@[reducible] def q75_:Sh:=⟨[.d (.sl (.int .u16))],[],[.sl (.int .u16)],[.row 0],[(0,.row (.int .u16) 23)],1,[.sl (.int .u16)]⟩
def q9n_ (s:List Int):Option (As [.sl (.int .u16)]) :=
 if eqi (Int.ofNat (List.length s)) 0=true then amb (eqAs q75_.rs) [some ([],()),need (small (0 + List.length s)) (some (s,()))] else need (small (0 + List.length s)) (some (s,()))
def q37_ (x:As [.sl (.int .u16)]):Option (As [.sl (.int .u16)]):=q9n_ x.1
theorem qh5_:CtOk Tryz.prog (fun _=>True) 131 ⟨q75_,q37_⟩:=ctn q3_ 6 fun J x=>by kernel_rfl
@[reducible] def q19f_:Sh:=⟨[.d (.sl (.int .u16)),.d (.int .i64)],[],[.sl (.int .u16),.int .i64],[.d (.pr (.sl (.int .u16)) YTT0),.d (.int .i64)],[],0,[.pr (.sl (.int .u16)) YTT0,.int .i64]⟩
def qrr_ (bank:List Int) (ticks:Int):Option (As [.pr (.sl (.int .u16)) YTT0,.int .i64]) :=
 if nei (Int.ofNat (List.length bank)) 64=true then some (zAg0,21,()) else if lt ticks 1=true then some (zAg0,2,()) else Option.bind (qf_ (bank,())) fun y=>some ((y.1,(0,0),0,0,0,zSt,ticks),0,())
def qwt_ (x:As [.sl (.int .u16),.int .i64]):Option (As [.pr (.sl (.int .u16)) YTT0,.int .i64]):=qrr_ x.1 x.2.1
theorem q17u_:CtOk Tryz.prog (fun _=>True) 92 ⟨q19f_,qwt_⟩:=ctn (q0_ q54_ q3_) 6 fun J x=>by kernel_rfl
@[reducible] def qya_:Sh:=⟨[.d (.int .u8),.d (.int .u8),.d (.sl (.int .u16)),.d (.int .i64)],[],[.int .u8,.int .u8,.sl (.int .u16),.int .i64],[.d (.pr (.int .u8) (.pr (.int .u8) (.pr (.pr (.sl (.int .u16)) YTT0) (.sl .bool)))),.d (.int .i64)],[],0,[.pr (.int .u8) (.pr (.int .u8) (.pr (.pr (.sl (.int .u16)) YTT0) (.sl .bool))),.int .i64]⟩
def qru_ (unit link:Int) (bank:List Int) (ticks:Int):Option (As [.pr (.int .u8) (.pr (.int .u8) (.pr (.pr (.sl (.int .u16)) YTT0) (.sl .bool))),.int .i64]) :=
 Option.bind (qn5_ (unit,link,())) fun y=>if (!y.1)=true then some (zSl,2,()) else Option.bind (qwt_ (bank,ticks,())) fun y=>if nei y.2.1 0=true then some (zSl,y.2.1,()) else some ((unit,link,(mkAg y.1),[false,false,false,false,false,false,false,false,false,false,false,false,false,false,false,false]),0,())
def qqb_ (x:As [.int .u8,.int .u8,.sl (.int .u16),.int .i64]):Option (As [.pr (.int .u8) (.pr (.int .u8) (.pr (.pr (.sl (.int .u16)) YTT0) (.sl .bool))),.int .i64]):=qru_ x.1 x.2.1 x.2.2.1 x.2.2.2.1
theorem qx3_:CtOk Tryz.prog (fun _=>True) 35 ⟨qya_,qqb_⟩:=ctn (q0_ qx0_ (q0_ q17u_ q3_)) 6 fun J x=>by kernel_rfl
@[reducible] def q1a8_:Sh:=⟨[.d (.sl (.int .u16))],[],[.sl (.int .u16)],[.d (.sl (.int .u16))],[],0,[.sl (.int .u16)]⟩
def qt8_ (l:List Int):Option (As [.sl (.int .u16)]) :=
 some (List.take 64 l++List.drop (0 + List.length (List.take 64 l)) (List.replicate 64 0),())
def qzj_ (x:As [.sl (.int .u16)]):Option (As [.sl (.int .u16)]):=qt8_ x.1
theorem q19n_:CtOk Tryz.prog (fun _=>True) 55 ⟨q1a8_,qzj_⟩:=ctn q3_ 6 fun J x=>by kernel_rfl
@[reducible] def quu_:Sh:=⟨[.d (.int .u8),.d (.sl (.int .u16)),.d (.int .u8)],[],[.int .u8,.sl (.int .u16),.int .u8],[.d (.pr (.int .u8) (.pr (.int .u8) (.pr (.pr (.sl (.int .u16)) YTT0) (.sl .bool)))),.d (.bool)],[],0,[.pr (.int .u8) (.pr (.int .u8) (.pr (.pr (.sl (.int .u16)) YTT0) (.sl .bool))),.bool]⟩
def qom_ (link:Int) (b:List Int) (ticks:Int):Option (As [.pr (.int .u8) (.pr (.int .u8) (.pr (.pr (.sl (.int .u16)) YTT0) (.sl .bool))),.bool]) :=
 Option.bind (qzj_ (b,())) fun y=>Option.bind (qqb_ (9,add .u8 1 (rem link 2),y.1,add .i64 1 (cvt .i64 (rem ticks 20)),())) fun y=>if eqi y.2.1 0=true then some (y.1,eqi (Int.ofNat (List.length y.1.2.2.1.1)) 64,()) else some (y.1,false,())
def qk8_ (x:As [.int .u8,.sl (.int .u16),.int .u8]):Option (As [.pr (.int .u8) (.pr (.int .u8) (.pr (.pr (.sl (.int .u16)) YTT0) (.sl .bool))),.bool]):=qom_ x.1 x.2.1 x.2.2.1
theorem q121_:CtOk Tryz.prog (fun _=>True) 9 ⟨quu_,qk8_⟩:=ctn (q0_ qx3_ (q0_ q19n_ q3_)) 6 fun J x=>by kernel_rfl
@[reducible] def q9w_:Sh:=⟨[.d (.sl (.int .u16)),.d (.sl (.int .u16))],[],[.sl (.int .u16),.sl (.int .u16)],[.d (.bool)],[],0,[.bool]⟩
def qk1_:Env:=(cts [])
def qjm_:List (Nat×Hint):=[(58,⟨[],[0,1,12,13]⟩)]
def qei_ (a b:List Int) (t12 t13:Int):St:={ fr:=[(0,.d (.sl (.int .u16)) a),(1,.d (.sl (.int .u16)) b),(12,.d (.int .i64) t12),(13,.d (.int .i64) t13)],nt:=26,up:=[],own:=[],nx:=0,log:=[],ln:=0 }
def qek_ (self1:List Int->List Int->Int->Int->Option (As [.bool])) (a b:List Int) (t12 t13:Int):Option (As [.bool]) :=
 if lt t13 t12=true then Option.bind (at? a t13) fun y=>Option.bind (at? b t13) fun y_1=>if nei y y_1=true then some (false,()) else self1 a b t12 (add .i64 t13 1) else some (true,())
def qo9_ (j1:List Int->List Int->Int->Int->Option (As [.bool])) (a b:List Int):Option (As [.bool]) :=
 if nei (Int.ofNat (List.length a)) (Int.ofNat (List.length b))=true then some (false,()) else j1 a b (Int.ofNat (List.length a)) 0
def qhq_ (a b:List Int) (t12 t13:Int):Option (As [.bool]) :=
 loopF (fun (self:(List Int)×(List Int)×(Int)×(Int)->Option (As [.bool])) (s:(List Int)×(List Int)×(Int)×(Int))=>qek_ (fun a b t12 t13=>self (a,b,t12,t13)) s.1 s.2.1 s.2.2.1 s.2.2.2) 18446744073709551616 (a,b,t12,t13)
def qa1_ (x:As [.sl (.int .u16),.sl (.int .u16)]):Option (As [.bool]):=qo9_ qhq_ x.1 x.2.1
theorem q17a_  (J w1 a b t12 t13):pfn Tryz.prog qk1_ 6 18446744073709551616 (Ev.get qjm_) 20 q9w_ J 58 [w1] (qei_ a b t12 t13)=qek_ (fun a b t12 t13=>w1 (qei_ a b t12 t13)) a b t12 t13:=by kernel_rfl
theorem q18g_ (J:Orc (As [.bool])) (x:As [.sl (.int .u16),.sl (.int .u16)]):rfn Tryz.prog qk1_ 6 18446744073709551616 (Ev.get qjm_) 20 q9w_ J x=qo9_ (fun a b t12 t13=>J 58 [] (qei_ a b t12 t13)) x.1 x.2.1:=by kernel_rfl
theorem q17r_  (a b t12 t13):jfn Tryz.prog qk1_ 6 18446744073709551616 (Ev.get qjm_) 20 q9w_ 58 [] (qei_ a b t12 t13)=qhq_ a b t12 t13:=by
 rw [q6_ (by decide)]
 rw [qn_ (by kernel_rfl)]
 refine qh_ (σ:=(List Int)×(List Int)×(Int)×(Int)) (mk:=fun s=>qei_ s.1 s.2.1 s.2.2.1 s.2.2.2) (fun w1 s=>?_) 18446744073709551616 (a,b,t12,t13)
 refine (q17a_ _ w1 s.1 s.2.1 s.2.2.1 s.2.2.2).trans ?_
 rfl
theorem q195_ (x:As [.sl (.int .u16),.sl (.int .u16)]):evT Tryz.prog qk1_ 6 18446744073709551616 (Ev.get qjm_) 20 q9w_ x=qa1_ x:=by
 have e1:(fun a b t12 t13=>(jfn Tryz.prog qk1_ 6 18446744073709551616 (Ev.get qjm_) 20 q9w_) 58 [] (qei_ a b t12 t13))=qhq_:=by funext a b t12 t13; exact q17r_ a b t12 t13
 rw [qi_,q18g_,e1]
 rfl
theorem qxd_:CtOk Tryz.prog (fun _=>True) 20 ⟨q9w_,qa1_⟩:=qc_ q3_ q195_
@[reducible] def qp7_:Sh:=⟨[.d (.int .u8)],[],[.int .u8],[.d (.pr (.int .i64) YTT15),.d (.bool)],[],0,[.pr (.int .i64) YTT15,.bool]⟩
def q15x_ (f:Int):Option (As [.pr (.int .i64) YTT15,.bool]) :=
 some (Ev.gdV (.pr (.int .i64) YTT15) (if eqi 1 f=true then some (2000,0,0,false,false) else if eqi 2 f=true then some (2000,0,0,false,false) else if eqi 3 f=true then some (125,0,0,false,false) else if eqi 4 f=true then some (125,0,0,false,false) else if eqi 5 f=true then some (0,1,0,false,false) else if eqi 6 f=true then some (0,0,1,false,false) else if eqi 15 f=true then some (1968,1968,0,false,true) else if eqi 16 f=true then some (123,0,123,false,true) else if eqi 23 f=true then some (125,0,121,true,false) else Option.none) (0,0,0,false,false),Ev.isV (.pr (.int .i64) YTT15) (if eqi 1 f=true then some (2000,0,0,false,false) else if eqi 2 f=true then some (2000,0,0,false,false) else if eqi 3 f=true then some (125,0,0,false,false) else if eqi 4 f=true then some (125,0,0,false,false) else if eqi 5 f=true then some (0,1,0,false,false) else if eqi 6 f=true then some (0,0,1,false,false) else if eqi 15 f=true then some (1968,1968,0,false,true) else if eqi 16 f=true then some (123,0,123,false,true) else if eqi 23 f=true then some (125,0,121,true,false) else Option.none),())
def qc4_ (x:As [.int .u8]):Option (As [.pr (.int .i64) YTT15,.bool]):=q15x_ x.1
theorem qng_:CtOk Tryz.prog (fun _=>True) 59 ⟨qp7_,qc4_⟩:=ctn q3_ 6 fun J x=>by kernel_rfl
@[reducible] def qvy_:Sh:=⟨[.d (.int .i64),.d (.int .i64)],[],[.int .i64,.int .i64],[.d (.bool)],[],0,[.bool]⟩
def qqn_ (n most:Int):Option (As [.bool]) :=
 if eqi most 0=true then some (eqi n 0,()) else if ge n 1=true then some (le n most,()) else some (false,())
def qj0_ (x:As [.int .i64,.int .i64]):Option (As [.bool]):=qqn_ x.1 x.2.1
theorem q15f_:CtOk Tryz.prog (fun _=>True) 127 ⟨qvy_,qj0_⟩:=ctn q3_ 6 fun J x=>by kernel_rfl
@[reducible] def q4v_:Sh:=⟨[.d (.pr (.int .u8) YTT4)],[],[.pr (.int .u8) YTT4],[.d (.bool)],[],0,[.bool]⟩
def q9y_:Env:=(cts [(59,(⟨qp7_,qc4_⟩:Ct)),(127,(⟨qvy_,qj0_⟩:Ct))])
def qa3_:List (Nat×Hint):=[(30,⟨[],[1,3,47,52,53,54,55,56,57,58,59,60,61,62]⟩),(14,⟨[],[1,3,22,31,32,33,34,35,36,37,40,41,42,43,44,45,46,52,53,54,55,56,57,58,59,60,61,62]⟩)]
def qo7_ (t22:Bool) (a a_2 a_3 a_4:Int) (a_5:List Int) (a_6:List Bool) (s s_2 s_3:Int) (s_4 s_5:Bool):St:={ fr:=[(1,.pb 0 0),(3,.pb 1 0),(22,.d .bool t22)],nt:=64,up:=[],own:=[(0,.box 44 [.d (.int .u8) a,.d (.int .u16) a_2,.d (.int .u16) a_3,.d (.int .u16) a_4,.d (.sl (.int .u16)) a_5,.d (.sl .bool) a_6]),(1,.box 114 [.d (.int .i64) s,.d (.int .i64) s_2,.d (.int .i64) s_3,.d .bool s_4,.d .bool s_5])],nx:=2,log:=[],ln:=0 }
def qoa_ (t47:Bool) (a a_2 a_3 a_4:Int) (a_5:List Int) (a_6:List Bool) (s s_2 s_3:Int) (s_4 s_5:Bool):St:={ fr:=[(1,.pb 0 0),(3,.pb 1 0),(47,.d .bool t47)],nt:=64,up:=[],own:=[(0,.box 44 [.d (.int .u8) a,.d (.int .u16) a_2,.d (.int .u16) a_3,.d (.int .u16) a_4,.d (.sl (.int .u16)) a_5,.d (.sl .bool) a_6]),(1,.box 114 [.d (.int .i64) s,.d (.int .i64) s_2,.d (.int .i64) s_3,.d .bool s_4,.d .bool s_5])],nx:=2,log:=[],ln:=0 }
def qs7_ (j2:Bool->Int->Int->Int->Int->List Int->List Bool->Int->Int->Int->Bool->Bool->Option (As [.bool])) (t22:Bool) (a a_2 a_3 a_4:Int) (a_5:List Int) (a_6:List Bool) (s s_2 s_3:Int) (s_4 s_5:Bool):Option (As [.bool]) :=
 if t22=true then some (false,()) else Option.bind (qj0_ (cvt .i64 a_3,s,())) fun y=>if (!y.1)=true then j2 true a a_2 a_3 a_4 a_5 a_6 s s_2 s_3 s_4 s_5 else Option.bind (qj0_ (Int.ofNat (List.length a_6),s_2,())) fun y=>if (!y.1)=true then j2 true a a_2 a_3 a_4 a_5 a_6 s s_2 s_3 s_4 s_5 else Option.bind (qj0_ (Int.ofNat (List.length a_5),s_3,())) fun y=>j2 (!y.1) a a_2 a_3 a_4 a_5 a_6 s s_2 s_3 s_4 s_5
def qrs_ (t47:Bool) (a a_2 a_3 a_4:Int) (a_5:List Int) (a_6:List Bool) (s s_2 s_3:Int) (s_4 s_5:Bool):Option (As [.bool]) :=
 if t47=true then some (false,()) else if (!s_5)=true then some (true,()) else some (eqi (add .i64 (Int.ofNat (List.length a_6)) (Int.ofNat (List.length a_5))) (cvt .i64 a_3),())
def qno_ (j1:Bool->Int->Int->Int->Int->List Int->List Bool->Int->Int->Int->Bool->Bool->Option (As [.bool])) (a:Int×Int×Int×Int×List Int×List Bool):Option (As [.bool]) :=
 Option.bind (qc4_ (a.1,())) fun y=>if (!y.2.1)=true then j1 true a.1 a.2.1 a.2.2.1 a.2.2.2.1 a.2.2.2.2.1 a.2.2.2.2.2 y.1.1 y.1.2.1 y.1.2.2.1 y.1.2.2.2.1 y.1.2.2.2.2 else if (!y.1.2.2.2.1)=true then j1 (nei a.2.2.2.1 0) a.1 a.2.1 a.2.2.1 a.2.2.2.1 a.2.2.2.2.1 a.2.2.2.2.2 y.1.1 y.1.2.1 y.1.2.2.1 y.1.2.2.2.1 y.1.2.2.2.2 else j1 false a.1 a.2.1 a.2.2.1 a.2.2.2.1 a.2.2.2.2.1 a.2.2.2.2.2 y.1.1 y.1.2.1 y.1.2.2.1 y.1.2.2.2.1 y.1.2.2.2.2
def qi5_ (t47:Bool) (a a_2 a_3 a_4:Int) (a_5:List Int) (a_6:List Bool) (s s_2 s_3:Int) (s_4 s_5:Bool):Option (As [.bool]):=qrs_ t47 a a_2 a_3 a_4 a_5 a_6 s s_2 s_3 s_4 s_5
def qem_ (t22:Bool) (a a_2 a_3 a_4:Int) (a_5:List Int) (a_6:List Bool) (s s_2 s_3:Int) (s_4 s_5:Bool):Option (As [.bool]):=qs7_ (qi5_) t22 a a_2 a_3 a_4 a_5 a_6 s s_2 s_3 s_4 s_5
def q9p_ (x:As [.pr (.int .u8) YTT4]):Option (As [.bool]):=qno_ qem_ x.1
theorem q17j_  (J t47 a a_2 a_3 a_4 a_5 a_6 s s_2 s_3 s_4 s_5):pfn Tryz.prog q9y_ 6 18446744073709551616 (Ev.get qa3_) 58 q4v_ J 30 [] (qoa_ t47 a a_2 a_3 a_4 a_5 a_6 s s_2 s_3 s_4 s_5)=qrs_ t47 a a_2 a_3 a_4 a_5 a_6 s s_2 s_3 s_4 s_5:=by kernel_rfl
theorem q16z_  (J t22 a a_2 a_3 a_4 a_5 a_6 s s_2 s_3 s_4 s_5):pfn Tryz.prog q9y_ 6 18446744073709551616 (Ev.get qa3_) 58 q4v_ J 14 [] (qo7_ t22 a a_2 a_3 a_4 a_5 a_6 s s_2 s_3 s_4 s_5)=qs7_ (fun t47 a a_2 a_3 a_4 a_5 a_6 s s_2 s_3 s_4 s_5=>J 30 [] (qoa_ t47 a a_2 a_3 a_4 a_5 a_6 s s_2 s_3 s_4 s_5)) t22 a a_2 a_3 a_4 a_5 a_6 s s_2 s_3 s_4 s_5:=by kernel_rfl
theorem q15z_ (J:Orc (As [.bool])) (x:As [.pr (.int .u8) YTT4]):rfn Tryz.prog q9y_ 6 18446744073709551616 (Ev.get qa3_) 58 q4v_ J x=qno_ (fun t22 a a_2 a_3 a_4 a_5 a_6 s s_2 s_3 s_4 s_5=>J 14 [] (qo7_ t22 a a_2 a_3 a_4 a_5 a_6 s s_2 s_3 s_4 s_5)) x.1:=by kernel_rfl
theorem q16r_  (t47 a a_2 a_3 a_4 a_5 a_6 s s_2 s_3 s_4 s_5):jfn Tryz.prog q9y_ 6 18446744073709551616 (Ev.get qa3_) 58 q4v_ 30 [] (qoa_ t47 a a_2 a_3 a_4 a_5 a_6 s s_2 s_3 s_4 s_5)=qi5_ t47 a a_2 a_3 a_4 a_5 a_6 s s_2 s_3 s_4 s_5:=by
 rw [q6_ (by decide)]
 rw [q17j_]
 rfl
theorem q161_  (t22 a a_2 a_3 a_4 a_5 a_6 s s_2 s_3 s_4 s_5):jfn Tryz.prog q9y_ 6 18446744073709551616 (Ev.get qa3_) 58 q4v_ 14 [] (qo7_ t22 a a_2 a_3 a_4 a_5 a_6 s s_2 s_3 s_4 s_5)=qem_ t22 a a_2 a_3 a_4 a_5 a_6 s s_2 s_3 s_4 s_5:=by
 rw [q6_ (by decide)]
 have e2:(fun t47 a a_2 a_3 a_4 a_5 a_6 s s_2 s_3 s_4 s_5=>(jfn Tryz.prog q9y_ 6 18446744073709551616 (Ev.get qa3_) 58 q4v_) 30 [] (qoa_ t47 a a_2 a_3 a_4 a_5 a_6 s s_2 s_3 s_4 s_5))=qi5_:=by funext t47 a a_2 a_3 a_4 a_5 a_6 s s_2 s_3 s_4 s_5; exact q16r_ t47 a a_2 a_3 a_4 a_5 a_6 s s_2 s_3 s_4 s_5
 rw [q16z_,e2]
 rfl
theorem q19m_ (x:As [.pr (.int .u8) YTT4]):evT Tryz.prog q9y_ 6 18446744073709551616 (Ev.get qa3_) 58 q4v_ x=q9p_ x:=by
 have e1:(fun t22 a a_2 a_3 a_4 a_5 a_6 s s_2 s_3 s_4 s_5=>(jfn Tryz.prog q9y_ 6 18446744073709551616 (Ev.get qa3_) 58 q4v_) 14 [] (qo7_ t22 a a_2 a_3 a_4 a_5 a_6 s s_2 s_3 s_4 s_5))=qem_:=by funext t22 a a_2 a_3 a_4 a_5 a_6 s s_2 s_3 s_4 s_5; exact q161_ t22 a a_2 a_3 a_4 a_5 a_6 s s_2 s_3 s_4 s_5
 rw [qi_,q15z_,e1]
 rfl
theorem qs6_:CtOk Tryz.prog (fun _=>True) 58 ⟨q4v_,q9p_⟩:=qc_ (q0_ qng_ (q0_ q15f_ q3_)) q19m_
@[reducible] def q9a_:Sh:=⟨[.row 0,.d (.sl (.int .u16))],[.row (.int .u8) 5],[.sl (.int .u16),.sl (.int .u8)],[.row 1],[(1,.row (.int .u8) 5)],1,[.sl (.int .u8)]⟩
def qge_:Env:=(cts [])
def qgm_:List (Nat×Hint):=[(26,⟨[.unl 0],[0,7,8,9]⟩)]
def qae_ (t7:List Int) (t8 t9:Int) (out:List Int):St:={ fr:=[(0,.row 1),(7,.d (.sl (.int .u16)) t7),(8,.d (.int .i64) t8),(9,.d (.int .i64) t9)],nt:=23,up:=[],own:=[(1,.row (.int .u8) 5 out)],nx:=2,log:=[],ln:=1 }
def qaf_ (self1:List Int->Int->Int->List Int->Option (As [.sl (.int .u8)])) (t7:List Int) (t8 t9:Int) (out:List Int):Option (As [.sl (.int .u8)]) :=
 if lt t9 t8=true then Option.bind (at? t7 t9) fun y=>need (small (List.length out + Nat.succ (Nat.succ 0))) (self1 t7 t8 (add .i64 t9 1) (out++[cvt .u8 (Sx.shr .u16 y 8),cvt .u8 y])) else some (out,())
def qif_ (j1:List Int->Int->Int->List Int->Option (As [.sl (.int .u8)])) (out l:List Int):Option (As [.sl (.int .u8)]) :=
 j1 out (Int.ofNat (List.length out)) 0 l
def qel_ (t7:List Int) (t8 t9:Int) (out:List Int):Option (As [.sl (.int .u8)]) :=
 loopF (fun (self:(List Int)×(Int)×(Int)×(List Int)->Option (As [.sl (.int .u8)])) (s:(List Int)×(Int)×(Int)×(List Int))=>qaf_ (fun t7 t8 t9 out=>self (t7,t8,t9,out)) s.1 s.2.1 s.2.2.1 s.2.2.2) 18446744073709551616 (t7,t8,t9,out)
def q1z_ (x:As [.sl (.int .u16),.sl (.int .u8)]):Option (As [.sl (.int .u8)]):=qif_ qel_ x.1 x.2.1
theorem q11f_  (J w1 t7 t8 t9 out):pfn Tryz.prog qge_ 6 18446744073709551616 (Ev.get qgm_) 60 q9a_ J 26 [w1] (qae_ t7 t8 t9 out)=qaf_ (fun t7 t8 t9 out=>w1 (qae_ t7 t8 t9 out)) t7 t8 t9 out:=by kernel_rfl
theorem q11b_ (J:Orc (As [.sl (.int .u8)])) (x:As [.sl (.int .u16),.sl (.int .u8)]):rfn Tryz.prog qge_ 6 18446744073709551616 (Ev.get qgm_) 60 q9a_ J x=qif_ (fun t7 t8 t9 out=>J 26 [] (qae_ t7 t8 t9 out)) x.1 x.2.1:=by kernel_rfl
theorem q12p_  (t7 t8 t9 out):jfn Tryz.prog qge_ 6 18446744073709551616 (Ev.get qgm_) 60 q9a_ 26 [] (qae_ t7 t8 t9 out)=qel_ t7 t8 t9 out:=by
 rw [q6_ (by decide)]
 rw [qn_ (by kernel_rfl)]
 refine qh_ (σ:=(List Int)×(Int)×(Int)×(List Int)) (mk:=fun s=>qae_ s.1 s.2.1 s.2.2.1 s.2.2.2) (fun w1 s=>?_) 18446744073709551616 (t7,t8,t9,out)
 refine (q11f_ _ w1 s.1 s.2.1 s.2.2.1 s.2.2.2).trans ?_
 rfl
theorem q146_ (x:As [.sl (.int .u16),.sl (.int .u8)]):evT Tryz.prog qge_ 6 18446744073709551616 (Ev.get qgm_) 60 q9a_ x=q1z_ x:=by
 have e1:(fun t7 t8 t9 out=>(jfn Tryz.prog qge_ 6 18446744073709551616 (Ev.get qgm_) 60 q9a_) 26 [] (qae_ t7 t8 t9 out))=qel_:=by funext t7 t8 t9 out; exact q12p_ t7 t8 t9 out
 rw [qi_,q11b_,e1]
 rfl
theorem q129_:CtOk Tryz.prog (fun _=>True) 60 ⟨q9a_,q1z_⟩:=qc_ q3_ q146_
@[reducible] def q8a_:Sh:=⟨[.d (.sl .bool)],[],[.sl .bool],[.d (.sl (.int .u8))],[],0,[.sl (.int .u8)]⟩
def qcl_:Env:=(cts [])
def qcf_:List (Nat×Hint):=[(7,⟨[],[0,3]⟩),(250,⟨[],[4,18,19,20]⟩)]
def qp4_ (bits:List Bool) (n:Int):St:={ fr:=[(0,.d (.sl .bool) bits),(3,.d (.int .i64) n)],nt:=38,up:=[],own:=[],nx:=0,log:=[],ln:=0 }
def qh0_ (t18:List Bool) (t19 t20:Int) (out:List Int):St:={ fr:=[(4,.row 0),(18,.d (.sl .bool) t18),(19,.d (.int .i64) t19),(20,.d (.int .i64) t20)],nt:=38,up:=[],own:=[(0,.row (.int .u8) 5 out)],nx:=1,log:=[],ln:=0 }
def qte_ (j2:List Bool->Int->Int->List Int->Option (As [.sl (.int .u8)])) (bits:List Bool) (n:Int):Option (As [.sl (.int .u8)]) :=
 need (ge n 0) (need (Ev.capOk n n) (need (small (Int.toNat n)) (j2 bits (Int.ofNat (List.length bits)) 0 (List.replicate (Int.toNat n) 0))))
def qgx_ (self2:List Bool->Int->Int->List Int->Option (As [.sl (.int .u8)])) (t18:List Bool) (t19 t20:Int) (out:List Int):Option (As [.sl (.int .u8)]) :=
 if lt t20 t19=true then Option.bind (at? t18 t20) fun y=>if y=true then Option.bind (at? out (quo .i64 t20 8)) fun x=>Option.bind (at? out (quo .i64 t20 8)) fun y=>need (ge (rem t20 8) 0) (Option.bind (at? out (quo .i64 t20 8)) fun x=>Option.bind (at? out (quo .i64 t20 8)) fun x=>self2 t18 t19 (add .i64 t20 1) (List.set out (Int.toNat (quo .i64 t20 8)) (Sx.bor .u8 y (Sx.shl .u8 1 (rem t20 8))))) else self2 t18 t19 (add .i64 t20 1) out else some (out,())
def qpf_ (j1:List Bool->Int->Option (As [.sl (.int .u8)])) (bits:List Bool):Option (As [.sl (.int .u8)]) :=
 if gt (rem (Int.ofNat (List.length bits)) 8) 0=true then j1 bits (add .i64 (quo .i64 (Int.ofNat (List.length bits)) 8) 1) else j1 bits (quo .i64 (Int.ofNat (List.length bits)) 8)
def qpe_ (t18:List Bool) (t19 t20:Int) (out:List Int):Option (As [.sl (.int .u8)]) :=
 loopF (fun (self:(List Bool)×(Int)×(Int)×(List Int)->Option (As [.sl (.int .u8)])) (s:(List Bool)×(Int)×(Int)×(List Int))=>qgx_ (fun t18 t19 t20 out=>self (t18,t19,t20,out)) s.1 s.2.1 s.2.2.1 s.2.2.2) 18446744073709551616 (t18,t19,t20,out)
def qgz_ (bits:List Bool) (n:Int):Option (As [.sl (.int .u8)]):=qte_ (qpe_) bits n
def qlt_ (x:As [.sl .bool]):Option (As [.sl (.int .u8)]):=qpf_ qgz_ x.1
theorem q19r_  (J w2 t18 t19 t20 out):pfn Tryz.prog qcl_ 6 18446744073709551616 (Ev.get qcf_) 61 q8a_ J 250 [w2] (qh0_ t18 t19 t20 out)=qgx_ (fun t18 t19 t20 out=>w2 (qh0_ t18 t19 t20 out)) t18 t19 t20 out:=by kernel_rfl
theorem q1a3_  (J bits n):pfn Tryz.prog qcl_ 6 18446744073709551616 (Ev.get qcf_) 61 q8a_ J 7 [] (qp4_ bits n)=qte_ (fun t18 t19 t20 out=>J 250 [] (qh0_ t18 t19 t20 out)) bits n:=by kernel_rfl
theorem q1a0_ (J:Orc (As [.sl (.int .u8)])) (x:As [.sl .bool]):rfn Tryz.prog qcl_ 6 18446744073709551616 (Ev.get qcf_) 61 q8a_ J x=qpf_ (fun bits n=>J 7 [] (qp4_ bits n)) x.1:=by kernel_rfl
theorem q19e_  (t18 t19 t20 out):jfn Tryz.prog qcl_ 6 18446744073709551616 (Ev.get qcf_) 61 q8a_ 250 [] (qh0_ t18 t19 t20 out)=qpe_ t18 t19 t20 out:=by
 rw [q6_ (by decide)]
 rw [qn_ (by kernel_rfl)]
 refine qh_ (σ:=(List Bool)×(Int)×(Int)×(List Int)) (mk:=fun s=>qh0_ s.1 s.2.1 s.2.2.1 s.2.2.2) (fun w2 s=>?_) 18446744073709551616 (t18,t19,t20,out)
 refine (q19r_ _ w2 s.1 s.2.1 s.2.2.1 s.2.2.2).trans ?_
 rfl
theorem q199_  (bits n):jfn Tryz.prog qcl_ 6 18446744073709551616 (Ev.get qcf_) 61 q8a_ 7 [] (qp4_ bits n)=qgz_ bits n:=by
 rw [q6_ (by decide)]
 have e2:(fun t18 t19 t20 out=>(jfn Tryz.prog qcl_ 6 18446744073709551616 (Ev.get qcf_) 61 q8a_) 250 [] (qh0_ t18 t19 t20 out))=qpe_:=by funext t18 t19 t20 out; exact q19e_ t18 t19 t20 out
 rw [q1a3_,e2]
 rfl
theorem q1ao_ (x:As [.sl .bool]):evT Tryz.prog qcl_ 6 18446744073709551616 (Ev.get qcf_) 61 q8a_ x=qlt_ x:=by
 have e1:(fun bits n=>(jfn Tryz.prog qcl_ 6 18446744073709551616 (Ev.get qcf_) 61 q8a_) 7 [] (qp4_ bits n))=qgz_:=by funext bits n; exact q199_ bits n
 rw [qi_,q1a0_,e1]
 rfl
theorem qy7_:CtOk Tryz.prog (fun _=>True) 61 ⟨q8a_,qlt_⟩:=qc_ q3_ q1ao_
@[reducible] def q1y_:Sh:=⟨[.d (.pr (.int .u8) YTT4)],[],[.pr (.int .u8) YTT4],[.d (.sl (.int .u8)),.d (.int .i64)],[],0,[.sl (.int .u8),.int .i64]⟩
def q3j_:Env:=(cts [(58,(⟨q4v_,q9p_⟩:Ct)),(59,(⟨qp7_,qc4_⟩:Ct)),(60,(⟨q9a_,q1z_⟩:Ct)),(61,(⟨q8a_,qlt_⟩:Ct))])
def q3k_:List (Nat×Hint):=[(31,⟨[],[1,4,6,48,49,50,51]⟩),(63,⟨[],[1,4,6,48,49,50,51]⟩),(127,⟨[],[6]⟩),(508,⟨[],[1,4,6,43]⟩)]
def qmj_ (a a_2 a_3 a_4:Int) (a_5:List Int) (a_6:List Bool) (s s_2 s_3:Int) (s_4 s_5:Bool) (out:List Int):St:={ fr:=[(1,.pb 0 0),(4,.pb 1 0),(6,.row 2)],nt:=102,up:=[],own:=[(0,.box 44 [.d (.int .u8) a,.d (.int .u16) a_2,.d (.int .u16) a_3,.d (.int .u16) a_4,.d (.sl (.int .u16)) a_5,.d (.sl .bool) a_6]),(1,.box 114 [.d (.int .i64) s,.d (.int .i64) s_2,.d (.int .i64) s_3,.d .bool s_4,.d .bool s_5]),(2,.row (.int .u8) 5 out)],nx:=3,log:=[],ln:=0 }
def qnz_ (a a_2 a_3 a_4:Int) (a_5:List Int) (a_6:List Bool) (s s_2 s_3:Int) (s_4 s_5:Bool) (out:List Int):St:={ fr:=[(1,.pb 0 0),(4,.pb 1 0),(6,.row 2)],nt:=102,up:=[],own:=[(0,.box 44 [.d (.int .u8) a,.d (.int .u16) a_2,.d (.int .u16) a_3,.d (.int .u16) a_4,.d (.sl (.int .u16)) a_5,.d (.sl .bool) a_6]),(1,.box 114 [.d (.int .i64) s,.d (.int .i64) s_2,.d (.int .i64) s_3,.d .bool s_4,.d .bool s_5]),(2,.row (.int .u8) 5 out)],nx:=3,log:=[],ln:=0 }
def qmm_ (t43:Bool) (a a_2 a_3 a_4:Int) (a_5:List Int) (a_6:List Bool) (s s_2 s_3:Int) (s_4 s_5:Bool) (out:List Int):St:={ fr:=[(1,.pb 0 0),(4,.pb 1 0),(6,.row 2),(43,.d .bool t43)],nt:=102,up:=[],own:=[(0,.box 44 [.d (.int .u8) a,.d (.int .u16) a_2,.d (.int .u16) a_3,.d (.int .u16) a_4,.d (.sl (.int .u16)) a_5,.d (.sl .bool) a_6]),(1,.box 114 [.d (.int .i64) s,.d (.int .i64) s_2,.d (.int .i64) s_3,.d .bool s_4,.d .bool s_5]),(2,.row (.int .u8) 5 out)],nx:=3,log:=[],ln:=0 }
def qmt_ (out:List Int):St:={ fr:=[(6,.row 0)],nt:=102,up:=[],own:=[(0,.row (.int .u8) 5 out)],nx:=1,log:=[],ln:=0 }
def qwg_ (j2:Int->Int->Int->Int->List Int->List Bool->Int->Int->Int->Bool->Bool->List Int->Option (As [.sl (.int .u8),.int .i64])) (a a_2 a_3 a_4:Int) (a_5:List Int) (a_6:List Bool) (s s_2 s_3:Int) (s_4 s_5:Bool) (out:List Int):Option (As [.sl (.int .u8),.int .i64]) :=
 if s_4=true then Option.bind (q1z_ ([a_4,cvt .u16 (Int.ofNat (List.length a_5))],out,())) fun y=>j2 a a_2 a_3 a_4 a_5 a_6 s s_2 s_3 s_4 s_5 y.1 else j2 a a_2 a_3 a_4 a_5 a_6 s s_2 s_3 s_4 s_5 out
def qwm_ (j3:Bool->Int->Int->Int->Int->List Int->List Bool->Int->Int->Int->Bool->Bool->List Int->Option (As [.sl (.int .u8),.int .i64])) (a a_2 a_3 a_4:Int) (a_5:List Int) (a_6:List Bool) (s s_2 s_3:Int) (s_4 s_5:Bool) (out:List Int):Option (As [.sl (.int .u8),.int .i64]) :=
 if eqi a 5=true then Option.bind (at? a_6 0) fun y=>j3 y a a_2 a_3 a_4 a_5 a_6 s s_2 s_3 s_4 s_5 out else j3 false a a_2 a_3 a_4 a_5 a_6 s s_2 s_3 s_4 s_5 out
def qwh_ (j4:List Int->Option (As [.sl (.int .u8),.int .i64])) (t43:Bool) (a a_2 a_3 a_4:Int) (a_5:List Int) (a_6:List Bool) (s s_2 s_3:Int) (s_4 s_5:Bool) (out:List Int):Option (As [.sl (.int .u8),.int .i64]) :=
 if t43=true then Option.bind (q1z_ ([65280],out,())) fun y=>j4 y.1 else if eqi a 5=true then Option.bind (q1z_ ([0],out,())) fun y=>j4 y.1 else if eqi a 6=true then Option.bind (q1z_ (a_5,out,())) fun y=>j4 y.1 else if gt s_2 0=true then Option.bind (qlt_ (a_6,())) fun y=>need (small (List.length out + Nat.succ 0)) (need (small (List.length (out++[cvt .u8 (Int.ofNat (List.length y.1))]) + List.length y.1)) (j4 (out++[cvt .u8 (Int.ofNat (List.length y.1))]++y.1))) else if gt s_3 0=true then need (small (List.length out + Nat.succ 0)) (Option.bind (q1z_ (a_5,out++[cvt .u8 (mul .i64 2 (Int.ofNat (List.length a_5)))],())) fun y=>j4 y.1) else j4 out
def qx1_ (out:List Int):Option (As [.sl (.int .u8),.int .i64]) :=
 some (out,0,())
def qn1_ (j1:Int->Int->Int->Int->List Int->List Bool->Int->Int->Int->Bool->Bool->List Int->Option (As [.sl (.int .u8),.int .i64])) (a:Int×Int×Int×Int×List Int×List Bool):Option (As [.sl (.int .u8),.int .i64]) :=
 Option.bind (q9p_ (a,())) fun y=>if (!y.1)=true then some ([],12,()) else Option.bind (qc4_ (a.1,())) fun y=>Option.bind (q1z_ ([a.2.1],[a.1],())) fun y_1=>if gt y.1.1 0=true then Option.bind (q1z_ ([a.2.2.1],y_1.1,())) fun y_2=>j1 a.1 a.2.1 a.2.2.1 a.2.2.2.1 a.2.2.2.2.1 a.2.2.2.2.2 y.1.1 y.1.2.1 y.1.2.2.1 y.1.2.2.2.1 y.1.2.2.2.2 y_2.1 else j1 a.1 a.2.1 a.2.2.1 a.2.2.2.1 a.2.2.2.2.1 a.2.2.2.2.2 y.1.1 y.1.2.1 y.1.2.2.1 y.1.2.2.2.1 y.1.2.2.2.2 y_1.1
def qsc_ (out:List Int):Option (As [.sl (.int .u8),.int .i64]):=qx1_ out
def qrz_ (t43:Bool) (a a_2 a_3 a_4:Int) (a_5:List Int) (a_6:List Bool) (s s_2 s_3:Int) (s_4 s_5:Bool) (out:List Int):Option (As [.sl (.int .u8),.int .i64]):=qwh_ (qsc_) t43 a a_2 a_3 a_4 a_5 a_6 s s_2 s_3 s_4 s_5 out
def qse_ (a a_2 a_3 a_4:Int) (a_5:List Int) (a_6:List Bool) (s s_2 s_3:Int) (s_4 s_5:Bool) (out:List Int):Option (As [.sl (.int .u8),.int .i64]):=qwm_ (qrz_) a a_2 a_3 a_4 a_5 a_6 s s_2 s_3 s_4 s_5 out
def q5l_ (a a_2 a_3 a_4:Int) (a_5:List Int) (a_6:List Bool) (s s_2 s_3:Int) (s_4 s_5:Bool) (out:List Int):Option (As [.sl (.int .u8),.int .i64]):=qwg_ (qse_) a a_2 a_3 a_4 a_5 a_6 s s_2 s_3 s_4 s_5 out
def q3f_ (x:As [.pr (.int .u8) YTT4]):Option (As [.sl (.int .u8),.int .i64]):=qn1_ q5l_ x.1
theorem q16h_  (J out):pfn Tryz.prog q3j_ 6 18446744073709551616 (Ev.get q3k_) 13 q1y_ J 127 [] (qmt_ out)=qx1_ out:=by kernel_rfl
theorem q15v_  (J t43 a a_2 a_3 a_4 a_5 a_6 s s_2 s_3 s_4 s_5 out):pfn Tryz.prog q3j_ 6 18446744073709551616 (Ev.get q3k_) 13 q1y_ J 508 [] (qmm_ t43 a a_2 a_3 a_4 a_5 a_6 s s_2 s_3 s_4 s_5 out)=qwh_ (fun out=>J 127 [] (qmt_ out)) t43 a a_2 a_3 a_4 a_5 a_6 s s_2 s_3 s_4 s_5 out:=by kernel_rfl
theorem q16x_  (J a a_2 a_3 a_4 a_5 a_6 s s_2 s_3 s_4 s_5 out):pfn Tryz.prog q3j_ 6 18446744073709551616 (Ev.get q3k_) 13 q1y_ J 63 [] (qnz_ a a_2 a_3 a_4 a_5 a_6 s s_2 s_3 s_4 s_5 out)=qwm_ (fun t43 a a_2 a_3 a_4 a_5 a_6 s s_2 s_3 s_4 s_5 out=>J 508 [] (qmm_ t43 a a_2 a_3 a_4 a_5 a_6 s s_2 s_3 s_4 s_5 out)) a a_2 a_3 a_4 a_5 a_6 s s_2 s_3 s_4 s_5 out:=by kernel_rfl
theorem q186_  (J a a_2 a_3 a_4 a_5 a_6 s s_2 s_3 s_4 s_5 out):pfn Tryz.prog q3j_ 6 18446744073709551616 (Ev.get q3k_) 13 q1y_ J 31 [] (qmj_ a a_2 a_3 a_4 a_5 a_6 s s_2 s_3 s_4 s_5 out)=qwg_ (fun a a_2 a_3 a_4 a_5 a_6 s s_2 s_3 s_4 s_5 out=>J 63 [] (qnz_ a a_2 a_3 a_4 a_5 a_6 s s_2 s_3 s_4 s_5 out)) a a_2 a_3 a_4 a_5 a_6 s s_2 s_3 s_4 s_5 out:=by kernel_rfl
theorem q182_ (J:Orc (As [.sl (.int .u8),.int .i64])) (x:As [.pr (.int .u8) YTT4]):rfn Tryz.prog q3j_ 6 18446744073709551616 (Ev.get q3k_) 13 q1y_ J x=qn1_ (fun a a_2 a_3 a_4 a_5 a_6 s s_2 s_3 s_4 s_5 out=>J 31 [] (qmj_ a a_2 a_3 a_4 a_5 a_6 s s_2 s_3 s_4 s_5 out)) x.1:=by kernel_rfl
theorem q165_  (out):jfn Tryz.prog q3j_ 6 18446744073709551616 (Ev.get q3k_) 13 q1y_ 127 [] (qmt_ out)=qsc_ out:=by
 rw [q6_ (by decide)]
 rw [q16h_]
 rfl
theorem q18i_  (t43 a a_2 a_3 a_4 a_5 a_6 s s_2 s_3 s_4 s_5 out):jfn Tryz.prog q3j_ 6 18446744073709551616 (Ev.get q3k_) 13 q1y_ 508 [] (qmm_ t43 a a_2 a_3 a_4 a_5 a_6 s s_2 s_3 s_4 s_5 out)=qrz_ t43 a a_2 a_3 a_4 a_5 a_6 s s_2 s_3 s_4 s_5 out:=by
 rw [q6_ (by decide)]
 have e4:(fun out=>(jfn Tryz.prog q3j_ 6 18446744073709551616 (Ev.get q3k_) 13 q1y_) 127 [] (qmt_ out))=qsc_:=funext fun out=>q165_ out
 rw [q15v_,e4]
 rfl
theorem q18e_  (a a_2 a_3 a_4 a_5 a_6 s s_2 s_3 s_4 s_5 out):jfn Tryz.prog q3j_ 6 18446744073709551616 (Ev.get q3k_) 13 q1y_ 63 [] (qnz_ a a_2 a_3 a_4 a_5 a_6 s s_2 s_3 s_4 s_5 out)=qse_ a a_2 a_3 a_4 a_5 a_6 s s_2 s_3 s_4 s_5 out:=by
 rw [q6_ (by decide)]
 have e3:(fun t43 a a_2 a_3 a_4 a_5 a_6 s s_2 s_3 s_4 s_5 out=>(jfn Tryz.prog q3j_ 6 18446744073709551616 (Ev.get q3k_) 13 q1y_) 508 [] (qmm_ t43 a a_2 a_3 a_4 a_5 a_6 s s_2 s_3 s_4 s_5 out))=qrz_:=by funext t43 a a_2 a_3 a_4 a_5 a_6 s s_2 s_3 s_4 s_5 out; exact q18i_ t43 a a_2 a_3 a_4 a_5 a_6 s s_2 s_3 s_4 s_5 out
 rw [q16x_,e3]
 rfl
theorem q184_  (a a_2 a_3 a_4 a_5 a_6 s s_2 s_3 s_4 s_5 out):jfn Tryz.prog q3j_ 6 18446744073709551616 (Ev.get q3k_) 13 q1y_ 31 [] (qmj_ a a_2 a_3 a_4 a_5 a_6 s s_2 s_3 s_4 s_5 out)=q5l_ a a_2 a_3 a_4 a_5 a_6 s s_2 s_3 s_4 s_5 out:=by
 rw [q6_ (by decide)]
 have e2:(fun a a_2 a_3 a_4 a_5 a_6 s s_2 s_3 s_4 s_5 out=>(jfn Tryz.prog q3j_ 6 18446744073709551616 (Ev.get q3k_) 13 q1y_) 63 [] (qnz_ a a_2 a_3 a_4 a_5 a_6 s s_2 s_3 s_4 s_5 out))=qse_:=by funext a a_2 a_3 a_4 a_5 a_6 s s_2 s_3 s_4 s_5 out; exact q18e_ a a_2 a_3 a_4 a_5 a_6 s s_2 s_3 s_4 s_5 out
 rw [q186_,e2]
 rfl
theorem q19q_ (x:As [.pr (.int .u8) YTT4]):evT Tryz.prog q3j_ 6 18446744073709551616 (Ev.get q3k_) 13 q1y_ x=q3f_ x:=by
 have e1:(fun a a_2 a_3 a_4 a_5 a_6 s s_2 s_3 s_4 s_5 out=>(jfn Tryz.prog q3j_ 6 18446744073709551616 (Ev.get q3k_) 13 q1y_) 31 [] (qmj_ a a_2 a_3 a_4 a_5 a_6 s s_2 s_3 s_4 s_5 out))=q5l_:=by funext a a_2 a_3 a_4 a_5 a_6 s s_2 s_3 s_4 s_5 out; exact q184_ a a_2 a_3 a_4 a_5 a_6 s s_2 s_3 s_4 s_5 out
 rw [qi_,q182_,e1]
 rfl
theorem qnv_:CtOk Tryz.prog (fun _=>True) 13 ⟨q1y_,q3f_⟩:=qc_ (q0_ qs6_ (q0_ qng_ (q0_ q129_ (q0_ qy7_ q3_)))) q19q_
@[reducible] def qp9_:Sh:=⟨[.d YTT8],[],[.pr (.int .i64) (.sl (.int .u16))],[.d (.bool)],[],0,[.bool]⟩
def qrt_ (x:Int×List Int):Option (As [.bool]) :=
 if le (Int.ofNat (List.length x.2)) 14=true then if ge x.1 0=true then if lt x.1 64=true then some (le (add .i64 x.1 (Int.ofNat (List.length x.2))) 64,()) else some (false,()) else some (false,()) else some (false,())
def qa8_ (x:As [.pr (.int .i64) (.sl (.int .u16))]):Option (As [.bool]):=qrt_ x.1
theorem qnc_:CtOk Tryz.prog (fun _=>True) 76 ⟨qp9_,qa8_⟩:=ctn q3_ 6 fun J x=>by kernel_rfl
@[reducible] def q3i_:Sh:=⟨[.d YTT8],[],[.pr (.int .i64) (.sl (.int .u16))],[.d (.sl (.int .u16))],[],0,[.sl (.int .u16)]⟩
def q68_:Env:=(cts [(76,(⟨qp9_,qa8_⟩:Ct))])
def q69_:List (Nat×Hint):=[(7,⟨[],[3]⟩),(60,⟨[],[3]⟩)]
def qh6_ (l:List Int):St:={ fr:=[(3,.row 0)],nt:=28,up:=[],own:=[(0,.row (.int .u16) 23 l)],nx:=1,log:=[],ln:=0 }
def q8x_ (l:List Int):St:={ fr:=[(3,.row 0)],nt:=28,up:=[],own:=[(0,.row (.int .u16) 23 l)],nx:=1,log:=[],ln:=0 }
def qsx_ (j2:List Int->Option (As [.sl (.int .u16)])) (l:List Int):Option (As [.sl (.int .u16)]) :=
 j2 l
def qhh_ (self2:List Int->Option (As [.sl (.int .u16)])) (l:List Int):Option (As [.sl (.int .u16)]) :=
 if lt (Int.ofNat (List.length l)) 16=true then need (small (List.length l + 1)) (self2 (l++[0])) else some (l,())
def qhd_ (j1:List Int->Option (As [.sl (.int .u16)])) (x:Int×List Int):Option (As [.sl (.int .u16)]) :=
 Option.bind (qa8_ (x,())) fun y=>if y.1=true then need (small (0 + Nat.succ (Nat.succ 0))) (need (small (Nat.succ (Nat.succ 0) + List.length x.2)) (j1 (cvt .u16 x.1::cvt .u16 (Int.ofNat (List.length x.2))::x.2))) else j1 (List.replicate 0 0)
def qcp_ (l:List Int):Option (As [.sl (.int .u16)]) :=
 loopF (fun (self:(List Int)->Option (As [.sl (.int .u16)])) (s:(List Int))=>qhh_ (fun l=>self (l)) s) 18446744073709551616 (l)
def qc9_ (l:List Int):Option (As [.sl (.int .u16)]):=qsx_ (qcp_) l
def q8s_ (x:As [.pr (.int .i64) (.sl (.int .u16))]):Option (As [.sl (.int .u16)]):=qhd_ qc9_ x.1
theorem q10e_  (J w2 l):pfn Tryz.prog q68_ 6 18446744073709551616 (Ev.get q69_) 73 q3i_ J 60 [w2] (q8x_ l)=qhh_ (fun l=>w2 (q8x_ l)) l:=by kernel_rfl
theorem q10r_  (J l):pfn Tryz.prog q68_ 6 18446744073709551616 (Ev.get q69_) 73 q3i_ J 7 [] (qh6_ l)=qsx_ (fun l=>J 60 [] (q8x_ l)) l:=by kernel_rfl
theorem q10j_ (J:Orc (As [.sl (.int .u16)])) (x:As [.pr (.int .i64) (.sl (.int .u16))]):rfn Tryz.prog q68_ 6 18446744073709551616 (Ev.get q69_) 73 q3i_ J x=qhd_ (fun l=>J 7 [] (qh6_ l)) x.1:=by kernel_rfl
theorem q111_  (l):jfn Tryz.prog q68_ 6 18446744073709551616 (Ev.get q69_) 73 q3i_ 60 [] (q8x_ l)=qcp_ l:=by
 rw [q6_ (by decide)]
 rw [qn_ (by kernel_rfl)]
 refine qh_ (σ:=(List Int)) (mk:=fun s=>q8x_ s) (fun w2 s=>?_) 18446744073709551616 (l)
 refine (q10e_ _ w2 s).trans ?_
 rfl
theorem q10w_  (l):jfn Tryz.prog q68_ 6 18446744073709551616 (Ev.get q69_) 73 q3i_ 7 [] (qh6_ l)=qc9_ l:=by
 rw [q6_ (by decide)]
 have e2:(fun l=>(jfn Tryz.prog q68_ 6 18446744073709551616 (Ev.get q69_) 73 q3i_) 60 [] (q8x_ l))=qcp_:=funext fun l=>q111_ l
 rw [q10r_,e2]
 rfl
theorem q12z_ (x:As [.pr (.int .i64) (.sl (.int .u16))]):evT Tryz.prog q68_ 6 18446744073709551616 (Ev.get q69_) 73 q3i_ x=q8s_ x:=by
 have e1:(fun l=>(jfn Tryz.prog q68_ 6 18446744073709551616 (Ev.get q69_) 73 q3i_) 7 [] (qh6_ l))=qc9_:=funext fun l=>q10w_ l
 rw [qi_,q10j_,e1]
 rfl
theorem qm4_:CtOk Tryz.prog (fun _=>True) 73 ⟨q3i_,q8s_⟩:=qc_ (q0_ qnc_ q3_) q12z_
@[reducible] def qpg_:Sh:=⟨[.d YTT8],[],[.pr (.int .i64) (.sl (.int .u16))],[.d YTT8],[],0,[.pr (.int .i64) (.sl (.int .u16))]⟩
def qrm_ (x:Int×List Int):Option (As [.pr (.int .i64) (.sl (.int .u16))]) :=
 Option.bind (qf_ (x.2,())) fun y=>some ((x.1,y.1),())
def qez_ (x:As [.pr (.int .i64) (.sl (.int .u16))]):Option (As [.pr (.int .i64) (.sl (.int .u16))]):=qrm_ x.1
theorem qs0_:CtOk Tryz.prog (fun _=>True) 79 ⟨qpg_,qez_⟩:=ctn (q0_ q54_ q3_) 6 fun J x=>by kernel_rfl
@[reducible] def q36_:Sh:=⟨[.d (.sl (.int .u16)),.d (.sl (.int .u16))],[],[.sl (.int .u16),.sl (.int .u16)],[.d (.bool)],[],0,[.bool]⟩
def q5m_:Env:=(cts [])
def q5e_:List (Nat×Hint):=[(58,⟨[],[0,1,12,13]⟩)]
def q3s_ (s1 s2:List Int) (t12 t13:Int):St:={ fr:=[(0,.d (.sl (.int .u16)) s1),(1,.d (.sl (.int .u16)) s2),(12,.d (.int .i64) t12),(13,.d (.int .i64) t13)],nt:=26,up:=[],own:=[],nx:=0,log:=[],ln:=0 }
def q3r_ (self1:List Int->List Int->Int->Int->Option (As [.bool])) (s1 s2:List Int) (t12 t13:Int):Option (As [.bool]) :=
 if lt t13 t12=true then Option.bind (at? s1 t13) fun y=>Option.bind (at? s2 t13) fun y_1=>if nei y y_1=true then some (false,()) else self1 s1 s2 t12 (add .i64 t13 1) else some (true,())
def q7t_ (j1:List Int->List Int->Int->Int->Option (As [.bool])) (s1 s2:List Int):Option (As [.bool]) :=
 if nei (Int.ofNat (List.length s1)) (Int.ofNat (List.length s2))=true then some (false,()) else j1 s1 s2 (Int.ofNat (List.length s1)) 0
def q53_ (s1 s2:List Int) (t12 t13:Int):Option (As [.bool]) :=
 loopF (fun (self:(List Int)×(List Int)×(Int)×(Int)->Option (As [.bool])) (s:(List Int)×(List Int)×(Int)×(Int))=>q3r_ (fun s1 s2 t12 t13=>self (s1,s2,t12,t13)) s.1 s.2.1 s.2.2.1 s.2.2.2) 18446744073709551616 (s1,s2,t12,t13)
def q30_ (x:As [.sl (.int .u16),.sl (.int .u16)]):Option (As [.bool]):=q7t_ q53_ x.1 x.2.1
theorem qsl_  (J w1 s1 s2 t12 t13):pfn Tryz.prog q5m_ 6 18446744073709551616 (Ev.get q5e_) 80 q36_ J 58 [w1] (q3s_ s1 s2 t12 t13)=q3r_ (fun s1 s2 t12 t13=>w1 (q3s_ s1 s2 t12 t13)) s1 s2 t12 t13:=by kernel_rfl
theorem qso_ (J:Orc (As [.bool])) (x:As [.sl (.int .u16),.sl (.int .u16)]):rfn Tryz.prog q5m_ 6 18446744073709551616 (Ev.get q5e_) 80 q36_ J x=q7t_ (fun s1 s2 t12 t13=>J 58 [] (q3s_ s1 s2 t12 t13)) x.1 x.2.1:=by kernel_rfl
theorem qsm_  (s1 s2 t12 t13):jfn Tryz.prog q5m_ 6 18446744073709551616 (Ev.get q5e_) 80 q36_ 58 [] (q3s_ s1 s2 t12 t13)=q53_ s1 s2 t12 t13:=by
 rw [q6_ (by decide)]
 rw [qn_ (by kernel_rfl)]
 refine qh_ (σ:=(List Int)×(List Int)×(Int)×(Int)) (mk:=fun s=>q3s_ s.1 s.2.1 s.2.2.1 s.2.2.2) (fun w1 s=>?_) 18446744073709551616 (s1,s2,t12,t13)
 refine (qsl_ _ w1 s.1 s.2.1 s.2.2.1 s.2.2.2).trans ?_
 rfl
theorem qt4_ (x:As [.sl (.int .u16),.sl (.int .u16)]):evT Tryz.prog q5m_ 6 18446744073709551616 (Ev.get q5e_) 80 q36_ x=q30_ x:=by
 have e1:(fun s1 s2 t12 t13=>(jfn Tryz.prog q5m_ 6 18446744073709551616 (Ev.get q5e_) 80 q36_) 58 [] (q3s_ s1 s2 t12 t13))=q53_:=by funext s1 s2 t12 t13; exact qsm_ s1 s2 t12 t13
 rw [qi_,qso_,e1]
 rfl
theorem qjj_:CtOk Tryz.prog (fun _=>True) 80 ⟨q36_,q30_⟩:=qc_ q3_ qt4_
@[reducible] def qrp_:Sh:=⟨[.d (.int .u16),.d (.int .u16)],[],[.int .u16,.int .u16],[.d (.int .u32)],[],0,[.int .u32]⟩
def qqr_ (high low:Int):Option (As [.int .u32]) :=
 some (Sx.bor .u32 (Sx.shl .u32 (cvt .u32 high) 16) (cvt .u32 low),())
def qfq_ (x:As [.int .u16,.int .u16]):Option (As [.int .u32]):=qqr_ x.1 x.2.1
theorem qv9_:CtOk Tryz.prog (fun _=>True) 81 ⟨qrp_,qfq_⟩:=ctn q3_ 6 fun J x=>by kernel_rfl
@[reducible] def q4p_:Sh:=⟨[.d (.sl (.int .u16))],[],[.sl (.int .u16)],[.d (.int .u16),.d (.int .u32),.d (.int .i64),.d YTT8,.d (.int .i64)],[],0,[.int .u16,.int .u32,.int .i64,.pr (.int .i64) (.sl (.int .u16)),.int .i64]⟩
def q8q_:Env:=(cts [(73,(⟨q3i_,q8s_⟩:Ct)),(76,(⟨qp9_,qa8_⟩:Ct)),(79,(⟨qpg_,qez_⟩:Ct)),(80,(⟨q36_,q30_⟩:Ct)),(81,(⟨qrp_,qfq_⟩:Ct))])
def q8l_:List (Nat×Hint):=[(126,⟨[],[0,5,10,53]⟩),(6,⟨[],[0,5,19,47,48,49,50,51,52]⟩)]
def qkg_ (w:List Int) (t19:Bool) (t5:Int):St:={ fr:=[(0,.d (.sl (.int .u16)) w),(5,.pb 0 0),(19,.d .bool t19)],nt:=70,up:=[],own:=[(0,.box 30 [.d (.int .i64) t5,.k (Go.Value.slice Option.none 0 0)])],nx:=1,log:=[],ln:=0 }
def qkb_ (w:List Int) (t53:Bool) (t5:Int) (x:Int×List Int):St:={ fr:=[(0,.d (.sl (.int .u16)) w),(5,.pb 0 0),(10,.pb 1 0),(53,.d .bool t53)],nt:=70,up:=[],own:=[(0,.box 30 [.d (.int .i64) t5,.k (Go.Value.slice Option.none 0 0)]),(1,.box 30 [.d (.int .i64) x.1,.d (.sl (.int .u16)) x.2])],nx:=2,log:=[],ln:=0 }
def qlh_ (j2:List Int->Bool->Int->Int×List Int->Option (As [.int .u16,.int .u32,.int .i64,.pr (.int .i64) (.sl (.int .u16)),.int .i64])) (w:List Int) (t19:Bool) (t5:Int):Option (As [.int .u16,.int .u32,.int .i64,.pr (.int .i64) (.sl (.int .u16)),.int .i64]) :=
 if t19=true then some (0,0,0,(0,[]),2,()) else Option.bind (at? w 4) fun y=>Option.bind (at? w 5) fun y_1=>Option.bind (cut w 6 (Int.ofNat (List.length w))) fun y_2=>if gt (cvt .i64 y_1) (Int.ofNat (List.length y_2))=true then some (0,0,0,(0,[]),20,()) else Option.bind (cut y_2 0 (cvt .i64 y_1)) fun y_3=>need (le (cvt .i64 y_1) (cvt .i64 y_1)) (need (le (cvt .i64 y_1) (Int.ofNat (List.length y_2))) (Option.bind (qez_ ((cvt .i64 y,y_3),())) fun y=>Option.bind (qa8_ (y.1,())) fun y_4=>if (!y_4.1)=true then j2 w true t5 y.1 else Option.bind (cut w 4 (Int.ofNat (List.length w))) fun y_5=>Option.bind (q8s_ (y.1,())) fun y_6=>Option.bind (q30_ (y_6.1,y_5,())) fun y_7=>j2 w (!y_7.1) t5 y.1))
def qkx_ (w:List Int) (t53:Bool) (t5:Int) (x:Int×List Int):Option (As [.int .u16,.int .u32,.int .i64,.pr (.int .i64) (.sl (.int .u16)),.int .i64]) :=
 if t53=true then some (0,0,0,(0,[]),20,()) else Option.bind (at? w 0) fun y=>Option.bind (at? w 1) fun y_1=>Option.bind (at? w 2) fun y_2=>Option.bind (at? w 3) fun y_3=>Option.bind (qfq_ (y_1,y_2,())) fun y_4=>some (y,y_4.1,cvt .i64 y_3,x,0,())
def ql6_ (j1:List Int->Bool->Int->Option (As [.int .u16,.int .u32,.int .i64,.pr (.int .i64) (.sl (.int .u16)),.int .i64])) (w:List Int):Option (As [.int .u16,.int .u32,.int .i64,.pr (.int .i64) (.sl (.int .u16)),.int .i64]) :=
 if nei (Int.ofNat (List.length w)) 20=true then j1 w true 0 else Option.bind (at? w 3) fun y=>j1 w (ge y 8) 0
def qga_ (w:List Int) (t53:Bool) (t5:Int) (x:Int×List Int):Option (As [.int .u16,.int .u32,.int .i64,.pr (.int .i64) (.sl (.int .u16)),.int .i64]):=qkx_ w t53 t5 x
def ql2_ (w:List Int) (t19:Bool) (t5:Int):Option (As [.int .u16,.int .u32,.int .i64,.pr (.int .i64) (.sl (.int .u16)),.int .i64]):=qlh_ (qga_) w t19 t5
def q89_ (x:As [.sl (.int .u16)]):Option (As [.int .u16,.int .u32,.int .i64,.pr (.int .i64) (.sl (.int .u16)),.int .i64]):=ql6_ ql2_ x.1
theorem q13s_  (J w t53 t5 x):pfn Tryz.prog q8q_ 6 18446744073709551616 (Ev.get q8l_) 24 q4p_ J 126 [] (qkb_ w t53 t5 x)=qkx_ w t53 t5 x:=by kernel_rfl
theorem q14a_  (J w t19 t5):pfn Tryz.prog q8q_ 6 18446744073709551616 (Ev.get q8l_) 24 q4p_ J 6 [] (qkg_ w t19 t5)=qlh_ (fun w t53 t5 x=>J 126 [] (qkb_ w t53 t5 x)) w t19 t5:=by kernel_rfl
theorem q13p_ (J:Orc (As [.int .u16,.int .u32,.int .i64,.pr (.int .i64) (.sl (.int .u16)),.int .i64])) (x:As [.sl (.int .u16)]):rfn Tryz.prog q8q_ 6 18446744073709551616 (Ev.get q8l_) 24 q4p_ J x=ql6_ (fun w t19 t5=>J 6 [] (qkg_ w t19 t5)) x.1:=by kernel_rfl
theorem q13q_  (w t53 t5 x):jfn Tryz.prog q8q_ 6 18446744073709551616 (Ev.get q8l_) 24 q4p_ 126 [] (qkb_ w t53 t5 x)=qga_ w t53 t5 x:=by
 rw [q6_ (by decide)]
 rw [q13s_]
 rfl
theorem q15d_  (w t19 t5):jfn Tryz.prog q8q_ 6 18446744073709551616 (Ev.get q8l_) 24 q4p_ 6 [] (qkg_ w t19 t5)=ql2_ w t19 t5:=by
 rw [q6_ (by decide)]
 have e2:(fun w t53 t5 x=>(jfn Tryz.prog q8q_ 6 18446744073709551616 (Ev.get q8l_) 24 q4p_) 126 [] (qkb_ w t53 t5 x))=qga_:=by funext w t53 t5 x; exact q13q_ w t53 t5 x
 rw [q14a_,e2]
 rfl
theorem q18o_ (x:As [.sl (.int .u16)]):evT Tryz.prog q8q_ 6 18446744073709551616 (Ev.get q8l_) 24 q4p_ x=q89_ x:=by
 have e1:(fun w t19 t5=>(jfn Tryz.prog q8q_ 6 18446744073709551616 (Ev.get q8l_) 24 q4p_) 6 [] (qkg_ w t19 t5))=ql2_:=by funext w t19 t5; exact q15d_ w t19 t5
 rw [qi_,q13p_,e1]
 rfl
theorem qva_:CtOk Tryz.prog (fun _=>True) 24 ⟨q4p_,q89_⟩:=qc_ (q0_ qm4_ (q0_ qnc_ (q0_ qs0_ (q0_ qjj_ (q0_ qv9_ q3_))))) q18o_
@[reducible] def q44_:Sh:=⟨[],[],[],[.d (.pr YTT1 (.pr YTT1 (.pr YTT1 YTT1)))],[],0,[.pr YTT1 (.pr YTT1 (.pr YTT1 YTT1))]⟩
def q7o_:Env:=(cts [])
def q7q_:List (Nat×Hint):=[(7,⟨[],[0,1]⟩),(58,⟨[],[0,1,8]⟩)]
def qag_ (t8:Int) (words:List YTT5):St:={ fr:=[(0,.pb 0 0),(1,.row 1),(8,.d (.int .i64) t8)],nt:=27,up:=[],own:=[(0,.box 101 [.k (Go.Value.slice Option.none 0 0),.k (Go.Value.slice Option.none 0 0),.k (Go.Value.slice Option.none 0 0),.k (Go.Value.slice Option.none 0 0)]),(1,.row (.pr (.int .i64) YTT12) 168 words)],nx:=2,log:=[],ln:=0 }
def qio_ (words:List YTT5):St:={ fr:=[(0,.pb 0 0),(1,.row 1)],nt:=27,up:=[],own:=[(0,.box 101 [.k (Go.Value.slice Option.none 0 0),.k (Go.Value.slice Option.none 0 0),.k (Go.Value.slice Option.none 0 0),.k (Go.Value.slice Option.none 0 0)]),(1,.row (.pr (.int .i64) YTT12) 168 words)],nx:=2,log:=[],ln:=0 }
def qu4_ (j2:List YTT5->Option (As [.pr YTT1 (.pr YTT1 (.pr YTT1 YTT1))])) (self1:Int->List YTT5->Option (As [.pr YTT1 (.pr YTT1 (.pr YTT1 YTT1))])) (t8:Int) (words:List YTT5):Option (As [.pr YTT1 (.pr YTT1 (.pr YTT1 YTT1))]) :=
 if lt t8 8=true then need (small (List.length words + Nat.succ 0)) (self1 (add .i64 t8 1) (words++[(add .i64 512 (mul .i64 t8 32),20,true,false,false)])) else j2 words
def qtx_ (words:List YTT5):Option (As [.pr YTT1 (.pr YTT1 (.pr YTT1 YTT1))]) :=
 some (([(0,16,true,true,false)],[(0,8,true,false,false)],words,[(0,8,true,false,false)]),())
def qth_ (j1:Int->List YTT5->Option (As [.pr YTT1 (.pr YTT1 (.pr YTT1 YTT1))])):Option (As [.pr YTT1 (.pr YTT1 (.pr YTT1 YTT1))]) :=
 j1 0 [(0,64,true,false,false),(256,8,true,false,false),(272,8,false,true,true),(288,20,false,true,true)]
def qol_ (words:List YTT5):Option (As [.pr YTT1 (.pr YTT1 (.pr YTT1 YTT1))]):=qtx_ words
def qp1_ (t8:Int) (words:List YTT5):Option (As [.pr YTT1 (.pr YTT1 (.pr YTT1 YTT1))]) :=
 loopF (fun (self:(Int)×(List YTT5)->Option (As [.pr YTT1 (.pr YTT1 (.pr YTT1 YTT1))])) (s:(Int)×(List YTT5))=>qu4_ (qol_) (fun t8 words=>self (t8,words)) s.1 s.2) 18446744073709551616 (t8,words)
def q4u_ (x:As []):Option (As [.pr YTT1 (.pr YTT1 (.pr YTT1 YTT1))]):=qth_ qp1_
theorem q12c_  (J words):pfn Tryz.prog q7o_ 6 18446744073709551616 (Ev.get q7q_) 49 q44_ J 7 [] (qio_ words)=qtx_ words:=by kernel_rfl
theorem q11d_  (J w1 t8 words):pfn Tryz.prog q7o_ 6 18446744073709551616 (Ev.get q7q_) 49 q44_ J 58 [w1] (qag_ t8 words)=qu4_ (fun words=>J 7 [] (qio_ words)) (fun t8 words=>w1 (qag_ t8 words)) t8 words:=by kernel_rfl
theorem q12l_ (J:Orc (As [.pr YTT1 (.pr YTT1 (.pr YTT1 YTT1))])) (x:As []):rfn Tryz.prog q7o_ 6 18446744073709551616 (Ev.get q7q_) 49 q44_ J x=qth_ (fun t8 words=>J 58 [] (qag_ t8 words)):=by kernel_rfl
theorem q11u_  (words):jfn Tryz.prog q7o_ 6 18446744073709551616 (Ev.get q7q_) 49 q44_ 7 [] (qio_ words)=qol_ words:=by
 rw [q6_ (by decide)]
 rw [q12c_]
 rfl
theorem q11e_  (t8 words):jfn Tryz.prog q7o_ 6 18446744073709551616 (Ev.get q7q_) 49 q44_ 58 [] (qag_ t8 words)=qp1_ t8 words:=by
 rw [q6_ (by decide)]
 rw [qn_ (by kernel_rfl)]
 refine qh_ (σ:=(Int)×(List YTT5)) (mk:=fun s=>qag_ s.1 s.2) (fun w1 s=>?_) 18446744073709551616 (t8,words)
 have e2:(fun words=>(jfn Tryz.prog q7o_ 6 18446744073709551616 (Ev.get q7q_) 49 q44_) 7 [] (qio_ words))=qol_:=funext fun words=>q11u_ words
 refine (q11d_ _ w1 s.1 s.2).trans ?_
 rw [e2]
theorem q14w_ (x:As []):evT Tryz.prog q7o_ 6 18446744073709551616 (Ev.get q7q_) 49 q44_ x=q4u_ x:=by
 have e1:(fun t8 words=>(jfn Tryz.prog q7o_ 6 18446744073709551616 (Ev.get q7q_) 49 q44_) 58 [] (qag_ t8 words))=qp1_:=by funext t8 words; exact q11e_ t8 words
 rw [qi_,q12l_,e1]
 rfl
theorem qtu_:CtOk Tryz.prog (fun _=>True) 49 ⟨q44_,q4u_⟩:=qc_ q3_ q14w_
@[reducible] def qku_:Sh:=⟨[.d (.sl (.int .u8)),.d (.sl (.int .u8))],[],[.sl (.int .u8),.sl (.int .u8)],[.d (.bool)],[],0,[.bool]⟩
def q12v_ (a b:List Int):Option (As [.bool]) :=
 some (eqs (Sx.toS a) (Sx.toS b),())
def qw_ (x:As [.sl (.int .u8),.sl (.int .u8)]):Option (As [.bool]):=q12v_ x.1 x.2.1
theorem qot_:CtOk Tryz.prog (fun _=>True) 66 ⟨qku_,qw_⟩:=ctn q3_ 6 fun J x=>by kernel_rfl
@[reducible] def qce_:Sh:=⟨[.d (.sl (.int .u8))],[],[.sl (.int .u8)],[.d (.sl (.int .u16))],[],0,[.sl (.int .u16)]⟩
def qo5_:Env:=(cts [])
def qm3_:List (Nat×Hint):=[(58,⟨[],[0,3,10,11]⟩)]
def qgw_ (b:List Int) (t10 t11:Int) (l:List Int):St:={ fr:=[(0,.d (.sl (.int .u8)) b),(3,.row 0),(10,.d (.int .i64) t10),(11,.d (.int .i64) t11)],nt:=34,up:=[],own:=[(0,.row (.int .u16) 23 l)],nx:=1,log:=[],ln:=0 }
def qgy_ (self1:List Int->Int->Int->List Int->Option (As [.sl (.int .u16)])) (b:List Int) (t10 t11:Int) (l:List Int):Option (As [.sl (.int .u16)]) :=
 if lt t11 t10=true then Option.bind (at? b (mul .i64 2 t11)) fun y=>Option.bind (at? b (add .i64 (mul .i64 2 t11) 1)) fun y_1=>Option.bind (at? l t11) fun x=>Option.bind (at? l t11) fun x=>self1 b t10 (add .i64 t11 1) (List.set l (Int.toNat t11) (Sx.bor .u16 (Sx.shl .u16 (cvt .u16 y) 8) (cvt .u16 y_1))) else some (l,())
def qpa_ (j1:List Int->Int->Int->List Int->Option (As [.sl (.int .u16)])) (b:List Int):Option (As [.sl (.int .u16)]) :=
 need (ge (quo .i64 (Int.ofNat (List.length b)) 2) 0) (need (Ev.capOk (quo .i64 (Int.ofNat (List.length b)) 2) (quo .i64 (Int.ofNat (List.length b)) 2)) (need (small (Int.toNat (quo .i64 (Int.ofNat (List.length b)) 2))) (j1 b (Int.ofNat (List.length (List.replicate (α:=Int) (Int.toNat (quo .i64 (Int.ofNat (List.length b)) 2)) 0))) 0 (List.replicate (Int.toNat (quo .i64 (Int.ofNat (List.length b)) 2)) 0))))
def qjq_ (b:List Int) (t10 t11:Int) (l:List Int):Option (As [.sl (.int .u16)]) :=
 loopF (fun (self:(List Int)×(Int)×(Int)×(List Int)->Option (As [.sl (.int .u16)])) (s:(List Int)×(Int)×(Int)×(List Int))=>qgy_ (fun b t10 t11 l=>self (b,t10,t11,l)) s.1 s.2.1 s.2.2.1 s.2.2.2) 18446744073709551616 (b,t10,t11,l)
def qb4_ (x:As [.sl (.int .u8)]):Option (As [.sl (.int .u16)]):=qpa_ qjq_ x.1
theorem q1a2_  (J w1 b t10 t11 l):pfn Tryz.prog qo5_ 6 18446744073709551616 (Ev.get qm3_) 201 qce_ J 58 [w1] (qgw_ b t10 t11 l)=qgy_ (fun b t10 t11 l=>w1 (qgw_ b t10 t11 l)) b t10 t11 l:=by kernel_rfl
theorem q19z_ (J:Orc (As [.sl (.int .u16)])) (x:As [.sl (.int .u8)]):rfn Tryz.prog qo5_ 6 18446744073709551616 (Ev.get qm3_) 201 qce_ J x=qpa_ (fun b t10 t11 l=>J 58 [] (qgw_ b t10 t11 l)) x.1:=by kernel_rfl
theorem q19l_  (b t10 t11 l):jfn Tryz.prog qo5_ 6 18446744073709551616 (Ev.get qm3_) 201 qce_ 58 [] (qgw_ b t10 t11 l)=qjq_ b t10 t11 l:=by
 rw [q6_ (by decide)]
 rw [qn_ (by kernel_rfl)]
 refine qh_ (σ:=(List Int)×(Int)×(Int)×(List Int)) (mk:=fun s=>qgw_ s.1 s.2.1 s.2.2.1 s.2.2.2) (fun w1 s=>?_) 18446744073709551616 (b,t10,t11,l)
 refine (q1a2_ _ w1 s.1 s.2.1 s.2.2.1 s.2.2.2).trans ?_
 rfl
theorem q1ae_ (x:As [.sl (.int .u8)]):evT Tryz.prog qo5_ 6 18446744073709551616 (Ev.get qm3_) 201 qce_ x=qb4_ x:=by
 have e1:(fun b t10 t11 l=>(jfn Tryz.prog qo5_ 6 18446744073709551616 (Ev.get qm3_) 201 qce_) 58 [] (qgw_ b t10 t11 l))=qjq_:=by funext b t10 t11 l; exact q19l_ b t10 t11 l
 rw [qi_,q19z_,e1]
 rfl
theorem qyc_:CtOk Tryz.prog (fun _=>True) 201 ⟨qce_,qb4_⟩:=qc_ q3_ q1ae_
@[reducible] def qaj_:Sh:=⟨[.d (.sl (.int .u8))],[],[.sl (.int .u8)],[.d (.sl .bool)],[],0,[.sl .bool]⟩
def qi9_:Env:=(cts [])
def qi2_:List (Nat×Hint):=[(58,⟨[],[0,3,10,11]⟩)]
def qbt_ (b:List Int) (t10 t11:Int) (out:List Bool):St:={ fr:=[(0,.d (.sl (.int .u8)) b),(3,.row 0),(10,.d (.int .i64) t10),(11,.d (.int .i64) t11)],nt:=29,up:=[],own:=[(0,.row .bool 4 out)],nx:=1,log:=[],ln:=0 }
def qbo_ (self1:List Int->Int->Int->List Bool->Option (As [.sl .bool])) (b:List Int) (t10 t11:Int) (out:List Bool):Option (As [.sl .bool]) :=
 if lt t11 t10=true then Option.bind (at? b (quo .i64 t11 8)) fun y=>need (ge (rem t11 8) 0) (Option.bind (at? out t11) fun x=>Option.bind (at? out t11) fun x=>self1 b t10 (add .i64 t11 1) (List.set out (Int.toNat t11) (eqi (Sx.band .u8 (Sx.shr .u8 y (rem t11 8)) 1) 1))) else some (out,())
def qkm_ (j1:List Int->Int->Int->List Bool->Option (As [.sl .bool])) (b:List Int):Option (As [.sl .bool]) :=
 need (ge (mul .i64 8 (Int.ofNat (List.length b))) 0) (need (Ev.capOk (mul .i64 8 (Int.ofNat (List.length b))) (mul .i64 8 (Int.ofNat (List.length b)))) (need (small (Int.toNat (mul .i64 8 (Int.ofNat (List.length b))))) (j1 b (Int.ofNat (List.length (List.replicate (Int.toNat (mul .i64 8 (Int.ofNat (List.length b)))) false))) 0 (List.replicate (Int.toNat (mul .i64 8 (Int.ofNat (List.length b)))) false))))
def qg5_ (b:List Int) (t10 t11:Int) (out:List Bool):Option (As [.sl .bool]) :=
 loopF (fun (self:(List Int)×(Int)×(Int)×(List Bool)->Option (As [.sl .bool])) (s:(List Int)×(Int)×(Int)×(List Bool))=>qbo_ (fun b t10 t11 out=>self (b,t10,t11,out)) s.1 s.2.1 s.2.2.1 s.2.2.2) 18446744073709551616 (b,t10,t11,out)
def qf9_ (x:As [.sl (.int .u8)]):Option (As [.sl .bool]):=qkm_ qg5_ x.1
theorem q13c_  (J w1 b t10 t11 out):pfn Tryz.prog qi9_ 6 18446744073709551616 (Ev.get qi2_) 212 qaj_ J 58 [w1] (qbt_ b t10 t11 out)=qbo_ (fun b t10 t11 out=>w1 (qbt_ b t10 t11 out)) b t10 t11 out:=by kernel_rfl
theorem q13m_ (J:Orc (As [.sl .bool])) (x:As [.sl (.int .u8)]):rfn Tryz.prog qi9_ 6 18446744073709551616 (Ev.get qi2_) 212 qaj_ J x=qkm_ (fun b t10 t11 out=>J 58 [] (qbt_ b t10 t11 out)) x.1:=by kernel_rfl
theorem q15h_  (b t10 t11 out):jfn Tryz.prog qi9_ 6 18446744073709551616 (Ev.get qi2_) 212 qaj_ 58 [] (qbt_ b t10 t11 out)=qg5_ b t10 t11 out:=by
 rw [q6_ (by decide)]
 rw [qn_ (by kernel_rfl)]
 refine qh_ (σ:=(List Int)×(Int)×(Int)×(List Bool)) (mk:=fun s=>qbt_ s.1 s.2.1 s.2.2.1 s.2.2.2) (fun w1 s=>?_) 18446744073709551616 (b,t10,t11,out)
 refine (q13c_ _ w1 s.1 s.2.1 s.2.2.1 s.2.2.2).trans ?_
 rfl
theorem q17d_ (x:As [.sl (.int .u8)]):evT Tryz.prog qi9_ 6 18446744073709551616 (Ev.get qi2_) 212 qaj_ x=qf9_ x:=by
 have e1:(fun b t10 t11 out=>(jfn Tryz.prog qi9_ 6 18446744073709551616 (Ev.get qi2_) 212 qaj_) 58 [] (qbt_ b t10 t11 out))=qg5_:=by funext b t10 t11 out; exact q15h_ b t10 t11 out
 rw [qi_,q13m_,e1]
 rfl
theorem qv8_:CtOk Tryz.prog (fun _=>True) 212 ⟨qaj_,qf9_⟩:=qc_ q3_ q17d_
@[reducible] def q97_:Sh:=⟨[.d (.pr (.int .u8) YTT4),.d (.pr (.int .i64) YTT15),.d (.sl (.int .u8))],[],[.pr (.int .u8) YTT4,.pr (.int .i64) YTT15,.sl (.int .u8)],[.d (.pr (.int .u8) YTT4),.d (.bool)],[],0,[.pr (.int .u8) YTT4,.bool]⟩
def qgt_:Env:=(cts [(201,(⟨qce_,qb4_⟩:Ct)),(212,(⟨qaj_,qf9_⟩:Ct))])
def qgb_:List (Nat×Hint):=[(15,⟨[.frb 3,.frb 6],[3,6]⟩)]
def qj4_ (a a_2 a_3 a_4:Int) (a_5:List Int) (a_6:List Bool) (t6 t6_2 t6_3 t6_4:Int) (t6_5:List Int) (t6_6:List Bool):St:={ fr:=[(3,.pb 0 0),(6,.pb 1 0)],nt:=63,up:=[],own:=[(0,.box 44 [.d (.int .u8) a,.d (.int .u16) a_2,.d (.int .u16) a_3,.d (.int .u16) a_4,.d (.sl (.int .u16)) a_5,.d (.sl .bool) a_6]),(1,.box 44 [.d (.int .u8) t6,.d (.int .u16) t6_2,.d (.int .u16) t6_3,.d (.int .u16) t6_4,.d (.sl (.int .u16)) t6_5,.d (.sl .bool) t6_6])],nx:=2,log:=[],ln:=0 }
def qtz_ (a a_2 a_3 a_4:Int) (a_5:List Int) (a_6:List Bool) (t6 t6_2 t6_3 t6_4:Int) (t6_5:List Int) (t6_6:List Bool):Option (As [.pr (.int .u8) YTT4,.bool]) :=
 some ((a,a_2,a_3,a_4,a_5,a_6),true,())
def qie_ (j1:Int->Int->Int->Int->List Int->List Bool->Int->Int->Int->Int->List Int->List Bool->Option (As [.pr (.int .u8) YTT4,.bool])) (a:Int×Int×Int×Int×List Int×List Bool) (s:Int×Int×Int×Bool×Bool) (rest:List Int):Option (As [.pr (.int .u8) YTT4,.bool]) :=
 if eqi (add .i64 s.2.1 s.2.2.1) 0=true then some (a,true,()) else if lt (Int.ofNat (List.length rest)) 2=true then some ((0,0,0,0,[],[]),false,()) else if eqi a.1 5=true then Option.bind (at? rest 0) fun y=>j1 a.1 a.2.1 a.2.2.1 a.2.2.2.1 a.2.2.2.2.1 [nei y 0] 0 0 0 0 [] [] else if eqi a.1 6=true then Option.bind (qb4_ (rest,())) fun y=>j1 a.1 a.2.1 a.2.2.1 a.2.2.2.1 y.1 a.2.2.2.2.2 0 0 0 0 [] [] else if gt s.2.1 0=true then Option.bind (cut rest 1 (Int.ofNat (List.length rest))) fun y=>Option.bind (qf9_ (y,())) fun y=>if lt (Int.ofNat (List.length y.1)) (cvt .i64 a.2.2.1)=true then some ((0,0,0,0,[],[]),false,()) else Option.bind (cut y.1 0 a.2.2.1) fun y_1=>need (le a.2.2.1 a.2.2.1) (need (le a.2.2.1 (Int.ofNat (List.length y.1))) (j1 a.1 a.2.1 a.2.2.1 a.2.2.2.1 a.2.2.2.2.1 y_1 0 0 0 0 [] [])) else Option.bind (cut rest 1 (Int.ofNat (List.length rest))) fun y=>Option.bind (qb4_ (y,())) fun y=>j1 a.1 a.2.1 a.2.2.1 a.2.2.2.1 y.1 a.2.2.2.2.2 0 0 0 0 [] []
def qiq_ (a a_2 a_3 a_4:Int) (a_5:List Int) (a_6:List Bool) (t6 t6_2 t6_3 t6_4:Int) (t6_5:List Int) (t6_6:List Bool):Option (As [.pr (.int .u8) YTT4,.bool]):=qtz_ a a_2 a_3 a_4 a_5 a_6 t6 t6_2 t6_3 t6_4 t6_5 t6_6
def q3l_ (x:As [.pr (.int .u8) YTT4,.pr (.int .i64) YTT15,.sl (.int .u8)]):Option (As [.pr (.int .u8) YTT4,.bool]):=qie_ qiq_ x.1 x.2.1 x.2.2.1
theorem q11p_  (J a a_2 a_3 a_4 a_5 a_6 t6 t6_2 t6_3 t6_4 t6_5 t6_6):pfn Tryz.prog qgt_ 6 18446744073709551616 (Ev.get qgb_) 202 q97_ J 15 [] (qj4_ a a_2 a_3 a_4 a_5 a_6 t6 t6_2 t6_3 t6_4 t6_5 t6_6)=qtz_ a a_2 a_3 a_4 a_5 a_6 t6 t6_2 t6_3 t6_4 t6_5 t6_6:=by kernel_rfl
theorem q12q_ (J:Orc (As [.pr (.int .u8) YTT4,.bool])) (x:As [.pr (.int .u8) YTT4,.pr (.int .i64) YTT15,.sl (.int .u8)]):rfn Tryz.prog qgt_ 6 18446744073709551616 (Ev.get qgb_) 202 q97_ J x=qie_ (fun a a_2 a_3 a_4 a_5 a_6 t6 t6_2 t6_3 t6_4 t6_5 t6_6=>J 15 [] (qj4_ a a_2 a_3 a_4 a_5 a_6 t6 t6_2 t6_3 t6_4 t6_5 t6_6)) x.1 x.2.1 x.2.2.1:=by kernel_rfl
theorem q11q_  (a a_2 a_3 a_4 a_5 a_6 t6 t6_2 t6_3 t6_4 t6_5 t6_6):jfn Tryz.prog qgt_ 6 18446744073709551616 (Ev.get qgb_) 202 q97_ 15 [] (qj4_ a a_2 a_3 a_4 a_5 a_6 t6 t6_2 t6_3 t6_4 t6_5 t6_6)=qiq_ a a_2 a_3 a_4 a_5 a_6 t6 t6_2 t6_3 t6_4 t6_5 t6_6:=by
 rw [q6_ (by decide)]
 rw [q11p_]
 rfl
theorem q14q_ (x:As [.pr (.int .u8) YTT4,.pr (.int .i64) YTT15,.sl (.int .u8)]):evT Tryz.prog qgt_ 6 18446744073709551616 (Ev.get qgb_) 202 q97_ x=q3l_ x:=by
 have e1:(fun a a_2 a_3 a_4 a_5 a_6 t6 t6_2 t6_3 t6_4 t6_5 t6_6=>(jfn Tryz.prog qgt_ 6 18446744073709551616 (Ev.get qgb_) 202 q97_) 15 [] (qj4_ a a_2 a_3 a_4 a_5 a_6 t6 t6_2 t6_3 t6_4 t6_5 t6_6))=qiq_:=by funext a a_2 a_3 a_4 a_5 a_6 t6 t6_2 t6_3 t6_4 t6_5 t6_6; exact q11q_ a a_2 a_3 a_4 a_5 a_6 t6 t6_2 t6_3 t6_4 t6_5 t6_6
 rw [qi_,q12q_,e1]
 rfl
theorem q12i_:CtOk Tryz.prog (fun _=>True) 202 ⟨q97_,q3l_⟩:=qc_ (q0_ qyc_ (q0_ qv8_ q3_)) q14q_
@[reducible] def q51_:Sh:=⟨[.d (.sl (.int .u8))],[],[.sl (.int .u8)],[.d (.pr (.int .u8) YTT4),.d (.bool)],[],0,[.pr (.int .u8) YTT4,.bool]⟩
def q76_:Env:=(cts [(59,(⟨qp7_,qc4_⟩:Ct)),(201,(⟨qce_,qb4_⟩:Ct)),(202,(⟨q97_,q3l_⟩:Ct))])
def q7f_:List (Nat×Hint):=[(255,⟨[],[2,4,6,7,8]⟩),(511,⟨[],[2,4,7,8]⟩),(6,⟨[],[0,2,16]⟩)]
def qp8_ (b:List Int) (t16:Bool) (t2 t2_2 t2_3 t2_4:Int):St:={ fr:=[(0,.d (.sl (.int .u8)) b),(2,.pb 0 0),(16,.d .bool t16)],nt:=67,up:=[],own:=[(0,.box 44 [.d (.int .u8) t2,.d (.int .u16) t2_2,.d (.int .u16) t2_3,.d (.int .u16) t2_4,.k (Go.Value.slice Option.none 0 0),.k (Go.Value.slice Option.none 0 0)])],nx:=1,log:=[],ln:=0 }
def qph_ (l rest:List Int) (t2 t2_2 t2_3 t2_4 s s_2 s_3:Int) (s_4 s_5:Bool) (a a_2 a_3 a_4:Int):St:={ fr:=[(2,.pb 0 0),(4,.pb 1 0),(6,.d (.sl (.int .u16)) l),(7,.pb 2 0),(8,.d (.sl (.int .u8)) rest)],nt:=67,up:=[],own:=[(0,.box 44 [.d (.int .u8) t2,.d (.int .u16) t2_2,.d (.int .u16) t2_3,.d (.int .u16) t2_4,.k (Go.Value.slice Option.none 0 0),.k (Go.Value.slice Option.none 0 0)]),(1,.box 114 [.d (.int .i64) s,.d (.int .i64) s_2,.d (.int .i64) s_3,.d .bool s_4,.d .bool s_5]),(2,.box 44 [.d (.int .u8) a,.d (.int .u16) a_2,.d (.int .u16) a_3,.d (.int .u16) a_4,.k (Go.Value.slice Option.none 0 0),.k (Go.Value.slice Option.none 0 0)])],nx:=3,log:=[],ln:=0 }
def qpd_ (rest:List Int) (t2 t2_2 t2_3 t2_4 s s_2 s_3:Int) (s_4 s_5:Bool) (a a_2 a_3 a_4:Int):St:={ fr:=[(2,.pb 0 0),(4,.pb 1 0),(7,.pb 2 0),(8,.d (.sl (.int .u8)) rest)],nt:=67,up:=[],own:=[(0,.box 44 [.d (.int .u8) t2,.d (.int .u16) t2_2,.d (.int .u16) t2_3,.d (.int .u16) t2_4,.k (Go.Value.slice Option.none 0 0),.k (Go.Value.slice Option.none 0 0)]),(1,.box 114 [.d (.int .i64) s,.d (.int .i64) s_2,.d (.int .i64) s_3,.d .bool s_4,.d .bool s_5]),(2,.box 44 [.d (.int .u8) a,.d (.int .u16) a_2,.d (.int .u16) a_3,.d (.int .u16) a_4,.k (Go.Value.slice Option.none 0 0),.k (Go.Value.slice Option.none 0 0)])],nx:=3,log:=[],ln:=0 }
def q9z_ (j2:List Int->List Int->Int->Int->Int->Int->Int->Int->Int->Bool->Bool->Int->Int->Int->Int->Option (As [.pr (.int .u8) YTT4,.bool])) (b:List Int) (t16:Bool) (t2 t2_2 t2_3 t2_4:Int):Option (As [.pr (.int .u8) YTT4,.bool]) :=
 if t16=true then some ((0,0,0,0,[],[]),false,()) else Option.bind (at? b 0) fun y=>Option.bind (qc4_ (y,())) fun y=>if (!y.2.1)=true then some ((0,0,0,0,[],[]),false,()) else Option.bind (cut b 1 (Int.ofNat (List.length b))) fun y_1=>Option.bind (qb4_ (y_1,())) fun y_2=>Option.bind (at? b 0) fun y_3=>Option.bind (at? y_2.1 0) fun y_4=>Option.bind (cut b 3 (Int.ofNat (List.length b))) fun y_5=>if gt y.1.1 0=true then Option.bind (at? y_2.1 1) fun y_6=>Option.bind (cut b 5 (Int.ofNat (List.length b))) fun y_7=>j2 y_2.1 y_7 t2 t2_2 t2_3 t2_4 y.1.1 y.1.2.1 y.1.2.2.1 y.1.2.2.2.1 y.1.2.2.2.2 y_3 y_4 y_6 0 else j2 y_2.1 y_5 t2 t2_2 t2_3 t2_4 y.1.1 y.1.2.1 y.1.2.2.1 y.1.2.2.2.1 y.1.2.2.2.2 y_3 y_4 0 0
def qt7_ (j3:List Int->Int->Int->Int->Int->Int->Int->Int->Bool->Bool->Int->Int->Int->Int->Option (As [.pr (.int .u8) YTT4,.bool])) (l rest:List Int) (t2 t2_2 t2_3 t2_4 s s_2 s_3:Int) (s_4 s_5:Bool) (a a_2 a_3 a_4:Int):Option (As [.pr (.int .u8) YTT4,.bool]) :=
 if s_4=true then if lt (Int.ofNat (List.length rest)) 4=true then some ((0,0,0,0,[],[]),false,()) else Option.bind (at? l 2) fun y=>Option.bind (cut rest 4 (Int.ofNat (List.length rest))) fun y_1=>j3 y_1 t2 t2_2 t2_3 t2_4 s s_2 s_3 s_4 s_5 a a_2 a_3 y else j3 rest t2 t2_2 t2_3 t2_4 s s_2 s_3 s_4 s_5 a a_2 a_3 a_4
def qyb_ (rest:List Int) (t2 t2_2 t2_3 t2_4 s s_2 s_3:Int) (s_4 s_5:Bool) (a a_2 a_3 a_4:Int):Option (As [.pr (.int .u8) YTT4,.bool]) :=
 Option.bind (q3l_ ((a,a_2,a_3,a_4,[],[]),(s,s_2,s_3,s_4,s_5),rest,())) fun y=>some (y.1,y.2.1,())
def q6t_ (j1:List Int->Bool->Int->Int->Int->Int->Option (As [.pr (.int .u8) YTT4,.bool])) (b:List Int):Option (As [.pr (.int .u8) YTT4,.bool]) :=
 if lt (Int.ofNat (List.length b)) 5=true then j1 b true 0 0 0 0 else j1 b (gt (Int.ofNat (List.length b)) 253) 0 0 0 0
def qpb_ (rest:List Int) (t2 t2_2 t2_3 t2_4 s s_2 s_3:Int) (s_4 s_5:Bool) (a a_2 a_3 a_4:Int):Option (As [.pr (.int .u8) YTT4,.bool]):=qyb_ rest t2 t2_2 t2_3 t2_4 s s_2 s_3 s_4 s_5 a a_2 a_3 a_4
def q6u_ (l rest:List Int) (t2 t2_2 t2_3 t2_4 s s_2 s_3:Int) (s_4 s_5:Bool) (a a_2 a_3 a_4:Int):Option (As [.pr (.int .u8) YTT4,.bool]):=qt7_ (qpb_) l rest t2 t2_2 t2_3 t2_4 s s_2 s_3 s_4 s_5 a a_2 a_3 a_4
def q9t_ (b:List Int) (t16:Bool) (t2 t2_2 t2_3 t2_4:Int):Option (As [.pr (.int .u8) YTT4,.bool]):=q9z_ (q6u_) b t16 t2 t2_2 t2_3 t2_4
def qfm_ (x:As [.sl (.int .u8)]):Option (As [.pr (.int .u8) YTT4,.bool]):=q6t_ q9t_ x.1
theorem q19k_  (J rest t2 t2_2 t2_3 t2_4 s s_2 s_3 s_4 s_5 a a_2 a_3 a_4):pfn Tryz.prog q76_ 6 18446744073709551616 (Ev.get q7f_) 174 q51_ J 511 [] (qpd_ rest t2 t2_2 t2_3 t2_4 s s_2 s_3 s_4 s_5 a a_2 a_3 a_4)=qyb_ rest t2 t2_2 t2_3 t2_4 s s_2 s_3 s_4 s_5 a a_2 a_3 a_4:=by kernel_rfl
theorem q18y_  (J l rest t2 t2_2 t2_3 t2_4 s s_2 s_3 s_4 s_5 a a_2 a_3 a_4):pfn Tryz.prog q76_ 6 18446744073709551616 (Ev.get q7f_) 174 q51_ J 255 [] (qph_ l rest t2 t2_2 t2_3 t2_4 s s_2 s_3 s_4 s_5 a a_2 a_3 a_4)=qt7_ (fun rest t2 t2_2 t2_3 t2_4 s s_2 s_3 s_4 s_5 a a_2 a_3 a_4=>J 511 [] (qpd_ rest t2 t2_2 t2_3 t2_4 s s_2 s_3 s_4 s_5 a a_2 a_3 a_4)) l rest t2 t2_2 t2_3 t2_4 s s_2 s_3 s_4 s_5 a a_2 a_3 a_4:=by kernel_rfl
theorem q196_  (J b t16 t2 t2_2 t2_3 t2_4):pfn Tryz.prog q76_ 6 18446744073709551616 (Ev.get q7f_) 174 q51_ J 6 [] (qp8_ b t16 t2 t2_2 t2_3 t2_4)=q9z_ (fun l rest t2 t2_2 t2_3 t2_4 s s_2 s_3 s_4 s_5 a a_2 a_3 a_4=>J 255 [] (qph_ l rest t2 t2_2 t2_3 t2_4 s s_2 s_3 s_4 s_5 a a_2 a_3 a_4)) b t16 t2 t2_2 t2_3 t2_4:=by kernel_rfl
theorem q1a7_ (J:Orc (As [.pr (.int .u8) YTT4,.bool])) (x:As [.sl (.int .u8)]):rfn Tryz.prog q76_ 6 18446744073709551616 (Ev.get q7f_) 174 q51_ J x=q6t_ (fun b t16 t2 t2_2 t2_3 t2_4=>J 6 [] (qp8_ b t16 t2 t2_2 t2_3 t2_4)) x.1:=by kernel_rfl
theorem q19h_  (rest t2 t2_2 t2_3 t2_4 s s_2 s_3 s_4 s_5 a a_2 a_3 a_4):jfn Tryz.prog q76_ 6 18446744073709551616 (Ev.get q7f_) 174 q51_ 511 [] (qpd_ rest t2 t2_2 t2_3 t2_4 s s_2 s_3 s_4 s_5 a a_2 a_3 a_4)=qpb_ rest t2 t2_2 t2_3 t2_4 s s_2 s_3 s_4 s_5 a a_2 a_3 a_4:=by
 rw [q6_ (by decide)]
 rw [q19k_]
 rfl
theorem q19g_  (l rest t2 t2_2 t2_3 t2_4 s s_2 s_3 s_4 s_5 a a_2 a_3 a_4):jfn Tryz.prog q76_ 6 18446744073709551616 (Ev.get q7f_) 174 q51_ 255 [] (qph_ l rest t2 t2_2 t2_3 t2_4 s s_2 s_3 s_4 s_5 a a_2 a_3 a_4)=q6u_ l rest t2 t2_2 t2_3 t2_4 s s_2 s_3 s_4 s_5 a a_2 a_3 a_4:=by
 rw [q6_ (by decide)]
 have e3:(fun rest t2 t2_2 t2_3 t2_4 s s_2 s_3 s_4 s_5 a a_2 a_3 a_4=>(jfn Tryz.prog q76_ 6 18446744073709551616 (Ev.get q7f_) 174 q51_) 511 [] (qpd_ rest t2 t2_2 t2_3 t2_4 s s_2 s_3 s_4 s_5 a a_2 a_3 a_4))=qpb_:=by funext rest t2 t2_2 t2_3 t2_4 s s_2 s_3 s_4 s_5 a a_2 a_3 a_4; exact q19h_ rest t2 t2_2 t2_3 t2_4 s s_2 s_3 s_4 s_5 a a_2 a_3 a_4
 rw [q18y_,e3]
 rfl
theorem q19d_  (b t16 t2 t2_2 t2_3 t2_4):jfn Tryz.prog q76_ 6 18446744073709551616 (Ev.get q7f_) 174 q51_ 6 [] (qp8_ b t16 t2 t2_2 t2_3 t2_4)=q9t_ b t16 t2 t2_2 t2_3 t2_4:=by
 rw [q6_ (by decide)]
 have e2:(fun l rest t2 t2_2 t2_3 t2_4 s s_2 s_3 s_4 s_5 a a_2 a_3 a_4=>(jfn Tryz.prog q76_ 6 18446744073709551616 (Ev.get q7f_) 174 q51_) 255 [] (qph_ l rest t2 t2_2 t2_3 t2_4 s s_2 s_3 s_4 s_5 a a_2 a_3 a_4))=q6u_:=by funext l rest t2 t2_2 t2_3 t2_4 s s_2 s_3 s_4 s_5 a a_2 a_3 a_4; exact q19g_ l rest t2 t2_2 t2_3 t2_4 s s_2 s_3 s_4 s_5 a a_2 a_3 a_4
 rw [q196_,e2]
 rfl
theorem q1a9_ (x:As [.sl (.int .u8)]):evT Tryz.prog q76_ 6 18446744073709551616 (Ev.get q7f_) 174 q51_ x=qfm_ x:=by
 have e1:(fun b t16 t2 t2_2 t2_3 t2_4=>(jfn Tryz.prog q76_ 6 18446744073709551616 (Ev.get q7f_) 174 q51_) 6 [] (qp8_ b t16 t2 t2_2 t2_3 t2_4))=q9t_:=by funext b t16 t2 t2_2 t2_3 t2_4; exact q19d_ b t16 t2 t2_2 t2_3 t2_4
 rw [qi_,q1a7_,e1]
 rfl
theorem q194_:CtOk Tryz.prog (fun _=>True) 174 ⟨q51_,qfm_⟩:=qc_ (q0_ qng_ (q0_ qyc_ (q0_ q12i_ q3_))) q1a9_
@[reducible] def qgv_:Sh:=⟨[.d (.sl (.int .u8))],[],[.sl (.int .u8)],[.d (.pr (.int .u8) YTT4),.d (.int .i64)],[],0,[.pr (.int .u8) YTT4,.int .i64]⟩
def qju_:Env:=(cts [(13,(⟨q1y_,q3f_⟩:Ct)),(66,(⟨qku_,qw_⟩:Ct)),(174,(⟨q51_,qfm_⟩:Ct))])
def qjn_:List (Nat×Hint):=[(61,⟨[],[2,4,28]⟩)]
def qm6_ (t28:Bool) (t2 t2_2 t2_3 t2_4 a a_2 a_3 a_4:Int) (a_5:List Int) (a_6:List Bool):St:={ fr:=[(2,.pb 0 0),(4,.pb 1 0),(28,.d .bool t28)],nt:=31,up:=[],own:=[(0,.box 44 [.d (.int .u8) t2,.d (.int .u16) t2_2,.d (.int .u16) t2_3,.d (.int .u16) t2_4,.k (Go.Value.slice Option.none 0 0),.k (Go.Value.slice Option.none 0 0)]),(1,.box 44 [.d (.int .u8) a,.d (.int .u16) a_2,.d (.int .u16) a_3,.d (.int .u16) a_4,.d (.sl (.int .u16)) a_5,.d (.sl .bool) a_6])],nx:=2,log:=[],ln:=0 }
def qvx_ (t28:Bool) (t2 t2_2 t2_3 t2_4 a a_2 a_3 a_4:Int) (a_5:List Int) (a_6:List Bool):Option (As [.pr (.int .u8) YTT4,.int .i64]) :=
 if t28=true then some ((0,0,0,0,[],[]),12,()) else some ((a,a_2,a_3,a_4,a_5,a_6),0,())
def qev_ (j1:Bool->Int->Int->Int->Int->Int->Int->Int->Int->List Int->List Bool->Option (As [.pr (.int .u8) YTT4,.int .i64])) (b:List Int):Option (As [.pr (.int .u8) YTT4,.int .i64]) :=
 Option.bind (qfm_ (b,())) fun y=>if (!y.2.1)=true then some ((0,0,0,0,[],[]),12,()) else Option.bind (q3f_ (y.1,())) fun y_1=>if nei y_1.2.1 0=true then j1 true 0 0 0 0 y.1.1 y.1.2.1 y.1.2.2.1 y.1.2.2.2.1 y.1.2.2.2.2.1 y.1.2.2.2.2.2 else Option.bind (qw_ (y_1.1,b,())) fun y_2=>j1 (!y_2.1) 0 0 0 0 y.1.1 y.1.2.1 y.1.2.2.1 y.1.2.2.2.1 y.1.2.2.2.2.1 y.1.2.2.2.2.2
def qhk_ (t28:Bool) (t2 t2_2 t2_3 t2_4 a a_2 a_3 a_4:Int) (a_5:List Int) (a_6:List Bool):Option (As [.pr (.int .u8) YTT4,.int .i64]):=qvx_ t28 t2 t2_2 t2_3 t2_4 a a_2 a_3 a_4 a_5 a_6
def qpz_ (x:As [.sl (.int .u8)]):Option (As [.pr (.int .u8) YTT4,.int .i64]):=qev_ qhk_ x.1
theorem q18d_  (J t28 t2 t2_2 t2_3 t2_4 a a_2 a_3 a_4 a_5 a_6):pfn Tryz.prog qju_ 6 18446744073709551616 (Ev.get qjn_) 123 qgv_ J 61 [] (qm6_ t28 t2 t2_2 t2_3 t2_4 a a_2 a_3 a_4 a_5 a_6)=qvx_ t28 t2 t2_2 t2_3 t2_4 a a_2 a_3 a_4 a_5 a_6:=by kernel_rfl
theorem q18c_ (J:Orc (As [.pr (.int .u8) YTT4,.int .i64])) (x:As [.sl (.int .u8)]):rfn Tryz.prog qju_ 6 18446744073709551616 (Ev.get qjn_) 123 qgv_ J x=qev_ (fun t28 t2 t2_2 t2_3 t2_4 a a_2 a_3 a_4 a_5 a_6=>J 61 [] (qm6_ t28 t2 t2_2 t2_3 t2_4 a a_2 a_3 a_4 a_5 a_6)) x.1:=by kernel_rfl
theorem q17s_  (t28 t2 t2_2 t2_3 t2_4 a a_2 a_3 a_4 a_5 a_6):jfn Tryz.prog qju_ 6 18446744073709551616 (Ev.get qjn_) 123 qgv_ 61 [] (qm6_ t28 t2 t2_2 t2_3 t2_4 a a_2 a_3 a_4 a_5 a_6)=qhk_ t28 t2 t2_2 t2_3 t2_4 a a_2 a_3 a_4 a_5 a_6:=by
 rw [q6_ (by decide)]
 rw [q18d_]
 rfl
theorem q198_ (x:As [.sl (.int .u8)]):evT Tryz.prog qju_ 6 18446744073709551616 (Ev.get qjn_) 123 qgv_ x=qpz_ x:=by
 have e1:(fun t28 t2 t2_2 t2_3 t2_4 a a_2 a_3 a_4 a_5 a_6=>(jfn Tryz.prog qju_ 6 18446744073709551616 (Ev.get qjn_) 123 qgv_) 61 [] (qm6_ t28 t2 t2_2 t2_3 t2_4 a a_2 a_3 a_4 a_5 a_6))=qhk_:=by funext t28 t2 t2_2 t2_3 t2_4 a a_2 a_3 a_4 a_5 a_6; exact q17s_ t28 t2 t2_2 t2_3 t2_4 a a_2 a_3 a_4 a_5 a_6
 rw [qi_,q18c_,e1]
 rfl
theorem q15u_:CtOk Tryz.prog (fun _=>True) 123 ⟨qgv_,qpz_⟩:=qc_ (q0_ qnv_ (q0_ qot_ (q0_ q194_ q3_))) q198_
@[reducible] def q103_:Sh:=⟨[.d (.sl (.int .u8))],[],[.sl (.int .u8)],[.d (.pr (.int .u8) YTT4),.d (.int .u8)],[],0,[.pr (.int .u8) YTT4,.int .u8]⟩
def qk4_ (b:List Int):Option (As [.pr (.int .u8) YTT4,.int .u8]) :=
 if eqi (Int.ofNat (List.length b)) 0=true then some ((0,0,0,0,[],[]),1,()) else Option.bind (qpz_ (b,())) fun y=>if eqi y.2.1 0=true then some (y.1,0,()) else Option.bind (at? b 0) fun y=>Option.bind (at? b 0) fun y_1=>Option.bind (qc4_ (y_1,())) fun y_2=>if (!y_2.2.1)=true then some ((y,0,0,0,[],[]),1,()) else some ((y,0,0,0,[],[]),3,())
def qfd_ (x:As [.sl (.int .u8)]):Option (As [.pr (.int .u8) YTT4,.int .u8]):=qk4_ x.1
theorem q19j_:CtOk Tryz.prog (fun _=>True) 52 ⟨q103_,qfd_⟩:=ctn (q0_ qng_ (q0_ q15u_ q3_)) 6 fun J x=>by kernel_rfl
@[reducible] def qw4_:Sh:=⟨[.d (.pr YTT1 (.pr YTT1 (.pr YTT1 YTT1))),.d (.pr (.sl .bool) YTT10)],[],[.pr YTT1 (.pr YTT1 (.pr YTT1 YTT1)),.pr (.sl .bool) YTT10],[.d (.pr (.pr YTT1 (.sl .bool)) (.pr (.pr YTT1 (.sl .bool)) (.pr (.pr YTT1 (.sl (.int .u16))) (.pr YTT1 (.sl (.int .u16))))))],[],0,[.pr (.pr YTT1 (.sl .bool)) (.pr (.pr YTT1 (.sl .bool)) (.pr (.pr YTT1 (.sl (.int .u16))) (.pr YTT1 (.sl (.int .u16)))))]⟩
def q14h_ (s:List YTT5×List YTT5×List YTT5×List YTT5) (m:List Bool×List Bool×List Int×List Int):Option (As [.pr (.pr YTT1 (.sl .bool)) (.pr (.pr YTT1 (.sl .bool)) (.pr (.pr YTT1 (.sl (.int .u16))) (.pr YTT1 (.sl (.int .u16)))))]) :=
 some (((s.1,m.1),(s.2.1,m.2.1),(s.2.2.1,m.2.2.1),s.2.2.2,m.2.2.2),())
def qja_ (x:As [.pr YTT1 (.pr YTT1 (.pr YTT1 YTT1)),.pr (.sl .bool) YTT10]):Option (As [.pr (.pr YTT1 (.sl .bool)) (.pr (.pr YTT1 (.sl .bool)) (.pr (.pr YTT1 (.sl (.int .u16))) (.pr YTT1 (.sl (.int .u16)))))]):=q14h_ x.1 x.2.1
theorem qv3_:CtOk Tryz.prog (fun _=>True) 117 ⟨qw4_,qja_⟩:=ctn q3_ 6 fun J x=>by kernel_rfl
@[reducible] def qs2_:Sh:=⟨[.d (.int .u8)],[],[.int .u8],[.d (.pr (.int .i64) (.int .i64))],[],0,[.pr (.int .i64) (.int .i64)]⟩
def qqt_ (f:Int):Option (As [.pr (.int .i64) (.int .i64)]) :=
 some (Ev.gdV (.pr (.int .i64) (.int .i64)) (if eqi 1 f=true then some (1,0) else if eqi 2 f=true then some (2,0) else if eqi 3 f=true then some (3,0) else if eqi 4 f=true then some (4,0) else if eqi 5 f=true then some (0,1) else if eqi 6 f=true then some (0,3) else if eqi 15 f=true then some (0,1) else if eqi 16 f=true then some (0,3) else if eqi 23 f=true then some (3,3) else Option.none) (0,0),())
def qil_ (x:As [.int .u8]):Option (As [.pr (.int .i64) (.int .i64)]):=qqt_ x.1
theorem qv5_:CtOk Tryz.prog (fun _=>True) 124 ⟨qs2_,qil_⟩:=ctn q3_ 6 fun J x=>by kernel_rfl
@[reducible] def qov_:Sh:=⟨[.d (.pr (.int .u8) YTT4)],[],[.pr (.int .u8) YTT4],[.d (.int .i64),.d (.int .i64)],[],0,[.int .i64,.int .i64]⟩
def qni_ (a:Int×Int×Int×Int×List Int×List Bool):Option (As [.int .i64,.int .i64]) :=
 if eqi a.1 23=true then some (cvt .i64 a.2.2.2.1,add .i64 (Int.ofNat (List.length a.2.2.2.2.2)) (Int.ofNat (List.length a.2.2.2.2.1)),()) else some (cvt .i64 a.2.1,add .i64 (Int.ofNat (List.length a.2.2.2.2.2)) (Int.ofNat (List.length a.2.2.2.2.1)),())
def qap_ (x:As [.pr (.int .u8) YTT4]):Option (As [.int .i64,.int .i64]):=qni_ x.1
theorem qss_:CtOk Tryz.prog (fun _=>True) 126 ⟨qov_,qap_⟩:=ctn q3_ 6 fun J x=>by kernel_rfl
@[reducible] def q35_:Sh:=⟨[.d (.pr (.int .i64) YTT12)],[],[.pr (.int .i64) YTT12],[.d (.bool)],[],0,[.bool]⟩
def qm2_ (x:YaA1q0):Option (As [.bool]) :=
 some (x.2.2.1,())
def q1e_ (x:As [.pr (.int .i64) YTT12]):Option (As [.bool]):=qm2_ x.1
theorem q2u_:CtOk Tryz.prog (fun _=>True) 259 ⟨q35_,q1e_⟩:=ctn q3_ 6 fun J x=>by kernel_rfl
@[reducible] def q33_:Sh:=⟨[.d (.pr (.int .i64) YTT12),.pb 0 0,.pb 1 0],[.box 3 [.d (.int .i64)],.box 3 [.d (.int .i64)]],[.pr (.int .i64) YTT12,.int .i64,.int .i64],[.d (.bool)],[(0,.box 3 [.d (.int .i64)]),(1,.box 3 [.d (.int .i64)])],0,[.bool,.int .i64,.int .i64]⟩
def q6s_ (x:YaA1q0) (v v_2:Int):Option (As [.bool,.int .i64,.int .i64]) :=
 if x.2.2.2.1=true then if (!x.2.2.2.2)=true then some (true,v,v_2,()) else if eqi x.1 v=true then some (eqi x.2.1 v_2,v,v_2,()) else some (false,v,v_2,()) else some (false,v,v_2,())
def q16_ (x:As [.pr (.int .i64) YTT12,.int .i64,.int .i64]):Option (As [.bool,.int .i64,.int .i64]):=q6s_ x.1 x.2.1 x.2.2.1
theorem q2v_:CtOk Tryz.prog (fun _=>True) 260 ⟨q33_,q16_⟩:=ctn q3_ 6 fun J x=>by kernel_rfl
@[reducible] def q2b_:Sh:=⟨[.d (.pr (.int .i64) YTT12),.d (.int .i64),.d (.int .i64)],[],[.pr (.int .i64) YTT12,.int .i64,.int .i64],[.d (.int .i64),.d (.int .i64)],[],0,[.int .i64,.int .i64]⟩
def q4n_:Env:=(cts [])
def q4o_:List (Nat×Hint):=[(15,⟨[],[1,3,8]⟩),(30,⟨[],[1,2,3,8,32]⟩),(6,⟨[],[1,2,3,17,25,26,27,28,29,30,31]⟩)]
def qkh_ (at' endV:Int) (t17:Bool) (x:YaA1q0):St:={ fr:=[(1,.d (.int .i64) at'),(2,.d (.int .i64) endV),(3,.pb 0 0),(17,.d .bool t17)],nt:=45,up:=[],own:=[(0,.box 168 [.d (.int .i64) x.1,.d (.int .i64) x.2.1,.d .bool x.2.2.1,.d .bool x.2.2.2.1,.d .bool x.2.2.2.2])],nx:=1,log:=[],ln:=0 }
def qki_ (at' endV to':Int) (t32:Bool) (x:YaA1q0):St:={ fr:=[(1,.d (.int .i64) at'),(2,.d (.int .i64) endV),(3,.pb 0 0),(8,.d (.int .i64) to'),(32,.d .bool t32)],nt:=45,up:=[],own:=[(0,.box 168 [.d (.int .i64) x.1,.d (.int .i64) x.2.1,.d .bool x.2.2.1,.d .bool x.2.2.2.1,.d .bool x.2.2.2.2])],nx:=1,log:=[],ln:=0 }
def qkt_ (at' to':Int) (x:YaA1q0):St:={ fr:=[(1,.d (.int .i64) at'),(3,.pb 0 0),(8,.d (.int .i64) to')],nt:=45,up:=[],own:=[(0,.box 168 [.d (.int .i64) x.1,.d (.int .i64) x.2.1,.d .bool x.2.2.1,.d .bool x.2.2.2.1,.d .bool x.2.2.2.2])],nx:=1,log:=[],ln:=0 }
def qqz_ (j2:Int->Int->Int->Bool->YaA1q0->Option (As [.int .i64,.int .i64])) (at' endV:Int) (t17:Bool) (x:YaA1q0):Option (As [.int .i64,.int .i64]) :=
 if t17=true then some (at',at',()) else if lt x.1 0=true then j2 at' endV endV true x else j2 at' endV endV (lt x.2.1 (Sx.sub .i64 endV x.1)) x
def qlg_ (j3:Int->Int->YaA1q0->Option (As [.int .i64,.int .i64])) (at' endV to':Int) (t32:Bool) (x:YaA1q0):Option (As [.int .i64,.int .i64]) :=
 if t32=true then j3 at' (if lt (add .i64 x.1 x.2.1) endV=true then add .i64 x.1 x.2.1 else endV) x else j3 at' to' x
def qqu_ (at' to':Int) (x:YaA1q0):Option (As [.int .i64,.int .i64]) :=
 some (if gt x.1 at'=true then x.1 else at',to',())
def qle_ (j1:Int->Int->Bool->YaA1q0->Option (As [.int .i64,.int .i64])) (x:YaA1q0) (at' endV:Int):Option (As [.int .i64,.int .i64]) :=
 if lt x.2.1 1=true then j1 at' endV true x else j1 at' endV (ge x.1 endV) x
def qgc_ (at' to':Int) (x:YaA1q0):Option (As [.int .i64,.int .i64]):=qqu_ at' to' x
def qby_ (at' endV to':Int) (t32:Bool) (x:YaA1q0):Option (As [.int .i64,.int .i64]):=qlg_ (qgc_) at' endV to' t32 x
def qc1_ (at' endV:Int) (t17:Bool) (x:YaA1q0):Option (As [.int .i64,.int .i64]):=qqz_ (qby_) at' endV t17 x
def q72_ (x:As [.pr (.int .i64) YTT12,.int .i64,.int .i64]):Option (As [.int .i64,.int .i64]):=qle_ qc1_ x.1 x.2.1 x.2.2.1
theorem q14u_  (J at' to' x):pfn Tryz.prog q4n_ 6 18446744073709551616 (Ev.get q4o_) 261 q2b_ J 15 [] (qkt_ at' to' x)=qqu_ at' to' x:=by kernel_rfl
theorem q14s_  (J at' endV to' t32 x):pfn Tryz.prog q4n_ 6 18446744073709551616 (Ev.get q4o_) 261 q2b_ J 30 [] (qki_ at' endV to' t32 x)=qlg_ (fun at' to' x=>J 15 [] (qkt_ at' to' x)) at' endV to' t32 x:=by kernel_rfl
theorem q14x_  (J at' endV t17 x):pfn Tryz.prog q4n_ 6 18446744073709551616 (Ev.get q4o_) 261 q2b_ J 6 [] (qkh_ at' endV t17 x)=qqz_ (fun at' endV to' t32 x=>J 30 [] (qki_ at' endV to' t32 x)) at' endV t17 x:=by kernel_rfl
theorem q15k_ (J:Orc (As [.int .i64,.int .i64])) (x:As [.pr (.int .i64) YTT12,.int .i64,.int .i64]):rfn Tryz.prog q4n_ 6 18446744073709551616 (Ev.get q4o_) 261 q2b_ J x=qle_ (fun at' endV t17 x=>J 6 [] (qkh_ at' endV t17 x)) x.1 x.2.1 x.2.2.1:=by kernel_rfl
theorem q13x_  (at' to' x):jfn Tryz.prog q4n_ 6 18446744073709551616 (Ev.get q4o_) 261 q2b_ 15 [] (qkt_ at' to' x)=qgc_ at' to' x:=by
 rw [q6_ (by decide)]
 rw [q14u_]
 rfl
theorem q153_  (at' endV to' t32 x):jfn Tryz.prog q4n_ 6 18446744073709551616 (Ev.get q4o_) 261 q2b_ 30 [] (qki_ at' endV to' t32 x)=qby_ at' endV to' t32 x:=by
 rw [q6_ (by decide)]
 have e3:(fun at' to' x=>(jfn Tryz.prog q4n_ 6 18446744073709551616 (Ev.get q4o_) 261 q2b_) 15 [] (qkt_ at' to' x))=qgc_:=by funext at' to' x; exact q13x_ at' to' x
 rw [q14s_,e3]
 rfl
theorem q15c_  (at' endV t17 x):jfn Tryz.prog q4n_ 6 18446744073709551616 (Ev.get q4o_) 261 q2b_ 6 [] (qkh_ at' endV t17 x)=qc1_ at' endV t17 x:=by
 rw [q6_ (by decide)]
 have e2:(fun at' endV to' t32 x=>(jfn Tryz.prog q4n_ 6 18446744073709551616 (Ev.get q4o_) 261 q2b_) 30 [] (qki_ at' endV to' t32 x))=qby_:=by funext at' endV to' t32 x; exact q153_ at' endV to' t32 x
 rw [q14x_,e2]
 rfl
theorem q16a_ (x:As [.pr (.int .i64) YTT12,.int .i64,.int .i64]):evT Tryz.prog q4n_ 6 18446744073709551616 (Ev.get q4o_) 261 q2b_ x=q72_ x:=by
 have e1:(fun at' endV t17 x=>(jfn Tryz.prog q4n_ 6 18446744073709551616 (Ev.get q4o_) 261 q2b_) 6 [] (qkh_ at' endV t17 x))=qc1_:=by funext at' endV t17 x; exact q15c_ at' endV t17 x
 rw [qi_,q15k_,e1]
 rfl
theorem qkl_:CtOk Tryz.prog (fun _=>True) 261 ⟨q2b_,q72_⟩:=qc_ q3_ q16a_
@[reducible] def q2l_:Sh:=⟨[.d (.pr (.int .i64) YTT12)],[],[.pr (.int .i64) YTT12],[.d (.bool)],[],0,[.bool]⟩
def qjw_ (x:YaA1q0):Option (As [.bool]) :=
 some (x.2.2.1,())
def q19_ (x:As [.pr (.int .i64) YTT12]):Option (As [.bool]):=qjw_ x.1
theorem q2h_:CtOk Tryz.prog (fun _=>True) 264 ⟨q2l_,q19_⟩:=ctn q3_ 6 fun J x=>by kernel_rfl
@[reducible] def q2m_:Sh:=⟨[.d (.pr (.int .i64) YTT12),.pb 0 0,.pb 1 0],[.box 3 [.d (.int .i64)],.box 3 [.d (.int .i64)]],[.pr (.int .i64) YTT12,.int .i64,.int .i64],[.d (.bool)],[(0,.box 3 [.d (.int .i64)]),(1,.box 3 [.d (.int .i64)])],0,[.bool,.int .i64,.int .i64]⟩
def q5h_ (x:YaA1q0) (v v_2:Int):Option (As [.bool,.int .i64,.int .i64]) :=
 if x.2.2.2.1=true then if (!x.2.2.2.2)=true then some (true,v,v_2,()) else if eqi x.1 v=true then some (eqi x.2.1 v_2,v,v_2,()) else some (false,v,v_2,()) else some (false,v,v_2,())
def q11_ (x:As [.pr (.int .i64) YTT12,.int .i64,.int .i64]):Option (As [.bool,.int .i64,.int .i64]):=q5h_ x.1 x.2.1 x.2.2.1
theorem q2g_:CtOk Tryz.prog (fun _=>True) 265 ⟨q2m_,q11_⟩:=ctn q3_ 6 fun J x=>by kernel_rfl
@[reducible] def q1h_:Sh:=⟨[.d YTT1,.d (.int .i64),.d (.int .i64),.fn (.func 259) [] []],[],[.sl (.pr (.int .i64) YTT12),.int .i64,.int .i64],[.d (.bool)],[],0,[.bool]⟩
def q1s_:Env:=(cts [(259,(⟨q35_,q1e_⟩:Ct)),(260,(⟨q33_,q16_⟩:Ct)),(261,(⟨q2b_,q72_⟩:Ct)),(264,(⟨q2l_,q19_⟩:Ct)),(265,(⟨q2m_,q11_⟩:Ct))])
def q1r_:List (Nat×Hint):=[(15,⟨[],[10]⟩),(122,⟨[],[1,2,3,9,10,19,20,21]⟩),(125342,⟨[],[1,2,3,9,10,12,14,15,19,20,21]⟩),(501369,⟨[],[1,2,3,9,10,12,14,15,19,20,21]⟩)]
def q26_ (at' many left:Int) (t19:List YTT5) (t20 t21:Int) (met:List Bool):St:={ fr:=[(1,.d (.int .i64) at'),(2,.d (.int .i64) many),(3,.fn (.func 259) [] []),(9,.row 0),(10,.d (.int .i64) left),(19,.d YTT1 t19),(20,.d (.int .i64) t20),(21,.d (.int .i64) t21)],nt:=62,up:=[],own:=[(0,.row .bool 4 met)],nx:=1,log:=[],ln:=0 }
def qfl_ (left:Int):St:={ fr:=[(10,.d (.int .i64) left)],nt:=62,up:=[],own:=[],nx:=0,log:=[],ln:=0 }
def q3v_ (at' many left to' i:Int) (t19:List YTT5) (t20 t21:Int) (met:List Bool) (x:YaA1q0):St:={ fr:=[(1,.d (.int .i64) at'),(2,.d (.int .i64) many),(3,.fn (.func 259) [] []),(9,.row 0),(10,.d (.int .i64) left),(12,.pb 1 0),(14,.d (.int .i64) to'),(15,.d (.int .i64) i),(19,.d YTT1 t19),(20,.d (.int .i64) t20),(21,.d (.int .i64) t21)],nt:=62,up:=[],own:=[(0,.row .bool 4 met),(1,.box 168 [.d (.int .i64) x.1,.d (.int .i64) x.2.1,.d .bool x.2.2.1,.d .bool x.2.2.2.1,.d .bool x.2.2.2.2])],nx:=2,log:=[],ln:=0 }
def qg1_ (at' many left to' i:Int) (t19:List YTT5) (t20 t21:Int) (met:List Bool) (x:YaA1q0):St:={ fr:=[(1,.d (.int .i64) at'),(2,.d (.int .i64) many),(3,.fn (.func 259) [] []),(9,.row 0),(10,.d (.int .i64) left),(12,.pb 1 0),(14,.d (.int .i64) to'),(15,.d (.int .i64) i),(19,.d YTT1 t19),(20,.d (.int .i64) t20),(21,.d (.int .i64) t21)],nt:=62,up:=[],own:=[(0,.row .bool 4 met),(1,.box 168 [.d (.int .i64) x.1,.d (.int .i64) x.2.1,.d .bool x.2.2.1,.d .bool x.2.2.2.1,.d .bool x.2.2.2.2])],nx:=2,log:=[],ln:=0 }
def qan_ (j2:Int->Option (As [.bool])) (j3:Int->Int->Int->Int->Int->List YTT5->Int->Int->List Bool->YaA1q0->Option (As [.bool])) (self1:Int->Int->Int->List YTT5->Int->Int->List Bool->Option (As [.bool])) (at' many left:Int) (t19:List YTT5) (t20 t21:Int) (met:List Bool):Option (As [.bool]) :=
 if lt t21 t20=true then Option.bind (at? t19 t21) fun y=>if eqi left 0=true then j2 left else Option.bind (q72_ (y,at',add .i64 at' many,())) fun y_1=>j3 at' many left y_1.2.1 y_1.1 t19 t20 t21 met y else j2 left
def qs1_ (left:Int):Option (As [.bool]) :=
 some (eqi left 0,())
def qak_ (j4:Int->Int->Int->Int->Int->List YTT5->Int->Int->List Bool->YaA1q0->Option (As [.bool])) (self1:Int->Int->Int->List YTT5->Int->Int->List Bool->Option (As [.bool])) (self3:Int->Int->Int->Int->Int->List YTT5->Int->Int->List Bool->YaA1q0->Option (As [.bool])) (at' many left to' i:Int) (t19:List YTT5) (t20 t21:Int) (met:List Bool) (x:YaA1q0):Option (As [.bool]) :=
 if lt i to'=true then Option.bind (at? met (Sx.sub .i64 i at')) fun x_1=>Option.bind (at? met (Sx.sub .i64 i at')) fun y=>if y=true then j4 at' many left to' i t19 t20 t21 met x else Option.bind (q1e_ (x,())) fun y=>if (!y.1)=true then some (false,()) else Option.bind (at? met (Sx.sub .i64 i at')) fun x_2=>Option.bind (at? met (Sx.sub .i64 i at')) fun x_3=>j4 at' many (Sx.sub .i64 left 1) to' i t19 t20 t21 (List.set met (Int.toNat (Sx.sub .i64 i at')) true) x else self1 at' many left t19 t20 (add .i64 t21 1) met
def qlq_ (self1:Int->Int->Int->List YTT5->Int->Int->List Bool->Option (As [.bool])) (self3:Int->Int->Int->Int->Int->List YTT5->Int->Int->List Bool->YaA1q0->Option (As [.bool])) (at' many left to' i:Int) (t19:List YTT5) (t20 t21:Int) (met:List Bool) (x:YaA1q0):Option (As [.bool]) :=
 self3 at' many left to' (add .i64 i 1) t19 t20 t21 met x
def qfz_ (j1:Int->Int->Int->List YTT5->Int->Int->List Bool->Option (As [.bool])) (areas:List YTT5) (at' many:Int):Option (As [.bool]) :=
 need (ge many 0) (need (Ev.capOk many many) (need (small (Int.toNat many)) (j1 at' many many areas (Int.ofNat (List.length areas)) 0 (List.replicate (Int.toNat many) false))))
def q85_ (left:Int):Option (As [.bool]):=qs1_ left
def q61_ (u1:Int->Int->Int->List YTT5->Int->Int->List Bool->Option (As [.bool])) (u3:Int->Int->Int->Int->Int->List YTT5->Int->Int->List Bool->YaA1q0->Option (As [.bool])) (at' many left to' i:Int) (t19:List YTT5) (t20 t21:Int) (met:List Bool) (x:YaA1q0):Option (As [.bool]):=qlq_ u1 u3 at' many left to' i t19 t20 t21 met x
def q5v_ (u1:Int->Int->Int->List YTT5->Int->Int->List Bool->Option (As [.bool])) (at' many left to' i:Int) (t19:List YTT5) (t20 t21:Int) (met:List Bool) (x:YaA1q0):Option (As [.bool]) :=
 loopF (fun (self:(Int)×(Int)×(Int)×(Int)×(Int)×(List YTT5)×(Int)×(Int)×(List Bool)×YTT5->Option (As [.bool])) (s:(Int)×(Int)×(Int)×(Int)×(Int)×(List YTT5)×(Int)×(Int)×(List Bool)×YTT5)=>qak_ (q61_ u1 (fun at' many left to' i t19 t20 t21 met x=>self (at',many,left,to',i,t19,t20,t21,met,x))) u1 (fun at' many left to' i t19 t20 t21 met x=>self (at',many,left,to',i,t19,t20,t21,met,x)) s.1 s.2.1 s.2.2.1 s.2.2.2.1 s.2.2.2.2.1 s.2.2.2.2.2.1 s.2.2.2.2.2.2.1 s.2.2.2.2.2.2.2.1 s.2.2.2.2.2.2.2.2.1 s.2.2.2.2.2.2.2.2.2) 18446744073709551616 (at',many,left,to',i,t19,t20,t21,met,x)
def qb9_ (at' many left:Int) (t19:List YTT5) (t20 t21:Int) (met:List Bool):Option (As [.bool]) :=
 loopF (fun (self:(Int)×(Int)×(Int)×(List YTT5)×(Int)×(Int)×(List Bool)->Option (As [.bool])) (s:(Int)×(Int)×(Int)×(List YTT5)×(Int)×(Int)×(List Bool))=>qan_ (q85_) (q5v_ (fun at' many left t19 t20 t21 met=>self (at',many,left,t19,t20,t21,met))) (fun at' many left t19 t20 t21 met=>self (at',many,left,t19,t20,t21,met)) s.1 s.2.1 s.2.2.1 s.2.2.2.1 s.2.2.2.2.1 s.2.2.2.2.2.1 s.2.2.2.2.2.2) 18446744073709551616 (at',many,left,t19,t20,t21,met)
def qgj_ (x:As [.sl (.pr (.int .i64) YTT12),.int .i64,.int .i64]):Option (As [.bool]):=qfz_ qb9_ x.1 x.2.1 x.2.2.1
theorem qyy_  (J left):pfn Tryz.prog q1s_ 6 18446744073709551616 (Ev.get q1r_) 258 q1h_ J 15 [] (qfl_ left)=qs1_ left:=by kernel_rfl
theorem qzp_  (J w1 w3 at' many left to' i t19 t20 t21 met x):pfn Tryz.prog q1s_ 6 18446744073709551616 (Ev.get q1r_) 258 q1h_ J 501369 [w1,w3] (qg1_ at' many left to' i t19 t20 t21 met x)=qlq_ (fun at' many left t19 t20 t21 met=>w1 (q26_ at' many left t19 t20 t21 met)) (fun at' many left to' i t19 t20 t21 met x=>w3 (q3v_ at' many left to' i t19 t20 t21 met x)) at' many left to' i t19 t20 t21 met x:=by kernel_rfl
theorem qyo_  (J w1 w3 at' many left to' i t19 t20 t21 met x):pfn Tryz.prog q1s_ 6 18446744073709551616 (Ev.get q1r_) 258 q1h_ J 125342 [w1,w3] (q3v_ at' many left to' i t19 t20 t21 met x)=qak_ (fun at' many left to' i t19 t20 t21 met x=>J 501369 [w1,w3] (qg1_ at' many left to' i t19 t20 t21 met x)) (fun at' many left t19 t20 t21 met=>w1 (q26_ at' many left t19 t20 t21 met)) (fun at' many left to' i t19 t20 t21 met x=>w3 (q3v_ at' many left to' i t19 t20 t21 met x)) at' many left to' i t19 t20 t21 met x:=by kernel_rfl
theorem qzt_  (J w1 at' many left t19 t20 t21 met):pfn Tryz.prog q1s_ 6 18446744073709551616 (Ev.get q1r_) 258 q1h_ J 122 [w1] (q26_ at' many left t19 t20 t21 met)=qan_ (fun left=>J 15 [] (qfl_ left)) (fun at' many left to' i t19 t20 t21 met x=>J 125342 [w1] (q3v_ at' many left to' i t19 t20 t21 met x)) (fun at' many left t19 t20 t21 met=>w1 (q26_ at' many left t19 t20 t21 met)) at' many left t19 t20 t21 met:=by kernel_rfl
theorem qyq_ (J:Orc (As [.bool])) (x:As [.sl (.pr (.int .i64) YTT12),.int .i64,.int .i64]):rfn Tryz.prog q1s_ 6 18446744073709551616 (Ev.get q1r_) 258 q1h_ J x=qfz_ (fun at' many left t19 t20 t21 met=>J 122 [] (q26_ at' many left t19 t20 t21 met)) x.1 x.2.1 x.2.2.1:=by kernel_rfl
theorem qyr_  (left):jfn Tryz.prog q1s_ 6 18446744073709551616 (Ev.get q1r_) 258 q1h_ 15 [] (qfl_ left)=q85_ left:=by
 rw [q6_ (by decide)]
 rw [qyy_]
 rfl
theorem qz2_  (w1 w3 at' many left to' i t19 t20 t21 met x):jfn Tryz.prog q1s_ 6 18446744073709551616 (Ev.get q1r_) 258 q1h_ 501369 [w1,w3] (qg1_ at' many left to' i t19 t20 t21 met x)=q61_ (fun at' many left t19 t20 t21 met=>w1 (q26_ at' many left t19 t20 t21 met)) (fun at' many left to' i t19 t20 t21 met x=>w3 (q3v_ at' many left to' i t19 t20 t21 met x)) at' many left to' i t19 t20 t21 met x:=by
 rw [q6_ (by decide)]
 rw [qzp_]
 rfl
theorem qz8_  (w1 at' many left to' i t19 t20 t21 met x):jfn Tryz.prog q1s_ 6 18446744073709551616 (Ev.get q1r_) 258 q1h_ 125342 [w1] (q3v_ at' many left to' i t19 t20 t21 met x)=q5v_ (fun at' many left t19 t20 t21 met=>w1 (q26_ at' many left t19 t20 t21 met)) at' many left to' i t19 t20 t21 met x:=by
 rw [q6_ (by decide)]
 rw [qn_ (by kernel_rfl)]
 refine qh_ (σ:=(Int)×(Int)×(Int)×(Int)×(Int)×(List YTT5)×(Int)×(Int)×(List Bool)×YTT5) (mk:=fun s=>q3v_ s.1 s.2.1 s.2.2.1 s.2.2.2.1 s.2.2.2.2.1 s.2.2.2.2.2.1 s.2.2.2.2.2.2.1 s.2.2.2.2.2.2.2.1 s.2.2.2.2.2.2.2.2.1 s.2.2.2.2.2.2.2.2.2) (fun w3 s=>?_) 18446744073709551616 (at',many,left,to',i,t19,t20,t21,met,x)
 have e4:(fun at' many left to' i t19 t20 t21 met x=>(jfn Tryz.prog q1s_ 6 18446744073709551616 (Ev.get q1r_) 258 q1h_) 501369 [w1,w3] (qg1_ at' many left to' i t19 t20 t21 met x))=q61_ (fun at' many left t19 t20 t21 met=>w1 (q26_ at' many left t19 t20 t21 met)) (fun at' many left to' i t19 t20 t21 met x=>w3 (q3v_ at' many left to' i t19 t20 t21 met x)):=by funext at' many left to' i t19 t20 t21 met x; exact qz2_ w1 w3 at' many left to' i t19 t20 t21 met x
 refine (qyo_ _ w1 w3 s.1 s.2.1 s.2.2.1 s.2.2.2.1 s.2.2.2.2.1 s.2.2.2.2.2.1 s.2.2.2.2.2.2.1 s.2.2.2.2.2.2.2.1 s.2.2.2.2.2.2.2.2.1 s.2.2.2.2.2.2.2.2.2).trans ?_
 rw [e4]
theorem qz5_  (at' many left t19 t20 t21 met):jfn Tryz.prog q1s_ 6 18446744073709551616 (Ev.get q1r_) 258 q1h_ 122 [] (q26_ at' many left t19 t20 t21 met)=qb9_ at' many left t19 t20 t21 met:=by
 rw [q6_ (by decide)]
 rw [qn_ (by kernel_rfl)]
 refine qh_ (σ:=(Int)×(Int)×(Int)×(List YTT5)×(Int)×(Int)×(List Bool)) (mk:=fun s=>q26_ s.1 s.2.1 s.2.2.1 s.2.2.2.1 s.2.2.2.2.1 s.2.2.2.2.2.1 s.2.2.2.2.2.2) (fun w1 s=>?_) 18446744073709551616 (at',many,left,t19,t20,t21,met)
 have e2:(fun left=>(jfn Tryz.prog q1s_ 6 18446744073709551616 (Ev.get q1r_) 258 q1h_) 15 [] (qfl_ left))=q85_:=funext fun left=>qyr_ left
 have e3:(fun at' many left to' i t19 t20 t21 met x=>(jfn Tryz.prog q1s_ 6 18446744073709551616 (Ev.get q1r_) 258 q1h_) 125342 [w1] (q3v_ at' many left to' i t19 t20 t21 met x))=q5v_ (fun at' many left t19 t20 t21 met=>w1 (q26_ at' many left t19 t20 t21 met)):=by funext at' many left to' i t19 t20 t21 met x; exact qz8_ w1 at' many left to' i t19 t20 t21 met x
 refine (qzt_ _ w1 s.1 s.2.1 s.2.2.1 s.2.2.2.1 s.2.2.2.2.1 s.2.2.2.2.2.1 s.2.2.2.2.2.2).trans ?_
 rw [e2,e3]
theorem q10n_ (x:As [.sl (.pr (.int .i64) YTT12),.int .i64,.int .i64]):evT Tryz.prog q1s_ 6 18446744073709551616 (Ev.get q1r_) 258 q1h_ x=qgj_ x:=by
 have e1:(fun at' many left t19 t20 t21 met=>(jfn Tryz.prog q1s_ 6 18446744073709551616 (Ev.get q1r_) 258 q1h_) 122 [] (q26_ at' many left t19 t20 t21 met))=qb9_:=by funext at' many left t19 t20 t21 met; exact qz5_ at' many left t19 t20 t21 met
 rw [qi_,qyq_,e1]
 rfl
theorem qfi_:CtOk Tryz.prog (fun _=>True) 258 ⟨q1h_,qgj_⟩:=qc_ (q0_ q2u_ (q0_ q2v_ (q0_ qkl_ (q0_ q2h_ (q0_ q2g_ q3_))))) q10n_
end Go.Proofs.Lx
end
