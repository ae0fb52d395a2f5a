/- Proved in the last of these 12 parts (this is part 5): SlaveOwns returns true, whatever the link, the bank, the ticks and what comes. Conditions: those of the given statement, and no others. -/
import Derived.Test.YtkcmbampiiolbaaGreatPartd
import Derived.Test.YtkcmbampiiolbaaGreatParta
import Derived.Test.YtkcmbampiiolbaaGreatProg
set_option linter.unusedVariables false
set_option linter.unusedSimpArgs false
set_option linter.unusedSectionVars false
section
namespace Ev
open Go Go.RowKit Sx
abbrev Us (R:Type):=List (St->Option R)
abbrev Orc (R:Type):=Nat->Us R->St->Option R
section
variable {R:Type}
def evJ (P:Program) (env:Env) (cl:Cl R) (fuel:Nat) (hs:Nat->Option Hint) (J:Orc R):Us R->Nat->Code->St->Kt R->Option R
 | _,_,.skip,S,k=>k .n S
 | _,_,.label _,S,k=>k .n S
 | _,_,.ret,S,k=>k .r S
 | _,_,.exit id,S,k=>k (.x id) S
 | us,p,.seq x y,S,k=>match hs p with
  | some h=>evJ P env cl fuel hs J us (2 * p) x S (seqK P (some h) (J p us) k)
  | none=>evJ P env cl fuel hs J us (2 * p) x S (seqK P none (fun S'=>evJ P env cl fuel hs J us (2 * p + 1) y S' k) k)
 | us,p,.block id c,S,k=>evJ P env cl fuel hs J us (2 * p) c S (blockK id k)
 | us,p,.cond c x y,S,k=>match c with
  | .tmp t=>if t < S.nt then match get S.fr t with
   | some (.d .bool b)=>if b=true then evJ P env cl fuel hs J us (2 * p) x { S with fr:=(t,.d .bool true)::S.fr } k else evJ P env cl fuel hs J us (2 * p + 1) y { S with fr:=(t,.d .bool false)::S.fr } k
   | _=>none else none
  | .const (.bool b)=>if b=true then evJ P env cl fuel hs J us (2 * p) x S k else evJ P env cl fuel hs J us (2 * p + 1) y S k
  | _=>none
 | _,_,.region _ ⟨ops⟩ draw,S,k=>regn P env cl ops draw S (k .n)
 | us,p,.loop c,S,k=>match hs p with
  | some h=>(nrm P h S).bind (J p us)
  | none=>loopF (fun self S=>evJ P env cl fuel hs J (us++[self]) (2 * p) c S (seqK P none self k)) fuel S
 | _,_,.rangeFunc _ _ _ _,_,_=>none
 | _,_,.scope _,_,_=>none
 | _,_,.goto _,_,_=>none
 | _,_,.refuse _,_,_=>none
def lft (q p:Nat):Bool:=q / 2 ^ (q.log2 - p.log2 - 1) % 2 == 0
def In (q p:Nat):Prop:=∃ n r,q=p * 2 ^ n + r∧r < 2 ^ n
theorem In.self (p:Nat):In p p:=⟨0,0,by simp,by simp⟩
theorem In.l {q p:Nat}:In q (2 * p)->In q p:=fun ⟨n,r,h1,h2⟩=>⟨n + 1,r,by rw [h1,Nat.pow_succ]; simp only [Nat.mul_comm 2,Nat.mul_assoc],by rw [Nat.pow_succ]; omega⟩
theorem In.r {q p:Nat}:In q (2 * p + 1)->In q p:=fun ⟨n,r,h1,h2⟩=>⟨n + 1,2 ^ n + r,by
 have e:(2 * p + 1) * 2 ^ n=p * 2 ^ (n + 1) + 2 ^ n:=by rw [Nat.pow_succ,Nat.add_mul,Nat.one_mul,Nat.mul_comm 2 p,Nat.mul_assoc,Nat.mul_comm 2 (2 ^ n)]
 omega,by rw [Nat.pow_succ]; omega⟩
theorem In.cases {q p:Nat}:In q p->q=p∨In q (2 * p)∨In q (2 * p + 1):=fun ⟨n,r,h1,h2⟩=>by
 cases n with
 | zero=>left; simp at h1 h2; omega
 | succ n =>
  right
  have e:p * 2 ^ (n + 1)=2 * p * 2 ^ n:=by rw [Nat.pow_succ,Nat.mul_comm 2 p,Nat.mul_assoc,Nat.mul_comm 2 (2 ^ n)]
  have e2:2 ^ (n + 1)=2 ^ n + 2 ^ n:=by rw [Nat.pow_succ]; omega
  have e3:(2 * p + 1) * 2 ^ n=2 * p * 2 ^ n + 2 ^ n:=by rw [Nat.add_mul,Nat.one_mul]
  by_cases h:r < 2 ^ n
  ·exact .inl ⟨n,r,by omega,h⟩
  ·exact .inr ⟨n,r - 2 ^ n,by omega,by omega⟩
theorem log2_at {p n r:Nat} (hp:0 < p) (hr:r < 2 ^ n):(p * 2 ^ n + r).log2=p.log2 + n:=by
 have h2:0 < 2 ^ n:=Nat.pow_pos (by decide)
 have hne:p * 2 ^ n + r ≠ 0:=by have:=Nat.mul_pos hp h2; omega
 apply Nat.le_antisymm
 ·apply Nat.le_of_lt_succ
  rw [Nat.log2_lt hne,Nat.succ_eq_add_one,show p.log2 + n + 1=(p.log2 + 1) + n from by omega,Nat.pow_add]
  have h1:p < 2 ^ (p.log2 + 1):=(Nat.log2_lt (by omega)).1 (Nat.lt_succ_self _)
  calc p * 2 ^ n + r < p * 2 ^ n + 2 ^ n:=by omega
   _=(p + 1) * 2 ^ n:=by rw [Nat.add_mul,Nat.one_mul]
   _≤_:=Nat.mul_le_mul_right _ h1
 ·rw [Nat.le_log2 hne,Nat.pow_add]
  have h1:2 ^ p.log2≤p:=(Nat.le_log2 (by omega)).1 (Nat.le_refl _)
  have:=Nat.mul_le_mul_right (2 ^ n) h1
  omega
theorem lft_l {q p:Nat} (hp:0 < p):In q (2 * p)->lft q p=true:=fun ⟨n,r,h1,h2⟩=>by
 unfold lft
 have hl:q.log2=(2 * p).log2 + n:=by rw [h1]; exact log2_at (by omega) h2
 have hl2:(2 * p).log2=p.log2 + 1:=by have:=log2_at (p:=p) (n:=1) (r:=0) hp (by decide); rw [show 2 * p=p * 2 ^ 1 + 0 from by omega]; exact this
 have e:q.log2 - p.log2 - 1=n:=by omega
 rw [e,h1]
 have:(2 * p * 2 ^ n + r) / 2 ^ n=2 * p:=by
  rw [Nat.mul_comm (2 * p),Nat.mul_add_div (Nat.pow_pos (by decide)),Nat.div_eq_of_lt h2]; rfl
 rw [this]
 simp
theorem lft_r {q p:Nat} (hp:0 < p):In q (2 * p + 1)->lft q p=false:=fun ⟨n,r,h1,h2⟩=>by
 unfold lft
 have hl:q.log2=(2 * p + 1).log2 + n:=by rw [h1]; exact log2_at (by omega) h2
 have hl2:(2 * p + 1).log2=p.log2 + 1:=by have:=log2_at (p:=p) (n:=1) (r:=1) hp (by decide); rw [show 2 * p + 1=p * 2 ^ 1 + 1 from by omega]; exact this
 have e:q.log2 - p.log2 - 1=n:=by omega
 rw [e,h1]
 have:((2 * p + 1) * 2 ^ n + r) / 2 ^ n=2 * p + 1:=by
  rw [Nat.mul_comm (2 * p + 1),Nat.mul_add_div (Nat.pow_pos (by decide)),Nat.div_eq_of_lt h2,Nat.add_zero]
 rw [this]
 simp
theorem In.pos {q p:Nat} (hp:0 < p):In q p->p≤q:=fun ⟨n,r,h1,_⟩=>by
 have h2:0 < 2 ^ n:=Nat.pow_pos (by decide)
 have:=Nat.mul_le_mul_left p h2
 omega
def fnd (P:Program) (env:Env) (cl:Cl R) (fuel:Nat) (hs:Nat->Option Hint) (q:Nat):Code->Nat->Kt R->Us R->St->Option R
 | .seq x y,p,k,us=>if q=p then fun S=>ev P env cl fuel hs (2 * p + 1) y S k
  else if lft q p=true then fnd P env cl fuel hs q x (2 * p) (seqK P (hs p) (fun S'=>ev P env cl fuel hs (2 * p + 1) y S' k) k) us else fnd P env cl fuel hs q y (2 * p + 1) k us
 | .block id c,p,k,us=>if q=p then fun _=>none else if lft q p=true then fnd P env cl fuel hs q c (2 * p) (blockK id k) us else fun _=>none
 | .cond _ x y,p,k,us=>if q=p then fun _=>none else if lft q p=true then fnd P env cl fuel hs q x (2 * p) k us else fnd P env cl fuel hs q y (2 * p + 1) k us
 | .loop c,p,k,us=>match us with
  | []=>if q=p then fun S=>loopF (fun self S=>ev P env cl fuel hs (2 * p) c S (seqK P (hs p) self k)) fuel S else fun _=>none
  | u::us=>if q=p then fun S=>ev P env cl fuel hs (2 * p) c S (seqK P (hs p) u k) else if lft q p=true then fnd P env cl fuel hs q c (2 * p) (seqK P (hs p) u k) us else fun _=>none
 | _,_,_,_=>fun _=>none
def pce (P:Program) (env:Env) (cl:Cl R) (fuel:Nat) (hs:Nat->Option Hint) (J:Orc R) (q:Nat):Code->Nat->Kt R->Us R->Us R->St->Option R
 | .seq x y,p,k,u0,us=>if q=p then fun S=>evJ P env cl fuel hs J u0 (2 * p + 1) y S k
  else if lft q p=true then pce P env cl fuel hs J q x (2 * p) (match hs p with
   | some h=>seqK P (some h) (J p u0) k
   | none=>seqK P none (fun S'=>evJ P env cl fuel hs J u0 (2 * p + 1) y S' k) k) u0 us else pce P env cl fuel hs J q y (2 * p + 1) k u0 us
 | .block id c,p,k,u0,us=>if q=p then fun _=>none else if lft q p=true then pce P env cl fuel hs J q c (2 * p) (blockK id k) u0 us else fun _=>none
 | .cond _ x y,p,k,u0,us=>if q=p then fun _=>none else if lft q p=true then pce P env cl fuel hs J q x (2 * p) k u0 us else pce P env cl fuel hs J q y (2 * p + 1) k u0 us
 | .loop c,p,k,u0,us=>match us with
  | []=>if q=p then fun S=>loopF (fun self S=>evJ P env cl fuel hs J (u0++[self]) (2 * p) c S (seqK P (hs p) self k)) fuel S else fun _=>none
  | u::us=>if q=p then fun S=>evJ P env cl fuel hs J (u0++[u]) (2 * p) c S (seqK P (hs p) u k) else if lft q p=true then pce P env cl fuel hs J q c (2 * p) (seqK P (hs p) u k) (u0++[u]) us else fun _=>none
 | _,_,_,_,_=>fun _=>none
end
section
variable {R:Type} {P:Program} {env:Env} {cl:Cl R} {fuel:Nat} {hs:Nat->Option Hint} {J:Orc R}
theorem evJ_eq:∀ {c:Code} {p:Nat} {us:Us R} {S:St} {k:Kt R},0 < p->(∀ q us',In q p->J q (us++us')=fnd P env cl fuel hs q c p k us')->evJ P env cl fuel hs J us p c S k=ev P env cl fuel hs p c S k:=by
 intro c
 induction c with
 | skip=>intros; rfl
 | label _=>intros; rfl
 | ret=>intros; rfl
 | exit _=>intros; rfl
 | rangeFunc=>intros; rfl
 | scope=>intros; rfl
 | goto=>intros; rfl
 | refuse=>intros; rfl
 | region id ops draw=>intros; rfl
 | seq x y ihx ihy =>
  intro p us S k hp H
  have hx:∀ q us',In q (2 * p)->J q (us++us')=fnd P env cl fuel hs q x (2 * p) (seqK P (hs p) (fun S'=>ev P env cl fuel hs (2 * p + 1) y S' k) k) us':=fun q us' hq=>by
   rw [H q us' hq.l,fnd,if_neg (by have:=In.pos (by omega) hq; omega),if_pos (lft_l hp hq)]
  have hy:∀ q us',In q (2 * p + 1)->J q (us++us')=fnd P env cl fuel hs q y (2 * p + 1) k us':=fun q us' hq=>by
   rw [H q us' hq.r,fnd,if_neg (by have:=In.pos (by omega) hq; omega),if_neg (by rw [lft_r hp hq]; decide)]
  have hJ:J p us=fun S=>ev P env cl fuel hs (2 * p + 1) y S k:=by
   have:=H p [] (In.self p)
   rw [List.append_nil] at this
   rw [this,fnd,if_pos rfl]
  rw [evJ,ev]
  split
  ·rename_i h hh
   rw [hJ,<- hh]
   exact ihx (by omega) hx
  ·rename_i hh
   have:(fun S'=>evJ P env cl fuel hs J us (2 * p + 1) y S' k)=(fun S'=>ev P env cl fuel hs (2 * p + 1) y S' k):=funext fun S'=>ihy (by omega) hy
   rw [this,<- hh]
   exact ihx (by omega) hx
 | block id c ih =>
  intro p us S k hp H
  rw [evJ,ev]
  exact ih (by omega) (fun q us' hq=>by rw [H q us' hq.l,fnd,if_neg (by have:=In.pos (by omega) hq; omega),if_pos (lft_l hp hq)])
 | cond c x y ihx ihy =>
  intro p us S k hp H
  have hx:∀ q us',In q (2 * p)->J q (us++us')=fnd P env cl fuel hs q x (2 * p) k us':=fun q us' hq=>by
   rw [H q us' hq.l,fnd,if_neg (by have:=In.pos (by omega) hq; omega),if_pos (lft_l hp hq)]
  have hy:∀ q us',In q (2 * p + 1)->J q (us++us')=fnd P env cl fuel hs q y (2 * p + 1) k us':=fun q us' hq=>by
   rw [H q us' hq.r,fnd,if_neg (by have:=In.pos (by omega) hq; omega),if_neg (by rw [lft_r hp hq]; decide)]
  have e1:∀ S,evJ P env cl fuel hs J us (2 * p) x S k=ev P env cl fuel hs (2 * p) x S k:=fun S=>ihx (by omega) hx
  have e2:∀ S,evJ P env cl fuel hs J us (2 * p + 1) y S k=ev P env cl fuel hs (2 * p + 1) y S k:=fun S=>ihy (by omega) hy
  unfold evJ ev
  simp only [e1,e2]
  all_goals rfl
 | loop c ih =>
  intro p us S k hp H
  have hJ:J p us=fun S=>loopF (fun self S=>ev P env cl fuel hs (2 * p) c S (seqK P (hs p) self k)) fuel S:=by
   have:=H p [] (In.self p)
   rw [List.append_nil] at this
   rw [this,fnd,if_pos rfl]
  rw [evJ,ev]
  split
  ·rename_i h hh
   rw [hJ,hh]
  ·rename_i hh
   have:(fun self S=>evJ P env cl fuel hs J (us++[self]) (2 * p) c S (seqK P none self k))=(fun self S=>ev P env cl fuel hs (2 * p) c S (seqK P (hs p) self k)):=by
    funext self S
    rw [hh]
    refine ih (by omega) (fun q us' hq=>?_)
    rw [List.append_assoc,H q _ hq.l,List.singleton_append,fnd,if_neg (by have:=In.pos (by omega) hq; omega),if_pos (lft_l hp hq),hh]
   rw [this,hh]
theorem pce_eq {q:Nat}:∀ {c:Code} {p:Nat} {u0:Us R} {k:Kt R} {us:Us R},0 < p->In q p->(∀ q us',In q p->J q (u0++us')=fnd P env cl fuel hs q c p k us')->pce P env cl fuel hs J q c p k u0 us=fnd P env cl fuel hs q c p k us:=by
 intro c
 induction c with
 | skip=>intros; rfl
 | label _=>intros; rfl
 | ret=>intros; rfl
 | exit _=>intros; rfl
 | rangeFunc=>intros; rfl
 | scope=>intros; rfl
 | goto=>intros; rfl
 | refuse=>intros; rfl
 | region id ops draw=>intros; rfl
 | seq x y ihx ihy =>
  intro p us k us2 hp hq H
  have hx:∀ q us',In q (2 * p)->J q (us++us')=fnd P env cl fuel hs q x (2 * p) (seqK P (hs p) (fun S'=>ev P env cl fuel hs (2 * p + 1) y S' k) k) us':=fun q us' hq=>by
   rw [H q us' hq.l,fnd,if_neg (by have:=In.pos (by omega) hq; omega),if_pos (lft_l hp hq)]
  have hy:∀ q us',In q (2 * p + 1)->J q (us++us')=fnd P env cl fuel hs q y (2 * p + 1) k us':=fun q us' hq=>by
   rw [H q us' hq.r,fnd,if_neg (by have:=In.pos (by omega) hq; omega),if_neg (by rw [lft_r hp hq]; decide)]
  have hJ:J p us=fun S=>ev P env cl fuel hs (2 * p + 1) y S k:=by
   have:=H p [] (In.self p)
   rw [List.append_nil] at this
   rw [this,fnd,if_pos rfl]
  have he:(fun S'=>evJ P env cl fuel hs J us (2 * p + 1) y S' k)=(fun S'=>ev P env cl fuel hs (2 * p + 1) y S' k):=funext fun S'=>evJ_eq (by omega) hy
  rw [pce,fnd]
  rcases hq.cases with h | h | h
  ·rw [if_pos h,if_pos h]; exact he
  ·have hne:q ≠ p:=by have:=In.pos (by omega) h; omega
   rw [if_neg hne,if_neg hne,if_pos (lft_l hp h),if_pos (lft_l hp h)]
   have hk:(match hs p with
    | some h=>seqK P (some h) (J p us) k
    | none=>seqK P none (fun S'=>evJ P env cl fuel hs J us (2 * p + 1) y S' k) k)=seqK P (hs p) (fun S'=>ev P env cl fuel hs (2 * p + 1) y S' k) k:=by
    split
    ·rename_i hn hh; rw [hJ,hh]
    ·rename_i hh; rw [he,hh]
   rw [hk]
   exact ihx (by omega) h hx
  ·have hne:q ≠ p:=by have:=In.pos (by omega) h; omega
   rw [if_neg hne,if_neg hne,if_neg (by rw [lft_r hp h]; decide),if_neg (by rw [lft_r hp h]; decide)]
   exact ihy (by omega) h hy
 | block id c ih =>
  intro p us k us2 hp hq H
  rw [pce,fnd]
  rcases hq.cases with h | h | h
  ·rw [if_pos h,if_pos h]
  ·have hne:q ≠ p:=by have:=In.pos (by omega) h; omega
   rw [if_neg hne,if_neg hne,if_pos (lft_l hp h),if_pos (lft_l hp h)]
   exact ih (by omega) h (fun q us' hq=>by rw [H q us' hq.l,fnd,if_neg (by have:=In.pos (by omega) hq; omega),if_pos (lft_l hp hq)])
  ·have hne:q ≠ p:=by have:=In.pos (by omega) h; omega
   rw [if_neg hne,if_neg hne,if_neg (by rw [lft_r hp h]; decide),if_neg (by rw [lft_r hp h]; decide)]
 | cond c x y ihx ihy =>
  intro p us k us2 hp hq H
  have hx:∀ q us',In q (2 * p)->J q (us++us')=fnd P env cl fuel hs q x (2 * p) k us':=fun q us' hq=>by
   rw [H q us' hq.l,fnd,if_neg (by have:=In.pos (by omega) hq; omega),if_pos (lft_l hp hq)]
  have hy:∀ q us',In q (2 * p + 1)->J q (us++us')=fnd P env cl fuel hs q y (2 * p + 1) k us':=fun q us' hq=>by
   rw [H q us' hq.r,fnd,if_neg (by have:=In.pos (by omega) hq; omega),if_neg (by rw [lft_r hp hq]; decide)]
  rw [pce,fnd]
  rcases hq.cases with h | h | h
  ·rw [if_pos h,if_pos h]
  ·have hne:q ≠ p:=by have:=In.pos (by omega) h; omega
   rw [if_neg hne,if_neg hne,if_pos (lft_l hp h),if_pos (lft_l hp h)]
   exact ihx (by omega) h hx
  ·have hne:q ≠ p:=by have:=In.pos (by omega) h; omega
   rw [if_neg hne,if_neg hne,if_neg (by rw [lft_r hp h]; decide),if_neg (by rw [lft_r hp h]; decide)]
   exact ihy (by omega) h hy
 | loop c ih =>
  intro p us k us2 hp hq H
  have hb:∀ (u:St->Option R) q us',In q (2 * p)->J q ((us++[u])++us')=fnd P env cl fuel hs q c (2 * p) (seqK P (hs p) u k) us':=fun u q us' hq=>by
   rw [List.append_assoc,H q _ hq.l,List.singleton_append,fnd,if_neg (by have:=In.pos (by omega) hq; omega),if_pos (lft_l hp hq)]
  have he:∀ u S,evJ P env cl fuel hs J (us++[u]) (2 * p) c S (seqK P (hs p) u k)=ev P env cl fuel hs (2 * p) c S (seqK P (hs p) u k):=fun u S=>evJ_eq (by omega) (hb u)
  cases us2 with
  | nil =>
   rw [pce,fnd]
   split
   ·simp only [he]
   ·rfl
  | cons u us2 =>
   rw [pce,fnd]
   rcases hq.cases with h | h | h
   ·rw [if_pos h,if_pos h]
    simp only [he]
   ·have hne:q ≠ p:=by have:=In.pos (by omega) h; omega
    rw [if_neg hne,if_neg hne,if_pos (lft_l hp h),if_pos (lft_l hp h)]
    exact ih (by omega) h (hb u)
   ·have hne:q ≠ p:=by have:=In.pos (by omega) h; omega
    rw [if_neg hne,if_neg hne,if_neg (by rw [lft_r hp h]; decide),if_neg (by rw [lft_r hp h]; decide)]
theorem qi_ {σ:Type} {mk:σ->St} {F:(St->Option R)->St->Option R} {G:(σ->Option R)->σ->Option R} (h:∀ g s,F g (mk s)=G (fun t=>g (mk t)) s):∀ n s,loopF F n (mk s)=loopF G n s
 | 0,s=>rfl
 | n + 1,s=>by
  have ih:=qi_ h n
  show F (loopF F n) (mk s)=G (loopF G n) s
  rw [h]
  congr 1
  funext t
  exact ih t
theorem In.one:∀ {q:Nat},0 < q->In q 1:=fun {q} h=>⟨q.log2,q - 2 ^ q.log2,by
  have:=(Nat.le_log2 (n:=q) (k:=q.log2) (by omega)).1 (Nat.le_refl _)
  omega,by
  have h1:q < 2 ^ (q.log2 + 1):=(Nat.log2_lt (by omega)).1 (Nat.lt_succ_self _)
  rw [Nat.pow_succ] at h1
  omega⟩
def jfn (P:Program) (env:Env) (d fuel:Nat) (hs:Nat->Option Hint) (f:FuncId) (sh:Sh):Orc (As sh.rs):=fun q us =>
 match P.funcs[f]? with
 | some fn=>match fn.body with
  | some c=>fnd P env (evC P env fuel (eqAs sh.rs) d) fuel hs q c 1 (topK P fn sh) us
  | none=>fun _=>none
 | none=>fun _=>none
def pfn (P:Program) (env:Env) (d fuel:Nat) (hs:Nat->Option Hint) (f:FuncId) (sh:Sh) (J:Orc (As sh.rs)):Orc (As sh.rs):=fun q us =>
 match P.funcs[f]? with
 | some fn=>match fn.body with
  | some c=>pce P env (evC P env fuel (eqAs sh.rs) d) fuel hs J q c 1 (topK P fn sh) [] us
  | none=>fun _=>none
 | none=>fun _=>none
def rfn (P:Program) (env:Env) (d fuel:Nat) (hs:Nat->Option Hint) (f:FuncId) (sh:Sh) (J:Orc (As sh.rs)) (x:As sh.ps):Option (As sh.rs) :=
 match P.funcs[f]? with
 | some fn=>match fn.body with
  | some c=>match fA sh.as (en 0 sh.es) (dvAs sh.ps x) with
   | some (ss,own)=>if ss.length≤fn.ntmps∧fn.results.size≤5 then evJ P env (evC P env fuel (eqAs sh.rs) d) fuel hs J [] 1 c { fr:=parF 0 ss,nt:=fn.ntmps,up:=[],own:=own,nx:=sh.es.length,log:=[],ln:=sh.es.length } (topK P fn sh) else none
   | none=>none
  | none=>none
 | none=>none
theorem q8_ {d:Nat} {f:FuncId} {sh:Sh} {q:Nat} {us:Us (As sh.rs)} (hq:0 < q):jfn P env d fuel hs f sh q us=pfn P env d fuel hs f sh (jfn P env d fuel hs f sh) q us:=by
 show _=(match P.funcs[f]? with
  | some fn=>match fn.body with
   | some c=>pce P env (evC P env fuel (eqAs sh.rs) d) fuel hs (jfn P env d fuel hs f sh) q c 1 (topK P fn sh) [] us
   | none=>fun _=>none
  | none=>fun _=>none)
 split
 ·rename_i fn hf
  split
  ·rename_i c hb
   have e:∀ q us,jfn P env d fuel hs f sh q us=fnd P env (evC P env fuel (eqAs sh.rs) d) fuel hs q c 1 (topK P fn sh) us:=fun q us=>by
    unfold jfn
    split
    ·rename_i fn' hf'
     rw [hf] at hf'
     cases hf'
     split
     ·rename_i c' hb'
      rw [hb] at hb'
      cases hb'
      rfl
     ·rename_i hb'
      rw [hb] at hb'
      cases hb'
    ·rename_i hf'
     rw [hf] at hf'
     cases hf'
   rw [pce_eq (by decide) (In.one hq) (fun q us _=>e q us),e]
  ·rename_i hb
   unfold jfn
   rw [hf]
   simp only [hb]
 ·rename_i hf
  unfold jfn
  rw [hf]
theorem q5_ {d:Nat} {f:FuncId} {sh:Sh} {x:As sh.ps}:evT P env d fuel hs f sh x=rfn P env d fuel hs f sh (jfn P env d fuel hs f sh) x:=by
 cases hf:P.funcs[f]? with
 | none=>unfold evT rfn; rw [hf]
 | some fn =>
  cases hb:fn.body with
  | none=>unfold evT rfn; rw [hf]; simp only [hb]
  | some c =>
   have e:∀ q us,jfn P env d fuel hs f sh q us=fnd P env (evC P env fuel (eqAs sh.rs) d) fuel hs q c 1 (topK P fn sh) us:=fun q us=>by
    unfold jfn; rw [hf]; simp only [hb]
   unfold evT rfn
   rw [hf]
   simp only [hb]
   have e2:∀ S,evJ P env (evC P env fuel (eqAs sh.rs) d) fuel hs (jfn P env d fuel hs f sh) [] 1 c S (topK P fn sh)=ev P env (evC P env fuel (eqAs sh.rs) d) fuel hs 1 c S (topK P fn sh):=fun S=>evJ_eq (by decide) (fun q us _=>by rw [List.nil_append]; exact e q us)
   first
   | (simp only [e2]; done)
   | (simp only [e2]; rfl)
def lpAt (q:Nat):Code->Nat->Nat->Bool
 | .seq x y,p,n=>if q=p then false else if lft q p=true then lpAt q x (2 * p) n else lpAt q y (2 * p + 1) n
 | .block _ c,p,n=>if q=p then false else if lft q p=true then lpAt q c (2 * p) n else false
 | .cond _ x y,p,n=>if q=p then false else if lft q p=true then lpAt q x (2 * p) n else lpAt q y (2 * p + 1) n
 | .loop c,p,n=>match n with
  | 0=>decide (q=p)
  | n + 1=>if q=p then false else if lft q p=true then lpAt q c (2 * p) n else false
 | _,_,_=>false
def lpf (P:Program) (f:FuncId) (q n:Nat):Bool:=match P.funcs[f]? with
 | some fn=>match fn.body with
  | some c=>lpAt q c 1 n
  | none=>false
 | none=>false
theorem pce_loop {q:Nat}:∀ {c:Code} {p:Nat} {u0 us:Us R} {k:Kt R} {S:St},lpAt q c p us.length=true ->
  pce P env cl fuel hs J q c p k u0 us S=loopF (fun self S=>pce P env cl fuel hs J q c p k u0 (us++[self]) S) fuel S:=by
 intro c
 induction c with
 | skip | label _ | ret | exit _ | rangeFunc | scope | goto | refuse | region _ _ _=>intro p u0 us k S h; cases h
 | seq x y ihx ihy =>
  intro p u0 us k S h
  unfold lpAt at h
  split at h
  ·cases h
  ·rename_i hne
   split at h
   ·rename_i hl
    simp only [pce,if_neg hne,if_pos hl]
    exact ihx h
   ·rename_i hl
    simp only [pce,if_neg hne,if_neg hl]
    exact ihy h
 | block id c ih =>
  intro p u0 us k S h
  unfold lpAt at h
  split at h
  ·cases h
  ·rename_i hne
   split at h
   ·rename_i hl
    simp only [pce,if_neg hne,if_pos hl]
    exact ih h
   ·cases h
 | cond c x y ihx ihy =>
  intro p u0 us k S h
  unfold lpAt at h
  split at h
  ·cases h
  ·rename_i hne
   split at h
   ·rename_i hl
    simp only [pce,if_neg hne,if_pos hl]
    exact ihx h
   ·rename_i hl
    simp only [pce,if_neg hne,if_neg hl]
    exact ihy h
 | loop c ih =>
  intro p u0 us k S h
  cases us with
  | nil =>
   have h:decide (q=p)=true:=h
   have h:=of_decide_eq_true h
   simp only [pce,List.nil_append,if_pos h]
  | cons u us =>
   have h:(if q=p then false else if lft q p=true then lpAt q c (2 * p) us.length else false)=true:=h
   split at h
   ·cases h
   ·rename_i hne
    split at h
    ·rename_i hl
     simp only [pce,List.cons_append,if_neg hne,if_pos hl]
     exact ih h
    ·cases h
theorem qr_ {d:Nat} {f:FuncId} {sh:Sh} {J:Orc (As sh.rs)} {q:Nat} {us:Us (As sh.rs)} (h:lpf P f q us.length=true) (S:St) :
  pfn P env d fuel hs f sh J q us S=loopF (fun self S=>pfn P env d fuel hs f sh J q (us++[self]) S) fuel S:=by
 cases hf:P.funcs[f]? with
 | none=>unfold lpf at h; rw [hf] at h; cases h
 | some fn =>
  cases hb:fn.body with
  | none=>unfold lpf at h; rw [hf] at h; simp only [hb] at h; cases h
  | some c =>
   unfold lpf at h
   rw [hf] at h
   simp only [hb] at h
   unfold pfn
   rw [hf]
   simp only [hb]
   exact pce_loop h
end
def bxSh:Sh:=⟨[],[],[],[],[],0,[]⟩
def bxCt:Ct:=⟨bxSh,fun _=>none⟩
theorem bx_ok {P:Program} {I:World->Prop} {f:FuncId}:CtOk P I f bxCt:=fun _ _ _ _ _ _ _ _ h=>by cases h
end Ev
end
section
namespace Rw
open Go Ev Sx Go.RowKit
def dgo (g:TypeId->Option Ty) (P:Program):Nat->List Field->Option (List Ty)
 | _,[]=>some []
 | off,f::r=>(g f.type).bind fun a=>if f.offset=off∧P.cellsOf f.type=a.size then (dgo g P (off + a.size) r).map fun q=>a::q else none
def sumS:List Ty->Nat
 | []=>0
 | a::r=>a.size + sumS r
def dty (P:Program):Nat->TypeId->Option Ty
 | 0,_=>none
 | n + 1,t=>match P.underlying t with
  | some (.int k)=>some (.int k)
  | some .bool=>some .bool
  | some .string=>some .str
  | some (.slice e)=>(dty P n e).bind fun y=>if P.cellsOf e=y.size∧y.size ≠ 0 then some (.sl y) else none
  | some (.struct fs)=>(dgo (dty P n) P 0 fs.toList).bind fun l=>if P.cellsOf t=sumS l then some (strTy l) else none
  | _=>none
def okV:(t:Ty)->Vl t->Prop
 | .int k,x=>(Lit.int k x).wf=true
 | .bool,_=>True
 | .str,x=>x.length≤maxLen
 | .sl t,xs=>xs.length≤maxLen∧∀ x ∈ xs,okV t x
 | .pr a b,x=>okV a x.1∧okV b x.2
 | .wr a,x=>okV a x
 | .un,_=>True
 | .ar n t,xs=>xs.length=n∧∀ x ∈ xs,okV t x
section
variable {H:Type} {enc:TypeId×Value->H} {P:Program} {w:World} {base:Nat} {sp:Nat->Bool} {held:Bool}
theorem rp_len {t:Ty} {L:Lx} {cs:List Value} {x:Vl t} (h:(rp t).rel L w cs x):cs.length=t.size:=by rw [(rp t).len h,qq_]
def FieldOk (w:World) (cs:List Value) (off:Nat) (a:Ty):Prop:=∃ v:Vl a,(rp a).rel [] w ((cs.drop off).take a.size) v∧okV a v
def FieldsOk (w:World) (cs:List Value):Nat->List Ty->Prop
 | _,[]=>True
 | off,a::r=>FieldOk w cs off a∧FieldsOk w cs (off + a.size) r
theorem prs_ok {cs:List Value}:∀ (r:List Ty) (a:Ty) (off:Nat),FieldsOk w cs off (a::r)->off + a.size + sumS r=cs.length->∃ v:Vl (strTy.prs a r),(rp (strTy.prs a r)).rel [] w (cs.drop off) v∧okV (strTy.prs a r) v
 | [],a,off,⟨⟨v,h1,h2⟩,_⟩,hl=>by
  have:(cs.drop off).take a.size=cs.drop off:=List.take_of_length_le (by simp [sumS] at hl ⊢; omega)
  rw [this] at h1
  exact ⟨v,h1,h2⟩
 | b::r,a,off,⟨⟨v,h1,h2⟩,h3⟩,hl=>by
  obtain ⟨u,h4,h5⟩:=prs_ok r b (off + a.size) h3 (by simp [sumS] at hl ⊢; omega)
  refine ⟨(v,u),⟨(cs.drop off).take a.size,cs.drop (off + a.size),?_,h1,h4⟩,h2,h5⟩
  rw [<- List.drop_drop]
  exact (List.take_append_drop _ _).symm
theorem str_ok {cs:List Value}:∀ (l:List Ty),FieldsOk w cs 0 l->sumS l=cs.length->∃ v:Vl (strTy l),(rp (strTy l)).rel [] w cs v∧okV (strTy l) v
 | [],_,hl=>⟨(),(by show cs=[]; exact List.eq_nil_of_length_eq_zero hl.symm),trivial⟩
 | [a],⟨⟨v,h1,h2⟩,_⟩,hl=>by
  have:(cs.drop 0).take a.size=cs:=by rw [List.drop_zero]; exact List.take_of_length_le (by simp [sumS] at hl; omega)
  rw [this] at h1
  exact ⟨v,h1,h2⟩
 | a::b::r,h,hl=>prs_ok (b::r) a 0 h (by simp [sumS] at hl ⊢; omega)
theorem dgo_ok {g:TypeId->Option Ty} {cs:List Value} (ih:∀ t y n c x,g t=some y->DataW.trod enc P w base sp held n t c=some x->∃ v:Vl y,(rp y).rel [] w c v∧okV y v) (n:Nat) :
  ∀ (fs:List Field) (off:Nat) (l:List Ty),dgo g P off fs=some l->(∀ f ∈ fs,∃ x,DataW.trod enc P w base sp held n f.type ((cs.drop f.offset).take (P.cellsOf f.type))=some x)->FieldsOk w cs off l
 | [],off,l,h,_=>by cases h; trivial
 | f::r,off,l,h,hx=>by
  obtain ⟨a,h1,h⟩:=Option.bind_eq_some_iff.1 h
  split at h
  ·rename_i hc
   obtain ⟨q,h2,rfl⟩:=Option.map_eq_some_iff.1 h
   obtain ⟨x,h3⟩:=hx f (List.mem_cons_self ..)
   obtain ⟨v,h4,h5⟩:=ih _ _ _ _ _ h1 h3
   rw [hc.1,hc.2] at h4
   exact ⟨⟨v,h4,h5⟩,dgo_ok ih n r _ _ h2 fun f hf=>hx f (List.mem_cons_of_mem _ hf)⟩
  ·cases h
theorem cells_at {a:Addr} {n:Nat} {cs:List Value} (h:w.cells? base a n=some cs):cs.length=n∧∀ j v,cs[j]? = some v->w.cell? (a.add j)=some v:=by
 unfold World.cells? at h
 split at h
 ·have hl:cs.length=n:=by simpa using mapM_some_length h
  refine ⟨hl,fun j v hj=>?_⟩
  have hjl:j < n:=by rw [<- hl]; exact (List.getElem?_eq_some_iff.1 hj).1
  have:=mapM_some_get h j j (by simp [hjl])
  rw [this,hj]
 ·cases h
theorem cell_plain {a:Addr} {v:Value} (h:w.cell? a=some v):a.spot=none∧a.block < w.heap.size:=by
 unfold World.cell? at h
 split at h
 ·rename_i hb
  split at h
  ·cases h
  ·rename_i hs
   exact ⟨by simpa using hs,(Array.getElem?_eq_some_iff.1 hb).1⟩
 ·cases h
theorem add_plain (b o n:Nat):(⟨b,o,none⟩:Addr).add n=⟨b,o + n,none⟩:=by
 unfold Addr.add
 split
 ·rename_i h; subst h; rfl
 ·rfl
theorem add_zero (a:Addr):a.add 0=a:=by unfold Addr.add; rw [if_pos rfl]
theorem trod_ok:∀ (m:Nat) (t:TypeId) (y:Ty) (n:Nat) (cs:List Value) (x:DataW H×List MemPlace),dty P m t=some y->DataW.trod enc P w base sp held n t cs=some x->∃ v:Vl y,(rp y).rel [] w cs v∧okV y v
 | 0,_,_,_,_,_,h,_=>by cases h
 | m + 1,t,y,n,cs,x,h,hx=>by
  unfold dty at h
  split at h
  ·rename_i k ht
   cases h
   obtain ⟨z,rfl,_,hw⟩:=DataW.trod_int ht hx
   exact ⟨z,rfl,hw⟩
  ·rename_i ht
   cases h
   obtain ⟨b,rfl,_⟩:=DataW.trod_bool ht hx
   exact ⟨b,rfl,trivial⟩
  ·rename_i ht
   cases h
   obtain ⟨⟨⟨s⟩⟩,rfl,_,hs⟩:=DataW.trod_string ht hx
   exact ⟨s,rfl,hs⟩
  ·rename_i e ht
   obtain ⟨y',h1,h⟩:=Option.bind_eq_some_iff.1 h
   split at h
   ·rename_i hc
    cases h
    rcases DataW.trod_slice ht hx with ⟨rfl,_⟩ | ⟨a,len,cap,elems,rest,n',_,rfl,_,_,hlc,hcm,hel,hat,_⟩
    ·exact ⟨[],slice_nil _ _ _ _ _,by simp,fun x hx=>by cases hx⟩
    ·have each:∀ i:Fin len,∃ v:Vl y',(∃ c,(rp y').rel [] w c v∧c.length=y'.size∧∀ j u,c[j]? = some u->w.cell? ((a.add (i.1 * P.cellsOf e)).add j)=some u)∧okV y' v:=fun i=>by
      have hi:=hat i.1 i.2
      have:∃ z,elems[i.1]? = some z:=⟨_,List.getElem?_eq_getElem (by rw [hel]; exact i.2)⟩
      obtain ⟨z,hz⟩:=this
      rw [hz] at hi
      obtain ⟨c,hc1,hc2⟩:=Option.bind_eq_some_iff.1 hi
      obtain ⟨v,hv1,hv2⟩:=trod_ok m e y' n' c z h1 hc2
      exact ⟨v,⟨c,hv1,rp_len hv1,(cells_at hc1).2⟩,hv2⟩
     refine ⟨List.ofFn fun i=>Classical.choose (each i),⟨some a,cap,by simp,by simp; omega,fun hne=>?_⟩,by simp; omega,fun v hv=>?_⟩
     ·have hlen:0 < len:=by
       rcases Nat.eq_zero_or_pos len with h0 | h0
       ·subst h0; simp at hne
       ·exact h0
      obtain ⟨⟨c,_,hcl,hcc⟩,_⟩:=Classical.choose_spec (each ⟨0,hlen⟩)
      have hpos:0 < c.length:=by have:=hc.2; omega
      have h0:=cell_plain (hcc 0 c[0] (List.getElem?_eq_getElem hpos))
      rw [show (⟨0,hlen⟩:Fin len).1 * P.cellsOf e=0 from Nat.zero_mul _,add_zero,add_zero] at h0
      obtain ⟨b,o,s⟩:=a
      obtain ⟨hs,hb⟩:=h0
      have hs:s=none:=hs
      subst hs
      refine ⟨b,o,rfl,fun i x hi=>?_⟩
      have hil:i < len:=by have:=(List.getElem?_eq_some_iff.1 hi).1; simpa using this
      have hxe:x=Classical.choose (each ⟨i,hil⟩):=by
       rw [List.getElem?_ofFn,dif_pos hil] at hi
       exact (Option.some.inj hi).symm
      obtain ⟨⟨c,hc1,_,hc3⟩,_⟩:=Classical.choose_spec (each ⟨i,hil⟩)
      subst hxe
      refine ⟨hb,by simp,c,hc1,fun j v hj=>?_⟩
      have:=hc3 j v hj
      rw [qq_,<- hc.1]
      rw [add_plain,add_plain] at this
      exact this
     ·obtain ⟨i,rfl⟩:=List.mem_ofFn.1 hv
      exact (Classical.choose_spec (each i)).2
   ·cases h
  ·rename_i fs ht
   obtain ⟨l,h1,h⟩:=Option.bind_eq_some_iff.1 h
   split at h
   ·rename_i hc
    cases h
    obtain ⟨xs,n',_,_,hl,hxl,hf⟩:=DataW.trod_struct ht hx
    refine str_ok l ?_ (by rw [hl,hc])
    refine dgo_ok (fun t y n c x h1 h2=>trod_ok m t y n c x h1 h2) n' fs.toList 0 l h1 fun f hfm=>?_
    obtain ⟨i,hi,rfl⟩:=List.getElem_of_mem hfm
    have hi':i < fs.size:=by simpa using hi
    have:=hf i fs[i] (Array.getElem?_eq_getElem hi')
    rw [List.getElem?_eq_getElem (by omega)] at this
    exact ⟨_,this⟩
   ·cases h
  ·cases h
theorem val_of {t:TypeId} {y:Ty} {m:Nat} {v:Value} {d:DataW H} {ps:List MemPlace} {r:Reach} {b':Nat} {w':World} (hd:dty P (m + 1) t=some y) (ho:Value.okWide P w' r b' t v) (h:DataW.Trod enc P w base sp held t v d ps):∃ x:Vl y,Den [] [] w (.d y x) v∧okV y x:=by
 obtain ⟨n,hn⟩:=h
 obtain ⟨x,h1,h2⟩:=trod_ok (m + 1) t y n _ _ hd hn
 refine ⟨x,⟨v.cells.toList,h1,?_⟩,h2⟩
 have one:∀ u:Value,v=u->u.cells = #[u]->y.agg=false->v=(rp y).val v.cells.toList:=fun u e hc ha=>by
  subst e
  simp [Rp.val,q2v_,ha,hc]
 unfold dty at hd
 split at hd
 ·rename_i k ht
  cases hd
  obtain ⟨z,rfl⟩:=Go.WideShapes.okWide_int ht ho
  exact one _ rfl rfl rfl
 ·rename_i ht
  cases hd
  obtain ⟨b,hb,_⟩:=DataW.trod_bool ht hn
  have:∃ b,v = .bool b:=by
   simp only [Value.okWide,ht,Cell.okWide] at ho
   cases v <;> simp_all [Cell.ok]
  obtain ⟨b,rfl⟩:=this
  exact one _ rfl rfl rfl
 ·rename_i ht
  cases hd
  obtain ⟨s,rfl⟩:=Go.WideShapes.okWide_string ht ho
  exact one _ rfl rfl rfl
 ·rename_i e ht
  obtain ⟨y',h3,hd⟩:=Option.bind_eq_some_iff.1 hd
  split at hd
  ·cases hd
   obtain ⟨a,len,cap,rfl⟩:=Go.WideShapes.okWide_slice ht ho
   exact one _ rfl rfl rfl
  ·cases hd
 ·rename_i fs ht
  obtain ⟨l,h3,hd⟩:=Option.bind_eq_some_iff.1 hd
  split at hd
  ·cases hd
   simp only [Value.okWide,ht] at ho
   obtain ⟨cs,rfl,_,_⟩:=ho
   have ha:(strTy l).agg=true:=by
    match l with
    | []=>rfl
    | [a]=>rfl
    | a::b::q=>rfl
   simp [Rp.val,q2v_,ha,Value.cells]
  ·cases hd
 ·cases hd
end
end Rw
end
section
namespace Rw
open Go Ev Sx Go.RowKit
theorem below_of {W W':World} (h:Blw (Bo [] [] W) W W'):Below W.heap.size W W' :=
 ⟨h.os,h.tape,h.output,h.size,fun k hk=>h.block k hk (by
  rintro (h | h)
  ·cases h
  ·omega)⟩
theorem lok0 (W:World):LOk (Bo [] [] W) (lx [] []) [] W:=⟨.nil,fun k h=>(by cases h),fun k h=>(by cases h),fun k h=>.inr h,fun k h=>(by cases h)⟩
theorem law_calls {P:Program} {f:FuncId} {ts:List TS} {ps:List Ty} {m:As ps->Option (Bool×Unit)} (h:CtOk P (fun _=>True) f ⟨⟨ts,[],ps,[.d .bool],[],0,[.bool]⟩,m⟩) {x:As ps} (hm:m x=some (true,())) {ss:List SV} (hA:fA ts [] (dvAs ps x)=some (ss,[])) {vs:List Value} {W:World} (hd:DenL [] [] W ss vs) :
  Calls P f vs.toArray W (fun e W'=>∃ v,e = .returned v∧v = .bool true∧Below W.heap.size W W'):=by
 refine (h [] W [] x (true,()) ss [] vs hm hA rfl (fun _ _=>trivial) (lok0 W) (fun e he=>by cases he) hd).mono fun e w' he=>?_
 obtain ⟨us,rfl,pl',rr,own',h1,_,_,h4,_,_,h7⟩:=he
 have h1:some ([SV.d .bool true],([]:List (Nat×Ent)))=some (rr,own'):=h1
 cases h1
 obtain ⟨v,q,rfl,h8,h9⟩:=h7
 cases h9
 exact ⟨_,rfl,den_bool h8,below_of h4⟩
def okA:(ps:List Ty)->As ps->Prop
 | [],_=>True
 | a::r,x=>okV a x.1∧okA r x.2
def dS:(ps:List Ty)->As ps->List SV
 | [],_=>[]
 | a::r,x=>.d a x.1::dS r x.2
theorem fL_d:∀ (ps:List Ty) (x:As ps),fL (ps.map TS.d) (dvAs ps x)=some (dS ps x,[])
 | [],_=>rfl
 | a::r,x=>by
  show (fS (.d a) (⟨a,x.1⟩::dvAs r x.2)).bind _=_
  unfold fS
  simp only [q7r_,Option.map_some,Option.bind_some]
  rw [fL_d r x.2]
  rfl
theorem fA_d (ps:List Ty) (x:As ps):fA (ps.map TS.d) [] (dvAs ps x)=some (dS ps x,[]):=by
 unfold fA
 rw [fL_d,Option.bind_some]
 rfl
def dtys (P:Program):List TypeId->Option (List Ty)
 | []=>some []
 | t::r=>(dty P 13 t).bind fun y=>(dtys P r).map fun q=>y::q
theorem law_den {P:Program} {H:Type} {enc:TypeId×Value->H} {W:World} {b0:Nat} {sp:Nat->Bool} {held:Bool}:∀ {ts:List TypeId} {ps:List Ty} {vs:List Value} {ds:List (DataW H)} {p:List MemPlace},dtys P ts=some ps ->
  (∀ (j:Nat) t v,ts[j]? = some t->vs[j]? = some v->∃ r b w',Value.okWide P w' r b t v)->DataW.TrodAll enc P W b0 sp held ts vs ds p->∃ x:As ps,okA ps x∧DenL [] [] W (dS ps x) vs
 | [],ps,vs,ds,p,h,_,hA=>by
  cases h
  cases vs with
  | nil=>exact ⟨(),trivial,rfl⟩
  | cons v vs=>cases ds <;> exact absurd hA (by simp [DataW.TrodAll])
 | t::ts,ps,vs,ds,p,h,ho,hA=>by
  obtain ⟨y,h1,h⟩:=Option.bind_eq_some_iff.1 h
  obtain ⟨q,h2,rfl⟩:=Option.map_eq_some_iff.1 h
  match vs,ds,hA with
  | v::vs,d::ds,hA =>
   obtain ⟨p1,p2,h3,h4,_⟩:=hA
   obtain ⟨r,b,w',h5⟩:=ho 0 t v rfl rfl
   obtain ⟨x,hx1,hx2⟩:=val_of h1 h5 h3
   obtain ⟨xs,hy1,hy2⟩:=law_den h2 (fun j t v ht hv=>ho (j + 1) t v ht hv) h4
   exact ⟨(x,xs),⟨hx2,hy1⟩,v,vs,rfl,hx1,hy2⟩
  | [],_,hA=>exact absurd hA (by simp [DataW.TrodAll])
  | _::_,[],hA=>exact absurd hA (by simp [DataW.TrodAll])
theorem law_row {P:Program} {f:FuncId} {ps:List Ty} {m:As ps->Option (Bool×Unit)} (h:CtOk P (fun _=>True) f ⟨⟨ps.map TS.d,[],ps,[.d .bool],[],0,[.bool]⟩,m⟩) (law:∀ x,okA ps x->m x=some (true,()))
  {ts:Array TypeId} (ht:dtys P ts.toList=some ps) {H:Type} {enc:TypeId×Value->H} {W:World} {b0:Nat} {sp:Nat->Bool} {held:Bool} {args:Array Value} {ds:List (DataW H)} {p:List MemPlace}
  (hval:∀ (j:Nat) t v,ts[j]? = some t->args[j]? = some v->∃ r b w',Value.okWide P w' r b t v) (hA:DataW.TrodAll enc P W b0 sp held ts.toList args.toList ds p) :
  Calls P f args W (fun e W'=>∃ v,e = .returned v∧v = .bool true∧Below W.heap.size W W'):=by
 obtain ⟨x,h1,h2⟩:=law_den ht (fun j t v h3 h4=>hval j t v (by simpa using h3) (by simpa using h4)) hA
 have:=law_calls h (law x h1) (fA_d ps x) h2
 simpa using this
end Rw
end
section
namespace Go.Proofs.Lx
open Go Ev Sx
abbrev TBlk:=Int×List Int
abbrev TStg:=Int×List Bool×List TBlk
abbrev TLs:=Int×Int
abbrev TAg:=List Int×TLs×Int×Int×Int×TStg×Int
abbrev TSl:=Int×Int×TAg×List Bool
abbrev TCl:=As [.int .u8,.int .u8,.sl (.int .u16),.int .u16,.int .i64,.int .u8,.int .u32,.int .u32,.int .u32,.bool,.bool,.bool,.bool,.bool,.bool,.bool,.bool,.int .i64,.sl (.int .u16),.int .i64,.sl (.int .u16),.int .i64,.sl (.int .u16),.int .i64,.sl (.int .u16),.int .i64,.sl (.int .u16),.int .i64,.sl (.int .u16),.int .i64,.sl (.int .u16),.int .i64,.sl (.int .u16),.int .i64,.sl .bool]
abbrev zSt:TStg:=(0,[false,false,false,false,false,false,false,false],[(0,[]),(0,[]),(0,[]),(0,[]),(0,[]),(0,[]),(0,[]),(0,[])])
abbrev zAg0:TAg:=([],(0,0),0,0,0,zSt,0)
abbrev zSl:TSl:=(0,0,zAg0,[])
abbrev mkAg (a:TAg):TAg:=(a.1,a.2.1,a.2.2.1,a.2.2.2.1,a.2.2.2.2.1,(a.2.2.2.2.2.1.1,[a.2.2.2.2.2.1.2.1.getD 0 false,a.2.2.2.2.2.1.2.1.getD 1 false,a.2.2.2.2.2.1.2.1.getD 2 false,a.2.2.2.2.2.1.2.1.getD 3 false,a.2.2.2.2.2.1.2.1.getD 4 false,a.2.2.2.2.2.1.2.1.getD 5 false,a.2.2.2.2.2.1.2.1.getD 6 false,a.2.2.2.2.2.1.2.1.getD 7 false],[a.2.2.2.2.2.1.2.2.getD 0 (0,[]),a.2.2.2.2.2.1.2.2.getD 1 (0,[]),a.2.2.2.2.2.1.2.2.getD 2 (0,[]),a.2.2.2.2.2.1.2.2.getD 3 (0,[]),a.2.2.2.2.2.1.2.2.getD 4 (0,[]),a.2.2.2.2.2.1.2.2.getD 5 (0,[]),a.2.2.2.2.2.1.2.2.getD 6 (0,[]),a.2.2.2.2.2.1.2.2.getD 7 (0,[])]),a.2.2.2.2.2.2)
@[reducible] def pkS (s:TSl):TCl :=
 (s.1,s.2.1,s.2.2.1.1,s.2.2.1.2.1.1,s.2.2.1.2.1.2,s.2.2.1.2.2.1,s.2.2.1.2.2.2.1,s.2.2.1.2.2.2.2.1,s.2.2.1.2.2.2.2.2.1.1,
  List.getD s.2.2.1.2.2.2.2.2.1.2.1 0 false,List.getD s.2.2.1.2.2.2.2.2.1.2.1 1 false,List.getD s.2.2.1.2.2.2.2.2.1.2.1 2 false,List.getD s.2.2.1.2.2.2.2.2.1.2.1 3 false,List.getD s.2.2.1.2.2.2.2.2.1.2.1 4 false,List.getD s.2.2.1.2.2.2.2.2.1.2.1 5 false,List.getD s.2.2.1.2.2.2.2.2.1.2.1 6 false,List.getD s.2.2.1.2.2.2.2.2.1.2.1 7 false,
  (List.getD s.2.2.1.2.2.2.2.2.1.2.2 0 (0,[])).1,(List.getD s.2.2.1.2.2.2.2.2.1.2.2 0 (0,[])).2,(List.getD s.2.2.1.2.2.2.2.2.1.2.2 1 (0,[])).1,(List.getD s.2.2.1.2.2.2.2.2.1.2.2 1 (0,[])).2,(List.getD s.2.2.1.2.2.2.2.2.1.2.2 2 (0,[])).1,(List.getD s.2.2.1.2.2.2.2.2.1.2.2 2 (0,[])).2,(List.getD s.2.2.1.2.2.2.2.2.1.2.2 3 (0,[])).1,(List.getD s.2.2.1.2.2.2.2.2.1.2.2 3 (0,[])).2,(List.getD s.2.2.1.2.2.2.2.2.1.2.2 4 (0,[])).1,(List.getD s.2.2.1.2.2.2.2.2.1.2.2 4 (0,[])).2,(List.getD s.2.2.1.2.2.2.2.2.1.2.2 5 (0,[])).1,(List.getD s.2.2.1.2.2.2.2.2.1.2.2 5 (0,[])).2,(List.getD s.2.2.1.2.2.2.2.2.1.2.2 6 (0,[])).1,(List.getD s.2.2.1.2.2.2.2.2.1.2.2 6 (0,[])).2,(List.getD s.2.2.1.2.2.2.2.2.1.2.2 7 (0,[])).1,(List.getD s.2.2.1.2.2.2.2.2.1.2.2 7 (0,[])).2,
  s.2.2.1.2.2.2.2.2.2,s.2.2.2,())
end Go.Proofs.Lx
end
section
open Go Go.Proofs Ev Sx
set_option maxRecDepth 100000
namespace Go.Proofs.Lx
abbrev YTT8:Ty:=(.pr (.int .i64) (.sl (.int .u16)))
abbrev YTT0:Ty:=(.pr (.pr (.int .u16) (.int .i64)) (.pr (.int .u8) (.pr (.int .u32) (.pr (.int .u32) (.pr (.pr (.int .u32) (.pr (.ar 8 .bool) (.ar 8 YTT8))) (.int .i64))))))
abbrev YTT12:Ty:=(.pr (.int .i64) (.pr .bool (.pr .bool .bool)))
abbrev YTT1:Ty:=(.sl (.pr (.int .i64) YTT12))
abbrev YTT9:Type:=(Int×List Bool×List (Int×List Int))
abbrev YTT2:Type:=(List Int×(Int×Int)×Int×Int×Int×YTT9×Int)
abbrev YTT3:Ty:=(.pr (.int .u8) (.pr (.sl .bool) (.pr (.sl (.int .u16)) (.pr (.int .u16) (.int .u16)))))
abbrev YTT4:Ty:=(.pr (.int .u16) (.pr (.int .u16) (.pr (.int .u16) (.pr (.sl (.int .u16)) (.sl .bool)))))
abbrev YTT5:Type:=(Int×Int×Bool×Bool×Bool)
abbrev YTT6:Ty:=(.pr (.int .u8) (.pr (.int .u32) (.pr (.int .u16) (.int .u32))))
abbrev YTT16:Type:=(Int×Int×Int×Int×List Int×List Bool)
abbrev YTT7:Type:=(Int×List Int×YTT16×Int×Int×Int×Int×Int)
abbrev YTT10:Ty:=(.pr (.sl .bool) (.pr (.sl (.int .u16)) (.sl (.int .u16))))
abbrev YTT11:Type:=(Int×Int×List Bool×List Int×Int×Int)
abbrev YTT13:Type:=(List Bool×List Bool×List Int×List Int)
abbrev YTT14:Ty:=(.pr (.int .u8) (.sl (.int .u8)))
abbrev YTT15:Ty:=(.pr (.int .i64) (.pr (.int .i64) (.pr .bool .bool)))
abbrev q1r_:Type:=Int×Int×Bool×Bool×Bool
@[reducible] def qeq_:Sh:=⟨[.d (.int .u8),.d (.int .u8)],[],[.int .u8,.int .u8],[.d (.bool)],[],0,[.bool]⟩
def quj_:Env:=(cts [])
def quf_:List (Nat×Hint):=[]
def qe3_ (unit link:Int):Option (As [.bool]) :=
 if ge unit 1=true then if le unit 247=true then if eqi link 1=true then some (true,()) else some (eqi link 2,()) else some (false,()) else some (false,())
def qdw_ (x:As [.int .u8,.int .u8]):Option (As [.bool]):=qe3_ x.1 x.2.1
theorem q123_ (J:Orc (As [.bool])) (x:As [.int .u8,.int .u8]):rfn Tryz.prog quj_ 6 18446744073709551616 (Ev.get quf_) 91 qeq_ J x=qe3_ x.1 x.2.1:=by kernel_rfl
theorem q13m_ (x:As [.int .u8,.int .u8]):evT Tryz.prog quj_ 6 18446744073709551616 (Ev.get quf_) 91 qeq_ x=qdw_ x:=by
 rw [q5_,q123_]
 rfl
theorem q129_:CtOk Tryz.prog (fun _=>True) 91 ⟨qeq_,qdw_⟩:=q3_ q4_ q13m_
@[reducible] def q28_:Sh:=⟨[.d (.sl (.int .u16))],[],[.sl (.int .u16)],[.d (.sl (.int .u16))],[],0,[.sl (.int .u16)]⟩
def qma_:Env:=(cts [])
def qm5_:List (Nat×Hint):=[]
def q8p_ (s:List Int):Option (As [.sl (.int .u16)]) :=
 if eqi (Int.ofNat (List.length s)) 0=true then amb (eqAs q28_.rs) [some ([],()),need (small (0 + List.length s)) (some (s,()))] else need (small (0 + List.length s)) (some (s,()))
def qb_ (x:As [.sl (.int .u16)]):Option (As [.sl (.int .u16)]):=q8p_ x.1
theorem qw5_ (J:Orc (As [.sl (.int .u16)])) (x:As [.sl (.int .u16)]):rfn Tryz.prog qma_ 6 18446744073709551616 (Ev.get qm5_) 131 q28_ J x=q8p_ x.1:=by kernel_rfl
theorem qxe_ (x:As [.sl (.int .u16)]):evT Tryz.prog qma_ 6 18446744073709551616 (Ev.get qm5_) 131 q28_ x=qb_ x:=by
 rw [q5_,qw5_]
 rfl
theorem q5o_:CtOk Tryz.prog (fun _=>True) 131 ⟨q28_,qb_⟩:=q3_ q4_ qxe_
@[reducible] def q3o_:Sh:=⟨[.d (.sl (.int .u16))],[],[.sl (.int .u16)],[.row 0],[(0,.row (.int .u16) 23)],1,[.sl (.int .u16)]⟩
def qiy_:Env:=(cts [])
def qj7_:List (Nat×Hint):=[]
def q7f_ (s:List Int):Option (As [.sl (.int .u16)]) :=
 if eqi (Int.ofNat (List.length s)) 0=true then amb (eqAs q3o_.rs) [some ([],()),need (small (0 + List.length s)) (some (s,()))] else need (small (0 + List.length s)) (some (s,()))
def q2r_ (x:As [.sl (.int .u16)]):Option (As [.sl (.int .u16)]):=q7f_ x.1
theorem quw_ (J:Orc (As [.sl (.int .u16)])) (x:As [.sl (.int .u16)]):rfn Tryz.prog qiy_ 6 18446744073709551616 (Ev.get qj7_) 131 q3o_ J x=q7f_ x.1:=by kernel_rfl
theorem qvn_ (x:As [.sl (.int .u16)]):evT Tryz.prog qiy_ 6 18446744073709551616 (Ev.get qj7_) 131 q3o_ x=q2r_ x:=by
 rw [q5_,quw_]
 rfl
theorem qi8_:CtOk Tryz.prog (fun _=>True) 131 ⟨q3o_,q2r_⟩:=q3_ q4_ qvn_
@[reducible] def qt6_:Sh:=⟨[.d (.sl (.int .u16)),.d (.int .i64)],[],[.sl (.int .u16),.int .i64],[.d (.pr (.sl (.int .u16)) YTT0),.d (.int .i64)],[],0,[.pr (.sl (.int .u16)) YTT0,.int .i64]⟩
def q14b_:Env:=(cts [(131,(⟨q28_,qb_⟩:Ct))])
def q145_:List (Nat×Hint):=[]
def qpa_ (bank:List Int) (ticks:Int):Option (As [.pr (.sl (.int .u16)) YTT0,.int .i64]) :=
 if nei (Int.ofNat (List.length bank)) 64=true then some (zAg0,21,()) else if lt ticks 1=true then some (zAg0,2,()) else Option.bind (qb_ (bank,())) fun y=>some ((y.1,(0,0),0,0,0,zSt,ticks),0,())
def qu2_ (x:As [.sl (.int .u16),.int .i64]):Option (As [.pr (.sl (.int .u16)) YTT0,.int .i64]):=qpa_ x.1 x.2.1
theorem q1fd_ (J:Orc (As [.pr (.sl (.int .u16)) YTT0,.int .i64])) (x:As [.sl (.int .u16),.int .i64]):rfn Tryz.prog q14b_ 6 18446744073709551616 (Ev.get q145_) 92 qt6_ J x=qpa_ x.1 x.2.1:=by kernel_rfl
theorem q1hr_ (x:As [.sl (.int .u16),.int .i64]):evT Tryz.prog q14b_ 6 18446744073709551616 (Ev.get q145_) 92 qt6_ x=qu2_ x:=by
 rw [q5_,q1fd_]
 rfl
theorem q1dh_:CtOk Tryz.prog (fun _=>True) 92 ⟨qt6_,qu2_⟩:=q3_ (q0_ q5o_ q4_) q1hr_
@[reducible] def qlg_:Sh:=⟨[.d (.int .u8),.d (.int .u8),.d (.sl (.int .u16)),.d (.int .i64)],[],[.int .u8,.int .u8,.sl (.int .u16),.int .i64],[.d (.pr (.int .u8) (.pr (.int .u8) (.pr (.pr (.sl (.int .u16)) YTT0) (.sl .bool)))),.d (.int .i64)],[],0,[.pr (.int .u8) (.pr (.int .u8) (.pr (.pr (.sl (.int .u16)) YTT0) (.sl .bool))),.int .i64]⟩
def q148_:Env:=(cts [(91,(⟨qeq_,qdw_⟩:Ct)),(92,(⟨qt6_,qu2_⟩:Ct))])
def q144_:List (Nat×Hint):=[]
def qql_ (unit link:Int) (bank:List Int) (ticks:Int):Option (As [.pr (.int .u8) (.pr (.int .u8) (.pr (.pr (.sl (.int .u16)) YTT0) (.sl .bool))),.int .i64]) :=
 Option.bind (qdw_ (unit,link,())) fun y=>if (!y.1)=true then some (zSl,2,()) else Option.bind (qu2_ (bank,ticks,())) fun y=>if nei y.2.1 0=true then some (zSl,y.2.1,()) else some ((unit,link,(mkAg y.1),[false,false,false,false,false,false,false,false,false,false,false,false,false,false,false,false]),0,())
def qj9_ (x:As [.int .u8,.int .u8,.sl (.int .u16),.int .i64]):Option (As [.pr (.int .u8) (.pr (.int .u8) (.pr (.pr (.sl (.int .u16)) YTT0) (.sl .bool))),.int .i64]):=qql_ x.1 x.2.1 x.2.2.1 x.2.2.2.1
theorem q1e7_ (J:Orc (As [.pr (.int .u8) (.pr (.int .u8) (.pr (.pr (.sl (.int .u16)) YTT0) (.sl .bool))),.int .i64])) (x:As [.int .u8,.int .u8,.sl (.int .u16),.int .i64]):rfn Tryz.prog q148_ 6 18446744073709551616 (Ev.get q144_) 35 qlg_ J x=qql_ x.1 x.2.1 x.2.2.1 x.2.2.2.1:=by kernel_rfl
theorem q1hu_ (x:As [.int .u8,.int .u8,.sl (.int .u16),.int .i64]):evT Tryz.prog q148_ 6 18446744073709551616 (Ev.get q144_) 35 qlg_ x=qj9_ x:=by
 rw [q5_,q1e7_]
 rfl
theorem q11w_:CtOk Tryz.prog (fun _=>True) 35 ⟨qlg_,qj9_⟩:=q3_ (q0_ q129_ (q0_ q1dh_ q4_)) q1hu_
@[reducible] def qum_:Sh:=⟨[.d (.sl (.int .u16))],[],[.sl (.int .u16)],[.d (.sl (.int .u16))],[],0,[.sl (.int .u16)]⟩
def q16h_:Env:=(cts [])
def q16p_:List (Nat×Hint):=[]
def qsp_ (l:List Int):Option (As [.sl (.int .u16)]) :=
 some (List.take 64 l++List.drop (0 + List.length (List.take 64 l)) (List.replicate 64 0),())
def qvf_ (x:As [.sl (.int .u16)]):Option (As [.sl (.int .u16)]):=qsp_ x.1
theorem q1hq_ (J:Orc (As [.sl (.int .u16)])) (x:As [.sl (.int .u16)]):rfn Tryz.prog q16h_ 6 18446744073709551616 (Ev.get q16p_) 55 qum_ J x=qsp_ x.1:=by kernel_rfl
theorem q1ip_ (x:As [.sl (.int .u16)]):evT Tryz.prog q16h_ 6 18446744073709551616 (Ev.get q16p_) 55 qum_ x=qvf_ x:=by
 rw [q5_,q1hq_]
 rfl
theorem q1h6_:CtOk Tryz.prog (fun _=>True) 55 ⟨qum_,qvf_⟩:=q3_ q4_ q1ip_
@[reducible] def qme_:Sh:=⟨[.d (.int .u8),.d (.sl (.int .u16)),.d (.int .u8)],[],[.int .u8,.sl (.int .u16),.int .u8],[.d (.pr (.int .u8) (.pr (.int .u8) (.pr (.pr (.sl (.int .u16)) YTT0) (.sl .bool)))),.d (.bool)],[],0,[.pr (.int .u8) (.pr (.int .u8) (.pr (.pr (.sl (.int .u16)) YTT0) (.sl .bool))),.bool]⟩
def q10g_:Env:=(cts [(35,(⟨qlg_,qj9_⟩:Ct)),(55,(⟨qum_,qvf_⟩:Ct))])
def q10c_:List (Nat×Hint):=[]
def qjs_ (link:Int) (b:List Int) (ticks:Int):Option (As [.pr (.int .u8) (.pr (.int .u8) (.pr (.pr (.sl (.int .u16)) YTT0) (.sl .bool))),.bool]) :=
 Option.bind (qvf_ (b,())) fun y=>Option.bind (qj9_ (9,add .u8 1 (rem link 2),y.1,add .i64 1 (cvt .i64 (rem ticks 20)),())) fun y=>if eqi y.2.1 0=true then some (y.1,eqi (Int.ofNat (List.length y.1.2.2.1.1)) 64,()) else some (y.1,false,())
def qlv_ (x:As [.int .u8,.sl (.int .u16),.int .u8]):Option (As [.pr (.int .u8) (.pr (.int .u8) (.pr (.pr (.sl (.int .u16)) YTT0) (.sl .bool))),.bool]):=qjs_ x.1 x.2.1 x.2.2.1
theorem q199_ (J:Orc (As [.pr (.int .u8) (.pr (.int .u8) (.pr (.pr (.sl (.int .u16)) YTT0) (.sl .bool))),.bool])) (x:As [.int .u8,.sl (.int .u16),.int .u8]):rfn Tryz.prog q10g_ 6 18446744073709551616 (Ev.get q10c_) 9 qme_ J x=qjs_ x.1 x.2.1 x.2.2.1:=by kernel_rfl
theorem q1b6_ (x:As [.int .u8,.sl (.int .u16),.int .u8]):evT Tryz.prog q10g_ 6 18446744073709551616 (Ev.get q10c_) 9 qme_ x=qlv_ x:=by
 rw [q5_,q199_]
 rfl
theorem q193_:CtOk Tryz.prog (fun _=>True) 9 ⟨qme_,qlv_⟩:=q3_ (q0_ q11w_ (q0_ q1h6_ q4_)) q1b6_
@[reducible] def qed_:Sh:=⟨[.d (.sl (.int .u16)),.d (.sl (.int .u16))],[],[.sl (.int .u16),.sl (.int .u16)],[.d (.bool)],[],0,[.bool]⟩
def qlo_:Env:=(cts [])
def qmb_:List (Nat×Hint):=[(58,⟨[],[0,1,12,13]⟩)]
def qfd_ (a b:List Int) (t12 t13:Int):St:={ fr:=[(0,.d (.sl (.int .u16)) a),(1,.d (.sl (.int .u16)) b),(12,.d (.int .i64) t12),(13,.d (.int .i64) t13)],nt:=26,up:=[],own:=[],nx:=0,log:=[],ln:=0 }
def q134_ (self1:List Int->List Int->Int->Int->Option (As [.bool])) (a b:List Int) (t12 t13:Int):Option (As [.bool]) :=
 if lt t13 t12=true then Option.bind (at? a t13) fun y=>Option.bind (at? b t13) fun y_1=>if nei y y_1=true then some (false,()) else self1 a b t12 (add .i64 t13 1) else some (true,())
def q11e_ (j1:List Int->List Int->Int->Int->Option (As [.bool])) (a b:List Int):Option (As [.bool]) :=
 if nei (Int.ofNat (List.length a)) (Int.ofNat (List.length b))=true then some (false,()) else j1 a b (Int.ofNat (List.length a)) 0
def qw1_ (a b:List Int) (t12 t13:Int):Option (As [.bool]) :=
 loopF (fun (self:(List Int)×(List Int)×(Int)×(Int)->Option (As [.bool])) (s:(List Int)×(List Int)×(Int)×(Int))=>q134_ (fun a b t12 t13=>self (a,b,t12,t13)) s.1 s.2.1 s.2.2.1 s.2.2.2) 18446744073709551616 (a,b,t12,t13)
def qt9_ (x:As [.sl (.int .u16),.sl (.int .u16)]):Option (As [.bool]):=q11e_ qw1_ x.1 x.2.1
theorem q1en_ (J:Orc (As [.bool])) (w1:St->Option (As [.bool])) (a b:List Int) (t12 t13:Int):pfn Tryz.prog qlo_ 6 18446744073709551616 (Ev.get qmb_) 20 qed_ J 58 [w1] (qfd_ a b t12 t13)=q134_ (fun a b t12 t13=>w1 (qfd_ a b t12 t13)) a b t12 t13:=by kernel_rfl
theorem q1ds_ (J:Orc (As [.bool])) (x:As [.sl (.int .u16),.sl (.int .u16)]):rfn Tryz.prog qlo_ 6 18446744073709551616 (Ev.get qmb_) 20 qed_ J x=q11e_ (fun a b t12 t13=>J 58 [] (qfd_ a b t12 t13)) x.1 x.2.1:=by kernel_rfl
theorem q1fa_ (a b:List Int) (t12 t13:Int):jfn Tryz.prog qlo_ 6 18446744073709551616 (Ev.get qmb_) 20 qed_ 58 [] (qfd_ a b t12 t13)=qw1_ a b t12 t13:=by
 rw [q8_ (by decide)]
 rw [qr_ (by kernel_rfl)]
 refine qi_ (σ:=(List Int)×(List Int)×(Int)×(Int)) (mk:=fun s=>qfd_ s.1 s.2.1 s.2.2.1 s.2.2.2) (fun w1 s=>?_) 18446744073709551616 (a,b,t12,t13)
 refine (q1en_ _ w1 s.1 s.2.1 s.2.2.1 s.2.2.2).trans ?_
 rfl
theorem q1h2_ (x:As [.sl (.int .u16),.sl (.int .u16)]):evT Tryz.prog qlo_ 6 18446744073709551616 (Ev.get qmb_) 20 qed_ x=qt9_ x:=by
 have e1:(fun a b t12 t13=>(jfn Tryz.prog qlo_ 6 18446744073709551616 (Ev.get qmb_) 20 qed_) 58 [] (qfd_ a b t12 t13))=qw1_:=by funext a b t12 t13; exact q1fa_ a b t12 t13
 rw [q5_,q1ds_,e1]
 rfl
theorem q1g0_:CtOk Tryz.prog (fun _=>True) 20 ⟨qed_,qt9_⟩:=q3_ q4_ q1h2_
@[reducible] def qe5_:Sh:=⟨[.d (.int .u8)],[],[.int .u8],[.d (.pr (.int .i64) YTT15),.d (.bool)],[],0,[.pr (.int .i64) YTT15,.bool]⟩
def q14a_:Env:=(cts [])
def q13t_:List (Nat×Hint):=[]
def q12t_ (f:Int):Option (As [.pr (.int .i64) YTT15,.bool]) :=
 some (Ev.gdV (.pr (.int .i64) YTT15) (if eqi 1 f=true then some (2000,0,0,false,false) else if eqi 2 f=true then some (2000,0,0,false,false) else if eqi 3 f=true then some (125,0,0,false,false) else if eqi 4 f=true then some (125,0,0,false,false) else if eqi 5 f=true then some (0,1,0,false,false) else if eqi 6 f=true then some (0,0,1,false,false) else if eqi 15 f=true then some (1968,1968,0,false,true) else if eqi 16 f=true then some (123,0,123,false,true) else if eqi 23 f=true then some (125,0,121,true,false) else Option.none) (0,0,0,false,false),Ev.isV (.pr (.int .i64) YTT15) (if eqi 1 f=true then some (2000,0,0,false,false) else if eqi 2 f=true then some (2000,0,0,false,false) else if eqi 3 f=true then some (125,0,0,false,false) else if eqi 4 f=true then some (125,0,0,false,false) else if eqi 5 f=true then some (0,1,0,false,false) else if eqi 6 f=true then some (0,0,1,false,false) else if eqi 15 f=true then some (1968,1968,0,false,true) else if eqi 16 f=true then some (123,0,123,false,true) else if eqi 23 f=true then some (125,0,121,true,false) else Option.none),())
def q9r_ (x:As [.int .u8]):Option (As [.pr (.int .i64) YTT15,.bool]):=q12t_ x.1
theorem q1dy_ (J:Orc (As [.pr (.int .i64) YTT15,.bool])) (x:As [.int .u8]):rfn Tryz.prog q14a_ 6 18446744073709551616 (Ev.get q13t_) 59 qe5_ J x=q12t_ x.1:=by kernel_rfl
theorem q1hm_ (x:As [.int .u8]):evT Tryz.prog q14a_ 6 18446744073709551616 (Ev.get q13t_) 59 qe5_ x=q9r_ x:=by
 rw [q5_,q1dy_]
 rfl
theorem qpi_:CtOk Tryz.prog (fun _=>True) 59 ⟨qe5_,q9r_⟩:=q3_ q4_ q1hm_
@[reducible] def qqr_:Sh:=⟨[.d (.int .i64),.d (.int .i64)],[],[.int .i64,.int .i64],[.d (.bool)],[],0,[.bool]⟩
def q138_:Env:=(cts [])
def q11l_:List (Nat×Hint):=[]
def qn7_ (n most:Int):Option (As [.bool]) :=
 if eqi most 0=true then some (eqi n 0,()) else if ge n 1=true then some (le n most,()) else some (false,())
def qgl_ (x:As [.int .i64,.int .i64]):Option (As [.bool]):=qn7_ x.1 x.2.1
theorem q1cq_ (J:Orc (As [.bool])) (x:As [.int .i64,.int .i64]):rfn Tryz.prog q138_ 6 18446744073709551616 (Ev.get q11l_) 127 qqr_ J x=qn7_ x.1 x.2.1:=by kernel_rfl
theorem q1da_ (x:As [.int .i64,.int .i64]):evT Tryz.prog q138_ 6 18446744073709551616 (Ev.get q11l_) 127 qqr_ x=qgl_ x:=by
 rw [q5_,q1cq_]
 rfl
theorem q1bl_:CtOk Tryz.prog (fun _=>True) 127 ⟨qqr_,qgl_⟩:=q3_ q4_ q1da_
@[reducible] def q5f_:Sh:=⟨[.d (.pr (.int .u8) YTT4)],[],[.pr (.int .u8) YTT4],[.d (.bool)],[],0,[.bool]⟩
def qb8_:Env:=(cts [(59,(⟨qe5_,q9r_⟩:Ct)),(127,(⟨qqr_,qgl_⟩:Ct))])
def qav_:List (Nat×Hint):=[(30,⟨[],[1,3,47,52,53,54,55,56,57,58,59,60,61,62]⟩),(14,⟨[],[1,3,22,31,32,33,34,35,36,37,40,41,42,43,44,45,46,52,53,54,55,56,57,58,59,60,61,62]⟩)]
def qr1_ (t22:Bool) (a a_2 a_3 a_4:Int) (a_5:List Int) (a_6:List Bool) (s s_2 s_3:Int) (s_4 s_5:Bool):St:={ fr:=[(1,.pb 0 0),(3,.pb 1 0),(22,.d .bool t22)],nt:=64,up:=[],own:=[(0,.box 44 [.d (.int .u8) a,.d (.int .u16) a_2,.d (.int .u16) a_3,.d (.int .u16) a_4,.d (.sl (.int .u16)) a_5,.d (.sl .bool) a_6]),(1,.box 114 [.d (.int .i64) s,.d (.int .i64) s_2,.d (.int .i64) s_3,.d .bool s_4,.d .bool s_5])],nx:=2,log:=[],ln:=0 }
def qq6_ (t47:Bool) (a a_2 a_3 a_4:Int) (a_5:List Int) (a_6:List Bool) (s s_2 s_3:Int) (s_4 s_5:Bool):St:={ fr:=[(1,.pb 0 0),(3,.pb 1 0),(47,.d .bool t47)],nt:=64,up:=[],own:=[(0,.box 44 [.d (.int .u8) a,.d (.int .u16) a_2,.d (.int .u16) a_3,.d (.int .u16) a_4,.d (.sl (.int .u16)) a_5,.d (.sl .bool) a_6]),(1,.box 114 [.d (.int .i64) s,.d (.int .i64) s_2,.d (.int .i64) s_3,.d .bool s_4,.d .bool s_5])],nx:=2,log:=[],ln:=0 }
def qv4_ (j2:Bool->Int->Int->Int->Int->List Int->List Bool->Int->Int->Int->Bool->Bool->Option (As [.bool])) (t22:Bool) (a a_2 a_3 a_4:Int) (a_5:List Int) (a_6:List Bool) (s s_2 s_3:Int) (s_4 s_5:Bool):Option (As [.bool]) :=
 if t22=true then some (false,()) else Option.bind (qgl_ (cvt .i64 a_3,s,())) fun y=>if (!y.1)=true then j2 true a a_2 a_3 a_4 a_5 a_6 s s_2 s_3 s_4 s_5 else Option.bind (qgl_ (Int.ofNat (List.length a_6),s_2,())) fun y=>if (!y.1)=true then j2 true a a_2 a_3 a_4 a_5 a_6 s s_2 s_3 s_4 s_5 else Option.bind (qgl_ (Int.ofNat (List.length a_5),s_3,())) fun y=>j2 (!y.1) a a_2 a_3 a_4 a_5 a_6 s s_2 s_3 s_4 s_5
def qvr_ (t47:Bool) (a a_2 a_3 a_4:Int) (a_5:List Int) (a_6:List Bool) (s s_2 s_3:Int) (s_4 s_5:Bool):Option (As [.bool]) :=
 if t47=true then some (false,()) else if (!s_5)=true then some (true,()) else some (eqi (add .i64 (Int.ofNat (List.length a_6)) (Int.ofNat (List.length a_5))) (cvt .i64 a_3),())
def qru_ (j1:Bool->Int->Int->Int->Int->List Int->List Bool->Int->Int->Int->Bool->Bool->Option (As [.bool])) (a:Int×Int×Int×Int×List Int×List Bool):Option (As [.bool]) :=
 Option.bind (q9r_ (a.1,())) fun y=>if (!y.2.1)=true then j1 true a.1 a.2.1 a.2.2.1 a.2.2.2.1 a.2.2.2.2.1 a.2.2.2.2.2 y.1.1 y.1.2.1 y.1.2.2.1 y.1.2.2.2.1 y.1.2.2.2.2 else if (!y.1.2.2.2.1)=true then j1 (nei a.2.2.2.1 0) a.1 a.2.1 a.2.2.1 a.2.2.2.1 a.2.2.2.2.1 a.2.2.2.2.2 y.1.1 y.1.2.1 y.1.2.2.1 y.1.2.2.2.1 y.1.2.2.2.2 else j1 false a.1 a.2.1 a.2.2.1 a.2.2.2.1 a.2.2.2.2.1 a.2.2.2.2.2 y.1.1 y.1.2.1 y.1.2.2.1 y.1.2.2.2.1 y.1.2.2.2.2
def qjc_ (t47:Bool) (a a_2 a_3 a_4:Int) (a_5:List Int) (a_6:List Bool) (s s_2 s_3:Int) (s_4 s_5:Bool):Option (As [.bool]):=qvr_ t47 a a_2 a_3 a_4 a_5 a_6 s s_2 s_3 s_4 s_5
def qf5_ (t22:Bool) (a a_2 a_3 a_4:Int) (a_5:List Int) (a_6:List Bool) (s s_2 s_3:Int) (s_4 s_5:Bool):Option (As [.bool]):=qv4_ (qjc_) t22 a a_2 a_3 a_4 a_5 a_6 s s_2 s_3 s_4 s_5
def qbc_ (x:As [.pr (.int .u8) YTT4]):Option (As [.bool]):=qru_ qf5_ x.1
theorem q1ew_ (J:Orc (As [.bool])) (t47:Bool) (a a_2 a_3 a_4:Int) (a_5:List Int) (a_6:List Bool) (s s_2 s_3:Int) (s_4 s_5:Bool):pfn Tryz.prog qb8_ 6 18446744073709551616 (Ev.get qav_) 58 q5f_ J 30 [] (qq6_ t47 a a_2 a_3 a_4 a_5 a_6 s s_2 s_3 s_4 s_5)=qvr_ t47 a a_2 a_3 a_4 a_5 a_6 s s_2 s_3 s_4 s_5:=by kernel_rfl
theorem q1fz_ (J:Orc (As [.bool])) (t22:Bool) (a a_2 a_3 a_4:Int) (a_5:List Int) (a_6:List Bool) (s s_2 s_3:Int) (s_4 s_5:Bool):pfn Tryz.prog qb8_ 6 18446744073709551616 (Ev.get qav_) 58 q5f_ J 14 [] (qr1_ t22 a a_2 a_3 a_4 a_5 a_6 s s_2 s_3 s_4 s_5)=qv4_ (fun t47 a a_2 a_3 a_4 a_5 a_6 s s_2 s_3 s_4 s_5=>J 30 [] (qq6_ t47 a a_2 a_3 a_4 a_5 a_6 s s_2 s_3 s_4 s_5)) t22 a a_2 a_3 a_4 a_5 a_6 s s_2 s_3 s_4 s_5:=by kernel_rfl
theorem q1dp_ (J:Orc (As [.bool])) (x:As [.pr (.int .u8) YTT4]):rfn Tryz.prog qb8_ 6 18446744073709551616 (Ev.get qav_) 58 q5f_ J x=qru_ (fun t22 a a_2 a_3 a_4 a_5 a_6 s s_2 s_3 s_4 s_5=>J 14 [] (qr1_ t22 a a_2 a_3 a_4 a_5 a_6 s s_2 s_3 s_4 s_5)) x.1:=by kernel_rfl
theorem q1fj_ (t47:Bool) (a a_2 a_3 a_4:Int) (a_5:List Int) (a_6:List Bool) (s s_2 s_3:Int) (s_4 s_5:Bool):jfn Tryz.prog qb8_ 6 18446744073709551616 (Ev.get qav_) 58 q5f_ 30 [] (qq6_ t47 a a_2 a_3 a_4 a_5 a_6 s s_2 s_3 s_4 s_5)=qjc_ t47 a a_2 a_3 a_4 a_5 a_6 s s_2 s_3 s_4 s_5:=by
 rw [q8_ (by decide)]
 rw [q1ew_]
 rfl
theorem q1ee_ (t22:Bool) (a a_2 a_3 a_4:Int) (a_5:List Int) (a_6:List Bool) (s s_2 s_3:Int) (s_4 s_5:Bool):jfn Tryz.prog qb8_ 6 18446744073709551616 (Ev.get qav_) 58 q5f_ 14 [] (qr1_ t22 a a_2 a_3 a_4 a_5 a_6 s s_2 s_3 s_4 s_5)=qf5_ t22 a a_2 a_3 a_4 a_5 a_6 s s_2 s_3 s_4 s_5:=by
 rw [q8_ (by decide)]
 have e2:(fun t47 a a_2 a_3 a_4 a_5 a_6 s s_2 s_3 s_4 s_5=>(jfn Tryz.prog qb8_ 6 18446744073709551616 (Ev.get qav_) 58 q5f_) 30 [] (qq6_ t47 a a_2 a_3 a_4 a_5 a_6 s s_2 s_3 s_4 s_5))=qjc_:=by funext t47 a a_2 a_3 a_4 a_5 a_6 s s_2 s_3 s_4 s_5; exact q1fj_ t47 a a_2 a_3 a_4 a_5 a_6 s s_2 s_3 s_4 s_5
 rw [q1fz_,e2]
 rfl
theorem q1gv_ (x:As [.pr (.int .u8) YTT4]):evT Tryz.prog qb8_ 6 18446744073709551616 (Ev.get qav_) 58 q5f_ x=qbc_ x:=by
 have e1:(fun t22 a a_2 a_3 a_4 a_5 a_6 s s_2 s_3 s_4 s_5=>(jfn Tryz.prog qb8_ 6 18446744073709551616 (Ev.get qav_) 58 q5f_) 14 [] (qr1_ t22 a a_2 a_3 a_4 a_5 a_6 s s_2 s_3 s_4 s_5))=qf5_:=by funext t22 a a_2 a_3 a_4 a_5 a_6 s s_2 s_3 s_4 s_5; exact q1ee_ t22 a a_2 a_3 a_4 a_5 a_6 s s_2 s_3 s_4 s_5
 rw [q5_,q1dp_,e1]
 rfl
theorem qvu_:CtOk Tryz.prog (fun _=>True) 58 ⟨q5f_,qbc_⟩:=q3_ (q0_ qpi_ (q0_ q1bl_ q4_)) q1gv_
@[reducible] def qac_:Sh:=⟨[.row 0,.d (.sl (.int .u16))],[.row (.int .u8) 5],[.sl (.int .u16),.sl (.int .u8)],[.row 1],[(1,.row (.int .u8) 5)],1,[.sl (.int .u8)]⟩
def qhg_:Env:=(cts [])
def qh6_:List (Nat×Hint):=[(26,⟨[.unl 0],[0,7,8,9]⟩)]
def qbf_ (t7:List Int) (t8 t9:Int) (out:List Int):St:={ fr:=[(0,.row 1),(7,.d (.sl (.int .u16)) t7),(8,.d (.int .i64) t8),(9,.d (.int .i64) t9)],nt:=23,up:=[],own:=[(1,.row (.int .u8) 5 out)],nx:=2,log:=[],ln:=1 }
def qbe_ (self1:List Int->Int->Int->List Int->Option (As [.sl (.int .u8)])) (t7:List Int) (t8 t9:Int) (out:List Int):Option (As [.sl (.int .u8)]) :=
 if lt t9 t8=true then Option.bind (at? t7 t9) fun y=>need (small (List.length out + Nat.succ (Nat.succ 0))) (self1 t7 t8 (add .i64 t9 1) (out++[cvt .u8 (Sx.shr .u16 y 8),cvt .u8 y])) else some (out,())
def qkb_ (j1:List Int->Int->Int->List Int->Option (As [.sl (.int .u8)])) (out l:List Int):Option (As [.sl (.int .u8)]) :=
 j1 out (Int.ofNat (List.length out)) 0 l
def qfn_ (t7:List Int) (t8 t9:Int) (out:List Int):Option (As [.sl (.int .u8)]) :=
 loopF (fun (self:(List Int)×(Int)×(Int)×(List Int)->Option (As [.sl (.int .u8)])) (s:(List Int)×(Int)×(Int)×(List Int))=>qbe_ (fun t7 t8 t9 out=>self (t7,t8,t9,out)) s.1 s.2.1 s.2.2.1 s.2.2.2) 18446744073709551616 (t7,t8,t9,out)
def q27_ (x:As [.sl (.int .u16),.sl (.int .u8)]):Option (As [.sl (.int .u8)]):=qkb_ qfn_ x.1 x.2.1
theorem q17s_ (J:Orc (As [.sl (.int .u8)])) (w1:St->Option (As [.sl (.int .u8)])) (t7:List Int) (t8 t9:Int) (out:List Int):pfn Tryz.prog qhg_ 6 18446744073709551616 (Ev.get qh6_) 60 qac_ J 26 [w1] (qbf_ t7 t8 t9 out)=qbe_ (fun t7 t8 t9 out=>w1 (qbf_ t7 t8 t9 out)) t7 t8 t9 out:=by kernel_rfl
theorem q17t_ (J:Orc (As [.sl (.int .u8)])) (x:As [.sl (.int .u16),.sl (.int .u8)]):rfn Tryz.prog qhg_ 6 18446744073709551616 (Ev.get qh6_) 60 qac_ J x=qkb_ (fun t7 t8 t9 out=>J 26 [] (qbf_ t7 t8 t9 out)) x.1 x.2.1:=by kernel_rfl
theorem q17k_ (t7:List Int) (t8 t9:Int) (out:List Int):jfn Tryz.prog qhg_ 6 18446744073709551616 (Ev.get qh6_) 60 qac_ 26 [] (qbf_ t7 t8 t9 out)=qfn_ t7 t8 t9 out:=by
 rw [q8_ (by decide)]
 rw [qr_ (by kernel_rfl)]
 refine qi_ (σ:=(List Int)×(Int)×(Int)×(List Int)) (mk:=fun s=>qbf_ s.1 s.2.1 s.2.2.1 s.2.2.2) (fun w1 s=>?_) 18446744073709551616 (t7,t8,t9,out)
 refine (q17s_ _ w1 s.1 s.2.1 s.2.2.1 s.2.2.2).trans ?_
 rfl
theorem q1b1_ (x:As [.sl (.int .u16),.sl (.int .u8)]):evT Tryz.prog qhg_ 6 18446744073709551616 (Ev.get qh6_) 60 qac_ x=q27_ x:=by
 have e1:(fun t7 t8 t9 out=>(jfn Tryz.prog qhg_ 6 18446744073709551616 (Ev.get qh6_) 60 qac_) 26 [] (qbf_ t7 t8 t9 out))=qfn_:=by funext t7 t8 t9 out; exact q17k_ t7 t8 t9 out
 rw [q5_,q17t_,e1]
 rfl
theorem q180_:CtOk Tryz.prog (fun _=>True) 60 ⟨qac_,q27_⟩:=q3_ q4_ q1b1_
@[reducible] def q7w_:Sh:=⟨[.d (.sl .bool)],[],[.sl .bool],[.d (.sl (.int .u8))],[],0,[.sl (.int .u8)]⟩
def qd5_:Env:=(cts [])
def qdj_:List (Nat×Hint):=[(7,⟨[],[0,3]⟩),(250,⟨[],[4,18,19,20]⟩)]
def qsw_ (bits:List Bool) (n:Int):St:={ fr:=[(0,.d (.sl .bool) bits),(3,.d (.int .i64) n)],nt:=38,up:=[],own:=[],nx:=0,log:=[],ln:=0 }
def qhz_ (t18:List Bool) (t19 t20:Int) (out:List Int):St:={ fr:=[(4,.row 0),(18,.d (.sl .bool) t18),(19,.d (.int .i64) t19),(20,.d (.int .i64) t20)],nt:=38,up:=[],own:=[(0,.row (.int .u8) 5 out)],nx:=1,log:=[],ln:=0 }
def qx8_ (j2:List Bool->Int->Int->List Int->Option (As [.sl (.int .u8)])) (bits:List Bool) (n:Int):Option (As [.sl (.int .u8)]) :=
 need (ge n 0) (need (Ev.capOk n n) (need (small (Int.toNat n)) (j2 bits (Int.ofNat (List.length bits)) 0 (List.replicate (Int.toNat n) 0))))
def qhw_ (self2:List Bool->Int->Int->List Int->Option (As [.sl (.int .u8)])) (t18:List Bool) (t19 t20:Int) (out:List Int):Option (As [.sl (.int .u8)]) :=
 if lt t20 t19=true then Option.bind (at? t18 t20) fun y=>if y=true then Option.bind (at? out (quo .i64 t20 8)) fun x=>Option.bind (at? out (quo .i64 t20 8)) fun y=>need (ge (rem t20 8) 0) (Option.bind (at? out (quo .i64 t20 8)) fun x=>Option.bind (at? out (quo .i64 t20 8)) fun x=>self2 t18 t19 (add .i64 t20 1) (List.set out (Int.toNat (quo .i64 t20 8)) (Sx.bor .u8 y (Sx.shl .u8 1 (rem t20 8))))) else self2 t18 t19 (add .i64 t20 1) out else some (out,())
def qsq_ (j1:List Bool->Int->Option (As [.sl (.int .u8)])) (bits:List Bool):Option (As [.sl (.int .u8)]) :=
 if gt (rem (Int.ofNat (List.length bits)) 8) 0=true then j1 bits (add .i64 (quo .i64 (Int.ofNat (List.length bits)) 8) 1) else j1 bits (quo .i64 (Int.ofNat (List.length bits)) 8)
def qt5_ (t18:List Bool) (t19 t20:Int) (out:List Int):Option (As [.sl (.int .u8)]) :=
 loopF (fun (self:(List Bool)×(Int)×(Int)×(List Int)->Option (As [.sl (.int .u8)])) (s:(List Bool)×(Int)×(Int)×(List Int))=>qhw_ (fun t18 t19 t20 out=>self (t18,t19,t20,out)) s.1 s.2.1 s.2.2.1 s.2.2.2) 18446744073709551616 (t18,t19,t20,out)
def qht_ (bits:List Bool) (n:Int):Option (As [.sl (.int .u8)]):=qx8_ (qt5_) bits n
def qjb_ (x:As [.sl .bool]):Option (As [.sl (.int .u8)]):=qsq_ qht_ x.1
theorem q1h1_ (J:Orc (As [.sl (.int .u8)])) (w2:St->Option (As [.sl (.int .u8)])) (t18:List Bool) (t19 t20:Int) (out:List Int):pfn Tryz.prog qd5_ 6 18446744073709551616 (Ev.get qdj_) 61 q7w_ J 250 [w2] (qhz_ t18 t19 t20 out)=qhw_ (fun t18 t19 t20 out=>w2 (qhz_ t18 t19 t20 out)) t18 t19 t20 out:=by kernel_rfl
theorem q1h3_ (J:Orc (As [.sl (.int .u8)])) (bits:List Bool) (n:Int):pfn Tryz.prog qd5_ 6 18446744073709551616 (Ev.get qdj_) 61 q7w_ J 7 [] (qsw_ bits n)=qx8_ (fun t18 t19 t20 out=>J 250 [] (qhz_ t18 t19 t20 out)) bits n:=by kernel_rfl
theorem q1gm_ (J:Orc (As [.sl (.int .u8)])) (x:As [.sl .bool]):rfn Tryz.prog qd5_ 6 18446744073709551616 (Ev.get qdj_) 61 q7w_ J x=qsq_ (fun bits n=>J 7 [] (qsw_ bits n)) x.1:=by kernel_rfl
theorem q1gp_ (t18:List Bool) (t19 t20:Int) (out:List Int):jfn Tryz.prog qd5_ 6 18446744073709551616 (Ev.get qdj_) 61 q7w_ 250 [] (qhz_ t18 t19 t20 out)=qt5_ t18 t19 t20 out:=by
 rw [q8_ (by decide)]
 rw [qr_ (by kernel_rfl)]
 refine qi_ (σ:=(List Bool)×(Int)×(Int)×(List Int)) (mk:=fun s=>qhz_ s.1 s.2.1 s.2.2.1 s.2.2.2) (fun w2 s=>?_) 18446744073709551616 (t18,t19,t20,out)
 refine (q1h1_ _ w2 s.1 s.2.1 s.2.2.1 s.2.2.2).trans ?_
 rfl
theorem q1hk_ (bits:List Bool) (n:Int):jfn Tryz.prog qd5_ 6 18446744073709551616 (Ev.get qdj_) 61 q7w_ 7 [] (qsw_ bits n)=qht_ bits n:=by
 rw [q8_ (by decide)]
 have e2:(fun t18 t19 t20 out=>(jfn Tryz.prog qd5_ 6 18446744073709551616 (Ev.get qdj_) 61 q7w_) 250 [] (qhz_ t18 t19 t20 out))=qt5_:=by funext t18 t19 t20 out; exact q1gp_ t18 t19 t20 out
 rw [q1h3_,e2]
 rfl
theorem q1ik_ (x:As [.sl .bool]):evT Tryz.prog qd5_ 6 18446744073709551616 (Ev.get qdj_) 61 q7w_ x=qjb_ x:=by
 have e1:(fun bits n=>(jfn Tryz.prog qd5_ 6 18446744073709551616 (Ev.get qdj_) 61 q7w_) 7 [] (qsw_ bits n))=qht_:=by funext bits n; exact q1hk_ bits n
 rw [q5_,q1gm_,e1]
 rfl
theorem q13u_:CtOk Tryz.prog (fun _=>True) 61 ⟨q7w_,qjb_⟩:=q3_ q4_ q1ik_
@[reducible] def q2e_:Sh:=⟨[.d (.pr (.int .u8) YTT4)],[],[.pr (.int .u8) YTT4],[.d (.sl (.int .u8)),.d (.int .i64)],[],0,[.sl (.int .u8),.int .i64]⟩
def q3w_:Env:=(cts [(58,(⟨q5f_,qbc_⟩:Ct)),(59,(⟨qe5_,q9r_⟩:Ct)),(60,(⟨qac_,q27_⟩:Ct)),(61,(⟨q7w_,qjb_⟩:Ct))])
def q3v_:List (Nat×Hint):=[(31,⟨[],[1,4,6,48,49,50,51]⟩),(63,⟨[],[1,4,6,48,49,50,51]⟩),(127,⟨[],[6]⟩),(508,⟨[],[1,4,6,43]⟩)]
def qro_ (a a_2 a_3 a_4:Int) (a_5:List Int) (a_6:List Bool) (s s_2 s_3:Int) (s_4 s_5:Bool) (out:List Int):St:={ fr:=[(1,.pb 0 0),(4,.pb 1 0),(6,.row 2)],nt:=102,up:=[],own:=[(0,.box 44 [.d (.int .u8) a,.d (.int .u16) a_2,.d (.int .u16) a_3,.d (.int .u16) a_4,.d (.sl (.int .u16)) a_5,.d (.sl .bool) a_6]),(1,.box 114 [.d (.int .i64) s,.d (.int .i64) s_2,.d (.int .i64) s_3,.d .bool s_4,.d .bool s_5]),(2,.row (.int .u8) 5 out)],nx:=3,log:=[],ln:=0 }
def qpz_ (a a_2 a_3 a_4:Int) (a_5:List Int) (a_6:List Bool) (s s_2 s_3:Int) (s_4 s_5:Bool) (out:List Int):St:={ fr:=[(1,.pb 0 0),(4,.pb 1 0),(6,.row 2)],nt:=102,up:=[],own:=[(0,.box 44 [.d (.int .u8) a,.d (.int .u16) a_2,.d (.int .u16) a_3,.d (.int .u16) a_4,.d (.sl (.int .u16)) a_5,.d (.sl .bool) a_6]),(1,.box 114 [.d (.int .i64) s,.d (.int .i64) s_2,.d (.int .i64) s_3,.d .bool s_4,.d .bool s_5]),(2,.row (.int .u8) 5 out)],nx:=3,log:=[],ln:=0 }
def qs0_ (t43:Bool) (a a_2 a_3 a_4:Int) (a_5:List Int) (a_6:List Bool) (s s_2 s_3:Int) (s_4 s_5:Bool) (out:List Int):St:={ fr:=[(1,.pb 0 0),(4,.pb 1 0),(6,.row 2),(43,.d .bool t43)],nt:=102,up:=[],own:=[(0,.box 44 [.d (.int .u8) a,.d (.int .u16) a_2,.d (.int .u16) a_3,.d (.int .u16) a_4,.d (.sl (.int .u16)) a_5,.d (.sl .bool) a_6]),(1,.box 114 [.d (.int .i64) s,.d (.int .i64) s_2,.d (.int .i64) s_3,.d .bool s_4,.d .bool s_5]),(2,.row (.int .u8) 5 out)],nx:=3,log:=[],ln:=0 }
def qri_ (out:List Int):St:={ fr:=[(6,.row 0)],nt:=102,up:=[],own:=[(0,.row (.int .u8) 5 out)],nx:=1,log:=[],ln:=0 }
def q11m_ (j2:Int->Int->Int->Int->List Int->List Bool->Int->Int->Int->Bool->Bool->List Int->Option (As [.sl (.int .u8),.int .i64])) (a a_2 a_3 a_4:Int) (a_5:List Int) (a_6:List Bool) (s s_2 s_3:Int) (s_4 s_5:Bool) (out:List Int):Option (As [.sl (.int .u8),.int .i64]) :=
 if s_4=true then Option.bind (q27_ ([a_4,cvt .u16 (Int.ofNat (List.length a_5))],out,())) fun y=>j2 a a_2 a_3 a_4 a_5 a_6 s s_2 s_3 s_4 s_5 y.1 else j2 a a_2 a_3 a_4 a_5 a_6 s s_2 s_3 s_4 s_5 out
def q12h_ (j3:Bool->Int->Int->Int->Int->List Int->List Bool->Int->Int->Int->Bool->Bool->List Int->Option (As [.sl (.int .u8),.int .i64])) (a a_2 a_3 a_4:Int) (a_5:List Int) (a_6:List Bool) (s s_2 s_3:Int) (s_4 s_5:Bool) (out:List Int):Option (As [.sl (.int .u8),.int .i64]) :=
 if eqi a 5=true then Option.bind (at? a_6 0) fun y=>j3 y a a_2 a_3 a_4 a_5 a_6 s s_2 s_3 s_4 s_5 out else j3 false a a_2 a_3 a_4 a_5 a_6 s s_2 s_3 s_4 s_5 out
def q13a_ (j4:List Int->Option (As [.sl (.int .u8),.int .i64])) (t43:Bool) (a a_2 a_3 a_4:Int) (a_5:List Int) (a_6:List Bool) (s s_2 s_3:Int) (s_4 s_5:Bool) (out:List Int):Option (As [.sl (.int .u8),.int .i64]) :=
 if t43=true then Option.bind (q27_ ([65280],out,())) fun y=>j4 y.1 else if eqi a 5=true then Option.bind (q27_ ([0],out,())) fun y=>j4 y.1 else if eqi a 6=true then Option.bind (q27_ (a_5,out,())) fun y=>j4 y.1 else if gt s_2 0=true then Option.bind (qjb_ (a_6,())) fun y=>need (small (List.length out + Nat.succ 0)) (need (small (List.length (out++[cvt .u8 (Int.ofNat (List.length y.1))]) + List.length y.1)) (j4 (out++[cvt .u8 (Int.ofNat (List.length y.1))]++y.1))) else if gt s_3 0=true then need (small (List.length out + Nat.succ 0)) (Option.bind (q27_ (a_5,out++[cvt .u8 (mul .i64 2 (Int.ofNat (List.length a_5)))],())) fun y=>j4 y.1) else j4 out
def q12w_ (out:List Int):Option (As [.sl (.int .u8),.int .i64]) :=
 some (out,0,())
def qpf_ (j1:Int->Int->Int->Int->List Int->List Bool->Int->Int->Int->Bool->Bool->List Int->Option (As [.sl (.int .u8),.int .i64])) (a:Int×Int×Int×Int×List Int×List Bool):Option (As [.sl (.int .u8),.int .i64]) :=
 Option.bind (qbc_ (a,())) fun y=>if (!y.1)=true then some ([],12,()) else Option.bind (q9r_ (a.1,())) fun y=>Option.bind (q27_ ([a.2.1],[a.1],())) fun y_1=>if gt y.1.1 0=true then Option.bind (q27_ ([a.2.2.1],y_1.1,())) fun y_2=>j1 a.1 a.2.1 a.2.2.1 a.2.2.2.1 a.2.2.2.2.1 a.2.2.2.2.2 y.1.1 y.1.2.1 y.1.2.2.1 y.1.2.2.2.1 y.1.2.2.2.2 y_2.1 else j1 a.1 a.2.1 a.2.2.1 a.2.2.2.1 a.2.2.2.2.1 a.2.2.2.2.2 y.1.1 y.1.2.1 y.1.2.2.1 y.1.2.2.2.1 y.1.2.2.2.2 y_1.1
def qvk_ (out:List Int):Option (As [.sl (.int .u8),.int .i64]):=q12w_ out
def qvz_ (t43:Bool) (a a_2 a_3 a_4:Int) (a_5:List Int) (a_6:List Bool) (s s_2 s_3:Int) (s_4 s_5:Bool) (out:List Int):Option (As [.sl (.int .u8),.int .i64]):=q13a_ (qvk_) t43 a a_2 a_3 a_4 a_5 a_6 s s_2 s_3 s_4 s_5 out
def qv9_ (a a_2 a_3 a_4:Int) (a_5:List Int) (a_6:List Bool) (s s_2 s_3:Int) (s_4 s_5:Bool) (out:List Int):Option (As [.sl (.int .u8),.int .i64]):=q12h_ (qvz_) a a_2 a_3 a_4 a_5 a_6 s s_2 s_3 s_4 s_5 out
def q69_ (a a_2 a_3 a_4:Int) (a_5:List Int) (a_6:List Bool) (s s_2 s_3:Int) (s_4 s_5:Bool) (out:List Int):Option (As [.sl (.int .u8),.int .i64]):=q11m_ (qv9_) a a_2 a_3 a_4 a_5 a_6 s s_2 s_3 s_4 s_5 out
def qdu_ (x:As [.pr (.int .u8) YTT4]):Option (As [.sl (.int .u8),.int .i64]):=qpf_ q69_ x.1
theorem q1f3_ (J:Orc (As [.sl (.int .u8),.int .i64])) (out:List Int):pfn Tryz.prog q3w_ 6 18446744073709551616 (Ev.get q3v_) 13 q2e_ J 127 [] (qri_ out)=q12w_ out:=by kernel_rfl
theorem q1et_ (J:Orc (As [.sl (.int .u8),.int .i64])) (t43:Bool) (a a_2 a_3 a_4:Int) (a_5:List Int) (a_6:List Bool) (s s_2 s_3:Int) (s_4 s_5:Bool) (out:List Int):pfn Tryz.prog q3w_ 6 18446744073709551616 (Ev.get q3v_) 13 q2e_ J 508 [] (qs0_ t43 a a_2 a_3 a_4 a_5 a_6 s s_2 s_3 s_4 s_5 out)=q13a_ (fun out=>J 127 [] (qri_ out)) t43 a a_2 a_3 a_4 a_5 a_6 s s_2 s_3 s_4 s_5 out:=by kernel_rfl
theorem q1eb_ (J:Orc (As [.sl (.int .u8),.int .i64])) (a a_2 a_3 a_4:Int) (a_5:List Int) (a_6:List Bool) (s s_2 s_3:Int) (s_4 s_5:Bool) (out:List Int):pfn Tryz.prog q3w_ 6 18446744073709551616 (Ev.get q3v_) 13 q2e_ J 63 [] (qpz_ a a_2 a_3 a_4 a_5 a_6 s s_2 s_3 s_4 s_5 out)=q12h_ (fun t43 a a_2 a_3 a_4 a_5 a_6 s s_2 s_3 s_4 s_5 out=>J 508 [] (qs0_ t43 a a_2 a_3 a_4 a_5 a_6 s s_2 s_3 s_4 s_5 out)) a a_2 a_3 a_4 a_5 a_6 s s_2 s_3 s_4 s_5 out:=by kernel_rfl
theorem q1dl_ (J:Orc (As [.sl (.int .u8),.int .i64])) (a a_2 a_3 a_4:Int) (a_5:List Int) (a_6:List Bool) (s s_2 s_3:Int) (s_4 s_5:Bool) (out:List Int):pfn Tryz.prog q3w_ 6 18446744073709551616 (Ev.get q3v_) 13 q2e_ J 31 [] (qro_ a a_2 a_3 a_4 a_5 a_6 s s_2 s_3 s_4 s_5 out)=q11m_ (fun a a_2 a_3 a_4 a_5 a_6 s s_2 s_3 s_4 s_5 out=>J 63 [] (qpz_ a a_2 a_3 a_4 a_5 a_6 s s_2 s_3 s_4 s_5 out)) a a_2 a_3 a_4 a_5 a_6 s s_2 s_3 s_4 s_5 out:=by kernel_rfl
theorem q1ep_ (J:Orc (As [.sl (.int .u8),.int .i64])) (x:As [.pr (.int .u8) YTT4]):rfn Tryz.prog q3w_ 6 18446744073709551616 (Ev.get q3v_) 13 q2e_ J x=qpf_ (fun a a_2 a_3 a_4 a_5 a_6 s s_2 s_3 s_4 s_5 out=>J 31 [] (qro_ a a_2 a_3 a_4 a_5 a_6 s s_2 s_3 s_4 s_5 out)) x.1:=by kernel_rfl
theorem q1cw_ (out:List Int):jfn Tryz.prog q3w_ 6 18446744073709551616 (Ev.get q3v_) 13 q2e_ 127 [] (qri_ out)=qvk_ out:=by
 rw [q8_ (by decide)]
 rw [q1f3_]
 rfl
theorem q1fy_ (t43:Bool) (a a_2 a_3 a_4:Int) (a_5:List Int) (a_6:List Bool) (s s_2 s_3:Int) (s_4 s_5:Bool) (out:List Int):jfn Tryz.prog q3w_ 6 18446744073709551616 (Ev.get q3v_) 13 q2e_ 508 [] (qs0_ t43 a a_2 a_3 a_4 a_5 a_6 s s_2 s_3 s_4 s_5 out)=qvz_ t43 a a_2 a_3 a_4 a_5 a_6 s s_2 s_3 s_4 s_5 out:=by
 rw [q8_ (by decide)]
 have e4:(fun out=>(jfn Tryz.prog q3w_ 6 18446744073709551616 (Ev.get q3v_) 13 q2e_) 127 [] (qri_ out))=qvk_:=funext fun out=>q1cw_ out
 rw [q1et_,e4]
 rfl
theorem q1es_ (a a_2 a_3 a_4:Int) (a_5:List Int) (a_6:List Bool) (s s_2 s_3:Int) (s_4 s_5:Bool) (out:List Int):jfn Tryz.prog q3w_ 6 18446744073709551616 (Ev.get q3v_) 13 q2e_ 63 [] (qpz_ a a_2 a_3 a_4 a_5 a_6 s s_2 s_3 s_4 s_5 out)=qv9_ a a_2 a_3 a_4 a_5 a_6 s s_2 s_3 s_4 s_5 out:=by
 rw [q8_ (by decide)]
 have e3:(fun t43 a a_2 a_3 a_4 a_5 a_6 s s_2 s_3 s_4 s_5 out=>(jfn Tryz.prog q3w_ 6 18446744073709551616 (Ev.get q3v_) 13 q2e_) 508 [] (qs0_ t43 a a_2 a_3 a_4 a_5 a_6 s s_2 s_3 s_4 s_5 out))=qvz_:=by funext t43 a a_2 a_3 a_4 a_5 a_6 s s_2 s_3 s_4 s_5 out; exact q1fy_ t43 a a_2 a_3 a_4 a_5 a_6 s s_2 s_3 s_4 s_5 out
 rw [q1eb_,e3]
 rfl
theorem q1do_ (a a_2 a_3 a_4:Int) (a_5:List Int) (a_6:List Bool) (s s_2 s_3:Int) (s_4 s_5:Bool) (out:List Int):jfn Tryz.prog q3w_ 6 18446744073709551616 (Ev.get q3v_) 13 q2e_ 31 [] (qro_ a a_2 a_3 a_4 a_5 a_6 s s_2 s_3 s_4 s_5 out)=q69_ a a_2 a_3 a_4 a_5 a_6 s s_2 s_3 s_4 s_5 out:=by
 rw [q8_ (by decide)]
 have e2:(fun a a_2 a_3 a_4 a_5 a_6 s s_2 s_3 s_4 s_5 out=>(jfn Tryz.prog q3w_ 6 18446744073709551616 (Ev.get q3v_) 13 q2e_) 63 [] (qpz_ a a_2 a_3 a_4 a_5 a_6 s s_2 s_3 s_4 s_5 out))=qv9_:=by funext a a_2 a_3 a_4 a_5 a_6 s s_2 s_3 s_4 s_5 out; exact q1es_ a a_2 a_3 a_4 a_5 a_6 s s_2 s_3 s_4 s_5 out
 rw [q1dl_,e2]
 rfl
theorem q1i4_ (x:As [.pr (.int .u8) YTT4]):evT Tryz.prog q3w_ 6 18446744073709551616 (Ev.get q3v_) 13 q2e_ x=qdu_ x:=by
 have e1:(fun a a_2 a_3 a_4 a_5 a_6 s s_2 s_3 s_4 s_5 out=>(jfn Tryz.prog q3w_ 6 18446744073709551616 (Ev.get q3v_) 13 q2e_) 31 [] (qro_ a a_2 a_3 a_4 a_5 a_6 s s_2 s_3 s_4 s_5 out))=q69_:=by funext a a_2 a_3 a_4 a_5 a_6 s s_2 s_3 s_4 s_5 out; exact q1do_ a a_2 a_3 a_4 a_5 a_6 s s_2 s_3 s_4 s_5 out
 rw [q5_,q1ep_,e1]
 rfl
theorem qvg_:CtOk Tryz.prog (fun _=>True) 13 ⟨q2e_,qdu_⟩:=q3_ (q0_ qvu_ (q0_ qpi_ (q0_ q180_ (q0_ q13u_ q4_)))) q1i4_
@[reducible] def qec_:Sh:=⟨[.d YTT8],[],[.pr (.int .i64) (.sl (.int .u16))],[.d (.bool)],[],0,[.bool]⟩
def q13s_:Env:=(cts [])
def q13y_:List (Nat×Hint):=[]
def qrc_ (x:Int×List Int):Option (As [.bool]) :=
 if le (Int.ofNat (List.length x.2)) 14=true then if ge x.1 0=true then if lt x.1 64=true then some (le (add .i64 x.1 (Int.ofNat (List.length x.2))) 64,()) else some (false,()) else some (false,()) else some (false,())
def q8h_ (x:As [.pr (.int .i64) (.sl (.int .u16))]):Option (As [.bool]):=qrc_ x.1
theorem q1ed_ (J:Orc (As [.bool])) (x:As [.pr (.int .i64) (.sl (.int .u16))]):rfn Tryz.prog q13s_ 6 18446744073709551616 (Ev.get q13y_) 76 qec_ J x=qrc_ x.1:=by kernel_rfl
theorem q1hy_ (x:As [.pr (.int .i64) (.sl (.int .u16))]):evT Tryz.prog q13s_ 6 18446744073709551616 (Ev.get q13y_) 76 qec_ x=q8h_ x:=by
 rw [q5_,q1ed_]
 rfl
theorem qrv_:CtOk Tryz.prog (fun _=>True) 76 ⟨qec_,q8h_⟩:=q3_ q4_ q1hy_
@[reducible] def q36_:Sh:=⟨[.d YTT8],[],[.pr (.int .i64) (.sl (.int .u16))],[.d (.sl (.int .u16))],[],0,[.sl (.int .u16)]⟩
def q75_:Env:=(cts [(76,(⟨qec_,q8h_⟩:Ct))])
def q6y_:List (Nat×Hint):=[(7,⟨[],[3]⟩),(60,⟨[],[3]⟩)]
def qii_ (l:List Int):St:={ fr:=[(3,.row 0)],nt:=28,up:=[],own:=[(0,.row (.int .u16) 23 l)],nx:=1,log:=[],ln:=0 }
def qa4_ (l:List Int):St:={ fr:=[(3,.row 0)],nt:=28,up:=[],own:=[(0,.row (.int .u16) 23 l)],nx:=1,log:=[],ln:=0 }
def qws_ (j2:List Int->Option (As [.sl (.int .u16)])) (l:List Int):Option (As [.sl (.int .u16)]) :=
 j2 l
def qik_ (self2:List Int->Option (As [.sl (.int .u16)])) (l:List Int):Option (As [.sl (.int .u16)]) :=
 if lt (Int.ofNat (List.length l)) 16=true then need (small (List.length l + 1)) (self2 (l++[0])) else some (l,())
def qiq_ (j1:List Int->Option (As [.sl (.int .u16)])) (x:Int×List Int):Option (As [.sl (.int .u16)]) :=
 Option.bind (q8h_ (x,())) fun y=>if y.1=true then need (small (0 + Nat.succ (Nat.succ 0))) (need (small (Nat.succ (Nat.succ 0) + List.length x.2)) (j1 (cvt .u16 x.1::cvt .u16 (Int.ofNat (List.length x.2))::x.2))) else j1 (List.replicate 0 0)
def qdg_ (l:List Int):Option (As [.sl (.int .u16)]) :=
 loopF (fun (self:(List Int)->Option (As [.sl (.int .u16)])) (s:(List Int))=>qik_ (fun l=>self (l)) s) 18446744073709551616 (l)
def qd4_ (l:List Int):Option (As [.sl (.int .u16)]):=qws_ (qdg_) l
def q7t_ (x:As [.pr (.int .i64) (.sl (.int .u16))]):Option (As [.sl (.int .u16)]):=qiq_ qd4_ x.1
theorem q16z_ (J:Orc (As [.sl (.int .u16)])) (w2:St->Option (As [.sl (.int .u16)])) (l:List Int):pfn Tryz.prog q75_ 6 18446744073709551616 (Ev.get q6y_) 73 q36_ J 60 [w2] (qa4_ l)=qik_ (fun l=>w2 (qa4_ l)) l:=by kernel_rfl
theorem q16m_ (J:Orc (As [.sl (.int .u16)])) (l:List Int):pfn Tryz.prog q75_ 6 18446744073709551616 (Ev.get q6y_) 73 q36_ J 7 [] (qii_ l)=qws_ (fun l=>J 60 [] (qa4_ l)) l:=by kernel_rfl
theorem q15t_ (J:Orc (As [.sl (.int .u16)])) (x:As [.pr (.int .i64) (.sl (.int .u16))]):rfn Tryz.prog q75_ 6 18446744073709551616 (Ev.get q6y_) 73 q36_ J x=qiq_ (fun l=>J 7 [] (qii_ l)) x.1:=by kernel_rfl
theorem q170_ (l:List Int):jfn Tryz.prog q75_ 6 18446744073709551616 (Ev.get q6y_) 73 q36_ 60 [] (qa4_ l)=qdg_ l:=by
 rw [q8_ (by decide)]
 rw [qr_ (by kernel_rfl)]
 refine qi_ (σ:=(List Int)) (mk:=fun s=>qa4_ s) (fun w2 s=>?_) 18446744073709551616 (l)
 refine (q16z_ _ w2 s).trans ?_
 rfl
theorem q162_ (l:List Int):jfn Tryz.prog q75_ 6 18446744073709551616 (Ev.get q6y_) 73 q36_ 7 [] (qii_ l)=qd4_ l:=by
 rw [q8_ (by decide)]
 have e2:(fun l=>(jfn Tryz.prog q75_ 6 18446744073709551616 (Ev.get q6y_) 73 q36_) 60 [] (qa4_ l))=qdg_:=funext fun l=>q170_ l
 rw [q16m_,e2]
 rfl
theorem q17z_ (x:As [.pr (.int .i64) (.sl (.int .u16))]):evT Tryz.prog q75_ 6 18446744073709551616 (Ev.get q6y_) 73 q36_ x=q7t_ x:=by
 have e1:(fun l=>(jfn Tryz.prog q75_ 6 18446744073709551616 (Ev.get q6y_) 73 q36_) 7 [] (qii_ l))=qd4_:=funext fun l=>q162_ l
 rw [q5_,q15t_,e1]
 rfl
theorem qq3_:CtOk Tryz.prog (fun _=>True) 73 ⟨q36_,q7t_⟩:=q3_ (q0_ qrv_ q4_) q17z_
@[reducible] def qi0_:Sh:=⟨[.d YTT8],[],[.pr (.int .i64) (.sl (.int .u16))],[.d YTT8],[],0,[.pr (.int .i64) (.sl (.int .u16))]⟩
def q13v_:Env:=(cts [(131,(⟨q28_,qb_⟩:Ct))])
def q149_:List (Nat×Hint):=[]
def qp6_ (x:Int×List Int):Option (As [.pr (.int .i64) (.sl (.int .u16))]) :=
 Option.bind (qb_ (x.2,())) fun y=>some ((x.1,y.1),())
def qdv_ (x:As [.pr (.int .i64) (.sl (.int .u16))]):Option (As [.pr (.int .i64) (.sl (.int .u16))]):=qp6_ x.1
theorem q1f8_ (J:Orc (As [.pr (.int .i64) (.sl (.int .u16))])) (x:As [.pr (.int .i64) (.sl (.int .u16))]):rfn Tryz.prog q13v_ 6 18446744073709551616 (Ev.get q149_) 79 qi0_ J x=qp6_ x.1:=by kernel_rfl
theorem q1h0_ (x:As [.pr (.int .i64) (.sl (.int .u16))]):evT Tryz.prog q13v_ 6 18446744073709551616 (Ev.get q149_) 79 qi0_ x=qdv_ x:=by
 rw [q5_,q1f8_]
 rfl
theorem qw0_:CtOk Tryz.prog (fun _=>True) 79 ⟨qi0_,qdv_⟩:=q3_ (q0_ q5o_ q4_) q1h0_
@[reducible] def q1n_:Sh:=⟨[.d (.sl (.int .u16)),.d (.sl (.int .u16))],[],[.sl (.int .u16),.sl (.int .u16)],[.d (.bool)],[],0,[.bool]⟩
def q5z_:Env:=(cts [])
def q68_:List (Nat×Hint):=[(58,⟨[],[0,1,12,13]⟩)]
def q45_ (s1 s2:List Int) (t12 t13:Int):St:={ fr:=[(0,.d (.sl (.int .u16)) s1),(1,.d (.sl (.int .u16)) s2),(12,.d (.int .i64) t12),(13,.d (.int .i64) t13)],nt:=26,up:=[],own:=[],nx:=0,log:=[],ln:=0 }
def q43_ (self1:List Int->List Int->Int->Int->Option (As [.bool])) (s1 s2:List Int) (t12 t13:Int):Option (As [.bool]) :=
 if lt t13 t12=true then Option.bind (at? s1 t13) fun y=>Option.bind (at? s2 t13) fun y_1=>if nei y y_1=true then some (false,()) else self1 s1 s2 t12 (add .i64 t13 1) else some (true,())
def q8s_ (j1:List Int->List Int->Int->Int->Option (As [.bool])) (s1 s2:List Int):Option (As [.bool]) :=
 if nei (Int.ofNat (List.length s1)) (Int.ofNat (List.length s2))=true then some (false,()) else j1 s1 s2 (Int.ofNat (List.length s1)) 0
def q5n_ (s1 s2:List Int) (t12 t13:Int):Option (As [.bool]) :=
 loopF (fun (self:(List Int)×(List Int)×(Int)×(Int)->Option (As [.bool])) (s:(List Int)×(List Int)×(Int)×(Int))=>q43_ (fun s1 s2 t12 t13=>self (s1,s2,t12,t13)) s.1 s.2.1 s.2.2.1 s.2.2.2) 18446744073709551616 (s1,s2,t12,t13)
def q1o_ (x:As [.sl (.int .u16),.sl (.int .u16)]):Option (As [.bool]):=q8s_ q5n_ x.1 x.2.1
theorem qwf_ (J:Orc (As [.bool])) (w1:St->Option (As [.bool])) (s1 s2:List Int) (t12 t13:Int):pfn Tryz.prog q5z_ 6 18446744073709551616 (Ev.get q68_) 80 q1n_ J 58 [w1] (q45_ s1 s2 t12 t13)=q43_ (fun s1 s2 t12 t13=>w1 (q45_ s1 s2 t12 t13)) s1 s2 t12 t13:=by kernel_rfl
theorem qwe_ (J:Orc (As [.bool])) (x:As [.sl (.int .u16),.sl (.int .u16)]):rfn Tryz.prog q5z_ 6 18446744073709551616 (Ev.get q68_) 80 q1n_ J x=q8s_ (fun s1 s2 t12 t13=>J 58 [] (q45_ s1 s2 t12 t13)) x.1 x.2.1:=by kernel_rfl
theorem qwb_ (s1 s2:List Int) (t12 t13:Int):jfn Tryz.prog q5z_ 6 18446744073709551616 (Ev.get q68_) 80 q1n_ 58 [] (q45_ s1 s2 t12 t13)=q5n_ s1 s2 t12 t13:=by
 rw [q8_ (by decide)]
 rw [qr_ (by kernel_rfl)]
 refine qi_ (σ:=(List Int)×(List Int)×(Int)×(Int)) (mk:=fun s=>q45_ s.1 s.2.1 s.2.2.1 s.2.2.2) (fun w1 s=>?_) 18446744073709551616 (s1,s2,t12,t13)
 refine (qwf_ _ w1 s.1 s.2.1 s.2.2.1 s.2.2.2).trans ?_
 rfl
theorem qxg_ (x:As [.sl (.int .u16),.sl (.int .u16)]):evT Tryz.prog q5z_ 6 18446744073709551616 (Ev.get q68_) 80 q1n_ x=q1o_ x:=by
 have e1:(fun s1 s2 t12 t13=>(jfn Tryz.prog q5z_ 6 18446744073709551616 (Ev.get q68_) 80 q1n_) 58 [] (q45_ s1 s2 t12 t13))=q5n_:=by funext s1 s2 t12 t13; exact qwb_ s1 s2 t12 t13
 rw [q5_,qwe_,e1]
 rfl
theorem q8o_:CtOk Tryz.prog (fun _=>True) 80 ⟨q1n_,q1o_⟩:=q3_ q4_ qxg_
@[reducible] def qjf_:Sh:=⟨[.d (.int .u16),.d (.int .u16)],[],[.int .u16,.int .u16],[.d (.int .u32)],[],0,[.int .u32]⟩
def q12g_:Env:=(cts [])
def q11u_:List (Nat×Hint):=[]
def qmh_ (high low:Int):Option (As [.int .u32]) :=
 some (Sx.bor .u32 (Sx.shl .u32 (cvt .u32 high) 16) (cvt .u32 low),())
def qdn_ (x:As [.int .u16,.int .u16]):Option (As [.int .u32]):=qmh_ x.1 x.2.1
theorem q1c7_ (J:Orc (As [.int .u32])) (x:As [.int .u16,.int .u16]):rfn Tryz.prog q12g_ 6 18446744073709551616 (Ev.get q11u_) 81 qjf_ J x=qmh_ x.1 x.2.1:=by kernel_rfl
theorem q1f4_ (x:As [.int .u16,.int .u16]):evT Tryz.prog q12g_ 6 18446744073709551616 (Ev.get q11u_) 81 qjf_ x=qdn_ x:=by
 rw [q5_,q1c7_]
 rfl
theorem q10i_:CtOk Tryz.prog (fun _=>True) 81 ⟨qjf_,qdn_⟩:=q3_ q4_ q1f4_
@[reducible] def q62_:Sh:=⟨[.d (.sl (.int .u16))],[],[.sl (.int .u16)],[.d (.int .u16),.d (.int .u32),.d (.int .i64),.d YTT8,.d (.int .i64)],[],0,[.int .u16,.int .u32,.int .i64,.pr (.int .i64) (.sl (.int .u16)),.int .i64]⟩
def q9k_:Env:=(cts [(73,(⟨q36_,q7t_⟩:Ct)),(76,(⟨qec_,q8h_⟩:Ct)),(79,(⟨qi0_,qdv_⟩:Ct)),(80,(⟨q1n_,q1o_⟩:Ct)),(81,(⟨qjf_,qdn_⟩:Ct))])
def q9t_:List (Nat×Hint):=[(126,⟨[],[0,5,10,53]⟩),(6,⟨[],[0,5,19,47,48,49,50,51,52]⟩)]
def qmq_ (w:List Int) (t19:Bool) (t5:Int):St:={ fr:=[(0,.d (.sl (.int .u16)) w),(5,.pb 0 0),(19,.d .bool t19)],nt:=70,up:=[],own:=[(0,.box 30 [.d (.int .i64) t5,.k (Go.Value.slice Option.none 0 0)])],nx:=1,log:=[],ln:=0 }
def qnl_ (w:List Int) (t53:Bool) (t5:Int) (x:Int×List Int):St:={ fr:=[(0,.d (.sl (.int .u16)) w),(5,.pb 0 0),(10,.pb 1 0),(53,.d .bool t53)],nt:=70,up:=[],own:=[(0,.box 30 [.d (.int .i64) t5,.k (Go.Value.slice Option.none 0 0)]),(1,.box 30 [.d (.int .i64) x.1,.d (.sl (.int .u16)) x.2])],nx:=2,log:=[],ln:=0 }
def qmg_ (j2:List Int->Bool->Int->Int×List Int->Option (As [.int .u16,.int .u32,.int .i64,.pr (.int .i64) (.sl (.int .u16)),.int .i64])) (w:List Int) (t19:Bool) (t5:Int):Option (As [.int .u16,.int .u32,.int .i64,.pr (.int .i64) (.sl (.int .u16)),.int .i64]) :=
 if t19=true then some (0,0,0,(0,[]),2,()) else Option.bind (at? w 4) fun y=>Option.bind (at? w 5) fun y_1=>Option.bind (cut w 6 (Int.ofNat (List.length w))) fun y_2=>if gt (cvt .i64 y_1) (Int.ofNat (List.length y_2))=true then some (0,0,0,(0,[]),20,()) else Option.bind (cut y_2 0 (cvt .i64 y_1)) fun y_3=>need (le (cvt .i64 y_1) (cvt .i64 y_1)) (need (le (cvt .i64 y_1) (Int.ofNat (List.length y_2))) (Option.bind (qdv_ ((cvt .i64 y,y_3),())) fun y=>Option.bind (q8h_ (y.1,())) fun y_4=>if (!y_4.1)=true then j2 w true t5 y.1 else Option.bind (cut w 4 (Int.ofNat (List.length w))) fun y_5=>Option.bind (q7t_ (y.1,())) fun y_6=>Option.bind (q1o_ (y_6.1,y_5,())) fun y_7=>j2 w (!y_7.1) t5 y.1))
def qmn_ (w:List Int) (t53:Bool) (t5:Int) (x:Int×List Int):Option (As [.int .u16,.int .u32,.int .i64,.pr (.int .i64) (.sl (.int .u16)),.int .i64]) :=
 if t53=true then some (0,0,0,(0,[]),20,()) else Option.bind (at? w 0) fun y=>Option.bind (at? w 1) fun y_1=>Option.bind (at? w 2) fun y_2=>Option.bind (at? w 3) fun y_3=>Option.bind (qdn_ (y_1,y_2,())) fun y_4=>some (y,y_4.1,cvt .i64 y_3,x,0,())
def qnt_ (j1:List Int->Bool->Int->Option (As [.int .u16,.int .u32,.int .i64,.pr (.int .i64) (.sl (.int .u16)),.int .i64])) (w:List Int):Option (As [.int .u16,.int .u32,.int .i64,.pr (.int .i64) (.sl (.int .u16)),.int .i64]) :=
 if nei (Int.ofNat (List.length w)) 20=true then j1 w true 0 else Option.bind (at? w 3) fun y=>j1 w (ge y 8) 0
def qhr_ (w:List Int) (t53:Bool) (t5:Int) (x:Int×List Int):Option (As [.int .u16,.int .u32,.int .i64,.pr (.int .i64) (.sl (.int .u16)),.int .i64]):=qmn_ w t53 t5 x
def qmw_ (w:List Int) (t19:Bool) (t5:Int):Option (As [.int .u16,.int .u32,.int .i64,.pr (.int .i64) (.sl (.int .u16)),.int .i64]):=qmg_ (qhr_) w t19 t5
def qh0_ (x:As [.sl (.int .u16)]):Option (As [.int .u16,.int .u32,.int .i64,.pr (.int .i64) (.sl (.int .u16)),.int .i64]):=qnt_ qmw_ x.1
theorem q1bh_ (J:Orc (As [.int .u16,.int .u32,.int .i64,.pr (.int .i64) (.sl (.int .u16)),.int .i64])) (w:List Int) (t53:Bool) (t5:Int) (x:Int×List Int):pfn Tryz.prog q9k_ 6 18446744073709551616 (Ev.get q9t_) 24 q62_ J 126 [] (qnl_ w t53 t5 x)=qmn_ w t53 t5 x:=by kernel_rfl
theorem q1ci_ (J:Orc (As [.int .u16,.int .u32,.int .i64,.pr (.int .i64) (.sl (.int .u16)),.int .i64])) (w:List Int) (t19:Bool) (t5:Int):pfn Tryz.prog q9k_ 6 18446744073709551616 (Ev.get q9t_) 24 q62_ J 6 [] (qmq_ w t19 t5)=qmg_ (fun w t53 t5 x=>J 126 [] (qnl_ w t53 t5 x)) w t19 t5:=by kernel_rfl
theorem q1co_ (J:Orc (As [.int .u16,.int .u32,.int .i64,.pr (.int .i64) (.sl (.int .u16)),.int .i64])) (x:As [.sl (.int .u16)]):rfn Tryz.prog q9k_ 6 18446744073709551616 (Ev.get q9t_) 24 q62_ J x=qnt_ (fun w t19 t5=>J 6 [] (qmq_ w t19 t5)) x.1:=by kernel_rfl
theorem q1b5_ (w:List Int) (t53:Bool) (t5:Int) (x:Int×List Int):jfn Tryz.prog q9k_ 6 18446744073709551616 (Ev.get q9t_) 24 q62_ 126 [] (qnl_ w t53 t5 x)=qhr_ w t53 t5 x:=by
 rw [q8_ (by decide)]
 rw [q1bh_]
 rfl
theorem q1cs_ (w:List Int) (t19:Bool) (t5:Int):jfn Tryz.prog q9k_ 6 18446744073709551616 (Ev.get q9t_) 24 q62_ 6 [] (qmq_ w t19 t5)=qmw_ w t19 t5:=by
 rw [q8_ (by decide)]
 have e2:(fun w t53 t5 x=>(jfn Tryz.prog q9k_ 6 18446744073709551616 (Ev.get q9t_) 24 q62_) 126 [] (qnl_ w t53 t5 x))=qhr_:=by funext w t53 t5 x; exact q1b5_ w t53 t5 x
 rw [q1ci_,e2]
 rfl
theorem q1ec_ (x:As [.sl (.int .u16)]):evT Tryz.prog q9k_ 6 18446744073709551616 (Ev.get q9t_) 24 q62_ x=qh0_ x:=by
 have e1:(fun w t19 t5=>(jfn Tryz.prog q9k_ 6 18446744073709551616 (Ev.get q9t_) 24 q62_) 6 [] (qmq_ w t19 t5))=qmw_:=by funext w t19 t5; exact q1cs_ w t19 t5
 rw [q5_,q1co_,e1]
 rfl
theorem q1bb_:CtOk Tryz.prog (fun _=>True) 24 ⟨q62_,qh0_⟩:=q3_ (q0_ qq3_ (q0_ qrv_ (q0_ qw0_ (q0_ q8o_ (q0_ q10i_ q4_))))) q1ec_
@[reducible] def q4i_:Sh:=⟨[],[],[],[.d (.pr YTT1 (.pr YTT1 (.pr YTT1 YTT1)))],[],0,[.pr YTT1 (.pr YTT1 (.pr YTT1 YTT1))]⟩
def q8k_:Env:=(cts [])
def q8i_:List (Nat×Hint):=[(7,⟨[],[0,1]⟩),(58,⟨[],[0,1,8]⟩)]
def qbj_ (t8:Int) (words:List YTT5):St:={ fr:=[(0,.pb 0 0),(1,.row 1),(8,.d (.int .i64) t8)],nt:=27,up:=[],own:=[(0,.box 101 [.k (Go.Value.slice Option.none 0 0),.k (Go.Value.slice Option.none 0 0),.k (Go.Value.slice Option.none 0 0),.k (Go.Value.slice Option.none 0 0)]),(1,.row (.pr (.int .i64) YTT12) 168 words)],nx:=2,log:=[],ln:=0 }
def qjt_ (words:List YTT5):St:={ fr:=[(0,.pb 0 0),(1,.row 1)],nt:=27,up:=[],own:=[(0,.box 101 [.k (Go.Value.slice Option.none 0 0),.k (Go.Value.slice Option.none 0 0),.k (Go.Value.slice Option.none 0 0),.k (Go.Value.slice Option.none 0 0)]),(1,.row (.pr (.int .i64) YTT12) 168 words)],nx:=2,log:=[],ln:=0 }
def qxp_ (j2:List YTT5->Option (As [.pr YTT1 (.pr YTT1 (.pr YTT1 YTT1))])) (self1:Int->List YTT5->Option (As [.pr YTT1 (.pr YTT1 (.pr YTT1 YTT1))])) (t8:Int) (words:List YTT5):Option (As [.pr YTT1 (.pr YTT1 (.pr YTT1 YTT1))]) :=
 if lt t8 8=true then need (small (List.length words + Nat.succ 0)) (self1 (add .i64 t8 1) (words++[(add .i64 512 (mul .i64 t8 32),20,true,false,false)])) else j2 words
def qyu_ (words:List YTT5):Option (As [.pr YTT1 (.pr YTT1 (.pr YTT1 YTT1))]) :=
 some (([(0,16,true,true,false)],[(0,8,true,false,false)],words,[(0,8,true,false,false)]),())
def qz8_ (j1:Int->List YTT5->Option (As [.pr YTT1 (.pr YTT1 (.pr YTT1 YTT1))])):Option (As [.pr YTT1 (.pr YTT1 (.pr YTT1 YTT1))]) :=
 j1 0 [(0,64,true,false,false),(256,8,true,false,false),(272,8,false,true,true),(288,20,false,true,true)]
def qse_ (words:List YTT5):Option (As [.pr YTT1 (.pr YTT1 (.pr YTT1 YTT1))]):=qyu_ words
def qsm_ (t8:Int) (words:List YTT5):Option (As [.pr YTT1 (.pr YTT1 (.pr YTT1 YTT1))]) :=
 loopF (fun (self:(Int)×(List YTT5)->Option (As [.pr YTT1 (.pr YTT1 (.pr YTT1 YTT1))])) (s:(Int)×(List YTT5))=>qxp_ (qse_) (fun t8 words=>self (t8,words)) s.1 s.2) 18446744073709551616 (t8,words)
def q5e_ (x:As []):Option (As [.pr YTT1 (.pr YTT1 (.pr YTT1 YTT1))]):=qz8_ qsm_
theorem q19m_ (J:Orc (As [.pr YTT1 (.pr YTT1 (.pr YTT1 YTT1))])) (words:List YTT5):pfn Tryz.prog q8k_ 6 18446744073709551616 (Ev.get q8i_) 49 q4i_ J 7 [] (qjt_ words)=qyu_ words:=by kernel_rfl
theorem q18s_ (J:Orc (As [.pr YTT1 (.pr YTT1 (.pr YTT1 YTT1))])) (w1:St->Option (As [.pr YTT1 (.pr YTT1 (.pr YTT1 YTT1))])) (t8:Int) (words:List YTT5):pfn Tryz.prog q8k_ 6 18446744073709551616 (Ev.get q8i_) 49 q4i_ J 58 [w1] (qbj_ t8 words)=qxp_ (fun words=>J 7 [] (qjt_ words)) (fun t8 words=>w1 (qbj_ t8 words)) t8 words:=by kernel_rfl
theorem q179_ (J:Orc (As [.pr YTT1 (.pr YTT1 (.pr YTT1 YTT1))])) (x:As []):rfn Tryz.prog q8k_ 6 18446744073709551616 (Ev.get q8i_) 49 q4i_ J x=qz8_ (fun t8 words=>J 58 [] (qbj_ t8 words)):=by kernel_rfl
theorem q17q_ (words:List YTT5):jfn Tryz.prog q8k_ 6 18446744073709551616 (Ev.get q8i_) 49 q4i_ 7 [] (qjt_ words)=qse_ words:=by
 rw [q8_ (by decide)]
 rw [q19m_]
 rfl
theorem q185_ (t8:Int) (words:List YTT5):jfn Tryz.prog q8k_ 6 18446744073709551616 (Ev.get q8i_) 49 q4i_ 58 [] (qbj_ t8 words)=qsm_ t8 words:=by
 rw [q8_ (by decide)]
 rw [qr_ (by kernel_rfl)]
 refine qi_ (σ:=(Int)×(List YTT5)) (mk:=fun s=>qbj_ s.1 s.2) (fun w1 s=>?_) 18446744073709551616 (t8,words)
 have e2:(fun words=>(jfn Tryz.prog q8k_ 6 18446744073709551616 (Ev.get q8i_) 49 q4i_) 7 [] (qjt_ words))=qse_:=funext fun words=>q17q_ words
 refine (q18s_ _ w1 s.1 s.2).trans ?_
 rw [e2]
theorem q1a2_ (x:As []):evT Tryz.prog q8k_ 6 18446744073709551616 (Ev.get q8i_) 49 q4i_ x=q5e_ x:=by
 have e1:(fun t8 words=>(jfn Tryz.prog q8k_ 6 18446744073709551616 (Ev.get q8i_) 49 q4i_) 58 [] (qbj_ t8 words))=qsm_:=by funext t8 words; exact q185_ t8 words
 rw [q5_,q179_,e1]
 rfl
theorem qxr_:CtOk Tryz.prog (fun _=>True) 49 ⟨q4i_,q5e_⟩:=q3_ q4_ q1a2_
@[reducible] def qhp_:Sh:=⟨[.d (.sl (.int .u8)),.d (.sl (.int .u8))],[],[.sl (.int .u8),.sl (.int .u8)],[.d (.bool)],[],0,[.bool]⟩
def q10j_:Env:=(cts [])
def q103_:List (Nat×Hint):=[]
def qyn_ (a b:List Int):Option (As [.bool]) :=
 some (eqs (Sx.toS a) (Sx.toS b),())
def q2q_ (x:As [.sl (.int .u8),.sl (.int .u8)]):Option (As [.bool]):=qyn_ x.1 x.2.1
theorem q18v_ (J:Orc (As [.bool])) (x:As [.sl (.int .u8),.sl (.int .u8)]):rfn Tryz.prog q10j_ 6 18446744073709551616 (Ev.get q103_) 66 qhp_ J x=qyn_ x.1 x.2.1:=by kernel_rfl
theorem q1au_ (x:As [.sl (.int .u8),.sl (.int .u8)]):evT Tryz.prog q10j_ 6 18446744073709551616 (Ev.get q103_) 66 qhp_ x=q2q_ x:=by
 rw [q5_,q18v_]
 rfl
theorem qyh_:CtOk Tryz.prog (fun _=>True) 66 ⟨qhp_,q2q_⟩:=q3_ q4_ q1au_
@[reducible] def qe2_:Sh:=⟨[.d (.sl (.int .u8))],[],[.sl (.int .u8)],[.d (.sl (.int .u16))],[],0,[.sl (.int .u16)]⟩
def qrr_:Env:=(cts [])
def qrs_:List (Nat×Hint):=[(58,⟨[],[0,3,10,11]⟩)]
def qhv_ (b:List Int) (t10 t11:Int) (l:List Int):St:={ fr:=[(0,.d (.sl (.int .u8)) b),(3,.row 0),(10,.d (.int .i64) t10),(11,.d (.int .i64) t11)],nt:=34,up:=[],own:=[(0,.row (.int .u16) 23 l)],nx:=1,log:=[],ln:=0 }
def qi2_ (self1:List Int->Int->Int->List Int->Option (As [.sl (.int .u16)])) (b:List Int) (t10 t11:Int) (l:List Int):Option (As [.sl (.int .u16)]) :=
 if lt t11 t10=true then Option.bind (at? b (mul .i64 2 t11)) fun y=>Option.bind (at? b (add .i64 (mul .i64 2 t11) 1)) fun y_1=>Option.bind (at? l t11) fun x=>Option.bind (at? l t11) fun x=>self1 b t10 (add .i64 t11 1) (List.set l (Int.toNat t11) (Sx.bor .u16 (Sx.shl .u16 (cvt .u16 y) 8) (cvt .u16 y_1))) else some (l,())
def qsv_ (j1:List Int->Int->Int->List Int->Option (As [.sl (.int .u16)])) (b:List Int):Option (As [.sl (.int .u16)]) :=
 need (ge (quo .i64 (Int.ofNat (List.length b)) 2) 0) (need (Ev.capOk (quo .i64 (Int.ofNat (List.length b)) 2) (quo .i64 (Int.ofNat (List.length b)) 2)) (need (small (Int.toNat (quo .i64 (Int.ofNat (List.length b)) 2))) (j1 b (Int.ofNat (List.length (List.replicate (α:=Int) (Int.toNat (quo .i64 (Int.ofNat (List.length b)) 2)) 0))) 0 (List.replicate (Int.toNat (quo .i64 (Int.ofNat (List.length b)) 2)) 0))))
def qmc_ (b:List Int) (t10 t11:Int) (l:List Int):Option (As [.sl (.int .u16)]) :=
 loopF (fun (self:(List Int)×(Int)×(Int)×(List Int)->Option (As [.sl (.int .u16)])) (s:(List Int)×(Int)×(Int)×(List Int))=>qi2_ (fun b t10 t11 l=>self (b,t10,t11,l)) s.1 s.2.1 s.2.2.1 s.2.2.2) 18446744073709551616 (b,t10,t11,l)
def qc2_ (x:As [.sl (.int .u8)]):Option (As [.sl (.int .u16)]):=qsv_ qmc_ x.1
theorem q1hj_ (J:Orc (As [.sl (.int .u16)])) (w1:St->Option (As [.sl (.int .u16)])) (b:List Int) (t10 t11:Int) (l:List Int):pfn Tryz.prog qrr_ 6 18446744073709551616 (Ev.get qrs_) 201 qe2_ J 58 [w1] (qhv_ b t10 t11 l)=qi2_ (fun b t10 t11 l=>w1 (qhv_ b t10 t11 l)) b t10 t11 l:=by kernel_rfl
theorem q1hp_ (J:Orc (As [.sl (.int .u16)])) (x:As [.sl (.int .u8)]):rfn Tryz.prog qrr_ 6 18446744073709551616 (Ev.get qrs_) 201 qe2_ J x=qsv_ (fun b t10 t11 l=>J 58 [] (qhv_ b t10 t11 l)) x.1:=by kernel_rfl
theorem q1hw_ (b:List Int) (t10 t11:Int) (l:List Int):jfn Tryz.prog qrr_ 6 18446744073709551616 (Ev.get qrs_) 201 qe2_ 58 [] (qhv_ b t10 t11 l)=qmc_ b t10 t11 l:=by
 rw [q8_ (by decide)]
 rw [qr_ (by kernel_rfl)]
 refine qi_ (σ:=(List Int)×(Int)×(Int)×(List Int)) (mk:=fun s=>qhv_ s.1 s.2.1 s.2.2.1 s.2.2.2) (fun w1 s=>?_) 18446744073709551616 (b,t10,t11,l)
 refine (q1hj_ _ w1 s.1 s.2.1 s.2.2.1 s.2.2.2).trans ?_
 rfl
theorem q1is_ (x:As [.sl (.int .u8)]):evT Tryz.prog qrr_ 6 18446744073709551616 (Ev.get qrs_) 201 qe2_ x=qc2_ x:=by
 have e1:(fun b t10 t11 l=>(jfn Tryz.prog qrr_ 6 18446744073709551616 (Ev.get qrs_) 201 qe2_) 58 [] (qhv_ b t10 t11 l))=qmc_:=by funext b t10 t11 l; exact q1hw_ b t10 t11 l
 rw [q5_,q1hp_,e1]
 rfl
theorem q142_:CtOk Tryz.prog (fun _=>True) 201 ⟨qe2_,qc2_⟩:=q3_ q4_ q1is_
@[reducible] def q9v_:Sh:=⟨[.d (.sl (.int .u8))],[],[.sl (.int .u8)],[.d (.sl .bool)],[],0,[.sl .bool]⟩
def qjd_:Env:=(cts [])
def qj5_:List (Nat×Hint):=[(58,⟨[],[0,3,10,11]⟩)]
def qco_ (b:List Int) (t10 t11:Int) (out:List Bool):St:={ fr:=[(0,.d (.sl (.int .u8)) b),(3,.row 0),(10,.d (.int .i64) t10),(11,.d (.int .i64) t11)],nt:=29,up:=[],own:=[(0,.row .bool 4 out)],nx:=1,log:=[],ln:=0 }
def qcj_ (self1:List Int->Int->Int->List Bool->Option (As [.sl .bool])) (b:List Int) (t10 t11:Int) (out:List Bool):Option (As [.sl .bool]) :=
 if lt t11 t10=true then Option.bind (at? b (quo .i64 t11 8)) fun y=>need (ge (rem t11 8) 0) (Option.bind (at? out t11) fun x=>Option.bind (at? out t11) fun x=>self1 b t10 (add .i64 t11 1) (List.set out (Int.toNat t11) (eqi (Sx.band .u8 (Sx.shr .u8 y (rem t11 8)) 1) 1))) else some (out,())
def qnk_ (j1:List Int->Int->Int->List Bool->Option (As [.sl .bool])) (b:List Int):Option (As [.sl .bool]) :=
 need (ge (mul .i64 8 (Int.ofNat (List.length b))) 0) (need (Ev.capOk (mul .i64 8 (Int.ofNat (List.length b))) (mul .i64 8 (Int.ofNat (List.length b)))) (need (small (Int.toNat (mul .i64 8 (Int.ofNat (List.length b))))) (j1 b (Int.ofNat (List.length (List.replicate (Int.toNat (mul .i64 8 (Int.ofNat (List.length b)))) false))) 0 (List.replicate (Int.toNat (mul .i64 8 (Int.ofNat (List.length b)))) false))))
def qhm_ (b:List Int) (t10 t11:Int) (out:List Bool):Option (As [.sl .bool]) :=
 loopF (fun (self:(List Int)×(Int)×(Int)×(List Bool)->Option (As [.sl .bool])) (s:(List Int)×(Int)×(Int)×(List Bool))=>qcj_ (fun b t10 t11 out=>self (b,t10,t11,out)) s.1 s.2.1 s.2.2.1 s.2.2.2) 18446744073709551616 (b,t10,t11,out)
def qdo_ (x:As [.sl (.int .u8)]):Option (As [.sl .bool]):=qnk_ qhm_ x.1
theorem q1c9_ (J:Orc (As [.sl .bool])) (w1:St->Option (As [.sl .bool])) (b:List Int) (t10 t11:Int) (out:List Bool):pfn Tryz.prog qjd_ 6 18446744073709551616 (Ev.get qj5_) 212 q9v_ J 58 [w1] (qco_ b t10 t11 out)=qcj_ (fun b t10 t11 out=>w1 (qco_ b t10 t11 out)) b t10 t11 out:=by kernel_rfl
theorem q1aw_ (J:Orc (As [.sl .bool])) (x:As [.sl (.int .u8)]):rfn Tryz.prog qjd_ 6 18446744073709551616 (Ev.get qj5_) 212 q9v_ J x=qnk_ (fun b t10 t11 out=>J 58 [] (qco_ b t10 t11 out)) x.1:=by kernel_rfl
theorem q1ao_ (b:List Int) (t10 t11:Int) (out:List Bool):jfn Tryz.prog qjd_ 6 18446744073709551616 (Ev.get qj5_) 212 q9v_ 58 [] (qco_ b t10 t11 out)=qhm_ b t10 t11 out:=by
 rw [q8_ (by decide)]
 rw [qr_ (by kernel_rfl)]
 refine qi_ (σ:=(List Int)×(Int)×(Int)×(List Bool)) (mk:=fun s=>qco_ s.1 s.2.1 s.2.2.1 s.2.2.2) (fun w1 s=>?_) 18446744073709551616 (b,t10,t11,out)
 refine (q1c9_ _ w1 s.1 s.2.1 s.2.2.1 s.2.2.2).trans ?_
 rfl
theorem q1dk_ (x:As [.sl (.int .u8)]):evT Tryz.prog qjd_ 6 18446744073709551616 (Ev.get qj5_) 212 q9v_ x=qdo_ x:=by
 have e1:(fun b t10 t11 out=>(jfn Tryz.prog qjd_ 6 18446744073709551616 (Ev.get qj5_) 212 q9v_) 58 [] (qco_ b t10 t11 out))=qhm_:=by funext b t10 t11 out; exact q1ao_ b t10 t11 out
 rw [q5_,q1aw_,e1]
 rfl
theorem q10f_:CtOk Tryz.prog (fun _=>True) 212 ⟨q9v_,qdo_⟩:=q3_ q4_ q1dk_
@[reducible] def qaf_:Sh:=⟨[.d (.pr (.int .u8) YTT4),.d (.pr (.int .i64) YTT15),.d (.sl (.int .u8))],[],[.pr (.int .u8) YTT4,.pr (.int .i64) YTT15,.sl (.int .u8)],[.d (.pr (.int .u8) YTT4),.d (.bool)],[],0,[.pr (.int .u8) YTT4,.bool]⟩
def qhs_:Env:=(cts [(201,(⟨qe2_,qc2_⟩:Ct)),(212,(⟨q9v_,qdo_⟩:Ct))])
def qho_:List (Nat×Hint):=[(15,⟨[.frb 3,.frb 6],[3,6]⟩)]
def qki_ (a a_2 a_3 a_4:Int) (a_5:List Int) (a_6:List Bool) (t6 t6_2 t6_3 t6_4:Int) (t6_5:List Int) (t6_6:List Bool):St:={ fr:=[(3,.pb 0 0),(6,.pb 1 0)],nt:=63,up:=[],own:=[(0,.box 44 [.d (.int .u8) a,.d (.int .u16) a_2,.d (.int .u16) a_3,.d (.int .u16) a_4,.d (.sl (.int .u16)) a_5,.d (.sl .bool) a_6]),(1,.box 44 [.d (.int .u8) t6,.d (.int .u16) t6_2,.d (.int .u16) t6_3,.d (.int .u16) t6_4,.d (.sl (.int .u16)) t6_5,.d (.sl .bool) t6_6])],nx:=2,log:=[],ln:=0 }
def qyo_ (a a_2 a_3 a_4:Int) (a_5:List Int) (a_6:List Bool) (t6 t6_2 t6_3 t6_4:Int) (t6_5:List Int) (t6_6:List Bool):Option (As [.pr (.int .u8) YTT4,.bool]) :=
 some ((a,a_2,a_3,a_4,a_5,a_6),true,())
def qkg_ (j1:Int->Int->Int->Int->List Int->List Bool->Int->Int->Int->Int->List Int->List Bool->Option (As [.pr (.int .u8) YTT4,.bool])) (a:Int×Int×Int×Int×List Int×List Bool) (s:Int×Int×Int×Bool×Bool) (rest:List Int):Option (As [.pr (.int .u8) YTT4,.bool]) :=
 if eqi (add .i64 s.2.1 s.2.2.1) 0=true then some (a,true,()) else if lt (Int.ofNat (List.length rest)) 2=true then some ((0,0,0,0,[],[]),false,()) else if eqi a.1 5=true then Option.bind (at? rest 0) fun y=>j1 a.1 a.2.1 a.2.2.1 a.2.2.2.1 a.2.2.2.2.1 [nei y 0] 0 0 0 0 [] [] else if eqi a.1 6=true then Option.bind (qc2_ (rest,())) fun y=>j1 a.1 a.2.1 a.2.2.1 a.2.2.2.1 y.1 a.2.2.2.2.2 0 0 0 0 [] [] else if gt s.2.1 0=true then Option.bind (cut rest 1 (Int.ofNat (List.length rest))) fun y=>Option.bind (qdo_ (y,())) fun y=>if lt (Int.ofNat (List.length y.1)) (cvt .i64 a.2.2.1)=true then some ((0,0,0,0,[],[]),false,()) else Option.bind (cut y.1 0 a.2.2.1) fun y_1=>need (le a.2.2.1 a.2.2.1) (need (le a.2.2.1 (Int.ofNat (List.length y.1))) (j1 a.1 a.2.1 a.2.2.1 a.2.2.2.1 a.2.2.2.2.1 y_1 0 0 0 0 [] [])) else Option.bind (cut rest 1 (Int.ofNat (List.length rest))) fun y=>Option.bind (qc2_ (y,())) fun y=>j1 a.1 a.2.1 a.2.2.1 a.2.2.2.1 y.1 a.2.2.2.2.2 0 0 0 0 [] []
def qkq_ (a a_2 a_3 a_4:Int) (a_5:List Int) (a_6:List Bool) (t6 t6_2 t6_3 t6_4:Int) (t6_5:List Int) (t6_6:List Bool):Option (As [.pr (.int .u8) YTT4,.bool]):=qyo_ a a_2 a_3 a_4 a_5 a_6 t6 t6_2 t6_3 t6_4 t6_5 t6_6
def q3u_ (x:As [.pr (.int .u8) YTT4,.pr (.int .i64) YTT15,.sl (.int .u8)]):Option (As [.pr (.int .u8) YTT4,.bool]):=qkg_ qkq_ x.1 x.2.1 x.2.2.1
theorem q19a_ (J:Orc (As [.pr (.int .u8) YTT4,.bool])) (a a_2 a_3 a_4:Int) (a_5:List Int) (a_6:List Bool) (t6 t6_2 t6_3 t6_4:Int) (t6_5:List Int) (t6_6:List Bool):pfn Tryz.prog qhs_ 6 18446744073709551616 (Ev.get qho_) 202 qaf_ J 15 [] (qki_ a a_2 a_3 a_4 a_5 a_6 t6 t6_2 t6_3 t6_4 t6_5 t6_6)=qyo_ a a_2 a_3 a_4 a_5 a_6 t6 t6_2 t6_3 t6_4 t6_5 t6_6:=by kernel_rfl
theorem q184_ (J:Orc (As [.pr (.int .u8) YTT4,.bool])) (x:As [.pr (.int .u8) YTT4,.pr (.int .i64) YTT15,.sl (.int .u8)]):rfn Tryz.prog qhs_ 6 18446744073709551616 (Ev.get qho_) 202 qaf_ J x=qkg_ (fun a a_2 a_3 a_4 a_5 a_6 t6 t6_2 t6_3 t6_4 t6_5 t6_6=>J 15 [] (qki_ a a_2 a_3 a_4 a_5 a_6 t6 t6_2 t6_3 t6_4 t6_5 t6_6)) x.1 x.2.1 x.2.2.1:=by kernel_rfl
theorem q189_ (a a_2 a_3 a_4:Int) (a_5:List Int) (a_6:List Bool) (t6 t6_2 t6_3 t6_4:Int) (t6_5:List Int) (t6_6:List Bool):jfn Tryz.prog qhs_ 6 18446744073709551616 (Ev.get qho_) 202 qaf_ 15 [] (qki_ a a_2 a_3 a_4 a_5 a_6 t6 t6_2 t6_3 t6_4 t6_5 t6_6)=qkq_ a a_2 a_3 a_4 a_5 a_6 t6 t6_2 t6_3 t6_4 t6_5 t6_6:=by
 rw [q8_ (by decide)]
 rw [q19a_]
 rfl
theorem q1ae_ (x:As [.pr (.int .u8) YTT4,.pr (.int .i64) YTT15,.sl (.int .u8)]):evT Tryz.prog qhs_ 6 18446744073709551616 (Ev.get qho_) 202 qaf_ x=q3u_ x:=by
 have e1:(fun a a_2 a_3 a_4 a_5 a_6 t6 t6_2 t6_3 t6_4 t6_5 t6_6=>(jfn Tryz.prog qhs_ 6 18446744073709551616 (Ev.get qho_) 202 qaf_) 15 [] (qki_ a a_2 a_3 a_4 a_5 a_6 t6 t6_2 t6_3 t6_4 t6_5 t6_6))=qkq_:=by funext a a_2 a_3 a_4 a_5 a_6 t6 t6_2 t6_3 t6_4 t6_5 t6_6; exact q189_ a a_2 a_3 a_4 a_5 a_6 t6 t6_2 t6_3 t6_4 t6_5 t6_6
 rw [q5_,q184_,e1]
 rfl
theorem q194_:CtOk Tryz.prog (fun _=>True) 202 ⟨qaf_,q3u_⟩:=q3_ (q0_ q142_ (q0_ q10f_ q4_)) q1ae_
@[reducible] def q5l_:Sh:=⟨[.d (.sl (.int .u8))],[],[.sl (.int .u8)],[.d (.pr (.int .u8) YTT4),.d (.bool)],[],0,[.pr (.int .u8) YTT4,.bool]⟩
def q8a_:Env:=(cts [(59,(⟨qe5_,q9r_⟩:Ct)),(201,(⟨qe2_,qc2_⟩:Ct)),(202,(⟨qaf_,q3u_⟩:Ct))])
def q8b_:List (Nat×Hint):=[(255,⟨[],[2,4,6,7,8]⟩),(511,⟨[],[2,4,7,8]⟩),(6,⟨[],[0,2,16]⟩)]
def qsy_ (b:List Int) (t16:Bool) (t2 t2_2 t2_3 t2_4:Int):St:={ fr:=[(0,.d (.sl (.int .u8)) b),(2,.pb 0 0),(16,.d .bool t16)],nt:=67,up:=[],own:=[(0,.box 44 [.d (.int .u8) t2,.d (.int .u16) t2_2,.d (.int .u16) t2_3,.d (.int .u16) t2_4,.k (Go.Value.slice Option.none 0 0),.k (Go.Value.slice Option.none 0 0)])],nx:=1,log:=[],ln:=0 }
def qsr_ (l rest:List Int) (t2 t2_2 t2_3 t2_4 s s_2 s_3:Int) (s_4 s_5:Bool) (a a_2 a_3 a_4:Int):St:={ fr:=[(2,.pb 0 0),(4,.pb 1 0),(6,.d (.sl (.int .u16)) l),(7,.pb 2 0),(8,.d (.sl (.int .u8)) rest)],nt:=67,up:=[],own:=[(0,.box 44 [.d (.int .u8) t2,.d (.int .u16) t2_2,.d (.int .u16) t2_3,.d (.int .u16) t2_4,.k (Go.Value.slice Option.none 0 0),.k (Go.Value.slice Option.none 0 0)]),(1,.box 114 [.d (.int .i64) s,.d (.int .i64) s_2,.d (.int .i64) s_3,.d .bool s_4,.d .bool s_5]),(2,.box 44 [.d (.int .u8) a,.d (.int .u16) a_2,.d (.int .u16) a_3,.d (.int .u16) a_4,.k (Go.Value.slice Option.none 0 0),.k (Go.Value.slice Option.none 0 0)])],nx:=3,log:=[],ln:=0 }
def qt3_ (rest:List Int) (t2 t2_2 t2_3 t2_4 s s_2 s_3:Int) (s_4 s_5:Bool) (a a_2 a_3 a_4:Int):St:={ fr:=[(2,.pb 0 0),(4,.pb 1 0),(7,.pb 2 0),(8,.d (.sl (.int .u8)) rest)],nt:=67,up:=[],own:=[(0,.box 44 [.d (.int .u8) t2,.d (.int .u16) t2_2,.d (.int .u16) t2_3,.d (.int .u16) t2_4,.k (Go.Value.slice Option.none 0 0),.k (Go.Value.slice Option.none 0 0)]),(1,.box 114 [.d (.int .i64) s,.d (.int .i64) s_2,.d (.int .i64) s_3,.d .bool s_4,.d .bool s_5]),(2,.box 44 [.d (.int .u8) a,.d (.int .u16) a_2,.d (.int .u16) a_3,.d (.int .u16) a_4,.k (Go.Value.slice Option.none 0 0),.k (Go.Value.slice Option.none 0 0)])],nx:=3,log:=[],ln:=0 }
def qau_ (j2:List Int->List Int->Int->Int->Int->Int->Int->Int->Int->Bool->Bool->Int->Int->Int->Int->Option (As [.pr (.int .u8) YTT4,.bool])) (b:List Int) (t16:Bool) (t2 t2_2 t2_3 t2_4:Int):Option (As [.pr (.int .u8) YTT4,.bool]) :=
 if t16=true then some ((0,0,0,0,[],[]),false,()) else Option.bind (at? b 0) fun y=>Option.bind (q9r_ (y,())) fun y=>if (!y.2.1)=true then some ((0,0,0,0,[],[]),false,()) else Option.bind (cut b 1 (Int.ofNat (List.length b))) fun y_1=>Option.bind (qc2_ (y_1,())) fun y_2=>Option.bind (at? b 0) fun y_3=>Option.bind (at? y_2.1 0) fun y_4=>Option.bind (cut b 3 (Int.ofNat (List.length b))) fun y_5=>if gt y.1.1 0=true then Option.bind (at? y_2.1 1) fun y_6=>Option.bind (cut b 5 (Int.ofNat (List.length b))) fun y_7=>j2 y_2.1 y_7 t2 t2_2 t2_3 t2_4 y.1.1 y.1.2.1 y.1.2.2.1 y.1.2.2.2.1 y.1.2.2.2.2 y_3 y_4 y_6 0 else j2 y_2.1 y_5 t2 t2_2 t2_3 t2_4 y.1.1 y.1.2.1 y.1.2.2.1 y.1.2.2.2.1 y.1.2.2.2.2 y_3 y_4 0 0
def qxa_ (j3:List Int->Int->Int->Int->Int->Int->Int->Int->Bool->Bool->Int->Int->Int->Int->Option (As [.pr (.int .u8) YTT4,.bool])) (l rest:List Int) (t2 t2_2 t2_3 t2_4 s s_2 s_3:Int) (s_4 s_5:Bool) (a a_2 a_3 a_4:Int):Option (As [.pr (.int .u8) YTT4,.bool]) :=
 if s_4=true then if lt (Int.ofNat (List.length rest)) 4=true then some ((0,0,0,0,[],[]),false,()) else Option.bind (at? l 2) fun y=>Option.bind (cut rest 4 (Int.ofNat (List.length rest))) fun y_1=>j3 y_1 t2 t2_2 t2_3 t2_4 s s_2 s_3 s_4 s_5 a a_2 a_3 y else j3 rest t2 t2_2 t2_3 t2_4 s s_2 s_3 s_4 s_5 a a_2 a_3 a_4
def q141_ (rest:List Int) (t2 t2_2 t2_3 t2_4 s s_2 s_3:Int) (s_4 s_5:Bool) (a a_2 a_3 a_4:Int):Option (As [.pr (.int .u8) YTT4,.bool]) :=
 Option.bind (q3u_ ((a,a_2,a_3,a_4,[],[]),(s,s_2,s_3,s_4,s_5),rest,())) fun y=>some (y.1,y.2.1,())
def q7l_ (j1:List Int->Bool->Int->Int->Int->Int->Option (As [.pr (.int .u8) YTT4,.bool])) (b:List Int):Option (As [.pr (.int .u8) YTT4,.bool]) :=
 if lt (Int.ofNat (List.length b)) 5=true then j1 b true 0 0 0 0 else j1 b (gt (Int.ofNat (List.length b)) 253) 0 0 0 0
def qt1_ (rest:List Int) (t2 t2_2 t2_3 t2_4 s s_2 s_3:Int) (s_4 s_5:Bool) (a a_2 a_3 a_4:Int):Option (As [.pr (.int .u8) YTT4,.bool]):=q141_ rest t2 t2_2 t2_3 t2_4 s s_2 s_3 s_4 s_5 a a_2 a_3 a_4
def q7m_ (l rest:List Int) (t2 t2_2 t2_3 t2_4 s s_2 s_3:Int) (s_4 s_5:Bool) (a a_2 a_3 a_4:Int):Option (As [.pr (.int .u8) YTT4,.bool]):=qxa_ (qt1_) l rest t2 t2_2 t2_3 t2_4 s s_2 s_3 s_4 s_5 a a_2 a_3 a_4
def qay_ (b:List Int) (t16:Bool) (t2 t2_2 t2_3 t2_4:Int):Option (As [.pr (.int .u8) YTT4,.bool]):=qau_ (q7m_) b t16 t2 t2_2 t2_3 t2_4
def qgj_ (x:As [.sl (.int .u8)]):Option (As [.pr (.int .u8) YTT4,.bool]):=q7l_ qay_ x.1
theorem q1h7_ (J:Orc (As [.pr (.int .u8) YTT4,.bool])) (rest:List Int) (t2 t2_2 t2_3 t2_4 s s_2 s_3:Int) (s_4 s_5:Bool) (a a_2 a_3 a_4:Int):pfn Tryz.prog q8a_ 6 18446744073709551616 (Ev.get q8b_) 174 q5l_ J 511 [] (qt3_ rest t2 t2_2 t2_3 t2_4 s s_2 s_3 s_4 s_5 a a_2 a_3 a_4)=q141_ rest t2 t2_2 t2_3 t2_4 s s_2 s_3 s_4 s_5 a a_2 a_3 a_4:=by kernel_rfl
theorem q1hz_ (J:Orc (As [.pr (.int .u8) YTT4,.bool])) (l rest:List Int) (t2 t2_2 t2_3 t2_4 s s_2 s_3:Int) (s_4 s_5:Bool) (a a_2 a_3 a_4:Int):pfn Tryz.prog q8a_ 6 18446744073709551616 (Ev.get q8b_) 174 q5l_ J 255 [] (qsr_ l rest t2 t2_2 t2_3 t2_4 s s_2 s_3 s_4 s_5 a a_2 a_3 a_4)=qxa_ (fun rest t2 t2_2 t2_3 t2_4 s s_2 s_3 s_4 s_5 a a_2 a_3 a_4=>J 511 [] (qt3_ rest t2 t2_2 t2_3 t2_4 s s_2 s_3 s_4 s_5 a a_2 a_3 a_4)) l rest t2 t2_2 t2_3 t2_4 s s_2 s_3 s_4 s_5 a a_2 a_3 a_4:=by kernel_rfl
theorem q1hh_ (J:Orc (As [.pr (.int .u8) YTT4,.bool])) (b:List Int) (t16:Bool) (t2 t2_2 t2_3 t2_4:Int):pfn Tryz.prog q8a_ 6 18446744073709551616 (Ev.get q8b_) 174 q5l_ J 6 [] (qsy_ b t16 t2 t2_2 t2_3 t2_4)=qau_ (fun l rest t2 t2_2 t2_3 t2_4 s s_2 s_3 s_4 s_5 a a_2 a_3 a_4=>J 255 [] (qsr_ l rest t2 t2_2 t2_3 t2_4 s s_2 s_3 s_4 s_5 a a_2 a_3 a_4)) b t16 t2 t2_2 t2_3 t2_4:=by kernel_rfl
theorem q1i1_ (J:Orc (As [.pr (.int .u8) YTT4,.bool])) (x:As [.sl (.int .u8)]):rfn Tryz.prog q8a_ 6 18446744073709551616 (Ev.get q8b_) 174 q5l_ J x=q7l_ (fun b t16 t2 t2_2 t2_3 t2_4=>J 6 [] (qsy_ b t16 t2 t2_2 t2_3 t2_4)) x.1:=by kernel_rfl
theorem q1gq_ (rest:List Int) (t2 t2_2 t2_3 t2_4 s s_2 s_3:Int) (s_4 s_5:Bool) (a a_2 a_3 a_4:Int):jfn Tryz.prog q8a_ 6 18446744073709551616 (Ev.get q8b_) 174 q5l_ 511 [] (qt3_ rest t2 t2_2 t2_3 t2_4 s s_2 s_3 s_4 s_5 a a_2 a_3 a_4)=qt1_ rest t2 t2_2 t2_3 t2_4 s s_2 s_3 s_4 s_5 a a_2 a_3 a_4:=by
 rw [q8_ (by decide)]
 rw [q1h7_]
 rfl
theorem q1i9_ (l rest:List Int) (t2 t2_2 t2_3 t2_4 s s_2 s_3:Int) (s_4 s_5:Bool) (a a_2 a_3 a_4:Int):jfn Tryz.prog q8a_ 6 18446744073709551616 (Ev.get q8b_) 174 q5l_ 255 [] (qsr_ l rest t2 t2_2 t2_3 t2_4 s s_2 s_3 s_4 s_5 a a_2 a_3 a_4)=q7m_ l rest t2 t2_2 t2_3 t2_4 s s_2 s_3 s_4 s_5 a a_2 a_3 a_4:=by
 rw [q8_ (by decide)]
 have e3:(fun rest t2 t2_2 t2_3 t2_4 s s_2 s_3 s_4 s_5 a a_2 a_3 a_4=>(jfn Tryz.prog q8a_ 6 18446744073709551616 (Ev.get q8b_) 174 q5l_) 511 [] (qt3_ rest t2 t2_2 t2_3 t2_4 s s_2 s_3 s_4 s_5 a a_2 a_3 a_4))=qt1_:=by funext rest t2 t2_2 t2_3 t2_4 s s_2 s_3 s_4 s_5 a a_2 a_3 a_4; exact q1gq_ rest t2 t2_2 t2_3 t2_4 s s_2 s_3 s_4 s_5 a a_2 a_3 a_4
 rw [q1hz_,e3]
 rfl
theorem q1ia_ (b:List Int) (t16:Bool) (t2 t2_2 t2_3 t2_4:Int):jfn Tryz.prog q8a_ 6 18446744073709551616 (Ev.get q8b_) 174 q5l_ 6 [] (qsy_ b t16 t2 t2_2 t2_3 t2_4)=qay_ b t16 t2 t2_2 t2_3 t2_4:=by
 rw [q8_ (by decide)]
 have e2:(fun l rest t2 t2_2 t2_3 t2_4 s s_2 s_3 s_4 s_5 a a_2 a_3 a_4=>(jfn Tryz.prog q8a_ 6 18446744073709551616 (Ev.get q8b_) 174 q5l_) 255 [] (qsr_ l rest t2 t2_2 t2_3 t2_4 s s_2 s_3 s_4 s_5 a a_2 a_3 a_4))=q7m_:=by funext l rest t2 t2_2 t2_3 t2_4 s s_2 s_3 s_4 s_5 a a_2 a_3 a_4; exact q1i9_ l rest t2 t2_2 t2_3 t2_4 s s_2 s_3 s_4 s_5 a a_2 a_3 a_4
 rw [q1hh_,e2]
 rfl
theorem q1ir_ (x:As [.sl (.int .u8)]):evT Tryz.prog q8a_ 6 18446744073709551616 (Ev.get q8b_) 174 q5l_ x=qgj_ x:=by
 have e1:(fun b t16 t2 t2_2 t2_3 t2_4=>(jfn Tryz.prog q8a_ 6 18446744073709551616 (Ev.get q8b_) 174 q5l_) 6 [] (qsy_ b t16 t2 t2_2 t2_3 t2_4))=qay_:=by funext b t16 t2 t2_2 t2_3 t2_4; exact q1ia_ b t16 t2 t2_2 t2_3 t2_4
 rw [q5_,q1i1_,e1]
 rfl
theorem q1h4_:CtOk Tryz.prog (fun _=>True) 174 ⟨q5l_,qgj_⟩:=q3_ (q0_ qpi_ (q0_ q142_ (q0_ q194_ q4_))) q1ir_
@[reducible] def qe9_:Sh:=⟨[.d (.sl (.int .u8))],[],[.sl (.int .u8)],[.d (.pr (.int .u8) YTT4),.d (.int .i64)],[],0,[.pr (.int .u8) YTT4,.int .i64]⟩
def ql9_:Env:=(cts [(13,(⟨q2e_,qdu_⟩:Ct)),(66,(⟨qhp_,q2q_⟩:Ct)),(174,(⟨q5l_,qgj_⟩:Ct))])
def qly_:List (Nat×Hint):=[(61,⟨[],[2,4,28]⟩)]
def qrp_ (t28:Bool) (t2 t2_2 t2_3 t2_4 a a_2 a_3 a_4:Int) (a_5:List Int) (a_6:List Bool):St:={ fr:=[(2,.pb 0 0),(4,.pb 1 0),(28,.d .bool t28)],nt:=31,up:=[],own:=[(0,.box 44 [.d (.int .u8) t2,.d (.int .u16) t2_2,.d (.int .u16) t2_3,.d (.int .u16) t2_4,.k (Go.Value.slice Option.none 0 0),.k (Go.Value.slice Option.none 0 0)]),(1,.box 44 [.d (.int .u8) a,.d (.int .u16) a_2,.d (.int .u16) a_3,.d (.int .u16) a_4,.d (.sl (.int .u16)) a_5,.d (.sl .bool) a_6])],nx:=2,log:=[],ln:=0 }
def q124_ (t28:Bool) (t2 t2_2 t2_3 t2_4 a a_2 a_3 a_4:Int) (a_5:List Int) (a_6:List Bool):Option (As [.pr (.int .u8) YTT4,.int .i64]) :=
 if t28=true then some ((0,0,0,0,[],[]),12,()) else some ((a,a_2,a_3,a_4,a_5,a_6),0,())
def qf7_ (j1:Bool->Int->Int->Int->Int->Int->Int->Int->Int->List Int->List Bool->Option (As [.pr (.int .u8) YTT4,.int .i64])) (b:List Int):Option (As [.pr (.int .u8) YTT4,.int .i64]) :=
 Option.bind (qgj_ (b,())) fun y=>if (!y.2.1)=true then some ((0,0,0,0,[],[]),12,()) else Option.bind (qdu_ (y.1,())) fun y_1=>if nei y_1.2.1 0=true then j1 true 0 0 0 0 y.1.1 y.1.2.1 y.1.2.2.1 y.1.2.2.2.1 y.1.2.2.2.2.1 y.1.2.2.2.2.2 else Option.bind (q2q_ (y_1.1,b,())) fun y_2=>j1 (!y_2.1) 0 0 0 0 y.1.1 y.1.2.1 y.1.2.2.1 y.1.2.2.2.1 y.1.2.2.2.2.1 y.1.2.2.2.2.2
def qje_ (t28:Bool) (t2 t2_2 t2_3 t2_4 a a_2 a_3 a_4:Int) (a_5:List Int) (a_6:List Bool):Option (As [.pr (.int .u8) YTT4,.int .i64]):=q124_ t28 t2 t2_2 t2_3 t2_4 a a_2 a_3 a_4 a_5 a_6
def qoj_ (x:As [.sl (.int .u8)]):Option (As [.pr (.int .u8) YTT4,.int .i64]):=qf7_ qje_ x.1
theorem q1f6_ (J:Orc (As [.pr (.int .u8) YTT4,.int .i64])) (t28:Bool) (t2 t2_2 t2_3 t2_4 a a_2 a_3 a_4:Int) (a_5:List Int) (a_6:List Bool):pfn Tryz.prog ql9_ 6 18446744073709551616 (Ev.get qly_) 123 qe9_ J 61 [] (qrp_ t28 t2 t2_2 t2_3 t2_4 a a_2 a_3 a_4 a_5 a_6)=q124_ t28 t2 t2_2 t2_3 t2_4 a a_2 a_3 a_4 a_5 a_6:=by kernel_rfl
theorem q1f0_ (J:Orc (As [.pr (.int .u8) YTT4,.int .i64])) (x:As [.sl (.int .u8)]):rfn Tryz.prog ql9_ 6 18446744073709551616 (Ev.get qly_) 123 qe9_ J x=qf7_ (fun t28 t2 t2_2 t2_3 t2_4 a a_2 a_3 a_4 a_5 a_6=>J 61 [] (qrp_ t28 t2 t2_2 t2_3 t2_4 a a_2 a_3 a_4 a_5 a_6)) x.1:=by kernel_rfl
theorem q1fl_ (t28:Bool) (t2 t2_2 t2_3 t2_4 a a_2 a_3 a_4:Int) (a_5:List Int) (a_6:List Bool):jfn Tryz.prog ql9_ 6 18446744073709551616 (Ev.get qly_) 123 qe9_ 61 [] (qrp_ t28 t2 t2_2 t2_3 t2_4 a a_2 a_3 a_4 a_5 a_6)=qje_ t28 t2 t2_2 t2_3 t2_4 a a_2 a_3 a_4 a_5 a_6:=by
 rw [q8_ (by decide)]
 rw [q1f6_]
 rfl
theorem q1hx_ (x:As [.sl (.int .u8)]):evT Tryz.prog ql9_ 6 18446744073709551616 (Ev.get qly_) 123 qe9_ x=qoj_ x:=by
 have e1:(fun t28 t2 t2_2 t2_3 t2_4 a a_2 a_3 a_4 a_5 a_6=>(jfn Tryz.prog ql9_ 6 18446744073709551616 (Ev.get qly_) 123 qe9_) 61 [] (qrp_ t28 t2 t2_2 t2_3 t2_4 a a_2 a_3 a_4 a_5 a_6))=qje_:=by funext t28 t2 t2_2 t2_3 t2_4 a a_2 a_3 a_4 a_5 a_6; exact q1fl_ t28 t2 t2_2 t2_3 t2_4 a a_2 a_3 a_4 a_5 a_6
 rw [q5_,q1f0_,e1]
 rfl
theorem q1ea_:CtOk Tryz.prog (fun _=>True) 123 ⟨qe9_,qoj_⟩:=q3_ (q0_ qvg_ (q0_ qyh_ (q0_ q1h4_ q4_))) q1hx_
@[reducible] def qut_:Sh:=⟨[.d (.sl (.int .u8))],[],[.sl (.int .u8)],[.d (.pr (.int .u8) YTT4),.d (.int .u8)],[],0,[.pr (.int .u8) YTT4,.int .u8]⟩
def q16n_:Env:=(cts [(59,(⟨qe5_,q9r_⟩:Ct)),(123,(⟨qe9_,qoj_⟩:Ct))])
def q16c_:List (Nat×Hint):=[]
def qhu_ (b:List Int):Option (As [.pr (.int .u8) YTT4,.int .u8]) :=
 if eqi (Int.ofNat (List.length b)) 0=true then some ((0,0,0,0,[],[]),1,()) else Option.bind (qoj_ (b,())) fun y=>if eqi y.2.1 0=true then some (y.1,0,()) else Option.bind (at? b 0) fun y=>Option.bind (at? b 0) fun y_1=>Option.bind (q9r_ (y_1,())) fun y_2=>if (!y_2.2.1)=true then some ((y,0,0,0,[],[]),1,()) else some ((y,0,0,0,[],[]),3,())
def qee_ (x:As [.sl (.int .u8)]):Option (As [.pr (.int .u8) YTT4,.int .u8]):=qhu_ x.1
theorem q1gw_ (J:Orc (As [.pr (.int .u8) YTT4,.int .u8])) (x:As [.sl (.int .u8)]):rfn Tryz.prog q16n_ 6 18446744073709551616 (Ev.get q16c_) 52 qut_ J x=qhu_ x.1:=by kernel_rfl
theorem q1im_ (x:As [.sl (.int .u8)]):evT Tryz.prog q16n_ 6 18446744073709551616 (Ev.get q16c_) 52 qut_ x=qee_ x:=by
 rw [q5_,q1gw_]
 rfl
theorem q1hi_:CtOk Tryz.prog (fun _=>True) 52 ⟨qut_,qee_⟩:=q3_ (q0_ qpi_ (q0_ q1ea_ q4_)) q1im_
@[reducible] def qis_:Sh:=⟨[.d (.pr YTT1 (.pr YTT1 (.pr YTT1 YTT1))),.d (.pr (.sl .bool) YTT10)],[],[.pr YTT1 (.pr YTT1 (.pr YTT1 YTT1)),.pr (.sl .bool) YTT10],[.d (.pr (.pr YTT1 (.sl .bool)) (.pr (.pr YTT1 (.sl .bool)) (.pr (.pr YTT1 (.sl (.int .u16))) (.pr YTT1 (.sl (.int .u16))))))],[],0,[.pr (.pr YTT1 (.sl .bool)) (.pr (.pr YTT1 (.sl .bool)) (.pr (.pr YTT1 (.sl (.int .u16))) (.pr YTT1 (.sl (.int .u16)))))]⟩
def q128_:Env:=(cts [])
def q11x_:List (Nat×Hint):=[]
def qzu_ (s:List YTT5×List YTT5×List YTT5×List YTT5) (m:List Bool×List Bool×List Int×List Int):Option (As [.pr (.pr YTT1 (.sl .bool)) (.pr (.pr YTT1 (.sl .bool)) (.pr (.pr YTT1 (.sl (.int .u16))) (.pr YTT1 (.sl (.int .u16)))))]) :=
 some (((s.1,m.1),(s.2.1,m.2.1),(s.2.2.1,m.2.2.1),s.2.2.2,m.2.2.2),())
def qdd_ (x:As [.pr YTT1 (.pr YTT1 (.pr YTT1 YTT1)),.pr (.sl .bool) YTT10]):Option (As [.pr (.pr YTT1 (.sl .bool)) (.pr (.pr YTT1 (.sl .bool)) (.pr (.pr YTT1 (.sl (.int .u16))) (.pr YTT1 (.sl (.int .u16)))))]):=qzu_ x.1 x.2.1
theorem q1ay_ (J:Orc (As [.pr (.pr YTT1 (.sl .bool)) (.pr (.pr YTT1 (.sl .bool)) (.pr (.pr YTT1 (.sl (.int .u16))) (.pr YTT1 (.sl (.int .u16)))))])) (x:As [.pr YTT1 (.pr YTT1 (.pr YTT1 YTT1)),.pr (.sl .bool) YTT10]):rfn Tryz.prog q128_ 6 18446744073709551616 (Ev.get q11x_) 117 qis_ J x=qzu_ x.1 x.2.1:=by kernel_rfl
theorem q1ff_ (x:As [.pr YTT1 (.pr YTT1 (.pr YTT1 YTT1)),.pr (.sl .bool) YTT10]):evT Tryz.prog q128_ 6 18446744073709551616 (Ev.get q11x_) 117 qis_ x=qdd_ x:=by
 rw [q5_,q1ay_]
 rfl
theorem q10q_:CtOk Tryz.prog (fun _=>True) 117 ⟨qis_,qdd_⟩:=q3_ q4_ q1ff_
@[reducible] def qjg_:Sh:=⟨[.d (.int .u8)],[],[.int .u8],[.d (.pr (.int .i64) (.int .i64))],[],0,[.pr (.int .i64) (.int .i64)]⟩
def q11o_:Env:=(cts [])
def q12r_:List (Nat×Hint):=[]
def qo1_ (f:Int):Option (As [.pr (.int .i64) (.int .i64)]) :=
 some (Ev.gdV (.pr (.int .i64) (.int .i64)) (if eqi 1 f=true then some (1,0) else if eqi 2 f=true then some (2,0) else if eqi 3 f=true then some (3,0) else if eqi 4 f=true then some (4,0) else if eqi 5 f=true then some (0,1) else if eqi 6 f=true then some (0,3) else if eqi 15 f=true then some (0,1) else if eqi 16 f=true then some (0,3) else if eqi 23 f=true then some (3,3) else Option.none) (0,0),())
def qgc_ (x:As [.int .u8]):Option (As [.pr (.int .i64) (.int .i64)]):=qo1_ x.1
theorem q1b2_ (J:Orc (As [.pr (.int .i64) (.int .i64)])) (x:As [.int .u8]):rfn Tryz.prog q11o_ 6 18446744073709551616 (Ev.get q12r_) 124 qjg_ J x=qo1_ x.1:=by kernel_rfl
theorem q1d9_ (x:As [.int .u8]):evT Tryz.prog q11o_ 6 18446744073709551616 (Ev.get q12r_) 124 qjg_ x=qgc_ x:=by
 rw [q5_,q1b2_]
 rfl
theorem q10e_:CtOk Tryz.prog (fun _=>True) 124 ⟨qjg_,qgc_⟩:=q3_ q4_ q1d9_
@[reducible] def qfu_:Sh:=⟨[.d (.pr (.int .u8) YTT4)],[],[.pr (.int .u8) YTT4],[.d (.int .i64),.d (.int .i64)],[],0,[.int .i64,.int .i64]⟩
def qxj_:Env:=(cts [])
def qyb_:List (Nat×Hint):=[]
def qin_ (a:Int×Int×Int×Int×List Int×List Bool):Option (As [.int .i64,.int .i64]) :=
 if eqi a.1 23=true then some (cvt .i64 a.2.2.2.1,add .i64 (Int.ofNat (List.length a.2.2.2.2.2)) (Int.ofNat (List.length a.2.2.2.2.1)),()) else some (cvt .i64 a.2.1,add .i64 (Int.ofNat (List.length a.2.2.2.2.2)) (Int.ofNat (List.length a.2.2.2.2.1)),())
def q9i_ (x:As [.pr (.int .u8) YTT4]):Option (As [.int .i64,.int .i64]):=qin_ x.1
theorem q16l_ (J:Orc (As [.int .i64,.int .i64])) (x:As [.pr (.int .u8) YTT4]):rfn Tryz.prog qxj_ 6 18446744073709551616 (Ev.get qyb_) 126 qfu_ J x=qin_ x.1:=by kernel_rfl
theorem q188_ (x:As [.pr (.int .u8) YTT4]):evT Tryz.prog qxj_ 6 18446744073709551616 (Ev.get qyb_) 126 qfu_ x=q9i_ x:=by
 rw [q5_,q16l_]
 rfl
theorem qwm_:CtOk Tryz.prog (fun _=>True) 126 ⟨qfu_,q9i_⟩:=q3_ q4_ q188_
@[reducible] def q1h_:Sh:=⟨[.d (.pr (.int .i64) YTT12)],[],[.pr (.int .i64) YTT12],[.d (.bool)],[],0,[.bool]⟩
def qdt_:Env:=(cts [])
def qdp_:List (Nat×Hint):=[]
def qci_ (x:q1r_):Option (As [.bool]) :=
 some (x.2.2.1,())
def q12_ (x:As [.pr (.int .i64) YTT12]):Option (As [.bool]):=qci_ x.1
theorem qou_ (J:Orc (As [.bool])) (x:As [.pr (.int .i64) YTT12]):rfn Tryz.prog qdt_ 6 18446744073709551616 (Ev.get qdp_) 259 q1h_ J x=qci_ x.1:=by kernel_rfl
theorem qq2_ (x:As [.pr (.int .i64) YTT12]):evT Tryz.prog qdt_ 6 18446744073709551616 (Ev.get qdp_) 259 q1h_ x=q12_ x:=by
 rw [q5_,qou_]
 rfl
theorem q33_:CtOk Tryz.prog (fun _=>True) 259 ⟨q1h_,q12_⟩:=q3_ q4_ qq2_
@[reducible] def q1i_:Sh:=⟨[.d (.pr (.int .i64) YTT12),.pb 0 0,.pb 1 0],[.box 3 [.d (.int .i64)],.box 3 [.d (.int .i64)]],[.pr (.int .i64) YTT12,.int .i64,.int .i64],[.d (.bool)],[(0,.box 3 [.d (.int .i64)]),(1,.box 3 [.d (.int .i64)])],0,[.bool,.int .i64,.int .i64]⟩
def qd7_:Env:=(cts [])
def qd8_:List (Nat×Hint):=[]
def q4k_ (x:q1r_) (v v_2:Int):Option (As [.bool,.int .i64,.int .i64]) :=
 if x.2.2.2.1=true then if (!x.2.2.2.2)=true then some (true,v,v_2,()) else if eqi x.1 v=true then some (eqi x.2.1 v_2,v,v_2,()) else some (false,v,v_2,()) else some (false,v,v_2,())
def qt_ (x:As [.pr (.int .i64) YTT12,.int .i64,.int .i64]):Option (As [.bool,.int .i64,.int .i64]):=q4k_ x.1 x.2.1 x.2.2.1
theorem qov_ (J:Orc (As [.bool,.int .i64,.int .i64])) (x:As [.pr (.int .i64) YTT12,.int .i64,.int .i64]):rfn Tryz.prog qd7_ 6 18446744073709551616 (Ev.get qd8_) 260 q1i_ J x=q4k_ x.1 x.2.1 x.2.2.1:=by kernel_rfl
theorem qqo_ (x:As [.pr (.int .i64) YTT12,.int .i64,.int .i64]):evT Tryz.prog qd7_ 6 18446744073709551616 (Ev.get qd8_) 260 q1i_ x=qt_ x:=by
 rw [q5_,qov_]
 rfl
theorem q32_:CtOk Tryz.prog (fun _=>True) 260 ⟨q1i_,qt_⟩:=q3_ q4_ qqo_
@[reducible] def q2l_:Sh:=⟨[.d (.pr (.int .i64) YTT12),.d (.int .i64),.d (.int .i64)],[],[.pr (.int .i64) YTT12,.int .i64,.int .i64],[.d (.int .i64),.d (.int .i64)],[],0,[.int .i64,.int .i64]⟩
def q56_:Env:=(cts [])
def q5b_:List (Nat×Hint):=[(15,⟨[],[1,3,8]⟩),(30,⟨[],[1,2,3,8,32]⟩),(6,⟨[],[1,2,3,17,25,26,27,28,29,30,31]⟩)]
def qnz_ (at' endV:Int) (t17:Bool) (x:q1r_):St:={ fr:=[(1,.d (.int .i64) at'),(2,.d (.int .i64) endV),(3,.pb 0 0),(17,.d .bool t17)],nt:=45,up:=[],own:=[(0,.box 168 [.d (.int .i64) x.1,.d (.int .i64) x.2.1,.d .bool x.2.2.1,.d .bool x.2.2.2.1,.d .bool x.2.2.2.2])],nx:=1,log:=[],ln:=0 }
def qn2_ (at' endV to':Int) (t32:Bool) (x:q1r_):St:={ fr:=[(1,.d (.int .i64) at'),(2,.d (.int .i64) endV),(3,.pb 0 0),(8,.d (.int .i64) to'),(32,.d .bool t32)],nt:=45,up:=[],own:=[(0,.box 168 [.d (.int .i64) x.1,.d (.int .i64) x.2.1,.d .bool x.2.2.1,.d .bool x.2.2.2.1,.d .bool x.2.2.2.2])],nx:=1,log:=[],ln:=0 }
def qni_ (at' to':Int) (x:q1r_):St:={ fr:=[(1,.d (.int .i64) at'),(3,.pb 0 0),(8,.d (.int .i64) to')],nt:=45,up:=[],own:=[(0,.box 168 [.d (.int .i64) x.1,.d (.int .i64) x.2.1,.d .bool x.2.2.1,.d .bool x.2.2.2.1,.d .bool x.2.2.2.2])],nx:=1,log:=[],ln:=0 }
def que_ (j2:Int->Int->Int->Bool->q1r_->Option (As [.int .i64,.int .i64])) (at' endV:Int) (t17:Bool) (x:q1r_):Option (As [.int .i64,.int .i64]) :=
 if t17=true then some (at',at',()) else if lt x.1 0=true then j2 at' endV endV true x else j2 at' endV endV (lt x.2.1 (Sx.sub .i64 endV x.1)) x
def qmv_ (j3:Int->Int->q1r_->Option (As [.int .i64,.int .i64])) (at' endV to':Int) (t32:Bool) (x:q1r_):Option (As [.int .i64,.int .i64]) :=
 if t32=true then j3 at' (if lt (add .i64 x.1 x.2.1) endV=true then add .i64 x.1 x.2.1 else endV) x else j3 at' to' x
def qub_ (at' to':Int) (x:q1r_):Option (As [.int .i64,.int .i64]) :=
 some (if gt x.1 at'=true then x.1 else at',to',())
def qmt_ (j1:Int->Int->Bool->q1r_->Option (As [.int .i64,.int .i64])) (x:q1r_) (at' endV:Int):Option (As [.int .i64,.int .i64]) :=
 if lt x.2.1 1=true then j1 at' endV true x else j1 at' endV (ge x.1 endV) x
def qhn_ (at' to':Int) (x:q1r_):Option (As [.int .i64,.int .i64]):=qub_ at' to' x
def qcy_ (at' endV to':Int) (t32:Bool) (x:q1r_):Option (As [.int .i64,.int .i64]):=qmv_ (qhn_) at' endV to' t32 x
def qd0_ (at' endV:Int) (t17:Bool) (x:q1r_):Option (As [.int .i64,.int .i64]):=que_ (qcy_) at' endV t17 x
def q84_ (x:As [.pr (.int .i64) YTT12,.int .i64,.int .i64]):Option (As [.int .i64,.int .i64]):=qmt_ qd0_ x.1 x.2.1 x.2.2.1
theorem q1ab_ (J:Orc (As [.int .i64,.int .i64])) (at' to':Int) (x:q1r_):pfn Tryz.prog q56_ 6 18446744073709551616 (Ev.get q5b_) 261 q2l_ J 15 [] (qni_ at' to' x)=qub_ at' to' x:=by kernel_rfl
theorem q1bu_ (J:Orc (As [.int .i64,.int .i64])) (at' endV to':Int) (t32:Bool) (x:q1r_):pfn Tryz.prog q56_ 6 18446744073709551616 (Ev.get q5b_) 261 q2l_ J 30 [] (qn2_ at' endV to' t32 x)=qmv_ (fun at' to' x=>J 15 [] (qni_ at' to' x)) at' endV to' t32 x:=by kernel_rfl
theorem q1bq_ (J:Orc (As [.int .i64,.int .i64])) (at' endV:Int) (t17:Bool) (x:q1r_):pfn Tryz.prog q56_ 6 18446744073709551616 (Ev.get q5b_) 261 q2l_ J 6 [] (qnz_ at' endV t17 x)=que_ (fun at' endV to' t32 x=>J 30 [] (qn2_ at' endV to' t32 x)) at' endV t17 x:=by kernel_rfl
theorem q1ah_ (J:Orc (As [.int .i64,.int .i64])) (x:As [.pr (.int .i64) YTT12,.int .i64,.int .i64]):rfn Tryz.prog q56_ 6 18446744073709551616 (Ev.get q5b_) 261 q2l_ J x=qmt_ (fun at' endV t17 x=>J 6 [] (qnz_ at' endV t17 x)) x.1 x.2.1 x.2.2.1:=by kernel_rfl
theorem q1bj_ (at' to':Int) (x:q1r_):jfn Tryz.prog q56_ 6 18446744073709551616 (Ev.get q5b_) 261 q2l_ 15 [] (qni_ at' to' x)=qhn_ at' to' x:=by
 rw [q8_ (by decide)]
 rw [q1ab_]
 rfl
theorem q19w_ (at' endV to':Int) (t32:Bool) (x:q1r_):jfn Tryz.prog q56_ 6 18446744073709551616 (Ev.get q5b_) 261 q2l_ 30 [] (qn2_ at' endV to' t32 x)=qcy_ at' endV to' t32 x:=by
 rw [q8_ (by decide)]
 have e3:(fun at' to' x=>(jfn Tryz.prog q56_ 6 18446744073709551616 (Ev.get q5b_) 261 q2l_) 15 [] (qni_ at' to' x))=qhn_:=by funext at' to' x; exact q1bj_ at' to' x
 rw [q1bu_,e3]
 rfl
theorem q1cc_ (at' endV:Int) (t17:Bool) (x:q1r_):jfn Tryz.prog q56_ 6 18446744073709551616 (Ev.get q5b_) 261 q2l_ 6 [] (qnz_ at' endV t17 x)=qd0_ at' endV t17 x:=by
 rw [q8_ (by decide)]
 have e2:(fun at' endV to' t32 x=>(jfn Tryz.prog q56_ 6 18446744073709551616 (Ev.get q5b_) 261 q2l_) 30 [] (qn2_ at' endV to' t32 x))=qcy_:=by funext at' endV to' t32 x; exact q19w_ at' endV to' t32 x
 rw [q1bq_,e2]
 rfl
theorem q1gj_ (x:As [.pr (.int .i64) YTT12,.int .i64,.int .i64]):evT Tryz.prog q56_ 6 18446744073709551616 (Ev.get q5b_) 261 q2l_ x=q84_ x:=by
 have e1:(fun at' endV t17 x=>(jfn Tryz.prog q56_ 6 18446744073709551616 (Ev.get q5b_) 261 q2l_) 6 [] (qnz_ at' endV t17 x))=qd0_:=by funext at' endV t17 x; exact q1cc_ at' endV t17 x
 rw [q5_,q1ah_,e1]
 rfl
theorem qmo_:CtOk Tryz.prog (fun _=>True) 261 ⟨q2l_,q84_⟩:=q3_ q4_ q1gj_
@[reducible] def q1c_:Sh:=⟨[.d (.pr (.int .i64) YTT12)],[],[.pr (.int .i64) YTT12],[.d (.bool)],[],0,[.bool]⟩
def qcd_:Env:=(cts [])
def qbr_:List (Nat×Hint):=[]
def qax_ (x:q1r_):Option (As [.bool]) :=
 some (x.2.2.1,())
def qw_ (x:As [.pr (.int .i64) YTT12]):Option (As [.bool]):=qax_ x.1
theorem qm6_ (J:Orc (As [.bool])) (x:As [.pr (.int .i64) YTT12]):rfn Tryz.prog qcd_ 6 18446744073709551616 (Ev.get qbr_) 264 q1c_ J x=qax_ x.1:=by kernel_rfl
theorem qo4_ (x:As [.pr (.int .i64) YTT12]):evT Tryz.prog qcd_ 6 18446744073709551616 (Ev.get qbr_) 264 q1c_ x=qw_ x:=by
 rw [q5_,qm6_]
 rfl
theorem q2o_:CtOk Tryz.prog (fun _=>True) 264 ⟨q1c_,qw_⟩:=q3_ q4_ qo4_
@[reducible] def q1b_:Sh:=⟨[.d (.pr (.int .i64) YTT12),.pb 0 0,.pb 1 0],[.box 3 [.d (.int .i64)],.box 3 [.d (.int .i64)]],[.pr (.int .i64) YTT12,.int .i64,.int .i64],[.d (.bool)],[(0,.box 3 [.d (.int .i64)]),(1,.box 3 [.d (.int .i64)])],0,[.bool,.int .i64,.int .i64]⟩
def qc9_:Env:=(cts [])
def qc3_:List (Nat×Hint):=[]
def q3t_ (x:q1r_) (v v_2:Int):Option (As [.bool,.int .i64,.int .i64]) :=
 if x.2.2.2.1=true then if (!x.2.2.2.2)=true then some (true,v,v_2,()) else if eqi x.1 v=true then some (eqi x.2.1 v_2,v,v_2,()) else some (false,v,v_2,()) else some (false,v,v_2,())
def qo_ (x:As [.pr (.int .i64) YTT12,.int .i64,.int .i64]):Option (As [.bool,.int .i64,.int .i64]):=q3t_ x.1 x.2.1 x.2.2.1
theorem qlb_ (J:Orc (As [.bool,.int .i64,.int .i64])) (x:As [.pr (.int .i64) YTT12,.int .i64,.int .i64]):rfn Tryz.prog qc9_ 6 18446744073709551616 (Ev.get qc3_) 265 q1b_ J x=q3t_ x.1 x.2.1 x.2.2.1:=by kernel_rfl
theorem qo5_ (x:As [.pr (.int .i64) YTT12,.int .i64,.int .i64]):evT Tryz.prog qc9_ 6 18446744073709551616 (Ev.get qc3_) 265 q1b_ x=qo_ x:=by
 rw [q5_,qlb_]
 rfl
theorem q2p_:CtOk Tryz.prog (fun _=>True) 265 ⟨q1b_,qo_⟩:=q3_ q4_ qo5_
@[reducible] def q16_:Sh:=⟨[.d YTT1,.d (.int .i64),.d (.int .i64),.fn (.func 259) [] []],[],[.sl (.pr (.int .i64) YTT12),.int .i64,.int .i64],[.d (.bool)],[],0,[.bool]⟩
def q1z_:Env:=(cts [(259,(⟨q1h_,q12_⟩:Ct)),(260,(⟨q1i_,qt_⟩:Ct)),(261,(⟨q2l_,q84_⟩:Ct)),(264,(⟨q1c_,qw_⟩:Ct)),(265,(⟨q1b_,qo_⟩:Ct))])
def q20_:List (Nat×Hint):=[(15,⟨[],[10]⟩),(122,⟨[],[1,2,3,9,10,19,20,21]⟩),(125342,⟨[],[1,2,3,9,10,12,14,15,19,20,21]⟩),(501369,⟨[],[1,2,3,9,10,12,14,15,19,20,21]⟩)]
def q2k_ (at' many left:Int) (t19:List YTT5) (t20 t21:Int) (met:List Bool):St:={ fr:=[(1,.d (.int .i64) at'),(2,.d (.int .i64) many),(3,.fn (.func 259) [] []),(9,.row 0),(10,.d (.int .i64) left),(19,.d YTT1 t19),(20,.d (.int .i64) t20),(21,.d (.int .i64) t21)],nt:=62,up:=[],own:=[(0,.row .bool 4 met)],nx:=1,log:=[],ln:=0 }
def qgz_ (left:Int):St:={ fr:=[(10,.d (.int .i64) left)],nt:=62,up:=[],own:=[],nx:=0,log:=[],ln:=0 }
def q4c_ (at' many left to' i:Int) (t19:List YTT5) (t20 t21:Int) (met:List Bool) (x:q1r_):St:={ fr:=[(1,.d (.int .i64) at'),(2,.d (.int .i64) many),(3,.fn (.func 259) [] []),(9,.row 0),(10,.d (.int .i64) left),(12,.pb 1 0),(14,.d (.int .i64) to'),(15,.d (.int .i64) i),(19,.d YTT1 t19),(20,.d (.int .i64) t20),(21,.d (.int .i64) t21)],nt:=62,up:=[],own:=[(0,.row .bool 4 met),(1,.box 168 [.d (.int .i64) x.1,.d (.int .i64) x.2.1,.d .bool x.2.2.1,.d .bool x.2.2.2.1,.d .bool x.2.2.2.2])],nx:=2,log:=[],ln:=0 }
def qh1_ (at' many left to' i:Int) (t19:List YTT5) (t20 t21:Int) (met:List Bool) (x:q1r_):St:={ fr:=[(1,.d (.int .i64) at'),(2,.d (.int .i64) many),(3,.fn (.func 259) [] []),(9,.row 0),(10,.d (.int .i64) left),(12,.pb 1 0),(14,.d (.int .i64) to'),(15,.d (.int .i64) i),(19,.d YTT1 t19),(20,.d (.int .i64) t20),(21,.d (.int .i64) t21)],nt:=62,up:=[],own:=[(0,.row .bool 4 met),(1,.box 168 [.d (.int .i64) x.1,.d (.int .i64) x.2.1,.d .bool x.2.2.1,.d .bool x.2.2.2.1,.d .bool x.2.2.2.2])],nx:=2,log:=[],ln:=0 }
def qbu_ (j2:Int->Option (As [.bool])) (j3:Int->Int->Int->Int->Int->List YTT5->Int->Int->List Bool->q1r_->Option (As [.bool])) (self1:Int->Int->Int->List YTT5->Int->Int->List Bool->Option (As [.bool])) (at' many left:Int) (t19:List YTT5) (t20 t21:Int) (met:List Bool):Option (As [.bool]) :=
 if lt t21 t20=true then Option.bind (at? t19 t21) fun y=>if eqi left 0=true then j2 left else Option.bind (q84_ (y,at',add .i64 at' many,())) fun y_1=>j3 at' many left y_1.2.1 y_1.1 t19 t20 t21 met y else j2 left
def qvh_ (left:Int):Option (As [.bool]) :=
 some (eqi left 0,())
def qbl_ (j4:Int->Int->Int->Int->Int->List YTT5->Int->Int->List Bool->q1r_->Option (As [.bool])) (self1:Int->Int->Int->List YTT5->Int->Int->List Bool->Option (As [.bool])) (self3:Int->Int->Int->Int->Int->List YTT5->Int->Int->List Bool->q1r_->Option (As [.bool])) (at' many left to' i:Int) (t19:List YTT5) (t20 t21:Int) (met:List Bool) (x:q1r_):Option (As [.bool]) :=
 if lt i to'=true then Option.bind (at? met (Sx.sub .i64 i at')) fun x_1=>Option.bind (at? met (Sx.sub .i64 i at')) fun y=>if y=true then j4 at' many left to' i t19 t20 t21 met x else Option.bind (q12_ (x,())) fun y=>if (!y.1)=true then some (false,()) else Option.bind (at? met (Sx.sub .i64 i at')) fun x_2=>Option.bind (at? met (Sx.sub .i64 i at')) fun x_3=>j4 at' many (Sx.sub .i64 left 1) to' i t19 t20 t21 (List.set met (Int.toNat (Sx.sub .i64 i at')) true) x else self1 at' many left t19 t20 (add .i64 t21 1) met
def qo6_ (self1:Int->Int->Int->List YTT5->Int->Int->List Bool->Option (As [.bool])) (self3:Int->Int->Int->Int->Int->List YTT5->Int->Int->List Bool->q1r_->Option (As [.bool])) (at' many left to' i:Int) (t19:List YTT5) (t20 t21:Int) (met:List Bool) (x:q1r_):Option (As [.bool]) :=
 self3 at' many left to' (add .i64 i 1) t19 t20 t21 met x
def qgk_ (j1:Int->Int->Int->List YTT5->Int->Int->List Bool->Option (As [.bool])) (areas:List YTT5) (at' many:Int):Option (As [.bool]) :=
 need (ge many 0) (need (Ev.capOk many many) (need (small (Int.toNat many)) (j1 at' many many areas (Int.ofNat (List.length areas)) 0 (List.replicate (Int.toNat many) false))))
def q8z_ (left:Int):Option (As [.bool]):=qvh_ left
def q6m_ (u1:Int->Int->Int->List YTT5->Int->Int->List Bool->Option (As [.bool])) (u3:Int->Int->Int->Int->Int->List YTT5->Int->Int->List Bool->q1r_->Option (As [.bool])) (at' many left to' i:Int) (t19:List YTT5) (t20 t21:Int) (met:List Bool) (x:q1r_):Option (As [.bool]):=qo6_ u1 u3 at' many left to' i t19 t20 t21 met x
def q6u_ (u1:Int->Int->Int->List YTT5->Int->Int->List Bool->Option (As [.bool])) (at' many left to' i:Int) (t19:List YTT5) (t20 t21:Int) (met:List Bool) (x:q1r_):Option (As [.bool]) :=
 loopF (fun (self:(Int)×(Int)×(Int)×(Int)×(Int)×(List YTT5)×(Int)×(Int)×(List Bool)×YTT5->Option (As [.bool])) (s:(Int)×(Int)×(Int)×(Int)×(Int)×(List YTT5)×(Int)×(Int)×(List Bool)×YTT5)=>qbl_ (q6m_ u1 (fun at' many left to' i t19 t20 t21 met x=>self (at',many,left,to',i,t19,t20,t21,met,x))) u1 (fun at' many left to' i t19 t20 t21 met x=>self (at',many,left,to',i,t19,t20,t21,met,x)) s.1 s.2.1 s.2.2.1 s.2.2.2.1 s.2.2.2.2.1 s.2.2.2.2.2.1 s.2.2.2.2.2.2.1 s.2.2.2.2.2.2.2.1 s.2.2.2.2.2.2.2.2.1 s.2.2.2.2.2.2.2.2.2) 18446744073709551616 (at',many,left,to',i,t19,t20,t21,met,x)
def qcf_ (at' many left:Int) (t19:List YTT5) (t20 t21:Int) (met:List Bool):Option (As [.bool]) :=
 loopF (fun (self:(Int)×(Int)×(Int)×(List YTT5)×(Int)×(Int)×(List Bool)->Option (As [.bool])) (s:(Int)×(Int)×(Int)×(List YTT5)×(Int)×(Int)×(List Bool))=>qbu_ (q8z_) (q6u_ (fun at' many left t19 t20 t21 met=>self (at',many,left,t19,t20,t21,met))) (fun at' many left t19 t20 t21 met=>self (at',many,left,t19,t20,t21,met)) s.1 s.2.1 s.2.2.1 s.2.2.2.1 s.2.2.2.2.1 s.2.2.2.2.2.1 s.2.2.2.2.2.2) 18446744073709551616 (at',many,left,t19,t20,t21,met)
def q6g_ (x:As [.sl (.pr (.int .i64) YTT12),.int .i64,.int .i64]):Option (As [.bool]):=qgk_ qcf_ x.1 x.2.1 x.2.2.1
theorem q14d_ (J:Orc (As [.bool])) (left:Int):pfn Tryz.prog q1z_ 6 18446744073709551616 (Ev.get q20_) 258 q16_ J 15 [] (qgz_ left)=qvh_ left:=by kernel_rfl
theorem q14i_ (J:Orc (As [.bool])) (w1 w3:St->Option (As [.bool])) (at' many left to' i:Int) (t19:List YTT5) (t20 t21:Int) (met:List Bool) (x:q1r_):pfn Tryz.prog q1z_ 6 18446744073709551616 (Ev.get q20_) 258 q16_ J 501369 [w1,w3] (qh1_ at' many left to' i t19 t20 t21 met x)=qo6_ (fun at' many left t19 t20 t21 met=>w1 (q2k_ at' many left t19 t20 t21 met)) (fun at' many left to' i t19 t20 t21 met x=>w3 (q4c_ at' many left to' i t19 t20 t21 met x)) at' many left to' i t19 t20 t21 met x:=by kernel_rfl
theorem q15r_ (J:Orc (As [.bool])) (w1 w3:St->Option (As [.bool])) (at' many left to' i:Int) (t19:List YTT5) (t20 t21:Int) (met:List Bool) (x:q1r_):pfn Tryz.prog q1z_ 6 18446744073709551616 (Ev.get q20_) 258 q16_ J 125342 [w1,w3] (q4c_ at' many left to' i t19 t20 t21 met x)=qbl_ (fun at' many left to' i t19 t20 t21 met x=>J 501369 [w1,w3] (qh1_ at' many left to' i t19 t20 t21 met x)) (fun at' many left t19 t20 t21 met=>w1 (q2k_ at' many left t19 t20 t21 met)) (fun at' many left to' i t19 t20 t21 met x=>w3 (q4c_ at' many left to' i t19 t20 t21 met x)) at' many left to' i t19 t20 t21 met x:=by kernel_rfl
theorem q14z_ (J:Orc (As [.bool])) (w1:St->Option (As [.bool])) (at' many left:Int) (t19:List YTT5) (t20 t21:Int) (met:List Bool):pfn Tryz.prog q1z_ 6 18446744073709551616 (Ev.get q20_) 258 q16_ J 122 [w1] (q2k_ at' many left t19 t20 t21 met)=qbu_ (fun left=>J 15 [] (qgz_ left)) (fun at' many left to' i t19 t20 t21 met x=>J 125342 [w1] (q4c_ at' many left to' i t19 t20 t21 met x)) (fun at' many left t19 t20 t21 met=>w1 (q2k_ at' many left t19 t20 t21 met)) at' many left t19 t20 t21 met:=by kernel_rfl
theorem q153_ (J:Orc (As [.bool])) (x:As [.sl (.pr (.int .i64) YTT12),.int .i64,.int .i64]):rfn Tryz.prog q1z_ 6 18446744073709551616 (Ev.get q20_) 258 q16_ J x=qgk_ (fun at' many left t19 t20 t21 met=>J 122 [] (q2k_ at' many left t19 t20 t21 met)) x.1 x.2.1 x.2.2.1:=by kernel_rfl
theorem q15d_ (left:Int):jfn Tryz.prog q1z_ 6 18446744073709551616 (Ev.get q20_) 258 q16_ 15 [] (qgz_ left)=q8z_ left:=by
 rw [q8_ (by decide)]
 rw [q14d_]
 rfl
theorem q158_ (w1 w3:St->Option (As [.bool])) (at' many left to' i:Int) (t19:List YTT5) (t20 t21:Int) (met:List Bool) (x:q1r_):jfn Tryz.prog q1z_ 6 18446744073709551616 (Ev.get q20_) 258 q16_ 501369 [w1,w3] (qh1_ at' many left to' i t19 t20 t21 met x)=q6m_ (fun at' many left t19 t20 t21 met=>w1 (q2k_ at' many left t19 t20 t21 met)) (fun at' many left to' i t19 t20 t21 met x=>w3 (q4c_ at' many left to' i t19 t20 t21 met x)) at' many left to' i t19 t20 t21 met x:=by
 rw [q8_ (by decide)]
 rw [q14i_]
 rfl
theorem q14f_ (w1:St->Option (As [.bool])) (at' many left to' i:Int) (t19:List YTT5) (t20 t21:Int) (met:List Bool) (x:q1r_):jfn Tryz.prog q1z_ 6 18446744073709551616 (Ev.get q20_) 258 q16_ 125342 [w1] (q4c_ at' many left to' i t19 t20 t21 met x)=q6u_ (fun at' many left t19 t20 t21 met=>w1 (q2k_ at' many left t19 t20 t21 met)) at' many left to' i t19 t20 t21 met x:=by
 rw [q8_ (by decide)]
 rw [qr_ (by kernel_rfl)]
 refine qi_ (σ:=(Int)×(Int)×(Int)×(Int)×(Int)×(List YTT5)×(Int)×(Int)×(List Bool)×YTT5) (mk:=fun s=>q4c_ s.1 s.2.1 s.2.2.1 s.2.2.2.1 s.2.2.2.2.1 s.2.2.2.2.2.1 s.2.2.2.2.2.2.1 s.2.2.2.2.2.2.2.1 s.2.2.2.2.2.2.2.2.1 s.2.2.2.2.2.2.2.2.2) (fun w3 s=>?_) 18446744073709551616 (at',many,left,to',i,t19,t20,t21,met,x)
 have e4:(fun at' many left to' i t19 t20 t21 met x=>(jfn Tryz.prog q1z_ 6 18446744073709551616 (Ev.get q20_) 258 q16_) 501369 [w1,w3] (qh1_ at' many left to' i t19 t20 t21 met x))=q6m_ (fun at' many left t19 t20 t21 met=>w1 (q2k_ at' many left t19 t20 t21 met)) (fun at' many left to' i t19 t20 t21 met x=>w3 (q4c_ at' many left to' i t19 t20 t21 met x)):=by funext at' many left to' i t19 t20 t21 met x; exact q158_ w1 w3 at' many left to' i t19 t20 t21 met x
 refine (q15r_ _ w1 w3 s.1 s.2.1 s.2.2.1 s.2.2.2.1 s.2.2.2.2.1 s.2.2.2.2.2.1 s.2.2.2.2.2.2.1 s.2.2.2.2.2.2.2.1 s.2.2.2.2.2.2.2.2.1 s.2.2.2.2.2.2.2.2.2).trans ?_
 rw [e4]
theorem q14n_ (at' many left:Int) (t19:List YTT5) (t20 t21:Int) (met:List Bool):jfn Tryz.prog q1z_ 6 18446744073709551616 (Ev.get q20_) 258 q16_ 122 [] (q2k_ at' many left t19 t20 t21 met)=qcf_ at' many left t19 t20 t21 met:=by
 rw [q8_ (by decide)]
 rw [qr_ (by kernel_rfl)]
 refine qi_ (σ:=(Int)×(Int)×(Int)×(List YTT5)×(Int)×(Int)×(List Bool)) (mk:=fun s=>q2k_ s.1 s.2.1 s.2.2.1 s.2.2.2.1 s.2.2.2.2.1 s.2.2.2.2.2.1 s.2.2.2.2.2.2) (fun w1 s=>?_) 18446744073709551616 (at',many,left,t19,t20,t21,met)
 have e2:(fun left=>(jfn Tryz.prog q1z_ 6 18446744073709551616 (Ev.get q20_) 258 q16_) 15 [] (qgz_ left))=q8z_:=funext fun left=>q15d_ left
 have e3:(fun at' many left to' i t19 t20 t21 met x=>(jfn Tryz.prog q1z_ 6 18446744073709551616 (Ev.get q20_) 258 q16_) 125342 [w1] (q4c_ at' many left to' i t19 t20 t21 met x))=q6u_ (fun at' many left t19 t20 t21 met=>w1 (q2k_ at' many left t19 t20 t21 met)):=by funext at' many left to' i t19 t20 t21 met x; exact q14f_ w1 at' many left to' i t19 t20 t21 met x
 refine (q14z_ _ w1 s.1 s.2.1 s.2.2.1 s.2.2.2.1 s.2.2.2.2.1 s.2.2.2.2.2.1 s.2.2.2.2.2.2).trans ?_
 rw [e2,e3]
theorem q166_ (x:As [.sl (.pr (.int .i64) YTT12),.int .i64,.int .i64]):evT Tryz.prog q1z_ 6 18446744073709551616 (Ev.get q20_) 258 q16_ x=q6g_ x:=by
 have e1:(fun at' many left t19 t20 t21 met=>(jfn Tryz.prog q1z_ 6 18446744073709551616 (Ev.get q20_) 258 q16_) 122 [] (q2k_ at' many left t19 t20 t21 met))=qcf_:=by funext at' many left t19 t20 t21 met; exact q14n_ at' many left t19 t20 t21 met
 rw [q5_,q153_,e1]
 rfl
theorem qgp_:CtOk Tryz.prog (fun _=>True) 258 ⟨q16_,q6g_⟩:=q3_ (q0_ q33_ (q0_ q32_ (q0_ qmo_ (q0_ q2o_ (q0_ q2p_ q4_))))) q166_
end Go.Proofs.Lx
end
