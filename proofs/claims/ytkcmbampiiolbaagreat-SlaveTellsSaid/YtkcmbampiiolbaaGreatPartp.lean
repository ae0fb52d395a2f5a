/- Proved in the last of these 20 parts (this is part 16): SlaveTells. Conditions: those of the given statement, and no others. -/
import Derived.Test.YtkcmbampiiolbaaGreatParto
import Derived.Test.YtkcmbampiiolbaaGreatParte
import Derived.Test.YtkcmbampiiolbaaGreatPartj
set_option linter.unusedVariables false
set_option linter.unusedSimpArgs false
set_option linter.unusedSectionVars false
open Option renaming bind → zC, bind_some → zD
open List renaming replicate → zE, mem_cons_of_mem → zS, getElem?_eq_getElem → zU, getElem?_eq_some_iff → zV, getD_eq_getElem?_getD → zW, mem_of_getElem? → zX, length_replicate → kC
open Int renaming ofNat → zF, eq_ofNat_of_zero_le → zN, toNat_natCast → zP
open Bool renaming and_eq_true → zO
noncomputable section
namespace Pl
open Go Ev Sx
theorem ok8{x:Int}(h:(Lit.int .u8 x).wf=true):0≤x∧x≤255:=by simp[Lit.wf]at h;have e1:IntKind.u8.min=0:=rfl;have e2:IntKind.u8.max=255:=rfl;omega
theorem ok16{x:Int}(h:(Lit.int .u16 x).wf=true):0≤x∧x≤65535:=by simp[Lit.wf]at h;have e1:IntKind.u16.min=0:=rfl;have e2:IntKind.u16.max=65535:=rfl;omega
end Pl
namespace Go.Proofs.Lx
open Go Ev Sx Pl
set_option maxRecDepth 100000
def SB(ws:List Int)(bs:List Bool):Bool:=decide (ws.length≤200) && decide (bs.length≤2100)
theorem aA1(ws:List Int)(bs:List Bool):LG (ws,bs,())=some (SB ws bs,()):=by
 show abr ws bs=_;unfold abr SB;by_cases h:ws.length≤200
 ·rw[if_pos (by rw[gT,bu];omega),decide_eq_true h,Bool.true_and,le_dec]
  refine congrArg (fun x=>some (x,())) ?_;rw[bu];by_cases h2:bs.length≤2100
  ·rw[decide_eq_true h2,decide_eq_true (by omega)]
  ·rw[decide_eq_false h2,decide_eq_false (by omega)]
 ·rw[if_neg (by rw[gT,bu];omega),decide_eq_false h]
  rfl
theorem ayO{ws:List Int}{bs:List Bool}:SB ws bs=true↔ws.length≤200∧bs.length≤2100:=by simp[SB]
end Go.Proofs.Lx
end
noncomputable section
namespace Pl
open Go Ev Sx
theorem lq(y z:Int)(r:List Int):iC (y::z::r)=iY y z::iC r:=by
 unfold iC;have e:(y::z::r).length / 2=r.length / 2+1:=by grind
 rw[e,List.range_succ_eq_map,List.map_cons,List.map_map]
 congr 1
end Pl
namespace Go.Proofs.Lx
open Go Ev Sx Pl
set_option maxRecDepth 100000
theorem kT{x:Int}(h0:0≤x)(h1:x≤65535):iY (x / 256%256) (x%256)=x:=by grind[Ci]
theorem SC{x:Int}(h0:0≤x)(h1:x≤65535)(r:List Int):iC (x / 256%256::x%256::r)=x::iC r:=by rw[lq,kT h0 h1]
theorem qC:∀{l:List Int},(∀x∈l,0≤x∧x≤65535)->iC (l.flatMap two)=l
 | [],_=>rfl
 | x::r,h=>by rw[List.flatMap_cons];show iC (x / 256%256::x%256::r.flatMap two)=_;have hx:=h x (by simp);rw[SC hx.1 hx.2,qC fun y hy=>h y (zS _ hy)]
theorem uQ{t:List Bool}(h:t.length≤8):0≤ji t∧ji t<256:=by have h1:=uO t;have h2:2 ^ t.length≤2 ^ 8:=Nat.pow_le_pow_right (by decide) h;grind
theorem unpack_pack(l:List Bool):(jM (iL l)).take l.length=l:=by
 apply List.ext_getElem?;intro i;rw[List.getElem?_take];by_cases hi:i<l.length
 ·rw[if_pos hi]
  unfold jM;have hm:i<8*(iL l).length:=by grind[pV,gH]
  rw[List.getElem?_map,List.getElem?_range hm,Option.map_some];have hq:i / 8<gH l.length:=by grind[gH]
  have e:(iL l).getD (i / 8) 0=ji ((l.drop (8*(i / 8))).take 8):=by simp_all[iL,zW,List.getElem?_map,List.getElem?_range]
  have hr:=uQ (t:=(l.drop (8*(i / 8))).take 8) (by grind);rw[e,UL hr.1 hr.2 (Nat.mod_lt _ (by decide)),Ko];have e2:((l.drop (8*(i / 8))).take 8).getD (i%8) false=l[i]:=by grind
  simp_all
 grind
abbrev tup(p:TP):TP:=(p.1,p.2.1,p.2.2.1,p.2.2.2.1,p.2.2.2.2.1,(p.2.2.2.2.2.1.1,p.2.2.2.2.2.1.2.1,p.2.2.2.2.2.1.2.2.1,p.2.2.2.2.2.1.2.2.2.1,p.2.2.2.2.2.1.2.2.2.2.1,p.2.2.2.2.2.1.2.2.2.2.2),p.2.2.2.2.2.2.1,p.2.2.2.2.2.2.2.1,p.2.2.2.2.2.2.2.2)
theorem nG(x:Int):∀y∈two x,0≤y∧y≤255:=by intro y hy;simp[two]at hy;omega
theorem sQ(l:List Int):∀y∈l.flatMap two,0≤y∧y≤255:=by intro y hy;obtain⟨x,_,hx⟩:=List.mem_flatMap.1 hy;exact nG x y hx
theorem Fj(l:List Bool):∀y∈iL l,0≤y∧y≤255:=by intro y hy;unfold iL at hy;obtain⟨j,_,rfl⟩:=List.mem_map.1 hy;have:=uQ (t:=(l.drop (8*j)).take 8) (by grind);omega
theorem yx{a:TA}(h:RA a):∀y∈jc a,0≤y∧y≤255:=by
 have app:∀{l r:List Int},(∀y∈l,0≤y∧y≤255)->(∀y∈r,0≤y∧y≤255)->∀y∈l++r,0≤y∧y≤255:=fun h1 h2 y hy=>by grind
 have con:∀{x:Int} {r:List Int},(0≤x∧x≤255)->(∀y∈r,0≤y∧y≤255)->∀y∈x::r,0≤y∧y≤255:=fun h1 h2 y hy=>by grind
 have nil:∀y∈([]:List Int),0≤y∧y≤255:=fun y hy=>by cases hy
 cases h with
 | bits f p n hf h1 h2 =>
  rcases hf with rfl | rfl
  ·show ∀y∈(1:Int)::two p++two n,0≤y∧y≤255
   grind[nG]
  ·show ∀y∈(2:Int)::two p++two n,0≤y∧y≤255
   grind[nG]
 | words f p n hf h1 h2 =>
  rcases hf with rfl | rfl
  ·show ∀y∈(3:Int)::two p++two n,0≤y∧y≤255
   grind[nG]
  ·show ∀y∈(4:Int)::two p++two n,0≤y∧y≤255
   grind[nG]
 | coil p b =>
  show ∀y∈(5:Int)::two p++two (if b=true then 65280 else 0),0≤y∧y≤255;grind[nG]
 | word p x =>
  show ∀y∈(6:Int)::two p++[x].flatMap two,0≤y∧y≤255;grind[nG,sQ]
 | coils p l h1 h2 =>
  show ∀y∈(15:Int)::two p++two (l.length:Int)++[(gH l.length:Int)]++iL l,0≤y∧y≤255;exact app (app (app (con (by decide) (nG p)) (nG _)) (con (by grind[gH]) nil)) (Fj l)
 | regs p l h1 h2 =>
  show ∀y∈(16:Int)::two p++two (l.length:Int)++[2*(l.length:Int)]++l.flatMap two,0≤y∧y≤255;grind[nG,sQ]
 | swap p n t l h1 h2 h3 h4 =>
  show ∀y∈(23:Int)::two p++two n++two t++two (l.length:Int)++[2*(l.length:Int)]++l.flatMap two,0≤y∧y≤255;exact app (app (app (app (app (con (by decide) (nG p)) (nG _)) (nG _)) (nG _)) (con (by omega) nil)) (sQ l)
end Go.Proofs.Lx
end
noncomputable section
namespace Go.Proofs.Lx
open Go Ev Sx Pl
set_option maxRecDepth 100000
structure OkR(r:TR):Prop where
 f0:0≤r.1
 f1:r.1≤255
 e0:0≤r.2.1
 e1:r.2.1≤255
 w:∀x∈r.2.2.2.1,0≤x∧x≤65535
 at0:0≤r.2.2.2.2.1
 at1:r.2.2.2.2.1≤65535
 m0:0≤r.2.2.2.2.2
 m1:r.2.2.2.2.2≤65535
 lb:r.2.2.1.length≤100000
 lw:r.2.2.2.1.length≤100000
inductive RR:TR->Prop where
 | ex (f e:Int) (h0:0≤f) (h:f<128) (h1:1≤e) (h2:e≤4):RR (f,e,[],[],0,0)
 | bits (f:Int) (l:List Bool) (hf:f=1∨f=2) (h1:8≤l.length) (h2:l.length≤2000) (h3:l.length%8=0):RR (f,0,l,[],0,0)
 | words (f:Int) (l:List Int) (hf:f=3∨f=4∨f=23) (h1:1≤l.length) (h2:l.length≤125):RR (f,0,[],l,0,0)
 | coil (b:Bool) (p:Int):RR (5,0,[b],[],p,0)
 | word (x p:Int):RR (6,0,[],[x],p,0)
 | coils (p n:Int) (h1:1≤n) (h2:n≤1968):RR (15,0,[],[],p,n)
 | regs (p n:Int) (h1:1≤n) (h2:n≤123):RR (16,0,[],[],p,n)
theorem rP{f:Int}(h0:0≤f)(h:f<128):rem f 128=f:=by grind[rem,Int.tmod_eq_emod_of_nonneg]
theorem alk{r:TR}(h:OkR r)(hr:nY r=true):RR r:=by
 unfold nY at hr;have hf0:=h.f0;clear h;split at hr
 ·unfold exR at hr
  simp only[zO,decide_eq_true_eq]at hr;obtain⟨h1,h2,h3,h4⟩:=hr;rw[h4,rP hf0 h1];exact .ex _ _ hf0 h1 h2 h3
 ·have bit:∀{f:Int},r.1=f->(f=1∨f=2)->uw r=true->RR r:=fun {f} e hf hb=>by unfold uw at hb;simp only[zO,decide_eq_true_eq]at hb;obtain⟨h1,h2,h3,h4⟩:=hb;rw[h4,e];exact .bits _ _ hf h1 h2 h3
  have wrd:∀{f:Int},r.1=f->(f=3∨f=4∨f=23)->pI r=true->RR r:=fun {f} e hf hb=>by unfold pI at hb;simp only[zO,decide_eq_true_eq]at hb;obtain⟨h1,h2,h3⟩:=hb;rw[h3,e];exact .words _ _ hf h1 h2
  split at hr
  ·rename_i e;exact bit (au.1 e) (.inl rfl) hr
  ·split at hr
   ·rename_i e;exact bit (au.1 e) (.inr rfl) hr
   ·split at hr
    ·rename_i e;exact wrd (au.1 e) (.inl rfl) hr
    ·split at hr
     ·rename_i e;exact wrd (au.1 e) (.inr (.inl rfl)) hr
     ·split at hr
      ·rename_i e;exact wrd (au.1 e) (.inr (.inr rfl)) hr
      ·split at hr
       ·rename_i e
        unfold obR at hr;simp only[zO,decide_eq_true_eq]at hr;obtain⟨x,hx⟩:=List.length_eq_one_iff.1 hr.1;rw[hr.2,au.1 e,hx];exact .coil x _
       ·split at hr
        ·rename_i e
         unfold owR at hr;simp only[zO,decide_eq_true_eq]at hr;obtain⟨x,hx⟩:=List.length_eq_one_iff.1 hr.1;rw[hr.2,au.1 e,hx];exact .word x _
        ·split at hr
         ·rename_i e
          unfold ctR at hr;simp only[zO,decide_eq_true_eq]at hr;rw[hr.2.2,au.1 e];exact .coils _ _ hr.1 hr.2.1
         ·split at hr
          ·rename_i e
           unfold ctR at hr;simp only[zO,decide_eq_true_eq]at hr;rw[hr.2.2,au.1 e];exact .regs _ _ hr.1 hr.2.1
          ·cases hr
def iM(r:TR):List Int:=if nei r.2.1 0=true then exB r else if eqi r.1 1=true then ajM r else if eqi r.1 2=true then ajM r else if eqi r.1 3=true then Cj r else if eqi r.1 4=true then Cj r else if eqi r.1 23=true then Cj r else
 if eqi r.1 5=true then obB r else if eqi r.1 6=true then owB r else if eqi r.1 15=true then ctB r else if eqi r.1 16=true then ctB r else []
theorem asT{r:TR}(h:RR r):2≤(iM r).length∧(iM r).length≤253:=by
 cases h with
 | ex f e h0 h h1 h2 =>
  unfold iM;rw[if_pos (by grind[cu])];exact⟨Nat.le.refl,(by decide:2≤253)⟩
 | bits f l hf h1 h2 h3 =>
  have e:iM (f,0,l,[],0,0)=ajM (f,0,l,[],0,0):=by rcases hf with rfl | rfl<;>rfl
  rw[e];show 2≤(f::_::iL l).length∧(f::_::iL l).length≤253;grind[List.length_cons,pV,gH]
 | words f l hf h1 h2 =>
  have e:iM (f,0,[],l,0,0)=Cj (f,0,[],l,0,0):=by rcases hf with rfl | rfl | rfl<;>rfl
  rw[e];show 2≤([f,_]++l.flatMap two).length∧([f,_]++l.flatMap two).length≤253;grind[List.length_append,List.length_cons,List.length_nil,yu]
 | coil b p=>exact⟨(by decide:2≤5),(by decide:5≤253)⟩
 | word x p=>exact⟨(by decide:2≤5),(by decide:5≤253)⟩
 | coils p n h1 h2=>exact⟨(by decide:2≤5),(by decide:5≤253)⟩
 | regs p n h1 h2=>exact⟨(by decide:2≤5),(by decide:5≤253)⟩
theorem aPB{n:Nat}(h:n<65536):quo .u16 (n:Int) 2=((n / 2:Nat):Int):=by
 unfold quo;have e:(n:Int).tdiv 2=((n / 2:Nat):Int):=by rfl
 grind[yj]
theorem uR{a:TA}(h:OkA a):AY (a,())=some (jd a,()):=by
 obtain⟨f,p,n,t,ws,bs⟩:=a;have h1:=h.m0;have h2:=h.m1;dsimp only at h1 h2;show aeN pQ (f,p,n,t,ws,bs)=_;unfold aeN;dsimp only;rw[gM (by omega) (by omega)];have K:∀b:Bool,pQ (zF bs.length) (zF ws.length) n b (f,p,n,t,ws,bs)=if b=true then some (false,()) else pQ (zF bs.length) (zF ws.length) n false (f,p,n,t,ws,bs):=fun b=>by rfl
 rw[K (nei t 0)];unfold jd;dsimp only;have z:∀x:Int,jo x 0=decide (x=0):=fun x=>rfl
 have w:∀(x m:Int),0<m->jo x m=(decide (1≤x) && decide (x≤m)):=fun x m hm=>by
  unfold jo;rw[if_neg (by grind[au])];by_cases hx:1≤x
  ·rw[if_pos (gU.2 hx),decide_eq_true hx];rfl
  simp_all[if_neg,gU,decide_eq_false]
 have et:nei t 0=!eqi t 0:=rfl;have fin:∀(x:Bool) (s:Int×Int×Int×Bool×Bool),s.2.2.2.1=false->((if nei t 0=true then (some (false,()):BB) else some (x,()))=some (rO (f,p,n,t,ws,bs) s,())↔(eqi t 0=true->(x=true↔(jo n s.1 && (jo (zF bs.length) s.2.1 && (jo (zF ws.length) s.2.2.1 && (!s.2.2.2.2 || eqi (zF bs.length+zF ws.length) n))))=true))):=by rintro x ⟨s1,s2,s3,s4,s5⟩ rfl;rw[et];unfold rO;grind
 have hb:∀x:Nat,(zF x=0)=(x=0):=fun x=>by simp
 have ws0:0≤zF ws.length:=Int.natCast_nonneg _;have bs0:0≤zF bs.length:=Int.natCast_nonneg _;generalize hlb:zF bs.length=lb at *;generalize hlw:zF ws.length=lw at *;have bi:∀(x y:Bool),x=true->((x && y)=true↔y=true):=fun x y h=>by grind
 rcases Bq f with ⟨hf,e⟩ | ⟨hf,e⟩ | ⟨hf,e⟩ | ⟨hf,e⟩ | ⟨hf,e⟩ | ⟨hf,e⟩ | ⟨hf,e⟩ | ⟨hf,e⟩<;>rw[e]
 ·rcases hf with rfl | rfl
  ·have k:pQ lb lw n false (1,p,n,t,ws,bs)=if eqi lb 0=true then if eqi lw 0=true then if ge n 1=true then some (le n 2000,()) else some (false,()) else some (false,()) else some (false,()):=rfl
   rw[k,gY au fun _=>gY au fun _=>gY gU fun _=>rfl,if_pos (by decide)];refine (fin _ _ rfl).2 fun _=>?_;simp only[w n 2000 (by decide),z,au,gT,gU,zO,decide_eq_true_eq,Bool.not_false,Bool.not_true,Bool.true_or,Bool.false_or,and_true];omega
  ·have k:pQ lb lw n false (2,p,n,t,ws,bs)=if eqi lb 0=true then if eqi lw 0=true then if ge n 1=true then some (le n 2000,()) else some (false,()) else some (false,()) else some (false,()):=rfl
   rw[k,gY au fun _=>gY au fun _=>gY gU fun _=>rfl,if_pos (by decide)];refine (fin _ _ rfl).2 fun _=>?_;simp only[w n 2000 (by decide),z,au,gT,gU,zO,decide_eq_true_eq,Bool.not_false,Bool.not_true,Bool.true_or,Bool.false_or,and_true];omega
 ·rcases hf with rfl | rfl
  ·have k:pQ lb lw n false (3,p,n,t,ws,bs)=if eqi lb 0=true then if eqi lw 0=true then if ge n 1=true then some (le n 125,()) else some (false,()) else some (false,()) else some (false,()):=rfl
   rw[k,gY au fun _=>gY au fun _=>gY gU fun _=>rfl,if_pos (by decide)];refine (fin _ _ rfl).2 fun _=>?_;simp only[w n 125 (by decide),z,au,gT,gU,zO,decide_eq_true_eq,Bool.not_false,Bool.not_true,Bool.true_or,Bool.false_or,and_true];omega
  ·have k:pQ lb lw n false (4,p,n,t,ws,bs)=if eqi lb 0=true then if eqi lw 0=true then if ge n 1=true then some (le n 125,()) else some (false,()) else some (false,()) else some (false,()):=rfl
   rw[k,gY au fun _=>gY au fun _=>gY gU fun _=>rfl,if_pos (by decide)];refine (fin _ _ rfl).2 fun _=>?_;simp only[w n 125 (by decide),z,au,gT,gU,zO,decide_eq_true_eq,Bool.not_false,Bool.not_true,Bool.true_or,Bool.false_or,and_true];omega
 ·subst hf
  ·have k:pQ lb lw n false (5,p,n,t,ws,bs)=if eqi lb 1=true then if eqi lw 0=true then some (eqi n 0,()) else some (false,()) else some (false,()):=rfl
   rw[k,gY au fun _=>gY au fun _=>rfl,if_pos (by decide)];refine (fin _ _ rfl).2 fun _=>?_;simp only[w lb 1 (by decide),z,au,gT,gU,zO,decide_eq_true_eq,Bool.not_false,Bool.not_true,Bool.true_or,Bool.false_or,and_true];omega
 ·subst hf
  ·have k:pQ lb lw n false (6,p,n,t,ws,bs)=if eqi lb 0=true then if eqi lw 1=true then some (eqi n 0,()) else some (false,()) else some (false,()):=rfl
   rw[k,gY au fun _=>gY au fun _=>rfl,if_pos (by decide)];refine (fin _ _ rfl).2 fun _=>?_;simp only[w lw 1 (by decide),z,au,gT,gU,zO,decide_eq_true_eq,Bool.not_false,Bool.not_true,Bool.true_or,Bool.false_or,and_true];omega
 ·subst hf
  ·have k:pQ lb lw n false (15,p,n,t,ws,bs)=if eqi lb n=true then if eqi lw 0=true then if ge n 1=true then some (le n 1968,()) else some (false,()) else some (false,()) else some (false,()):=rfl
   rw[k,gY au fun _=>gY au fun _=>gY gU fun _=>rfl,if_pos (by decide)];refine (fin _ _ rfl).2 fun _=>?_;simp only[w n 1968 (by decide),w lb 1968 (by decide),z,au,gT,gU,zO,decide_eq_true_eq,Bool.not_false,Bool.not_true,Bool.true_or,Bool.false_or,and_true];omega
 ·subst hf
  ·have k:pQ lb lw n false (16,p,n,t,ws,bs)=if eqi lb 0=true then if eqi lw n=true then if ge n 1=true then some (le n 123,()) else some (false,()) else some (false,()) else some (false,()):=rfl
   rw[k,gY au fun _=>gY au fun _=>gY gU fun _=>rfl,if_pos (by decide)];refine (fin _ _ rfl).2 fun _=>?_;simp only[w n 123 (by decide),w lw 123 (by decide),z,au,gT,gU,zO,decide_eq_true_eq,Bool.not_false,Bool.not_true,Bool.true_or,Bool.false_or,and_true];omega
 ·subst hf
  have k:pQ lb lw n false (23,p,n,t,ws,bs)=if eqi lb 0=true then if ge lw 1=true then if le lw 121=true then if ge n 1=true then some (le n 125,()) else some (false,()) else some (false,()) else some (false,()) else some (false,()):=rfl;rw[k,gY au fun _=>gY gU fun _=>gY gT fun _=>gY gU fun _=>rfl,if_neg (by decide)];refine congrArg (fun x=>some (x,())) ?_;rw[Bool.eq_iff_iff];unfold rO;dsimp only;rw[hlb,hlw];simp only[w n 125 (by decide),w lw 121 (by decide),z,au,gT,gU,zO,decide_eq_true_eq,Bool.not_false,Bool.not_true,Bool.true_or,Bool.false_or,and_true,true_and];omega
 ·obtain⟨q1,q2,q3,q4,q5,q6,q7,q8,q9⟩:=hf
  have nf:∀k:Int,f≠k->eqi f k=false:=fun k hk=>by rw[<- Bool.not_eq_true,au];exact hk
  simp_all[pQ,aq2,aeO,aq3,aq4,aeM,Bool.false_eq_true,if_false,nei]
end Go.Proofs.Lx
end
noncomputable section
namespace Pl
open Go Ev Sx
end Pl
namespace Go.Proofs.Lx
open Go Ev Sx Pl
set_option maxRecDepth 100000
theorem jv{x:Int}{b:List Int}(h0:0≤x)(h1:x≤65535)(hl:b.length≤1000000):kD (x,b,())=some (b++two x,()):=by show ae3 x b=_;unfold ae3;obtain⟨n,rfl⟩:=zN h0;have e1:quo .i64 (n:Int) 256=((n / 256:Nat):Int):=lW (d:=256) (by omega);have e2:rem (n:Int) 256=((n%256:Nat):Int):=jK (d:=256);rw[gZ (by omega),gZ (by grind),e1,e2,jU,jU];simp_all[two,Nat,Int]
theorem yA{l out:List Int}(hw:∀x∈l,0≤x∧x≤65535)(h:out.length+2*l.length≤1000000):x9 (l,out,())=some (out++l.flatMap two,()):=by
 show ae6 Rm l out=_;unfold ae6 Rm;refine (nX (xs:=l) (mk:=fun i acc=>(l,(i:Int),acc)) (stp:=fun o y=>o++two y) (fin:=fun acc=>some (acc,())) (fun i acc=>acc.length≤out.length+2*i) ?_ ?_ ?_ l.length 0 out _ (by omega) (by omega) (by omega)).trans ?_
 ·intro self i acc x hx hI
  have hi:=(List.getElem?_eq_some_iff.1 hx).1;have hxr:=hw x (zX hx);show Rl _ l (i:Int) acc=_;unfold Rl;rw[if_pos (by grind[cr,bu]),d9 hx,zD,gM (by omega) (by omega),jv hxr.1 hxr.2 (by omega),zD,gJ (by omega)]
 ·grind[two]
 ·simp_all[Rl,Int,if_neg,cr,bu]
 ·rw[List.drop_zero,kQ]
end Go.Proofs.Lx
end
noncomputable section
namespace Go.Proofs.Lx
open Go Ev Sx Pl
set_option maxRecDepth 100000
def chV(l:List Bool)(m:Nat):Int:=ji ((l.drop m).take (8 - m))
theorem aOp(l:List Bool):chV l 8=0:=by rfl
theorem asU{l:List Bool}{k:Nat}(h:k<8):chV l k=(if l.getD k false=true then 1 else 0)+2*chV l (k+1):=by
 unfold chV;by_cases hk:k<l.length
 ·have e:8 - k=(8 - (k+1))+1:=by omega
  rw[List.drop_eq_getElem_cons hk,e,List.take_succ_cons,zW,zU hk];rfl
 grind[List.drop_of_length_le,List.getElem?_eq_none,ji]
theorem UM(l:List Bool)(m:Nat):0≤chV l m∧chV l m<256:=uQ (by grind)
theorem asV{u:List Bool->Int->List Int->Option (As [.sl (.int .u8)])}{bits:List Bool}{q:Nat}{out:List Int}(hl:bits.length≤100000)(hq:8*q≤100000)(ho:out.length≤100000) :
  Ri u bits ((8*q:Nat):Int) 0 7 out=u bits ((8*(q+1):Nat):Int) (out++[ji ((bits.drop (8*q)).take 8)]):=by
 unfold Ri;have e0:chV (bits.drop (8*q)) 8=0:=aOp _;refine (pU (mk:=fun j=>(bits,((8*q:Nat):Int),chV (bits.drop (8*q)) (8 - j),(7:Int) - (j:Int),out)) (N:=8) ?_ ?_ 8 0 _ (by omega) (by omega))
 ·intro self j hj
  obtain⟨k,hk⟩:∃k,k+j=7:=⟨7 - j,by omega⟩;have e8:8 - j=k+1:=by omega
  have e7:8 - (j+1)=k:=by omega
  have ek:(7:Int) - (j:Int)=(k:Int):=by omega
  have ek2:(7:Int) - ((j+1:Nat):Int)=(k:Int) - 1:=by omega
  rw[e8,e7,ek,ek2];have hr:=UM (bits.drop (8*q)) (k+1);have hst:=asU (l:=bits.drop (8*q)) (k:=k) (by omega);have hg:(bits.drop (8*q)).getD k false=bits.getD (8*q+k) false:=by simp
  rw[hg]at hst;show IE _ _ u _ bits ((8*q:Nat):Int) (chV (bits.drop (8*q)) (k+1)) (k:Int) out=_;unfold IE;have ea:add .i64 ((8*q:Nat):Int) (k:Int)=((8*q+k:Nat):Int):=lg (by omega);have es:sub .i64 (k:Int) 1=(k:Int) - 1:=jO (by omega) (by omega);rw[if_pos (by rfl),ea,kZ (by omega) (by omega)]
  have K3:∀(t:Bool) (s:List Bool->Int->Int->Int->List Int->Option (As [.sl (.int .u8)])),ae0 u s bits ((8*q:Nat):Int) (chV (bits.drop (8*q)) (k+1)*2) (k:Int) t out=s bits ((8*q:Nat):Int) ((if t=true then 1 else 0)+2*chV (bits.drop (8*q)) (k+1)) ((k:Int) - 1) out:=fun t s=>by
   unfold ae0 aeU aeZ aeW;rw[es]
   cases t with
   | true =>
    rw[if_pos rfl,iF (by omega) (by omega),if_pos rfl];grind
   | false =>
    grind
  by_cases hlt:8*q+k<bits.length
  ·have hy:bits[8*q+k]? = some (bits[8*q+k]'hlt):=zU hlt
   rw[if_pos (by grind[cr,bu]),d9 hy,zD,K3,hst,zW,hy];rfl
  ·rw[if_neg (by grind[cr,bu]),K3,hst,zW,List.getElem?_eq_none (by omega)]
   rfl
 ·intro self
  have hr:=UM (bits.drop (8*q)) 0;have e9:chV (bits.drop (8*q)) (8 - 8)=ji ((bits.drop (8*q)).take 8):=rfl;show IE _ _ u _ bits ((8*q:Nat):Int) (chV (bits.drop (8*q)) (8 - 8)) ((7:Int) - ((8:Nat):Int)) out=_;unfold IE;rw[if_neg (by grind[gU])];unfold ae2 aeV ae1 aeX;have ea:add .i64 ((8*q:Nat):Int) 8=((8*(q+1):Nat):Int):=lg (m:=8) (by omega);grind[gZ,jU,uQ,ji]
theorem SE{bits:List Bool}(h:bits.length≤50000):A7 (bits,())=some (iL bits,()):=by
 show aeY Rj bits=_;unfold aeY Rj;have hN:gH bits.length≤10000:=by grind[gH]
 refine (pU (mk:=fun q=>(bits,((8*q:Nat):Int),(iL bits).take q)) (N:=gH bits.length) ?_ ?_ (gH bits.length) 0 _ (by omega) (by omega))
 ·intro self q hq
  show IC _ _ bits ((8*q:Nat):Int) ((iL bits).take q)=_;unfold IC;have hlt:8*q<bits.length:=by grind[gH]
  rw[if_pos (by grind[cr,bu])];grind[asV,iL,bits,ji,List.getElem?_range,List.take_add_one]
 ·intro self
  show IC _ _ bits ((8*gH bits.length:Nat):Int) ((iL bits).take (gH bits.length))=_;unfold IC;rw[if_neg (by grind[cr,bu,gH]),List.take_of_length_le (by grind[pV])]
theorem TW{a:TA}(h:OkA a):Rq (a,())=if jd a=true then some (jc a,0,()) else some ([],12,()):=by
 show afb Ro qP D6 a=_;unfold afb;rw[uR h,zD]
 cases hr:jd a with
 | false=>rfl
 | true =>
  have hra:=kM hr;have hat0:=h.at0;have hat1:=h.at1;have hm0:=h.m0;have hm1:=h.m1;have ht0:=h.t0;have ht1:=h.t1;have hw:=h.w;rw[if_neg (by decide),if_pos rfl,gM (by omega) (by omega),jv hat0 hat1 (by simp),zD];clear hr h;have K2:∀o:List Int,qP o=some (o,0,()):=fun _=>rfl;have K1:∀(x:Int) (o:List Int),0≤x->x≤65535->o.length≤1000000->Ro x o=some (o++two x,0,()):=fun x o h0 h1 h2=>by unfold Ro ae9;rw[jv h0 h1 h2,zD,K2]
  cases hra with
  | bits f p n hf h1 h2 =>
   rcases hf with rfl | rfl
   ·show zC (kD (cvt .i64 n,[1]++two p,())) (fun y=>qP y.1)=_
    rw[gM (by omega) (by omega),jv hm0 hm1 (by simp[two]),zD,K2];rfl
   ·show zC (kD (cvt .i64 n,[2]++two p,())) (fun y=>qP y.1)=_
    rw[gM (by omega) (by omega),jv hm0 hm1 (by simp[two]),zD,K2];rfl
  | words f p n hf h1 h2 =>
   rcases hf with rfl | rfl
   ·show zC (kD (cvt .i64 n,[3]++two p,())) (fun y=>qP y.1)=_
    rw[gM (by omega) (by omega),jv hm0 hm1 (by simp[two]),zD,K2];rfl
   ·show zC (kD (cvt .i64 n,[4]++two p,())) (fun y=>qP y.1)=_
    rw[gM (by omega) (by omega),jv hm0 hm1 (by simp[two]),zD,K2];rfl
  | coil p b =>
   cases b with
   | true=>rfl
   | false=>rfl
  | word p x =>
   have hx:=hw x (by simp);show zC (kD (cvt .i64 x,[6]++two p,())) (fun y=>qP y.1)=_;rw[gM (by omega) (by omega),jv hx.1 hx.2 (by simp[two]),zD,K2];rfl
  | coils p l h1 h2 =>
   show zC (A7 (l,())) (fun y_1=>zC (kD (cvt .i64 (l.length:Int),[15]++two p,())) fun y=>need (small (y.1.length+1)) (need (small ((y.1++[zF (y_1.1.length%256)]).length+y_1.1.length)) (qP (y.1++[zF (y_1.1.length%256)]++y_1.1))))=_;rw[SE (by omega),zD,gM (by omega) (by omega),jv (by omega) (by omega) (by simp[two]),zD];dsimp only;rw[gZ (by simp[two]),gZ (by simp[two,pV,gH];omega),K2,pV];have e:gH l.length%256=gH l.length:=by grind[gH]
   rw[e];rfl
  | regs p l h1 h2 =>
   have e2:(2*zF l.length)%256=2*(l.length:Int):=by grind
   have k:zC (kD (cvt .i64 (l.length:Int),[16]++two p,())) (fun y=>need (small (y.1.length+1)) (D6 (16,p,(l.length:Int),0,l,[]) (y.1++[cvt .u8 (mul .i64 2 (zF l.length))])))=some (jc (16,p,(l.length:Int),0,l,[]),0,()):=by rw[gM (by omega) (by omega),jv (by omega) (by omega) (by simp[two]),zD];dsimp only;rw[gZ (by simp[two]),kZ (by grind) (by grind),jU,e2];unfold D6 afa;rw[yA hw (by simp[two];omega),zD,K2];rfl
   show amb (av A8.rs) [zC (kD (cvt .i64 (l.length:Int),[16]++two p,())) (fun y=>need (small (y.1.length+1)) (D6 (16,p,(l.length:Int),0,l,[]) (y.1++[cvt .u8 (mul .i64 2 (zF l.length))]))),zC (kD (cvt .i64 (l.length:Int),[16]++two p,())) (fun y=>need (small (y.1.length+1)) (D6 (16,p,(l.length:Int),0,l,[]) (y.1++[cvt .u8 (mul .i64 2 (zF l.length))])))]=_;simp_all[Sz,eqAs_refl]
  | swap p n t l h1 h2 h3 h4 =>
   have e2:(2*zF l.length)%256=2*(l.length:Int):=by grind
   show zC (kD (cvt .i64 n,[23]++two p,())) (fun y=>zC (kD (cvt .i64 t,y.1,())) fun y=>zC (kD (zF l.length,y.1,())) fun y=>need (small (y.1.length+1)) (zC (x9 (l,y.1++[cvt .u8 (mul .i64 2 (zF l.length))],())) fun y=>qP y.1))=_;dsimp only at hm0 hm1 ht0 ht1 hw;rw[gM (by omega) (by omega),jv hm0 hm1 (by simp[two]),zD];dsimp only;rw[gM (by omega) (by omega),jv ht0 ht1 (by simp[two]),zD];dsimp only;rw[jv (by simp) (by grind) (by simp[two]),zD];dsimp only;rw[gZ (by simp[two]),kZ (by grind) (by grind),jU,e2,yA hw (by simp[two];omega),zD,K2];rfl
theorem tJ{α:Type}{l:List α}:((l.length:Nat):Int)=0↔l=[]:=by simp
section
variable {f p n:Int}{bs:List Bool}{ws:List Int}
abbrev K1r(g:Int)(t:Bool)(r:TR):=Ry (zF r.2.2.1.length) (zF r.2.2.2.1.length) g t r
abbrev K2r(g:Int)(t:Bool)(r:TR):=afy (zF r.2.2.1.length) (zF r.2.2.2.1.length) g t r
theorem alm{g:Int}:K1r g true (f,0,bs,ws,p,n)=some (uw (f,0,bs,ws,p,n),()):=by show (if ge (zF bs.length) 8=true then if le (zF bs.length) 2000=true then if eqi (rem (zF bs.length) 8) 0=true then if eqi (zF ws.length) 0=true then if eqi p 0=true then some (eqi n 0,()) else some (false,()) else some (false,()) else some (false,()) else some (false,()) else some (false,()))=_;have er:rem (zF bs.length) 8=((bs.length%8:Nat):Int):=jK (d:=8);rw[er,gY gU fun _=>gY gT fun _=>gY au fun _=>gY au fun _=>gY au fun _=>rfl];refine congrArg (fun x=>some (x,())) ?_;unfold uw;rw[Bool.eq_iff_iff];simp only[zO,decide_eq_true_eq,au,Prod.mk.injEq,true_and,bu,tJ];grind
theorem JU{g:Int}:K2r g true (f,0,bs,ws,p,n)=some (pI (f,0,bs,ws,p,n),()):=by show (if eqi (zF bs.length) 0=true then if ge (zF ws.length) 1=true then if le (zF ws.length) 125=true then if eqi p 0=true then some (eqi n 0,()) else some (false,()) else some (false,()) else some (false,()) else some (false,()))=_;rw[gY au fun _=>gY gU fun _=>gY gT fun _=>gY au fun _=>rfl];refine congrArg (fun x=>some (x,())) ?_;unfold pI;rw[Bool.eq_iff_iff];simp only[zO,decide_eq_true_eq,au,Prod.mk.injEq,true_and,bu,tJ];grind
theorem ayP:K2r 5 false (5,0,bs,ws,p,n)=some (obR (5,0,bs,ws,p,n),()):=by show (if eqi (zF bs.length) 1=true then if eqi (zF ws.length) 0=true then some (eqi n 0,()) else some (false,()) else some (false,()))=_;rw[gY au fun _=>gY au fun _=>rfl];refine congrArg (fun x=>some (x,())) ?_;unfold obR;rw[Bool.eq_iff_iff];simp only[zO,decide_eq_true_eq,au,Prod.mk.injEq,true_and,bu,tJ];grind
theorem aA2:K2r 6 false (6,0,bs,ws,p,n)=some (owR (6,0,bs,ws,p,n),()):=by show (if eqi (zF bs.length) 0=true then if eqi (zF ws.length) 1=true then some (eqi n 0,()) else some (false,()) else some (false,()))=_;rw[gY au fun _=>gY au fun _=>rfl];refine congrArg (fun x=>some (x,())) ?_;unfold owR;rw[Bool.eq_iff_iff];simp only[zO,decide_eq_true_eq,au,Prod.mk.injEq,true_and,bu,tJ];grind
theorem axE{k:Int}:(if eqi (zF bs.length) 0=true then if eqi (zF ws.length) 0=true then if ge n 1=true then some (le n k,()) else some (false,()) else some (false,()) else some (false,()):BB)=some (ctR k (f,0,bs,ws,p,n),()):=by rw[gY au fun _=>gY au fun _=>gY gU fun _=>rfl];refine congrArg (fun x=>some (x,())) ?_;unfold ctR;rw[Bool.eq_iff_iff];simp only[zO,decide_eq_true_eq,au,gT,Prod.mk.injEq,true_and,and_true,bu,tJ];grind
theorem aOq{e:Int}(hf:0≤f)(he:0≤e)(hz:e≠0):(if le f 127=true then if le e 4=true then if eqi (zF bs.length) 0=true then if eqi (zF ws.length) 0=true then if eqi p 0=true then some (eqi n 0,()) else some (false,()) else some (false,()) else some (false,()) else some (false,()) else some (false,()):BB)=some (exR (f,e,bs,ws,p,n),()):=by rw[gY gT fun _=>gY gT fun _=>gY au fun _=>gY au fun _=>gY au fun _=>rfl];refine congrArg (fun x=>some (x,())) ?_;unfold exR;rw[Bool.eq_iff_iff];simp only[zO,decide_eq_true_eq,au,Prod.mk.injEq,true_and,bu,tJ];grind[rP]
end
theorem ajO{r:TR}(h:OkR r):afz (r,())=some (nY r,()):=by
 have hf0:=h.f0;have he0:=h.e0;obtain⟨f,e,bs,ws,p,n⟩:=r;dsimp only at hf0 he0;clear h;show afx Ry (f,e,bs,ws,p,n)=_;unfold afx nY;dsimp only;by_cases hz:e=0
 ·subst hz
  have n0:¬ nei (0:Int) 0=true:=by decide
  rw[if_neg n0,if_neg n0];have nf:∀{k:Int},f≠k->eqi f k=false:=fun {k} hk=>by rw[<- Bool.not_eq_true,au];exact hk
  by_cases h1:f=1
  ·subst h1;exact alm (g:=1)
  by_cases h2:f=2
  ·subst h2;exact alm (g:=2)
  by_cases h3:f=3
  ·subst h3;exact JU (g:=3)
  by_cases h4:f=4
  ·subst h4;exact JU (g:=4)
  by_cases h5:f=23
  ·subst h5;exact JU (g:=23)
  by_cases h6:f=5
  ·subst h6;exact ayP
  by_cases h7:f=6
  ·subst h7;exact aA2
  by_cases h8:f=15
  ·subst h8;exact axE
  by_cases h9:f=16
  ·subst h9;exact axE
  simp_all[Ry,arq,afy,afw,Bool.false_eq_true,if_false]
 ·have n1:nei e 0=true:=cu.2 hz
  rw[if_pos n1,if_pos n1];grind[aOq]
theorem asW{x:Int}{o:List Int}(h0:0≤x)(h1:x≤65535)(hl:o.length≤1000):D7 x o=some (o++two x,0,()):=by unfold D7 afG;rw[jv h0 h1 (by omega),zD]
theorem yB{r:TR}(h:OkR r):D8 (r,())=if nY r=true then some (iM r,0,()) else some ([],13,()):=by
 show afH afJ r=_;unfold afH;rw[ajO h,zD]
 cases hr:nY r with
 | false=>rfl
 | true =>
  have hra:=alk h hr;have ha0:=h.at0;have ha1:=h.at1;have hm0:=h.m0;have hm1:=h.m1;have hw:=h.w;rw[if_neg (by decide),if_pos rfl];clear hr h;have K1b:∀(g f:Int) (l:List Bool),l.length≤2000->afJ g true (f,0,l,[],0,0)=some (f::(gH l.length:Int)%256::iL l,0,()):=fun g f l hl=>by show zC (A7 (l,())) (fun y=>need (small (2+y.1.length)) (some (f::zF (y.1.length%256)::y.1,0,())))=_;grind[gH,SE,gZ,pV]
  have K2w:∀(f:Int) (l:List Int),l.length≤200->(∀x∈l,0≤x∧x≤65535)->afI true (f,0,[],l,0,0)=some (Cj (f,0,[],l,0,0),0,()):=fun f l hl hx=>by show zC (x9 (l,[f,cvt .u8 (mul .i64 2 (zF l.length))],())) (fun y=>some (y.1,0,()))=_;rw[kZ (by grind) (by grind),jU,yA hx (by grind),zD];rfl
  cases hra with
  | ex f e h0 h h1 h2 =>
   have n1:nei e 0=true:=by grind[cu]
   unfold iM;dsimp only;rw[if_pos n1,if_pos n1];rfl
  | bits f l hf h1 h2 h3 =>
   rcases hf with rfl | rfl
   ·exact (K1b 1 1 l h2).trans rfl
   ·exact (K1b 2 2 l h2).trans rfl
  | words f l hf h1 h2 =>
   rcases hf with rfl | rfl | rfl
   ·exact (K2w 3 l (by omega) hw).trans rfl
   ·exact (K2w 4 l (by omega) hw).trans rfl
   ·exact (K2w 23 l (by omega) hw).trans rfl
  | coil b p =>
   dsimp only at ha0 ha1;show zC (kD (cvt .i64 p,[5],())) (fun y=>art (cvt .i64 0) b (5,0,[b],[],p,0) y.1)=_;rw[gM (by omega) (by omega),jv ha0 ha1 (by simp),zD]
   cases b with
   | true=>rfl
   | false=>rfl
  | word x p =>
   dsimp only at ha0 ha1 hw;have hx:=hw x (by simp);show zC (kD (cvt .i64 p,[6],())) (fun y=>D7 (cvt .i64 x) y.1)=_;rw[gM (by omega) (by omega),jv ha0 ha1 (by simp),zD,gM (by omega) (by omega)];exact (asW hx.1 hx.2 (by simp[two])).trans rfl
  | coils p n h1 h2 =>
   dsimp only at ha0 ha1 hm0 hm1;show zC (kD (cvt .i64 p,[15],())) (fun y=>D7 (cvt .i64 n) y.1)=_;rw[gM (by omega) (by omega),jv ha0 ha1 (by simp),zD,gM (by omega) (by omega)];exact (asW hm0 hm1 (by simp[two])).trans rfl
  | regs p n h1 h2 =>
   dsimp only at ha0 ha1 hm0 hm1;show zC (kD (cvt .i64 p,[16],())) (fun y=>D7 (cvt .i64 n) y.1)=_;rw[gM (by omega) (by omega),jv ha0 ha1 (by simp),zD,gM (by omega) (by omega)];exact (asW hm0 hm1 (by simp[two])).trans rfl
def atV(b:List Int)(n:Nat):Int:=if n+1<b.length then iY (b.getD n 0) (b.getD (n+1) 0) else 0
theorem wu(b:List Int)(n:Nat):0≤atV b n∧atV b n<65536:=by
 unfold atV;split
 ·exact yw _ _
 simp
theorem Fp{b:List Int}(hb:∀x∈b,0≤x∧x≤255)(hl:b.length≤100000){n:Nat}(hn:n≤100000):sw (b,(n:Int),())=some (atV b n,()):=by
 show aeE b (n:Int)=_;unfold aeE atV;rw[gJ (by omega)];by_cases h:n+1<b.length
 ·have h1:b[n]? = some (b[n]'(by omega)):=zU (by omega)
  have h2:b[n+1]? = some (b[n+1]'h):=zU h;have r1:=hb _ (List.getElem_mem (show n<b.length by omega));have r2:=hb _ (List.getElem_mem h);rw[if_neg (by grind[gU,bu]),if_pos h,d9 h1,zD,d9 h2,zD,zW,zW,h1,h2];grind[iY,Ci,gM,kZ,iF]
 ·rw[if_pos (by grind[gU,bu]),if_neg h]
theorem aPC{u1:List Int->Int->List Bool->Option (As [.sl .bool])}(b:List Int)(i:Int){y:Nat}(hy:y<256){out:List Bool}(ho:out.length≤1000000) :
  Rc u1 b i (y:Int) 0 out=u1 b (add .i64 i 1) (out++(List.range 8).map (kW (y:Int))):=by
 unfold Rc;have e:(List.range 8).foldl (fun o k=>o++[kW (y:Int) k]) out=out++(List.range 8).map (kW (y:Int)):=by rw[kQ (fun k=>[kW (y:Int) k])];rfl
 rw[<- e];refine Eq.trans (congrArg (fun z=>ay _ _ (b,i,z,0,out)) (show (y:Int)=((y / 2 ^ 0:Nat):Int) by simp)) ?_;refine nX (xs:=List.range 8) (stp:=fun o k=>o++[kW (y:Int) k]) (fin:=fun o=>u1 b (add .i64 i 1) o) (mk:=fun k o=>(b,i,((y / 2 ^ k:Nat):Int),(k:Int),o)) (fun k o=>o.length≤out.length+k) ?_ ?_ ?_ 8 0 out _ (by simp) (by omega) (Nat.le_refl out.length)
 ·intro self k o z hz hI
  obtain⟨hk,hv⟩:=List.getElem?_eq_some_iff.1 hz;rw[List.length_range]at hk;rw[List.getElem_range]at hv;subst hv;show aeH _ _ _ b i ((y / 2 ^ k:Nat):Int) (k:Int) o=_;unfold aeH;have hq:quo .i64 ((y / 2 ^ k:Nat):Int) 2=((y / 2 ^ k / 2:Nat):Int):=lW (d:=2) (by have:=Nat.div_le_self y (2 ^ k);omega);have hr:rem ((y / 2 ^ k:Nat):Int) 2=((y / 2 ^ k%2:Nat):Int):=jK (d:=2);have hb:eqi ((y / 2 ^ k%2:Nat):Int) 1=kW (y:Int) k:=by rw[UL (by omega) (by omega) hk];rfl
  rw[if_pos (by grind[cr]),gZ (by omega),hq,hr,hb,gJ (by omega),Nat.div_div_eq_div_mul,<- Nat.pow_succ]
 ·grind
 ·intro self o _
  rfl
theorem SF(y:Int)(r:List Int):jM (y::r)=(List.range 8).map (kW y)++jM r:=by
 unfold jM;rw[show 8*(y::r).length=8+8*r.length by grind,List.range_add,List.map_append,List.map_map]
 congr 1
 simp
theorem CO:∀b:List Int,b.flatMap (fun y=>(List.range 8).map (kW y))=jM b
 | []=>rfl
 | y::r=>by rw[List.flatMap_cons,CO r,SF]
theorem ajP{b:List Int}(hb:∀x∈b,0≤x∧x≤255)(hl:b.length≤100000):aeJ (b,())=some (jM b,()):=by
 show aeI Rf b=_;unfold aeI Rf;have e:b.foldl (fun o y=>o++(List.range 8).map (kW y)) []=jM b:=by rw[kQ (fun y=>(List.range 8).map (kW y)),CO];rfl
 rw[<- e];refine nX (xs:=b) (stp:=fun o y=>o++(List.range 8).map (kW y)) (fin:=fun o=>some (o,())) (mk:=fun i o=>(b,(i:Int),o)) (fun i o=>o.length≤8*i) ?_ ?_ ?_ b.length 0 [] _ (by omega) (by omega) (by simp)
 ·intro self i o y hy hI
  have hi:=(List.getElem?_eq_some_iff.1 hy).1;have hr:=hb y (zX hy);show Rb _ _ b (i:Int) o=_;unfold Rb;obtain⟨n,rfl⟩:=zN hr.1;rw[if_pos (by grind[cr,bu]),d9 hy,zD,gM (by omega) (by omega),aPC b (i:Int) (by omega) (by omega),gJ (by omega)]
 ·grind
 simp_all[Rb,Int,if_neg,cr,bu]
theorem om{b:List Int}(h:b.length≤100000):vF (b,())=some (iC b,()):=by
 show Ll O6 b=_;unfold Ll;have hq:quo .i64 (zF b.length) 2=((b.length / 2:Nat):Int):=lW (d:=2) (by omega);rw[hq,gy (by rfl),gy (oJ _),zP,gZ (by omega),kC];unfold O6 iC;refine (pU (mk:=fun i=>(b,zF (b.length / 2),(i:Int),(List.range i).map (fun i=>iY (b.getD (2*i) 0) (b.getD (2*i+1) 0))++(zE (b.length / 2) (0:Int)).drop i)) (N:=b.length / 2) ?_ ?_ (b.length / 2) 0 _ (by omega) (by omega))
 ·intro self i hi
  show O5 _ b (zF (b.length / 2)) (i:Int) _=_;unfold O5;have hm:mul .i64 2 (i:Int)=((2*i:Nat):Int):=by grind[kZ]
  have h1:b[2*i]? = some (b[2*i]'(by omega)):=zU (by omega);have h2:b[2*i+1]? = some (b[2*i+1]'(by omega)):=zU (by omega);have ho:((List.range i).map (fun i=>iY (b.getD (2*i) 0) (b.getD (2*i+1) 0))++(zE (b.length / 2) (0:Int)).drop i)[i]? = some (((List.range i).map (fun i=>iY (b.getD (2*i) 0) (b.getD (2*i+1) 0))++(zE (b.length / 2) (0:Int)).drop i)[i]'(by grind)):=zU (by grind);rw[if_pos (by grind[cr,bu]),hm,gJ (by omega),d9 h1,d9 h2,d9 ho,gJ (by omega),zP];grind[bor,shl,cvt,iY,Kn]
 simp_all[O5,zF,Nat,Int,if_neg,cr,bu,List.drop_of_length_le,List.append_nil]
theorem ayQ(p x y:Int):qM ((6,p,0,0,[],[]),(0,0,1,false,false),[x,y],())=some ((6,p,0,0,[iY x y],[]),true,()):=by show zC (vF ([x,y],())) (fun z=>some ((6,p,0,0,z.1,[]),true,()))=_;rw[om (by simp),zD,lq];rfl
theorem asX(p k:Int)(l:List Bool)(h1:1≤l.length)(h2:l.length≤1968):qM ((15,p,(l.length:Int),0,[],[]),(1968,1968,0,false,true),k::iL l,())=some ((15,p,(l.length:Int),0,[],l),true,()):=by
 have hlen:=pV l;show (if lt (zF (k::iL l).length) 2=true then _ else zC (cut (k::iL l) 1 (zF (k::iL l).length)) (fun y=>zC (Gv (y,())) fun y=>if lt (zF y.1.length) (cvt .i64 (l.length:Int))=true then some ((0,0,0,0,[],[]),false,()) else zC (cut y.1 0 (l.length:Int)) fun y_1=>need (le (l.length:Int) (l.length:Int)) (need (le (l.length:Int) (zF y.1.length)) (some ((15,p,(l.length:Int),0,[],y_1),true,())))))=_;have hN:1≤gH l.length∧gH l.length≤300:=by grind[gH]
 have hu:l.length≤(jM (iL l)).length:=by grind[pq,pV,gH]
 rw[if_neg (by grind[cr,bu,List.length_cons,pV]),og,zD,Kq (by omega),zD,gM (by omega) (by omega)];simp_all[if_neg,cr,bu,Bp,zD,gy,gT,unpack_pack]
theorem ayR(p n k:Int)(l:List Int)(h:∀x∈l,0≤x∧x≤65535)(h1:1≤l.length)(h2:l.length≤123):qM ((16,p,n,0,[],[]),(123,0,123,false,true),k::l.flatMap two,())=some ((16,p,n,0,l,[]),true,()):=by have hlen:=yu l;show (if lt (zF (k::l.flatMap two).length) 2=true then _ else zC (cut (k::l.flatMap two) 1 (zF (k::l.flatMap two).length)) (fun y=>zC (vF (y,())) fun y=>some ((16,p,n,0,y.1,[]),true,())))=_;rw[if_neg (by grind[cr,bu,List.length_cons]),og,zD,om (by omega),zD,qC h]
theorem ayS(p n t k:Int)(l:List Int)(h:∀x∈l,0≤x∧x≤65535)(h1:1≤l.length)(h2:l.length≤123):qM ((23,p,n,t,[],[]),(125,0,121,true,false),k::l.flatMap two,())=some ((23,p,n,t,l,[]),true,()):=by have hlen:=yu l;show (if lt (zF (k::l.flatMap two).length) 2=true then _ else zC (cut (k::l.flatMap two) 1 (zF (k::l.flatMap two).length)) (fun y=>zC (vF (y,())) fun y=>some ((23,p,n,t,y.1,[]),true,())))=_;rw[if_neg (by grind[cr,bu,List.length_cons]),og,zD,om (by omega),zD,qC h]
theorem qT{f p1 p2 n1 n2:Int}{r:List Int}(hr:r.length≤248){m bb ww:Int}{tt ee:Bool}(hs:shp f=some (m,bb,ww,tt,ee))(hm:gt m 0=true) :
  Af (f::p1::p2::n1::n2::r,())=xK (iY p1 p2::iY n1 n2::iC r) r 0 0 0 0 m bb ww tt ee f (iY p1 p2) (iY n1 n2) 0:=by
 show vG Dl _=_;unfold vG;rw[if_neg (by grind[cr,bu])];have hg:gt (zF (f::p1::p2::n1::n2::r).length) 253=false:=by rw[<- Bool.not_eq_true,iD,bu];grind
 rw[hg];show Ae xK _ false 0 0 0 0=_;unfold Ae;have ec3:cut (f::p1::p2::n1::n2::r) 3 (zF (f::p1::p2::n1::n2::r).length)=some (n1::n2::r):=lH (i:=3) (by simp);have ec5:cut (f::p1::p2::n1::n2::r) 5 (zF (f::p1::p2::n1::n2::r).length)=some r:=lH (i:=5) (by simp);rw[if_neg (by decide),kI,zD,pR,zD];unfold JO;rw[hs];rw[if_neg (by simp),og,zD,om (by grind),zD,zD,lq,lq,kI,zD,ec3,zD];simp_all[Option.getD,if_pos,at_one,zD]
theorem SH{f p1 p2 n1 n2:Int}{bb ww:Int}{tt ee:Bool}(hs:shp f=some (0,bb,ww,tt,ee)) :
  Af ([f,p1,p2,n1,n2],())=xK [iY p1 p2,iY n1 n2] [n1,n2] 0 0 0 0 0 bb ww tt ee f (iY p1 p2) 0 0:=by
 show Ae xK [f,p1,p2,n1,n2] false 0 0 0 0=_;unfold Ae;have ec3:cut [f,p1,p2,n1,n2] 3 (zF [f,p1,p2,n1,n2].length)=some [n1,n2]:=rfl;rw[if_neg (by decide),kI,zD,pR,zD];unfold JO;rw[hs];rw[if_neg (by simp),og,zD,om (by simp),zD,zD,lq,lq,kI,zD,ec3,zD,if_neg (by simp_all[gt])];rfl
theorem ayT{a:TA}(h:OkA a)(hr:jd a=true):Af (jc a,())=some (a,true,()):=by
 have hra:=kM hr;have hp:=kT h.at0 h.at1;have hn:=kT h.m0 h.m1;have ht:=kT h.t0 h.t1;have hw:=h.w;clear hr h
 cases hra with
 | bits f p n hf h1 h2 =>
  dsimp only at hp hn;rcases hf with rfl | rfl
  ·refine (qT (f:=1) (r:=[]) (by simp) (m:=2000) (bb:=0) (ww:=0) (tt:=false) (ee:=false) rfl rfl).trans ?_
   rw[hp,hn];rfl
  ·refine (qT (f:=2) (r:=[]) (by simp) (m:=2000) (bb:=0) (ww:=0) (tt:=false) (ee:=false) rfl rfl).trans ?_
   rw[hp,hn];rfl
 | words f p n hf h1 h2 =>
  dsimp only at hp hn;rcases hf with rfl | rfl
  ·refine (qT (f:=3) (r:=[]) (by simp) (m:=125) (bb:=0) (ww:=0) (tt:=false) (ee:=false) rfl rfl).trans ?_
   rw[hp,hn];rfl
  ·refine (qT (f:=4) (r:=[]) (by simp) (m:=125) (bb:=0) (ww:=0) (tt:=false) (ee:=false) rfl rfl).trans ?_
   rw[hp,hn];rfl
 | coil p b =>
  dsimp only at hp
  cases b with
  | true =>
   refine (SH (f:=5) (n1:=65280 / 256%256) (n2:=65280%256) (bb:=1) (ww:=0) (tt:=false) (ee:=false) rfl).trans ?_;rw[hp];rfl
  | false =>
   refine (SH (f:=5) (n1:=0 / 256%256) (n2:=0%256) (bb:=1) (ww:=0) (tt:=false) (ee:=false) rfl).trans ?_;rw[hp];rfl
 | word p x =>
  dsimp only at hp hw;have hx:=hw x (by simp);refine (SH (f:=6) (n1:=x / 256%256) (n2:=x%256) (bb:=0) (ww:=1) (tt:=false) (ee:=false) rfl).trans ?_;rw[hp];show zC (qM ((6,p,0,0,[],[]),(0,0,1,false,false),[x / 256%256,x%256],())) (fun y=>some (y.1,y.2.1,()))=_;grind[ayQ,kT]
 | coils p l h1 h2 =>
  dsimp only at hp hn;have hN:gH l.length≤247:=by grind[gH]
  refine (qT (f:=15) (r:=(gH l.length:Int)::iL l) (by grind[List.length_cons,pV]) (m:=1968) (bb:=1968) (ww:=0) (tt:=false) (ee:=true) rfl rfl).trans ?_;rw[hp,hn];show zC (qM ((15,p,(l.length:Int),0,[],[]),(1968,1968,0,false,true),(gH l.length:Int)::iL l,())) (fun y=>some (y.1,y.2.1,()))=_;grind[asX]
 | regs p l h1 h2 =>
  dsimp only at hp hn hw;refine (qT (f:=16) (r:=2*(l.length:Int)::l.flatMap two) (by grind[List.length_cons,yu]) (m:=123) (bb:=0) (ww:=123) (tt:=false) (ee:=true) rfl rfl).trans ?_;rw[hp,hn];show zC (qM ((16,p,(l.length:Int),0,[],[]),(123,0,123,false,true),2*(l.length:Int)::l.flatMap two,())) (fun y=>some (y.1,y.2.1,()))=_;grind[ayR]
 | swap p n t l h1 h2 h3 h4 =>
  dsimp only at hp hn ht hw;refine (qT (f:=23) (r:=t / 256%256::t%256::(l.length:Int) / 256%256::(l.length:Int)%256::2*(l.length:Int)::l.flatMap two) (by grind[List.length_cons,yu]) (m:=125) (bb:=0) (ww:=121) (tt:=true) (ee:=false) rfl rfl).trans ?_;rw[hp,hn,lq,ht];show (if lt (zF (t / 256%256::t%256::(l.length:Int) / 256%256::(l.length:Int)%256::2*(l.length:Int)::l.flatMap two).length) 4=true then some ((0,0,0,0,[],[]),false,()) else zC (cut (t / 256%256::t%256::(l.length:Int) / 256%256::(l.length:Int)%256::2*(l.length:Int)::l.flatMap two) 4 (zF (t / 256%256::t%256::(l.length:Int) / 256%256::(l.length:Int)%256::2*(l.length:Int)::l.flatMap two).length)) (fun y_1=>zC (qM ((23,p,n,t,[],[]),(125,0,121,true,false),y_1,())) (fun y=>some (y.1,y.2.1,()))))=_;have ec:cut (t / 256%256::t%256::(l.length:Int) / 256%256::(l.length:Int)%256::2*(l.length:Int)::l.flatMap two) 4 (zF (t / 256%256::t%256::(l.length:Int) / 256%256::(l.length:Int)%256::2*(l.length:Int)::l.flatMap two).length)=some (2*(l.length:Int)::l.flatMap two):=lH (i:=4) (by simp);rw[if_neg (by grind[cr,bu,List.length_cons]),ec,zD,ayS p n t _ l hw h1 (by omega),zD]
theorem aln{a:TA}(h:OkA a)(hr:jd a=true):Gx (jc a,())=some (a,0,()):=by
 show Gw Ya (jc a)=_;unfold Gw;have e:oQ (jc a,jc a,())=some (true,()):=by show some (eqs (toS (jc a)) (toS (jc a)),())=_;rw[JM.2 rfl]
 rw[ayT h hr,zD,if_neg (by simp),ajL h,if_pos hr,zD,if_neg (by simp_all[nei])];dsimp only;rw[e];rfl
theorem yC{c:Bool}{w:Option (List Int×Unit)}{x:List Int}(hw:c=true->w=some (x,())) :
  (if c=true then zC w fun y=>(some (y.1,0,()):Option (As [.sl (.int .u8),.int .i64])) else some ([],13,()))=if c=true then some (x,0,()) else some ([],13,()):=by
 simp_all
abbrev RB:=Option (As [.sl (.int .u8),.int .i64])
theorem ni{c:Bool}{A B:RB}{ra rb:Bool}{xa xb:List Int}(h1:A=if ra=true then some (xa,0,()) else some ([],13,()))(h2:B=if rb=true then some (xb,0,()) else some ([],13,())) :
  (if c=true then A else B)=if (if c=true then ra else rb)=true then some ((if c=true then xa else xb),0,()) else some ([],13,()):=by
 grind
theorem alo{r:TR}(h:SmR r):DR (r,())=if nY r=true then some (iM r,0,()) else some ([],13,()):=by show apY r=_;unfold apY nY iM;rw[aAT h,ayJ h,asQ h,aAU h,aAV h,ale h,ale h];simp only[zD];have wex:=yC (c:=exR r) (fun _=>aAW r);have wbit:=yC (c:=uw r) (fun _=>ayK h);have wword:=yC (c:=pI r) (fun _=>asR h);have wob:=yC (c:=obR r) (fun hc=>aAX hc);have wow:=yC (c:=owR r) (fun hc=>aAY hc);have wc1:=yC (c:=ctR 1968 r) (fun _=>alf 1968 r);have wc2:=yC (c:=ctR 123 r) (fun _=>alf 123 r);exact ni wex (ni wbit (ni wbit (ni wword (ni wword (ni wword (ni wob (ni wow (ni wc1 (ni wc2 rfl)))))))))
theorem p9(b:List Int):∀x∈iC b,0≤x∧x≤65535:=by intro x hx;unfold iC at hx;obtain⟨i,_,rfl⟩:=List.mem_map.1 hx;have:=yw (b.getD (2*i) 0) (b.getD (2*i+1) 0);omega
theorem TX{f p n t:Int}(hf:0≤f∧f≤255)(hp:0≤p∧p≤65535)(hn:0≤n∧n≤65535)(ht:0≤t∧t≤65535)(s:Int×Int×Int×Bool×Bool){rest:List Int}(hl:rest.length≤300) :
  ∃(a:TA) (ok:Bool),qM ((f,p,n,t,[],[]),s,rest,())=some (a,ok,())∧(ok=true->OkA a):=by
 have mkw:∀l:List Int,(∀x∈l,0≤x∧x≤65535)->l.length≤100000->OkA (f,p,n,t,l,[]):=fun l h1 h2=>⟨hf.1,hf.2,hp.1,hp.2,hn.1,hn.2,ht.1,ht.2,h1,h2,Nat.zero_le _⟩;have mkb:∀l:List Bool,l.length≤100000->OkA (f,p,n,t,[],l):=fun l h2=>⟨hf.1,hf.2,hp.1,hp.2,hn.1,hn.2,ht.1,ht.2,(fun x hx=>by cases hx),Nat.zero_le _,h2⟩;show ∃(a:TA) (ok:Bool),XU XW (f,p,n,t,[],[]) s rest=_∧_;unfold XU;dsimp only;by_cases h1:eqi (add .i64 s.2.1 s.2.2.1) 0=true
 ·simp_all
 ·rw[if_neg h1]
  by_cases h2:rest.length<2
  ·rw[if_pos (by grind[cr,bu])]
   simp
  ·rw[if_neg (by grind[cr,bu])]
   by_cases h5:eqi f 5=true
   ·rw[if_pos h5]
    match rest,h2 with
    | y::r,_ =>
     rw[kI,zD];exact⟨_,_,rfl,fun _=>mkb [nei y 0] (by simp)⟩
    | [],h2=>simp_all
   ·rw[if_neg h5]
    by_cases h6:eqi f 6=true
    ·rw[if_pos h6,om (by omega),zD]
     exact⟨_,_,rfl,fun _=>mkw _ (p9 _) (by grind[nZ])⟩
    ·rw[if_neg h6]
     match rest,h2 with
     | [],h2=>simp_all
     | y::r,_ =>
      have hr:r.length≤300:=by grind
      by_cases hb:gt s.2.1 0=true
      ·rw[if_pos hb,og,zD,Kq (by omega),zD]
       dsimp only;rw[gM (by omega) (by omega)];by_cases hlt:lt (zF (jM r).length) n=true
       ·simp_all
       ·rw[if_neg hlt]
        rw[cr,bu,pq]at hlt;obtain⟨k,rfl⟩:=zN hn.1;rw[Bp (by grind[pq]),zD,gy (by grind[gT]),gy (by grind[gT,bu,pq])];exact⟨_,_,rfl,fun _=>mkb _ (by grind)⟩
      ·rw[if_neg hb,og,zD,om (by omega),zD]
       exact⟨_,_,rfl,fun _=>mkw _ (p9 _) (by grind[nZ])⟩
theorem ayU{b:List Int}(h:5≤b.length):∃f p1 p2 n1 n2 r,b=f::p1::p2::n1::n2::r:=by
 match b,h with
 | f::p1::p2::n1::n2::r,_=>simp
theorem alp{b:List Int}(hb:∀x∈b,0≤x∧x≤255):∃(a:TA) (ok:Bool),Af (b,())=some (a,ok,())∧(ok=true->OkA a):=by
 have bad:Dl b true 0 0 0 0=some ((0,0,0,0,[],[]),false,()):=rfl;by_cases h5:b.length<5
 ·refine⟨(0,0,0,0,[],[]),false,?_,fun e=>by cases e⟩
  show vG Dl b=_;unfold vG;rw[if_pos (by grind[cr,bu])];rfl
 ·by_cases h253:253<b.length
  ·refine⟨(0,0,0,0,[],[]),false,?_,fun e=>by cases e⟩
   show vG Dl b=_;unfold vG;rw[if_neg (by grind[cr,bu]),show gt (zF b.length) 253=true from iD.2 (by grind)];rfl
  ·obtain⟨f,p1,p2,n1,n2,r,rfl⟩:=ayU (b:=b) (by omega)
   have hf:0≤f∧f≤255:=hb f (by simp);have hr:r.length≤248:=by simp_all
   have hg:gt (zF (f::p1::p2::n1::n2::r).length) 253=false:=by rw[<- Bool.not_eq_true,iD,bu];omega
   have hm0:Af (f::p1::p2::n1::n2::r,())=Ae xK (f::p1::p2::n1::n2::r) false 0 0 0 0:=by show vG Dl _=_;unfold vG;rw[if_neg (by grind[cr,bu]),hg];rfl
   have ec3:cut (f::p1::p2::n1::n2::r) 3 (zF (f::p1::p2::n1::n2::r).length)=some (n1::n2::r):=lH (i:=3) (by simp);have ec5:cut (f::p1::p2::n1::n2::r) 5 (zF (f::p1::p2::n1::n2::r).length)=some r:=lH (i:=5) (by simp);have nn:∀x y,0≤iY x y∧iY x y≤65535:=fun x y=>by have:=yw x y;omega
   have tail:∀(l rest:List Int) (s:Int×Int×Int×Bool×Bool) (n:Int),(∃q,l=iY p1 p2::iY n1 n2::q∧(4≤rest.length->q ≠ []∧∀x∈q,0≤x∧x≤65535))->rest.length≤300->(0≤n∧n≤65535) ->
     ∃(a:TA) (ok:Bool),xK l rest 0 0 0 0 s.1 s.2.1 s.2.2.1 s.2.2.2.1 s.2.2.2.2 f (iY p1 p2) n 0=some (a,ok,())∧(ok=true->OkA a):=by
    rintro l rest s n ⟨q,rfl,hq⟩ hrl hn;have k3:∀(rest:List Int) (t:Int),rest.length≤300->(0≤t∧t≤65535)->∃(a:TA) (ok:Bool),X6 rest 0 0 0 0 s.1 s.2.1 s.2.2.1 s.2.2.2.1 s.2.2.2.2 f (iY p1 p2) n t=some (a,ok,())∧(ok=true->OkA a):=fun rest t h1 h2=>by obtain⟨a,ok,e1,e2⟩:=TX hf (nn p1 p2) hn h2 s h1;refine⟨a,ok,?_,e2⟩;show zC (qM ((f,iY p1 p2,n,t,[],[]),s,rest,())) _=_;simp_all
    unfold xK X5;by_cases ht:s.2.2.2.1=true
    ·rw[if_pos ht]
     by_cases h4:rest.length<4
     ·rw[if_pos (by grind[cr,bu])]
      simp
     ·rw[if_neg (by grind[cr,bu])]
      obtain⟨hq1,hq2⟩:=hq (by omega)
      match q,hq1,hq2 with
      | z::q,_,hq2 =>
       have hat:at? (iY p1 p2::iY n1 n2::z::q) 2=some z:=rfl;rw[hat,zD];have hc:cut rest 4 (zF rest.length)=some (rest.drop 4):=lH (i:=4) (by omega);rw[hc,zD];exact k3 _ z (by grind) (hq2 z (by simp))
      | [],hq1,_=>simp_all
    simp_all
   rw[hm0];unfold Ae;rw[if_neg (by decide),kI,zD,pR,zD]
   cases hs:shp f with
   | none=>simp
   | some s =>
    dsimp only;rw[if_neg (by simp),og,zD,om (by grind),zD,zD,lq,lq,kI,zD,ec3,zD];have hsd:JO f=s:=by grind[JO]
    rw[hsd];have hq4:4≤r.length->iC r ≠ []∧∀x∈iC r,0≤x∧x≤65535:=fun h=>⟨fun e=>by grind[nZ],p9 r⟩;by_cases hm:gt s.1 0=true
    ·rw[if_pos hm,at_one,zD,ec5,zD]
     exact tail _ r s _ ⟨iC r,rfl,hq4⟩ (by omega) (nn n1 n2)
    ·rw[if_neg hm]
     by_cases h4:4≤(n1::n2::r).length
     ·refine tail _ (n1::n2::r) s 0 ⟨iC r,rfl,fun _=>?_⟩ (by grind) ⟨by decide,by decide⟩
      refine⟨fun e=>?_,p9 r⟩;grind[nZ]
     ·exact tail _ (n1::n2::r) s 0 ⟨iC r,rfl,fun h=>absurd h h4⟩ (by omega) ⟨by decide,by decide⟩
theorem Fq{b:List Int}(hb:∀x∈b,0≤x∧x≤255):∃(a:TA) (e:Int),Gx (b,())=some (a,e,())∧((e=0∧OkA a∧jd a=true∧toS (jc a)=toS b)∨e=12):=by
 obtain⟨a,ok,h1,h2⟩:=alp hb;show ∃(a':TA) (e:Int),Gw Ya b=some (a',e,())∧_;unfold Gw;rw[h1,zD]
 cases ok with
 | false=>exact⟨_,_,rfl,.inr rfl⟩
 | true =>
  have ha:=h2 rfl;dsimp only;rw[if_neg (by decide),ajL ha]
  cases hr:jd a with
  | false=>exact⟨_,_,rfl,.inr rfl⟩
  | true =>
   rw[if_pos rfl,zD,if_neg (show ¬ nei 0 0=true by decide)];dsimp only;have e:oQ (jc a,b,())=some (eqs (toS (jc a)) (toS b),()):=rfl;rw[e,zD]
   cases he:eqs (toS (jc a)) (toS b) with
   | false=>exact⟨_,_,rfl,.inr rfl⟩
   | true=>exact⟨a,0,rfl,.inl ⟨rfl,ha,hr,JM.1 he⟩⟩
theorem asY{f:Int}{b:List Int}(hb:∀x∈f::b,0≤x∧x≤255):∃(a:TA) (e:Int),xL (f::b,())=some (a,e,())∧((e=0∧OkA a∧jd a=true∧toS (jc a)=toS (f::b))∨((e=1∨e=3)∧a=(f,0,0,0,[],[]))):=by
 obtain⟨a,e,h1,h2⟩:=Fq hb;show ∃(a':TA) (e:Int),O9 (f::b)=some (a',e,())∧_;unfold O9;rw[if_neg (by grind[au,bu,List.length_cons]),h1,zD];dsimp only;rcases h2 with ⟨rfl,ha⟩ | rfl
 ·exact⟨a,0,rfl,.inl ⟨rfl,ha⟩⟩
 ·rw[if_neg (by decide),kI,zD,zD,pR,zD]
  grind
@[reducible] def zP0:Type:=(List Int)×(Int)×(Int)×(Int)×(Int)×(Int)×(Int)×(Int)×(Int)×(Int)×(Int)×(List Int)×(List Bool)->Option (As [.pr (.int .u8) (.pr (.int .u16) (.pr (.int .u16) (.pr (.int .u16) (.pr (.sl (.int .u16)) (.sl .bool))))),.int .i64])
def asZ :=(fun (self:zP0) (s:(List Int)×(Int)×(Int)×(Int)×(Int)×(Int)×(Int)×(Int)×(Int)×(Int)×(Int)×(List Int)×(List Bool))=>II (IP (fun b first i t2 t2_2 t2_3 t2_4 a a_2 a_3 a_4 o o_2=>self (b,first,i,t2,t2_2,t2_3,t2_4,a,a_2,a_3,a_4,o,o_2))) (fun b first i t2 t2_2 t2_3 t2_4 a a_2 a_3 a_4 o o_2=>self (b,first,i,t2,t2_2,t2_3,t2_4,a,a_2,a_3,a_4,o,o_2)) s.1 s.2.1 s.2.2.1 s.2.2.2.1 s.2.2.2.2.1 s.2.2.2.2.2.1 s.2.2.2.2.2.2.1 s.2.2.2.2.2.2.2.1 s.2.2.2.2.2.2.2.2.1 s.2.2.2.2.2.2.2.2.2.1 s.2.2.2.2.2.2.2.2.2.2.1 s.2.2.2.2.2.2.2.2.2.2.2.1 s.2.2.2.2.2.2.2.2.2.2.2.2)
theorem axF  (self:zP0)(b:List Int)(first:Int)(i:Int)(t2:Int)(t2_2:Int)(t2_3:Int)(t2_4:Int)(a:Int)(a_2:Int)(a_3:Int)(a_4:Int)(o:List Int)(o_2:List Bool):asZ self (b,first,i,t2,t2_2,t2_3,t2_4,a,a_2,a_3,a_4,o,o_2)=II (IP (fun b first i t2 t2_2 t2_3 t2_4 a a_2 a_3 a_4 o o_2=>self (b,first,i,t2,t2_2,t2_3,t2_4,a,a_2,a_3,a_4,o,o_2))) (fun b first i t2 t2_2 t2_3 t2_4 a a_2 a_3 a_4 o o_2=>self (b,first,i,t2,t2_2,t2_3,t2_4,a,a_2,a_3,a_4,o,o_2)) b first i t2 t2_2 t2_3 t2_4 a a_2 a_3 a_4 o o_2:=rfl
theorem aOr  (b:List Int)(first:Int)(i:Int)(t2:Int)(t2_2:Int)(t2_3:Int)(t2_4:Int)(a:Int)(a_2:Int)(a_3:Int)(a_4:Int)(o:List Int)(o_2:List Bool):IQ b first i t2 t2_2 t2_3 t2_4 a a_2 a_3 a_4 o o_2=ay (asZ) 18446744073709551616 (b,first,i,t2,t2_2,t2_3,t2_4,a,a_2,a_3,a_4,o,o_2):=rfl
@[reducible] def zP1:Type:=(List Int)×(Int)×(Int)×(Int)×(Int)×(Int)×(Int)×(Int)×(Int)×(Int)×(List Int)×(List Bool)->Option (As [.pr (.int .u8) (.pr (.int .u16) (.pr (.int .u16) (.pr (.int .u16) (.pr (.sl (.int .u16)) (.sl .bool))))),.int .i64])
def axG :=(fun (self:zP1) (s:(List Int)×(Int)×(Int)×(Int)×(Int)×(Int)×(Int)×(Int)×(Int)×(Int)×(List Int)×(List Bool))=>IJ (uk) (fun b i t2 t2_2 t2_3 t2_4 a a_2 a_3 a_4 o o_2=>self (b,i,t2,t2_2,t2_3,t2_4,a,a_2,a_3,a_4,o,o_2)) s.1 s.2.1 s.2.2.1 s.2.2.2.1 s.2.2.2.2.1 s.2.2.2.2.2.1 s.2.2.2.2.2.2.1 s.2.2.2.2.2.2.2.1 s.2.2.2.2.2.2.2.2.1 s.2.2.2.2.2.2.2.2.2.1 s.2.2.2.2.2.2.2.2.2.2.1 s.2.2.2.2.2.2.2.2.2.2.2)
theorem axH  (self:zP1)(b:List Int)(i:Int)(t2:Int)(t2_2:Int)(t2_3:Int)(t2_4:Int)(a:Int)(a_2:Int)(a_3:Int)(a_4:Int)(o:List Int)(o_2:List Bool):axG self (b,i,t2,t2_2,t2_3,t2_4,a,a_2,a_3,a_4,o,o_2)=IJ (uk) (fun b i t2 t2_2 t2_3 t2_4 a a_2 a_3 a_4 o o_2=>self (b,i,t2,t2_2,t2_3,t2_4,a,a_2,a_3,a_4,o,o_2)) b i t2 t2_2 t2_3 t2_4 a a_2 a_3 a_4 o o_2:=rfl
theorem aOs  (b:List Int)(i:Int)(t2:Int)(t2_2:Int)(t2_3:Int)(t2_4:Int)(a:Int)(a_2:Int)(a_3:Int)(a_4:Int)(o:List Int)(o_2:List Bool):IL b i t2 t2_2 t2_3 t2_4 a a_2 a_3 a_4 o o_2=ay (axG) 18446744073709551616 (b,i,t2,t2_2,t2_3,t2_4,a,a_2,a_3,a_4,o,o_2):=rfl
theorem MR(b:List Int)(n:Nat):cvt .u16 (atV b n)=atV b n:=by simp_all[wu,oI,Int.emod_eq_of_lt]
def kE(b:List Int)(f:Int):TA :=
 if f=5 then (f,atV b 1,0,0,[],[eqi (atV b 3) 65280])
 else if f=6 then (f,atV b 1,0,0,[atV b 3],[])
 else if f=15 then (f,atV b 1,atV b 3,0,[],(jM (b.drop 6)).take (atV b 3).toNat)
 else if f=16 then (f,atV b 1,atV b 3,0,iC (b.drop 6),[])
 else if f=23 then (f,atV b 1,atV b 3,atV b 5,iC (b.drop 10),[])
 else (f,atV b 1,atV b 3,0,[],[])
theorem SI{b:List Int}(hb:∀x∈b,0≤x∧x≤255)(hl:b.length≤10000){f:Int}(hf:0≤f∧f≤255):OkA (kE b f):=by
 have r1:=wu b 1;have r3:=wu b 3;have r5:=wu b 5;have nilw:∀x∈([]:List Int),0≤x∧x≤65535:=fun x hx=>by cases hx
 unfold kE;split
 ·exact⟨hf.1,hf.2,r1.1,by grind,(by decide:(0:Int)≤0),(by decide:(0:Int)≤65535),(by decide:(0:Int)≤0),(by decide:(0:Int)≤65535),nilw,Nat.zero_le _,by simp⟩
 ·split
  ·exact⟨hf.1,hf.2,r1.1,by grind,(by decide:(0:Int)≤0),(by decide:(0:Int)≤65535),(by decide:(0:Int)≤0),(by decide:(0:Int)≤65535),fun x hx=>by grind,by simp,Nat.zero_le _⟩
  ·split
   ·exact⟨hf.1,hf.2,r1.1,by grind,r3.1,by grind,(by decide:(0:Int)≤0),(by decide:(0:Int)≤65535),nilw,Nat.zero_le _,by grind⟩
   ·split
    ·exact⟨hf.1,hf.2,r1.1,by grind,r3.1,by grind,(by decide:(0:Int)≤0),(by decide:(0:Int)≤65535),p9 _,by grind[iC,nZ,List.length_drop],Nat.zero_le _⟩
    ·split
     ·exact⟨hf.1,hf.2,r1.1,by grind,r3.1,by grind,r5.1,by grind,p9 _,by grind[iC,nZ,List.length_drop],Nat.zero_le _⟩
     ·exact⟨hf.1,hf.2,r1.1,by grind,r3.1,by grind,(by decide:(0:Int)≤0),(by decide:(0:Int)≤65535),nilw,Nat.zero_le _,Nat.zero_le _⟩
def zTA:TA:=(0,0,0,0,[],[])
def SK(b:List Int)(a:TA):Option (TA×Int×Unit):=if jd a=true∧toS (jc a)=toS b then some (a,0,()) else some (zTA,12,())
theorem JV{b:List Int}{a1 a2 a3 a4:Int}{a5:List Int}{a6:List Bool}(ha:OkA (a1,a2,a3,a4,a5,a6)):uk b 0 0 0 0 a1 a2 a3 a4 a5 a6=SK b (a1,a2,a3,a4,a5,a6):=by
 unfold uk ark SK;rw[TW ha]
 cases hr:jd (a1,a2,a3,a4,a5,a6) with
 | false =>
  rfl
 | true =>
  rw[if_pos rfl,zD,if_neg (show ¬ nei 0 0=true by decide)];by_cases he:toS (jc (a1,a2,a3,a4,a5,a6))=toS b
  ·rw[if_pos ⟨rfl,he⟩]
   have:nes (toS (jc (a1,a2,a3,a4,a5,a6))) (toS b)=false:=by simp_all[Bool.eq_false_iff,UH]
   dsimp only;rw[this];rfl
  ·rw[if_neg (fun e=>he e.2)]
   have:nes (toS (jc (a1,a2,a3,a4,a5,a6))) (toS b)=true:=UH.2 he;dsimp only;rw[this];rfl
theorem alq{d:List Int}{k:Nat}(h:2*k+1<d.length):(iC d)[k]? = some (iY (d.getD (2*k) 0) (d.getD (2*k+1) 0)):=by grind[iC,List.getElem?_range]
theorem aA3{b:List Int}(hb:∀x∈b,0≤x∧x≤255)(hl:b.length≤10000)(first:Nat)(hf:first≤100)(a1 a2 a3 a4:Int):IL b (first:Int) 0 0 0 0 a1 a2 a3 a4 [] []=uk b 0 0 0 0 a1 a2 a3 a4 (iC (b.drop first)) []:=by
 have hlen:(iC (b.drop first)).length=(b.length - first) / 2:=by rw[nZ,List.length_drop]
 rw[aOs];have e0:([]:List Int)=(iC (b.drop first)).take 0:=rfl;rw[show ((first:Nat):Int)=((first+2*0:Nat):Int) from rfl]
 conv=>lhs;arg 3;rw[e0]
 refine jV (N:=(b.length - first) / 2) (mk:=fun k=>(b,((first+2*k:Nat):Int),0,0,0,0,a1,a2,a3,a4,(iC (b.drop first)).take k,[])) ?_ ?_ ((b.length - first) / 2) 0 _ (by omega) (by omega)
 ·intro self k hk
  rw[axH];unfold IJ;rw[gJ (by omega),if_pos (by grind[cr,bu]),Fp hb (by omega) (by omega),zD];dsimp only;rw[MR,gZ (by grind)];have h2:add .i64 ((first+2*k:Nat):Int) 2=((first+2*(k+1):Nat):Int):=by grind[iF]
  have hg:(iC (b.drop first))[k]? = some (atV b (first+2*k)):=by rw[alq (by grind)];unfold atV;grind
  simp_all[iC,atV,zV,List.take_succ_eq_append_getElem]
 ·intro self
  rw[axH];unfold IJ;rw[gJ (by omega),if_neg (by grind[cr,bu]),<- hlen,List.take_length]
theorem aPD{b:List Int}(hb:∀x∈b,0≤x∧x≤255)(hl:b.length≤10000)(a2:Int)(n:Nat)(hn:n≤65535):IQ b 6 0 0 0 0 0 15 a2 (n:Int) 0 [] []=uk b 0 0 0 0 15 a2 (n:Int) 0 [] ((jM (b.drop 6)).take n):=by
 have hlen:(jM (b.drop 6)).length=8*(b.length - 6):=by rw[pq,List.length_drop]
 have K5:∀o,Rt b 6 0 0 0 0 15 a2 (n:Int) 0 [] o=uk b 0 0 0 0 15 a2 (n:Int) 0 [] o:=fun o=>rfl;rw[aOr];have e0:([]:List Bool)=(jM (b.drop 6)).take 0:=rfl;show ay asZ 18446744073709551616 (b,6,((0:Nat):Int),0,0,0,0,15,a2,(n:Int),0,[],(jM (b.drop 6)).take 0)=_;refine jV (N:=min n (8*(b.length - 6))) (mk:=fun k=>(b,6,(k:Int),0,0,0,0,15,a2,(n:Int),0,[],(jM (b.drop 6)).take k)) ?_ ?_ (min n (8*(b.length - 6))) 0 _ (by omega) (by omega)
 ·intro self k hk
  have hkn:k<n:=by omega
  have hq:quo .i64 (k:Int) 8=((k / 8:Nat):Int):=lW (d:=8) (by omega);have hr:rem (k:Int) 8=((k%8:Nat):Int):=jK (d:=8);have ha:add .i64 6 ((k / 8:Nat):Int)=((6+k / 8:Nat):Int):=by grind[iF]
  have hi:6+k / 8<b.length:=by omega
  have hg:=zU hi;rw[axF];unfold II;rw[gM (by omega) (by omega),if_pos (by grind[cr]),hq,ha,show lt ((6+k / 8:Nat):Int) (zF b.length)=true from cr.2 (by grind)];unfold IP afm;have hc:cut b ((6+k / 8:Nat):Int) ((6+k / 8+1:Nat):Int)=some [b[6+k / 8]]:=by rw[tH (by omega) (by omega),List.take_succ_eq_append_getElem hi,List.drop_append_of_le_length (by grind),List.drop_of_length_le (by grind),List.nil_append]
  have hu:(jM [b[6+k / 8]])[k%8]? = some (kW b[6+k / 8] (k%8)):=by grind[jM,List.getElem?_range,kW]
  rw[if_pos rfl,hq,ha,gJ (by omega),hc,zD,ajP (fun x hx=>by simp_all) (by simp),zD,hr,d9 hu,zD,gZ (by grind),gJ (by omega)];grind[jM,kW,List.getElem?_range,List.length_drop,zV,List.take_succ_eq_append_getElem]
 ·intro self
  have hq:quo .i64 ((min n (8*(b.length - 6)):Nat):Int) 8=((min n (8*(b.length - 6)) / 8:Nat):Int):=lW (d:=8) (by omega);have hfin:(jM (b.drop 6)).take (min n (8*(b.length - 6)))=(jM (b.drop 6)).take n:=by simp_all
  rw[axF];unfold II;rw[gM (by omega) (by omega),hfin];by_cases h:min n (8*(b.length - 6))<n
  ·rw[if_pos (by grind[cr]),hq,iF (by omega) (by omega),show lt (6+((min n (8*(b.length - 6)) / 8:Nat):Int)) (zF b.length)=false from decide_eq_false (by grind)]
   rfl
  simp_all[if_neg,cr,IP,afm]
theorem Ku{f:Int}{b:List Int}(hb:∀x∈f::b,0≤x∧x≤255)(hl:(f::b).length≤10000)(h5:5≤(f::b).length):IV (f::b,())=SK (f::b) (kE (f::b) f):=by
 have hf:=hb f (by simp);have hok:=SI hb hl hf;show IK Ru (f::b)=_;unfold IK;rw[if_neg (by grind[cr,bu]),kI,zD,vN (eqAs_refl _),show (1:Int)=((1:Nat):Int) from rfl,Fp hb (by omega) (by decide),zD];dsimp only;rw[MR];have h3:sw (f::b,3,())=some (atV (f::b) 3,()):=Fp hb (by omega) (by decide) (n:=3);have h5:sw (f::b,5,())=some (atV (f::b) 5,()):=Fp hb (by omega) (by decide) (n:=5);generalize hB:f::b=B at *;unfold Ru ari;rw[h3];simp only[zD,MR]
 have K5n:∀first a2 a3 a4 o o2,IU B first 0 0 0 0 f a2 a3 a4 o o2=if f=15 then IQ B first 0 0 0 0 0 f a2 a3 a4 o o2 else if f=16∨f=23 then IL B first 0 0 0 0 f a2 a3 a4 o o2 else uk B 0 0 0 0 f a2 a3 a4 o o2:=fun first a2 a3 a4 o o2=>by
  unfold IU afk;by_cases h15:f=15
  ·simp_all[if_pos,au]
  ·rw[if_neg (fun e=>h15 (au.1 e)),if_neg h15]
   unfold Rt afl;by_cases h16:f=16
   ·rw[if_pos (au.2 h16),if_pos (.inl h16)]
    rfl
   simp_all[if_neg,au,afn,arj,if_pos]
 have K2n:∀a2 a3 o o2,afo B 6 0 0 0 0 f a2 a3 0 o o2=if f=23 then IU B 10 0 0 0 0 f a2 a3 (atV B 5) o o2 else IU B 6 0 0 0 0 f a2 a3 0 o o2:=fun a2 a3 o o2=>by simp_all[afo,afj,zD,MR,au]
 simp only[K2n,K5n];have r3:=wu B 3;by_cases c5:f=5
 ·simp_all[kE,atV,eqi,if_pos,au,if_neg,JV]
 ·rw[if_neg (fun e=>c5 (au.1 e))]
  by_cases c6:f=6
  ·simp_all[kE,atV,if_neg,if_pos,au,JV]
  ·rw[if_neg (fun e=>c6 (au.1 e))]
   by_cases c15:f=15
   ·have hc:kE B f=(f,atV B 1,atV B 3,0,[],(jM (B.drop 6)).take (atV B 3).toNat):=by simp_all[kE,if_neg,if_pos]
    rw[hc]at hok ⊢;obtain⟨n,hn⟩:=zN r3.1;rw[hn,zP]at hok ⊢;rw[if_neg (by omega),if_pos c15];grind[aPD,JV]
   ·by_cases c16:f=16
    ·have hc:kE B f=(f,atV B 1,atV B 3,0,iC (B.drop 6),[]):=by simp_all[kE,if_neg,if_pos]
     rw[hc]at hok ⊢;rw[if_neg (by omega),if_neg c15,if_pos (.inl c16),show (6:Int)=((6:Nat):Int) from rfl,aA3 hb hl 6 (by decide),JV hok]
    ·by_cases c23:f=23
     ·have hc:kE B f=(f,atV B 1,atV B 3,atV B 5,iC (B.drop 10),[]):=by simp_all[kE,if_neg,if_pos]
      rw[hc]at hok ⊢;rw[if_pos c23,if_neg c15,if_pos (.inr c23),show (10:Int)=((10:Nat):Int) from rfl,aA3 hb hl 10 (by decide),JV hok]
     simp_all[kE,atV,if_neg,JV]
theorem Eo(f x1 x2:Int)(r:List Int):atV (f::x1::x2::r) 1=iY x1 x2:=by rfl
theorem Ep(f x1 x2 y1 y2:Int)(r:List Int):atV (f::x1::x2::y1::y2::r) 3=iY y1 y2:=by rfl
theorem aPE(f x1 x2 y1 y2 z1 z2:Int)(r:List Int):atV (f::x1::x2::y1::y2::z1::z2::r) 5=iY z1 z2:=by rfl
theorem alr{a:TA}(h:OkA a)(hr:jd a=true):kE (jc a) a.1=a:=by
 have hw:=h.w;have p:=kT h.at0 h.at1;have n:=kT h.m0 h.m1;have t:=kT h.t0 h.t1
 cases kM hr with
 | bits f q m hf h1 h2 =>
  have e:jc (f,q,m,0,[],[])=f::q / 256%256::q%256::m / 256%256::m%256::[]:=by rcases hf with rfl | rfl<;>rfl
  rw[e];have c:∀b,kE b f=(f,atV b 1,atV b 3,0,[],[]):=fun b=>by rcases hf with rfl | rfl<;>rfl
  dsimp only at p n ⊢;rw[c,Eo,Ep,p,n]
 | words f q m hf h1 h2 =>
  have e:jc (f,q,m,0,[],[])=f::q / 256%256::q%256::m / 256%256::m%256::[]:=by rcases hf with rfl | rfl<;>rfl
  rw[e];have c:∀b,kE b f=(f,atV b 1,atV b 3,0,[],[]):=fun b=>by rcases hf with rfl | rfl<;>rfl
  dsimp only at p n ⊢;rw[c,Eo,Ep,p,n]
 | coil q b =>
  have e:jc (5,q,0,0,[],[b])=5::q / 256%256::q%256::(if b=true then 65280 else 0) / 256%256::(if b=true then 65280 else 0)%256::[]:=rfl;rw[e];have c:∀B,kE B 5=(5,atV B 1,0,0,[],[eqi (atV B 3) 65280]):=fun B=>rfl;dsimp only at p ⊢;rw[c,Eo,Ep,p]
  cases b with
  | true=>rw[if_pos rfl,kT (by decide) (by decide)];rfl
  | false=>rw[if_neg (by decide),kT (by decide) (by decide)];rfl
 | word q x =>
  have hx:=hw x (by simp);have e:jc (6,q,0,0,[x],[])=6::q / 256%256::q%256::x / 256%256::x%256::[]:=rfl;rw[e];have c:∀B,kE B 6=(6,atV B 1,0,0,[atV B 3],[]):=fun B=>rfl;dsimp only at p ⊢;rw[c,Eo,Ep,p,kT hx.1 hx.2]
 | coils q l h1 h2 =>
  have e:jc (15,q,(l.length:Int),0,[],l)=15::q / 256%256::q%256::(l.length:Int) / 256%256::(l.length:Int)%256::(gH l.length:Int)::iL l:=rfl;rw[e];have c:∀B,kE B 15=(15,atV B 1,atV B 3,0,[],(jM (B.drop 6)).take (atV B 3).toNat):=fun B=>rfl;dsimp only at p n ⊢;rw[c,Eo,Ep,p,n,zP];show (15,q,(l.length:Int),0,[],(jM (iL l)).take l.length)=_;rw[unpack_pack]
 | regs q l h1 h2 =>
  have e:jc (16,q,(l.length:Int),0,l,[])=16::q / 256%256::q%256::(l.length:Int) / 256%256::(l.length:Int)%256::2*(l.length:Int)::l.flatMap two:=rfl;rw[e];have c:∀B,kE B 16=(16,atV B 1,atV B 3,0,iC (B.drop 6),[]):=fun B=>rfl;dsimp only at p n ⊢;rw[c,Eo,Ep,p,n];show (16,q,(l.length:Int),0,iC (l.flatMap two),[])=_;rw[qC hw]
 | swap q m u l h1 h2 h3 h4 =>
  have e:jc (23,q,m,u,l,[])=23::q / 256%256::q%256::m / 256%256::m%256::u / 256%256::u%256::(l.length:Int) / 256%256::(l.length:Int)%256::2*(l.length:Int)::l.flatMap two:=rfl;rw[e];have c:∀B,kE B 23=(23,atV B 1,atV B 3,atV B 5,iC (B.drop 10),[]):=fun B=>rfl;dsimp only at p n t ⊢;rw[c,Eo,Ep,aPE,p,n,t];show (23,q,m,u,iC (l.flatMap two),[])=_;rw[qC hw]
theorem Er:∀{a b:List Int},(∀x∈a,0≤x∧x≤255)->(∀x∈b,0≤x∧x≤255)->toS a=toS b->a=b
 | [],[],_,_,_=>rfl
 | [],y::b,_,_,h=>by cases h
 | x::a,[],_,_,h=>by cases h
 | x::a,y::b,ha,hb,h=>by
  have h:UInt8.ofNat x.toNat::toS a=UInt8.ofNat y.toNat::toS b:=h;obtain⟨h1,h2⟩:=List.cons.inj h;have hx:=ha x (by simp);have hy:=hb y (by simp);have e:=congrArg UInt8.toNat h1;rw[UInt8.toNat_ofNat',UInt8.toNat_ofNat',Nat.mod_eq_of_lt (by omega),Nat.mod_eq_of_lt (by omega)]at e;rw[Er (fun z hz=>ha z (zS _ hz)) (fun z hz=>hb z (zS _ hz)) h2]
  congr 1
  omega
theorem als(a:TA):∃r,jc a=a.1::r:=by
 unfold jc;split
 ·simp
 ·split
  ·simp
  ·split
   ·simp
   ·split
    ·simp
    ·split<;>exact⟨_,rfl⟩
theorem TY{b:List Int}(hb:∀x∈b,0≤x∧x≤255)(hl:b.length≤10000):(∃a,Gx (b,())=some (a,0,())∧IV (b,())=some (a,0,())∧OkA a∧jd a=true)∨((∃a,Gx (b,())=some (a,12,()))∧IV (b,())=some (zTA,12,())):=by
 obtain⟨a,e,h1,h2⟩:=Fq hb;rcases h2 with ⟨rfl,ha,hr,hs⟩ | rfl
 ·left
  have hra:=kM hr;have hab:=yx hra;have he:=Er hab hb hs;refine⟨a,h1,?_,ha,hr⟩;obtain⟨r,hh⟩:=als a;have hlen:=(Sy hra).1;have hc:=alr ha hr;have hbb:b=a.1::r:=by rw[<- he,hh]
  rw[hbb]at hb hl he ⊢;rw[Ku hb hl (by rw[<- he];exact hlen),<- he,hc];unfold SK;rw[if_pos ⟨hr,rfl⟩]
 ·right
  refine⟨⟨a,h1⟩,?_⟩
  match b,hb,hl,h1 with
  | [],_,_,_=>rfl
  | f::t,hb,hl,h1 =>
   by_cases h5:5≤(f::t).length
   ·rw[Ku hb hl h5]
    unfold SK;rw[if_neg];rintro⟨hr,hs⟩;have hok:=SI hb hl (hb f (by simp));have he:=Er (yx (kM hr)) hb hs;have:=aln hok hr;rw[he,h1]at this;have e2:(12:Int)=0:=congrArg (fun z:Option (TA×Int×Unit)=>match z with | some q=>q.2.1 | none=>0) this;omega
   ·show IK Ru (f::t)=_
    unfold IK;rw[if_pos (by rw[cr,bu];omega)];rfl
theorem as0{f:Int}{b:List Int}(hb:∀x∈f::b,0≤x∧x≤255)(hl:(f::b).length≤10000){a:TA}{e:Int}(h:xL (f::b,())=some (a,e,())):Rv (f::b,())=some (a,e,()):=by
 rw[<- h];show afr afs (f::b)=O9 (f::b);unfold afr O9;have hne:¬ eqi (zF (f::b).length) 0=true:=by grind[au,bu,List.length_cons]
 rw[if_neg hne];rcases TY hb hl with ⟨a,h1,h2,_,_⟩ | ⟨⟨a,h1⟩,h2⟩
 ·rw[h1,h2]
  rfl
 ·rw[h1,h2,zD,zD]
  dsimp only;rw[if_neg (show ¬ eqi 12 0=true by decide),if_neg hne,if_neg (show ¬ eqi 12 0=true by decide),kI];simp only[zD];rw[pR,zD];dsimp only;have K1:∀t,afs f t 0 0 0 0=if t=true then some ((f,0,0,0,[],[]),3,()) else some ((f,0,0,0,[],[]),1,()):=fun t=>rfl;simp only[K1,ak7,le_dec,au,decide_eq_true_eq,if_true];rcases Bq f with ⟨hf,hs⟩ | ⟨hf,hs⟩ | ⟨hf,hs⟩ | ⟨hf,hs⟩ | ⟨hf,hs⟩ | ⟨hf,hs⟩ | ⟨hf,hs⟩ | ⟨hf,hs⟩
  ·grind
  ·grind
  ·simp_all
  ·simp_all
  ·simp_all
  ·simp_all
  ·simp_all
  grind
end Go.Proofs.Lx
end
noncomputable section
namespace Pl
open Go Ev Sx
def tN(s:Nat):Nat:=s / 2 ^^^ (if s%2=1 then 40961 else 0)
theorem aA4(a b:Nat):tN (a ^^^ b)=tN a ^^^ tN b:=by
 unfold tN;have hm:(a ^^^ b)%2=(a+b)%2:=by have h1:=Nat.testBit_xor a b 0;grind
 rw[Nat.xor_div_two,hm];rcases Nat.mod_two_eq_zero_or_one a with ha | ha<;>rcases Nat.mod_two_eq_zero_or_one b with hb | hb
 ·grind
 ·grind
 ·grind
 grind
theorem aOt{s:Nat}(h:s<65536):tN s<65536:=by
 unfold tN;have:(65536:Nat)=2 ^ 16:=by decide
 rw[this];apply Nat.xor_lt_two_pow
 ·omega
 grind
theorem aA5(m:Nat):tN (2*m)=m:=by simp_all[tN]
def tP:Nat->Nat->Nat
 | 0,s=>s
 | k+1,s=>tP k (tN s)
theorem alu:∀(k a b:Nat),tP k (a ^^^ b)=tP k a ^^^ tP k b
 | 0,_,_=>rfl
 | k+1,a,b=>by show tP k (tN (a ^^^ b))=_;rw[aA4,alu k];rfl
theorem SL:∀(m n s:Nat),tP (m+n) s=tP n (tP m s)
 | 0,n,s=>by rw[Nat.zero_add];rfl
 | m+1,n,s=>by rw[Nat.add_right_comm];exact SL m n (tN s)
theorem MS:∀{k s:Nat},s<65536->tP k s<65536
 | 0,_,h=>h
 | k+1,s,h=>MS (k:=k) (s:=tN s) (aOt h)
theorem alv:∀(j m:Nat),tP j (2 ^ j*m)=m
 | 0,m=>by simp[tP]
 | j+1,m=>by
  show tP j (tN (2 ^ (j+1)*m))=m;have:2 ^ (j+1)*m=2*(2 ^ j*m):=by rw[Nat.pow_succ,Nat.mul_comm (2 ^ j) 2,Nat.mul_assoc]
  rw[this,aA5,alv j m]
theorem aOu{a b k:Nat}(h:b<2 ^ k):2 ^ k*a+b=2 ^ k*a ^^^ b:=by
 apply Nat.eq_of_testBit_eq;intro i;have e0:=Nat.testBit_two_pow_mul_add a (b:=0) (i:=k) (Nat.two_pow_pos k) i;rw[Nat.add_zero]at e0;rw[Nat.testBit_two_pow_mul_add a h,Nat.testBit_xor,e0];by_cases hi:i<k
 ·simp_all
 ·rw[if_neg hi,if_neg hi]
  grind[Nat.testBit_lt_two_pow,Nat.lt_of_lt_of_le,Nat.pow_le_pow_right]
def ajQ(s c:Nat):Nat:=tP 8 (s ^^^ c)
theorem Fu{n m:Nat}(hn:n<65536)(hm:m<65536):iA .u16 (n:Int) (m:Int)=((n ^^^ m:Nat):Int):=by
 unfold iA;rw[yt]
 have e1:(BitVec.ofInt IntKind.u16.bits (n:Int)).toNat=n:=by
  rw[BitVec.toNat_ofInt];have:((2 ^ IntKind.u16.bits:Nat):Int)=65536:=by decide
  grind
 have e2:(BitVec.ofInt IntKind.u16.bits (m:Int)).toNat=m:=by
  rw[BitVec.toNat_ofInt];have:((2 ^ IntKind.u16.bits:Nat):Int)=65536:=by decide
  grind
 rw[BitVec.toNat_xor,e1,e2];have:n ^^^ m<2 ^ 16:=Nat.xor_lt_two_pow (by omega) (by omega);omega
theorem ajR{n:Nat}(hn:n<65536):kK .u16 (n:Int) 15=((n%16:Nat):Int):=by
 unfold kK;rw[yt]
 have e1:(BitVec.ofInt IntKind.u16.bits (n:Int)).toNat=n:=by
  rw[BitVec.toNat_ofInt];have:((2 ^ IntKind.u16.bits:Nat):Int)=65536:=by decide
  grind
 have e2:(BitVec.ofInt IntKind.u16.bits 15).toNat=2 ^ 4 - 1:=by decide
 rw[BitVec.toNat_and,e1,e2,Nat.and_two_pow_sub_one_eq_mod];omega
end Pl
namespace Go.Proofs.Lx
open Go Ev Sx Pl
set_option maxRecDepth 100000
theorem aA6:∀i:Fin 16,tab (i.1:Int)=((tP 4 i.1:Nat):Int):=by decide +kernel
theorem alx{s:Nat}(h:s<65536):nib (s:Int)=((tP 4 s:Nat):Int):=by
 unfold nib;have ht:=aA6 ⟨s%16,Nat.mod_lt _ (by decide)⟩;dsimp only at ht;have e1:(s:Int) / 16=((s / 16:Nat):Int):=by omega
 rw[ajR h,ht,aPw _ _ (by decide),e1,Fu (by omega) (MS (by omega))]
 have e2:tP 4 s=s / 16 ^^^ tP 4 (s%16):=by
  have e:s=2 ^ 4*(s / 16)+s%16:=by omega
  have hx:=aOu (a:=s / 16) (b:=s%16) (k:=4) (by omega);rw[<- e]at hx
  conv=>lhs;rw[hx]
  rw[alu,alv]
 rw[e2]
theorem as1{s c:Nat}(hs:s<65536)(hc:c<256):qA (s:Int) (c:Int)=((ajQ s c:Nat):Int):=by
 unfold qA ajQ
 have h1:s ^^^ c<65536:=by
  have:(65536:Nat)=2 ^ 16:=by decide
  rw[this];exact Nat.xor_lt_two_pow (by omega) (by omega)
 have ec:cvt .u16 (c:Int)=(c:Int):=by grind[oI]
 rw[ec,Fu hs (by omega),alx h1,alx (MS h1),<- SL]
abbrev Byt(xs:List Int):Prop:=∀x∈xs,0≤x∧x≤255
end Go.Proofs.Lx
end
noncomputable section
namespace Go.Proofs.Lx
open Go Ev Sx Pl
set_option maxRecDepth 100000
theorem as2{s c:Nat}(hs:s<65536)(hc:c<256):aiL ((s:Int),(c:Int),())=some (qA (s:Int) (c:Int),()):=by
 rw[as1 hs hc];show aiJ Sm (s:Int) (c:Int)=_;unfold aiJ
 have hx:s ^^^ c<65536:=by
  have e:(65536:Nat)=2 ^ 16:=by decide
  rw[e];exact Nat.xor_lt_two_pow (by omega) (by omega)
 have ec:cvt .u16 (c:Int)=(c:Int):=by rw[oI];omega
 rw[ec,Fu hs (by omega)];unfold Sm ajQ;refine pU (mk:=fun k=>(((tP k (s ^^^ c):Nat):Int),(k:Int))) (N:=8) ?_ ?_ 8 0 _ (by omega) (by omega)
 ·intro self k hk
  show aiH _ _ ((tP k (s ^^^ c):Nat):Int) (k:Int)=_;unfold aiH;have hlt:tP k (s ^^^ c)<65536:=MS hx;have e1:tP (k+1) (s ^^^ c)=tN (tP k (s ^^^ c)):=SL k 1 _;rw[e1];generalize tP k (s ^^^ c)=x at hlt ⊢;have er:rem (x:Int) 2=((x%2:Nat):Int):=jK (d:=2);have ek:add .i64 (k:Int) 1=((k+1:Nat):Int):=gJ (by omega);rw[if_pos (by rw[cr];omega),er,aPB hlt];have e40:iA .u16 ((x / 2:Nat):Int) 40961=((x / 2 ^^^ 40961:Nat):Int):=Fu (m:=40961) (by omega) (by omega);rw[e40];unfold aiK aiI tN;rw[ek];by_cases hm:x%2=1
  ·rw[if_pos (by rw[au];omega),if_pos hm]
  ·rw[if_neg (by rw[au];omega),if_neg hm,Nat.xor_zero]
 ·intro self
  rfl
theorem UN{b:List Int}(h:Byt b)(hl:b.length≤100000):MH (b,())=some (sD b,()):=by
 show aiP Sn b=_;unfold aiP Sn;refine (nX (xs:=b) (mk:=fun i acc=>(b,acc,(i:Int))) (stp:=qA) (fin:=fun acc=>some (acc,())) (fun _ s=>0≤s∧s<65536) ?_ (fun _ _ _ _ _=>Km _ _) ?_ b.length 0 65535 _ (by omega) (by omega) (by decide)).trans ?_
 ·intro self i acc x hx hI
  have hi:=(List.getElem?_eq_some_iff.1 hx).1;have hb:=h x (zX hx);show Jz _ b acc (i:Int)=_;unfold Jz;obtain⟨s,rfl⟩:=zN hI.1;obtain⟨c,rfl⟩:=zN hb.1;rw[if_pos (by rw[cr,bu];omega),d9 hx,zD,as2 (by omega) (by omega),zD,gJ (by omega)]
 ·intro self acc _
  show Jz _ b acc (b.length:Int)=_;unfold Jz;rw[if_neg (by rw[cr,bu];omega)]
 ·rfl
theorem ayV{b:List Int}(h:Byt b)(hl:b.length≤100000):Fe (b,())=some (sF b,()):=by
 show aiZ b=_;unfold aiZ;have hs:=En b;rw[gZ (by omega),UN h hl,zD,gZ (by simp;omega),gZ (by simp;omega)];obtain⟨n,hn⟩:=zN hs.1;dsimp only;rw[hn];have e1:rem (n:Int) 256=((n%256:Nat):Int):=jK (d:=256)
 have e2:quo .u16 (n:Int) 256=((n / 256:Nat):Int):=by
  unfold quo;have e:(n:Int).tdiv 256=((n / 256:Nat):Int):=by rw[show (256:Int)=((256:Nat):Int) from rfl,Int.ofNat_tdiv]
  rw[e];exact yj (by omega) (by omega)
 rw[e1,e2,jU,jU];unfold sF;rw[hn];have e3:((n%256:Nat):Int)%256=(n:Int)%256:=by omega
 have e4:((n / 256:Nat):Int)%256=(n:Int) / 256:=by omega
 rw[e3,e4];simp
theorem ajS{unit:Int}{pdu:List Int}(hu:1≤unit)(hu2:unit≤247)(h1:1≤pdu.length)(h2:pdu.length≤253)(hb:Byt pdu):ai4 (unit,pdu,())=some (sF (unit::pdu),0,()):=by
 show ai2 ai3 unit pdu=_;unfold ai2;have e:gt (zF pdu.length) 253=false:=by rw[<- Bool.not_eq_true,iD,bu];omega
 rw[if_neg (by grind[cr]),if_neg (by grind[iD]),if_neg (by grind[cr,bu]),e];show (if false=true then some ([],2,()) else need (small (1+pdu.length)) (zC (Fe (unit::pdu,())) fun y=>some (y.1,0,())))=_;have hbb:Byt (unit::pdu):=fun y hy=>by grind
 rw[if_neg (by decide),gZ (by omega),ayV hbb (by grind),zD]
theorem aly{tx unit:Int}{pdu:List Int}(ht:0≤tx)(ht2:tx≤65535)(h2:pdu.length≤253):aiE ((tx,unit,pdu),())=some (qB tx unit pdu,()):=by
 show aiD Sl (tx,unit,pdu)=_;unfold aiD;dsimp only;obtain⟨n,rfl⟩:=zN ht
 have e1:quo .u16 (n:Int) 256=((n / 256:Nat):Int):=by
  unfold quo;have e:(n:Int).tdiv 256=((n / 256:Nat):Int):=by rfl
  grind[yj]
 have e2:rem (n:Int) 256=((n%256:Nat):Int):=jK (d:=256);have e3:add .i64 (zF pdu.length) 1=((pdu.length+1:Nat):Int):=gJ (by omega);have e4:quo .i64 ((pdu.length+1:Nat):Int) 256=(((pdu.length+1) / 256:Nat):Int):=lW (d:=256) (by omega);have e5:rem ((pdu.length+1:Nat):Int) 256=(((pdu.length+1)%256:Nat):Int):=jK (d:=256);rw[e1,e2,e3,e4,e5,jU,jU,jU,jU];have f1:((n / 256:Nat):Int)%256=(n:Int) / 256%256:=by omega
 have f2:((n%256:Nat):Int)%256=(n:Int)%256:=by omega
 have f3:(((pdu.length+1) / 256:Nat):Int)%256=0:=by omega
 have f4:(((pdu.length+1)%256:Nat):Int)%256=((pdu.length+1:Nat):Int)%256:=by omega
 rw[f1,f2,f3,f4];unfold Sl;refine (nX (xs:=pdu) (mk:=fun i acc=>((i:Int),((n:Int),unit,pdu),acc)) (stp:=fun o y=>o++[y]) (fin:=fun acc=>some (acc,())) (fun i acc=>acc.length≤7+i) ?_ ?_ ?_ pdu.length 0 [(n:Int) / 256%256,(n:Int)%256,0,0,0,((pdu.length+1:Nat):Int)%256,unit] _ (by omega) (by omega) (by simp)).trans ?_
 ·intro self i acc x hx hI
  have hi:=(List.getElem?_eq_some_iff.1 hx).1;show Sk _ (i:Int) ((n:Int),unit,pdu) acc=_;unfold Sk;dsimp only;rw[if_pos (by grind[cr,bu]),d9 hx,zD,gZ (by omega),gJ (by omega)]
 ·grind
 ·simp_all[Sk,Int,if_neg,cr,bu]
 ·have e:=kQ (fun y:Int=>[y]) pdu [(n:Int) / 256%256,(n:Int)%256,0,0,0,((pdu.length+1:Nat):Int)%256,unit]
  simp_all[List.drop_zero,qB]
theorem ayW{b:List Int}(hb:Byt b)(h:b.length≤100000):MI (b,())=some ((cutV b).1,(cutV b).2,()):=by
 show aiQ b=_;unfold aiQ cutV;by_cases h2:b.length<2
 ·rw[if_pos (by grind[cr,bu]),if_pos h2]
 ·have e1:sub .i64 (zF b.length) 2=((b.length - 2:Nat):Int):=by grind[jO,bu]
  have l1:b.length - 2<b.length:=by omega
  have l2:b.length - 2+1<b.length:=by omega
  have g1:b[b.length - 2]? = some b[b.length - 2]:=zU l1;have g2:b[b.length - 2+1]? = some b[b.length - 2+1]:=zU l2;have r1:=hb _ (List.getElem_mem l1);have r2:=hb _ (List.getElem_mem l2);have hs:=En (b.take (b.length - 2));have d1:b.getD (b.length - 2) 0=b[b.length - 2]:=by simp_all
  have d2:b.getD (b.length - 1) 0=b[b.length - 2+1]:=by grind
  rw[if_neg (by grind[cr,bu]),if_neg h2,e1,Bp (by omega),zD,UN (fun y hy=>hb y (List.mem_of_mem_take hy)) (by grind),zD,gJ (by omega),d9 g1,zD,d9 g2,zD,zD,d1,d2,Ci r2.1 r2.2 r1.1 r1.2];dsimp only;rw[gM (by omega) (by omega),gM (by omega) (by omega),gM (by omega) (by omega),kZ (by omega) (by omega),iF (by omega) (by omega)];by_cases hq:sD (b.take (b.length - 2))=256*b[b.length - 2+1]+b[b.length - 2]
  ·rw[if_neg (by grind[cu]),if_pos hq,gZ (by grind)]
  ·rw[if_pos (by grind[cu]),if_neg hq]
theorem as3{b:List Int}(h:2≤b.length)(he:(cutV b).2≠0):(cutV b).2=11:=by unfold cutV at he ⊢;grind
theorem ajT{b:List Int}(hb:Byt b):aiY (b,())=some ((gG b).1,(gG b).2.1,(gG b).2.2,()):=by
 show aiW aiX b=_;have K:∀t,aiX b t=aiU Sq b t:=fun _=>rfl;unfold aiW gG;rw[K,K];by_cases h:b.length<4
 ·rw[if_pos (by grind[cr,bu]),if_pos (.inl h)]
  rfl
 ·rw[if_neg (by grind[cr,bu])]
  unfold aiU;by_cases h2:256<b.length
  ·rw[if_pos (by grind[iD,bu]),if_pos (.inr h2)]
  ·have e0:gt (zF b.length) 256=false:=by rw[<- Bool.not_eq_true,iD,bu];omega
   rw[e0,if_neg (by decide),if_neg (by omega),ayW hb (by omega),zD];dsimp only;by_cases h3:(cutV b).2=0
   ·rw[if_neg (by simp_all[cu]),if_neg (fun e=>e h3)]
    have hl:=SA h3
    match hc:(cutV b).1 with
    | []=>grind
    | x::r =>
     have K2:∀t,Sq (x::r) t=if t=true then some (0,[],10,()) else some (x,r,0,()):=fun t=>by unfold Sq aiV;have e:cut (x::r) 1 (zF (x::r).length)=some r:=JN x r;simp_all[kI,zD]
     rw[kI,zD,zD,K2,K2];show _=some ((if (decide (1≤x) && decide (x≤247))=true then (x,r,0) else (0,[],10)).1,(if (decide (1≤x) && decide (x≤247))=true then (x,r,0) else (0,[],10)).2.1,(if (decide (1≤x) && decide (x≤247))=true then (x,r,0) else (0,[],10)).2.2,());by_cases q1:1≤x
     ·by_cases q2:x≤247
      ·simp_all[gt,Bool.not_eq_true,iD,if_neg,cr,decide_eq_true]
      simp_all[gt,iD,if_neg,cr,decide_eq_true,decide_eq_false]
     simp_all[if_pos,cr,decide_eq_false]
   ·have e11:=as3 (b:=b) (by omega) h3
    simp_all[if_pos,cu]
theorem as4{a:TA}(h:OkA a)(hr:jd a=true):Bg (a,())=aAZ (axD a):=by
 show Jn ahI a=_;unfold Jn;rw[uR h,zD,hr];clear h;have hra:=kM hr;clear hr
 cases hra with
 | bits f p n hf h1 h2=>rcases hf with rfl | rfl<;>rfl
 | words f p n hf h1 h2=>rcases hf with rfl | rfl<;>rfl
 | coil p b=>rfl
 | word p x=>rfl
 | coils p l h1 h2=>rfl
 | regs p l h1 h2=>rfl
 | swap p n t l h1 h2 h3 h4=>rfl
theorem alz{self:List Int->Int->Option (As [.int .i64])}{b:List Int}{i y:Int}(hi:i<4)(hl:i<zF b.length)(hy:at? b i=some y) :
  Ju (Jv self) self b i=if nei y 0=true then some (-1,()) else self b (add .i64 i 1):=by
 unfold Ju;rw[if_pos (by rw[cr];omega),cr.2 hl];unfold Jv ail;rw[if_pos rfl,hy,zD]
theorem aOv{self:List Int->Int->Option (As [.int .i64])}{b:List Int}:Ju (Jv self) self b 4=ais b:=rfl
theorem as5(b0 b1 b2 b3 b4 b5 b6 b7:Int)(r:List Int)(h5:0≤b5∧b5≤255):ait (b0::b1::b2::b3::b4::b5::b6::b7::r,())=some (if lY b2 b3 b4 b5=true then 6+b5 else -1,()):=by
 show aip Sf _=_;unfold aip Sf lY;have hlen:(zF (b0::b1::b2::b3::b4::b5::b6::b7::r).length)=(r.length:Int)+8:=by rfl
 generalize hb:b0::b1::b2::b3::b4::b5::b6::b7::r=b at hlen ⊢;have a2:at? b 2=some b2:=by rw[<- hb];rfl
 have a3:at? b 3=some b3:=by rw[<- hb];rfl
 have a4:at? b 4=some b4:=by rw[<- hb];rfl
 have a5:at? b 5=some b5:=by rw[<- hb];rfl
 have hc:cvt .i64 b5=b5:=gM (by omega) (by omega)
 have key:∀n:Nat,ay (fun (self:(List Int)×(Int)->Option (As [.int .i64])) (s:(List Int)×(Int))=>Ju (Jv (fun b i=>self (b,i))) (fun b i=>self (b,i)) s.1 s.2) (n+3) (b,2) =
   some (if (!nei b2 0 && (!nei b3 0 && (!nei b4 0 && (!lt b5 2 && !gt (cvt .i64 b5) 254))))=true then 6+b5 else -1,()):=by
  intro n;rw[kP];refine (alz (by decide) (by omega) a2).trans ?_
  cases nei b2 0 with
  | true=>rfl
  | false =>
   rw[if_neg (by decide),kP];refine (alz (i:=3) (by decide) (by omega) a3).trans ?_
   cases nei b3 0 with
   | true=>rfl
   | false =>
    rw[if_neg (by decide),kP];refine (aOv).trans ?_;unfold ais aim;rw[if_pos (by grind[iD]),a4,zD];unfold air ain
    cases nei b4 0 with
    | true=>rfl
    | false =>
     rw[if_neg (by decide),if_neg (by grind[cr]),a5,zD,zD,hc];unfold aiq aio
     cases lt b5 2 with
     | true=>rfl
     | false =>
      rw[if_neg (by decide)]
      cases gt b5 254 with
      | true=>rfl
      | false =>
       rw[if_neg (by decide),a5,zD,hc,iF (by omega) (by omega)];rfl
 simp_all
theorem Fv{α:Type}:∀(xs out:List α),xs.foldl (fun o x=>o++[x]) out=out++xs
 | [],out=>by simp
 | x::r,out=>by rw[List.foldl_cons,Fv r];simp
theorem aPF{b:List Int}(hl:b.length≤100000)(h7:7≤b.length)(t2 t22 x x2:Int):Si b 7 t2 t22 x x2 []=some ((x,x2,b.drop 7),0,()):=by
 unfold Si;have e:(b.drop 7).foldl (fun o y=>o++[y]) []=b.drop 7:=by rw[Fv];rfl
 rw[<- e];refine nX (xs:=b) (stp:=fun o y=>o++[y]) (fin:=fun o=>some ((x,x2,o),0,())) (mk:=fun i o=>(b,(i:Int),t2,t22,x,x2,o)) (fun i o=>o.length≤i) ?_ ?_ ?_ (b.length - 7) 7 [] _ (by omega) (by omega) (by simp)
 ·intro self i o y hy hI
  have hi:=(List.getElem?_eq_some_iff.1 hy).1;show Jw _ _ b (i:Int) t2 t22 x x2 o=_;unfold Jw;rw[if_pos (by grind[cr,bu]),d9 hy,zD,gZ (by omega),gJ (by omega)]
 ·simp
 ·intro self o _
  show Jw _ _ b (b.length:Int) t2 t22 x x2 o=_;unfold Jw;rw[if_neg (by grind[cr,bu])];rfl
theorem aPG{y z:Int}(h0:0≤y∧y≤255)(h1:0≤z∧z≤255):add .u16 (mul .u16 256 (cvt .u16 y)) (cvt .u16 z)=iY y z:=by rw[Ci h0.1 h0.2 h1.1 h1.2];show IntKind.u16.wrap (IntKind.u16.wrap (256*IntKind.u16.wrap y)+IntKind.u16.wrap z)=_;grind[yt]
theorem ajU{b:List Int}(hl:b.length≤100000)(hb:∀x∈b,0≤x∧x≤255):aiA (b,())=some ((fZ b).1,(fZ b).2,()):=by
 show aiz Sj b=_;unfold aiz
 have shortP:b.length≤7->fZ b=(zM,10):=fun h=>by
  match b with
  | [] | [_] | [_,_] | [_,_,_] | [_,_,_,_] | [_,_,_,_,_] | [_,_,_,_,_,_]=>rfl
  | [_,_,_,_,_,_,_]=>rfl
  | _::_::_::_::_::_::_::_::_=>exact absurd h (by simp)
 by_cases hs:b.length≤7
 ·rw[shortP hs,if_pos (by rw[cr,bu];omega)]
  rfl
 ·rw[if_neg (by rw[cr,bu];omega)]
  match b with
  | [] | [_] | [_,_] | [_,_,_] | [_,_,_,_] | [_,_,_,_,_] | [_,_,_,_,_,_]=>simp at hs
  | [_,_,_,_,_,_,_]=>simp at hs
  | b0::b1::b2::b3::b4::b5::b6::b7::r =>
   have h5:=hb b5 (by simp);have h0:=hb b0 (by simp);have h1:=hb b1 (by simp);rw[as5 _ _ _ _ _ _ _ _ _ h5,zD];unfold fZ;dsimp only;have hne:¬ (b7::r=[]):=by simp
   have hll:zF (b0::b1::b2::b3::b4::b5::b6::b7::r).length=(r.length:Int)+8:=by rw[bu];simp;omega
   have h1l:((b7::r).length:Int)+1=(r.length:Int)+2:=by simp;omega
   have K:∀t:Bool,Sj (b0::b1::b2::b3::b4::b5::b6::b7::r) t 0 0=if t=true then some (zM,10,()) else some ((iY b0 b1,b6,b7::r),0,()):=by
    intro t;unfold Sj aiy
    cases t with
    | true=>rfl
    | false =>
     rw[if_neg (by decide),if_neg (by decide)];have e0:at? (b0::b1::b2::b3::b4::b5::b6::b7::r) 0=some b0:=rfl;have e1:at? (b0::b1::b2::b3::b4::b5::b6::b7::r) 1=some b1:=rfl;have e6:at? (b0::b1::b2::b3::b4::b5::b6::b7::r) 6=some b6:=rfl;rw[e0,zD,e1,zD,e6,zD,aPF hl (by simp),aPG h0 h1];rfl
   rw[if_neg hne,hll,K,h1l]
   cases hbg:lY b2 b3 b4 b5 with
   | false =>
    simp only[Bool.false_eq_true,if_false];rw[if_pos (by rw[cu];omega)]
   | true =>
    rw[if_pos rfl,if_pos rfl];by_cases he:(r.length:Int)+2=b5
    ·rw[if_pos he,if_neg (by rw[cu];omega)]
    ·rw[if_neg he,if_pos (by rw[cu];omega)]
abbrev fo:=Int×Int×Bool×Bool×Bool
def jN(x:fo)(i:Int):Bool:=decide (1≤x.2.1∧x.1≤i∧i<x.1+x.2.1)
def iB(l:List fo)(i:Int):Option fo:=l.find? fun x=>jN x i
def jW(w:fo->Bool)(l:List fo)(i:Int):Bool:=match iB l i with
 | some x=>w x
 | none=>false
def iG(w:fo->Bool)(l:List fo)(p:Int)(m:Nat):Bool:=(List.range m).all fun k=>jW w l (p+(k:Int))
def sG(x:fo):Prop:=-9223372036854775808≤x.1∧x.1≤9223372036854775807∧-9223372036854775808≤x.2.1∧x.2.1≤9223372036854775807
theorem qU(n:Int):jC n n=true:=by unfold jC;rw[if_pos rfl]
theorem yD{x:fo}{p e:Int}(h0:0≤p)(hpe:p≤e)(he:e≤1000000000000)(hx:sG x) :
  ∃f t,vH (x,p,e,())=some (f,t,())∧p≤f∧f≤e∧t≤e∧∀i,p≤i->i<e->(jN x i=true↔f≤i∧i<t):=by
 obtain⟨x1,x2,x3,x4⟩:=hx;show ∃f t,Yj Ph x p e=_∧_;unfold Yj;have none:∃f t,Ph p e true x=some (f,t,())∧f=p∧t=p:=⟨p,p,rfl,rfl,rfl⟩;by_cases hm:x.2.1<1
 ·rw[if_pos (cr.2 hm)]
  obtain⟨f,t,h1,rfl,rfl⟩:=none;refine⟨_,_,h1,Int.le_refl _,hpe,hpe,fun i hi hie=>?_⟩;unfold jN;rw[decide_eq_true_eq];omega
 ·rw[if_neg (fun h=>hm (cr.1 h))]
  by_cases ha:e≤x.1
  ·rw[gU.2 ha]
   obtain⟨f,t,h1,rfl,rfl⟩:=none;refine⟨_,_,h1,Int.le_refl _,hpe,hpe,fun i hi hie=>?_⟩;unfold jN;rw[decide_eq_true_eq];omega
  ·rw[show ge x.1 e=false from decide_eq_false ha]
   have K3:∀t,Yk p t x=some (if p<x.1 then x.1 else p,t,()):=fun t=>by unfold Yk Yi;simp only[iD]
   have K2t:Pg p e e true x=some (if p<x.1 then x.1 else p,(if x.1+x.2.1<e then x.1+x.2.1 else e),())∨¬ (x.1<0∨x.2.1<e - x.1):=by
    by_cases hc:x.1<0∨x.2.1<e - x.1
    ·left
     unfold Pg Yh;have hadd:add .i64 x.1 x.2.1=x.1+x.2.1:=iF (by omega) (by omega);rw[if_pos rfl,K3,hadd];simp only[cr]
    ·exact .inr hc
   have fin:∀t,(t=(if x.1+x.2.1<e then x.1+x.2.1 else e))->p≤(if p<x.1 then x.1 else p)∧(if p<x.1 then x.1 else p)≤e∧t≤e∧∀i,p≤i->i<e->(jN x i=true↔(if p<x.1 then x.1 else p)≤i∧i<t):=fun t ht=>by subst ht;refine⟨by split<;>omega,by split<;>omega,by split<;>omega,fun i hi hie=>?_⟩;unfold jN;rw[decide_eq_true_eq];split<;>split<;>omega
   unfold Ph Yg;rw[if_neg (by decide)];by_cases hn:x.1<0
   ·rw[if_pos (cr.2 hn)]
    rcases K2t with h | h
    ·obtain⟨g1,g2,g3,g4⟩:=fin _ rfl
     exact⟨_,_,h,g1,g2,g3,g4⟩
    ·exact absurd (.inl hn) h
   ·rw[if_neg (fun h=>hn (cr.1 h)),jO (by omega) (by omega)]
    by_cases hc:x.2.1<e - x.1
    ·rw[cr.2 hc]
     rcases K2t with h | h
     ·obtain⟨g1,g2,g3,g4⟩:=fin _ rfl
      exact⟨_,_,h,g1,g2,g3,g4⟩
     ·exact absurd (.inr hc) h
    ·rw[show lt x.2.1 (e - x.1)=false from decide_eq_false hc]
     unfold Pg Yh;rw[if_neg (by decide),K3];obtain⟨g1,g2,g3,g4⟩:=fin e (by rw[if_neg (by omega)]);exact⟨_,_,rfl,g1,g2,g3,g4⟩
theorem sS{l:List fo}{t:Nat}{i:Int}{y:fo}(h:iB (l.take t) i=some y):iB l i=some y:=by
 have:iB l i=(iB (l.take t) i).or (iB (l.drop t) i):=by unfold iB;rw[<- List.find?_append,List.take_append_drop]
 rw[this,h];rfl
theorem lu{l:List fo}{t:Nat}(ht:t<l.length)(i:Int):iB (l.take (t+1)) i=(iB (l.take t) i).or (if jN l[t] i=true then some l[t] else none):=by
 unfold iB;rw[List.take_succ_eq_append_getElem ht,List.find?_append]
 congr 1
 simp only[List.find?_cons,List.find?_nil];cases jN l[t] i<;>rfl
def kU(w:fo->Bool)(l:List fo)(p:Int)(m:Nat)(c:Int->Bool)(met:List Bool)(left:Int):Prop :=
 met.length=m∧left=((met.countP fun b=>!b:Nat):Int)∧∀k:Nat,k<m->met[k]? = some (c (p+(k:Int)))∧(c (p+(k:Int))=true->jW w l (p+(k:Int))=true)
theorem MU(w:fo->Bool)(l:List fo)(p:Int)(m:Nat):kU w l p m (fun i=>(iB (l.take 0) i).isSome) (zE m false) (m:Int):=by
 refine⟨kC ..,?_,fun k hk=>⟨?_,fun e=>by cases e⟩⟩
 ·rw[List.countP_replicate]
  rfl
 ·rw[List.getElem?_replicate,if_pos hk]
  rfl
theorem oq{w:fo->Bool}{l:List fo}{p:Int}{m:Nat}{c:Int->Bool}{met:List Bool}{left:Int}(h:kU w l p m c met left)(h0:left=0):iG w l p m=true:=by
 obtain⟨h1,h2,h3⟩:=h;unfold iG;rw[List.all_eq_true];intro k hk;rw[List.mem_range]at hk;obtain⟨e1,e2⟩:=h3 k hk;refine e2 ?_;have hz:met.countP (fun b=>!b)=0:=by omega
 have:=List.countP_eq_zero.1 hz _ (zX e1);simpa using this
theorem yE{w:fo->Bool}{l:List fo}{p:Int}{m:Nat}{met:List Bool}{left:Int}(h:kU w l p m (fun i=>(iB l i).isSome) met left)(h0:left≠0):iG w l p m=false:=by
 obtain⟨h1,h2,h3⟩:=h;rw[<- Bool.not_eq_true];intro hall;unfold iG at hall;rw[List.all_eq_true]at hall;apply h0;rw[h2]
 have:met.countP (fun b=>!b)=0:=by
  rw[List.countP_eq_zero];intro b hb;obtain⟨k,hk,rfl⟩:=List.getElem_of_mem hb;have e1:=(h3 k (by omega)).1;have hw:=hall k (List.mem_range.2 (by omega));unfold jW at hw;rw[zU hk]at e1;dsimp only at e1
  cases hf:iB l (p+(k:Int)) with
  | none=>rw[hf]at hw;cases hw
  | some y =>
   rw[hf]at e1;have e1:met[k]=true:=by simpa using e1
   rw[e1];decide
 rw[this];rfl
theorem uT{w:fo->Bool}{l:List fo}{p:Int}{m k:Nat}(hk:k<m)(h:jW w l (p+(k:Int))=false):iG w l p m=false:=by rw[<- Bool.not_eq_true];intro hall;unfold iG at hall;rw[List.all_eq_true]at hall;have:=hall k (List.mem_range.2 hk);rw[h]at this;cases this
theorem oZ{w:fo->Bool}{l:List fo}{p:Int}{m:Nat}{c c':Int->Bool}{met:List Bool}{left:Int}(h:kU w l p m c met left)(hc:∀k:Nat,k<m->c' (p+(k:Int))=c (p+(k:Int))):kU w l p m c' met left :=
 ⟨h.1,h.2.1,fun k hk=>by rw[hc k hk];exact h.2.2 k hk⟩
theorem Ck{w:fo->Bool}{l:List fo}{p:Int}{m k:Nat}{c:Int->Bool}{met:List Bool}{left:Int}(h:kU w l p m c met left)(hk:k<m)(hf:c (p+(k:Int))=false)(hw:jW w l (p+(k:Int))=true) :
  kU w l p m (fun i=>c i || decide (i=p+(k:Int))) (met.set k true) (left - 1):=by
 obtain⟨h1,h2,h3⟩:=h;have hg:=(h3 k hk).1;have hkl:k<met.length:=by omega
 rw[zU hkl,hf]at hg;have hg:met[k]=false:=by simpa using hg
 refine⟨by simp[h1],?_,fun j hj=>?_⟩
 ·have hpos:0<met.countP (fun b=>!b):=by rw[List.countP_pos_iff];exact⟨met[k],List.getElem_mem hkl,by rw[hg];rfl⟩
  rw[List.countP_set hkl,hg,h2];simp only[Bool.not_false,if_true,Bool.not_true,Bool.false_eq_true,if_false];omega
 ·obtain⟨e1,e2⟩:=h3 j hj
  dsimp only;by_cases hjk:k=j
  ·subst hjk
   refine⟨?_,fun _=>hw⟩;rw[List.getElem?_set_self hkl,decide_eq_true rfl,Bool.or_true]
  ·have:¬ (p+(j:Int)=p+(k:Int)):=by omega
   refine⟨?_,fun e=>?_⟩
   ·rw[List.getElem?_set_ne hjk,e1,decide_eq_false this,Bool.or_false]
   ·rw[decide_eq_false this,Bool.or_false]at e
    exact e2 e
@[reducible] def zP2:Type:=Int->Int->Int->List (Int×Int×Bool×Bool×Bool)->Int->Int->List Bool->Option (As [.bool])
@[reducible] def zP3:Type:=(Int)×(Int)×(Int)×(Int)×(Int)×(List (Int×Int×Bool×Bool×Bool))×(Int)×(Int)×(List Bool)×(Int×Int×Bool×Bool×Bool)->Option (As [.bool])
@[reducible] def zP4:Type:=(Int)×(Int)×(Int)×(Int)×(Int)×(List (Int×Int×Bool×Bool×Bool))×(Int)×(Int)×(List Bool)×(Int×Int×Bool×Bool×Bool)
def axI(u1:zP2):=(fun (self:zP3) (s:zP4)=>Pp (GD u1 (fun at' many left to' i t19 t20 t21 met x=>self (at',many,left,to',i,t19,t20,t21,met,x))) u1 (fun at' many left to' i t19 t20 t21 met x=>self (at',many,left,to',i,t19,t20,t21,met,x)) s.1 s.2.1 s.2.2.1 s.2.2.2.1 s.2.2.2.2.1 s.2.2.2.2.2.1 s.2.2.2.2.2.2.1 s.2.2.2.2.2.2.2.1 s.2.2.2.2.2.2.2.2.1 s.2.2.2.2.2.2.2.2.2)
@[reducible] def zP5:Type:=List (Int×Int×Bool×Bool×Bool)
@[reducible] def zP6:Type:=Int×Int×Bool×Bool×Bool
theorem aOw(u1:zP2)(self:zP3)(at' many left to' i:Int)(t19:zP5)(t20 t21:Int)(met:List Bool)(x:zP6):axI u1 self (at',many,left,to',i,t19,t20,t21,met,x)=Pp (GD u1 (fun at' many left to' i t19 t20 t21 met x=>self (at',many,left,to',i,t19,t20,t21,met,x))) u1 (fun at' many left to' i t19 t20 t21 met x=>self (at',many,left,to',i,t19,t20,t21,met,x)) at' many left to' i t19 t20 t21 met x:=rfl
theorem aOx(u1:zP2)(at' many left to' i:Int)(t19:zP5)(t20 t21:Int)(met:List Bool)(x:zP6):Dp u1 at' many left to' i t19 t20 t21 met x=ay (axI u1) 18446744073709551616 (at',many,left,to',i,t19,t20,t21,met,x):=rfl
@[reducible] def zP7:Type:=(Int)×(Int)×(Int)×(List (Int×Int×Bool×Bool×Bool))×(Int)×(Int)×(List Bool)->Option (As [.bool])
@[reducible] def zP8:Type:=(Int)×(Int)×(Int)×(List (Int×Int×Bool×Bool×Bool))×(Int)×(Int)×(List Bool)
def axJ :=(fun (self:zP7) (s:zP8)=>Po (Pq) (Dp (fun at' many left t19 t20 t21 met=>self (at',many,left,t19,t20,t21,met))) (fun at' many left t19 t20 t21 met=>self (at',many,left,t19,t20,t21,met)) s.1 s.2.1 s.2.2.1 s.2.2.2.1 s.2.2.2.2.1 s.2.2.2.2.2.1 s.2.2.2.2.2.2)
theorem aOy  (self:zP7)(at':Int)(many:Int)(left:Int)(t19:zP5)(t20:Int)(t21:Int)(met:List Bool):axJ self (at',many,left,t19,t20,t21,met)=Po (Pq) (Dp (fun at' many left t19 t20 t21 met=>self (at',many,left,t19,t20,t21,met))) (fun at' many left t19 t20 t21 met=>self (at',many,left,t19,t20,t21,met)) at' many left t19 t20 t21 met:=rfl
theorem aOz  (at':Int)(many:Int)(left:Int)(t19:zP5)(t20:Int)(t21:Int)(met:List Bool):Pt at' many left t19 t20 t21 met=ay (axJ) 18446744073709551616 (at',many,left,t19,t20,t21,met):=rfl
def axK(u1:zP2):=(fun (self:zP3) (s:zP4)=>PD (GJ u1 (fun at' many left to' i t19 t20 t21 met x=>self (at',many,left,to',i,t19,t20,t21,met,x))) u1 (fun at' many left to' i t19 t20 t21 met x=>self (at',many,left,to',i,t19,t20,t21,met,x)) s.1 s.2.1 s.2.2.1 s.2.2.2.1 s.2.2.2.2.1 s.2.2.2.2.2.1 s.2.2.2.2.2.2.1 s.2.2.2.2.2.2.2.1 s.2.2.2.2.2.2.2.2.1 s.2.2.2.2.2.2.2.2.2)
theorem aOA(u1:zP2)(self:zP3)(at' many left to' i:Int)(t19:zP5)(t20 t21:Int)(met:List Bool)(x:zP6):axK u1 self (at',many,left,to',i,t19,t20,t21,met,x)=PD (GJ u1 (fun at' many left to' i t19 t20 t21 met x=>self (at',many,left,to',i,t19,t20,t21,met,x))) u1 (fun at' many left to' i t19 t20 t21 met x=>self (at',many,left,to',i,t19,t20,t21,met,x)) at' many left to' i t19 t20 t21 met x:=rfl
theorem aOB(u1:zP2)(at' many left to' i:Int)(t19:zP5)(t20 t21:Int)(met:List Bool)(x:zP6):Dr u1 at' many left to' i t19 t20 t21 met x=ay (axK u1) 18446744073709551616 (at',many,left,to',i,t19,t20,t21,met,x):=rfl
def axL :=(fun (self:zP7) (s:zP8)=>Pz (PE) (Dr (fun at' many left t19 t20 t21 met=>self (at',many,left,t19,t20,t21,met))) (fun at' many left t19 t20 t21 met=>self (at',many,left,t19,t20,t21,met)) s.1 s.2.1 s.2.2.1 s.2.2.2.1 s.2.2.2.2.1 s.2.2.2.2.2.1 s.2.2.2.2.2.2)
theorem aOC  (self:zP7)(at':Int)(many:Int)(left:Int)(t19:zP5)(t20:Int)(t21:Int)(met:List Bool):axL self (at',many,left,t19,t20,t21,met)=Pz (PE) (Dr (fun at' many left t19 t20 t21 met=>self (at',many,left,t19,t20,t21,met))) (fun at' many left t19 t20 t21 met=>self (at',many,left,t19,t20,t21,met)) at' many left t19 t20 t21 met:=rfl
theorem aOD  (at':Int)(many:Int)(left:Int)(t19:zP5)(t20:Int)(t21:Int)(met:List Bool):PG at' many left t19 t20 t21 met=ay (axL) 18446744073709551616 (at',many,left,t19,t20,t21,met):=rfl
@[reducible] def zP9:Type:=Int->Int->Int->List (Int×Int×Bool×Bool×Bool)->Int->Int->Int->Int->List Bool->Option (As [.bool,.int .i64,.int .i64])
@[reducible] def ajV:Type:=(Int)×(Int)×(Int)×(Int)×(Int)×(List (Int×Int×Bool×Bool×Bool))×(Int)×(Int)×(Int)×(Int)×(List Bool)×(Int×Int×Bool×Bool×Bool)->Option (As [.bool,.int .i64,.int .i64])
@[reducible] def aA7:Type:=(Int)×(Int)×(Int)×(Int)×(Int)×(List (Int×Int×Bool×Bool×Bool))×(Int)×(Int)×(Int)×(Int)×(List Bool)×(Int×Int×Bool×Bool×Bool)
def axM(u1:zP9):=(fun (self:ajV) (s:aA7)=>Pw (GH u1 (fun at' many left to' i t19 t20 t21 o o_2 met x=>self (at',many,left,to',i,t19,t20,t21,o,o_2,met,x))) u1 (fun at' many left to' i t19 t20 t21 o o_2 met x=>self (at',many,left,to',i,t19,t20,t21,o,o_2,met,x)) s.1 s.2.1 s.2.2.1 s.2.2.2.1 s.2.2.2.2.1 s.2.2.2.2.2.1 s.2.2.2.2.2.2.1 s.2.2.2.2.2.2.2.1 s.2.2.2.2.2.2.2.2.1 s.2.2.2.2.2.2.2.2.2.1 s.2.2.2.2.2.2.2.2.2.2.1 s.2.2.2.2.2.2.2.2.2.2.2)
theorem aOE(u1:zP9)(self:ajV)(at' many left to' i:Int)(t19:zP5)(t20 t21 o o_2:Int)(met:List Bool)(x:zP6):axM u1 self (at',many,left,to',i,t19,t20,t21,o,o_2,met,x)=Pw (GH u1 (fun at' many left to' i t19 t20 t21 o o_2 met x=>self (at',many,left,to',i,t19,t20,t21,o,o_2,met,x))) u1 (fun at' many left to' i t19 t20 t21 o o_2 met x=>self (at',many,left,to',i,t19,t20,t21,o,o_2,met,x)) at' many left to' i t19 t20 t21 o o_2 met x:=rfl
theorem aOF(u1:zP9)(at' many left to' i:Int)(t19:zP5)(t20 t21 o o_2:Int)(met:List Bool)(x:zP6):Dq u1 at' many left to' i t19 t20 t21 o o_2 met x=ay (axM u1) 18446744073709551616 (at',many,left,to',i,t19,t20,t21,o,o_2,met,x):=rfl
@[reducible] def ajW:Type:=(Int)×(Int)×(Int)×(List (Int×Int×Bool×Bool×Bool))×(Int)×(Int)×(Int)×(Int)×(List Bool)->Option (As [.bool,.int .i64,.int .i64])
@[reducible] def aA8:Type:=(Int)×(Int)×(Int)×(List (Int×Int×Bool×Bool×Bool))×(Int)×(Int)×(Int)×(Int)×(List Bool)
def axN :=(fun (self:ajW) (s:aA8)=>Pv (Px) (Dq (fun at' many left t19 t20 t21 o o_2 met=>self (at',many,left,t19,t20,t21,o,o_2,met))) (fun at' many left t19 t20 t21 o o_2 met=>self (at',many,left,t19,t20,t21,o,o_2,met)) s.1 s.2.1 s.2.2.1 s.2.2.2.1 s.2.2.2.2.1 s.2.2.2.2.2.1 s.2.2.2.2.2.2.1 s.2.2.2.2.2.2.2.1 s.2.2.2.2.2.2.2.2)
theorem aOG  (self:ajW)(at':Int)(many:Int)(left:Int)(t19:zP5)(t20:Int)(t21:Int)(o:Int)(o_2:Int)(met:List Bool):axN self (at',many,left,t19,t20,t21,o,o_2,met)=Pv (Px) (Dq (fun at' many left t19 t20 t21 o o_2 met=>self (at',many,left,t19,t20,t21,o,o_2,met))) (fun at' many left t19 t20 t21 o o_2 met=>self (at',many,left,t19,t20,t21,o,o_2,met)) at' many left t19 t20 t21 o o_2 met:=rfl
theorem aOH  (at':Int)(many:Int)(left:Int)(t19:zP5)(t20:Int)(t21:Int)(o:Int)(o_2:Int)(met:List Bool):Py at' many left t19 t20 t21 o o_2 met=ay (axN) 18446744073709551616 (at',many,left,t19,t20,t21,o,o_2,met):=rfl
def axO(u1:zP9):=(fun (self:ajV) (s:aA7)=>PK (GL u1 (fun at' many left to' i t19 t20 t21 o o_2 met x=>self (at',many,left,to',i,t19,t20,t21,o,o_2,met,x))) u1 (fun at' many left to' i t19 t20 t21 o o_2 met x=>self (at',many,left,to',i,t19,t20,t21,o,o_2,met,x)) s.1 s.2.1 s.2.2.1 s.2.2.2.1 s.2.2.2.2.1 s.2.2.2.2.2.1 s.2.2.2.2.2.2.1 s.2.2.2.2.2.2.2.1 s.2.2.2.2.2.2.2.2.1 s.2.2.2.2.2.2.2.2.2.1 s.2.2.2.2.2.2.2.2.2.2.1 s.2.2.2.2.2.2.2.2.2.2.2)
theorem aOI(u1:zP9)(self:ajV)(at' many left to' i:Int)(t19:zP5)(t20 t21 o o_2:Int)(met:List Bool)(x:zP6):axO u1 self (at',many,left,to',i,t19,t20,t21,o,o_2,met,x)=PK (GL u1 (fun at' many left to' i t19 t20 t21 o o_2 met x=>self (at',many,left,to',i,t19,t20,t21,o,o_2,met,x))) u1 (fun at' many left to' i t19 t20 t21 o o_2 met x=>self (at',many,left,to',i,t19,t20,t21,o,o_2,met,x)) at' many left to' i t19 t20 t21 o o_2 met x:=rfl
theorem aOJ(u1:zP9)(at' many left to' i:Int)(t19:zP5)(t20 t21 o o_2:Int)(met:List Bool)(x:zP6):Dt u1 at' many left to' i t19 t20 t21 o o_2 met x=ay (axO u1) 18446744073709551616 (at',many,left,to',i,t19,t20,t21,o,o_2,met,x):=rfl
def axP :=(fun (self:ajW) (s:aA8)=>PI (PL) (Dt (fun at' many left t19 t20 t21 o o_2 met=>self (at',many,left,t19,t20,t21,o,o_2,met))) (fun at' many left t19 t20 t21 o o_2 met=>self (at',many,left,t19,t20,t21,o,o_2,met)) s.1 s.2.1 s.2.2.1 s.2.2.2.1 s.2.2.2.2.1 s.2.2.2.2.2.1 s.2.2.2.2.2.2.1 s.2.2.2.2.2.2.2.1 s.2.2.2.2.2.2.2.2)
theorem aOK  (self:ajW)(at':Int)(many:Int)(left:Int)(t19:zP5)(t20:Int)(t21:Int)(o:Int)(o_2:Int)(met:List Bool):axP self (at',many,left,t19,t20,t21,o,o_2,met)=PI (PL) (Dt (fun at' many left t19 t20 t21 o o_2 met=>self (at',many,left,t19,t20,t21,o,o_2,met))) (fun at' many left t19 t20 t21 o o_2 met=>self (at',many,left,t19,t20,t21,o,o_2,met)) at' many left t19 t20 t21 o o_2 met:=rfl
theorem aOL  (at':Int)(many:Int)(left:Int)(t19:zP5)(t20:Int)(t21:Int)(o:Int)(o_2:Int)(met:List Bool):PN at' many left t19 t20 t21 o o_2 met=ay (axP) 18446744073709551616 (at',many,left,t19,t20,t21,o,o_2,met):=rfl
theorem ajX(u1:Int->Int->Int->List fo->Int->Int->List Bool->Option (As [.bool])){w:fo->Bool}{l:List fo}{p:Int}{m t:Nat}{r:As [.bool]}(hp:0≤p)(hpm:p+(m:Int)≤1000000000000)(ht:t<l.length)(hw:∀x,Ag (x,())=some (w x,())){f to':Int}(hf:p≤f)(hfe:f≤p+(m:Int))(hte:to'≤p+(m:Int))
  (hcov:∀i,p≤i->i<p+(m:Int)->(jN l[t] i=true↔f≤i∧i<to')) (hR:∀met left,kU w l p m (fun i=>(iB (l.take (t+1)) i).isSome) met left->u1 p (m:Int) left l (l.length:Int) (add .i64 (t:Int) 1) met=some r) (hr:iG w l p m=false->r=(false,()))
  (met:List Bool) (left:Int) (h:kU w l p m (fun i=>(iB (l.take t) i).isSome) met left) :
  Dp u1 p (m:Int) left to' f l (l.length:Int) (t:Int) met l[t]=some r:=by
 rw[aOx]
 refine mO (Inv:=fun s=>∃(i:Int) (met:List Bool) (left:Int),s=(p,(m:Int),left,to',i,l,(l.length:Int),(t:Int),met,l[t])∧f≤i∧(i≤to'∨i=f)∧kU w l p m (fun j=>(iB (l.take t) j).isSome || (decide (f≤j) && decide (j<i))) met left)
  (μ:=fun s=>(to' - s.2.2.2.2.1).toNat) (G:=fun _=>some r) ?_ _ _ ⟨f,met,left,rfl,Int.le_refl _,.inr rfl,oZ h fun k hk=>by
   have:(decide (f≤p+(k:Int)) && decide (p+(k:Int)<f))=false:=by
    by_cases hh:f≤p+(k:Int)
    ·rw[decide_eq_false (show ¬ (p+(k:Int)<f) by omega),Bool.and_false]
    ·rw[decide_eq_false hh,Bool.false_and]
   rw[this,Bool.or_false]⟩ (by dsimp only;omega)
 rintro self s ⟨i,met,left,rfl,hi1,hi2,hI⟩ ih;rw[aOw];unfold Pp;by_cases hlt:i<to'
 ·rw[if_pos (cr.2 hlt)]
  have hk:(i - p).toNat<m:=by omega
  have hki:p+(((i - p).toNat:Nat):Int)=i:=by omega
  have hs:sub .i64 i p=(((i - p).toNat:Nat):Int):=by rw[jO (by omega) (by omega)];omega
  obtain⟨g1,g2⟩:=hI.2.2 _ hk;dsimp only at g1 g2;rw[hki]at g1 g2;have hdf:(decide (f≤i) && decide (i<i))=false:=by rw[decide_eq_false (show ¬ i<i by omega),Bool.and_false]
  rw[hdf,Bool.or_false]at g1 g2;have K4:∀left met,GD u1 (fun at' many left to' i t19 t20 t21 met x=>self (at',many,left,to',i,t19,t20,t21,met,x)) p (m:Int) left to' i l (l.length:Int) (t:Int) met l[t]=self (p,(m:Int),left,to',i+1,l,(l.length:Int),(t:Int),met,l[t]):=fun left met=>by unfold GD anU;rw[iF (by omega) (by omega)]
  have hcong:∀(k:Nat),k<m->∀b:Bool,b=(((iB (l.take t) (p+(k:Int))).isSome || (decide (f≤p+(k:Int)) && decide (p+(k:Int)<i))) || decide (p+(k:Int)=i))->((iB (l.take t) (p+(k:Int))).isSome || (decide (f≤p+(k:Int)) && decide (p+(k:Int)<i+1)))=b:=fun k hk b hc=>by
   rw[hc,Bool.or_assoc]
   congr 1
   rw[Bool.eq_iff_iff];simp only[Bool.or_eq_true,zO,decide_eq_true_eq];omega
  rw[hs,d9 g1];simp only[zD]
  cases hb:(iB (l.take t) i).isSome with
  | true =>
   rw[if_pos rfl,K4];refine ih _ ⟨i+1,met,left,rfl,by omega,.inl (by omega),oZ hI (fun k hk=>hcong k hk _ ?_)⟩ (by dsimp only;omega);by_cases hki':p+(k:Int)=i
   ·rw[hki',hb,Bool.true_or,Bool.true_or]
   ·rw[decide_eq_false hki',Bool.or_false]
  | false =>
   rw[if_neg (by decide),hw,zD];dsimp only;have hnone:iB (l.take t) i=none:=by simpa using hb
   have hfirst:iB l i=some l[t]:=by have hc:=(hcov i (by omega) (by omega)).2 ⟨hi1,hlt⟩;have:=lu ht i;rw[hnone,hc]at this;exact sS this
   have hwf:jW w l i=w l[t]:=by unfold jW;rw[hfirst]
   cases hwx:w l[t]with
   | false =>
    rw[if_pos (by decide)];rw[hr (uT hk (by rw[hki,hwf,hwx]))]
   | true =>
    rw[if_neg (by decide)];have hset:=Ck hI hk (by rw[hki,hdf,Bool.or_false];exact hb) (by rw[hki,hwf,hwx]);rw[zP,K4];have hl1:sub .i64 left 1=left - 1:=by have:=hI.2.1;have h2:=List.countP_le_length (p:=fun b:Bool=>!b) (l:=met);have h3:=hI.1;rw[jO (by omega) (by omega)]
    rw[hl1];refine ih _ ⟨i+1,_,_,rfl,by omega,.inl (by omega),oZ hset (fun k hk=>hcong k hk _ ?_)⟩ (by dsimp only;omega);rw[hki]
 ·rw[if_neg (fun e=>hlt (cr.1 e))]
  refine hR met left (oZ hI fun k hk=>?_);have hc:=hcov (p+(k:Int)) (by omega) (by omega);rw[lu ht];have hcb:jN l[t] (p+(k:Int))=(decide (f≤p+(k:Int)) && decide (p+(k:Int)<i)):=by rw[Bool.eq_iff_iff,hc];simp only[zO,decide_eq_true_eq];omega
  rw[<- hcb]
  cases hx:iB (l.take t) (p+(k:Int)) with
  | some y=>rfl
  | none =>
   cases jN l[t] (p+(k:Int))<;>rfl
theorem ajY{w:fo->Bool}{l:List fo}{p:Int}{m:Nat}(hp:0≤p)(hm:m≤1000000)(hpm:p≤1000000)(hl:l.length≤1000000)(ho:∀x∈l,sG x)(hw:∀x,Ag (x,())=some (w x,())):Yn (l,p,(m:Int),())=some (iG w l p m,()):=by
 show Ym Pt l p (m:Int)=_;unfold Ym;rw[gy (gU.2 (by omega)),gy (qU _),zP,gZ (by omega)];rw[aOz]
 refine mO (Inv:=fun s=>∃(t:Nat) (met:List Bool) (left:Int),s=(p,(m:Int),left,l,(l.length:Int),(t:Int),met)∧t≤l.length∧kU w l p m (fun i=>(iB (l.take t) i).isSome) met left)
  (μ:=fun s=>(zF l.length - s.2.2.2.2.2.1).toNat) (G:=fun _=>some (iG w l p m,())) ?_ _ _ ⟨0,_,_,rfl,Nat.zero_le _,MU w l p m⟩ (by dsimp only;rw[bu];omega)
 rintro self s ⟨t,met,left,rfl,ht,hI⟩ ih;rw[aOy];unfold Po;have k2:Pq left=some (eqi left 0,()):=rfl;by_cases hlt:t<l.length
 ·have hg:=zU hlt
  rw[if_pos (by rw[cr];omega),d9 hg,zD];by_cases h0:left=0
  ·rw[if_pos (au.2 h0),k2,au.2 h0,oq hI h0]
  ·rw[if_neg (fun e=>h0 (au.1 e)),iF (by omega) (by omega)]
   obtain⟨f,t',e1,e2,e3,e4,e5⟩:=yD (x:=l[t]) (p:=p) (e:=p+(m:Int)) hp (by omega) (by omega) (ho _ (List.getElem_mem hlt));rw[e1,zD];refine ajX _ hp (by omega) hlt hw e2 e3 e4 e5 (fun met left hI'=>?_) (fun e=>by rw[e]) met left hI;rw[gJ (by omega)];exact ih _ ⟨t+1,met,left,rfl,by omega,hI'⟩ (by dsimp only;rw[bu];omega)
 ·have htl:t=l.length:=by omega
  subst htl;rw[if_neg (by rw[cr];omega),k2];by_cases h0:left=0
  ·rw[au.2 h0,oq hI h0]
  ·rw[List.take_length]at hI
   rw[yE hI h0,show eqi left 0=false from decide_eq_false h0]
theorem ajZ(u1:Int->Int->Int->List fo->Int->Int->List Bool->Option (As [.bool])){w:fo->Bool}{l:List fo}{p:Int}{m t:Nat}{r:As [.bool]}(hp:0≤p)(hpm:p+(m:Int)≤1000000000000)(ht:t<l.length)(hw:∀x,Ah (x,())=some (w x,())){f to':Int}(hf:p≤f)(hfe:f≤p+(m:Int))(hte:to'≤p+(m:Int))
  (hcov:∀i,p≤i->i<p+(m:Int)->(jN l[t] i=true↔f≤i∧i<to')) (hR:∀met left,kU w l p m (fun i=>(iB (l.take (t+1)) i).isSome) met left->u1 p (m:Int) left l (l.length:Int) (add .i64 (t:Int) 1) met=some r) (hr:iG w l p m=false->r=(false,()))
  (met:List Bool) (left:Int) (h:kU w l p m (fun i=>(iB (l.take t) i).isSome) met left) :
  Dr u1 p (m:Int) left to' f l (l.length:Int) (t:Int) met l[t]=some r:=by
 rw[aOB]
 refine mO (Inv:=fun s=>∃(i:Int) (met:List Bool) (left:Int),s=(p,(m:Int),left,to',i,l,(l.length:Int),(t:Int),met,l[t])∧f≤i∧(i≤to'∨i=f)∧kU w l p m (fun j=>(iB (l.take t) j).isSome || (decide (f≤j) && decide (j<i))) met left)
  (μ:=fun s=>(to' - s.2.2.2.2.1).toNat) (G:=fun _=>some r) ?_ _ _ ⟨f,met,left,rfl,Int.le_refl _,.inr rfl,oZ h fun k hk=>by
   have:(decide (f≤p+(k:Int)) && decide (p+(k:Int)<f))=false:=by
    by_cases hh:f≤p+(k:Int)
    ·rw[decide_eq_false (show ¬ (p+(k:Int)<f) by omega),Bool.and_false]
    ·rw[decide_eq_false hh,Bool.false_and]
   rw[this,Bool.or_false]⟩ (by dsimp only;omega)
 rintro self s ⟨i,met,left,rfl,hi1,hi2,hI⟩ ih;rw[aOA];unfold PD;by_cases hlt:i<to'
 ·rw[if_pos (cr.2 hlt)]
  have hk:(i - p).toNat<m:=by omega
  have hki:p+(((i - p).toNat:Nat):Int)=i:=by omega
  have hs:sub .i64 i p=(((i - p).toNat:Nat):Int):=by rw[jO (by omega) (by omega)];omega
  obtain⟨g1,g2⟩:=hI.2.2 _ hk;dsimp only at g1 g2;rw[hki]at g1 g2;have hdf:(decide (f≤i) && decide (i<i))=false:=by rw[decide_eq_false (show ¬ i<i by omega),Bool.and_false]
  rw[hdf,Bool.or_false]at g1 g2;have K4:∀left met,GJ u1 (fun at' many left to' i t19 t20 t21 met x=>self (at',many,left,to',i,t19,t20,t21,met,x)) p (m:Int) left to' i l (l.length:Int) (t:Int) met l[t]=self (p,(m:Int),left,to',i+1,l,(l.length:Int),(t:Int),met,l[t]):=fun left met=>by unfold GJ an6;rw[iF (by omega) (by omega)]
  have hcong:∀(k:Nat),k<m->∀b:Bool,b=(((iB (l.take t) (p+(k:Int))).isSome || (decide (f≤p+(k:Int)) && decide (p+(k:Int)<i))) || decide (p+(k:Int)=i))->((iB (l.take t) (p+(k:Int))).isSome || (decide (f≤p+(k:Int)) && decide (p+(k:Int)<i+1)))=b:=fun k hk b hc=>by
   rw[hc,Bool.or_assoc]
   congr 1
   rw[Bool.eq_iff_iff];simp only[Bool.or_eq_true,zO,decide_eq_true_eq];omega
  rw[hs,d9 g1];simp only[zD]
  cases hb:(iB (l.take t) i).isSome with
  | true =>
   rw[if_pos rfl,K4];refine ih _ ⟨i+1,met,left,rfl,by omega,.inl (by omega),oZ hI (fun k hk=>hcong k hk _ ?_)⟩ (by dsimp only;omega);by_cases hki':p+(k:Int)=i
   ·rw[hki',hb,Bool.true_or,Bool.true_or]
   ·rw[decide_eq_false hki',Bool.or_false]
  | false =>
   rw[if_neg (by decide),hw,zD];dsimp only;have hnone:iB (l.take t) i=none:=by simpa using hb
   have hfirst:iB l i=some l[t]:=by have hc:=(hcov i (by omega) (by omega)).2 ⟨hi1,hlt⟩;have:=lu ht i;rw[hnone,hc]at this;exact sS this
   have hwf:jW w l i=w l[t]:=by unfold jW;rw[hfirst]
   cases hwx:w l[t]with
   | false =>
    rw[if_pos (by decide)];rw[hr (uT hk (by rw[hki,hwf,hwx]))]
   | true =>
    rw[if_neg (by decide)];have hset:=Ck hI hk (by rw[hki,hdf,Bool.or_false];exact hb) (by rw[hki,hwf,hwx]);rw[zP,K4];have hl1:sub .i64 left 1=left - 1:=by have:=hI.2.1;have h2:=List.countP_le_length (p:=fun b:Bool=>!b) (l:=met);have h3:=hI.1;rw[jO (by omega) (by omega)]
    rw[hl1];refine ih _ ⟨i+1,_,_,rfl,by omega,.inl (by omega),oZ hset (fun k hk=>hcong k hk _ ?_)⟩ (by dsimp only;omega);rw[hki]
 ·rw[if_neg (fun e=>hlt (cr.1 e))]
  refine hR met left (oZ hI fun k hk=>?_);have hc:=hcov (p+(k:Int)) (by omega) (by omega);rw[lu ht];have hcb:jN l[t] (p+(k:Int))=(decide (f≤p+(k:Int)) && decide (p+(k:Int)<i)):=by rw[Bool.eq_iff_iff,hc];simp only[zO,decide_eq_true_eq];omega
  rw[<- hcb]
  cases hx:iB (l.take t) (p+(k:Int)) with
  | some y=>rfl
  | none =>
   cases jN l[t] (p+(k:Int))<;>rfl
theorem aj0{w:fo->Bool}{l:List fo}{p:Int}{m:Nat}(hp:0≤p)(hm:m≤1000000)(hpm:p≤1000000)(hl:l.length≤1000000)(ho:∀x∈l,sG x)(hw:∀x,Ah (x,())=some (w x,())):Yu (l,p,(m:Int),())=some (iG w l p m,()):=by
 show Yt PG l p (m:Int)=_;unfold Yt;rw[gy (gU.2 (by omega)),gy (qU _),zP,gZ (by omega)];rw[aOD]
 refine mO (Inv:=fun s=>∃(t:Nat) (met:List Bool) (left:Int),s=(p,(m:Int),left,l,(l.length:Int),(t:Int),met)∧t≤l.length∧kU w l p m (fun i=>(iB (l.take t) i).isSome) met left)
  (μ:=fun s=>(zF l.length - s.2.2.2.2.2.1).toNat) (G:=fun _=>some (iG w l p m,())) ?_ _ _ ⟨0,_,_,rfl,Nat.zero_le _,MU w l p m⟩ (by dsimp only;rw[bu];omega)
 rintro self s ⟨t,met,left,rfl,ht,hI⟩ ih;rw[aOC];unfold Pz;have k2:PE left=some (eqi left 0,()):=rfl;by_cases hlt:t<l.length
 ·have hg:=zU hlt
  rw[if_pos (by rw[cr];omega),d9 hg,zD];by_cases h0:left=0
  ·rw[if_pos (au.2 h0),k2,au.2 h0,oq hI h0]
  ·rw[if_neg (fun e=>h0 (au.1 e)),iF (by omega) (by omega)]
   obtain⟨f,t',e1,e2,e3,e4,e5⟩:=yD (x:=l[t]) (p:=p) (e:=p+(m:Int)) hp (by omega) (by omega) (ho _ (List.getElem_mem hlt));rw[e1,zD];refine ajZ _ hp (by omega) hlt hw e2 e3 e4 e5 (fun met left hI'=>?_) (fun e=>by rw[e]) met left hI;rw[gJ (by omega)];exact ih _ ⟨t+1,met,left,rfl,by omega,hI'⟩ (by dsimp only;rw[bu];omega)
 ·have htl:t=l.length:=by omega
  subst htl;rw[if_neg (by rw[cr];omega),k2];by_cases h0:left=0
  ·rw[au.2 h0,oq hI h0]
  ·rw[List.take_length]at hI
   rw[yE hI h0,show eqi left 0=false from decide_eq_false h0]
theorem aj1(u1:Int->Int->Int->List fo->Int->Int->Int->Int->List Bool->Option (As [.bool,.int .i64,.int .i64])){w:fo->Bool}{l:List fo}{p:Int}{m t:Nat}{r:As [.bool,.int .i64,.int .i64]}{o o2:Int}(hp:0≤p)(hpm:p+(m:Int)≤1000000000000)(ht:t<l.length)(hw:∀x,xM (x,o,o2,())=some (w x,o,o2,())){f to':Int}(hf:p≤f)(hfe:f≤p+(m:Int))(hte:to'≤p+(m:Int))
  (hcov:∀i,p≤i->i<p+(m:Int)->(jN l[t] i=true↔f≤i∧i<to')) (hR:∀met left,kU w l p m (fun i=>(iB (l.take (t+1)) i).isSome) met left->u1 p (m:Int) left l (l.length:Int) (add .i64 (t:Int) 1) o o2 met=some r) (hr:iG w l p m=false->r=(false,o,o2,()))
  (met:List Bool) (left:Int) (h:kU w l p m (fun i=>(iB (l.take t) i).isSome) met left) :
  Dq u1 p (m:Int) left to' f l (l.length:Int) (t:Int) o o2 met l[t]=some r:=by
 rw[aOF]
 refine mO (Inv:=fun s=>∃(i:Int) (met:List Bool) (left:Int),s=(p,(m:Int),left,to',i,l,(l.length:Int),(t:Int),o,o2,met,l[t])∧f≤i∧(i≤to'∨i=f)∧kU w l p m (fun j=>(iB (l.take t) j).isSome || (decide (f≤j) && decide (j<i))) met left)
  (μ:=fun s=>(to' - s.2.2.2.2.1).toNat) (G:=fun _=>some r) ?_ _ _ ⟨f,met,left,rfl,Int.le_refl _,.inr rfl,oZ h fun k hk=>by
   have:(decide (f≤p+(k:Int)) && decide (p+(k:Int)<f))=false:=by
    by_cases hh:f≤p+(k:Int)
    ·rw[decide_eq_false (show ¬ (p+(k:Int)<f) by omega),Bool.and_false]
    ·rw[decide_eq_false hh,Bool.false_and]
   rw[this,Bool.or_false]⟩ (by dsimp only;omega)
 rintro self s ⟨i,met,left,rfl,hi1,hi2,hI⟩ ih;rw[aOE];unfold Pw;by_cases hlt:i<to'
 ·rw[if_pos (cr.2 hlt)]
  have hk:(i - p).toNat<m:=by omega
  have hki:p+(((i - p).toNat:Nat):Int)=i:=by omega
  have hs:sub .i64 i p=(((i - p).toNat:Nat):Int):=by rw[jO (by omega) (by omega)];omega
  obtain⟨g1,g2⟩:=hI.2.2 _ hk;dsimp only at g1 g2;rw[hki]at g1 g2;have hdf:(decide (f≤i) && decide (i<i))=false:=by rw[decide_eq_false (show ¬ i<i by omega),Bool.and_false]
  rw[hdf,Bool.or_false]at g1 g2;have K4:∀left met,GH u1 (fun at' many left to' i t19 t20 t21 o o2 met x=>self (at',many,left,to',i,t19,t20,t21,o,o2,met,x)) p (m:Int) left to' i l (l.length:Int) (t:Int) o o2 met l[t]=self (p,(m:Int),left,to',i+1,l,(l.length:Int),(t:Int),o,o2,met,l[t]):=fun left met=>by unfold GH an0;rw[iF (by omega) (by omega)]
  have hcong:∀(k:Nat),k<m->∀b:Bool,b=(((iB (l.take t) (p+(k:Int))).isSome || (decide (f≤p+(k:Int)) && decide (p+(k:Int)<i))) || decide (p+(k:Int)=i))->((iB (l.take t) (p+(k:Int))).isSome || (decide (f≤p+(k:Int)) && decide (p+(k:Int)<i+1)))=b:=fun k hk b hc=>by
   rw[hc,Bool.or_assoc]
   congr 1
   rw[Bool.eq_iff_iff];simp only[Bool.or_eq_true,zO,decide_eq_true_eq];omega
  rw[hs,d9 g1];simp only[zD]
  cases hb:(iB (l.take t) i).isSome with
  | true =>
   rw[if_pos rfl,K4];refine ih _ ⟨i+1,met,left,rfl,by omega,.inl (by omega),oZ hI (fun k hk=>hcong k hk _ ?_)⟩ (by dsimp only;omega);by_cases hki':p+(k:Int)=i
   ·rw[hki',hb,Bool.true_or,Bool.true_or]
   ·rw[decide_eq_false hki',Bool.or_false]
  | false =>
   rw[if_neg (by decide),hw,zD];dsimp only;have hnone:iB (l.take t) i=none:=by simpa using hb
   have hfirst:iB l i=some l[t]:=by have hc:=(hcov i (by omega) (by omega)).2 ⟨hi1,hlt⟩;have:=lu ht i;rw[hnone,hc]at this;exact sS this
   have hwf:jW w l i=w l[t]:=by unfold jW;rw[hfirst]
   cases hwx:w l[t]with
   | false =>
    rw[if_pos (by decide)];rw[hr (uT hk (by rw[hki,hwf,hwx]))]
   | true =>
    rw[if_neg (by decide)];have hset:=Ck hI hk (by rw[hki,hdf,Bool.or_false];exact hb) (by rw[hki,hwf,hwx]);rw[zP,K4];have hl1:sub .i64 left 1=left - 1:=by have:=hI.2.1;have h2:=List.countP_le_length (p:=fun b:Bool=>!b) (l:=met);have h3:=hI.1;rw[jO (by omega) (by omega)]
    rw[hl1];refine ih _ ⟨i+1,_,_,rfl,by omega,.inl (by omega),oZ hset (fun k hk=>hcong k hk _ ?_)⟩ (by dsimp only;omega);rw[hki]
 ·rw[if_neg (fun e=>hlt (cr.1 e))]
  refine hR met left (oZ hI fun k hk=>?_);have hc:=hcov (p+(k:Int)) (by omega) (by omega);rw[lu ht];have hcb:jN l[t] (p+(k:Int))=(decide (f≤p+(k:Int)) && decide (p+(k:Int)<i)):=by rw[Bool.eq_iff_iff,hc];simp only[zO,decide_eq_true_eq];omega
  rw[<- hcb]
  cases hx:iB (l.take t) (p+(k:Int)) with
  | some y=>rfl
  | none =>
   cases jN l[t] (p+(k:Int))<;>rfl
theorem aj2{w:fo->Bool}{l:List fo}{p:Int}{m:Nat}(hp:0≤p)(hm:m≤1000000)(hpm:p≤1000000)(hl:l.length≤1000000)(ho:∀x∈l,sG x){o o2:Int}(hw:∀x,xM (x,o,o2,())=some (w x,o,o2,())):Yq (l,p,(m:Int),o,o2,())=some (iG w l p m,o,o2,()):=by
 show Yp Py l p (m:Int) o o2=_;unfold Yp;rw[gy (gU.2 (by omega)),gy (qU _),zP,gZ (by omega)];rw[aOH]
 refine mO (Inv:=fun s=>∃(t:Nat) (met:List Bool) (left:Int),s=(p,(m:Int),left,l,(l.length:Int),(t:Int),o,o2,met)∧t≤l.length∧kU w l p m (fun i=>(iB (l.take t) i).isSome) met left)
  (μ:=fun s=>(zF l.length - s.2.2.2.2.2.1).toNat) (G:=fun _=>some (iG w l p m,o,o2,())) ?_ _ _ ⟨0,_,_,rfl,Nat.zero_le _,MU w l p m⟩ (by dsimp only;rw[bu];omega)
 rintro self s ⟨t,met,left,rfl,ht,hI⟩ ih;rw[aOG];unfold Pv;have k2:Px left o o2=some (eqi left 0,o,o2,()):=rfl;by_cases hlt:t<l.length
 ·have hg:=zU hlt
  rw[if_pos (by rw[cr];omega),d9 hg,zD];by_cases h0:left=0
  ·rw[if_pos (au.2 h0),k2,au.2 h0,oq hI h0]
  ·rw[if_neg (fun e=>h0 (au.1 e)),iF (by omega) (by omega)]
   obtain⟨f,t',e1,e2,e3,e4,e5⟩:=yD (x:=l[t]) (p:=p) (e:=p+(m:Int)) hp (by omega) (by omega) (ho _ (List.getElem_mem hlt));rw[e1,zD];refine aj1 _ hp (by omega) hlt hw e2 e3 e4 e5 (fun met left hI'=>?_) (fun e=>by rw[e]) met left hI;rw[gJ (by omega)];exact ih _ ⟨t+1,met,left,rfl,by omega,hI'⟩ (by dsimp only;rw[bu];omega)
 ·have htl:t=l.length:=by omega
  subst htl;rw[if_neg (by rw[cr];omega),k2];by_cases h0:left=0
  ·rw[au.2 h0,oq hI h0]
  ·rw[List.take_length]at hI
   rw[yE hI h0,show eqi left 0=false from decide_eq_false h0]
theorem aj3(u1:Int->Int->Int->List fo->Int->Int->Int->Int->List Bool->Option (As [.bool,.int .i64,.int .i64])){w:fo->Bool}{l:List fo}{p:Int}{m t:Nat}{r:As [.bool,.int .i64,.int .i64]}{o o2:Int}(hp:0≤p)(hpm:p+(m:Int)≤1000000000000)(ht:t<l.length)(hw:∀x,Fa (x,o,o2,())=some (w x,o,o2,())){f to':Int}(hf:p≤f)(hfe:f≤p+(m:Int))(hte:to'≤p+(m:Int))
  (hcov:∀i,p≤i->i<p+(m:Int)->(jN l[t] i=true↔f≤i∧i<to')) (hR:∀met left,kU w l p m (fun i=>(iB (l.take (t+1)) i).isSome) met left->u1 p (m:Int) left l (l.length:Int) (add .i64 (t:Int) 1) o o2 met=some r) (hr:iG w l p m=false->r=(false,o,o2,()))
  (met:List Bool) (left:Int) (h:kU w l p m (fun i=>(iB (l.take t) i).isSome) met left) :
  Dt u1 p (m:Int) left to' f l (l.length:Int) (t:Int) o o2 met l[t]=some r:=by
 rw[aOJ]
 refine mO (Inv:=fun s=>∃(i:Int) (met:List Bool) (left:Int),s=(p,(m:Int),left,to',i,l,(l.length:Int),(t:Int),o,o2,met,l[t])∧f≤i∧(i≤to'∨i=f)∧kU w l p m (fun j=>(iB (l.take t) j).isSome || (decide (f≤j) && decide (j<i))) met left)
  (μ:=fun s=>(to' - s.2.2.2.2.1).toNat) (G:=fun _=>some r) ?_ _ _ ⟨f,met,left,rfl,Int.le_refl _,.inr rfl,oZ h fun k hk=>by
   have:(decide (f≤p+(k:Int)) && decide (p+(k:Int)<f))=false:=by
    by_cases hh:f≤p+(k:Int)
    ·rw[decide_eq_false (show ¬ (p+(k:Int)<f) by omega),Bool.and_false]
    ·rw[decide_eq_false hh,Bool.false_and]
   rw[this,Bool.or_false]⟩ (by dsimp only;omega)
 rintro self s ⟨i,met,left,rfl,hi1,hi2,hI⟩ ih;rw[aOI];unfold PK;by_cases hlt:i<to'
 ·rw[if_pos (cr.2 hlt)]
  have hk:(i - p).toNat<m:=by omega
  have hki:p+(((i - p).toNat:Nat):Int)=i:=by omega
  have hs:sub .i64 i p=(((i - p).toNat:Nat):Int):=by rw[jO (by omega) (by omega)];omega
  obtain⟨g1,g2⟩:=hI.2.2 _ hk;dsimp only at g1 g2;rw[hki]at g1 g2;have hdf:(decide (f≤i) && decide (i<i))=false:=by rw[decide_eq_false (show ¬ i<i by omega),Bool.and_false]
  rw[hdf,Bool.or_false]at g1 g2;have K4:∀left met,GL u1 (fun at' many left to' i t19 t20 t21 o o2 met x=>self (at',many,left,to',i,t19,t20,t21,o,o2,met,x)) p (m:Int) left to' i l (l.length:Int) (t:Int) o o2 met l[t]=self (p,(m:Int),left,to',i+1,l,(l.length:Int),(t:Int),o,o2,met,l[t]):=fun left met=>by unfold GL aoc;rw[iF (by omega) (by omega)]
  have hcong:∀(k:Nat),k<m->∀b:Bool,b=(((iB (l.take t) (p+(k:Int))).isSome || (decide (f≤p+(k:Int)) && decide (p+(k:Int)<i))) || decide (p+(k:Int)=i))->((iB (l.take t) (p+(k:Int))).isSome || (decide (f≤p+(k:Int)) && decide (p+(k:Int)<i+1)))=b:=fun k hk b hc=>by
   rw[hc,Bool.or_assoc]
   congr 1
   rw[Bool.eq_iff_iff];simp only[Bool.or_eq_true,zO,decide_eq_true_eq];omega
  rw[hs,d9 g1];simp only[zD]
  cases hb:(iB (l.take t) i).isSome with
  | true =>
   rw[if_pos rfl,K4];refine ih _ ⟨i+1,met,left,rfl,by omega,.inl (by omega),oZ hI (fun k hk=>hcong k hk _ ?_)⟩ (by dsimp only;omega);by_cases hki':p+(k:Int)=i
   ·rw[hki',hb,Bool.true_or,Bool.true_or]
   ·rw[decide_eq_false hki',Bool.or_false]
  | false =>
   rw[if_neg (by decide),hw,zD];dsimp only;have hnone:iB (l.take t) i=none:=by simpa using hb
   have hfirst:iB l i=some l[t]:=by have hc:=(hcov i (by omega) (by omega)).2 ⟨hi1,hlt⟩;have:=lu ht i;rw[hnone,hc]at this;exact sS this
   have hwf:jW w l i=w l[t]:=by unfold jW;rw[hfirst]
   cases hwx:w l[t]with
   | false =>
    rw[if_pos (by decide)];rw[hr (uT hk (by rw[hki,hwf,hwx]))]
   | true =>
    rw[if_neg (by decide)];have hset:=Ck hI hk (by rw[hki,hdf,Bool.or_false];exact hb) (by rw[hki,hwf,hwx]);rw[zP,K4];have hl1:sub .i64 left 1=left - 1:=by have:=hI.2.1;have h2:=List.countP_le_length (p:=fun b:Bool=>!b) (l:=met);have h3:=hI.1;rw[jO (by omega) (by omega)]
    rw[hl1];refine ih _ ⟨i+1,_,_,rfl,by omega,.inl (by omega),oZ hset (fun k hk=>hcong k hk _ ?_)⟩ (by dsimp only;omega);rw[hki]
 ·rw[if_neg (fun e=>hlt (cr.1 e))]
  refine hR met left (oZ hI fun k hk=>?_);have hc:=hcov (p+(k:Int)) (by omega) (by omega);rw[lu ht];have hcb:jN l[t] (p+(k:Int))=(decide (f≤p+(k:Int)) && decide (p+(k:Int)<i)):=by rw[Bool.eq_iff_iff,hc];simp only[zO,decide_eq_true_eq];omega
  rw[<- hcb]
  cases hx:iB (l.take t) (p+(k:Int)) with
  | some y=>rfl
  | none =>
   cases jN l[t] (p+(k:Int))<;>rfl
theorem aj4{w:fo->Bool}{l:List fo}{p:Int}{m:Nat}(hp:0≤p)(hm:m≤1000000)(hpm:p≤1000000)(hl:l.length≤1000000)(ho:∀x∈l,sG x){o o2:Int}(hw:∀x,Fa (x,o,o2,())=some (w x,o,o2,())):Yy (l,p,(m:Int),o,o2,())=some (iG w l p m,o,o2,()):=by
 show Yx PN l p (m:Int) o o2=_;unfold Yx;rw[gy (gU.2 (by omega)),gy (qU _),zP,gZ (by omega)];rw[aOL]
 refine mO (Inv:=fun s=>∃(t:Nat) (met:List Bool) (left:Int),s=(p,(m:Int),left,l,(l.length:Int),(t:Int),o,o2,met)∧t≤l.length∧kU w l p m (fun i=>(iB (l.take t) i).isSome) met left)
  (μ:=fun s=>(zF l.length - s.2.2.2.2.2.1).toNat) (G:=fun _=>some (iG w l p m,o,o2,())) ?_ _ _ ⟨0,_,_,rfl,Nat.zero_le _,MU w l p m⟩ (by dsimp only;rw[bu];omega)
 rintro self s ⟨t,met,left,rfl,ht,hI⟩ ih;rw[aOK];unfold PI;have k2:PL left o o2=some (eqi left 0,o,o2,()):=rfl;by_cases hlt:t<l.length
 ·have hg:=zU hlt
  rw[if_pos (by rw[cr];omega),d9 hg,zD];by_cases h0:left=0
  ·rw[if_pos (au.2 h0),k2,au.2 h0,oq hI h0]
  ·rw[if_neg (fun e=>h0 (au.1 e)),iF (by omega) (by omega)]
   obtain⟨f,t',e1,e2,e3,e4,e5⟩:=yD (x:=l[t]) (p:=p) (e:=p+(m:Int)) hp (by omega) (by omega) (ho _ (List.getElem_mem hlt));rw[e1,zD];refine aj3 _ hp (by omega) hlt hw e2 e3 e4 e5 (fun met left hI'=>?_) (fun e=>by rw[e]) met left hI;rw[gJ (by omega)];exact ih _ ⟨t+1,met,left,rfl,by omega,hI'⟩ (by dsimp only;rw[bu];omega)
 ·have htl:t=l.length:=by omega
  subst htl;rw[if_neg (by rw[cr];omega),k2];by_cases h0:left=0
  ·rw[au.2 h0,oq hI h0]
  ·rw[List.take_length]at hI
   rw[yE hI h0,show eqi left 0=false from decide_eq_false h0]
end Go.Proofs.Lx
end
