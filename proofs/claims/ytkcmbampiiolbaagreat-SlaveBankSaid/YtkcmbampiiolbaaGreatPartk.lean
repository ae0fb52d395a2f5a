/- Proved in the last of these 13 parts (this is part 11): SlaveBank returns true, whatever the link, the bank, the ticks and what comes. Conditions: those of the given statement, and no others. -/
import Derived.Test.YtkcmbampiiolbaaGreatPartj
import Derived.Test.YtkcmbampiiolbaaGreatParti
set_option linter.unusedVariables false
set_option linter.unusedSimpArgs false
set_option linter.unusedSectionVars false
section
namespace Go.Proofs.Lx
open Go Ev Sx Pl
set_option maxRecDepth 100000
theorem wr32 (x:Int):IntKind.u32.wrap x=x % 4294967296:=by
 simp only [IntKind.wrap,IntKind.signed,IntKind.bits]
 simp
theorem shr16 {x:Int}:shr .u32 x 16=x / 65536:=by
 unfold shr
 have:min (16:Int).toNat IntKind.u32.bits=16:=by decide
 rw [this,Int.fdiv_eq_ediv_of_nonneg _ (by decide)]
 rfl
theorem parts_eq {x:Int} (h0:0≤x) (h1:x≤4294967295):qaa_ (x,())=some (x / 65536,x % 65536,()):=by
 show qow_ x=_
 unfold qow_
 rw [shr16,cvt16,cvt16,show x / 65536 % 65536=x / 65536 by omega]
theorem shl16 {y:Int} (h0:0≤y) (h1:y≤65535):shl .u32 (cvt .u32 y) 16=65536 * y:=by
 unfold cvt
 rw [wr32]
 unfold shl
 have:min (16:Int).toNat IntKind.u32.bits=16:=by decide
 rw [this,wr32]
 omega
theorem bor_lo {a b:Int} (ha:0≤a) (ha2:a≤65535) (hb:0≤b) (hb':b≤65535):bor .u32 (65536 * a) b=65536 * a + b:=by
 obtain ⟨n,rfl⟩:=Int.eq_ofNat_of_zero_le ha
 obtain ⟨m,rfl⟩:=Int.eq_ofNat_of_zero_le hb
 unfold bor
 rw [wr32]
 have e1:(BitVec.ofInt IntKind.u32.bits (65536 * (n:Int))).toNat=65536 * n:=by
  rw [BitVec.toNat_ofInt]
  have:((2 ^ IntKind.u32.bits:Nat):Int)=4294967296:=by decide
  rw [this]
  omega
 have e2:(BitVec.ofInt IntKind.u32.bits (m:Int)).toNat=m:=by
  rw [BitVec.toNat_ofInt]
  have:((2 ^ IntKind.u32.bits:Nat):Int)=4294967296:=by decide
  rw [this]
  omega
 rw [BitVec.toNat_or,e1,e2]
 have e3:65536 * n ||| m=65536 * n + m:=by
  have:=Nat.two_pow_add_eq_or_of_lt (i:=16) (b:=m) (by omega) n
  rw [show (2:Nat) ^ 16=65536 from rfl] at this
  exact this.symm
 rw [e3]
 omega
theorem wide_eq {a b:Int} (ha:0≤a) (ha2:a≤65535) (hb:0≤b) (hb':b≤65535):qfq_ (a,b,())=some (65536 * a + b,()):=by
 show qqr_ a b=_
 unfold qqr_
 rw [shl16 ha ha2,show cvt .u32 b=b from wu32 hb (by omega),bor_lo ha ha2 hb hb']
theorem there_eq {st:Int} {hv:List Bool} {bs:List TBlk} (h:hv.length=8):qjo_ ((st,hv,bs),())=some (((hv.count true:Nat):Int),()):=by
 show qdr_ 0 hv 0=_
 unfold qdr_
 refine (loop_dt (N:=8) (mk:=fun i=>((((hv.take i).count true:Nat):Int),hv,(i:Int))) (r:=some (((hv.count true:Nat):Int),())) ?_ ?_ 8 0 _ (by omega) (by omega))
 ·intro self i hi
  show qab_ _ (((hv.take i).count true:Nat):Int) hv (i:Int)=_
  obtain ⟨x,hx⟩:=get_of (xs:=hv) (i:=i) (by omega)
  have l8:lt (i:Int) 8=true:=q7_.2 (by omega)
  have hle:(hv.take i).count true≤8:=by
   have:=List.count_le_length (a:=true) (l:=hv.take i)
   rw [List.length_take] at this
   omega
  have e:(hv.take (i + 1)).count true=(hv.take i).count true + (if x=true then 1 else 0):=by
   rw [List.take_add_one,hx,List.count_append]
   cases x <;> rfl
  unfold qab_
  rw [if_pos l8,q8_ l8,qj_ hx,Option.bind_some,q15_ (by omega),q15_ (by omega),e]
  cases x with
  | true=>rfl
  | false=>rfl
 ·intro self
  show qab_ _ (((hv.take 8).count true:Nat):Int) hv (8:Int)=_
  unfold qab_
  rw [if_neg (by decide),List.take_of_length_le (by omega)]
theorem sown_eq {x:TBlk} (h:x.2.length≤1000):qez_ (x,())=some (x,()):=by
 show qrm_ x=_
 unfold qrm_
 rw [q4t_ (by omega)]
 rfl
theorem number_eq (n:Int):qb6_ (n,())=some (decide (0≤n∧n≤7),()):=by
 show qne_ n=_
 unfold qne_
 by_cases h:0≤n
 ·rw [if_pos (q12_.2 h),lt_dec]
  refine congrArg (fun b=>some (b,())) ?_
  rw [Bool.eq_iff_iff,decide_eq_true_eq,decide_eq_true_eq]
  omega
 ·rw [if_neg (fun e=>h (q12_.1 e)),decide_eq_false (by omega)]
def itB (x:TBlk):List Int:=if fitsB x=true then x.1::(x.2.length:Int)::x.2++List.replicate (14 - x.2.length) 0 else List.replicate 16 0
theorem it_m2 (s:List Int->Option (As [.sl (.int .u16)])) (l:List Int):qhh_ s l=if lt (Int.ofNat l.length) 16=true then need (small (l.length + 1)) (s (l++[0])) else some (l,()):=rfl
theorem it_K2:∀ (k:Nat) (l:List Int) (n:Nat),l.length + k=16->k < n->loopF (fun (self:List Int->Option (As [.sl (.int .u16)])) (s:List Int)=>qhh_ (fun l=>self l) s) n l=some (l++List.replicate k 0,())
 | _,_,0,_,h=>by omega
 | 0,l,n + 1,h,_=>by
  rw [q20_,it_m2,if_neg (by rw [q7_,q1_]; omega)]
  simp
 | k + 1,l,n + 1,h,hn=>by
  rw [q20_,it_m2,if_pos (by rw [q7_,q1_]; omega),qm_ (by omega),it_K2 k (l++[0]) n (by simp; omega) (by omega),List.append_assoc]
  rfl
theorem itself_eq {x:TBlk} (h:x.2.length≤1000):q8s_ (x,())=some (itB x,()):=by
 show qhd_ qc9_ x=_
 unfold qhd_ itB
 rw [bfits_eq (by omega),Option.bind_some]
 have K:∀ (l:List Int) k,l.length + k=16->qc9_ l=some (l++List.replicate k 0,()):=fun l k hk=>by
  show qcp_ l=_
  unfold qcp_
  exact it_K2 k l _ hk (by omega)
 by_cases hf:fitsB x=true
 ·rw [if_pos hf,if_pos hf]
  have hf2:=of_decide_eq_true hf
  rw [qm_ (by omega),qm_ (by omega),cvt16,cvt16,q1_,Int.emod_eq_of_lt (by omega) (by omega),Int.emod_eq_of_lt (by omega) (by omega),K _ (14 - x.2.length) (by simp; omega)]
 ·rw [if_neg hf,if_neg hf]
  exact K [] 16 rfl
theorem itB_len {x:TBlk}:(itB x).length=16:=by
 unfold itB
 split
 ·rename_i h
  have:=of_decide_eq_true h
  simp
  omega
 ·simp
def tagB (o tx n:Int) (x:TBlk):List Int:=o::tx / 65536::tx % 65536::n::itB x
theorem tagB_len {o tx n:Int} {x:TBlk}:(tagB o tx n x).length=20:=by
 unfold tagB
 simp [itB_len]
theorem tagged_eq {o tx n:Int} {x:TBlk} (h0:0≤tx) (h1:tx≤4294967295) (hn:0≤n∧n≤7) (h:x.2.length≤1000):qhp_ (o,tx,n,x,())=some (tagB o tx n x,()):=by
 show qmi_ o tx n x=_
 unfold qmi_
 rw [parts_eq h0 h1,Option.bind_some,qm_ (by omega),itself_eq h,Option.bind_some,qm_ (by rw [itB_len]; omega),show cvt .u16 n=n from wu16 hn.1 (by omega)]
 rfl
def backS (s:TStg) (o n:Int):List Int:=match s.2.1[n.toNat]?,s.2.2[n.toNat]? with
 | some true,some x=>tagB o s.1 n x
 | _,_=>List.replicate 20 0
theorem back_eq {s:TStg} {o n:Int} (h0:0≤s.1) (h1:s.1≤4294967295) (hn:0≤n∧n≤7) (hh:s.2.1.length=8) (hb:s.2.2.length=8) (hw:∀ b ∈ s.2.2,b.2.length≤1000):qnb_ (s,o,n,())=some (backS s o n,()):=by
 obtain ⟨st,hv,bs⟩:=s
 obtain ⟨k,rfl⟩:=Int.eq_ofNat_of_zero_le hn.1
 show ql5_ qkp_ (st,hv,bs) o (k:Int)=_
 unfold ql5_ backS
 rw [number_eq,Option.bind_some,if_neg (by simp [hn])]
 dsimp only at hh hb ⊢
 obtain ⟨x,hx⟩:=get_of (xs:=hv) (i:=k) (by omega)
 obtain ⟨b,hb'⟩:=get_of (xs:=bs) (i:=k) (by omega)
 rw [qj_ hx,Option.bind_some,Int.toNat_natCast,hx,hb']
 show qkc_ o (k:Int) (st,hv,bs) (!x)=_
 unfold qkc_
 cases x with
 | true =>
  rw [if_neg (by decide)]
  dsimp only
  rw [qj_ hb',Option.bind_some,tagged_eq h0 h1 hn (hw b (List.mem_of_getElem? hb'))]
  rfl
 | false=>rfl
def rdB (w:List Int):Int×Int×Int×TBlk×Int :=
 if w.length ≠ 20∨8≤w.getD 3 0 then (0,0,0,zB,2)
 else if 14 < w.getD 5 0 then (0,0,0,zB,20)
 else if fitsB (w.getD 4 0,(w.drop 6).take (w.getD 5 0).toNat)=true∧itB (w.getD 4 0,(w.drop 6).take (w.getD 5 0).toNat)=w.drop 4 then (w.getD 0 0,65536 * w.getD 1 0 + w.getD 2 0,w.getD 3 0,(w.getD 4 0,(w.drop 6).take (w.getD 5 0).toNat),0)
 else (0,0,0,zB,20)
theorem sread_eq {w:List Int} (hr:∀ x ∈ w,0≤x∧x≤65535):q89_ (w,())=some ((rdB w).1,(rdB w).2.1,(rdB w).2.2.1,(rdB w).2.2.2.1,(rdB w).2.2.2.2,()):=by
 show ql6_ ql2_ w=_
 unfold ql6_
 by_cases hl:w.length=20
 ·rw [if_neg (fun e=>qk_.1 e (by rw [q1_]; omega))]
  have g:∀ k:Nat,k < 20->at? w (k:Int)=some (w.getD k 0):=fun k hk=>by
   obtain ⟨x,hx⟩:=get_of (xs:=w) (i:=k) (by omega)
   rw [qj_ hx,List.getD_eq_getElem?_getD,hx]
   rfl
  have rg:∀ k:Nat,k < 20->0≤w.getD k 0∧w.getD k 0≤65535:=fun k hk=>by
   obtain ⟨x,hx⟩:=get_of (xs:=w) (i:=k) (by omega)
   rw [List.getD_eq_getElem?_getD,hx]
   exact hr x (List.mem_of_getElem? hx)
  have c64:∀ k:Nat,k < 20->cvt .i64 (w.getD k 0)=w.getD k 0:=fun k hk=>cvt64 (by have:=rg k hk; omega) (by have:=rg k hk; omega)
  have g3:at? w 3=some (w.getD 3 0):=g 3 (by omega)
  have g4:at? w 4=some (w.getD 4 0):=g 4 (by omega)
  have g5:at? w 5=some (w.getD 5 0):=g 5 (by omega)
  have g0:at? w 0=some (w.getD 0 0):=g 0 (by omega)
  have g1:at? w 1=some (w.getD 1 0):=g 1 (by omega)
  have g2:at? w 2=some (w.getD 2 0):=g 2 (by omega)
  rw [g3,Option.bind_some]
  show qlh_ qga_ w (ge (w.getD 3 0) 8) 0=_
  unfold qlh_
  by_cases h8:8≤w.getD 3 0
  ·rw [if_pos (q12_.2 h8)]
   unfold rdB
   rw [if_pos (Or.inr h8)]
   rfl
  ·rw [if_neg (fun e=>h8 (q12_.1 e)),g4,Option.bind_some,g5,Option.bind_some]
   have c6:cut w 6 (Int.ofNat w.length)=some (w.drop 6):=cut_from (i:=6) (by omega)
   have c4:cut w 4 (Int.ofNat w.length)=some (w.drop 4):=cut_from (i:=4) (by omega)
   have l6:(w.drop 6).length=14:=by rw [List.length_drop]; omega
   rw [c6,Option.bind_some,c64 5 (by omega),c64 4 (by omega)]
   have r5:=rg 5 (by omega)
   have r4:=rg 4 (by omega)
   by_cases h14:14 < w.getD 5 0
   ·rw [if_pos (gt_iff.2 (by rw [q1_,l6]; omega))]
    unfold rdB
    rw [if_neg (by omega),if_pos h14]
    rfl
   ·rw [if_neg (fun e=>h14 (by have:=gt_iff.1 e; rw [q1_,l6] at this; omega))]
    obtain ⟨m,hm⟩:=Int.eq_ofNat_of_zero_le r5.1
    have cm:cut (w.drop 6) 0 (w.getD 5 0)=some ((w.drop 6).take m):=by rw [hm]; exact cut_to (by omega)
    rw [cm,Option.bind_some,q8_ (qs_.2 (Int.le_refl _)),q8_ (qs_.2 (by rw [q1_,l6]; omega))]
    have lm:((w.drop 6).take m).length=m:=by rw [List.length_take]; omega
    rw [sown_eq (by dsimp only; omega),Option.bind_some]
    dsimp only
    rw [bfits_eq (by dsimp only; omega),Option.bind_some]
    unfold rdB
    rw [if_neg (show ¬ (w.length ≠ 20∨8≤w.getD 3 0) by omega),if_neg h14,hm,Int.toNat_natCast]
    have K2:∀ b,qga_ w b 0 (w.getD 4 0,(w.drop 6).take m)=some (if b=true then (0,0,0,zB,20,()) else (w.getD 0 0,65536 * w.getD 1 0 + w.getD 2 0,w.getD 3 0,(w.getD 4 0,(w.drop 6).take m),0,())):=fun b=>by
     show qkx_ w b 0 _=_
     unfold qkx_
     cases b with
     | true=>rfl
     | false =>
      have r1:=rg 1 (by omega)
      have r2:=rg 2 (by omega)
      rw [if_neg (by decide),if_neg (by decide),g0,Option.bind_some,g1,Option.bind_some,g2,Option.bind_some,g3,Option.bind_some,wide_eq r1.1 r1.2 r2.1 r2.2,Option.bind_some,c64 3 (by omega)]
    cases hf:fitsB (w.getD 4 0,(w.drop 6).take m) with
    | false =>
     rw [if_pos (by rfl),K2,if_neg (show ¬ (false=true∧_) from fun e=>by cases e.1)]
     rfl
    | true =>
     rw [if_neg (by decide),c4,Option.bind_some,itself_eq (by dsimp only; omega),Option.bind_some]
     dsimp only
     rw [equalW_eq (by rw [itB_len]; omega),Option.bind_some,K2]
     by_cases he:itB (w.getD 4 0,(w.drop 6).take m)=w.drop 4
     ·rw [decide_eq_true he,if_neg (by decide),if_pos ⟨rfl,he⟩]
     ·rw [decide_eq_false he,if_pos (by rfl),if_neg (fun e=>he e.2)]
 ·rw [if_pos (qk_.2 (by rw [q1_]; omega))]
  unfold rdB
  rw [if_pos (Or.inl hl)]
  rfl
theorem getD_tag {o tx n:Int} {x:TBlk} (hf:fitsB x=true):tagB o tx n x=o::tx / 65536::tx % 65536::n::x.1::(x.2.length:Int)::(x.2++List.replicate (14 - x.2.length) 0):=by
 unfold tagB itB
 rw [if_pos hf]
 rfl
theorem rdB_tag {o tx n:Int} {x:TBlk} (hf:fitsB x=true) (hn:n≤7):rdB (tagB o tx n x)=(o,tx,n,x,0):=by
 obtain ⟨p,w⟩:=x
 have h2:=of_decide_eq_true hf
 dsimp only at h2
 have hl:=tagB_len (o:=o) (tx:=tx) (n:=n) (x:=(p,w))
 have hd:(tagB o tx n (p,w)).drop 4=itB (p,w):=rfl
 have e:(w++List.replicate (14 - w.length) (0:Int)).take w.length=w:=List.take_left' rfl
 have k0:(tagB o tx n (p,w)).getD 0 0=o:=rfl
 have k1:(tagB o tx n (p,w)).getD 1 0=tx / 65536:=rfl
 have k2:(tagB o tx n (p,w)).getD 2 0=tx % 65536:=rfl
 have k3:(tagB o tx n (p,w)).getD 3 0=n:=rfl
 have k4:(tagB o tx n (p,w)).getD 4 0=p:=by rw [getD_tag hf]; rfl
 have k5:(tagB o tx n (p,w)).getD 5 0=(w.length:Int):=by rw [getD_tag hf]; rfl
 have k6:(tagB o tx n (p,w)).drop 6=w++List.replicate (14 - w.length) 0:=by rw [getD_tag hf]; rfl
 unfold rdB
 rw [hl,hd,k0,k1,k2,k3,k4,k5,k6,if_neg (by omega),if_neg (by omega),Int.toNat_natCast,e,if_pos ⟨hf,rfl⟩]
 refine congrArg (fun t=>(o,t,n,(p,w),(0:Int))) ?_
 omega
end Go.Proofs.Lx
end
section
namespace Go.Proofs.Lx
open Go Ev Sx Pl
set_option maxRecDepth 100000
def putS (s:TStg) (k:Nat) (x:TBlk):TStg:=(s.1,s.2.1.set k true,nzB (s.2.1.set k true) (s.2.2.set k x))
theorem sput_eq {s:TStg} {n:Int} {x:TBlk} (hh:s.2.1.length=8) (hb:s.2.2.length=8) (hw:∀ b ∈ s.2.2,b.2.length≤1000) (hx:x.2.length≤1000) :
  qpw_ (s,n,x,())=some (if 0≤n∧n≤7 then if fitsB x=true then (putS s n.toNat x,0,()) else (zSt,20,()) else (zSt,2,())):=by
 obtain ⟨st,hv,bs⟩:=s
 dsimp only at hh hb hw
 show qmy_ qi4_ (st,hv,bs) n x=_
 unfold qmy_
 rw [number_eq,Option.bind_some]
 by_cases hn:0≤n∧n≤7
 ·obtain ⟨k,rfl⟩:=Int.eq_ofNat_of_zero_le hn.1
  rw [decide_eq_true hn,if_neg (by decide),if_pos hn,bfits_eq (by omega),Option.bind_some]
  cases hf:fitsB x with
  | false =>
   rw [if_pos (by rfl),if_neg (by decide)]
  | true =>
   have g0:ge (k:Int) 0=true:=q12_.2 (by omega)
   have l8:lt (k:Int) 8=true:=q7_.2 (by omega)
   obtain ⟨y,hy⟩:=get_of (xs:=hv) (i:=k) (by omega)
   obtain ⟨b,hb'⟩:=get_of (xs:=bs) (i:=k) (by omega)
   rw [if_neg (by decide),if_pos rfl,q8_ g0,q8_ l8]
   dsimp only
   rw [qj_ hy,Option.bind_some,q8_ g0,q8_ l8,qj_ hb',Option.bind_some,Int.toNat_natCast]
   have hh2:(hv.set k true).length=8:=by rw [List.length_set]; exact hh
   have hb2:(bs.set k x).length=8:=by rw [List.length_set]; exact hb
   have hw2:∀ c ∈ bs.set k x,c.2.length≤1000:=fun c hc=>by
    rcases List.mem_or_eq_of_mem_set hc with h | h
    ·exact hw c h
    ·rw [h]; exact hx
   unfold putS
   dsimp only
   generalize hv.set k true=hv' at *
   generalize bs.set k x=bs' at *
   have hl:=nzB_len hh2 hb2
   unfold qi4_
   refine loop_dt (N:=8) (mk:=fun i=>(0,0,hv',(i:Int),[(st,hv',(nzB hv' bs').take i++bs'.drop i)],_)) ?_ ?_ 8 0 _ (by omega) (by omega)
   ·intro self i hi
    show qdi_ _ _ 0 0 hv' (i:Int) [(st,hv',(nzB hv' bs').take i++bs'.drop i)] _=self (0,0,hv',((i + 1:Nat):Int),[(st,hv',(nzB hv' bs').take (i + 1)++bs'.drop (i + 1))],_)
    obtain ⟨z,hz⟩:=get_of (xs:=hv') (i:=i) (by omega)
    obtain ⟨c,hc⟩:=get_of (xs:=bs') (i:=i) (by omega)
    have hm:at? ((nzB hv' bs').take i++bs'.drop i) (i:Int)=some c:=qj_ (by rw [mix_at (by omega) (Nat.le_refl _),hc])
    have hs:=mix_set (xs:=bs') (ys:=nzB hv' bs') (by omega) (nzB_at hz hc)
    have l8:lt (i:Int) 8=true:=q7_.2 (by omega)
    have g0:ge (i:Int) 0=true:=q12_.2 (by omega)
    unfold qdi_
    rw [if_pos l8,q8_ l8,qj_ hz,Option.bind_some]
    cases z with
    | true =>
     rw [if_pos rfl,q8_ g0,q8_ l8,q1m_,Option.bind_some]
     dsimp only
     rw [hm,Option.bind_some,sown_eq (hw2 c (List.mem_of_getElem? hc)),Option.bind_some,q8_ g0,q8_ l8,Option.bind_some]
     dsimp only
     rw [hm,Option.bind_some,q15_ (by omega),<- hs]
     rfl
    | false =>
     rw [if_neg (by decide),q8_ g0,q8_ l8,q1m_,Option.bind_some]
     dsimp only
     rw [hm,Option.bind_some,q15_ (by omega),<- hs]
     rfl
   ·intro self
    show qdi_ _ _ 0 0 hv' (8:Int) [(st,hv',(nzB hv' bs').take 8++bs'.drop 8)] _=_
    have e1:(nzB hv' bs').take 8++bs'.drop 8=nzB hv' bs':=by
     rw [List.take_of_length_le (by omega),List.drop_eq_nil_of_le (by omega),List.append_nil]
    rw [e1]
    unfold qdi_
    rw [if_neg (by decide)]
    rfl
 ·rw [decide_eq_false hn,if_pos (by rfl),if_neg hn]
def blkS (hv:List Bool) (bs:List TBlk):List TBlk:=((hv.zip bs).filter (fun p=>p.1)).map (fun p=>p.2)
theorem blkS_snoc {hv:List Bool} {bs:List TBlk} {i:Nat} {x:Bool} {b:TBlk} (h1:hv[i]? = some x) (h2:bs[i]? = some b) :
  blkS (hv.take (i + 1)) (bs.take (i + 1))=blkS (hv.take i) (bs.take i)++(if x=true then [b] else []):=by
 have i1:=(List.getElem?_eq_some_iff.1 h1).1
 have i2:=(List.getElem?_eq_some_iff.1 h2).1
 unfold blkS
 rw [List.take_add_one,List.take_add_one,h1,h2]
 show (List.map _ (List.filter _ ((hv.take i++[x]).zip (bs.take i++[b]))))=_
 rw [List.zip_append (by rw [List.length_take,List.length_take]; omega),List.filter_append,List.map_append]
 cases x <;> rfl
theorem blkS_mem {hv:List Bool} {bs:List TBlk} {b:TBlk} (h:b ∈ blkS hv bs):b ∈ bs:=by
 obtain ⟨p,hp,rfl⟩:=List.mem_map.1 h
 exact (List.of_mem_zip (List.mem_filter.1 hp).1).2
theorem blkS_le {hv:List Bool} {bs:List TBlk}:(blkS hv bs).length≤hv.length:=by
 unfold blkS
 rw [List.length_map]
 refine Nat.le_trans (List.length_filter_le _ _) ?_
 rw [List.length_zip]
 omega
theorem sblocks_eq {s:TStg} (hh:s.2.1.length=8) (hb:s.2.2.length=8) (hw:∀ b ∈ s.2.2,b.2.length≤1000):q8t_ (s,())=some (blkS s.2.1 s.2.2,()):=by
 obtain ⟨st,hv,bs⟩:=s
 dsimp only at hh hb hw ⊢
 show qc5_ (st,hv,bs) hv 0 []=_
 unfold qc5_
 refine loop_dt (N:=8) (mk:=fun i=>((st,hv,bs),hv,(i:Int),blkS (hv.take i) (bs.take i))) ?_ ?_ 8 0 _ (by omega) (by omega)
 ·intro self i hi
  show q92_ _ (st,hv,bs) hv (i:Int) (blkS (hv.take i) (bs.take i))=self ((st,hv,bs),hv,((i + 1:Nat):Int),blkS (hv.take (i + 1)) (bs.take (i + 1)))
  obtain ⟨z,hz⟩:=get_of (xs:=hv) (i:=i) (by omega)
  obtain ⟨c,hc⟩:=get_of (xs:=bs) (i:=i) (by omega)
  have l8:lt (i:Int) 8=true:=q7_.2 (by omega)
  have hle:(blkS (hv.take i) (bs.take i)).length≤8:=by
   have:=blkS_le (hv:=hv.take i) (bs:=bs.take i)
   rw [List.length_take] at this
   omega
  rw [blkS_snoc hz hc]
  unfold q92_
  rw [if_pos l8,q8_ l8,qj_ hz,Option.bind_some]
  cases z with
  | true =>
   rw [if_pos rfl]
   dsimp only
   rw [qj_ hc,Option.bind_some,sown_eq (hw c (List.mem_of_getElem? hc)),Option.bind_some,qm_ (by show _ + 1≤_; omega),q15_ (by omega)]
   rfl
  | false =>
   rw [if_neg (by decide),q15_ (by omega)]
   simp
 ·intro self
  show q92_ _ (st,hv,bs) hv (8:Int) (blkS (hv.take 8) (bs.take 8))=_
  unfold q92_
  rw [if_neg (by decide),List.take_of_length_le (by omega),List.take_of_length_le (by omega)]
def shV (s:Int):Int:=if eqi (band .u32 s 1) 1=true then bxor .u32 (shr .u32 s 1) 3988292384 else shr .u32 s 1
theorem shift_eq (s:Int):qqf_ (s,())=some (shV s,()):=by
 show qry_ s=_
 unfold qry_ shV
 split <;> rfl
def addV (s b:Int):Int:=shV (shV (shV (shV (shV (shV (shV (shV (bxor .u32 s (cvt .u32 b)))))))))
theorem sadd_m1 (f:Int->Int->Option (As [.int .u32])) (s i:Int):qma_ f s i=if lt i 8=true then Option.bind (qqf_ (s,())) fun y=>f y.1 (add .i64 i 1) else some (s,()):=rfl
theorem sadd_eq (s b:Int):qtq_ (s,b,())=some (addV s b,()):=by
 show qna_ (bxor .u32 s (cvt .u32 b)) 0=_
 unfold addV
 generalize bxor .u32 s (cvt .u32 b)=x
 have st:∀ n x (i:Int),lt i 8=true->loopF (fun (self:Int×Int->Option (As [.int .u32])) (s:Int×Int)=>qma_ (fun a b=>self (a,b)) s.1 s.2) (n + 1) (x,i)=loopF (fun (self:Int×Int->Option (As [.int .u32])) (s:Int×Int)=>qma_ (fun a b=>self (a,b)) s.1 s.2) n (shV x,add .i64 i 1):=fun n x i h=>by
  rw [q20_,sadd_m1,if_pos h,shift_eq,Option.bind_some]
 unfold qna_
 rw [st _ _ _ (by rfl),st _ _ _ (by rfl),st _ _ _ (by rfl),st _ _ _ (by rfl),st _ _ _ (by rfl),st _ _ _ (by rfl),st _ _ _ (by rfl),st _ _ _ (by rfl)]
 rfl
def notV (s:Int):Int:=((qro_ s).getD (0,())).1
theorem sbytes_eq {b:List Int} (h:b.length≤1000000):qsw_ (b,())=some (notV (b.foldl addV 4294967295),()):=by
 show qi8_ b 4294967295 (Int.ofNat b.length) 0=_
 unfold qi8_
 refine (loop_idx (xs:=b) (mk:=fun i acc=>(b,acc,Int.ofNat b.length,(i:Int))) (stp:=addV) (fin:=fun acc=>some (notV acc,())) (fun _ _=>True) ?_ (fun _ _ _ _ _=>trivial) ?_ b.length 0 4294967295 _ (by omega) (by omega) trivial)
 ·intro self i acc x hx _
  have hi:=(List.getElem?_eq_some_iff.1 hx).1
  show qee_ _ _ b acc (Int.ofNat b.length) (i:Int)=_
  unfold qee_
  rw [if_pos (by rw [q7_,q1_]; omega),qj_ hx,Option.bind_some,sadd_eq,Option.bind_some,q15_ (by omega)]
 ·intro self acc _
  show qee_ _ _ b acc (Int.ofNat b.length) (b.length:Int)=_
  unfold qee_
  rw [if_neg (by rw [q7_,q1_]; omega)]
  rfl
theorem flat_snoc (l:List Int) (x:Int):(l++[x]).flatMap two=l.flatMap two++two x:=by simp
theorem packregs_eq {l:List Int} (h:l.length≤100000):qik_ (l,())=some (l.flatMap two,()):=by
 show qdf_ q9c_ l=_
 unfold qdf_
 have e2:mul .i64 2 (Int.ofNat l.length)=((2 * l.length:Nat):Int):=by rw [q1_,mul64 (by omega) (by omega)]; omega
 rw [e2,q8_ (q12_.2 (by omega)),q8_ (capOk_self _),Int.toNat_natCast,qm_ (by omega)]
 unfold q9c_
 have hz:List.replicate (2 * l.length) (0:Int)=(l.take 0).flatMap two++(List.replicate (2 * l.length) 0).drop 0:=by simp
 rw [hz]
 refine loop_dt (N:=l.length) (mk:=fun i=>(l,Int.ofNat l.length,(i:Int),(l.take i).flatMap two++(List.replicate (2 * l.length) 0).drop (2 * i))) ?_ ?_ l.length 0 _ (by omega) (by omega)
 ·intro self i hi
  show q7k_ _ l (Int.ofNat l.length) (i:Int) ((l.take i).flatMap two++(List.replicate (2 * l.length) 0).drop (2 * i))=self (l,Int.ofNat l.length,((i + 1:Nat):Int),(l.take (i + 1)).flatMap two++(List.replicate (2 * l.length) 0).drop (2 * (i + 1)))
  obtain ⟨x,hx⟩:=get_of (xs:=l) (i:=i) (by omega)
  have lp:((l.take i).flatMap two).length=2 * i:=by rw [q7j_,List.length_take]; omega
  have ed:(List.replicate (2 * l.length) (0:Int)).drop (2 * i)=0::0::(List.replicate (2 * l.length) 0).drop (2 * (i + 1)):=by
   rw [List.drop_replicate,List.drop_replicate,show 2 * l.length - 2 * i=(2 * l.length - 2 * (i + 1)) + 1 + 1 by omega]
   rfl
  have ei:(l.take (i + 1)).flatMap two=(l.take i).flatMap two++two x:=by rw [List.take_add_one,hx]; exact flat_snoc _ _
  rw [ed,ei]
  unfold q7k_
  have m2:mul .i64 2 (i:Int)=((2 * i:Nat):Int):=by rw [mul64 (by omega) (by omega)]; omega
  have m3:add .i64 ((2 * i:Nat):Int) 1=((2 * i + 1:Nat):Int):=q15_ (by omega)
  generalize (l.take i).flatMap two=p at *
  generalize (List.replicate (2 * l.length) (0:Int)).drop (2 * (i + 1))=q at *
  have g1:at? (p++0::0::q) ((2 * i:Nat):Int)=some 0:=qj_ (by rw [List.getElem?_append_right (by omega),lp,Nat.sub_self]; rfl)
  have s1:∀ y:Int,(p++0::0::q).set (2 * i) y=p++y::0::q:=fun y=>by rw [<- lp]; exact set_at p 0 y (0::q)
  have g2:∀ y:Int,at? (p++y::0::q) ((2 * i + 1:Nat):Int)=some 0:=fun y=>qj_ (by rw [List.getElem?_append_right (by omega),lp,Nat.add_sub_cancel_left]; rfl)
  have s2:∀ y z:Int,(p++y::0::q).set (2 * i + 1) z=p++y::z::q:=fun y z=>by
   have:=set_at (p++[y]) 0 z q
   rw [List.length_append,lp,List.append_assoc,List.append_assoc] at this
   exact this
  rw [if_pos (by rw [q7_,q1_]; omega),qj_ hx,Option.bind_some,Option.bind_some,m2,g1,Option.bind_some,Option.bind_some,m3,Int.toNat_natCast,Int.toNat_natCast,s1,g2,Option.bind_some,Option.bind_some,s2,q15_ (by omega),cvt8,cvt8,shr8 _ _ (by decide),List.append_assoc]
  rfl
 ·intro self
  show q7k_ _ l (Int.ofNat l.length) (l.length:Int) ((l.take l.length).flatMap two++(List.replicate (2 * l.length) 0).drop (2 * l.length))=_
  unfold q7k_
  rw [if_neg (by rw [q7_,q1_]; omega),List.take_length,List.drop_eq_nil_of_le (by simp),List.append_nil]
def sumW (l:List Int):Int:=notV ((l.flatMap two).foldl addV 4294967295)
theorem swordsum_eq {l:List Int} (h:l.length≤100000):qsr_ (l,())=some (sumW l,()):=by
 show qrx_ l=_
 unfold qrx_
 rw [packregs_eq h,Option.bind_some]
 dsimp only
 rw [sbytes_eq (by rw [q7j_]; omega)]
 rfl
def sumB (l:List TBlk):Int:=sumW (l.flatMap itB)
theorem ssum_eq {l:List TBlk} (h:l.length≤1000) (hw:∀ b ∈ l,b.2.length≤1000):qpu_ (l,())=some (sumB l,()):=by
 show qi6_ l (Int.ofNat l.length) 0 []=_
 unfold qi6_
 have K2:∀ all:List Int,all.length≤100000->qm8_ all=some (sumW all,()):=fun all ha=>by
  show qn7_ all=_
  unfold qn7_
  rw [swordsum_eq ha]
  rfl
 have hn:l.flatMap itB=[]++l.flatMap itB:=rfl
 unfold sumB
 rw [hn,<- foldl_app]
 refine (loop_idx (xs:=l) (mk:=fun i acc=>(l,Int.ofNat l.length,(i:Int),acc)) (stp:=fun o x=>o++itB x) (fin:=fun acc=>some (sumW acc,())) (fun i acc=>acc.length=16 * i) ?_ ?_ ?_ l.length 0 [] _ (by omega) (by omega) rfl)
 ·intro self i acc x hx ha
  have hi:=(List.getElem?_eq_some_iff.1 hx).1
  show qdp_ _ _ l (Int.ofNat l.length) (i:Int) acc=_
  unfold qdp_
  rw [if_pos (by rw [q7_,q1_]; omega),qj_ hx,Option.bind_some,itself_eq (hw x (List.mem_of_getElem? hx)),Option.bind_some,qm_ (by rw [itB_len]; omega),q15_ (by omega)]
 ·intro i acc x _ ha
  rw [List.length_append,itB_len,ha]
  omega
 ·intro self acc ha
  show qdp_ _ _ l (Int.ofNat l.length) (l.length:Int) acc=_
  unfold qdp_
  rw [if_neg (by rw [q7_,q1_]; omega),K2 _ (by omega)]
def firstN (hv:List Bool) (n:Int):Bool:=decide (∀ i:Nat,i < 8->hv.getD i false=decide ((i:Int) < n))
theorem swhole_eq {s:TStg} {n c:Int} (hh:s.2.1.length=8) (hb:s.2.2.length=8) (hw:∀ b ∈ s.2.2,b.2.length≤1000) :
  qjp_ (s,n,c,())=some (decide (0≤n∧n≤8) && (firstN s.2.1 n && decide (sumB (blkS s.2.1 s.2.2)=c)),()):=by
 have hblk:=sblocks_eq hh hb hw
 obtain ⟨st,hv,bs⟩:=s
 dsimp only at hh hb hw hblk ⊢
 show qj7_ qep_ (st,hv,bs) n c=_
 unfold qj7_
 have K1t:qep_ n c (st,hv,bs) true=some (false,()):=rfl
 by_cases h0:n < 0
 ·rw [if_pos (q7_.2 h0),K1t,decide_eq_false (by omega)]
  rfl
 ·rw [if_neg (fun e=>h0 (q7_.1 e))]
  by_cases h8:8 < n
  ·rw [gt_iff.2 h8,K1t,decide_eq_false (by omega)]
   rfl
  ·rw [gt_dec,decide_eq_false h8,decide_eq_true (show 0≤n∧n≤8 by omega),Bool.true_and]
   show qe3_ n c (st,hv,bs) hv 0=_
   have K3:q50_ c (st,hv,bs)=some (decide (sumB (blkS hv bs)=c),()):=by
    show qit_ c (st,hv,bs)=_
    unfold qit_
    rw [hblk,Option.bind_some]
    dsimp only
    rw [ssum_eq (by have:=blkS_le (hv:=hv) (bs:=bs); omega) (fun b hb=>hw b (blkS_mem hb)),Option.bind_some]
    refine congrArg (fun b=>some (b,())) ?_
    rw [Bool.eq_iff_iff,q4_,decide_eq_true_eq]
   unfold qe3_
   have hg:∀ k i m:Nat,i + k=8->k < m->loopF (fun (self:Int×Int×TStg×List Bool×Int->Option (As [.bool])) (s:Int×Int×TStg×List Bool×Int)=>q82_ q50_ (fun count check s t16 t17=>self (count,check,s,t16,t17)) s.1 s.2.1 s.2.2.1 s.2.2.2.1 s.2.2.2.2) m (n,c,(st,hv,bs),hv,(i:Int))=some (decide (∀ j:Nat,j < 8->i≤j->hv.getD j false=decide ((j:Int) < n)) && decide (sumB (blkS hv bs)=c),()):=by
    intro k
    induction k with
    | zero =>
     intro i m hi hm
     obtain ⟨m,rfl⟩:∃ q,m=q + 1:=⟨m - 1,by omega⟩
     have:i=8:=by omega
     subst this
     rw [q20_]
     show q82_ q50_ _ n c (st,hv,bs) hv (8:Int)=_
     unfold q82_
     rw [if_neg (by decide),K3,decide_eq_true (p:=∀ j:Nat,j < 8->8≤j->hv.getD j false=decide ((j:Int) < n)) (fun j h1 h2=>by omega),Bool.true_and]
    | succ k ih =>
     intro i m hi hm
     obtain ⟨m,rfl⟩:∃ q,m=q + 1:=⟨m - 1,by omega⟩
     have l8:lt (i:Int) 8=true:=q7_.2 (by omega)
     obtain ⟨x,hx⟩:=get_of (xs:=hv) (i:=i) (by omega)
     have gx:hv.getD i false=x:=by rw [List.getD_eq_getElem?_getD,hx]; rfl
     rw [q20_]
     show q82_ q50_ _ n c (st,hv,bs) hv (i:Int)=_
     have u:∀ f,q82_ q50_ f n c (st,hv,bs) hv (i:Int)=if lt (i:Int) 8=true then need (lt (i:Int) 8) (Option.bind (at? hv (i:Int)) fun y=>if neb y (lt (i:Int) n)=true then some (false,()) else f n c (st,hv,bs) hv (add .i64 (i:Int) 1)) else q50_ c (st,hv,bs):=fun f=>rfl
     rw [u,if_pos l8,q8_ l8,qj_ hx,Option.bind_some,lt_dec]
     by_cases he:x=decide ((i:Int) < n)
     ·rw [if_neg (by rw [<- he]; cases x <;> decide),q15_ (by omega),ih (i + 1) m (by omega) (by omega)]
      refine congrArg (fun b=>some (b && _,())) ?_
      rw [Bool.eq_iff_iff,decide_eq_true_eq,decide_eq_true_eq]
      constructor
      ·intro h j h1 h2
       by_cases e:j=i
       ·rw [e,gx]; exact he
       ·exact h j h1 (by omega)
      ·intro h j h1 h2
       exact h j h1 (by omega)
     ·rw [if_pos (by revert he; cases x <;> cases decide ((i:Int) < n) <;> decide),decide_eq_false (fun h=>he (by rw [<- gx]; exact h i (by omega) (Nat.le_refl _)))]
      rfl
   have:=hg 8 0 18446744073709551616 rfl (by omega)
   refine this.trans ?_
   refine congrArg (fun b=>some (b && _,())) ?_
   unfold firstN
   rw [Bool.eq_iff_iff,decide_eq_true_eq,decide_eq_true_eq]
   exact ⟨fun h i hi=>h i hi (Nat.zero_le _),fun h i hi _=>h i hi⟩
end Go.Proofs.Lx
end
section
namespace Go.Proofs.Lx
open Go Ev Sx Pl
set_option maxRecDepth 100000
def copyB (b:List Int) (x:TBlk):List Int:=b.take x.1.toNat++x.2++b.drop (x.1.toNat + x.2.length)
theorem copyB_len {b:List Int} {x:TBlk} (h:b.length=64) (hf:fitsB x=true):(copyB b x).length=64:=by
 have:=of_decide_eq_true hf
 unfold copyB
 rw [List.length_append,List.length_append,List.length_take,List.length_drop]
 omega
def overB (b:List Int) (l:List TBlk):List Int:=l.foldl copyB b
theorem overB_len:∀ {l:List TBlk} {b:List Int},b.length=64->(∀ x ∈ l,fitsB x=true)->(overB b l).length=64
 | [],_,h,_=>h
 | x::r,b,h,hf=>overB_len (l:=r) (copyB_len h (hf x (List.mem_cons_self ..))) (fun y hy=>hf y (List.mem_cons_of_mem _ hy))
theorem copyB_rng {b:List Int} {x:TBlk} {P:Int->Prop} (hb:∀ y ∈ b,P y) (hx:∀ y ∈ x.2,P y):∀ y ∈ copyB b x,P y:=by
 intro y hy
 unfold copyB at hy
 rcases List.mem_append.1 hy with h | h
 ·rcases List.mem_append.1 h with h | h
  ·exact hb y (List.mem_of_mem_take h)
  ·exact hx y h
 ·exact hb y (List.mem_of_mem_drop h)
theorem overB_rng {P:Int->Prop}:∀ {l:List TBlk} {b:List Int},(∀ y ∈ b,P y)->(∀ x ∈ l,∀ y ∈ x.2,P y)->∀ y ∈ overB b l,P y
 | [],_,h,_=>h
 | x::r,b,h,hf=>overB_rng (l:=r) (copyB_rng h (hf x (List.mem_cons_self ..))) (fun y hy=>hf y (List.mem_cons_of_mem _ hy))
theorem bfit_eq {l:List TBlk} (hl:l.length≤1000000) (hf:∀ x ∈ l,fitsB x=true):qui_ (l,())=some (true,()):=by
 have hi:q57_ (l,())=some (-1,()):=by
  show q31_ l (Int.ofNat l.length) 0=_
  unfold q31_
  refine loop_dt (N:=l.length) (mk:=fun i=>(l,Int.ofNat l.length,(i:Int))) ?_ ?_ l.length 0 _ (by omega) (by omega)
  ·intro self i hi
   obtain ⟨x,hx⟩:=get_of (xs:=l) (i:=i) hi
   have hfx:=hf x (List.mem_of_getElem? hx)
   have h2:=of_decide_eq_true hfx
   have hz:qpk_ (x,())=some (false,()):=by
    show qoh_ x=_
    unfold qoh_
    rw [bfits_eq (by omega),hfx]
    rfl
   show q23_ _ l (Int.ofNat l.length) (i:Int)=_
   unfold q23_
   rw [if_pos (by rw [q7_,q1_]; omega),qj_ hx,Option.bind_some,hz,Option.bind_some,if_neg (by decide),q15_ (by omega)]
  ·intro self
   show q23_ _ l (Int.ofNat l.length) (l.length:Int)=_
   unfold q23_
   rw [if_neg (by rw [q7_,q1_]; omega)]
 have hc:q7i_ (l,())=some (false,()):=by
  show q5d_ l=_
  unfold q5d_
  rw [hi]
  rfl
 show qt6_ l=_
 unfold qt6_
 rw [hc]
 rfl
theorem cloneWr_eq {s:List Int} (h:s.length≤1000000):q37_ (s,())=some (s,()):=by
 show q9n_ s=_
 unfold q9n_
 by_cases h0:s.length=0
 ·have:s=[]:=List.eq_nil_of_length_eq_zero h0
  subst this
  rfl
 ·rw [if_neg (by rw [q4_,q1_]; omega),qm_ (by omega)]
theorem bover_eq {b:List Int} {l:List TBlk} (hb:b.length=64) (hl:l.length≤1000000) (hf:∀ x ∈ l,fitsB x=true):qsu_ (b,l,())=some (overB b l,0,()):=by
 show qmk_ qe8_ b l=_
 unfold qmk_
 rw [if_neg (fun e=>qk_.1 e (by rw [q1_]; omega)),bfit_eq hl hf,Option.bind_some,if_neg (by decide),cloneWr_eq (by omega),Option.bind_some]
 show qe8_ l (Int.ofNat l.length) 0 b=_
 unfold qe8_
 refine (loop_idx (xs:=l) (mk:=fun i acc=>(l,Int.ofNat l.length,(i:Int),acc)) (stp:=copyB) (fin:=fun acc=>some (acc,0,())) (fun i acc=>acc.length=64) ?_ ?_ ?_ l.length 0 b _ (by omega) (by omega) hb)
 ·intro self i acc x hx ha
  have hi:=(List.getElem?_eq_some_iff.1 hx).1
  have h2:=of_decide_eq_true (hf x (List.mem_of_getElem? hx))
  show qdq_ _ _ l (Int.ofNat l.length) (i:Int) acc=_
  unfold qdq_
  rw [if_pos (by rw [q7_,q1_]; omega),qj_ hx,Option.bind_some,q8_ (q12_.2 (by omega)),q8_ (qs_.2 (by rw [q1_]; omega)),q8_ (qs_.2 (Int.le_refl _)),q8_ (qs_.2 (by rw [q1_]; omega)),q15_ (by omega)]
  have e:x.2.take (Int.toNat (Int.ofNat acc.length - x.1))=x.2:=List.take_of_length_le (by rw [q1_]; omega)
  rw [e]
  rfl
 ·intro i acc x hx ha
  exact copyB_len ha (hf x (List.mem_of_getElem? hx))
 ·intro self acc ha
  show qdq_ _ _ l (Int.ofNat l.length) (l.length:Int) acc=_
  unfold qdq_
  rw [if_neg (by rw [q7_,q1_]; omega)]
  rfl
structure OkG (a:TAg):Prop where
 bl:a.1.length=64
 bw:∀ x ∈ a.1,0≤x∧x≤65535
 lr:RightL a.2.1
 l1:0≤a.2.1.1∧a.2.1.1≤65535
 l2:a.2.1.2≤9223372036854775807
 pr:0≤a.2.2.1∧a.2.2.1≤2
 tr:0≤a.2.2.2.1∧a.2.2.2.1≤4294967295
 ar:0≤a.2.2.2.2.1∧a.2.2.2.2.1≤4294967295
 kr:1≤a.2.2.2.2.2.2∧a.2.2.2.2.2.2≤9223372036854775807
 hl:a.2.2.2.2.2.1.2.1.length=8
 sl:a.2.2.2.2.2.1.2.2.length=8
 bb:∀ b ∈ a.2.2.2.2.2.1.2.2,b.2.length≤1000
 wb:∀ b ∈ a.2.2.2.2.2.1.2.2,∀ w ∈ b.2,0≤w∧w≤65535
 fb:∀ b ∈ blkS a.2.2.2.2.2.1.2.1 a.2.2.2.2.2.1.2.2,fitsB b=true
 p0:a.2.2.1=0->a.2.1.1=0∧a.2.2.2.1=0∧a.2.2.2.2.2.1.1=0∧a.2.2.2.2.2.1.2.1.count true=0
 pn:a.2.2.1 ≠ 0->a.2.1.1 ≠ 0∧a.2.2.2.2.1 < a.2.2.2.1∧a.2.2.2.2.2.1.1=a.2.2.2.1
 p1:a.2.2.1=1->1≤a.2.1.2
 p2:a.2.2.1=2->a.2.1.2=-1∧firstN a.2.2.2.2.2.1.2.1 ((a.2.2.2.2.2.1.2.1.count true:Nat):Int)=true
theorem OkG.sz {a:TAg} (h:OkG a):SzA a:=⟨by have:=h.bl; omega,h.hl,h.sl,h.bb⟩
theorem blkS_nz:∀ (hv:List Bool) (bs:List TBlk),blkS hv (nzB hv bs)=blkS hv bs
 | [],_=>by simp [blkS]
 | _::_,[]=>by simp [blkS,nzB]
 | h::r,b::q=>by
  have ih:=blkS_nz r q
  unfold blkS nzB at ih ⊢
  rw [List.zipWith_cons_cons,List.zip_cons_cons,List.zip_cons_cons]
  cases h
  ·simpa using ih
  ·simp only [if_true]
   rw [List.filter_cons,List.filter_cons]
   simp only [if_true,List.map_cons]
   rw [ih]
theorem nzB_mem {hv:List Bool} {bs:List TBlk} {P:TBlk->Prop} (hz:P zB) (hp:∀ b ∈ bs,P b):∀ b ∈ nzB hv bs,P b:=by
 intro b hb
 unfold nzB at hb
 obtain ⟨i,hi⟩:=List.getElem?_of_mem hb
 rw [List.getElem?_zipWith] at hi
 revert hi
 cases h1:hv[i]? <;> cases h2:bs[i]? <;> simp
 rename_i x y
 intro e
 subst e
 split
 ·exact hp y (List.mem_of_getElem? h2)
 ·exact hz
theorem OkG.own {a:TAg} (h:OkG a):OkG (ownA a):=by
 obtain ⟨bk,ls,ph,tx,la,⟨st,hv,bs⟩,tk⟩:=a
 exact { h with
  sl:=nzB_len h.hl h.sl
  bb:=nzB_mem (P:=fun b=>b.2.length≤1000) (by show (0:Nat)≤1000; omega) h.bb
  wb:=nzB_mem (P:=fun b=>∀ w ∈ b.2,0≤w∧w≤65535) (by intro w hw; cases hw) h.wb
  fb:=by have:=h.fb; show ∀ b ∈ blkS hv (nzB hv bs),_; rw [blkS_nz]; exact this }
def freeA (a:TAg):TAg:=(a.1,(0,0),0,0,a.2.2.2.2.1,zSt,a.2.2.2.2.2.2)
def wholeA (a:TAg) (n c:Int):Bool:=decide (0≤n∧n≤8) && (firstN a.2.2.2.2.2.1.2.1 n && decide (sumB (blkS a.2.2.2.2.2.1.2.1 a.2.2.2.2.2.1.2.2)=c))
def doS (a:TAg) (c:TCm):TAg×Int :=
 if c.1=0∨c.2.2.1=0∨¬ (1≤c.2.1∧c.2.1≤4) then (a,2)
 else if a.2.1.1 ≠ 0∧a.2.1.1 ≠ c.1 then (a,22)
 else if c.2.1=1 then
  if c.2.2.1≤a.2.2.2.2.1∨a.2.2.1 ≠ 0∧c.2.2.1 < a.2.2.2.1 then (a,23)
  else if c.2.2.1=a.2.2.2.1 then ((a.1,takeL a.2.1 c.1 a.2.2.2.2.2.2,a.2.2),0)
  else ((a.1,(c.1,a.2.2.2.2.2.2),1,c.2.2.1,a.2.2.2.2.1,(c.2.2.1,zSt.2),a.2.2.2.2.2.2),0)
 else if c.2.1=2 then
  if a.2.2.1=2∧a.2.2.2.1=c.2.2.1∨a.2.2.1=1∧a.2.2.2.1=c.2.2.1∧wholeA a c.2.2.2.1 c.2.2.2.2=true then ((a.1,(c.1,-1),2,a.2.2.2),0)
  else (a,23)
 else if c.2.1=3 then
  if a.2.2.2.2.1=c.2.2.1 then (a,0)
  else if a.2.2.1=2∧a.2.2.2.1=c.2.2.1 then (freeA (overB a.1 (blkS a.2.2.2.2.2.1.2.1 a.2.2.2.2.2.1.2.2),a.2.1,a.2.2.1,a.2.2.2.1,c.2.2.1,a.2.2.2.2.2),0)
  else (a,23)
 else
  if c.2.2.1≤a.2.2.2.2.1 then (a,23) else if a.2.1.1=c.1∧a.2.2.2.1=c.2.2.1 then (freeA a,0) else (a,0)
theorem afreed_eq (a:TAg):qa2_ (a,())=some (freeA a,()):=rfl
theorem ain_eq (a:TAg) (p t:Int):qfe_ (a,p,t,())=some (decide (a.2.2.1=p∧a.2.2.2.1=t),()):=by
 show qt5_ a p t=_
 unfold qt5_
 by_cases h:a.2.2.1=p
 ·rw [if_pos (q4_.2 h)]
  refine congrArg (fun b=>some (b,())) ?_
  rw [Bool.eq_iff_iff,q4_,decide_eq_true_eq]
  exact ⟨fun e=>⟨h,e⟩,fun e=>e.2⟩
 ·rw [if_neg (fun e=>h (q4_.1 e)),decide_eq_false (fun e=>h e.1)]
theorem aothers_eq {a:TAg} (h:RightL a.2.1) (o:Int):q42_ (a,o,())=some (decide (a.2.1.1 ≠ 0∧a.2.1.1 ≠ o),()):=by
 show qo3_ a o=_
 unfold qo3_
 rw [lfree_eq h,Option.bind_some]
 by_cases h0:a.2.1.1=0
 ·rw [decide_eq_true h0,if_neg (by decide),decide_eq_false (fun e=>e.1 h0)]
 ·rw [decide_eq_false h0,if_pos (by rfl)]
  refine congrArg (fun b=>some (b,())) ?_
  rw [Bool.eq_iff_iff,qk_,decide_eq_true_eq]
  exact ⟨fun e=>⟨h0,e⟩,fun e=>e.2⟩
theorem ataken_eq {a:TAg} {o:Int} (h:RightL a.2.1) (ho:o ≠ 0) (ht:1≤a.2.2.2.2.2.2) (hf:a.2.1.1=0∨a.2.1.1=o):qd5_ (a,o,())=some ((a.1,takeL a.2.1 o a.2.2.2.2.2.2,a.2.2),()):=by
 show qoj_ a o=_
 unfold qoj_
 rw [ltake_eq h ho ht hf]
 rfl
set_option maxHeartbeats 1000000 in
theorem ado_eq {a:TAg} (h:OkG a) {c:TCm} (hc:0≤c.2.2.2.1∧c.2.2.2.1≤65535):qfg_ (a,c,())=some ((doS (ownA a) c).1,(doS (ownA a) c).2,()):=by
 show qt3_ a c=_
 unfold qt3_
 have h':=h.own
 rw [aown_eq h.sz,Option.bind_some,amb2 (eqAs_refl _)]
 dsimp only
 generalize ownA a=g at h'
 obtain ⟨co,cv,ct,cc,ck⟩:=c
 dsimp only at hc ⊢
 have lr:=h'.lr
 have kr:=h'.kr
 rw [aothers_eq lr,Option.bind_some]
 unfold doS
 dsimp only
 by_cases hq:co=0∨ct=0∨¬ (1≤cv∧cv≤4)
 ·rw [if_pos hq]
  simp only [q4_]
  by_cases h1:co=0
  ·simp [h1]
  ·by_cases h2:ct=0
   ·simp [h1,h2]
   ·have hv:¬ (1≤cv∧cv≤4):=by omega
    rw [if_neg (by omega),if_neg (by omega),if_neg (by omega),if_neg (by omega),if_neg h1,if_neg h2]
 ·rw [if_neg hq]
  have h1:co ≠ 0:=by omega
  have h2:ct ≠ 0:=by omega
  have hv:1≤cv∧cv≤4:=by omega
  simp only [q4_,if_neg h1,if_neg h2]
  by_cases ho:g.2.1.1 ≠ 0∧g.2.1.1 ≠ co
  ·rw [if_pos ho,decide_eq_true ho]
   simp only [if_true]
   split <;> first | rfl | skip
   split <;> first | rfl | skip
   split <;> first | rfl | skip
   split <;> first | rfl | skip
   omega
  ·rw [if_neg ho,decide_eq_false ho]
   simp only [Bool.false_eq_true,if_false]
   have hf:g.2.1.1=0∨g.2.1.1=co:=by omega
   by_cases v1:cv=1
   ·subst v1
    rw [if_pos rfl,if_pos rfl]
    have hn:qli_ (g,(co,1,ct,cc,ck),())=some (decide (ct≤g.2.2.2.2.1∨g.2.2.1 ≠ 0∧ct < g.2.2.2.1),()):=by
     show qlv_ g (co,1,ct,cc,ck)=_
     unfold qlv_
     dsimp only
     by_cases q1:ct≤g.2.2.2.2.1
     ·rw [if_pos (qs_.2 q1),decide_eq_true (Or.inl q1)]
     ·rw [if_neg (fun e=>q1 (qs_.1 e))]
      by_cases q2:g.2.2.1=0
      ·rw [if_neg (fun e=>qk_.1 e q2),decide_eq_false (by omega)]
      ·rw [if_pos (qk_.2 q2),lt_dec]
       refine congrArg (fun b=>some (b,())) ?_
       rw [Bool.eq_iff_iff,decide_eq_true_eq,decide_eq_true_eq]
       omega
    rw [hn,Option.bind_some]
    by_cases q:ct≤g.2.2.2.2.1∨g.2.2.1 ≠ 0∧ct < g.2.2.2.1
    ·rw [if_pos q,decide_eq_true q]
     rfl
    ·rw [if_neg q,decide_eq_false q,if_neg (by decide)]
     have hcl:qpj_ (g,(co,1,ct,cc,ck),())=some (if ct=g.2.2.2.1 then (g.1,takeL g.2.1 co g.2.2.2.2.2.2,g.2.2) else (g.1,(co,g.2.2.2.2.2.2),1,ct,g.2.2.2.2.1,(ct,zSt.2),g.2.2.2.2.2.2),()):=by
      show qoq_ g (co,1,ct,cc,ck)=_
      unfold qoq_
      dsimp only
      by_cases e:ct=g.2.2.2.1
      ·rw [if_pos (q4_.2 e),if_pos e,ataken_eq lr h1 kr.1 hf]
       rfl
      ·rw [if_neg (fun x=>e (q4_.1 x)),if_neg e,afreed_eq,Option.bind_some]
       have:=ataken_eq (a:=freeA g) (o:=co) (Or.inl ⟨rfl,rfl⟩) h1 kr.1 (Or.inl rfl)
       dsimp only
       rw [this]
       have et:takeL (0,0) co (freeA g).2.2.2.2.2.2=(co,g.2.2.2.2.2.2):=by
        unfold takeL
        rw [if_neg (fun x=>h1 (by cases x))]
        rfl
       show some ((g.1,takeL (0,0) co (freeA g).2.2.2.2.2.2,1,ct,g.2.2.2.2.1,(ct,zSt.2),g.2.2.2.2.2.2),())=_
       rw [et]
     rw [hcl,Option.bind_some]
     split <;> rfl
   ·rw [if_neg (Ne.symm v1),if_neg v1]
    by_cases v2:cv=2
    ·subst v2
     rw [if_pos rfl,if_pos rfl]
     have hn:qhb_ (g,(co,2,ct,cc,ck),())=some (decide (¬ (g.2.2.1=2∧g.2.2.2.1=ct∨g.2.2.1=1∧g.2.2.2.1=ct∧wholeA g cc ck=true)),()):=by
      show qhs_ g (co,2,ct,cc,ck)=_
      unfold qhs_
      dsimp only
      rw [ain_eq,Option.bind_some]
      by_cases q1:g.2.2.1=2∧g.2.2.2.1=ct
      ·rw [decide_eq_true q1,if_pos rfl,decide_eq_false (fun e=>e (Or.inl q1))]
      ·rw [decide_eq_false q1,if_neg (by decide),ain_eq,Option.bind_some]
       by_cases q2:g.2.2.1=1∧g.2.2.2.1=ct
       ·rw [decide_eq_true q2,if_neg (by decide),cvt64 (by omega) (by omega),swhole_eq h'.hl h'.sl h'.bb,Option.bind_some]
        refine congrArg (fun b=>some (b,())) ?_
        show (!wholeA g cc ck)=_
        cases hw:wholeA g cc ck with
        | true=>rw [decide_eq_false (fun e=>e (Or.inr ⟨q2.1,q2.2,rfl⟩))]; rfl
        | false=>rw [decide_eq_true (by rintro (e | e); exact q1 e; exact Bool.false_ne_true e.2.2)]; rfl
       ·rw [decide_eq_false q2,if_pos (by rfl),decide_eq_true (by rintro (e | e); exact q1 e; exact q2 ⟨e.1,e.2.1⟩)]
     rw [hn,Option.bind_some]
     by_cases q:g.2.2.1=2∧g.2.2.2.1=ct∨g.2.2.1=1∧g.2.2.2.1=ct∧wholeA g cc ck=true
     ·rw [if_pos q,decide_eq_false (fun e=>e q),if_neg (by decide)]
      have hph:g.2.2.1 ≠ 0:=by rcases q with q | q <;> omega
      have hown:g.2.1.1=co:=by have:=(h'.pn hph).1; omega
      have hp:qlj_ (g,(co,2,ct,cc,ck),())=some ((g.1,(co,-1),2,g.2.2.2),()):=by
       show qlr_ g (co,2,ct,cc,ck)=_
       unfold qlr_
       dsimp only
       rw [lhold_eq lr h1 hown]
       rfl
      rw [hp]
      rfl
     ·rw [if_neg q,decide_eq_true q]
      rfl
    ·rw [if_neg (Ne.symm v2),if_neg v2]
     by_cases v3:cv=3
     ·subst v3
      rw [if_pos rfl,if_pos rfl]
      have hn:qij_ (g,(co,3,ct,cc,ck),())=some (decide (g.2.2.2.2.1 ≠ ct∧¬ (g.2.2.1=2∧g.2.2.2.1=ct)),()):=by
       show qjl_ g (co,3,ct,cc,ck)=_
       unfold qjl_
       dsimp only
       by_cases q1:g.2.2.2.2.1=ct
       ·rw [if_neg (fun e=>qk_.1 e q1),decide_eq_false (fun e=>e.1 q1)]
       ·rw [if_pos (qk_.2 q1),ain_eq,Option.bind_some]
        refine congrArg (fun b=>some (b,())) ?_
        by_cases q2:g.2.2.1=2∧g.2.2.2.1=ct
        ·rw [decide_eq_true q2,decide_eq_false (fun e=>e.2 q2)]; rfl
        ·rw [decide_eq_false q2,decide_eq_true ⟨q1,q2⟩]; rfl
      rw [hn,Option.bind_some]
      have hcm:g.2.2.2.2.1=ct∨(g.2.2.1=2∧g.2.2.2.1=ct)->qmn_ (g,(co,3,ct,cc,ck),())=some (if g.2.2.2.2.1=ct then g else freeA (overB g.1 (blkS g.2.2.2.2.2.1.2.1 g.2.2.2.2.2.1.2.2),g.2.1,g.2.2.1,g.2.2.2.1,ct,g.2.2.2.2.2),()):=fun _=>by
       show qm9_ g (co,3,ct,cc,ck)=_
       unfold qm9_
       dsimp only
       by_cases q1:g.2.2.2.2.1=ct
       ·rw [if_pos (q4_.2 q1),if_pos q1]
       ·rw [if_neg (fun e=>q1 (q4_.1 e)),if_neg q1,sblocks_eq h'.hl h'.sl h'.bb,Option.bind_some]
        dsimp only
        rw [bover_eq h'.bl (by have:=blkS_le (hv:=g.2.2.2.2.2.1.2.1) (bs:=g.2.2.2.2.2.1.2.2); have:=h'.hl; omega) h'.fb,Option.bind_some]
        dsimp only
        rw [if_neg (by decide),afreed_eq]
        rfl
      by_cases q1:g.2.2.2.2.1=ct
      ·rw [decide_eq_false (fun e=>e.1 q1),if_neg (by decide),hcm (Or.inl q1),if_pos q1,if_pos q1]
       rfl
      ·by_cases q2:g.2.2.1=2∧g.2.2.2.1=ct
       ·rw [decide_eq_false (fun e=>e.2 q2),if_neg (by decide),hcm (Or.inr q2),if_neg q1,if_neg q1,if_pos q2]
        rfl
       ·rw [decide_eq_true ⟨q1,q2⟩,if_neg q1,if_neg q2]
        rfl
     ·have v4:cv=4:=by omega
      subst v4
      rw [if_neg (by decide),if_pos rfl,if_neg v3]
      have hn:qkd_ (g,(co,4,ct,cc,ck),())=some (decide (ct≤g.2.2.2.2.1),()):=rfl
      rw [hn,Option.bind_some]
      by_cases q1:ct≤g.2.2.2.2.1
      ·rw [decide_eq_true q1,if_pos q1]
       rfl
      ·rw [decide_eq_false q1,if_neg (by decide),if_neg q1]
       have ha:qk2_ (g,(co,4,ct,cc,ck),())=some (if g.2.1.1=co∧g.2.2.2.1=ct then freeA g else g,()):=by
        show qj9_ qdy_ g (co,4,ct,cc,ck)=_
        unfold qj9_
        dsimp only
        have K:∀ b z,qdy_ g 0 b [z]=some (if b=true then g else freeA g,()):=fun b z=>by
         show qig_ g 0 b [z]=_
         unfold qig_
         cases b <;> rfl
        by_cases e1:g.2.1.1=co
        ·rw [if_neg (fun e=>qk_.1 e e1),K]
         by_cases e2:g.2.2.2.1=ct
         ·rw [if_neg (fun e=>qk_.1 e e2),if_pos ⟨e1,e2⟩]
         ·rw [if_pos (qk_.2 e2),if_neg (fun e=>e2 e.2)]
        ·rw [if_pos (qk_.2 e1),K,if_pos rfl,if_neg (fun e=>e1 e.1)]
       rw [ha,Option.bind_some]
       by_cases e:g.2.1.1=co∧g.2.2.2.1=ct
       ·rw [if_pos e,if_pos e]
        rfl
       ·rw [if_neg e,if_neg e]
        rfl
end Go.Proofs.Lx
end
section
namespace Go.Proofs.Lx
open Go Ev Sx Pl
set_option maxRecDepth 100000
def putA (a:TAg) (o t n:Int) (x:TBlk):TAg×Int :=
 if o=0∨t=0 then (a,2) else if a.2.1.1 ≠ 0∧a.2.1.1 ≠ o then (a,22) else if ¬ (a.2.2.1=1∧a.2.2.2.1=t) then (a,23)
 else ((a.1,takeL a.2.1 o a.2.2.2.2.2.2,a.2.2.1,a.2.2.2.1,a.2.2.2.2.1,putS a.2.2.2.2.2.1 n.toNat x,a.2.2.2.2.2.2),0)
theorem aput_eq {a:TAg} (h:OkG a) {o t n:Int} {x:TBlk} (hn:0≤n∧n≤7) (hf:fitsB x=true):q9o_ (a,o,t,n,x,())=some ((putA (ownA a) o t n x).1,(putA (ownA a) o t n x).2,()):=by
 show qnp_ qho_ a o t n x=_
 unfold qnp_
 have h':=h.own
 rw [aown_eq h.sz,Option.bind_some]
 dsimp only
 generalize ownA a=g at h'
 have lr:=h'.lr
 have kr:=h'.kr
 have hx:x.2.length≤1000:=by have:=of_decide_eq_true hf; omega
 have K:∀ b z,qho_ o t n 0 0 b [g] x [z]=some (if b=true then (g,2,()) else ((putA g o t n x).1,(putA g o t n x).2,()))∨¬ (b=true ↔ (o=0∨t=0)):=fun b z=>by
  by_cases hb:b=true ↔ (o=0∨t=0)
  ·left
   show qmq_ o t n 0 0 b [g] x [z]=_
   unfold qmq_
   cases b with
   | true=>rfl
   | false =>
    rw [if_neg (by decide),if_neg (by decide)]
    have h0:¬ (o=0∨t=0):=fun e=>Bool.false_ne_true (hb.2 e)
    unfold putA
    rw [if_neg h0]
    rw [q1m_,Option.bind_some,aothers_eq lr,Option.bind_some]
    by_cases q1:g.2.1.1 ≠ 0∧g.2.1.1 ≠ o
    ·rw [decide_eq_true q1,if_pos q1]
     rfl
    ·rw [decide_eq_false q1,if_neg (by decide),if_neg q1,Option.bind_some,ain_eq,Option.bind_some]
     by_cases q2:g.2.2.1=1∧g.2.2.2.1=t
     ·rw [decide_eq_true q2,if_neg (by decide),if_neg (fun e=>e q2),Option.bind_some,sput_eq h'.hl h'.sl h'.bb hx,if_pos hn,if_pos hf,Option.bind_some]
      dsimp only
      rw [if_neg (by decide),Option.bind_some]
      have:=ataken_eq (a:=(g.1,g.2.1,g.2.2.1,g.2.2.2.1,g.2.2.2.2.1,putS g.2.2.2.2.2.1 n.toNat x,g.2.2.2.2.2.2)) (o:=o) lr (by omega) kr.1 (by dsimp only; omega)
      show Option.bind (qd5_ ((g.1,g.2.1,g.2.2.1,g.2.2.2.1,g.2.2.2.2.1,putS g.2.2.2.2.2.1 n.toNat x,g.2.2.2.2.2.2),o,())) _=_
      rw [this]
      rfl
     ·rw [decide_eq_false q2,if_pos (by rfl),if_pos q2]
      rfl
  ·exact Or.inr hb
 have p2:o=0∨t=0->putA g o t n x=(g,2):=fun e=>if_pos e
 by_cases ho:o=0
 ·rw [if_pos (q4_.2 ho)]
  rcases K true _ with e | e
  ·rw [e,if_pos rfl,p2 (Or.inl ho)]
  ·exact absurd ⟨fun _=>Or.inl ho,fun _=>rfl⟩ e
 ·rw [if_neg (fun e=>ho (q4_.1 e))]
  rcases K (eqi t 0) ([],(0,0),0,0,0,zSt,0) with e | e
  ·refine e.trans ?_
   by_cases ht:t=0
   ·rw [if_pos (q4_.2 ht),p2 (Or.inr ht)]
   ·rw [if_neg (fun e=>ht (q4_.1 e))]
  ·exact absurd ⟨fun x=>Or.inr (q4_.1 x),fun x=>q4_.2 (x.resolve_left ho)⟩ e
def tickA (a:TAg):TAg:=if (tickL a.2.1).2=true then freeA a else (a.1,(tickL a.2.1).1,a.2.2)
theorem atick_eq {a:TAg} (h:OkG a):quh_ (a,())=some (tickA (ownA a),()):=by
 show qqx_ a=_
 unfold qqx_ tickA
 have h':=h.own
 rw [aown_eq h.sz,Option.bind_some,ltick_eq h'.lr h'.l2,Option.bind_some,afreed_eq]
 dsimp only
 split <;> rfl
def bootA (a:TAg):TAg:=if a.2.2.1=1 then freeA a else a
theorem aboot_eq {a:TAg} (h:OkG a):qur_ (a,())=some (bootA (ownA a),()):=by
 show qqm_ a=_
 unfold qqm_ bootA
 rw [aown_eq h.sz,Option.bind_some,afreed_eq]
 by_cases e:(ownA a).2.2.1=1
 ·rw [if_pos (q4_.2 e),if_pos e]
  rfl
 ·rw [if_neg (fun x=>e (q4_.1 x)),if_neg e]
def statA (a:TAg):List Int:=[a.2.1.1,a.2.2.1,a.2.2.2.1 / 65536,a.2.2.2.1 % 65536,a.2.2.2.2.1 / 65536,a.2.2.2.2.1 % 65536,((a.2.2.2.2.2.1.2.1.count true:Nat):Int),0]
theorem astatus_eq {a:TAg} (h:OkG a):q5_ (a,())=some (statA a,()):=by
 obtain ⟨bk,ls,ph,tx,la,⟨st,hv,bs⟩,tk⟩:=a
 have lr:=h.lr
 have pr:=h.pr
 have tr:=h.tr
 have ar:=h.ar
 have hl:=h.hl
 dsimp only at lr pr tr ar hl
 show qha_ qc8_ (bk,ls,ph,tx,la,(st,hv,bs),tk)=_
 unfold qha_
 have hc:hv.count true≤8:=by
  have:=List.count_le_length (a:=true) (l:=hv)
  omega
 have K:∀ o,qc8_ (bk,ls,ph,tx,la,(st,hv,bs),tk) o=some ([o,ph,tx / 65536,tx % 65536,la / 65536,la % 65536,((hv.count true:Nat):Int),0],()):=fun o=>by
  show qhe_ _ o=_
  unfold qhe_
  dsimp only
  rw [parts_eq tr.1 tr.2,Option.bind_some,parts_eq ar.1 ar.2,Option.bind_some,there_eq hl,Option.bind_some,show cvt .u16 ph=ph from wu16 pr.1 (by omega),show cvt .u16 ((hv.count true:Nat):Int)=_ from wu16 (by omega) (by omega)]
 rw [lfree_eq lr,Option.bind_some]
 dsimp only
 by_cases e:ls.1=0
 ·rw [decide_eq_true e,if_pos rfl,K]
  unfold statA
  dsimp only
  rw [e]
 ·rw [decide_eq_false e,if_neg (by decide),K]
  rfl
def zAg (b:List Int) (t:Int):TAg:=(b,(0,0),0,0,0,zSt,t)
theorem anew_eq {b:List Int} {t:Int} (hb:b.length≤1000000):qwt_ (b,t,())=some (if b.length=64 then if 1≤t then (zAg b t,0,()) else (zAg [] 0,2,()) else (zAg [] 0,21,())):=by
 show qrr_ b t=_
 unfold qrr_
 by_cases h:b.length=64
 ·rw [if_neg (fun e=>qk_.1 e (by rw [q1_]; omega)),if_pos h]
  by_cases h1:1≤t
  ·rw [if_neg (fun e=>by have:=q7_.1 e; omega),if_pos h1,q4t_ hb]
   rfl
  ·rw [if_pos (q7_.2 (by omega)),if_neg h1]
   rfl
 ·rw [if_pos (qk_.2 (by rw [q1_]; omega)),if_neg h]
  rfl
theorem blkS_zero:blkS zSt.2.1 zSt.2.2=[]:=rfl
theorem ok_free {bk:List Int} {la tk:Int} (bl:bk.length=64) (bw:∀ x ∈ bk,0≤x∧x≤65535) (ar:0≤la∧la≤4294967295) (kr:1≤tk∧tk≤9223372036854775807):OkG (bk,(0,0),0,0,la,zSt,tk) where
 bl:=bl
 bw:=bw
 lr:=Or.inl ⟨rfl,rfl⟩
 l1:=⟨by dsimp only; omega,by dsimp only; omega⟩
 l2:=by dsimp only; omega
 pr:=⟨by dsimp only; omega,by dsimp only; omega⟩
 tr:=⟨by dsimp only; omega,by dsimp only; omega⟩
 ar:=ar
 kr:=kr
 hl:=rfl
 sl:=rfl
 bb:=by dsimp only; decide
 wb:=by
  intro b hb w hw
  have:b=zB:=by revert hb; simp; exact fun e=>e
  rw [this] at hw
  cases hw
 fb:=fun b hb=>by rw [show blkS _ _=[] from blkS_zero] at hb; cases hb
 p0:=fun _=>⟨rfl,rfl,rfl,rfl⟩
 pn:=fun e=>absurd rfl e
 p1:=fun e=>absurd e (by dsimp only; omega)
 p2:=fun e=>absurd e (by dsimp only; omega)
theorem OkG.free {a:TAg} (h:OkG a):OkG (freeA a):=ok_free h.bl h.bw h.ar h.kr
theorem OkG.doS {a:TAg} (h:OkG a) {c:TCm} (h1:0≤c.1∧c.1≤65535) (h3:0≤c.2.2.1∧c.2.2.1≤4294967295) (hc:0≤c.2.2.2.1∧c.2.2.2.1≤65535):OkG (doS a c).1:=by
 unfold Lx.doS
 split
 ·exact h
 ·rename_i q0
  split
  ·exact h
  ·rename_i q1
   split
   ·split
    ·exact h
    ·rename_i q2
     split
     ·rename_i q3
      have hp:a.2.2.1 ≠ 0:=fun e=>by have:=(h.p0 e).2.1; omega
      have hn:=h.pn hp
      have hown:a.2.1.1=c.1:=by have:=hn.1; omega
      have hph:a.2.2.1=1∨a.2.2.1=2:=by have:=h.pr; omega
      have hkr:=h.kr
      rcases hph with e | e
      ·have ht:takeL a.2.1 c.1 a.2.2.2.2.2.2=(c.1,a.2.2.2.2.2.2):=by
        unfold takeL
        rw [if_neg]
        intro x
        have:=h.p1 e
        rw [x] at this
        dsimp only at this; omega
       rw [ht]
       exact { h with lr:=Or.inr ⟨by show c.1 ≠ 0; omega,Or.inl hkr.1⟩,l1:=h1,l2:=hkr.2,p0:=fun x=>absurd x hp,pn:=fun _=>⟨by show c.1 ≠ 0; omega,hn.2⟩,p1:=fun _=>hkr.1,p2:=fun x=>absurd (e.symm.trans x) (by decide) }
      ·have ht:takeL a.2.1 c.1 a.2.2.2.2.2.2=a.2.1:=by
        unfold takeL
        rw [if_pos]
        exact Prod.ext hown (h.p2 e).1
       rw [ht]
       exact h
     ·rename_i q3
      have hkr:=h.kr
      have har:=h.ar
      exact { ok_free h.bl h.bw h.ar h.kr with lr:=Or.inr ⟨by show c.1 ≠ 0; omega,Or.inl hkr.1⟩,l1:=h1,l2:=hkr.2,pr:=⟨by dsimp only; omega,by dsimp only; omega⟩,tr:=h3,p0:=fun x=>absurd x (show (1:Int) ≠ 0 by decide),pn:=fun _=>⟨by show c.1 ≠ 0; omega,by show a.2.2.2.2.1 < c.2.2.1; omega,rfl⟩,p1:=fun _=>hkr.1,p2:=fun x=>absurd x (show (1:Int) ≠ 2 by decide) }
   ·split
    ·split
     ·rename_i q2
      have hp:a.2.2.1 ≠ 0:=fun e=>by omega
      have hn:=h.pn hp
      refine { h with lr:=Or.inr ⟨by show c.1 ≠ 0; omega,Or.inr rfl⟩,l1:=h1,l2:=by dsimp only; omega,pr:=⟨by dsimp only; omega,by dsimp only; omega⟩,p0:=fun x=>absurd x (show (2:Int) ≠ 0 by decide),pn:=fun _=>⟨by show c.1 ≠ 0; omega,hn.2⟩,p1:=fun x=>absurd x (show (2:Int) ≠ 1 by decide),p2:=fun _=>⟨rfl,?_⟩ }
      rcases q2 with q2 | q2
      ·exact (h.p2 q2.1).2
      ·have hw:=q2.2.2
       unfold wholeA at hw
       rw [Bool.and_eq_true,Bool.and_eq_true,decide_eq_true_eq] at hw
       have hf:=of_decide_eq_true hw.2.1
       have hl:=h.hl
       have hcnt:((a.2.2.2.2.2.1.2.1.count true:Nat):Int)=c.2.2.2.1:=by
        obtain ⟨n,hn'⟩:=Int.eq_ofNat_of_zero_le hw.1.1
        rw [hn'] at hf ⊢
        have hv8:a.2.2.2.2.2.1.2.1=(List.range 8).map (fun (i:Nat)=>decide ((i:Int) < (n:Int))):=by
         apply List.ext_getElem?
         intro i
         by_cases hi:i < 8
         ·have:=hf i hi
          rw [List.getElem?_map,List.getElem?_range hi,Option.map_some,<- this,List.getD_eq_getElem?_getD,List.getElem?_eq_getElem (by omega)]
          rfl
         ·rw [List.getElem?_eq_none (by omega),List.getElem?_eq_none (by simp; omega)]
        have hn8:n≤8:=by have:=hw.1.2; omega
        rw [hv8]
        have:n=0∨n=1∨n=2∨n=3∨n=4∨n=5∨n=6∨n=7∨n=8:=by omega
        rcases this with rfl | rfl | rfl | rfl | rfl | rfl | rfl | rfl | rfl <;> rfl
       show firstN a.2.2.2.2.2.1.2.1 _=true
       rw [hcnt]
       exact hw.2.1
     ·exact h
    ·split
     ·split
      ·exact h
      ·split
       ·exact ok_free (overB_len h.bl h.fb) (overB_rng (P:=fun y=>0≤y∧y≤65535) h.bw (fun x hx=>h.wb x (blkS_mem hx))) h3 h.kr
       ·exact h
     ·split
      ·exact h
      ·split
       ·exact h.free
       ·exact h
theorem set_mem' {α:Type} {P:α->Prop} {xs:List α} {k:Nat} {x:α} (h:∀ y ∈ xs,P y) (hx:P x):∀ y ∈ xs.set k x,P y:=fun y hy=>by
 rcases List.mem_or_eq_of_mem_set hy with e | e
 ·exact h y e
 ·rw [e]; exact hx
theorem blkS_set {P:TBlk->Prop} {x:TBlk} (hx:P x):∀ {hv:List Bool} {bs:List TBlk} (k:Nat),(∀ b ∈ blkS hv bs,P b)->∀ b ∈ blkS (hv.set k true) (bs.set k x),P b
 | [],bs,k,_=>by intro b hb; simp [blkS] at hb
 | h::r,[],k,_=>by intro b hb; cases k <;> simp [blkS] at hb
 | h::r,c::q,0,hp=>by
  intro b hb
  rw [List.set_cons_zero,List.set_cons_zero] at hb
  unfold blkS at hb hp
  rw [List.zip_cons_cons,List.filter_cons,if_pos rfl,List.map_cons] at hb
  rcases List.mem_cons.1 hb with e | e
  ·rw [e]; exact hx
  ·refine hp b ?_
   rw [List.zip_cons_cons,List.filter_cons]
   split
   ·exact List.mem_cons_of_mem _ e
   ·exact e
 | h::r,c::q,k + 1,hp=>by
  intro b hb
  rw [List.set_cons_succ,List.set_cons_succ] at hb
  have hr:∀ b ∈ blkS r q,P b:=fun b hb=>hp b (by
   unfold blkS at hb ⊢
   rw [List.zip_cons_cons,List.filter_cons]
   split
   ·exact List.mem_cons_of_mem _ hb
   ·exact hb)
  have ih:=blkS_set hx k hr
  unfold blkS at hb hp ih
  rw [List.zip_cons_cons,List.filter_cons] at hb
  cases h with
  | true =>
   rw [if_pos rfl,List.map_cons] at hb
   rcases List.mem_cons.1 hb with e | e
   ·refine hp b ?_
    rw [List.zip_cons_cons,List.filter_cons,if_pos rfl,List.map_cons,e]
    exact List.mem_cons_self ..
   ·exact ih b e
  | false=>exact ih b hb
theorem OkG.putA {a:TAg} (h:OkG a) {o t n:Int} {x:TBlk} (ho:0≤o∧o≤65535) (hf:fitsB x=true) (hw:∀ w ∈ x.2,0≤w∧w≤65535):OkG (putA a o t n x).1:=by
 have hx:x.2.length≤1000:=by have:=of_decide_eq_true hf; omega
 unfold Lx.putA
 split
 ·exact h
 ·rename_i q0
  split
  ·exact h
  ·rename_i q1
   split
   ·exact h
   ·rename_i q2
    have q2:=Classical.not_not.1 q2
    have hkr:=h.kr
    have hp:a.2.2.1 ≠ 0:=by omega
    have hn:=h.pn hp
    have ht:takeL a.2.1 o a.2.2.2.2.2.2=(o,a.2.2.2.2.2.2):=by
     unfold takeL
     rw [if_neg]
     intro e
     have:=h.p1 q2.1
     rw [e] at this
     dsimp only at this; omega
    rw [ht]
    have hbs:∀ b ∈ a.2.2.2.2.2.1.2.2.set n.toNat x,b.2.length≤1000:=set_mem' (P:=fun (b:TBlk)=>b.2.length≤1000) h.bb hx
    have hws:∀ b ∈ a.2.2.2.2.2.1.2.2.set n.toNat x,∀ w ∈ b.2,0≤w∧w≤65535:=set_mem' (P:=fun (b:TBlk)=>∀ w ∈ b.2,0≤w∧w≤65535) h.wb hw
    have hhl:=h.hl
    have hsl:=h.sl
    exact { h with
     lr:=Or.inr ⟨by show o ≠ 0; omega,Or.inl hkr.1⟩
     l1:=ho
     l2:=hkr.2
     hl:=by show (a.2.2.2.2.2.1.2.1.set n.toNat true).length=8; rw [List.length_set]; exact hhl
     sl:=nzB_len (by rw [List.length_set]; exact hhl) (by rw [List.length_set]; exact hsl)
     bb:=nzB_mem (P:=fun b=>b.2.length≤1000) (by show (0:Nat)≤1000; omega) hbs
     wb:=nzB_mem (P:=fun b=>∀ w ∈ b.2,0≤w∧w≤65535) (by intro w hw; cases hw) hws
     fb:=by
      show ∀ b ∈ blkS (a.2.2.2.2.2.1.2.1.set n.toNat true) (nzB (a.2.2.2.2.2.1.2.1.set n.toNat true) (a.2.2.2.2.2.1.2.2.set n.toNat x)),fitsB b=true
      rw [blkS_nz]
      exact blkS_set hf _ h.fb
     p0:=fun e=>absurd e hp
     pn:=fun _=>⟨by show o ≠ 0; omega,hn.2⟩
     p1:=fun _=>hkr.1
     p2:=fun e=>absurd (q2.1.symm.trans e) (by decide) }
theorem OkG.tickA {a:TAg} (h:OkG a):OkG (tickA a):=by
 unfold Lx.tickA tickL
 by_cases q0:a.2.1.1=0∨a.2.1.2=-1
 ·rw [if_pos q0,if_neg (show ¬ (a.2.1,false).2=true from Bool.false_ne_true)]
  exact h
 ·rw [if_neg q0]
  by_cases q1:a.2.1.2=1
  ·rw [if_pos q1,if_pos rfl]
   exact h.free
  ·rw [if_neg q1,if_neg (show ¬ ((a.2.1.1,a.2.1.2 - 1),false).2=true from Bool.false_ne_true)]
   have hl2:=h.l2
   have lr:1≤a.2.1.2:=by
    have:=h.lr
    unfold RightL at this
    omega
   have hp:a.2.2.1 ≠ 0:=fun e=>by have:=(h.p0 e).1; omega
   have hn:=h.pn hp
   exact { h with
    lr:=Or.inr ⟨hn.1,Or.inl (by show 1≤a.2.1.2 - 1; omega)⟩
    l2:=by show a.2.1.2 - 1≤_; omega
    p0:=fun e=>absurd e hp
    pn:=fun _=>⟨hn.1,hn.2⟩
    p1:=fun _=>by show 1≤a.2.1.2 - 1; omega
    p2:=fun e=>by have:=(h.p2 e).1; omega }
theorem OkG.bootA {a:TAg} (h:OkG a):OkG (bootA a):=by
 unfold Lx.bootA
 split
 ·exact h.free
 ·exact h
end Go.Proofs.Lx
end
section
namespace Go.Proofs.Lx
open Go Ev Sx Pl
set_option maxRecDepth 100000
abbrev TSpace:=List TArea×List TArea×List TArea×List TArea
theorem uses_eq (f:Int):qil_ (f,())=some ((if f=1 then (1,0) else if f=2 then (2,0) else if f=3 then (3,0) else if f=4 then (4,0) else if f=5 then (0,1) else if f=6 then (0,3) else if f=15 then (0,1) else if f=16 then (0,3) else if f=23 then (3,3) else (0,0)),()):=by
 show qqt_ f=_
 unfold qqt_
 simp only [q4_,gdV]
 have e:∀ k:Int,(k=f)=(f=k):=fun k=>propext ⟨fun h=>h.symm,fun h=>h.symm⟩
 simp only [e]
 repeat' split
 all_goals rfl
def rdW (x:TArea):Bool:=x.2.2.1
def wrW (p m:Int) (x:TArea):Bool:=x.2.2.2.1 && (!x.2.2.2.2 || (decide (x.1=p) && decide (x.2.1=m)))
theorem zwb (p m:Int) (x:TArea):q16_ (x,p,m,())=some (wrW p m x,p,m,()):=by
 obtain ⟨a,b,c,d,e⟩:=x
 show q6s_ (a,b,c,d,e) p m=_
 unfold q6s_ wrW
 dsimp only
 cases d <;> cases e <;> try rfl
 rw [if_pos rfl,if_neg (by decide)]
 by_cases h:a=p
 ·rw [if_pos (q4_.2 h),decide_eq_true h]; rfl
 ·rw [if_neg (fun e=>h (q4_.1 e)),decide_eq_false h]; rfl
theorem zwu (p m:Int) (x:TArea):q11_ (x,p,m,())=some (wrW p m x,p,m,()):=by
 obtain ⟨a,b,c,d,e⟩:=x
 show q5h_ (a,b,c,d,e) p m=_
 unfold q5h_ wrW
 dsimp only
 cases d <;> cases e <;> try rfl
 rw [if_pos rfl,if_neg (by decide)]
 by_cases h:a=p
 ·rw [if_pos (q4_.2 h),decide_eq_true h]; rfl
 ·rw [if_neg (fun e=>h (q4_.1 e)),decide_eq_false h]; rfl
section
variable {l:List TArea} {p:Int} {m:Nat} (hp:0≤p) (hpm:p≤1000000) (hm:m≤1000000) (hl:l.length≤1000000) (ho:∀ x ∈ l,OkAr x)
include hp hpm hm hl ho
theorem tab_br (c:List Bool):q2e_ ((l,c),p,(m:Int),())=some (eachS rdW l p m,()):=by
 show Option.bind (qgj_ (l,p,(m:Int),())) _=_
 rw [each_br_eq hp hm hpm hl ho (w:=rdW) (fun _=>rfl)]
 rfl
theorem tab_ur (c:List Int):q1g_ ((l,c),p,(m:Int),())=some (eachS rdW l p m,()):=by
 show Option.bind (qgo_ (l,p,(m:Int),())) _=_
 rw [each_ur_eq hp hm hpm hl ho (w:=rdW) (fun _=>rfl)]
 rfl
theorem tab_bw (c:List Bool):q2f_ ((l,c),p,(m:Int),())=some (eachS (wrW p m) l p m,()):=by
 show Option.bind (qgd_ (l,p,(m:Int),p,(m:Int),())) _=_
 rw [each_bw_eq hp hm hpm hl ho (w:=wrW p m) (zwb p m)]
 rfl
theorem tab_uw (c:List Int):q1a_ ((l,c),p,(m:Int),())=some (eachS (wrW p m) l p m,()):=by
 show Option.bind (qgn_ (l,p,(m:Int),p,(m:Int),())) _=_
 rw [each_uw_eq hp hm hpm hl ho (w:=wrW p m) (zwu p m)]
 rfl
end
theorem target_eq {a:TA} (h:OkA a):qap_ (a,())=some ((if a.1=23 then a.2.2.2.1 else a.2.1),((a.2.2.2.2.2.length + a.2.2.2.2.1.length:Nat):Int),()):=by
 have:=h.lw
 have:=h.lb
 have h0:=h.at0
 have h1:=h.at1
 have h2:=h.t0
 have h3:=h.t1
 show qni_ a=_
 unfold qni_
 rw [q1_,q1_,addn64 (by omega),cvt64 (by omega) (by omega),cvt64 (by omega) (by omega)]
 simp only [q4_]
 split <;> rfl
theorem each_read {k:Int} {w h:Bool} {p:Int} {m:Nat} (hk:1≤k) (hp:0≤p) (hm:1≤m) (f:TArea->Bool) (hf:f (0,k,true,w,h)=true):eachS f [(0,k,true,w,h)] p m=decide (p + m≤k):=by
 have hw:∀ i:Int,0≤i->wantF f [(0,k,true,w,h)] i=decide (i < k):=fun i hi=>by
  unfold wantF qt_
  rw [List.find?_cons,List.find?_nil]
  have:covS (0,k,true,w,h) i=decide (i < k):=by
   unfold covS
   rw [decide_eq_decide]
   dsimp only
   omega
  rw [this]
  by_cases h:i < k
  ·rw [decide_eq_true h]; exact hf
  ·rw [decide_eq_false h]
 unfold eachS
 rw [Bool.eq_iff_iff,List.all_eq_true,decide_eq_true_eq]
 constructor
 ·intro hall
  have:=hall (m - 1) (List.mem_range.2 (by omega))
  rw [hw _ (by omega),decide_eq_true_eq] at this
  omega
 ·intro hle k hk
  rw [List.mem_range] at hk
  rw [hw _ (by omega),decide_eq_true_eq]
  omega
def SPH:List TArea:=[(0,64,true,false,false),(256,8,true,false,false),(272,8,false,true,true),(288,20,false,true,true),(512,20,true,false,false),(544,20,true,false,false),(576,20,true,false,false),(608,20,true,false,false),(640,20,true,false,false),(672,20,true,false,false),(704,20,true,false,false),(736,20,true,false,false)]
def SP:TSpace:=([(0,16,true,true,false)],[(0,8,true,false,false)],SPH,[(0,8,true,false,false)])
theorem space_eq:q4u_ ()=some (SP,()):=by kernel_rfl
theorem want_some {f:TArea->Bool} {l:List TArea} {i:Int} (h:wantF f l i=true):∃ x ∈ l,covS x i=true∧f x=true:=by
 unfold wantF qt_ at h
 cases hx:l.find? (fun x=>covS x i) with
 | none=>rw [hx] at h; cases h
 | some x =>
  rw [hx] at h
  exact ⟨x,List.mem_of_find?_eq_some hx,by simpa using List.find?_some hx,h⟩
theorem wrH_eq {p:Int} {m:Nat} (hm:1≤m):eachS (wrW p m) SPH p m=decide (p=272∧m=8∨p=288∧m=20):=by
 rw [Bool.eq_iff_iff,decide_eq_true_eq]
 constructor
 ·intro h
  unfold eachS at h
  rw [List.all_eq_true] at h
  have h0:=h 0 (List.mem_range.2 (by omega))
  obtain ⟨x,hx,_,hw⟩:=want_some h0
  have e:wrW p (m:Int) x=true ↔ x.2.2.2.1=true∧(x.2.2.2.2=false∨(x.1=p∧x.2.1=(m:Int))):=by
   unfold wrW
   rw [Bool.and_eq_true,Bool.or_eq_true,Bool.and_eq_true,decide_eq_true_eq,decide_eq_true_eq,Bool.not_eq_true']
  rw [e] at hw
  simp only [SPH,List.mem_cons,List.not_mem_nil,or_false] at hx
  rcases hx with rfl | rfl | rfl | rfl | rfl | rfl | rfl | rfl | rfl | rfl | rfl | rfl <;> simp at hw <;> omega
 ·rintro (⟨rfl,rfl⟩ | ⟨rfl,rfl⟩) <;> decide
def rdH (p:Int) (m:Nat):Bool:=eachS rdW SPH p m
theorem rdH_le {p:Int} {m:Nat} (hm:1≤m) (h:rdH p m=true):p + m≤756:=by
 unfold rdH eachS at h
 rw [List.all_eq_true] at h
 obtain ⟨x,hx,hc,_⟩:=want_some (h (m - 1) (List.mem_range.2 (by omega)))
 unfold covS at hc
 rw [decide_eq_true_eq] at hc
 simp only [SPH,List.mem_cons,List.not_mem_nil,or_false] at hx
 rcases hx with rfl | rfl | rfl | rfl | rfl | rfl | rfl | rfl | rfl | rfl | rfl | rfl <;> dsimp only at hc <;> omega
theorem okSPH:∀ x ∈ SPH,OkAr x:=fun x hx=>by
 simp only [SPH,List.mem_cons,List.not_mem_nil,or_false] at hx
 rcases hx with rfl | rfl | rfl | rfl | rfl | rfl | rfl | rfl | rfl | rfl | rfl | rfl <;> exact ⟨by decide,by decide,by decide,by decide⟩
theorem okOne {k:Int} (h0:0≤k) (h1:k≤100) {r w h:Bool}:∀ x ∈ [((0:Int),k,r,w,h)],OkAr x:=fun x hx=>by
 rw [List.mem_singleton] at hx
 subst hx
 exact ⟨by dsimp only; omega,by dsimp only; omega,by dsimp only; omega,by dsimp only; omega⟩
def chkS (a:TA):Bool :=
 if a.1=1 then decide (a.2.1 + a.2.2.1≤16) else if a.1=2∨a.1=4 then decide (a.2.1 + a.2.2.1≤8)
 else if a.1=3 then rdH a.2.1 a.2.2.1.toNat
 else if a.1=5∨a.1=15 then decide (a.2.1 + (a.2.2.2.2.2.length:Int)≤16)
 else if a.1=23 then rdH a.2.1 a.2.2.1.toNat && decide (a.2.2.2.1=272∧a.2.2.2.2.1.length=8∨a.2.2.2.1=288∧a.2.2.2.2.1.length=20)
 else decide (a.2.1=272∧a.2.2.2.2.1.length=8∨a.2.1=288∧a.2.2.2.2.1.length=20)
abbrev XV:=(List TArea×List Bool)×(List TArea×List Bool)×(List TArea×List Int)×List TArea×List Int
def vS:XV:=(([(0,16,true,true,false)],[]),([(0,8,true,false,false)],[]),(SPH,[]),[(0,8,true,false,false)],[])
theorem check_eq {a:TA} (h:OkA a) (hr:q21_ a=true):q9u_ (SP,a,())=some (if chkS a=true then 0 else 2,()):=by
 have hra:=q5a_ hr
 have ht:=target_eq h
 have p0:=h.at0
 have p1:=h.at1
 have t0:=h.t0
 have t1:=h.t1
 have m0:=h.m0
 have m1:=h.m1
 show qiy_ q17_ SP a=_
 unfold qiy_
 have ho:qja_ (SP,([],[],[],[]),())=some (vS,()):=rfl
 rw [right_eq h,hr,Option.bind_some,if_neg (by decide),ho,Option.bind_some,uses_eq,Option.bind_some]
 have K1t:∀ u,q17_ true a vS u=some (2,()):=fun u=>rfl
 have K1:∀ u,q17_ false a vS u=Option.bind (qap_ (a,())) fun y=>if eqi u.2 1=true then Option.bind (q2f_ (vS.1,y.1,y.2.1,())) fun y=>q4y_ !y.1 else if eqi u.2 2=true then Option.bind (q2f_ (vS.2.1,y.1,y.2.1,())) fun y=>q4y_ !y.1 else if eqi u.2 3=true then Option.bind (q1a_ (vS.2.2.1,y.1,y.2.1,())) fun y=>q4y_ !y.1 else if eqi u.2 4=true then Option.bind (q1a_ (vS.2.2.2,y.1,y.2.1,())) fun y=>q4y_ !y.1 else q4y_ false:=fun u=>rfl
 rw [ht] at K1
 simp only [Option.bind_some] at K1
 have K2:∀ b:Bool,q4y_ (!b)=some (if b=true then 0 else 2,()):=fun b=>by cases b <;> rfl
 have K1b:∀ (b:Bool) (u:Int×Int),u.2=0->q17_ (!b) a vS u=some (if b=true then 0 else 2,()):=fun b u hu=>by
  cases b with
  | true =>
   show q17_ false a vS u=_
   rw [K1,hu]
   rfl
  | false=>rfl
 cases hra with
 | bits f p n hf h1 h2 =>
  obtain ⟨n,rfl⟩:=Int.eq_ofNat_of_zero_le (show 0≤n by omega)
  have p0:0≤p:=p0
  have p1:p≤65535:=p1
  have hc:cvt .i64 p=p:=cvt64 (by omega) (by omega)
  have hc2:cvt .i64 (n:Int)=n:=cvt64 (by omega) (by omega)
  rcases hf with rfl | rfl
  ·have hb:=tab_br (l:=[(0,16,true,true,false)]) (p:=p) (m:=n) p0 (by omega) (by omega) (by decide) (okOne (by decide) (by decide)) []
   rw [each_read (by decide) p0 (by omega) rdW rfl] at hb
   rw [<- hc,<- hc2] at hb
   show Option.bind (q2e_ (vS.1,cvt .i64 p,cvt .i64 (n:Int),())) (fun y=>q17_ (!y.1) (1,p,(n:Int),0,[],[]) vS (1,0))=_
   refine (congrArg (fun z=>Option.bind z _) hb).trans ?_
   rw [Option.bind_some,K1b _ _ rfl,hc,hc2]
   rfl
  ·have hb:=tab_br (l:=[(0,8,true,false,false)]) (p:=p) (m:=n) p0 (by omega) (by omega) (by decide) (okOne (by decide) (by decide)) []
   rw [each_read (by decide) p0 (by omega) rdW rfl] at hb
   rw [<- hc,<- hc2] at hb
   show Option.bind (q2e_ (vS.2.1,cvt .i64 p,cvt .i64 (n:Int),())) (fun y=>q17_ (!y.1) (2,p,(n:Int),0,[],[]) vS (2,0))=_
   refine (congrArg (fun z=>Option.bind z _) hb).trans ?_
   rw [Option.bind_some,K1b _ _ rfl,hc,hc2]
   rfl
 | words f p n hf h1 h2 =>
  obtain ⟨n,rfl⟩:=Int.eq_ofNat_of_zero_le (show 0≤n by omega)
  have p0:0≤p:=p0
  have p1:p≤65535:=p1
  have hc:cvt .i64 p=p:=cvt64 (by omega) (by omega)
  have hc2:cvt .i64 (n:Int)=n:=cvt64 (by omega) (by omega)
  rcases hf with rfl | rfl
  ·have hu:=tab_ur (l:=SPH) (p:=p) (m:=n) p0 (by omega) (by omega) (by decide) okSPH []
   rw [<- hc,<- hc2] at hu
   show Option.bind (q1g_ (vS.2.2.1,cvt .i64 p,cvt .i64 (n:Int),())) (fun y=>q17_ (!y.1) (3,p,(n:Int),0,[],[]) vS (3,0))=_
   refine (congrArg (fun z=>Option.bind z _) hu).trans ?_
   rw [Option.bind_some,K1b _ _ rfl,hc]
   rfl
  ·have hu:=tab_ur (l:=[(0,8,true,false,false)]) (p:=p) (m:=n) p0 (by omega) (by omega) (by decide) (okOne (by decide) (by decide)) []
   rw [each_read (by decide) p0 (by omega) rdW rfl] at hu
   rw [<- hc,<- hc2] at hu
   show Option.bind (q1g_ (vS.2.2.2,cvt .i64 p,cvt .i64 (n:Int),())) (fun y=>q17_ (!y.1) (4,p,(n:Int),0,[],[]) vS (4,0))=_
   refine (congrArg (fun z=>Option.bind z _) hu).trans ?_
   rw [Option.bind_some,K1b _ _ rfl,hc,hc2]
   rfl
 | coil p b =>
  have p0:0≤p:=p0
  have p1:p≤65535:=p1
  have hw:=tab_bw (l:=[(0,16,true,true,false)]) (p:=p) (m:=1) p0 (by omega) (by omega) (by decide) (okOne (by decide) (by decide)) []
  rw [each_read (by decide) p0 (by omega) _ rfl] at hw
  show q17_ false (5,p,0,0,[],[b]) vS (0,1)=_
  rw [K1,if_pos (by decide)]
  refine (congrArg (fun z=>Option.bind z _) hw).trans ?_
  rw [Option.bind_some,K2]
  rfl
 | word p x =>
  have p0:0≤p:=p0
  have p1:p≤65535:=p1
  have hw:=tab_uw (l:=SPH) (p:=p) (m:=1) p0 (by omega) (by omega) (by decide) okSPH []
  rw [wrH_eq (by omega)] at hw
  show q17_ false (6,p,0,0,[x],[]) vS (0,3)=_
  rw [K1,if_neg (by decide),if_neg (by decide),if_pos (by decide)]
  refine (congrArg (fun z=>Option.bind z _) hw).trans ?_
  rw [Option.bind_some,K2]
  rfl
 | coils p l h1 h2 =>
  have p0:0≤p:=p0
  have p1:p≤65535:=p1
  have hw:=tab_bw (l:=[(0,16,true,true,false)]) (p:=p) (m:=l.length) p0 (by omega) (by omega) (by decide) (okOne (by decide) (by decide)) []
  rw [each_read (by decide) p0 (by omega) _ rfl] at hw
  show q17_ false (15,p,(l.length:Int),0,[],l) vS (0,1)=_
  rw [K1,if_pos (by decide)]
  refine (congrArg (fun z=>Option.bind z _) hw).trans ?_
  rw [Option.bind_some,K2]
  rfl
 | regs p l h1 h2 =>
  have p0:0≤p:=p0
  have p1:p≤65535:=p1
  have hw:=tab_uw (l:=SPH) (p:=p) (m:=l.length) p0 (by omega) (by omega) (by decide) okSPH []
  rw [wrH_eq (by omega)] at hw
  show q17_ false (16,p,(l.length:Int),0,l,[]) vS (0,3)=_
  rw [K1,if_neg (by decide),if_neg (by decide),if_pos (by decide)]
  have e:((([]:List Bool).length + l.length:Nat):Int)=(l.length:Int):=by simp
  show Option.bind (q1a_ (vS.2.2.1,p,((([]:List Bool).length + l.length:Nat):Int),())) _=_
  rw [e]
  refine (congrArg (fun z=>Option.bind z _) hw).trans ?_
  rw [Option.bind_some,K2]
  rfl
 | swap p n t l h1 h2 h3 h4 =>
  obtain ⟨n,rfl⟩:=Int.eq_ofNat_of_zero_le (show 0≤n by omega)
  have p0:0≤p:=p0
  have p1:p≤65535:=p1
  have t0:0≤t:=t0
  have t1:t≤65535:=t1
  have hc:cvt .i64 p=p:=cvt64 (by omega) (by omega)
  have hc2:cvt .i64 (n:Int)=n:=cvt64 (by omega) (by omega)
  have hu:=tab_ur (l:=SPH) (p:=p) (m:=n) p0 (by omega) (by omega) (by decide) okSPH []
  rw [<- hc,<- hc2] at hu
  have hw:=tab_uw (l:=SPH) (p:=t) (m:=l.length) t0 (by omega) (by omega) (by decide) okSPH []
  rw [wrH_eq (by omega)] at hw
  show Option.bind (q1g_ (vS.2.2.1,cvt .i64 p,cvt .i64 (n:Int),())) (fun y=>q17_ (!y.1) (23,p,(n:Int),t,l,[]) vS (3,3))=_
  refine (congrArg (fun z=>Option.bind z _) hu).trans ?_
  rw [Option.bind_some,hc]
  show q17_ (!rdH p n) (23,p,(n:Int),t,l,[]) vS (3,3)=some (if (rdH p n && decide (t=272∧l.length=8∨t=288∧l.length=20))=true then 0 else 2,())
  cases rdH p n with
  | false=>rfl
  | true =>
   rw [Bool.true_and]
   show q17_ false _ vS (3,3)=_
   rw [K1,if_neg (by decide),if_neg (by decide),if_pos (by decide)]
   have e:((([]:List Bool).length + l.length:Nat):Int)=(l.length:Int):=by simp
   show Option.bind (q1a_ (vS.2.2.1,t,((([]:List Bool).length + l.length:Nat):Int),())) _=_
   rw [e]
   refine (congrArg (fun z=>Option.bind z _) hw).trans ?_
   rw [Option.bind_some,K2]
theorem uread_eq {h:List Int} {p n:Int} (hp:0≤p) (hn:0≤n) (hh:h.length≤100000) (hle:p + n≤h.length) (l:List TArea):q7u_ ((l,h),p,n,1,())=some ((h.drop p.toNat).take n.toNat,()):=by
 obtain ⟨p,rfl⟩:=Int.eq_ofNat_of_zero_le hp
 obtain ⟨n,rfl⟩:=Int.eq_ofNat_of_zero_le hn
 have e1:mul .i64 (quo .i64 (sub .i64 (add .i64 (n:Int) 1) 1) 1) 1=(n:Int):=by
  rw [q15_ (by omega),sub64 (by omega) (by omega),show (((n + 1:Nat):Int) - 1)=(n:Int) by omega]
  have:=quo_nat (i:=n) (d:=1) (by omega)
  rw [Nat.div_one] at this
  rw [show (1:Int)=((1:Nat):Int) from rfl,this,mul64 (by omega) (by omega)]
  omega
 show q98_ (l,h) (p:Int) (n:Int) 1=_
 unfold q98_
 rw [e1,q8_ (by decide),q8_ (q12_.2 (by omega)),q8_ (capOk_sf _),Int.toNat_natCast,qm_ (by omega),addn64 (by omega)]
 dsimp only
 rw [cut_nat (by omega) (by omega),Option.bind_some,List.length_replicate,q8_ (qs_.2 (by rw [q1_,q1_]; omega))]
 have hlen:((h.take (p + n)).drop p).length=n:=by rw [List.length_drop,List.length_take]; omega
 have ht:((h.take (p + n)).drop p)=(h.drop p).take n:=by rw [List.drop_take]; congr 1; omega
 have hz:List.drop (0 + n) (List.replicate n (0:Int))=[]:=List.drop_of_length_le (by rw [List.length_replicate]; omega)
 rw [q1_,Int.toNat_natCast,List.take_of_length_le (show ((h.take (p + n)).drop p).length≤n by omega),hlen,hz,List.append_nil,ht]
 rfl
theorem wrong_eq (f e:Int):ql_ (f,e,())=some ((rem f 128,e,[],[],0,0),()):=rfl
theorem right_f {a:TA} (hr:q21_ a=true):1≤a.1∧a.1 < 128:=by
 cases q5a_ hr with
 | bits f p n hf=>show 1≤f∧f < 128; omega
 | words f p n hf=>show 1≤f∧f < 128; omega
 | coil p b=>exact ⟨(by decide:(1:Int)≤5),(by decide:(5:Int) < 128)⟩
 | word p x=>exact ⟨(by decide:(1:Int)≤6),(by decide:(6:Int) < 128)⟩
 | coils p l=>exact ⟨(by decide:(1:Int)≤15),(by decide:(15:Int) < 128)⟩
 | regs p l=>exact ⟨(by decide:(1:Int)≤16),(by decide:(16:Int) < 128)⟩
 | swap p n t l=>exact ⟨(by decide:(1:Int)≤23),(by decide:(23:Int) < 128)⟩
structure Rep (r:TR):Prop where
 ok:OkR r
 rr:RR r
 rt:rightR r=true
theorem rep_wrong {f e:Int} (h0:0≤f) (h1:f < 128) (h2:1≤e) (h3:e≤4):Rep (f,e,[],[],0,0):=by
 refine ⟨⟨h0,by show f≤255; omega,by show 0≤e; omega,by show e≤255; omega,(fun x hx=>by cases hx),(by decide:(0:Int)≤0),(by decide:(0:Int)≤65535),(by decide:(0:Int)≤0),(by decide:(0:Int)≤65535),Nat.zero_le _,Nat.zero_le _⟩,.ex f e h0 h1 h2 h3,?_⟩
 unfold rightR
 rw [if_pos (by rw [qk_]; show e ≠ 0; omega)]
 unfold exR
 dsimp only
 rw [rem128 h0 h1,decide_eq_true h1,decide_eq_true h2,decide_eq_true h3,decide_eq_true rfl]
 rfl
theorem rep_sm {r:TR} (h:Rep r):SmR r:=by
 cases h.rr <;> exact ⟨by simp <;> omega,by simp <;> omega⟩
theorem rep_bytes {r:TR} (h:Rep r):qd3_ (r,())=some (repB r,0,()):=by rw [rbytes_eq (rep_sm h),if_pos h.rt]
end Go.Proofs.Lx
end
section
namespace Go.Proofs.Lx
open Go Ev Sx Pl
set_option maxRecDepth 100000
abbrev TMem:=List Bool×List Bool×List Int×List Int
structure OkS (s:TSl):Prop where
 u:1≤s.1∧s.1≤247
 l:s.2.1=1∨s.2.1=2
 a:OkG s.2.2.1
 c:s.2.2.2.length=16
def cpy {α:Type} (b:List α) (p:Nat) (w:List α):List α:=b.take p++w++b.drop (p + w.length)
theorem cpy_len {α:Type} {b w:List α} {p:Nat} (h:p + w.length≤b.length):(cpy b p w).length=b.length:=by
 unfold cpy
 rw [List.length_append,List.length_append,List.length_take,List.length_drop]
 omega
theorem cpy_in {α:Type} {b w:List α} {p:Nat} (h:p + w.length≤b.length):((cpy b p w).drop p).take w.length=w:=by
 have lp:(b.take p).length=p:=by rw [List.length_take]; omega
 unfold cpy
 rw [List.append_assoc,List.drop_left' lp,List.take_left' rfl]
theorem cpy_get {α:Type} {b w:List α} {p i:Nat} (h:p + w.length≤b.length):(cpy b p w)[i]? = if p≤i∧i < p + w.length then w[i - p]? else b[i]?:=by
 have lp:(b.take p).length=p:=by rw [List.length_take]; omega
 unfold cpy
 by_cases h1:i < p
 ·rw [if_neg (by omega),List.append_assoc,List.getElem?_append_left (by omega),List.getElem?_take_of_lt h1]
 ·by_cases h2:i < p + w.length
  ·rw [if_pos ⟨by omega,h2⟩,List.append_assoc,List.getElem?_append_right (by omega),lp,List.getElem?_append_left (by omega)]
  ·rw [if_neg (by omega),List.getElem?_append_right (by rw [List.length_append]; omega),List.length_append,lp,List.getElem?_drop]
   congr 1
   omega
theorem cpy_out {α:Type} {b w:List α} {p q n:Nat} (h:p + w.length≤b.length) (hd:p + w.length≤q∨q + n≤p):((cpy b p w).drop q).take n=(b.drop q).take n:=by
 apply List.ext_getElem?
 intro i
 by_cases hi:i < n
 ·rw [List.getElem?_take_of_lt hi,List.getElem?_take_of_lt hi,List.getElem?_drop,List.getElem?_drop,cpy_get h,if_neg (by omega)]
 ·rw [List.getElem?_eq_none (by rw [List.length_take]; omega),List.getElem?_eq_none (by rw [List.length_take]; omega)]
theorem cpy_rng {α:Type} {b w:List α} {p:Nat} {P:α->Prop} (hb:∀ y ∈ b,P y) (hx:∀ y ∈ w,P y):∀ y ∈ cpy b p w,P y:=by
 intro y hy
 unfold cpy at hy
 rcases List.mem_append.1 hy with h | h
 ·rcases List.mem_append.1 h with h | h
  ·exact hb y (List.mem_of_mem_take h)
  ·exact hx y h
 ·exact hb y (List.mem_of_mem_drop h)
theorem cpy_code {α:Type} {b w:List α} {p m:Nat} (hm:w.length≤m):b.take p++w.take m++b.drop (p + (w.take m).length)=cpy b p w:=by
 rw [List.take_of_length_le hm]
 rfl
def holdS (a:TAg):List Int:=(List.range 8).foldl (fun h b=>cpy h (512 + b * 32) (backS a.2.2.2.2.2.1 a.2.1.1 (b:Int))) (cpy (cpy (List.replicate 756 0) 0 a.1) 256 (statA a))
def inpS (a:TAg):List Bool:=((((List.replicate 8 false).set a.2.2.1.toNat true).set 4 (decide (a.2.1.1 ≠ 0))).set 5 (decide (true ∈ a.2.2.2.2.2.1.2.1)))
def memS (s:TSl):TMem:=(s.2.2.2,inpS s.2.2.1,holdS s.2.2.1,statA s.2.2.1)
theorem backS_len {s:TStg} {o n:Int}:(backS s o n).length=20:=by
 unfold backS
 split
 ·exact tagB_len
 ·rfl
theorem holdP_len {a:TAg} (h:OkG a):∀ k:Nat,k≤8->((List.range k).foldl (fun h b=>cpy h (512 + b * 32) (backS a.2.2.2.2.2.1 a.2.1.1 (b:Int))) (cpy (cpy (List.replicate 756 0) 0 a.1) 256 (statA a))).length=756
 | 0,_=>by
  have h64:=h.bl
  rw [List.range_zero,List.foldl_nil]
  have e1:(cpy (List.replicate 756 (0:Int)) 0 a.1).length=756:=by rw [cpy_len (by rw [List.length_replicate]; omega),List.length_replicate]
  rw [cpy_len (by rw [e1]; show 256 + 8≤756; omega),e1]
 | k + 1,hk=>by
  have ih:=holdP_len h k (by omega)
  rw [List.range_succ,List.foldl_append,List.foldl_cons,List.foldl_nil,cpy_len (by rw [ih,backS_len]; omega),ih]
theorem holdS_len {a:TAg} (h:OkG a):(holdS a).length=756:=holdP_len h 8 (by omega)
theorem inpS_len (a:TAg):(inpS a).length=8:=by
 unfold inpS
 rw [List.length_set,List.length_set,List.length_set,List.length_replicate]
set_option maxHeartbeats 1000000 in
theorem mem_eq {s:TSl} (h:OkS s):q4r_ (s,())=some (memS s,()):=by
 have ha:=h.a
 have hst:=astatus_eq ha
 have hfr:=lfree_eq ha.lr
 have hco:=contains_eq (s:=s.2.2.1.2.2.2.2.2.1.2.1) true (by have:=ha.hl; omega)
 have pr:=ha.pr
 have h64:=ha.bl
 have hh8:=ha.hl
 have h16:=h.c
 show qn6_ qmv_ s=_
 unfold qn6_
 simp only [hst,Option.bind_some,amb2 (eqAs_refl q2_.rs),amb3 (eqAs_refl q2_.rs)]
 show qms_ qnh_ s (statA s.2.2.1) (List.replicate 16 false) (List.replicate 8 false) (List.replicate 756 0)=_
 unfold qms_
 obtain ⟨ph,hph⟩:=Int.eq_ofNat_of_zero_le pr.1
 have hin:(List.replicate 8 false)[ph]? = some false:=by rw [List.getElem?_replicate,if_pos (by omega)]
 have hcoil:List.take (Int.toNat (Int.ofNat (List.replicate 16 false).length)) s.2.2.2++List.drop (0 + (List.take (Int.toNat (Int.ofNat (List.replicate 16 false).length)) s.2.2.2).length) (List.replicate 16 false)=s.2.2.2:=by
  rw [List.length_replicate,show Int.toNat (Int.ofNat 16)=16 from rfl,List.take_of_length_le (by omega),h16,List.drop_of_length_le (by rw [List.length_replicate]; omega),List.append_nil]
 rw [q8_ (qs_.2 (by rw [q1_,q1_]; omega)),if_pos (qs_.2 pr.2),hph,qj_ hin,Option.bind_some,Option.bind_some,hcoil,Int.toNat_natCast]
 show qn4_ qds_ s (statA s.2.2.1) s.2.2.2 ((List.replicate 8 false).set ph true) (List.replicate 756 0)=_
 unfold qn4_
 have h4:∃ x,((List.replicate 8 false).set ph true)[4]? = some x:=get_of (by rw [List.length_set,List.length_replicate]; omega)
 obtain ⟨x4,h4⟩:=h4
 have t8:List.take 8 (List.drop 0 s.2.2.1.2.2.2.2.2.1.2.1)=s.2.2.1.2.2.2.2.2.1.2.1:=by rw [List.drop_zero,List.take_of_length_le (by omega)]
 rw [hfr,Option.bind_some,show at? ((List.replicate 8 false).set ph true) 4=some x4 from qj_ h4,Option.bind_some,Option.bind_some,t8,hco,Option.bind_some]
 dsimp only
 generalize hy:(!decide (s.2.2.1.2.1.1=0))=y4
 have h5:∃ x,(((List.replicate 8 false).set ph true).set 4 y4)[5]? = some x:=get_of (by rw [List.length_set,List.length_set,List.length_replicate]; omega)
 obtain ⟨x5,h5⟩:=h5
 rw [show at? (((List.replicate 8 false).set ph true).set 4 y4) 5=some x5 from qj_ h5,Option.bind_some,Option.bind_some]
 have c64:List.take 64 s.2.2.1.1++List.drop (0 + (List.take 64 s.2.2.1.1).length) (List.replicate 756 (0:Int))=cpy (List.replicate 756 0) 0 s.2.2.1.1:=cpy_code (p:=0) (b:=List.replicate 756 (0:Int)) (by omega)
 have l64:(cpy (List.replicate 756 (0:Int)) 0 s.2.2.1.1).length=756:=by rw [cpy_len (by rw [List.length_replicate]; omega),List.length_replicate]
 rw [c64,l64]
 have l8:(statA s.2.2.1).length=8:=rfl
 have cst:List.take 256 (cpy (List.replicate 756 0) 0 s.2.2.1.1)++List.take (Int.toNat (Int.ofNat 756 - 256)) (statA s.2.2.1)++List.drop (256 + (List.take (Int.toNat (Int.ofNat 756 - 256)) (statA s.2.2.1)).length) (cpy (List.replicate 756 0) 0 s.2.2.1.1)=cpy (cpy (List.replicate 756 0) 0 s.2.2.1.1) 256 (statA s.2.2.1):=cpy_code (by rw [l8]; decide)
 rw [cst]
 rw [q8_ (by decide),q8_ (by decide),q8_ (by decide),q8_ (by decide),q8_ (by decide),q8_ (by decide)]
 show qds_ s 0 (statA s.2.2.1) s.2.2.2 _ _=_
 have hinp:((((List.replicate 8 false).set ph true).set 4 y4).set 5 (decide (true ∈ s.2.2.1.2.2.2.2.2.1.2.1)))=inpS s.2.2.1:=by
  unfold inpS
  rw [hph,Int.toNat_natCast,<- hy]
  congr 2
  by_cases e:s.2.2.1.2.1.1=0
  ·rw [decide_eq_true e,decide_eq_false (fun x=>x e)]; rfl
  ·rw [decide_eq_false e,decide_eq_true e]; rfl
 rw [hinp]
 unfold memS holdS
 unfold qds_
 refine loop_dt (N:=8) (mk:=fun i=>(s,(i:Int),statA s.2.2.1,s.2.2.2,inpS s.2.2.1,(List.range i).foldl (fun h b=>cpy h (512 + b * 32) (backS s.2.2.1.2.2.2.2.2.1 s.2.2.1.2.1.1 (b:Int))) (cpy (cpy (List.replicate 756 0) 0 s.2.2.1.1) 256 (statA s.2.2.1)))) ?_ ?_ 8 0 _ (by omega) (by omega)
 ·intro self i hi
  have hlen:=holdP_len ha i (by omega)
  have hsucc:(List.range (i + 1)).foldl (fun h b=>cpy h (512 + b * 32) (backS s.2.2.1.2.2.2.2.2.1 s.2.2.1.2.1.1 (b:Int))) (cpy (cpy (List.replicate 756 0) 0 s.2.2.1.1) 256 (statA s.2.2.1))=cpy ((List.range i).foldl (fun h b=>cpy h (512 + b * 32) (backS s.2.2.1.2.2.2.2.2.1 s.2.2.1.2.1.1 (b:Int))) (cpy (cpy (List.replicate 756 0) 0 s.2.2.1.1) 256 (statA s.2.2.1))) (512 + i * 32) (backS s.2.2.1.2.2.2.2.2.1 s.2.2.1.2.1.1 (i:Int)):=by
   rw [List.range_succ,List.foldl_append]
   rfl
  rw [hsucc]
  generalize (List.range i).foldl (fun h b=>cpy h (512 + b * 32) (backS s.2.2.1.2.2.2.2.2.1 s.2.2.1.2.1.1 (b:Int))) (cpy (cpy (List.replicate 756 0) 0 s.2.2.1.1) 256 (statA s.2.2.1))=hd at hlen
  show qe9_ _ s (i:Int) (statA s.2.2.1) s.2.2.2 (inpS s.2.2.1) hd=_
  unfold qe9_
  have e1:mul .i64 (i:Int) 32=((i * 32:Nat):Int):=by rw [mul64 (by omega) (by omega)]; omega
  have e2:add .i64 512 ((i * 32:Nat):Int)=((512 + i * 32:Nat):Int):=addn64 (n:=512) (by omega)
  have hbk:=back_eq (s:=s.2.2.1.2.2.2.2.2.1) (o:=s.2.2.1.2.1.1) (n:=(i:Int))
  have hstx:0≤s.2.2.1.2.2.2.2.2.1.1∧s.2.2.1.2.2.2.2.2.1.1≤4294967295:=by
   by_cases e:s.2.2.1.2.2.1=0
   ·have:=(ha.p0 e).2.2.1; omega
   ·have:=(ha.pn e).2.2; have:=ha.tr; omega
  have hbk:=hbk hstx.1 hstx.2 ⟨by omega,by omega⟩ ha.hl ha.sl ha.bb
  rw [if_pos (q7_.2 (by omega)),e1,e2,q8_ (q12_.2 (by omega)),q8_ (qs_.2 (by rw [q1_,hlen]; omega)),q8_ (qs_.2 (Int.le_refl _)),show at? (statA s.2.2.1) 0=some s.2.2.1.2.1.1 from rfl,Option.bind_some,hbk,Option.bind_some,q8_ (qs_.2 (by rw [q1_,hlen]; omega)),q15_ (by omega),Int.toNat_natCast]
  dsimp only
  rw [cpy_code (by rw [backS_len,q1_,hlen]; omega)]
 ·intro self
  show qe9_ _ s (8:Int) _ _ _ _=_
  unfold qe9_
  rw [if_neg (by decide)]
end Go.Proofs.Lx
end
section
namespace Go.Proofs.Lx
open Go Ev Sx Pl
set_option maxRecDepth 100000
def rgtT (n:Int) (fixed:Bool):Int->List TArea->Bool
 | _,[]=>true
 | e,x::r=>if x.1 < e∨n < x.1∨x.2.1 < 1∨n - x.1 < x.2.1∨(fixed=true∧x.2.2.2.1=true) then false else rgtT n fixed (x.1 + x.2.1) r
theorem goL_rgt (n:Int) (fixed:Bool):∀ (l:List TArea) (e:Int),goL (R:=Bool×Unit) (fun (e:Int) (x:TArea) k=>if x.1 < e∨n < x.1∨x.2.1 < 1∨n - x.1 < x.2.1∨(fixed=true∧x.2.2.2.1=true) then some (false,()) else k (x.1 + x.2.1)) (fun _=>some (true,())) l e=some (rgtT n fixed e l,())
 | [],_=>rfl
 | x::r,e=>by
  show (if _ then _ else goL _ _ r _)=_
  rw [goL_rgt n fixed r,rgtT]
  split <;> rfl
theorem ur_right {l:List TArea} {h:List Int} {fixed:Bool} (ho:∀ x ∈ l,OkAr x) (hp:∀ x ∈ l,0≤x.1) (hh:h.length≤65536) (hl:l.length≤1000):q4s_ ((l,h),fixed,())=some (rgtT h.length fixed 0 l,()):=by
 show q59_ q2r_ (l,h) fixed=_
 unfold q59_
 rw [if_neg (fun e=>by have:=gt_iff.1 e; rw [q1_] at this; dsimp only at this; omega)]
 show q2r_ fixed 0 l (Int.ofNat l.length) 0 (l,h)=_
 rw [<- goL_rgt]
 unfold q2r_
 refine loop_go (xs:=l) (mk:=fun i e=>(fixed,e,l,Int.ofNat l.length,(i:Int),(l,h))) ?_ ?_ l.length 0 0 _ (by omega) (by omega)
 ·intro self i e x hx
  have hi:=(List.getElem?_eq_some_iff.1 hx).1
  have hm:=List.mem_of_getElem? hx
  have o:=ho x hm
  have p:=hp x hm
  unfold OkAr at o
  show q2p_ _ _ fixed e l (Int.ofNat l.length) (i:Int) (l,h)=_
  unfold q2p_
  rw [if_pos (by rw [q7_,q1_]; omega),qj_ hx,Option.bind_some]
  dsimp only
  have K3:∀ t,q3o_ (fun fixed endV t13 t14 t15 t=>self (fixed,endV,t13,t14,t15,t)) fixed l (Int.ofNat l.length) (i:Int) t (l,h) x=if t=true then some (false,()) else self (fixed,add .i64 x.1 x.2.1,l,Int.ofNat l.length,((i + 1:Nat):Int),(l,h)):=fun t=>by
   unfold q3o_ q8p_
   rw [q15_ (by omega)]
  have K2:∀ t,q3p_ (fun fixed endV t13 t14 t15 t=>self (fixed,endV,t13,t14,t15,t)) fixed l (Int.ofNat l.length) (i:Int) t (l,h) x=if t=true∨(fixed=true∧x.2.2.2.1=true) then some (false,()) else self (fixed,add .i64 x.1 x.2.1,l,Int.ofNat l.length,((i + 1:Nat):Int),(l,h)):=fun t=>by
   unfold q3p_ q8m_
   rw [K3,K3]
   cases t <;> cases fixed <;> simp
  rw [K2,K2]
  simp only [true_or,if_true]
  rw [lt_dec,gt_dec,lt_dec,gt_dec,q1_]
  by_cases q1:x.1 < e
  ·rw [if_pos (decide_eq_true q1),if_pos (Or.inl q1)]
  ·rw [if_neg (by rw [decide_eq_true_eq]; exact q1)]
   by_cases q2:(h.length:Int) < x.1
   ·rw [if_pos (decide_eq_true q2),if_pos (Or.inr (Or.inl q2))]
   ·rw [if_neg (by rw [decide_eq_true_eq]; exact q2)]
    by_cases q3:x.2.1 < 1
    ·rw [if_pos (decide_eq_true q3),if_pos (Or.inr (Or.inr (Or.inl q3)))]
    ·rw [if_neg (by rw [decide_eq_true_eq]; exact q3),sub64 (by omega) (by omega)]
     by_cases q4:(h.length:Int) - x.1 < x.2.1
     ·rw [if_pos (Or.inl (decide_eq_true q4)),if_pos (Or.inr (Or.inr (Or.inr (Or.inl q4))))]
     ·rw [add64 (by omega) (by omega)]
      by_cases q5:fixed=true∧x.2.2.2.1=true
      ·rw [if_pos (Or.inr q5),if_pos (Or.inr (Or.inr (Or.inr (Or.inr q5))))]
      ·rw [if_neg (by rintro (e | e); exact q4 (of_decide_eq_true e); exact q5 e),if_neg (by rintro (e | e | e | e | e); exact q1 e; exact q2 e; exact q3 e; exact q4 e; exact q5 e)]
 ·intro self e
  show q2p_ _ _ fixed e l (Int.ofNat l.length) (l.length:Int) (l,h)=_
  unfold q2p_
  rw [if_neg (by rw [q7_,q1_]; omega)]
theorem br_right {l:List TArea} {h:List Bool} {fixed:Bool} (ho:∀ x ∈ l,OkAr x) (hp:∀ x ∈ l,0≤x.1) (hh:h.length≤65536) (hl:l.length≤1000):q5f_ ((l,h),fixed,())=some (rgtT h.length fixed 0 l,()):=by
 show q6r_ q39_ (l,h) fixed=_
 unfold q6r_
 rw [if_neg (fun e=>by have:=gt_iff.1 e; rw [q1_] at this; dsimp only at this; omega)]
 show q39_ fixed 0 l (Int.ofNat l.length) 0 (l,h)=_
 rw [<- goL_rgt]
 unfold q39_
 refine loop_go (xs:=l) (mk:=fun i e=>(fixed,e,l,Int.ofNat l.length,(i:Int),(l,h))) ?_ ?_ l.length 0 0 _ (by omega) (by omega)
 ·intro self i e x hx
  have hi:=(List.getElem?_eq_some_iff.1 hx).1
  have hm:=List.mem_of_getElem? hx
  have o:=ho x hm
  have p:=hp x hm
  unfold OkAr at o
  show q3b_ _ _ fixed e l (Int.ofNat l.length) (i:Int) (l,h)=_
  unfold q3b_
  rw [if_pos (by rw [q7_,q1_]; omega),qj_ hx,Option.bind_some]
  dsimp only
  have K3:∀ t,q4d_ (fun fixed endV t13 t14 t15 t=>self (fixed,endV,t13,t14,t15,t)) fixed l (Int.ofNat l.length) (i:Int) t (l,h) x=if t=true then some (false,()) else self (fixed,add .i64 x.1 x.2.1,l,Int.ofNat l.length,((i + 1:Nat):Int),(l,h)):=fun t=>by
   unfold q4d_ q9i_
   rw [q15_ (by omega)]
  have K2:∀ t,q4f_ (fun fixed endV t13 t14 t15 t=>self (fixed,endV,t13,t14,t15,t)) fixed l (Int.ofNat l.length) (i:Int) t (l,h) x=if t=true∨(fixed=true∧x.2.2.2.1=true) then some (false,()) else self (fixed,add .i64 x.1 x.2.1,l,Int.ofNat l.length,((i + 1:Nat):Int),(l,h)):=fun t=>by
   unfold q4f_ q9m_
   rw [K3,K3]
   cases t <;> cases fixed <;> simp
  rw [K2,K2]
  simp only [true_or,if_true]
  rw [lt_dec,gt_dec,lt_dec,gt_dec,q1_]
  by_cases q1:x.1 < e
  ·rw [if_pos (decide_eq_true q1),if_pos (Or.inl q1)]
  ·rw [if_neg (by rw [decide_eq_true_eq]; exact q1)]
   by_cases q2:(h.length:Int) < x.1
   ·rw [if_pos (decide_eq_true q2),if_pos (Or.inr (Or.inl q2))]
   ·rw [if_neg (by rw [decide_eq_true_eq]; exact q2)]
    by_cases q3:x.2.1 < 1
    ·rw [if_pos (decide_eq_true q3),if_pos (Or.inr (Or.inr (Or.inl q3)))]
    ·rw [if_neg (by rw [decide_eq_true_eq]; exact q3),sub64 (by omega) (by omega)]
     by_cases q4:(h.length:Int) - x.1 < x.2.1
     ·rw [if_pos (Or.inl (decide_eq_true q4)),if_pos (Or.inr (Or.inr (Or.inr (Or.inl q4))))]
     ·rw [add64 (by omega) (by omega)]
      by_cases q5:fixed=true∧x.2.2.2.1=true
      ·rw [if_pos (Or.inr q5),if_pos (Or.inr (Or.inr (Or.inr (Or.inr q5))))]
      ·rw [if_neg (by rintro (e | e); exact q4 (of_decide_eq_true e); exact q5 e),if_neg (by rintro (e | e | e | e | e); exact q1 e; exact q2 e; exact q3 e; exact q4 e; exact q5 e)]
 ·intro self e
  show q3b_ _ _ fixed e l (Int.ofNat l.length) (l.length:Int) (l,h)=_
  unfold q3b_
  rw [if_neg (by rw [q7_,q1_]; omega)]
structure SzM (m:TMem):Prop where
 c:m.1.length=16
 i:m.2.1.length=8
 h:m.2.2.1.length=756
 w:m.2.2.2.length=8
theorem memS_sz {s:TSl} (h:OkS s):SzM (memS s):=⟨h.c,inpS_len _,holdS_len h.a,rfl⟩
theorem posOne {k:Int} {r w h:Bool}:∀ x ∈ [((0:Int),k,r,w,h)],0≤x.1:=fun x hx=>by
 rw [List.mem_singleton] at hx
 subst hx
 exact Int.le_refl _
theorem posSPH:∀ x ∈ SPH,0≤x.1:=by decide
theorem mright_eq {m:TMem} (h:SzM m):qp5_ (SP,m,())=some (true,()):=by
 obtain ⟨c,i,hd,w⟩:=m
 have hc:c.length=16:=h.c
 have hi:i.length=8:=h.i
 have hh:hd.length=756:=h.h
 have hw:w.length=8:=h.w
 show qox_ SP (c,i,hd,w)=_
 unfold qox_
 have ho:qja_ (SP,(c,i,hd,w),())=some ((([(0,16,true,true,false)],c),([(0,8,true,false,false)],i),(SPH,hd),[(0,8,true,false,false)],w),()):=rfl
 rw [ho,Option.bind_some]
 dsimp only
 rw [br_right (okOne (by decide) (by decide)) posOne (by omega) (by decide),Option.bind_some,hc,if_pos (by decide),br_right (okOne (by decide) (by decide)) posOne (by omega) (by decide),Option.bind_some,hi,if_pos (by decide),ur_right okSPH posSPH (by omega) (by decide),Option.bind_some,hh,if_pos (by decide),ur_right (okOne (by decide) (by decide)) posOne (by omega) (by decide),hw]
 rfl
def rdBits (c:List Bool) (p n:Nat):List Bool:=(c.drop p).take n++List.replicate ((n + 7) / 8 * 8 - n) false
theorem bread_eq {c:List Bool} {p n:Int} (hp:0≤p) (hn:0≤n) (hh:c.length≤100000) (hle:p + n≤c.length) (l:List TArea):q8y_ ((l,c),p,n,8,())=some (rdBits c p.toNat n.toNat,()):=by
 obtain ⟨p,rfl⟩:=Int.eq_ofNat_of_zero_le hp
 obtain ⟨n,rfl⟩:=Int.eq_ofNat_of_zero_le hn
 have e1:mul .i64 (quo .i64 (sub .i64 (add .i64 (n:Int) 8) 1) 8) 8=(((n + 7) / 8 * 8:Nat):Int):=by
  have e0:add .i64 (n:Int) 8=((n + 8:Nat):Int):=addn64 (m:=8) (by omega)
  rw [e0,sub64 (by omega) (by omega),show (((n + 8:Nat):Int) - 1)=((n + 7:Nat):Int) by omega]
  have:=quo_nat (i:=n + 7) (d:=8) (by omega)
  rw [show (8:Int)=((8:Nat):Int) from rfl,this,mul64 (by omega) (by omega)]
  omega
 show qat_ (l,c) (p:Int) (n:Int) 8=_
 unfold qat_
 rw [e1,q8_ (by decide),q8_ (q12_.2 (by omega)),q8_ (capOk_sf _),Int.toNat_natCast,qm_ (by omega),addn64 (by omega)]
 dsimp only
 rw [cut_nat (by omega) (by omega),Option.bind_some,List.length_replicate,q8_ (qs_.2 (by rw [q1_,q1_]; omega))]
 have hlen:((c.take (p + n)).drop p).length=n:=by rw [List.length_drop,List.length_take]; omega
 have ht:((c.take (p + n)).drop p)=(c.drop p).take n:=by rw [List.drop_take]; congr 1; omega
 rw [q1_,Int.toNat_natCast,List.take_of_length_le (show ((c.take (p + n)).drop p).length≤(n + 7) / 8 * 8 by omega),hlen,List.drop_replicate,ht]
 unfold rdBits
 rw [Int.toNat_natCast,Nat.zero_add]
 rfl
def isE (f:Int):Bool:=decide (f=5∨f=6∨f=15∨f=16)
def echoR (a:TA):TR:=if a.1=5 then (5,0,[a.2.2.2.2.2.headD false],[],a.2.1,0) else if a.1=6 then (6,0,[],[a.2.2.2.2.1.headD 0],a.2.1,0) else (a.1,0,[],[],a.2.1,a.2.2.1)
theorem secho_eq {a:TA} (h:OkA a) (hr:q21_ a=true):q9g_ (a,())=some (if isE a.1=true then echoR a else zR,isE a.1,()):=by
 show qkk_ qbv_ qkw_ a=_
 unfold qkk_
 rw [right_eq h,hr,Option.bind_some,if_neg (by decide)]
 cases q5a_ hr with
 | bits f p n hf h1 h2=>rcases hf with rfl | rfl <;> rfl
 | words f p n hf h1 h2=>rcases hf with rfl | rfl <;> rfl
 | coil p b=>rfl
 | word p x=>rfl
 | coils p l h1 h2=>rfl
 | regs p l h1 h2=>rfl
 | swap p n t l h1 h2 h3 h4=>rfl
def ansR (m:TMem) (a:TA):TR :=
 if a.1=1 then (a.1,0,rdBits m.1 a.2.1.toNat a.2.2.1.toNat,[],0,0)
 else if a.1=2 then (a.1,0,rdBits m.2.1 a.2.1.toNat a.2.2.1.toNat,[],0,0)
 else if a.1=4 then (a.1,0,[],(m.2.2.2.drop a.2.1.toNat).take a.2.2.1.toNat,0,0)
 else (a.1,0,[],(m.2.2.1.drop a.2.1.toNat).take a.2.2.1.toNat,0,0)
def wrM (m:TMem) (a:TA):TMem :=
 if a.1=5∨a.1=15 then (cpy m.1 a.2.1.toNat a.2.2.2.2.2,m.2)
 else if a.1=16 then (m.1,m.2.1,cpy m.2.2.1 a.2.1.toNat a.2.2.2.2.1,m.2.2.2)
 else if a.1=23 then (m.1,m.2.1,cpy m.2.2.1 a.2.2.2.1.toNat a.2.2.2.2.1,m.2.2.2)
 else m
def doM (m:TMem) (a:TA):TMem×TR:=if chkS a=true then (wrM m a,if isE a.1=true then echoR a else ansR (wrM m a) a) else (m,(a.1,2,[],[],0,0))
theorem cloneBr_eq {s:List Bool} (h:s.length≤1000000):q3u_ (s,())=some (s,()):=by
 show qbn_ s=_
 unfold qbn_
 by_cases h0:s.length=0
 ·have:s=[]:=List.eq_nil_of_length_eq_zero h0
  subst this
  rfl
 ·rw [if_neg (by rw [q4_,q1_]; omega),qm_ (by omega)]
theorem mdo_K1 (a:TA) (m:TMem) (u:Int×Int):qgu_ a 0 0 0 0 m.1 m.2.1 m.2.2.1 m.2.2.2 SP.1 SP.2.1 SP.2.2.1 SP.2.2.2 u=Option.bind (q9g_ (a,())) fun y=>if y.2.1=true then some (m,y.1,()) else Option.bind (q7x_ (((SP.1,m.1),(SP.2.1,m.2.1),(SP.2.2.1,m.2.2.1),SP.2.2.2,m.2.2.2),u.1,a,())) fun y=>some (m,y.1,()):=rfl
theorem wrM_sz {m:TMem} (h:SzM m) {a:TA} (ha:OkA a) (hr:q21_ a=true) (hc:chkS a=true):SzM (wrM m a):=by
 have p0:=ha.at0
 have t0:=ha.t0
 unfold wrM
 unfold chkS at hc
 split
 ·rename_i q
  rw [if_neg (by omega),if_neg (by omega),if_neg (by omega),if_pos q,decide_eq_true_eq] at hc
  exact ⟨by rw [cpy_len (by have:=h.c; omega)]; exact h.c,h.i,h.h,h.w⟩
 ·rename_i q
  split
  ·rename_i q2
   rw [if_neg (by omega),if_neg (by omega),if_neg (by omega),if_neg q,if_neg (by omega),decide_eq_true_eq] at hc
   exact ⟨h.c,h.i,by show (cpy _ _ _).length=756; rw [cpy_len (by have:=h.h; omega)]; exact h.h,h.w⟩
  ·rename_i q2
   split
   ·rename_i q3
    rw [if_neg (by omega),if_neg (by omega),if_neg (by omega),if_neg q,if_pos q3,Bool.and_eq_true,decide_eq_true_eq] at hc
    exact ⟨h.c,h.i,by show (cpy _ _ _).length=756; rw [cpy_len (by have:=h.h; omega)]; exact h.h,h.w⟩
   ·exact h
theorem answer_eq {m:TMem} (h:SzM m) {a:TA} (ha:OkA a) (hr:q21_ a=true) (hc:chkS a=true) (he:isE a.1=false) (k:Int) (hk:k=(if a.1=1 then 1 else if a.1=2 then 2 else if a.1=4 then 4 else 3)) :
  q7x_ (((SP.1,m.1),(SP.2.1,m.2.1),(SP.2.2.1,m.2.2.1),SP.2.2.2,m.2.2.2),k,a,())=some (ansR m a,()):=by
 have p0:=ha.at0
 have p1:=ha.at1
 have m0:=ha.m0
 have m1:=ha.m1
 have hcp:cvt .i64 a.2.1=a.2.1:=cvt64 (by omega) (by omega)
 have hcn:cvt .i64 a.2.2.1=a.2.2.1:=cvt64 (by omega) (by omega)
 have h1:=h.c
 have h2:=h.i
 have h3:=h.h
 have h4:=h.w
 have hn:1≤a.2.2.1∨isE a.1=true:=by
  cases q5a_ hr with
  | bits f p n hf h1 h2=>exact Or.inl h1
  | words f p n hf h1 h2=>exact Or.inl h1
  | coil p b=>exact Or.inr rfl
  | word p x=>exact Or.inr rfl
  | coils p l h1 h2=>exact Or.inr rfl
  | regs p l h1 h2=>exact Or.inr rfl
  | swap p n t l g1 g2 g3 g4=>exact Or.inl g3
 have hn1:1≤a.2.2.1:=by rcases hn with h | h; exact h; rw [he] at h; cases h
 show qd0_ _ k a=_
 unfold qd0_
 unfold chkS at hc
 unfold ansR
 rw [hcp,hcn]
 by_cases q1:a.1=1
 ·rw [if_pos q1] at hk hc
  rw [decide_eq_true_eq] at hc
  subst hk
  rw [if_pos (by rfl),if_pos q1]
  dsimp only
  rw [bread_eq p0 m0 (by omega) (by omega)]
  rfl
 ·rw [if_neg q1] at hk hc
  by_cases q2:a.1=2
  ·rw [if_pos q2] at hk
   rw [if_pos (Or.inl q2),decide_eq_true_eq] at hc
   subst hk
   rw [if_neg (by decide),if_pos (by rfl),if_neg q1,if_pos q2]
   dsimp only
   rw [bread_eq p0 m0 (by omega) (by omega)]
   rfl
  ·rw [if_neg q2] at hk
   by_cases q4:a.1=4
   ·rw [if_pos q4] at hk
    rw [if_pos (Or.inr q4),decide_eq_true_eq] at hc
    subst hk
    rw [if_neg (by decide),if_neg (by decide),if_neg (by decide),if_pos (by rfl),if_neg q1,if_neg q2,if_pos q4]
    dsimp only
    rw [uread_eq p0 m0 (by omega) (by omega)]
    rfl
   ·rw [if_neg q4] at hk
    rw [if_neg (by omega)] at hc
    subst hk
    rw [if_neg (by decide),if_neg (by decide),if_pos (by rfl),if_neg q1,if_neg q2,if_neg q4]
    have hle:rdH a.2.1 a.2.2.1.toNat=true:=by
     by_cases q3:a.1=3
     ·rw [if_pos q3] at hc; exact hc
     ·rw [if_neg q3] at hc
      by_cases q5:a.1=5∨a.1=15
      ·exact absurd (decide_eq_true (show a.1=5∨a.1=6∨a.1=15∨a.1=16 by omega)) (by unfold isE at he; rw [he]; decide)
      ·rw [if_neg q5] at hc
       by_cases q6:a.1=23
       ·rw [if_pos q6,Bool.and_eq_true] at hc; exact hc.1
       ·exfalso
        have:a.1=6∨a.1=16:=by
         cases q5a_ hr with
         | bits f p n hf=>exact absurd (show f=1∨f=2 from hf) (by dsimp only at q1 q2; omega)
         | words f p n hf=>exact absurd (show f=3∨f=4 from hf) (by dsimp only at q3 q4; omega)
         | coil p b=>exact absurd (Or.inl rfl) q5
         | word p x=>exact Or.inl rfl
         | coils p l=>exact absurd (Or.inr rfl) q5
         | regs p l=>exact Or.inr rfl
         | swap p n t l=>exact absurd rfl q6
        exact absurd (decide_eq_true (show a.1=5∨a.1=6∨a.1=15∨a.1=16 by omega)) (by unfold isE at he; rw [he]; decide)
    have:=rdH_le (by omega) hle
    dsimp only
    rw [uread_eq p0 m0 (by omega) (by omega)]
    rfl
theorem mdo_eq {m:TMem} (h:SzM m) {a:TA} (ha:OkA a) (hr:q21_ a=true):q27_ (SP,m,a,())=some ((doM m a).1,(doM m a).2,()):=by
 have hf:=right_f hr
 have h1:=h.c
 have h2:=h.i
 have h3:=h.h
 have h4:=h.w
 have p0:=ha.at0
 have t0:=ha.t0
 have lw:=ha.lw
 have lb:=ha.lb
 show qpc_ qgu_ SP m a=_
 unfold qpc_
 rw [cloneBr_eq (by omega),Option.bind_some,cloneBr_eq (by omega),Option.bind_some,cloneWr_eq (by omega),Option.bind_some,cloneWr_eq (by omega),Option.bind_some,check_eq ha hr,Option.bind_some]
 dsimp only
 unfold doM
 cases hc:chkS a with
 | false =>
  simp only [Bool.false_eq_true,if_false]
  rw [if_pos (show nei 2 0=true by decide),wrong_eq,Option.bind_some,rem128 (by omega) hf.2]
 | true =>
  rw [if_pos rfl,if_neg (by decide),mright_eq h,Option.bind_some,if_neg (by decide),uses_eq,Option.bind_some,target_eq ha,Option.bind_some,if_pos rfl]
  have hsz:=wrM_sz h ha hr hc
  have fin:∀ k:Int×Int,(isE a.1=false->k.1=(if a.1=1 then 1 else if a.1=2 then 2 else if a.1=4 then 4 else 3))->qgu_ a 0 0 0 0 (wrM m a).1 (wrM m a).2.1 (wrM m a).2.2.1 (wrM m a).2.2.2 SP.1 SP.2.1 SP.2.2.1 SP.2.2.2 k=some (wrM m a,if isE a.1=true then echoR a else ansR (wrM m a) a,()):=fun k hk=>by
   rw [mdo_K1,secho_eq ha hr,Option.bind_some]
   cases he:isE a.1 with
   | true=>rfl
   | false =>
    rw [if_neg (fun e=>Bool.false_ne_true e),if_neg (fun e=>Bool.false_ne_true e),answer_eq hsz ha hr hc he _ (hk he)]
    rfl
  have hcc:=hc
  unfold chkS at hc
  cases hra:q5a_ hr with
  | bits f p n hf' g1 g2 =>
   rcases hf' with rfl | rfl
   ·exact fin (1,0) (fun _=>rfl)
   ·exact fin (2,0) (fun _=>rfl)
  | words f p n hf' g1 g2 =>
   rcases hf' with rfl | rfl
   ·exact fin (3,0) (fun _=>rfl)
   ·exact fin (4,0) (fun _=>rfl)
  | coil p b =>
   have hle:p + ((1:Nat):Int)≤16:=of_decide_eq_true hc
   have p0:0≤p:=p0
   refine Eq.trans ?_ (fin (0,1) (fun e=>by cases e))
   dsimp only
   rw [if_neg (show ¬ (5:Int)=23 by decide)]
   show need (ge p 0) (need (le p (Int.ofNat m.1.length)) (need (le (Int.ofNat m.1.length) (Int.ofNat m.1.length)) (need (le (p + (Int.ofNat m.1.length - p)) (Int.ofNat m.1.length)) _)))=_
   rw [q8_ (q12_.2 p0),q8_ (qs_.2 (by rw [q1_]; omega)),q8_ (qs_.2 (Int.le_refl _)),q8_ (qs_.2 (by rw [q1_]; omega))]
   rw [cpy_code (w:=[b]) (by rw [q1_]; show 1≤_; omega)]
   rfl
  | word p x =>
   have:p=272∧1=8∨p=288∧1=20:=of_decide_eq_true hc
   omega
  | coils p l g1 g2 =>
   have hle:p + (l.length:Int)≤16:=of_decide_eq_true hc
   have p0:0≤p:=p0
   refine Eq.trans ?_ (fin (0,1) (fun e=>by cases e))
   dsimp only
   rw [if_neg (show ¬ (15:Int)=23 by decide)]
   show need (ge p 0) (need (le p (Int.ofNat m.1.length)) (need (le (Int.ofNat m.1.length) (Int.ofNat m.1.length)) (need (le (p + (Int.ofNat m.1.length - p)) (Int.ofNat m.1.length)) _)))=_
   rw [q8_ (q12_.2 p0),q8_ (qs_.2 (by rw [q1_]; omega)),q8_ (qs_.2 (Int.le_refl _)),q8_ (qs_.2 (by rw [q1_]; omega))]
   rw [cpy_code (w:=l) (by rw [q1_]; omega)]
   rfl
  | regs p l g1 g2 =>
   have hle:p=272∧l.length=8∨p=288∧l.length=20:=of_decide_eq_true hc
   have p0:0≤p:=p0
   refine Eq.trans ?_ (fin (0,3) (fun e=>by cases e))
   dsimp only
   rw [if_neg (show ¬ (16:Int)=23 by decide)]
   show need (ge p 0) (need (le p (Int.ofNat m.2.2.1.length)) (need (le (Int.ofNat m.2.2.1.length) (Int.ofNat m.2.2.1.length)) (need (le (p + (Int.ofNat m.2.2.1.length - p)) (Int.ofNat m.2.2.1.length)) _)))=_
   rw [q8_ (q12_.2 p0),q8_ (qs_.2 (by rw [q1_]; omega)),q8_ (qs_.2 (Int.le_refl _)),q8_ (qs_.2 (by rw [q1_]; omega))]
   rw [cpy_code (w:=l) (by rw [q1_]; omega)]
   rfl
  | swap p n t l g1 g2 g3 g4 =>
   have hle:t=272∧l.length=8∨t=288∧l.length=20:=of_decide_eq_true (Bool.and_eq_true _ _ ▸ hc:_∧_).2
   have t0:0≤t:=t0
   refine Eq.trans ?_ (fin (3,3) (fun _=>rfl))
   dsimp only
   rw [if_pos (show (23:Int)=23 by decide)]
   show need (ge t 0) (need (le t (Int.ofNat m.2.2.1.length)) (need (le (Int.ofNat m.2.2.1.length) (Int.ofNat m.2.2.1.length)) (need (le (t + (Int.ofNat m.2.2.1.length - t)) (Int.ofNat m.2.2.1.length)) _)))=_
   rw [q8_ (q12_.2 t0),q8_ (qs_.2 (by rw [q1_]; omega)),q8_ (qs_.2 (Int.le_refl _)),q8_ (qs_.2 (by rw [q1_]; omega))]
   rw [cpy_code (w:=l) (by rw [q1_]; omega)]
   rfl
end Go.Proofs.Lx
end
section
namespace Go.Proofs.Lx
open Go Ev Sx Pl
set_option maxRecDepth 100000
def rdA (a:TA):TA:=(if a.1=23 then 3 else a.1,a.2.1,a.2.2.1,0,[],[])
def answS (s:TSl) (a:TA):TR:=if isE a.1=true then echoR a else (a.1,(ansR (memS s) (rdA a)).2)
theorem rdA_ok {a:TA} (ha:OkA a) (hr:q21_ a=true) (he:isE a.1=false) (hc:chkS a=true):OkA (rdA a)∧q21_ (rdA a)=true∧chkS (rdA a)=true∧isE (rdA a).1=false:=by
 have nil:∀ x ∈ ([]:List Int),0≤x∧x≤65535:=fun x hx=>by cases hx
 cases hra:q5a_ hr with
 | bits f p n hf h1 h2 =>
  rcases hf with rfl | rfl
  ·exact ⟨ha,hr,hc,he⟩
  ·exact ⟨ha,hr,hc,he⟩
 | words f p n hf h1 h2 =>
  rcases hf with rfl | rfl
  ·exact ⟨ha,hr,hc,he⟩
  ·exact ⟨ha,hr,hc,he⟩
 | coil p b=>cases he
 | word p x=>cases he
 | coils p l h1 h2=>cases he
 | regs p l h1 h2=>cases he
 | swap p n t l h1 h2 h3 h4 =>
  have hc1:=(Bool.and_eq_true _ _ ▸ (show (rdH p n.toNat && decide (t=272∧l.length=8∨t=288∧l.length=20))=true from hc):_∧_).1
  refine ⟨⟨(by decide:(0:Int)≤3),(by decide:(3:Int)≤255),ha.at0,ha.at1,ha.m0,ha.m1,(by decide:(0:Int)≤0),(by decide:(0:Int)≤65535),nil,Nat.zero_le _,Nat.zero_le _⟩,?_,hc1,rfl⟩
  show rightS (3,p,n,0,[],[]) (125,0,0,false,false)=true
  unfold rightS
  dsimp only
  have e:withinV n 125=true:=by
   unfold withinV
   rw [if_neg (by decide),if_pos (q12_.2 h3),qs_.2 h4]
  rw [e]
  rfl
theorem sanswer_eq {s:TSl} (h:OkS s) {a:TA} (ha:OkA a) (hr:q21_ a=true) (hc:chkS a=true):qy_ (s,a,())=some (answS s a,()):=by
 show qh4_ qc3_ s a=_
 unfold qh4_ answS
 rw [secho_eq ha hr,Option.bind_some]
 cases he:isE a.1 with
 | true=>rfl
 | false =>
  obtain ⟨h1,h2,h3,h4⟩:=rdA_ok ha hr he hc
  have hd:=mdo_eq (memS_sz h) h1 h2
  have hdo:(doM (memS s) (rdA a)).2=ansR (memS s) (rdA a):=by
   unfold doM
   rw [if_pos h3,h4]
   have:wrM (memS s) (rdA a)=memS s:=by
    unfold isE at h4
    have h5:=of_decide_eq_false h4
    unfold wrM
    have h23:(rdA a).1 ≠ 23:=by
     show (if a.1=23 then (3:Int) else a.1) ≠ 23
     split <;> omega
    rw [if_neg (by omega),if_neg (by omega),if_neg h23]
   rw [this]
   rfl
  have K:qc3_ s a 0 0 0 0 (if a.1=23 then 3 else a.1) a.2.1 a.2.2.1 0=some ((a.1,(ansR (memS s) (rdA a)).2),()):=by
   have hd':q27_ (SP,memS s,((if a.1=23 then (3:Int) else a.1),a.2.1,a.2.2.1,0,[],[]),())=_:=hd
   show qh9_ qhg_ s a 0 0 0 0 _ a.2.1 a.2.2.1 0=_
   unfold qh9_
   simp only [space_eq,mem_eq h,Option.bind_some,hd',amb2 (eqAs_refl qg_.rs),amb3 (eqAs_refl qg_.rs)]
   show some ((a.1,(doM (memS s) (rdA a)).2.2),())=_
   rw [hdo]
  rw [if_neg (fun e=>Bool.false_ne_true e),if_neg (fun e=>Bool.false_ne_true e)]
  by_cases e:a.1=23
  ·rw [if_pos (q4_.2 e)]
   rw [if_pos e] at K
   exact K
  ·rw [if_neg (fun x=>e (q4_.1 x))]
   rw [if_neg e] at K
   exact K
def readC (w:List Int):TCm×Int :=
 if w.length ≠ 8∨w.getD 7 0 ≠ 0∨256≤w.getD 1 0 then ((0,0,0,0,0),2)
 else ((w.getD 0 0,w.getD 1 0,65536 * w.getD 2 0 + w.getD 3 0,w.getD 4 0,65536 * w.getD 5 0 + w.getD 6 0),0)
theorem aread_eq' {w:List Int} (hr:∀ x ∈ w,0≤x∧x≤65535):qf5_ (w,())=some ((readC w).1,(readC w).2,()):=by
 show qlf_ qgp_ w=_
 unfold qlf_
 by_cases hl:w.length=8
 ·rw [if_neg (fun e=>qk_.1 e (by rw [q1_]; omega))]
  have g:∀ k:Nat,k < 8->at? w (k:Int)=some (w.getD k 0):=fun k hk=>by
   obtain ⟨x,hx⟩:=get_of (xs:=w) (i:=k) (by omega)
   rw [qj_ hx,List.getD_eq_getElem?_getD,hx]
   rfl
  have rg:∀ k:Nat,k < 8->0≤w.getD k 0∧w.getD k 0≤65535:=fun k hk=>by
   obtain ⟨x,hx⟩:=get_of (xs:=w) (i:=k) (by omega)
   rw [List.getD_eq_getElem?_getD,hx]
   exact hr x (List.mem_of_getElem? hx)
  have g0:at? w 0=some (w.getD 0 0):=g 0 (by omega)
  have g1:at? w 1=some (w.getD 1 0):=g 1 (by omega)
  have g2:at? w 2=some (w.getD 2 0):=g 2 (by omega)
  have g3:at? w 3=some (w.getD 3 0):=g 3 (by omega)
  have g4:at? w 4=some (w.getD 4 0):=g 4 (by omega)
  have g5:at? w 5=some (w.getD 5 0):=g 5 (by omega)
  have g6:at? w 6=some (w.getD 6 0):=g 6 (by omega)
  have g7:at? w 7=some (w.getD 7 0):=g 7 (by omega)
  have K:∀ b,qgp_ w b (0,0,0,0,0)=some (if b=true then (((0,0,0,0,0):TCm),(2:Int),()) else ((w.getD 0 0,cvt .u8 (w.getD 1 0),65536 * w.getD 2 0 + w.getD 3 0,w.getD 4 0,65536 * w.getD 5 0 + w.getD 6 0),0,())):=fun b=>by
   show ql8_ w b (0,0,0,0,0)=_
   unfold ql8_
   cases b with
   | true=>rfl
   | false =>
    have r2:=rg 2 (by omega)
    have r3:=rg 3 (by omega)
    have r5:=rg 5 (by omega)
    have r6:=rg 6 (by omega)
    rw [if_neg (by decide),if_neg (by decide),g0,Option.bind_some,g1,Option.bind_some,g2,Option.bind_some,g3,Option.bind_some,g4,Option.bind_some,g5,Option.bind_some,g6,Option.bind_some,wide_eq r2.1 r2.2 r3.1 r3.2,Option.bind_some,wide_eq r5.1 r5.2 r6.1 r6.2,Option.bind_some]
  rw [g7,Option.bind_some]
  unfold readC
  by_cases h7:w.getD 7 0=0
  ·rw [if_neg (fun e=>qk_.1 e h7),g1,Option.bind_some,K]
   by_cases h1:256≤w.getD 1 0
   ·rw [if_pos (q12_.2 h1),if_pos (Or.inr (Or.inr h1))]
   ·have r1:=rg 1 (by omega)
    rw [if_neg (fun e=>h1 (q12_.1 e)),if_neg (by omega),show cvt .u8 (w.getD 1 0)=w.getD 1 0 from wu8 r1.1 (by omega)]
  ·rw [if_pos (qk_.2 h7),K,if_pos rfl,if_pos (Or.inr (Or.inl h7))]
 ·rw [if_pos (qk_.2 (by rw [q1_]; omega))]
  unfold readC
  rw [if_pos (Or.inl hl)]
  rfl
def wroteS (a:TAg) (p:Int) (w:List Int):TAg×Int :=
 if p=272 then
  if (readC w).2 ≠ 0 then (a,3) else if (doS (ownA a) (readC w).1).2 ≠ 0 then (a,4) else ((doS (ownA a) (readC w).1).1,0)
 else
  if (rdB w).2.2.2.2 ≠ 0 then (a,3) else if (putA (ownA a) (rdB w).1 (rdB w).2.1 (rdB w).2.2.1 (rdB w).2.2.2.1).2 ≠ 0 then (a,4)
  else ((putA (ownA a) (rdB w).1 (rdB w).2.1 (rdB w).2.2.1 (rdB w).2.2.2.1).1,0)
def atW (a:TA):Int:=if a.1=23 then a.2.2.2.1 else a.2.1
def setA (s:TSl) (a:TAg):TSl:=(s.1,s.2.1,a,s.2.2.2)
def setC (s:TSl) (c:List Bool):TSl:=(s.1,s.2.1,s.2.2.1,c)
def servS (s:TSl) (a:TA):TSl×TR :=
 if chkS a=false then (s,(a.1,2,[],[],0,0))
 else if a.1=5∨a.1=15 then (setC s (cpy s.2.2.2 a.2.1.toNat a.2.2.2.2.2),answS (setC s (cpy s.2.2.2 a.2.1.toNat a.2.2.2.2.2)) a)
 else if a.2.2.2.2.1.length=0 then (s,answS s a)
 else if (wroteS s.2.2.1 (atW a) a.2.2.2.2.1).2 ≠ 0 then (s,(a.1,(wroteS s.2.2.1 (atW a) a.2.2.2.2.1).2,[],[],0,0))
 else (setA s (wroteS s.2.2.1 (atW a) a.2.2.2.2.1).1,answS (setA s (wroteS s.2.2.1 (atW a) a.2.2.2.2.1).1) a)
theorem readC_rng {w:List Int} (hr:∀ x ∈ w,0≤x∧x≤65535):(0≤(readC w).1.1∧(readC w).1.1≤65535)∧(0≤(readC w).1.2.2.1∧(readC w).1.2.2.1≤4294967295)∧(0≤(readC w).1.2.2.2.1∧(readC w).1.2.2.2.1≤65535):=by
 unfold readC
 split
 ·exact ⟨⟨by decide,by decide⟩,⟨by decide,by decide⟩,⟨by decide,by decide⟩⟩
 ·rename_i h
  have rg:∀ k:Nat,0≤w.getD k 0∧w.getD k 0≤65535:=fun k=>by
   rw [List.getD_eq_getElem?_getD]
   cases hx:w[k]? with
   | none=>exact ⟨by decide,by decide⟩
   | some x=>exact hr x (List.mem_of_getElem? hx)
  have r0:=rg 0
  have r2:=rg 2
  have r3:=rg 3
  have r4:=rg 4
  exact ⟨r0,⟨by dsimp only; omega,by dsimp only; omega⟩,r4⟩
theorem rdB_rng {w:List Int} (hr:∀ x ∈ w,0≤x∧x≤65535) (h:(rdB w).2.2.2.2=0):(0≤(rdB w).1∧(rdB w).1≤65535)∧(0≤(rdB w).2.2.1∧(rdB w).2.2.1≤7)∧fitsB (rdB w).2.2.2.1=true∧(∀ x ∈ (rdB w).2.2.2.1.2,0≤x∧x≤65535):=by
 have rg:∀ k:Nat,0≤w.getD k 0∧w.getD k 0≤65535:=fun k=>by
  rw [List.getD_eq_getElem?_getD]
  cases hx:w[k]? with
  | none=>exact ⟨by decide,by decide⟩
  | some x=>exact hr x (List.mem_of_getElem? hx)
 unfold rdB at h ⊢
 split
 ·rename_i q
  rw [if_pos q] at h
  exact absurd h (by decide)
 ·rename_i q
  rw [if_neg q] at h
  split
  ·rename_i q2
   rw [if_pos q2] at h
   exact absurd h (by decide)
  ·rename_i q2
   rw [if_neg q2] at h
   split
   ·rename_i q3
    have r3:=rg 3
    exact ⟨rg 0,⟨r3.1,by dsimp only; omega⟩,q3.1,fun x hx=>hr x (List.mem_of_mem_drop (List.mem_of_mem_take hx))⟩
   ·rename_i q3
    rw [if_neg q3] at h
    exact absurd h (by decide)
theorem wroteS_ok {a:TAg} (h:OkG a) {p:Int} {w:List Int} (hr:∀ x ∈ w,0≤x∧x≤65535):OkG (wroteS a p w).1:=by
 unfold wroteS
 split
 ·split
  ·exact h
  ·split
   ·exact h
   ·obtain ⟨r1,r2,r3⟩:=readC_rng hr
    exact h.own.doS r1 r2 r3
 ·split
  ·exact h
  ·rename_i q
   obtain ⟨r1,r2,r3,r4⟩:=rdB_rng hr (Classical.not_not.1 q)
   split
   ·exact h
   ·exact h.own.putA r1 r3 r4
theorem servS_ok {s:TSl} (h:OkS s) {a:TA} (ha:OkA a) (hr:q21_ a=true):OkS (servS s a).1:=by
 unfold servS
 split
 ·exact h
 ·rename_i hc
  have hc:chkS a=true:=by cases e:chkS a with | true=>rfl | false=>exact absurd e hc
  have hw:=(wrM_sz (memS_sz h) ha hr hc).c
  split
  ·rename_i q
   unfold wrM at hw
   rw [if_pos q] at hw
   exact ⟨h.u,h.l,h.a,hw⟩
  ·split
   ·exact h
   ·split
    ·exact h
    ·exact ⟨h.u,h.l,wroteS_ok h.a ha.w,h.c⟩
end Go.Proofs.Lx
end
section
namespace Go.Proofs.Lx
open Go Ev Sx Pl
set_option maxRecDepth 100000
theorem eight {α:Type} {l:List α} (h:l.length=8):∃ a b c d e f g i,l=[a,b,c,d,e,f,g,i]:=by
 match l,h with
 | [a,b,c,d,e,f,g,i],_=>exact ⟨a,b,c,d,e,f,g,i,rfl⟩
theorem getD8 {α:Type} {l:List α} {z:α} (h:l.length=8):[l.getD 0 z,l.getD 1 z,l.getD 2 z,l.getD 3 z,l.getD 4 z,l.getD 5 z,l.getD 6 z,l.getD 7 z]=l:=by
 obtain ⟨a,b,c,d,e,f,g,i,rfl⟩:=eight h
 rfl
theorem mkAg_eq {a:TAg} (h1:a.2.2.2.2.2.1.2.1.length=8) (h2:a.2.2.2.2.2.1.2.2.length=8):mkAg a=a:=by
 unfold mkAg
 rw [getD8 h1,getD8 h2]
def midS (x:Int) (s:TSl) (a:TA):Option (As q2j_.rs) :=
 qj3_ x s.2.2.2 s.1 s.2.1 s.2.2.1.1 s.2.2.1.2.1.1 s.2.2.1.2.1.2 s.2.2.1.2.2.1 s.2.2.1.2.2.2.1 s.2.2.1.2.2.2.2.1 s.2.2.1.2.2.2.2.2.1.1
  (s.2.2.1.2.2.2.2.2.1.2.1.getD 0 false) (s.2.2.1.2.2.2.2.2.1.2.1.getD 1 false) (s.2.2.1.2.2.2.2.2.1.2.1.getD 2 false) (s.2.2.1.2.2.2.2.2.1.2.1.getD 3 false) (s.2.2.1.2.2.2.2.2.1.2.1.getD 4 false) (s.2.2.1.2.2.2.2.2.1.2.1.getD 5 false) (s.2.2.1.2.2.2.2.2.1.2.1.getD 6 false) (s.2.2.1.2.2.2.2.2.1.2.1.getD 7 false)
  (s.2.2.1.2.2.2.2.2.1.2.2.getD 0 (0,[])).1 (s.2.2.1.2.2.2.2.2.1.2.2.getD 0 (0,[])).2 (s.2.2.1.2.2.2.2.2.1.2.2.getD 1 (0,[])).1 (s.2.2.1.2.2.2.2.2.1.2.2.getD 1 (0,[])).2 (s.2.2.1.2.2.2.2.2.1.2.2.getD 2 (0,[])).1 (s.2.2.1.2.2.2.2.2.1.2.2.getD 2 (0,[])).2 (s.2.2.1.2.2.2.2.2.1.2.2.getD 3 (0,[])).1 (s.2.2.1.2.2.2.2.2.1.2.2.getD 3 (0,[])).2 (s.2.2.1.2.2.2.2.2.1.2.2.getD 4 (0,[])).1 (s.2.2.1.2.2.2.2.2.1.2.2.getD 4 (0,[])).2 (s.2.2.1.2.2.2.2.2.1.2.2.getD 5 (0,[])).1 (s.2.2.1.2.2.2.2.2.1.2.2.getD 5 (0,[])).2 (s.2.2.1.2.2.2.2.2.1.2.2.getD 6 (0,[])).1 (s.2.2.1.2.2.2.2.2.1.2.2.getD 6 (0,[])).2 (s.2.2.1.2.2.2.2.2.1.2.2.getD 7 (0,[])).1 (s.2.2.1.2.2.2.2.2.1.2.2.getD 7 (0,[])).2
  s.2.2.1.2.2.2.2.2.2 0 0 0 0 0 0 0 0 false false false false false false false false 0 0 0 0 0 0 0 0 0 0 0 0 0 a
abbrev RS:=Option (As q2j_.rs)
def cmdM (s:TSl) (a:TA) (p:Int):RS :=
 if eqi 272 p=true then Option.bind (qf5_ (a.2.2.2.2.1,())) fun y=>if nei y.2.1 0=true then Option.bind (ql_ (a.1,3,())) fun y=>some (s,y.1,()) else amb (eqAs q2j_.rs) [Option.bind (qfg_ (s.2.2.1,y.1,())) fun y=>if nei y.2.1 0=true then Option.bind (ql_ (a.1,4,())) fun y=>some (s,y.1,()) else Option.bind (qy_ (setA s (mkAg y.1),a,())) fun y_1=>some (setA s (mkAg y.1),y_1.1,()),Option.bind (qfg_ (s.2.2.1,y.1,())) fun y=>if nei y.2.1 0=true then Option.bind (ql_ (a.1,4,())) fun y=>some (s,y.1,()) else Option.bind (qy_ (setA s (mkAg y.1),a,())) fun y_1=>some (setA s (mkAg y.1),y_1.1,())]
 else if eqi 288 p=true then Option.bind (q89_ (a.2.2.2.2.1,())) fun y=>if nei y.2.2.2.2.1 0=true then Option.bind (ql_ (a.1,3,())) fun y=>some (s,y.1,()) else amb (eqAs q2j_.rs) [Option.bind (q9o_ (s.2.2.1,y.1,y.2.1,y.2.2.1,y.2.2.2.1,())) fun y=>if nei y.2.1 0=true then Option.bind (ql_ (a.1,4,())) fun y=>some (s,y.1,()) else Option.bind (qy_ (setA s (mkAg y.1),a,())) fun y_1=>some (setA s (mkAg y.1),y_1.1,()),Option.bind (q9o_ (s.2.2.1,y.1,y.2.1,y.2.2.1,y.2.2.2.1,())) fun y=>if nei y.2.1 0=true then Option.bind (ql_ (a.1,4,())) fun y=>some (s,y.1,()) else Option.bind (qy_ (setA s (mkAg y.1),a,())) fun y_1=>some (setA s (mkAg y.1),y_1.1,())]
 else Option.bind (ql_ (a.1,2,())) fun y=>some (s,y.1,())
def copM (s:TSl) (a:TA):RS:=if le (add .i64 (cvt .i64 a.2.1) (Int.ofNat a.2.2.2.2.2.length)) (Int.ofNat s.2.2.2.length)=true then need (ge a.2.1 0) (need (le a.2.1 (Int.ofNat s.2.2.2.length)) (need (le (Int.ofNat s.2.2.2.length) (Int.ofNat s.2.2.2.length)) (need (le (a.2.1 + (Int.ofNat s.2.2.2.length - a.2.1)) (Int.ofNat s.2.2.2.length)) (Option.bind (qy_ (setC s (s.2.2.2.take (Int.toNat a.2.1)++a.2.2.2.2.2.take (Int.toNat (Int.ofNat s.2.2.2.length - a.2.1))++s.2.2.2.drop (Int.toNat a.2.1 + (a.2.2.2.2.2.take (Int.toNat (Int.ofNat s.2.2.2.length - a.2.1))).length)),a,())) fun y=>some (setC s (s.2.2.2.take (Int.toNat a.2.1)++a.2.2.2.2.2.take (Int.toNat (Int.ofNat s.2.2.2.length - a.2.1))++s.2.2.2.drop (Int.toNat a.2.1 + (a.2.2.2.2.2.take (Int.toNat (Int.ofNat s.2.2.2.length - a.2.1))).length)),y.1,()))))) else Option.bind (qy_ (s,a,())) fun y=>some (s,y.1,())
theorem mid_eq {x:Int} {s:TSl} {a:TA} (h1:s.2.2.1.2.2.2.2.2.1.2.1.length=8) (h2:s.2.2.1.2.2.2.2.2.1.2.2.length=8):midS x s a =
  if nei x 0=true then Option.bind (ql_ (a.1,x,())) fun y=>some (s,y.1,())
  else if eqi a.1 5=true then copM s a
  else if eqi a.1 15=true then copM s a
  else if eqi (Int.ofNat a.2.2.2.2.1.length) 0=true then Option.bind (qy_ (s,a,())) fun y=>some (s,y.1,())
  else if eqi a.1 23=true then cmdM s a a.2.2.2.1
  else cmdM s a a.2.1:=by
 obtain ⟨u,l,⟨bk,⟨lo,lf⟩,ph,tx,la,⟨st,hv,bs⟩,tk⟩,co⟩:=s
 obtain ⟨b0,b1,b2,b3,b4,b5,b6,b7,e1⟩:=eight h1
 obtain ⟨c0,c1,c2,c3,c4,c5,c6,c7,e2⟩:=eight h2
 dsimp only at e1 e2
 subst e1 e2
 rfl
end Go.Proofs.Lx
end
section
namespace Go.Proofs.Lx
open Go Ev Sx Pl
set_option maxRecDepth 100000
theorem RR_right {r:TR} (h:RR r):rightR r=true:=by
 cases h with
 | ex f e h0 h h1 h2=>exact (rep_wrong h0 h h1 h2).rt
 | bits f l hf h1 h2 h3 =>
  have hb:bitR (f,0,l,[],0,0)=true:=by
   unfold bitR
   dsimp only
   rw [decide_eq_true h1,decide_eq_true h2,decide_eq_true h3,decide_eq_true rfl]
   rfl
  rcases hf with rfl | rfl <;> exact hb
 | words f l hf h1 h2 =>
  have hb:wordR (f,0,[],l,0,0)=true:=by
   unfold wordR
   dsimp only
   rw [decide_eq_true h1,decide_eq_true h2,decide_eq_true rfl]
   rfl
  rcases hf with rfl | rfl | rfl <;> exact hb
 | coil b p =>
  show obR (5,0,[b],[],p,0)=true
  unfold obR
  rw [decide_eq_true rfl]
  rfl
 | word x p =>
  show owR (6,0,[],[x],p,0)=true
  unfold owR
  rw [decide_eq_true rfl]
  rfl
 | coils p n h1 h2 =>
  show ctR 1968 (15,0,[],[],p,n)=true
  unfold ctR
  dsimp only
  rw [decide_eq_true h1,decide_eq_true h2,decide_eq_true rfl]
  rfl
 | regs p n h1 h2 =>
  show ctR 123 (16,0,[],[],p,n)=true
  unfold ctR
  dsimp only
  rw [decide_eq_true h1,decide_eq_true h2,decide_eq_true rfl]
  rfl
theorem rep_of {r:TR} (h:OkR r) (hr:RR r):Rep r:=⟨h,hr,RR_right hr⟩
theorem itB_rng {x:TBlk} (hf:fitsB x=true->∀ w ∈ x.2,0≤w∧w≤65535):∀ w ∈ itB x,0≤w∧w≤65535:=by
 intro w hw
 unfold itB at hw
 split at hw
 ·rename_i h
  have h2:=of_decide_eq_true h
  rcases List.mem_append.1 hw with h3 | h3
  ·rcases List.mem_cons.1 h3 with h4 | h4
   ·omega
   ·rcases List.mem_cons.1 h4 with h5 | h5
    ·omega
    ·exact hf h w h5
  ·have:=List.eq_of_mem_replicate h3
   omega
 ·have:=List.eq_of_mem_replicate hw
  omega
theorem backS_rng {s:TStg} {o n:Int} (ho:0≤o∧o≤65535) (hn:0≤n∧n≤7) (ht:0≤s.1∧s.1≤4294967295) (hw:∀ b ∈ s.2.2,∀ w ∈ b.2,0≤w∧w≤65535):∀ w ∈ backS s o n,0≤w∧w≤65535:=by
 intro w hm
 unfold backS at hm
 split at hm
 ·rename_i x h1 h2
  unfold tagB at hm
  rcases List.mem_cons.1 hm with e | hm
  ·omega
  ·rcases List.mem_cons.1 hm with e | hm
   ·omega
   ·rcases List.mem_cons.1 hm with e | hm
    ·omega
    ·rcases List.mem_cons.1 hm with e | hm
     ·omega
     ·exact itB_rng (fun _=>hw x (List.mem_of_getElem? h2)) w hm
 ·have:=List.eq_of_mem_replicate hm
  omega
theorem statA_rng {a:TAg} (h:OkG a):∀ w ∈ statA a,0≤w∧w≤65535:=by
 intro w hw
 have h1:=h.l1
 have h2:=h.pr
 have h3:=h.tr
 have h4:=h.ar
 have hc:a.2.2.2.2.2.1.2.1.count true≤8:=by
  have:=List.count_le_length (a:=true) (l:=a.2.2.2.2.2.1.2.1)
  have:=h.hl
  omega
 simp only [statA,List.mem_cons,List.not_mem_nil,or_false] at hw
 rcases hw with e | e | e | e | e | e | e | e <;> omega
theorem OkG.st {a:TAg} (h:OkG a):0≤a.2.2.2.2.2.1.1∧a.2.2.2.2.2.1.1≤4294967295:=by
 by_cases e:a.2.2.1=0
 ·have:=(h.p0 e).2.2.1; omega
 ·have:=(h.pn e).2.2; have:=h.tr; omega
theorem holdS_rng {a:TAg} (h:OkG a):∀ w ∈ holdS a,0≤w∧w≤65535:=by
 have hg:∀ k:Nat,k≤8->∀ w ∈ (List.range k).foldl (fun h b=>cpy h (512 + b * 32) (backS a.2.2.2.2.2.1 a.2.1.1 (b:Int))) (cpy (cpy (List.replicate 756 0) 0 a.1) 256 (statA a)),0≤w∧w≤65535:=by
  intro k
  induction k with
  | zero =>
   intro _
   rw [List.range_zero,List.foldl_nil]
   exact cpy_rng (P:=fun y=>0≤y∧y≤65535) (cpy_rng (P:=fun y=>0≤y∧y≤65535) (fun y hy=>by have:=List.eq_of_mem_replicate hy; omega) h.bw) (statA_rng h)
  | succ k ih =>
   intro hk
   rw [List.range_succ,List.foldl_append,List.foldl_cons,List.foldl_nil]
   exact cpy_rng (P:=fun y=>0≤y∧y≤65535) (ih (by omega)) (backS_rng h.l1 ⟨by omega,by omega⟩ h.st h.wb)
 exact hg 8 (by omega)
theorem rdBits_len {c:List Bool} {p n:Nat} (h:p + n≤c.length):(rdBits c p n).length=(n + 7) / 8 * 8:=by
 unfold rdBits
 rw [List.length_append,List.length_take,List.length_drop,List.length_replicate]
 omega
theorem okR_plain {f:Int} (h0:0≤f) (h1:f≤255) {b:List Bool} {w:List Int} (hb:b.length≤100000) (hw:∀ x ∈ w,0≤x∧x≤65535) (hl:w.length≤100000):OkR (f,0,b,w,0,0) :=
 ⟨h0,h1,(by decide:(0:Int)≤0),(by decide:(0:Int)≤255),hw,(by decide:(0:Int)≤0),(by decide:(0:Int)≤65535),(by decide:(0:Int)≤0),(by decide:(0:Int)≤65535),hb,hl⟩
theorem nilW:∀ x ∈ ([]:List Int),0≤x∧x≤65535:=fun x hx=>by cases hx
theorem answS_rep {s:TSl} (h:OkS s) {a:TA} (ha:OkA a) (hr:q21_ a=true) (hc:chkS a=true):Rep (answS s a):=by
 have p0:=ha.at0
 have p1:=ha.at1
 have hcl:=h.c
 have hil:=inpS_len s.2.2.1
 have hhl:=holdS_len h.a
 have hhr:=holdS_rng h.a
 have hsr:=statA_rng h.a
 unfold chkS at hc
 cases q5a_ hr with
 | bits f p n hf g1 g2 =>
  obtain ⟨p,rfl⟩:=Int.eq_ofNat_of_zero_le (show 0≤p from p0)
  obtain ⟨n,rfl⟩:=Int.eq_ofNat_of_zero_le (show 0≤n by omega)
  rcases hf with rfl | rfl
  ·have hc:(p:Int) + (n:Int)≤16:=of_decide_eq_true hc
   have hl:=rdBits_len (c:=s.2.2.2) (p:=p) (n:=n) (by omega)
   exact rep_of (okR_plain (f:=1) (by decide) (by decide) (by show (rdBits s.2.2.2 p n).length≤_; omega) nilW (by decide)) (.bits 1 _ (Or.inl rfl) (by show 8≤(rdBits s.2.2.2 p n).length; omega) (by show (rdBits s.2.2.2 p n).length≤2000; omega) (by show (rdBits s.2.2.2 p n).length % 8=0; omega))
  ·have hc:(p:Int) + (n:Int)≤8:=of_decide_eq_true hc
   have hl:=rdBits_len (c:=inpS s.2.2.1) (p:=p) (n:=n) (by omega)
   exact rep_of (okR_plain (f:=2) (by decide) (by decide) (by show (rdBits (inpS s.2.2.1) p n).length≤_; omega) nilW (by decide)) (.bits 2 _ (Or.inr rfl) (by show 8≤(rdBits (inpS s.2.2.1) p n).length; omega) (by show (rdBits (inpS s.2.2.1) p n).length≤2000; omega) (by show (rdBits (inpS s.2.2.1) p n).length % 8=0; omega))
 | words f p n hf g1 g2 =>
  obtain ⟨p,rfl⟩:=Int.eq_ofNat_of_zero_le (show 0≤p from p0)
  obtain ⟨n,rfl⟩:=Int.eq_ofNat_of_zero_le (show 0≤n by omega)
  rcases hf with rfl | rfl
  ·have hle:=rdH_le (p:=(p:Int)) (m:=n) (by omega) hc
   have hl:((holdS s.2.2.1).drop p |>.take n).length=n:=by rw [List.length_take,List.length_drop]; omega
   exact rep_of (okR_plain (f:=3) (by decide) (by decide) (by decide) (fun x hx=>hhr x (List.mem_of_mem_drop (List.mem_of_mem_take hx))) (by show ((holdS s.2.2.1).drop p |>.take n).length≤_; omega)) (.words 3 _ (Or.inl rfl) (by show 1≤((holdS s.2.2.1).drop p |>.take n).length; omega) (by show ((holdS s.2.2.1).drop p |>.take n).length≤125; omega))
  ·have hc:(p:Int) + (n:Int)≤8:=of_decide_eq_true hc
   have hl:((statA s.2.2.1).drop p |>.take n).length=n:=by rw [List.length_take,List.length_drop]; show min n (8 - p)=n; omega
   exact rep_of (okR_plain (f:=4) (by decide) (by decide) (by decide) (fun x hx=>hsr x (List.mem_of_mem_drop (List.mem_of_mem_take hx))) (by show ((statA s.2.2.1).drop p |>.take n).length≤_; omega)) (.words 4 _ (Or.inr (Or.inl rfl)) (by show 1≤((statA s.2.2.1).drop p |>.take n).length; omega) (by show ((statA s.2.2.1).drop p |>.take n).length≤125; omega))
 | coil p b =>
  exact rep_of ⟨(by decide:(0:Int)≤5),(by decide:(5:Int)≤255),(by decide:(0:Int)≤0),(by decide:(0:Int)≤255),nilW,p0,p1,(by decide:(0:Int)≤0),(by decide:(0:Int)≤65535),(by decide:1≤100000),(by decide:0≤100000)⟩ (.coil b p)
 | word p x =>
  exact rep_of ⟨(by decide:(0:Int)≤6),(by decide:(6:Int)≤255),(by decide:(0:Int)≤0),(by decide:(0:Int)≤255),ha.w,p0,p1,(by decide:(0:Int)≤0),(by decide:(0:Int)≤65535),(by decide:0≤100000),(by decide:1≤100000)⟩ (.word x p)
 | coils p l g1 g2 =>
  exact rep_of ⟨(by decide:(0:Int)≤15),(by decide:(15:Int)≤255),(by decide:(0:Int)≤0),(by decide:(0:Int)≤255),nilW,p0,p1,by show (0:Int)≤(l.length:Int); omega,by show (l.length:Int)≤65535; omega,(by decide:0≤100000),(by decide:0≤100000)⟩ (.coils p (l.length:Int) (by omega) (by omega))
 | regs p l g1 g2 =>
  exact rep_of ⟨(by decide:(0:Int)≤16),(by decide:(16:Int)≤255),(by decide:(0:Int)≤0),(by decide:(0:Int)≤255),nilW,p0,p1,by show (0:Int)≤(l.length:Int); omega,by show (l.length:Int)≤65535; omega,(by decide:0≤100000),(by decide:0≤100000)⟩ (.regs p (l.length:Int) (by omega) (by omega))
 | swap p n t l g1 g2 g3 g4 =>
  obtain ⟨p,rfl⟩:=Int.eq_ofNat_of_zero_le (show 0≤p from p0)
  obtain ⟨n,rfl⟩:=Int.eq_ofNat_of_zero_le (show 0≤n by omega)
  have hc1:=(Bool.and_eq_true _ _ ▸ (show (rdH (p:Int) n && decide (t=272∧l.length=8∨t=288∧l.length=20))=true from hc):_∧_).1
  have hle:=rdH_le (p:=(p:Int)) (m:=n) (by omega) hc1
  have hl:((holdS s.2.2.1).drop p |>.take n).length=n:=by rw [List.length_take,List.length_drop]; omega
  exact rep_of (okR_plain (f:=23) (by decide) (by decide) (by decide) (fun x hx=>hhr x (List.mem_of_mem_drop (List.mem_of_mem_take hx))) (by show ((holdS s.2.2.1).drop p |>.take n).length≤_; omega)) (.words 23 _ (Or.inr (Or.inr rfl)) (by show 1≤((holdS s.2.2.1).drop p |>.take n).length; omega) (by show ((holdS s.2.2.1).drop p |>.take n).length≤125; omega))
theorem wroteS_ex (a:TAg) (p:Int) (w:List Int):(wroteS a p w).2=0∨(wroteS a p w).2=3∨(wroteS a p w).2=4:=by
 unfold wroteS
 split <;> split
 ·exact Or.inr (Or.inl rfl)
 ·split
  ·exact Or.inr (Or.inr rfl)
  ·exact Or.inl rfl
 ·exact Or.inr (Or.inl rfl)
 ·split
  ·exact Or.inr (Or.inr rfl)
  ·exact Or.inl rfl
theorem chk_t {a:TA} (h:¬ chkS a=false):chkS a=true:=by
 cases e:chkS a with
 | true=>rfl
 | false=>exact absurd e h
theorem servS_rep {s:TSl} (h:OkS s) {a:TA} (ha:OkA a) (hr:q21_ a=true):Rep (servS s a).2:=by
 have hf:=right_f hr
 have ok:=servS_ok h ha hr
 unfold servS at ok ⊢
 split
 ·exact rep_wrong (by omega) hf.2 (by decide) (by decide)
 ·rename_i hc
  rw [if_neg hc] at ok
  have hc:=chk_t hc
  split
  ·rename_i q
   rw [if_pos q] at ok
   exact answS_rep ok ha hr hc
  ·rename_i q
   rw [if_neg q] at ok
   split
   ·exact answS_rep h ha hr hc
   ·rename_i q2
    rw [if_neg q2] at ok
    split
    ·rename_i q3
     have:=wroteS_ex s.2.2.1 (atW a) a.2.2.2.2.1
     exact rep_wrong (by omega) hf.2 (by omega) (by omega)
    ·rename_i q3
     rw [if_neg q3] at ok
     exact answS_rep ok ha hr hc
theorem cmd_eq {s:TSl} (h:OkS s) {a:TA} (ha:OkA a) (hr:q21_ a=true) (hc:chkS a=true) {p:Int} (hp:p=272∨p=288) :
  cmdM s a p=some (if (wroteS s.2.2.1 p a.2.2.2.2.1).2 ≠ 0 then (s,(a.1,(wroteS s.2.2.1 p a.2.2.2.2.1).2,[],[],0,0),()) else (setA s (wroteS s.2.2.1 p a.2.2.2.2.1).1,answS (setA s (wroteS s.2.2.1 p a.2.2.2.2.1).1) a,())):=by
 have hf:=right_f hr
 have w4:∀ e,ql_ (a.1,e,())=some ((a.1,e,[],[],0,0),()):=fun e=>by rw [wrong_eq,rem128 (by omega) hf.2]
 have hok:=wroteS_ok h.a (p:=p) ha.w
 have fin:∀ g:TAg,OkG g->Option.bind (qy_ (setA s (mkAg g),a,())) (fun y_1=>some (setA s (mkAg g),y_1.1,()))=(some (setA s g,answS (setA s g) a,()):RS):=fun g hg=>by
  rw [mkAg_eq hg.hl hg.sl,sanswer_eq (s:=setA s g) ⟨h.u,h.l,hg,h.c⟩ ha hr hc]
  rfl
 unfold cmdM wroteS at *
 by_cases e:p=272
 ·rw [if_pos e] at hok
  rw [if_pos (q4_.2 e.symm),if_pos e,aread_eq' ha.w,Option.bind_some,amb2 (eqAs_refl _)]
  obtain ⟨r1,r2,r3⟩:=readC_rng ha.w
  dsimp only
  by_cases q1:(readC a.2.2.2.2.1).2 ≠ 0
  ·rw [if_pos (qk_.2 q1),if_pos q1,w4]
   rfl
  ·rw [if_neg q1] at hok
   rw [if_neg (fun x=>q1 (qk_.1 x)),if_neg q1,ado_eq h.a r3,Option.bind_some]
   dsimp only
   by_cases q2:(doS (ownA s.2.2.1) (readC a.2.2.2.2.1).1).2 ≠ 0
   ·rw [if_pos (qk_.2 q2),if_pos q2,w4]
    rfl
   ·rw [if_neg q2] at hok
    rw [if_neg (fun x=>q2 (qk_.1 x)),if_neg q2,fin _ hok]
    rfl
 ·have e2:p=288:=by omega
  rw [if_neg e] at hok
  rw [if_neg (fun x=>e (q4_.1 x).symm),if_pos (q4_.2 e2.symm),if_neg e,sread_eq ha.w,Option.bind_some,amb2 (eqAs_refl _)]
  dsimp only
  by_cases q1:(rdB a.2.2.2.2.1).2.2.2.2 ≠ 0
  ·rw [if_pos (qk_.2 q1),if_pos q1,w4]
   rfl
  ·rw [if_neg q1] at hok
   obtain ⟨r1,r2,r3,r4⟩:=rdB_rng ha.w (Classical.not_not.1 q1)
   rw [if_neg (fun x=>q1 (qk_.1 x)),if_neg q1,aput_eq h.a r2 r3,Option.bind_some]
   dsimp only
   by_cases q2:(putA (ownA s.2.2.1) (rdB a.2.2.2.2.1).1 (rdB a.2.2.2.2.1).2.1 (rdB a.2.2.2.2.1).2.2.1 (rdB a.2.2.2.2.1).2.2.2.1).2 ≠ 0
   ·rw [if_pos (qk_.2 q2),if_pos q2,w4]
    rfl
   ·rw [if_neg q2] at hok
    rw [if_neg (fun x=>q2 (qk_.1 x)),if_neg q2,fin _ hok]
    rfl
theorem cop_eq {s:TSl} (h:OkS s) {a:TA} (ha:OkA a) (hr:q21_ a=true) (hc:chkS a=true) (hf:a.1=5∨a.1=15):copM s a=some (setC s (cpy s.2.2.2 a.2.1.toNat a.2.2.2.2.2),answS (setC s (cpy s.2.2.2 a.2.1.toNat a.2.2.2.2.2)) a,()):=by
 have ok:=servS_ok h ha hr
 unfold servS at ok
 rw [if_neg (by rw [hc]; decide),if_pos hf] at ok
 have p0:=ha.at0
 have p1:=ha.at1
 have hcl:=h.c
 have lb:=ha.lb
 have hle:=hc
 unfold chkS at hle
 rw [if_neg (by omega),if_neg (by omega),if_neg (by omega),if_pos hf,decide_eq_true_eq] at hle
 unfold copM
 have e1:add .i64 (cvt .i64 a.2.1) (Int.ofNat a.2.2.2.2.2.length)=a.2.1 + (a.2.2.2.2.2.length:Int):=by rw [cvt64 (by omega) (by omega),q1_,add64 (by omega) (by omega)]
 rw [e1,if_pos (qs_.2 (by rw [q1_]; omega)),q8_ (q12_.2 p0),q8_ (qs_.2 (by rw [q1_]; omega)),q8_ (qs_.2 (Int.le_refl _)),q8_ (qs_.2 (by rw [q1_]; omega)),cpy_code (by rw [q1_]; omega),sanswer_eq ok ha hr hc]
 rfl
theorem mid_serv {s:TSl} (h:OkS s) {a:TA} (ha:OkA a) (hr:q21_ a=true):midS (if chkS a=true then 0 else 2) s a=some ((servS s a).1,(servS s a).2,()):=by
 have hf:=right_f hr
 have w4:∀ e,ql_ (a.1,e,())=some ((a.1,e,[],[],0,0),()):=fun e=>by rw [wrong_eq,rem128 (by omega) hf.2]
 rw [mid_eq h.a.hl h.a.sl]
 unfold servS
 cases hc:chkS a with
 | false =>
  simp only [Bool.false_eq_true,if_false,if_true]
  rw [if_pos (show nei 2 0=true by decide),w4]
  rfl
 | true =>
  simp only [if_true,Bool.true_eq_false,if_false]
  rw [if_neg (show ¬ nei 0 0=true by decide)]
  by_cases q5:a.1=5
  ·rw [if_pos (q4_.2 q5),cop_eq h ha hr hc (Or.inl q5),if_pos (Or.inl q5)]
  ·rw [if_neg (fun e=>q5 (q4_.1 e))]
   by_cases q15:a.1=15
   ·rw [if_pos (q4_.2 q15),cop_eq h ha hr hc (Or.inr q15),if_pos (Or.inr q15)]
   ·rw [if_neg (fun e=>q15 (q4_.1 e)),if_neg (show ¬ (a.1=5∨a.1=15) by omega)]
    by_cases q0:a.2.2.2.2.1.length=0
    ·rw [if_pos (q4_.2 (by rw [q1_]; omega)),if_pos q0,sanswer_eq h ha hr hc]
     rfl
    ·rw [if_neg (fun e=>q0 (by have:=q4_.1 e; rw [q1_] at this; omega)),if_neg q0]
     have hp:atW a=272∨atW a=288:=by
      have hc2:=hc
      unfold chkS at hc2
      have hc3:¬ (a.1=1∨a.1=2∨a.1=3∨a.1=4):=by
       intro e
       apply q0
       cases q5a_ hr with
       | bits f p n hf=>rfl
       | words f p n hf=>rfl
       | coil p b=>rfl
       | word p x=>exact absurd (show (6:Int)=1∨(6:Int)=2∨(6:Int)=3∨(6:Int)=4 from e) (by decide)
       | coils p l=>rfl
       | regs p l=>exact absurd (show (16:Int)=1∨(16:Int)=2∨(16:Int)=3∨(16:Int)=4 from e) (by decide)
       | swap p n t l=>exact absurd (show (23:Int)=1∨(23:Int)=2∨(23:Int)=3∨(23:Int)=4 from e) (by decide)
      rw [if_neg (by omega),if_neg (by omega),if_neg (by omega),if_neg (by omega)] at hc2
      unfold atW
      by_cases q23:a.1=23
      ·rw [if_pos q23,Bool.and_eq_true,decide_eq_true_eq] at hc2
       rw [if_pos q23]
       omega
      ·rw [if_neg q23,decide_eq_true_eq] at hc2
       rw [if_neg q23]
       omega
     have hcm:=cmd_eq h ha hr hc hp
     have e2:(if eqi a.1 23=true then cmdM s a a.2.2.2.1 else cmdM s a a.2.1)=cmdM s a (atW a):=by
      unfold atW
      by_cases q23:a.1=23
      ·rw [if_pos (q4_.2 q23),if_pos q23]
      ·rw [if_neg (fun e=>q23 (q4_.1 e)),if_neg q23]
     rw [e2,hcm]
     split <;> rfl
def lookS (b:List Int):TA×Int:=((qfd_ (b,())).map fun y=>(y.1,y.2.1)).getD (zA,1)
theorem look_S {b:List Int} (hb:∀ x ∈ b,0≤x∧x≤255):qfd_ (b,())=some ((lookS b).1,(lookS b).2,()) ∧
  (((lookS b).2=0∧OkA (lookS b).1∧q21_ (lookS b).1=true∧toS (askB (lookS b).1)=toS b)∨(((lookS b).2=1∨(lookS b).2=3)∧(lookS b).1=(b.headD 0,0,0,0,[],[]))):=by
 match b with
 | []=>exact ⟨rfl,Or.inr ⟨Or.inl rfl,rfl⟩⟩
 | f::r =>
  obtain ⟨a,e,h1,h2⟩:=look_any hb
  have:lookS (f::r)=(a,e):=by unfold lookS; rw [h1]; rfl
  rw [this]
  exact ⟨h1,h2⟩
def fullS (s:TSl) (b:List Int):TSl×TR:=if (lookS b).2 ≠ 0 then (s,(rem (b.headD 0) 128,(lookS b).2,[],[],0,0)) else servS s (lookS b).1
theorem head_rng {b:List Int} (hb:∀ x ∈ b,0≤x∧x≤255):0≤b.headD 0∧b.headD 0≤255:=by
 match b with
 | []=>exact ⟨by decide,by decide⟩
 | f::r=>exact hb f (List.mem_cons_self ..)
theorem rem_rng {x:Int} (h0:0≤x):0≤rem x 128∧rem x 128 < 128:=by
 unfold rem
 rw [Int.tmod_eq_emod_of_nonneg h0]
 omega
theorem fullS_ok {s:TSl} (h:OkS s) {b:List Int} (hb:∀ x ∈ b,0≤x∧x≤255):OkS (fullS s b).1∧Rep (fullS s b).2:=by
 unfold fullS
 obtain ⟨_,h2⟩:=look_S hb
 have hh:=rem_rng (head_rng hb).1
 split
 ·refine ⟨h,?_⟩
  exact rep_wrong hh.1 hh.2 (by omega) (by omega)
 ·rename_i q
  rcases h2 with ⟨_,h3,h4,_⟩ | ⟨h3,_⟩
  ·exact ⟨servS_ok h h3 h4,servS_rep h h3 h4⟩
  ·omega
theorem sown_r_eq {s:TSl} (h:OkS s):qt1_ (s,())=some (s.1,s.2.1,s.2.2.1.1,s.2.2.1.2.1.1,s.2.2.1.2.1.2,s.2.2.1.2.2.1,s.2.2.1.2.2.2.1,s.2.2.1.2.2.2.2.1,s.2.2.1.2.2.2.2.2.1.1,
  s.2.2.1.2.2.2.2.2.1.2.1.getD 0 false,s.2.2.1.2.2.2.2.2.1.2.1.getD 1 false,s.2.2.1.2.2.2.2.2.1.2.1.getD 2 false,s.2.2.1.2.2.2.2.2.1.2.1.getD 3 false,s.2.2.1.2.2.2.2.2.1.2.1.getD 4 false,s.2.2.1.2.2.2.2.2.1.2.1.getD 5 false,s.2.2.1.2.2.2.2.2.1.2.1.getD 6 false,s.2.2.1.2.2.2.2.2.1.2.1.getD 7 false,
  (s.2.2.1.2.2.2.2.2.1.2.2.getD 0 (0,[])).1,(s.2.2.1.2.2.2.2.2.1.2.2.getD 0 (0,[])).2,(s.2.2.1.2.2.2.2.2.1.2.2.getD 1 (0,[])).1,(s.2.2.1.2.2.2.2.2.1.2.2.getD 1 (0,[])).2,(s.2.2.1.2.2.2.2.2.1.2.2.getD 2 (0,[])).1,(s.2.2.1.2.2.2.2.2.1.2.2.getD 2 (0,[])).2,(s.2.2.1.2.2.2.2.2.1.2.2.getD 3 (0,[])).1,(s.2.2.1.2.2.2.2.2.1.2.2.getD 3 (0,[])).2,(s.2.2.1.2.2.2.2.2.1.2.2.getD 4 (0,[])).1,(s.2.2.1.2.2.2.2.2.1.2.2.getD 4 (0,[])).2,(s.2.2.1.2.2.2.2.2.1.2.2.getD 5 (0,[])).1,(s.2.2.1.2.2.2.2.2.1.2.2.getD 5 (0,[])).2,(s.2.2.1.2.2.2.2.2.1.2.2.getD 6 (0,[])).1,(s.2.2.1.2.2.2.2.2.1.2.2.getD 6 (0,[])).2,(s.2.2.1.2.2.2.2.2.1.2.2.getD 7 (0,[])).1,(s.2.2.1.2.2.2.2.2.1.2.2.getD 7 (0,[])).2,
  s.2.2.1.2.2.2.2.2.2,s.2.2.2,()):=by
 have hw:∀ i,((s.2.2.1.2.2.2.2.2.1.2.2.getD i (0,[])).2).length≤1000000:=fun i=>by
  rw [List.getD_eq_getElem?_getD]
  cases hx:s.2.2.1.2.2.2.2.2.1.2.2[i]? with
  | none=>exact Nat.zero_le _
  | some x=>have:=h.a.bb x (List.mem_of_getElem? hx); show x.2.length≤_; omega
 have hc:=h.c
 have hbl:=h.a.bl
 show qoi_ s=_
 unfold qoi_
 rw [cloneBr_eq (by omega),Option.bind_some,q4t_ (by omega),Option.bind_some,q4t_ (hw 0),Option.bind_some,q4t_ (hw 1),Option.bind_some,q4t_ (hw 2),Option.bind_some,q4t_ (hw 3),Option.bind_some,q4t_ (hw 4),Option.bind_some,q4t_ (hw 5),Option.bind_some,q4t_ (hw 6),Option.bind_some,q4t_ (hw 7),Option.bind_some]
theorem serve_full {s:TSl} (h:OkS s) {b:List Int} (hb:∀ x ∈ b,0≤x∧x≤255):q25_ (s,b,())=some ((fullS s b).1,repB (fullS s b).2,()):=by
 obtain ⟨ok,rp⟩:=fullS_ok h hb
 obtain ⟨h1,h2⟩:=look_S hb
 show qok_ s b=_
 unfold qok_
 rw [sown_r_eq h,Option.bind_some]
 have key:Option.bind (qfd_ (b,())) (fun y=>if eqi y.2.1 0=true then Option.bind (q4u_ ()) fun y_1=>Option.bind (q9u_ (y_1.1,y.1,())) fun y_2=>midS y_2.1 s y.1 else midS y.2.1 s y.1)=some ((fullS s b).1,(fullS s b).2,()):=by
  rw [h1,Option.bind_some]
  dsimp only
  unfold fullS
  rcases h2 with ⟨e,ha,hr,_⟩ | ⟨e,e2⟩
  ·rw [if_pos (q4_.2 e),space_eq,Option.bind_some,check_eq ha hr,Option.bind_some,if_neg (show ¬ ((lookS b).2 ≠ 0) by omega)]
   exact mid_serv h ha hr
  ·have hne:(lookS b).2 ≠ 0:=by omega
   rw [if_neg (fun x=>hne (q4_.1 x)),if_pos hne,mid_eq h.a.hl h.a.sl,if_pos (qk_.2 hne),e2,wrong_eq]
   rfl
 refine (congrArg (fun z=>Option.bind z fun y=>Option.bind (qd3_ (y.2.1,())) fun y_1=>(some (y.1,y_1.1,()):Option (As qc0_.rs))) key).trans ?_
 rw [Option.bind_some,rep_bytes rp]
 rfl
end Go.Proofs.Lx
end
section
namespace Go.Proofs.Lx
open Go Ev Sx
set_option maxRecDepth 100000
theorem awake21:q88_ ()=some (true,()):=by kernel_rfl
end Go.Proofs.Lx
end
section
namespace Go.Proofs.Lx
open Go Ev Sx Pl
set_option maxRecDepth 100000
def bank64 (b:List Int):List Int:=b.take 64++List.replicate (64 - b.length) 0
theorem bank64_len (b:List Int):(bank64 b).length=64:=by
 unfold bank64
 rw [List.length_append,List.length_take,List.length_replicate]
 omega
theorem bank64_rng {b:List Int} (h:∀ x ∈ b,0≤x∧x≤65535):∀ x ∈ bank64 b,0≤x∧x≤65535:=by
 intro x hx
 rcases List.mem_append.1 hx with e | e
 ·exact h x (List.mem_of_mem_take e)
 ·have:=List.eq_of_mem_replicate e
  omega
theorem lbank_eq (b:List Int):qzj_ (b,())=some (bank64 b,()):=by
 show qt8_ b=_
 unfold qt8_ bank64
 refine congrArg (fun x=>some (b.take 64++x,())) ?_
 rw [List.drop_replicate,List.length_take,Nat.zero_add]
 congr 1
 omega
def begS (link:Int) (b:List Int) (ticks:Int):TSl:=(9,1 + link % 2,zAg (bank64 b) (1 + ticks % 20),List.replicate 16 false)
theorem begS_ok {link ticks:Int} {b:List Int} (hb:∀ x ∈ b,0≤x∧x≤65535):OkS (begS link b ticks):=by
 refine ⟨⟨(by decide:(1:Int)≤9),(by decide:(9:Int)≤247)⟩,?_,ok_free (bank64_len b) (bank64_rng hb) ⟨by decide,by decide⟩ ⟨by omega,by omega⟩,rfl⟩
 show 1 + link % 2=1∨1 + link % 2=2
 omega
theorem begun_eq {link ticks:Int} {b:List Int} (h1:0≤link) (h2:0≤ticks):qk8_ (link,b,ticks,())=some (begS link b ticks,true,()):=by
 obtain ⟨e1,e2,_⟩:=beg_rng (link:=link) (timeout:=ticks) (retries:=0) h1 h2 (by decide)
 show qom_ link b ticks=_
 unfold qom_
 rw [lbank_eq,Option.bind_some,e1,e2]
 dsimp only
 have hl:=bank64_len b
 have hn:qqb_ (9,1 + link % 2,bank64 b,1 + ticks % 20,())=some (begS link b ticks,0,()):=by
  show qru_ 9 (1 + link % 2) (bank64 b) (1 + ticks % 20)=_
  unfold qru_
  have hr:qn5_ (9,1 + link % 2,())=some (true,()):=by
   show qid_ 9 (1 + link % 2)=_
   unfold qid_
   rw [if_pos (by decide),if_pos (by decide)]
   by_cases e:1 + link % 2=1
   ·rw [if_pos (q4_.2 e)]
   ·rw [if_neg (fun x=>e (q4_.1 x)),q4_.2 (by omega)]
  rw [hr,Option.bind_some,if_neg (by decide),anew_eq (by omega),if_pos hl,if_pos (by omega),Option.bind_some]
  rfl
 rw [hn,Option.bind_some,if_pos (by rfl)]
 refine congrArg (fun x=>some (begS link b ticks,x,())) ?_
 show eqi (Int.ofNat (bank64 b).length) 64=true
 rw [hl]
 rfl
theorem look_ask {a:TA} (ha:OkA a) (hr:q21_ a=true):lookS (askB a)=(a,0):=by
 have hl:=(askB_len (q5a_ hr)).1
 unfold lookS
 have:qfd_ (askB a,())=some (a,0,()):=by
  show qk4_ (askB a)=_
  unfold qk4_
  rw [if_neg (by rw [q4_,q1_]; omega),aparse_eq ha hr]
  rfl
 rw [this]
 rfl
theorem full_ask {s:TSl} {a:TA} (ha:OkA a) (hr:q21_ a=true):fullS s (askB a)=servS s a:=by
 unfold fullS
 rw [look_ask ha hr,if_neg (by simp)]
theorem serve_ask {s:TSl} (h:OkS s) {a:TA} (ha:OkA a) (hr:q21_ a=true):q25_ (s,askB a,())=some ((servS s a).1,repB (servS s a).2,()):=by
 rw [serve_full h (askB_bytes (q5a_ hr)),full_ask ha hr]
theorem abytes_eq {a:TA} (ha:OkA a) (hr:q21_ a=true):q3f_ (a,())=some (askB a,0,()):=by
 rw [quj_ ha,if_pos hr]
theorem hold_fold {a:TAg} (h:OkG a) {p n:Nat} (hd:p + n≤512):∀ k:Nat,k≤8->(((List.range k).foldl (fun h b=>cpy h (512 + b * 32) (backS a.2.2.2.2.2.1 a.2.1.1 (b:Int))) (cpy (cpy (List.replicate 756 0) 0 a.1) 256 (statA a))).drop p).take n=((cpy (cpy (List.replicate 756 0) 0 a.1) 256 (statA a)).drop p).take n
 | 0,_=>rfl
 | k + 1,hk=>by
  have hl:=holdP_len h k (by omega)
  rw [List.range_succ,List.foldl_append,List.foldl_cons,List.foldl_nil,cpy_out (by rw [hl,backS_len]; omega) (Or.inr (by omega)),hold_fold h hd k (by omega)]
theorem cpy0_len {a:TAg} (h:OkG a):(cpy (List.replicate 756 (0:Int)) 0 a.1).length=756:=by
 have:=h.bl
 rw [cpy_len (by rw [List.length_replicate]; omega),List.length_replicate]
theorem hold_bank {a:TAg} (h:OkG a):((holdS a).drop 0).take 64=a.1:=by
 have:=h.bl
 unfold holdS
 rw [hold_fold h (by omega) 8 (by omega),cpy_out (by rw [cpy0_len h]; show 256 + 8≤756; omega) (Or.inr (by omega))]
 have:=cpy_in (b:=List.replicate 756 (0:Int)) (w:=a.1) (p:=0) (by rw [List.length_replicate]; omega)
 rw [h.bl] at this
 exact this
theorem hold_back {a:TAg} (h:OkG a) {i:Nat} (hi:i < 8):((holdS a).drop (512 + i * 32)).take 20=backS a.2.2.2.2.2.1 a.2.1.1 (i:Int):=by
 have hg:∀ k:Nat,i < k->k≤8->(((List.range k).foldl (fun h b=>cpy h (512 + b * 32) (backS a.2.2.2.2.2.1 a.2.1.1 (b:Int))) (cpy (cpy (List.replicate 756 0) 0 a.1) 256 (statA a))).drop (512 + i * 32)).take 20=backS a.2.2.2.2.2.1 a.2.1.1 (i:Int):=by
  intro k
  induction k with
  | zero=>intro h1; omega
  | succ k ih =>
   intro h1 h2
   have hl:=holdP_len h k (by omega)
   rw [List.range_succ,List.foldl_append,List.foldl_cons,List.foldl_nil]
   by_cases e:i=k
   ·subst e
    have:=cpy_in (b:=(List.range i).foldl (fun h b=>cpy h (512 + b * 32) (backS a.2.2.2.2.2.1 a.2.1.1 (b:Int))) (cpy (cpy (List.replicate 756 0) 0 a.1) 256 (statA a))) (w:=backS a.2.2.2.2.2.1 a.2.1.1 (i:Int)) (p:=512 + i * 32) (by rw [hl,backS_len]; omega)
    rw [backS_len] at this
    exact this
   ·rw [cpy_out (by rw [hl,backS_len]; omega) (Or.inr (by omega)),ih (by omega) (by omega)]
 exact hg 8 hi (Nat.le_refl _)
theorem lwords_eq {a b:List Int} (h:a.length≤1000000):qa1_ (a,b,())=some (decide (a=b),()):=by
 show qo9_ qhq_ a b=_
 unfold qo9_
 by_cases hl:a.length=b.length
 ·rw [if_neg (by rw [qk_,q1_,q1_]; omega)]
  unfold qhq_
  have hz:(a.zip b).length=a.length:=by rw [List.length_zip]; omega
  rw [<- goL_eq (ne:=nei) (fun a b=>by simp [nei]; rfl) a b hl]
  refine loop_go (xs:=a.zip b) (mk:=fun i _=>(a,b,Int.ofNat a.length,(i:Int))) ?_ ?_ a.length 0 () _ (by rw [hz]; omega) (by omega)
  ·intro self i acc x hx
   have hi:=(List.getElem?_eq_some_iff.1 hx).1
   obtain ⟨h1,h2⟩:=zip_at hl hx
   show qek_ _ a b (Int.ofNat a.length) (i:Int)=_
   unfold qek_
   rw [if_pos (by rw [q7_,q1_]; omega),qj_ h1,Option.bind_some,qj_ h2,Option.bind_some,q15_ (by omega)]
  ·intro self acc
   show qek_ _ a b (Int.ofNat a.length) (((a.zip b).length:Nat):Int)=_
   unfold qek_
   rw [if_neg (by rw [q7_,q1_]; omega)]
 ·rw [if_pos (by rw [qk_,q1_,q1_]; omega),decide_eq_false (fun e=>hl (by rw [e]))]
end Go.Proofs.Lx
end
section
namespace Go.Proofs.Lx
open Go Ev Sx Pl
set_option maxRecDepth 100000
theorem slown_eq {s:TSl} (h:OkS s):qew_ (s,())=some (s,()):=by
 have hc:=h.c
 have hbl:=h.a.bl
 obtain ⟨u,l,⟨bk,ls,ph,tx,la,⟨st,hv,bs⟩,tk⟩,co⟩:=s
 have hsl:bs.length=8:=h.a.sl
 have hbb:∀ b ∈ bs,b.2.length≤1000:=h.a.bb
 show qn8_ qe5_ (u,l,(bk,ls,ph,tx,la,(st,hv,bs),tk),co)=_
 unfold qn8_
 dsimp only at hc hbl ⊢
 rw [cloneB_eq (by omega),Option.bind_some,q4t_ (by omega),Option.bind_some]
 show qe5_ 0 0 0 [(u,l,(bk,ls,ph,tx,la,(st,hv,bs),tk),co)] _=_
 unfold qe5_
 refine loop_dt (N:=8) (mk:=fun i=>(0,0,(i:Int),[(u,l,(bk,ls,ph,tx,la,(st,hv,bs),tk),co)],_)) ?_ ?_ 8 0 _ (by omega) (by omega)
 ·intro self i hi
  show qdk_ _ 0 0 (i:Int) [(u,l,(bk,ls,ph,tx,la,(st,hv,bs),tk),co)] _=_
  obtain ⟨b,hb⟩:=get_of (xs:=bs) (i:=i) (by omega)
  have l8:lt (i:Int) 8=true:=q7_.2 (by omega)
  have g0:ge (i:Int) 0=true:=q12_.2 (by omega)
  have hset:bs.set i (b.1,b.2)=bs:=by
   apply List.ext_getElem?
   intro j
   by_cases e:i=j
   ·subst e
    rw [List.getElem?_set_self (by omega),hb]
   ·rw [List.getElem?_set_ne e]
  unfold qdk_
  rw [if_pos l8,q8_ g0,q8_ l8,q1m_,Option.bind_some]
  dsimp only
  rw [qj_ hb,Option.bind_some,q4t_ (by have:=hbb b (List.mem_of_getElem? hb); omega),Option.bind_some,Option.bind_some]
  dsimp only
  rw [qj_ hb,Option.bind_some,q15_ (by omega),Int.toNat_natCast,hset]
  rfl
 ·intro self
  show qdk_ _ 0 0 (8:Int) [(u,l,(bk,ls,ph,tx,la,(st,hv,bs),tk),co)] _=_
  unfold qdk_
  rw [if_neg (by decide)]
  rfl
def tickS (s:TSl):TSl:=setA s (tickA (ownA s.2.2.1))
def bootS (s:TSl):TSl:=(s.1,s.2.1,bootA (ownA s.2.2.1),List.replicate 16 false)
theorem stick_eq {s:TSl} (h:OkS s):qrg_ (s,())=some (tickS s,()):=by
 show qqh_ s=_
 unfold qqh_
 rw [slown_eq h,Option.bind_some,atick_eq h.a]
 rfl
theorem sboot_eq {s:TSl} (h:OkS s):qrd_ (s,())=some (bootS s,()):=by
 show qr1_ s=_
 unfold qr1_
 rw [slown_eq h,Option.bind_some,aboot_eq h.a]
 rfl
theorem tickS_ok {s:TSl} (h:OkS s):OkS (tickS s):=⟨h.u,h.l,h.a.own.tickA,h.c⟩
theorem bootS_ok {s:TSl} (h:OkS s):OkS (bootS s):=⟨h.u,h.l,h.a.own.bootA,rfl⟩
def takeS (s:TSl) (f:List Int):TSl×List Int :=
 if s.2.1=2 then
  if (mbapP f).2 ≠ 0∨(mbapP f).1.2.1 ≠ s.1 then (s,[]) else ((fullS s (mbapP f).1.2.2).1,mbapV (mbapP f).1.1 (mbapP f).1.2.1 (repB (fullS s (mbapP f).1.2.2).2))
 else
  if (rtuV f).2.2 ≠ 0∨(rtuV f).1 ≠ s.1 then (s,[]) else ((fullS s (rtuV f).2.1).1,putV ((rtuV f).1::repB (fullS s (rtuV f).2.1).2))
theorem rep_len {r:TR} (h:Rep r):2≤(repB r).length∧(repB r).length≤253:=repB_len h.rr
theorem mbapP_bytes {f:List Int} (hf:∀ x ∈ f,0≤x∧x≤255):∀ x ∈ (mbapP f).1.2.2,0≤x∧x≤255:=by
 intro x hx
 unfold mbapP at hx
 split at hx
 ·rename_i b0 b1 b2 b3 b4 b5 b6 pdu
  have hp:∀ y ∈ pdu,0≤y∧y≤255:=fun y hy=>hf y (by simp [hy])
  revert hx
  repeat' split
  all_goals first | exact fun hx=>hp x hx | (intro hx; cases hx)
 ·cases hx
theorem rtuV_bytes {f:List Int} (hf:∀ x ∈ f,0≤x∧x≤255):∀ x ∈ (rtuV f).2.1,0≤x∧x≤255:=by
 intro x hx
 unfold rtuV at hx
 split at hx
 ·cases hx
 ·split at hx
  ·cases hx
  ·rename_i h0
   have hc:∀ y ∈ (cutV f).1,0≤y∧y≤255:=by
    intro y hy
    unfold cutV at hy
    split at hy
    ·cases hy
    ·split at hy
     ·exact hf y (List.mem_of_mem_take hy)
     ·cases hy
   split at hx
   ·cases hx
   ·rename_i a r he
    rw [he] at hc
    split at hx
    ·exact hc x (List.mem_cons_of_mem _ hx)
    ·cases hx
theorem stake_eq {s:TSl} (h:OkS s) {f:List Int} (hf:∀ x ∈ f,0≤x∧x≤255) (hl:f.length≤100000):qod_ (s,f,())=some ((takeS s f).1,(takeS s f).2,()):=by
 have hu:=h.u
 show ql7_ q99_ qbs_ s f=_
 unfold ql7_ takeS
 by_cases hk:s.2.1=2
 ·rw [if_pos (q4_.2 hk),if_pos hk,mparse_eq hl hf,Option.bind_some]
  have hb:=mbapP_bytes hf
  have K:∀ t z,q99_ 0 0 t [s] [z] (mbapP f).1=some (if t=true then (s,[],()) else ((fullS s (mbapP f).1.2.2).1,if (mbapP f).1.2.1=s.1 then mbapV (mbapP f).1.1 (mbapP f).1.2.1 (repB (fullS s (mbapP f).1.2.2).2) else ((q99_ 0 0 t [s] [z] (mbapP f).1).getD (s,[],())).2.1,())):=fun t z=>by
   cases t with
   | true =>
    show qbq_ 0 0 true [s] [z] (mbapP f).1=_
    unfold qbq_
    rw [if_pos rfl,q1m_,Option.bind_some,slown_eq h]
    rfl
   | false =>
    obtain ⟨ok,rp⟩:=fullS_ok h hb
    have hlen:=rep_len rp
    have e:q99_ 0 0 false [s] [z] (mbapP f).1=some ((fullS s (mbapP f).1.2.2).1,mbapV (mbapP f).1.1 (mbapP f).1.2.1 (repB (fullS s (mbapP f).1.2.2).2),()):=by
     show qbq_ 0 0 false [s] [z] (mbapP f).1=_
     unfold qbq_
     rw [if_neg (by decide),q1m_,Option.bind_some,serve_full h hb,Option.bind_some,Option.bind_some]
     dsimp only
     rw [q1az_ (by omega) hlen.2]
     rfl
    rw [e]
    simp
  by_cases h0:(mbapP f).2=0
  ·rw [if_neg (fun e=>qk_.1 e h0)]
   by_cases h1:(mbapP f).1.2.1=s.1
   ·have hn:nei (mbapP f).1.2.1 s.1=false:=by
     rw [Bool.eq_false_iff]
     exact fun e=>qk_.1 e h1
    dsimp only
    rw [hn,K,if_neg (by decide),if_pos h1,if_neg (by rintro (e | e); exact e h0; exact e h1)]
   ·dsimp only
    rw [qk_.2 h1,K,if_pos rfl,if_pos (Or.inr h1)]
  ·rw [if_pos (qk_.2 h0)]
   dsimp only
   rw [K,if_pos rfl,if_pos (Or.inl h0)]
 ·rw [if_neg (fun e=>hk (q4_.1 e)),if_neg hk,rtup_eq,Option.bind_some]
  have hb:=rtuV_bytes hf
  have Kt:∀ z,qbs_ 0 0 (rtuV f).1 (rtuV f).2.1 true [s] [z]=some (s,[],()):=fun z=>by
   show qbz_ 0 0 (rtuV f).1 (rtuV f).2.1 true [s] [z]=_
   unfold qbz_
   rw [if_pos rfl,q1m_,Option.bind_some,slown_eq h]
   rfl
  have Kf:∀ z,(rtuV f).1=s.1->qbs_ 0 0 (rtuV f).1 (rtuV f).2.1 false [s] [z]=some ((fullS s (rtuV f).2.1).1,putV ((rtuV f).1::repB (fullS s (rtuV f).2.1).2),()):=fun z hz=>by
   obtain ⟨ok,rp⟩:=fullS_ok h hb
   have hlen:=rep_len rp
   show qbz_ 0 0 (rtuV f).1 (rtuV f).2.1 false [s] [z]=_
   unfold qbz_
   rw [if_neg (by decide),q1m_,Option.bind_some,serve_full h hb,Option.bind_some,Option.bind_some]
   dsimp only
   rw [rtub_eq (by omega) (by omega) (by omega) hlen.2]
   rfl
  by_cases h0:(rtuV f).2.2=0
  ·rw [if_neg (fun e=>qk_.1 e h0)]
   by_cases h1:(rtuV f).1=s.1
   ·have hn:nei (rtuV f).1 s.1=false:=by
     rw [Bool.eq_false_iff]
     exact fun e=>qk_.1 e h1
    dsimp only
    rw [hn,Kf _ h1,if_neg (by rintro (e | e); exact e h0; exact e h1)]
   ·dsimp only
    rw [qk_.2 h1,Kt,if_pos (Or.inr h1)]
  ·rw [if_pos (qk_.2 h0)]
   dsimp only
   rw [Kt,if_pos (Or.inl h0)]
theorem takeS_ok {s:TSl} (h:OkS s) {f:List Int} (hf:∀ x ∈ f,0≤x∧x≤255):OkS (takeS s f).1:=by
 unfold takeS
 split
 ·split
  ·exact h
  ·exact (fullS_ok h (mbapP_bytes hf)).1
 ·split
  ·exact h
  ·exact (fullS_ok h (rtuV_bytes hf)).1
end Go.Proofs.Lx
end
