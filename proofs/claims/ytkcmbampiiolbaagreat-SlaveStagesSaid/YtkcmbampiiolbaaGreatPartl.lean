/- Proved in the last of these 13 parts (this is part 12): SlaveStages returns true, whatever the link, the bank, the owner, the transaction and the blocks. Conditions: those of the given statement, and no others. -/
import Derived.Test.YtkcmbampiiolbaaGreatPartk
import Derived.Test.YtkcmbampiiolbaaGreatParte
import Derived.Test.YtkcmbampiiolbaaGreatProg
import Derived.Test.YtkcmbampiiolbaaGreatParti
set_option linter.unusedVariables false
set_option linter.unusedSimpArgs false
set_option linter.unusedSectionVars false
section
namespace Go.Proofs.Lx
open Go Ev Sx Pl
set_option maxRecDepth 100000
def bank64 (b:List Int):List Int:=b.take 64++List.replicate (64 - b.length) 0
theorem bank64_len (b:List Int):(bank64 b).length=64:=by
 unfold bank64
 rw [List.length_append,List.length_take,List.length_replicate]
 omega
theorem bank64_rng {b:List Int} (h:∀ x ∈ b,0≤x∧x≤65535):∀ x ∈ bank64 b,0≤x∧x≤65535:=by
 intro x hx
 rcases List.mem_append.1 hx with e | e
 ·exact h x (List.mem_of_mem_take e)
 ·have:=List.eq_of_mem_replicate e
  omega
theorem lbank_eq (b:List Int):low_Bank (b,())=some (bank64 b,()):=by
 show low_Bank_m0 b=_
 unfold low_Bank_m0 bank64
 refine congrArg (fun x=>some (b.take 64++x,())) ?_
 rw [List.drop_replicate,List.length_take,Nat.zero_add]
 congr 1
 omega
def begS (link:Int) (b:List Int) (ticks:Int):TSl:=(9,1 + link % 2,zAg (bank64 b) (1 + ticks % 20),List.replicate 16 false)
theorem begS_ok {link ticks:Int} {b:List Int} (hb:∀ x ∈ b,0≤x∧x≤65535):OkS (begS link b ticks):=by
 refine ⟨⟨(by decide:(1:Int)≤9),(by decide:(9:Int)≤247)⟩,?_,ok_free (bank64_len b) (bank64_rng hb) ⟨by decide,by decide⟩ ⟨by omega,by omega⟩,rfl⟩
 show 1 + link % 2=1∨1 + link % 2=2
 omega
theorem begun_eq {link ticks:Int} {b:List Int} (h1:0≤link) (h2:0≤ticks):law21_begun (link,b,ticks,())=some (begS link b ticks,true,()):=by
 obtain ⟨e1,e2,_⟩:=beg_rng (link:=link) (timeout:=ticks) (retries:=0) h1 h2 (by decide)
 show q9s_ link b ticks=_
 unfold q9s_
 rw [lbank_eq,Option.bind_some,e1,e2]
 dsimp only
 have hl:=bank64_len b
 have hn:slave_New (9,1 + link % 2,bank64 b,1 + ticks % 20,())=some (begS link b ticks,0,()):=by
  show slave_New_m0 9 (1 + link % 2) (bank64 b) (1 + ticks % 20)=_
  unfold slave_New_m0
  have hr:slave_rightEnds (9,1 + link % 2,())=some (true,()):=by
   show slave_rightEnds_m0 9 (1 + link % 2)=_
   unfold slave_rightEnds_m0
   rw [if_pos (by decide),if_pos (by decide)]
   by_cases e:1 + link % 2=1
   ·rw [if_pos (eqi_iff.2 e)]
   ·rw [if_neg (fun x=>e (eqi_iff.1 x)),eqi_iff.2 (by omega)]
  rw [hr,Option.bind_some,if_neg (by decide),anew_eq (by omega),if_pos hl,if_pos (by omega),Option.bind_some]
  rfl
 rw [hn,Option.bind_some,if_pos (by rfl)]
 refine congrArg (fun x=>some (begS link b ticks,x,())) ?_
 show eqi (Int.ofNat (bank64 b).length) 64=true
 rw [hl]
 rfl
theorem look_ask {a:TA} (ha:OkA a) (hr:rightA a=true):lookS (askB a)=(a,0):=by
 have hl:=(askB_len (rightA_RA hr)).1
 unfold lookS
 have:ask_Look (askB a,())=some (a,0,()):=by
  show q8v_ (askB a)=_
  unfold q8v_
  rw [if_neg (by rw [eqi_iff,ofNat_eq]; omega),aparse_eq ha hr]
  rfl
 rw [this]
 rfl
theorem full_ask {s:TSl} {a:TA} (ha:OkA a) (hr:rightA a=true):fullS s (askB a)=servS s a:=by
 unfold fullS
 rw [look_ask ha hr,if_neg (by simp)]
theorem serve_ask {s:TSl} (h:OkS s) {a:TA} (ha:OkA a) (hr:rightA a=true):slave_Serve (s,askB a,())=some ((servS s a).1,repB (servS s a).2,()):=by
 rw [serve_full h (askB_bytes (rightA_RA hr)),full_ask ha hr]
theorem abytes_eq {a:TA} (ha:OkA a) (hr:rightA a=true):ask_Bytes (a,())=some (askB a,0,()):=by
 rw [bytes_eq ha,if_pos hr]
theorem fits_ex {a:TA} (hr:rightA a=true) {e:Int} (he:e ≠ 0) (h:RR (a.1,e,[],[],0,0)):fitsV a (a.1,e,[],[],0,0)=true:=by
 unfold fitsV
 rw [hr,RR_right h]
 dsimp only
 rw [if_pos he,decide_eq_true rfl]
 rfl
theorem rdBits_drop {c:List Bool} {p n:Nat} (h:p + n≤c.length):(rdBits c p n).drop n=List.replicate ((n + 7) / 8 * 8 - n) false:=by
 unfold rdBits
 rw [List.drop_left' (by rw [List.length_take,List.length_drop]; omega)]
theorem fits_ans {s:TSl} (h:OkS s) {a:TA} (ha:OkA a) (hr:rightA a=true) (hc:chkS a=true):fitsV a (answS s a)=true:=by
 have rp:=answS_rep h ha hr hc
 have p0:=ha.at0
 have hcl:=h.c
 have hil:=inpS_len s.2.2.1
 have hhl:=holdS_len h.a
 unfold fitsV
 rw [hr,rp.rt,Bool.true_and,Bool.true_and]
 unfold chkS at hc
 have bits:∀ (c:List Bool) (p n:Nat),p + n≤c.length->1≤n->(if 0 < (rdBits c p n).length then decide (((rdBits c p n).length:Int)=((n:Int) + 7) / 8 * 8) && !decide (true ∈ (rdBits c p n).drop (Int.toNat (n:Int))) else decide ((([]:List Int).length:Int)=(n:Int)))=true:=fun c p n hle h1=>by
  have hl:=rdBits_len hle
  rw [if_pos (by omega),Int.toNat_natCast,rdBits_drop hle,decide_eq_true (by rw [hl]; omega),decide_eq_false (by rw [List.mem_replicate]; simp)]
  rfl
 have words:∀ (c:List Int) (p n:Nat),p + n≤c.length->(if 0 < ([]:List Bool).length then decide ((([]:List Bool).length:Int)=((n:Int) + 7) / 8 * 8) && !decide (true ∈ ([]:List Bool).drop (Int.toNat (n:Int))) else decide ((((c.drop p).take n).length:Int)=(n:Int)))=true:=fun c p n hle=>by
  rw [if_neg (by simp),decide_eq_true_eq,List.length_take,List.length_drop]
  omega
 cases rightA_RA hr with
 | bits f p n hf g1 g2 =>
  obtain ⟨p,rfl⟩:=Int.eq_ofNat_of_zero_le (show 0≤p from p0)
  obtain ⟨n,rfl⟩:=Int.eq_ofNat_of_zero_le (show 0≤n by omega)
  rcases hf with rfl | rfl
  ·have hc:(p:Int) + (n:Int)≤16:=of_decide_eq_true hc
   exact bits s.2.2.2 p n (by omega) (by omega)
  ·have hc:(p:Int) + (n:Int)≤8:=of_decide_eq_true hc
   exact bits (inpS s.2.2.1) p n (by omega) (by omega)
 | words f p n hf g1 g2 =>
  obtain ⟨p,rfl⟩:=Int.eq_ofNat_of_zero_le (show 0≤p from p0)
  obtain ⟨n,rfl⟩:=Int.eq_ofNat_of_zero_le (show 0≤n by omega)
  rcases hf with rfl | rfl
  ·have hle:=rdH_le (p:=(p:Int)) (m:=n) (by omega) hc
   exact words (holdS s.2.2.1) p n (by omega)
  ·have hc:(p:Int) + (n:Int)≤8:=of_decide_eq_true hc
   exact words (statA s.2.2.1) p n (by show p + n≤8; omega)
 | coil p b=>show (decide ((5:Int)=5) && decide (((5,0,[b],[],p,0):TR)=(5,0,[b],[],p,0)))=true; rw [decide_eq_true rfl,decide_eq_true rfl]; rfl
 | word p x=>show (decide ((6:Int)=6) && decide (((6,0,[],[x],p,0):TR)=(6,0,[],[x],p,0)))=true; rw [decide_eq_true rfl,decide_eq_true rfl]; rfl
 | coils p l g1 g2=>show (decide ((15:Int)=15) && decide (((15,0,[],[],p,(l.length:Int)):TR)=(15,0,[],[],p,(l.length:Int))))=true; rw [decide_eq_true rfl,decide_eq_true rfl]; rfl
 | regs p l g1 g2=>show (decide ((16:Int)=16) && decide (((16,0,[],[],p,(l.length:Int)):TR)=(16,0,[],[],p,(l.length:Int))))=true; rw [decide_eq_true rfl,decide_eq_true rfl]; rfl
 | swap p n t l g1 g2 g3 g4 =>
  obtain ⟨p,rfl⟩:=Int.eq_ofNat_of_zero_le (show 0≤p from p0)
  obtain ⟨n,rfl⟩:=Int.eq_ofNat_of_zero_le (show 0≤n by omega)
  have hc1:=(Bool.and_eq_true _ _ ▸ (show (rdH (p:Int) n && decide (t=272∧l.length=8∨t=288∧l.length=20))=true from hc):_∧_).1
  have hle:=rdH_le (p:=(p:Int)) (m:=n) (by omega) hc1
  exact words (holdS s.2.2.1) p n (by omega)
theorem fits_serv {s:TSl} (h:OkS s) {a:TA} (ha:OkA a) (hr:rightA a=true):fitsV a (servS s a).2=true:=by
 have rp:=servS_rep h ha hr
 have ok:=servS_ok h ha hr
 unfold servS at rp ok ⊢
 split
 ·rename_i q
  rw [if_pos q] at rp
  exact fits_ex hr (by decide) rp.rr
 ·rename_i hc
  rw [if_neg hc] at ok rp
  have hc:=chk_t hc
  split
  ·rename_i q
   rw [if_pos q] at ok
   exact fits_ans ok ha hr hc
  ·rename_i q
   rw [if_neg q] at ok rp
   split
   ·exact fits_ans h ha hr hc
   ·rename_i q2
    rw [if_neg q2] at ok rp
    split
    ·rename_i q3
     rw [if_pos q3] at rp
     exact fits_ex hr q3 rp.rr
    ·rename_i q3
     rw [if_neg q3] at ok
     exact fits_ans ok ha hr hc
theorem hold_fold {a:TAg} (h:OkG a) {p n:Nat} (hd:p + n≤512):∀ k:Nat,k≤8->(((List.range k).foldl (fun h b=>cpy h (512 + b * 32) (backS a.2.2.2.2.2.1 a.2.1.1 (b:Int))) (cpy (cpy (List.replicate 756 0) 0 a.1) 256 (statA a))).drop p).take n=((cpy (cpy (List.replicate 756 0) 0 a.1) 256 (statA a)).drop p).take n
 | 0,_=>rfl
 | k + 1,hk=>by
  have hl:=holdP_len h k (by omega)
  rw [List.range_succ,List.foldl_append,List.foldl_cons,List.foldl_nil,cpy_out (by rw [hl,backS_len]; omega) (Or.inr (by omega)),hold_fold h hd k (by omega)]
theorem cpy0_len {a:TAg} (h:OkG a):(cpy (List.replicate 756 (0:Int)) 0 a.1).length=756:=by
 have:=h.bl
 rw [cpy_len (by rw [List.length_replicate]; omega),List.length_replicate]
theorem hold_stat {a:TAg} (h:OkG a):((holdS a).drop 256).take 8=statA a:=by
 unfold holdS
 rw [hold_fold h (by omega) 8 (by omega)]
 exact cpy_in (w:=statA a) (by rw [cpy0_len h]; show 256 + 8≤756; omega)
theorem hold_back {a:TAg} (h:OkG a) {i:Nat} (hi:i < 8):((holdS a).drop (512 + i * 32)).take 20=backS a.2.2.2.2.2.1 a.2.1.1 (i:Int):=by
 have hg:∀ k:Nat,i < k->k≤8->(((List.range k).foldl (fun h b=>cpy h (512 + b * 32) (backS a.2.2.2.2.2.1 a.2.1.1 (b:Int))) (cpy (cpy (List.replicate 756 0) 0 a.1) 256 (statA a))).drop (512 + i * 32)).take 20=backS a.2.2.2.2.2.1 a.2.1.1 (i:Int):=by
  intro k
  induction k with
  | zero=>intro h1; omega
  | succ k ih =>
   intro h1 h2
   have hl:=holdP_len h k (by omega)
   rw [List.range_succ,List.foldl_append,List.foldl_cons,List.foldl_nil]
   by_cases e:i=k
   ·subst e
    have:=cpy_in (b:=(List.range i).foldl (fun h b=>cpy h (512 + b * 32) (backS a.2.2.2.2.2.1 a.2.1.1 (b:Int))) (cpy (cpy (List.replicate 756 0) 0 a.1) 256 (statA a))) (w:=backS a.2.2.2.2.2.1 a.2.1.1 (i:Int)) (p:=512 + i * 32) (by rw [hl,backS_len]; omega)
    rw [backS_len] at this
    exact this
   ·rw [cpy_out (by rw [hl,backS_len]; omega) (Or.inr (by omega)),ih (by omega) (by omega)]
 exact hg 8 hi (Nat.le_refl _)
theorem lwords_eq {a b:List Int} (h:a.length≤1000000):low_Words (a,b,())=some (decide (a=b),()):=by
 show low_Words_m0 low_Words_K1 a b=_
 unfold low_Words_m0
 by_cases hl:a.length=b.length
 ·rw [if_neg (by rw [nei_iff,ofNat_eq,ofNat_eq]; omega)]
  unfold low_Words_K1
  have hz:(a.zip b).length=a.length:=by rw [List.length_zip]; omega
  rw [<- goL_eq (ne:=nei) (fun a b=>by simp [nei]; rfl) a b hl]
  refine loop_go (xs:=a.zip b) (mk:=fun i _=>(a,b,Int.ofNat a.length,(i:Int))) ?_ ?_ a.length 0 () _ (by rw [hz]; omega) (by omega)
  ·intro self i acc x hx
   have hi:=(List.getElem?_eq_some_iff.1 hx).1
   obtain ⟨h1,h2⟩:=zip_at hl hx
   show low_Words_m1 _ a b (Int.ofNat a.length) (i:Int)=_
   unfold low_Words_m1
   rw [if_pos (by rw [lt_iff,ofNat_eq]; omega),at_get h1,Option.bind_some,at_get h2,Option.bind_some,succ64 (by omega)]
  ·intro self acc
   show low_Words_m1 _ a b (Int.ofNat a.length) (((a.zip b).length:Nat):Int)=_
   unfold low_Words_m1
   rw [if_neg (by rw [lt_iff,ofNat_eq]; omega)]
 ·rw [if_pos (by rw [nei_iff,ofNat_eq,ofNat_eq]; omega),decide_eq_false (fun e=>hl (by rw [e]))]
theorem awords_eq {c:TCm} (h1:0≤c.2.1∧c.2.1≤255) (h2:0≤c.2.2.1∧c.2.2.1≤4294967295) (h3:0≤c.2.2.2.2∧c.2.2.2.2≤4294967295):agent_Words (c,())=some ([c.1,c.2.1,c.2.2.1 / 65536,c.2.2.1 % 65536,c.2.2.2.1,c.2.2.2.2 / 65536,c.2.2.2.2 % 65536,0],()):=by
 show agent_Words_m0 c=_
 unfold agent_Words_m0
 rw [parts_eq h2.1 h2.2,Option.bind_some,parts_eq h3.1 h3.2,Option.bind_some,show cvt .u16 c.2.1=c.2.1 from wu16 h1.1 (by omega)]
end Go.Proofs.Lx
end
section
open Go Go.Proofs Ev Sx
set_option maxRecDepth 100000
namespace Go.Proofs.Lx
abbrev YST0:Type:=(List Int×(Int×Int)×Int×Int×Int×(Int×List Bool×List (Int×List Int))×Int)
abbrev YST1:Ty:=(.pr (.int .i64) (.sl (.int .u16)))
abbrev YST2:Type:=(Int×Int×List Bool×List Int×Int×Int)
abbrev YST3:Ty:=(.pr (.int .u16) (.pr (.int .u16) (.pr (.int .u16) (.pr (.sl (.int .u16)) (.sl .bool)))))
abbrev YST4:Ty:=(.pr (.int .u8) (.pr (.sl .bool) (.pr (.sl (.int .u16)) (.pr (.int .u16) (.int .u16)))))
abbrev YsAq0:Type:=Int×Int×YST0×List Bool
@[reducible] def low_Fit_s:Sh:=⟨[.d (.sl YST1),.d (.int .i64)],[],[.sl YST1,.int .i64],[.d (.sl YST1)],[],0,[.sl YST1]⟩
abbrev low_Fit_R:=Option (As [.sl YST1])
def low_Fit_e:Env:=(cts [])
def low_Fit_h:List (Nat×Hint):=[(58,⟨[.row 5 30],[5,14,15,16]⟩),(7475,⟨[],[5,7,8,14,15,16]⟩)]
def low_Fit_k1 (t14:List (Int×List Int)) (t15 t16:Int) (out:List (Int×List Int)):St:={ fr:=[(5,.row 0),(14,.d (.sl YST1) t14),(15,.d (.int .i64) t15),(16,.d (.int .i64) t16)],nt:=45,up:=[],own:=[(0,.row YST1 30 out)],nx:=1,log:=[],ln:=0 }
def low_Fit_k2 (at':Int) (t14:List (Int×List Int)) (t15 t16:Int) (out:List (Int×List Int)) (x:Int×List Int):St:={ fr:=[(5,.row 0),(7,.pb 1 0),(8,.d (.int .i64) at'),(14,.d (.sl YST1) t14),(15,.d (.int .i64) t15),(16,.d (.int .i64) t16)],nt:=45,up:=[],own:=[(0,.row YST1 30 out),(1,.box 30 [.d (.int .i64) x.1,.d (.sl (.int .u16)) x.2])],nx:=2,log:=[],ln:=0 }
def low_Fit_m1 (j2:Int->List (Int×List Int)->Int->Int->List (Int×List Int)->Int×List Int->low_Fit_R) (self1:List (Int×List Int)->Int->Int->List (Int×List Int)->low_Fit_R) (t14:List (Int×List Int)) (t15 t16:Int) (out:List (Int×List Int)):low_Fit_R :=
 if lt t16 t15=true then Option.bind (at? t14 t16) fun y=>if lt (rem y.1 64) 0=true then j2 (add .i64 (rem y.1 64) 64) t14 t15 t16 out y else j2 (rem y.1 64) t14 t15 t16 out y else some (out,())
def low_Fit_m2 (self1:List (Int×List Int)->Int->Int->List (Int×List Int)->low_Fit_R) (at':Int) (t14:List (Int×List Int)) (t15 t16:Int) (out:List (Int×List Int)) (x:Int×List Int):low_Fit_R :=
 Option.bind (cut x.2 0 (if lt (Sx.sub .i64 64 at') (if lt 14 (Int.ofNat (List.length x.2))=true then 14 else Int.ofNat (List.length x.2))=true then Sx.sub .i64 64 at' else if lt 14 (Int.ofNat (List.length x.2))=true then 14 else Int.ofNat (List.length x.2))) fun y=>need (small (0 + List.length y)) (need (small (List.length out + Nat.succ 0)) (self1 t14 t15 (add .i64 t16 1) (out++[(at',y)])))
def low_Fit_m0 (j1:List (Int×List Int)->Int->Int->List (Int×List Int)->low_Fit_R) (l:List (Int×List Int)) (most:Int):low_Fit_R :=
 Option.bind (cut l 0 (if lt most (Int.ofNat (List.length l))=true then most else Int.ofNat (List.length l))) fun y=>j1 y (Int.ofNat (List.length y)) 0 []
def low_Fit_K2 (u1:List (Int×List Int)->Int->Int->List (Int×List Int)->low_Fit_R) (at':Int) (t14:List (Int×List Int)) (t15 t16:Int) (out:List (Int×List Int)) (x:Int×List Int):low_Fit_R:=low_Fit_m2 u1 at' t14 t15 t16 out x
def low_Fit_K1 (t14:List (Int×List Int)) (t15 t16:Int) (out:List (Int×List Int)):low_Fit_R :=
 loopF (fun (self:(List (Int×List Int))×(Int)×(Int)×(List (Int×List Int))->low_Fit_R) (s:(List (Int×List Int))×(Int)×(Int)×(List (Int×List Int)))=>low_Fit_m1 (low_Fit_K2 (fun t14 t15 t16 out=>self (t14,t15,t16,out))) (fun t14 t15 t16 out=>self (t14,t15,t16,out)) s.1 s.2.1 s.2.2.1 s.2.2.2) 18446744073709551616 (t14,t15,t16,out)
def low_Fit (x:As [.sl YST1,.int .i64]):low_Fit_R:=low_Fit_m0 low_Fit_K1 x.1 x.2.1
theorem low_Fit_c2 (J:Orc (As [.sl YST1])) (w1:St->low_Fit_R) (at':Int) (t14:List (Int×List Int)) (t15 t16:Int) (out:List (Int×List Int)) (x:Int×List Int):pfn Tryz.prog low_Fit_e 6 18446744073709551616 (Ev.get low_Fit_h) 11 low_Fit_s J 7475 [w1] (low_Fit_k2 at' t14 t15 t16 out x)=low_Fit_m2 (fun t14 t15 t16 out=>w1 (low_Fit_k1 t14 t15 t16 out)) at' t14 t15 t16 out x:=by kernel_rfl
theorem low_Fit_c1 (J:Orc (As [.sl YST1])) (w1:St->low_Fit_R) (t14:List (Int×List Int)) (t15 t16:Int) (out:List (Int×List Int)):pfn Tryz.prog low_Fit_e 6 18446744073709551616 (Ev.get low_Fit_h) 11 low_Fit_s J 58 [w1] (low_Fit_k1 t14 t15 t16 out)=low_Fit_m1 (fun at' t14 t15 t16 out x=>J 7475 [w1] (low_Fit_k2 at' t14 t15 t16 out x)) (fun t14 t15 t16 out=>w1 (low_Fit_k1 t14 t15 t16 out)) t14 t15 t16 out:=by kernel_rfl
theorem low_Fit_c0 (J:Orc (As [.sl YST1])) (x:As [.sl YST1,.int .i64]):rfn Tryz.prog low_Fit_e 6 18446744073709551616 (Ev.get low_Fit_h) 11 low_Fit_s J x=low_Fit_m0 (fun t14 t15 t16 out=>J 58 [] (low_Fit_k1 t14 t15 t16 out)) x.1 x.2.1:=by kernel_rfl
theorem low_Fit_g2 (w1:St->low_Fit_R) (at':Int) (t14:List (Int×List Int)) (t15 t16:Int) (out:List (Int×List Int)) (x:Int×List Int):jfn Tryz.prog low_Fit_e 6 18446744073709551616 (Ev.get low_Fit_h) 11 low_Fit_s 7475 [w1] (low_Fit_k2 at' t14 t15 t16 out x)=low_Fit_K2 (fun t14 t15 t16 out=>w1 (low_Fit_k1 t14 t15 t16 out)) at' t14 t15 t16 out x:=by
 rw [pfn_eq (by decide)]
 rw [low_Fit_c2]
 rfl
theorem low_Fit_g1 (t14:List (Int×List Int)) (t15 t16:Int) (out:List (Int×List Int)):jfn Tryz.prog low_Fit_e 6 18446744073709551616 (Ev.get low_Fit_h) 11 low_Fit_s 58 [] (low_Fit_k1 t14 t15 t16 out)=low_Fit_K1 t14 t15 t16 out:=by
 rw [pfn_eq (by decide)]
 rw [pfn_loop (by kernel_rfl)]
 refine loopF_sim (σ:=(List (Int×List Int))×(Int)×(Int)×(List (Int×List Int))) (mk:=fun s=>low_Fit_k1 s.1 s.2.1 s.2.2.1 s.2.2.2) (fun w1 s=>?_) 18446744073709551616 (t14,t15,t16,out)
 have e2:(fun at' t14 t15 t16 out x=>(jfn Tryz.prog low_Fit_e 6 18446744073709551616 (Ev.get low_Fit_h) 11 low_Fit_s) 7475 [w1] (low_Fit_k2 at' t14 t15 t16 out x))=low_Fit_K2 (fun t14 t15 t16 out=>w1 (low_Fit_k1 t14 t15 t16 out)):=by funext at' t14 t15 t16 out x; exact low_Fit_g2 w1 at' t14 t15 t16 out x
 refine (low_Fit_c1 _ w1 s.1 s.2.1 s.2.2.1 s.2.2.2).trans ?_
 rw [e2]
theorem low_Fit_t (x:As [.sl YST1,.int .i64]):evT Tryz.prog low_Fit_e 6 18446744073709551616 (Ev.get low_Fit_h) 11 low_Fit_s x=low_Fit x:=by
 have e1:(fun t14 t15 t16 out=>(jfn Tryz.prog low_Fit_e 6 18446744073709551616 (Ev.get low_Fit_h) 11 low_Fit_s) 58 [] (low_Fit_k1 t14 t15 t16 out))=low_Fit_K1:=by funext t14 t15 t16 out; exact low_Fit_g1 t14 t15 t16 out
 rw [rfn_eq,low_Fit_c0,e1]
 rfl
theorem low_Fit_ok:CtOk Tryz.prog (fun _=>True) 11 ⟨low_Fit_s,low_Fit⟩:=ct_of_ev env_nil low_Fit_t
@[reducible] def q4r_:Sh:=⟨[.d (.pr (.int .u8) YST3),.pb 0 0],[.box 38 [.d (.int .u8),.d (.int .u8),.d (.sl (.int .u16)),.d (.int .u16),.d (.int .i64),.d (.int .u8),.d (.int .u32),.d (.int .u32),.d (.int .u32),.d (.bool),.d (.bool),.d (.bool),.d (.bool),.d (.bool),.d (.bool),.d (.bool),.d (.bool),.d (.int .i64),.d (.sl (.int .u16)),.d (.int .i64),.d (.sl (.int .u16)),.d (.int .i64),.d (.sl (.int .u16)),.d (.int .i64),.d (.sl (.int .u16)),.d (.int .i64),.d (.sl (.int .u16)),.d (.int .i64),.d (.sl (.int .u16)),.d (.int .i64),.d (.sl (.int .u16)),.d (.int .i64),.d (.sl (.int .u16)),.d (.int .i64),.d (.sl .bool)]],[.pr (.int .u8) YST3,.int .u8,.int .u8,.sl (.int .u16),.int .u16,.int .i64,.int .u8,.int .u32,.int .u32,.int .u32,.bool,.bool,.bool,.bool,.bool,.bool,.bool,.bool,.int .i64,.sl (.int .u16),.int .i64,.sl (.int .u16),.int .i64,.sl (.int .u16),.int .i64,.sl (.int .u16),.int .i64,.sl (.int .u16),.int .i64,.sl (.int .u16),.int .i64,.sl (.int .u16),.int .i64,.sl (.int .u16),.int .i64,.sl .bool],[.d (.pr (.int .u8) YST4),.d (.bool)],[(0,.box 38 [.d (.int .u8),.d (.int .u8),.d (.sl (.int .u16)),.d (.int .u16),.d (.int .i64),.d (.int .u8),.d (.int .u32),.d (.int .u32),.d (.int .u32),.d (.bool),.d (.bool),.d (.bool),.d (.bool),.d (.bool),.d (.bool),.d (.bool),.d (.bool),.d (.int .i64),.d (.sl (.int .u16)),.d (.int .i64),.d (.sl (.int .u16)),.d (.int .i64),.d (.sl (.int .u16)),.d (.int .i64),.d (.sl (.int .u16)),.d (.int .i64),.d (.sl (.int .u16)),.d (.int .i64),.d (.sl (.int .u16)),.d (.int .i64),.d (.sl (.int .u16)),.d (.int .i64),.d (.sl (.int .u16)),.d (.int .i64),.d (.sl .bool)])],0,[.pr (.int .u8) YST4,.bool,.int .u8,.int .u8,.sl (.int .u16),.int .u16,.int .i64,.int .u8,.int .u32,.int .u32,.int .u32,.bool,.bool,.bool,.bool,.bool,.bool,.bool,.bool,.int .i64,.sl (.int .u16),.int .i64,.sl (.int .u16),.int .i64,.sl (.int .u16),.int .i64,.sl (.int .u16),.int .i64,.sl (.int .u16),.int .i64,.sl (.int .u16),.int .i64,.sl (.int .u16),.int .i64,.sl (.int .u16),.int .i64,.sl .bool]⟩
def qap_:Env:=(cts [(1000038,Ev.bxCt),(13,(⟨qv_,ask_Bytes⟩:Ct)),(14,(⟨slave_Serve_s,slave_Serve⟩:Ct)),(15,(⟨q46_,reply_Parse⟩:Ct)),(16,(⟨q6h_,reply_Fits⟩:Ct))])
def qaf_:List (Nat×Hint):=[]
def qa2_ (a:Int×Int×Int×Int×List Int×List Bool) (v a_2:Int) (v_2:List Int) (v_3 pdu e next out r:Int) (f v_4 v_5 v_6 v_7 v_8 v_9 v_10:Bool) (v_11:Int) (v_12:List Int) (v_13:Int) (v_14:List Int) (v_15:Int) (v_16:List Int) (v_17:Int) (v_18:List Int) (v_19:Int) (v_20:List Int) (v_21:Int) (v_22:List Int) (v_23:Int) (v_24:List Int) (v_25:Int) (v_26:List Int) (v_27:Int) (v_28:List Bool):Option (As [.pr (.int .u8) YST4,.bool,.int .u8,.int .u8,.sl (.int .u16),.int .u16,.int .i64,.int .u8,.int .u32,.int .u32,.int .u32,.bool,.bool,.bool,.bool,.bool,.bool,.bool,.bool,.int .i64,.sl (.int .u16),.int .i64,.sl (.int .u16),.int .i64,.sl (.int .u16),.int .i64,.sl (.int .u16),.int .i64,.sl (.int .u16),.int .i64,.sl (.int .u16),.int .i64,.sl (.int .u16),.int .i64,.sl (.int .u16),.int .i64,.sl .bool]) :=
 Option.bind (ask_Bytes (a,())) fun y=>Option.bind (slave_Serve ((v,a_2,(v_2,(v_3,pdu),e,next,out,(r,[f,v_4,v_5,v_6,v_7,v_8,v_9,v_10],[(v_11,v_12),(v_13,v_14),(v_15,v_16),(v_17,v_18),(v_19,v_20),(v_21,v_22),(v_23,v_24),(v_25,v_26)]),v_27),v_28),y.1,())) fun y_1=>Option.bind (reply_Parse (y_1.2.1,())) fun y_2=>if eqi y.2.1 0=true then if eqi y_2.2.1 0=true then Option.bind (reply_Fits (a,y_2.1,())) fun y=>if y.1=true then some (y_2.1,eqi y_2.1.2.1 0,pkS y_1.1) else some (y_2.1,false,pkS y_1.1) else some (y_2.1,false,pkS y_1.1) else some (y_2.1,false,pkS y_1.1)
def law21_SlaveStages_z1 (x:As [.pr (.int .u8) YST3,.int .u8,.int .u8,.sl (.int .u16),.int .u16,.int .i64,.int .u8,.int .u32,.int .u32,.int .u32,.bool,.bool,.bool,.bool,.bool,.bool,.bool,.bool,.int .i64,.sl (.int .u16),.int .i64,.sl (.int .u16),.int .i64,.sl (.int .u16),.int .i64,.sl (.int .u16),.int .i64,.sl (.int .u16),.int .i64,.sl (.int .u16),.int .i64,.sl (.int .u16),.int .i64,.sl (.int .u16),.int .i64,.sl .bool]):Option (As [.pr (.int .u8) YST4,.bool,.int .u8,.int .u8,.sl (.int .u16),.int .u16,.int .i64,.int .u8,.int .u32,.int .u32,.int .u32,.bool,.bool,.bool,.bool,.bool,.bool,.bool,.bool,.int .i64,.sl (.int .u16),.int .i64,.sl (.int .u16),.int .i64,.sl (.int .u16),.int .i64,.sl (.int .u16),.int .i64,.sl (.int .u16),.int .i64,.sl (.int .u16),.int .i64,.sl (.int .u16),.int .i64,.sl (.int .u16),.int .i64,.sl .bool]):=qa2_ x.1 x.2.1 x.2.2.1 x.2.2.2.1 x.2.2.2.2.1 x.2.2.2.2.2.1 x.2.2.2.2.2.2.1 x.2.2.2.2.2.2.2.1 x.2.2.2.2.2.2.2.2.1 x.2.2.2.2.2.2.2.2.2.1 x.2.2.2.2.2.2.2.2.2.2.1 x.2.2.2.2.2.2.2.2.2.2.2.1 x.2.2.2.2.2.2.2.2.2.2.2.2.1 x.2.2.2.2.2.2.2.2.2.2.2.2.2.1 x.2.2.2.2.2.2.2.2.2.2.2.2.2.2.1 x.2.2.2.2.2.2.2.2.2.2.2.2.2.2.2.1 x.2.2.2.2.2.2.2.2.2.2.2.2.2.2.2.2.1 x.2.2.2.2.2.2.2.2.2.2.2.2.2.2.2.2.2.1 x.2.2.2.2.2.2.2.2.2.2.2.2.2.2.2.2.2.2.1 x.2.2.2.2.2.2.2.2.2.2.2.2.2.2.2.2.2.2.2.1 x.2.2.2.2.2.2.2.2.2.2.2.2.2.2.2.2.2.2.2.2.1 x.2.2.2.2.2.2.2.2.2.2.2.2.2.2.2.2.2.2.2.2.2.1 x.2.2.2.2.2.2.2.2.2.2.2.2.2.2.2.2.2.2.2.2.2.2.1 x.2.2.2.2.2.2.2.2.2.2.2.2.2.2.2.2.2.2.2.2.2.2.2.1 x.2.2.2.2.2.2.2.2.2.2.2.2.2.2.2.2.2.2.2.2.2.2.2.2.1 x.2.2.2.2.2.2.2.2.2.2.2.2.2.2.2.2.2.2.2.2.2.2.2.2.2.1 x.2.2.2.2.2.2.2.2.2.2.2.2.2.2.2.2.2.2.2.2.2.2.2.2.2.2.1 x.2.2.2.2.2.2.2.2.2.2.2.2.2.2.2.2.2.2.2.2.2.2.2.2.2.2.2.1 x.2.2.2.2.2.2.2.2.2.2.2.2.2.2.2.2.2.2.2.2.2.2.2.2.2.2.2.2.1 x.2.2.2.2.2.2.2.2.2.2.2.2.2.2.2.2.2.2.2.2.2.2.2.2.2.2.2.2.2.1 x.2.2.2.2.2.2.2.2.2.2.2.2.2.2.2.2.2.2.2.2.2.2.2.2.2.2.2.2.2.2.1 x.2.2.2.2.2.2.2.2.2.2.2.2.2.2.2.2.2.2.2.2.2.2.2.2.2.2.2.2.2.2.2.1 x.2.2.2.2.2.2.2.2.2.2.2.2.2.2.2.2.2.2.2.2.2.2.2.2.2.2.2.2.2.2.2.2.1 x.2.2.2.2.2.2.2.2.2.2.2.2.2.2.2.2.2.2.2.2.2.2.2.2.2.2.2.2.2.2.2.2.2.1 x.2.2.2.2.2.2.2.2.2.2.2.2.2.2.2.2.2.2.2.2.2.2.2.2.2.2.2.2.2.2.2.2.2.2.1 x.2.2.2.2.2.2.2.2.2.2.2.2.2.2.2.2.2.2.2.2.2.2.2.2.2.2.2.2.2.2.2.2.2.2.2.1
theorem qfg_ (J:Orc (As [.pr (.int .u8) YST4,.bool,.int .u8,.int .u8,.sl (.int .u16),.int .u16,.int .i64,.int .u8,.int .u32,.int .u32,.int .u32,.bool,.bool,.bool,.bool,.bool,.bool,.bool,.bool,.int .i64,.sl (.int .u16),.int .i64,.sl (.int .u16),.int .i64,.sl (.int .u16),.int .i64,.sl (.int .u16),.int .i64,.sl (.int .u16),.int .i64,.sl (.int .u16),.int .i64,.sl (.int .u16),.int .i64,.sl (.int .u16),.int .i64,.sl .bool])) (x:As [.pr (.int .u8) YST3,.int .u8,.int .u8,.sl (.int .u16),.int .u16,.int .i64,.int .u8,.int .u32,.int .u32,.int .u32,.bool,.bool,.bool,.bool,.bool,.bool,.bool,.bool,.int .i64,.sl (.int .u16),.int .i64,.sl (.int .u16),.int .i64,.sl (.int .u16),.int .i64,.sl (.int .u16),.int .i64,.sl (.int .u16),.int .i64,.sl (.int .u16),.int .i64,.sl (.int .u16),.int .i64,.sl (.int .u16),.int .i64,.sl .bool]):rfn Tryz.prog qap_ 6 18446744073709551616 (Ev.get qaf_) 12 q4r_ J x=qa2_ x.1 x.2.1 x.2.2.1 x.2.2.2.1 x.2.2.2.2.1 x.2.2.2.2.2.1 x.2.2.2.2.2.2.1 x.2.2.2.2.2.2.2.1 x.2.2.2.2.2.2.2.2.1 x.2.2.2.2.2.2.2.2.2.1 x.2.2.2.2.2.2.2.2.2.2.1 x.2.2.2.2.2.2.2.2.2.2.2.1 x.2.2.2.2.2.2.2.2.2.2.2.2.1 x.2.2.2.2.2.2.2.2.2.2.2.2.2.1 x.2.2.2.2.2.2.2.2.2.2.2.2.2.2.1 x.2.2.2.2.2.2.2.2.2.2.2.2.2.2.2.1 x.2.2.2.2.2.2.2.2.2.2.2.2.2.2.2.2.1 x.2.2.2.2.2.2.2.2.2.2.2.2.2.2.2.2.2.1 x.2.2.2.2.2.2.2.2.2.2.2.2.2.2.2.2.2.2.1 x.2.2.2.2.2.2.2.2.2.2.2.2.2.2.2.2.2.2.2.1 x.2.2.2.2.2.2.2.2.2.2.2.2.2.2.2.2.2.2.2.2.1 x.2.2.2.2.2.2.2.2.2.2.2.2.2.2.2.2.2.2.2.2.2.1 x.2.2.2.2.2.2.2.2.2.2.2.2.2.2.2.2.2.2.2.2.2.2.1 x.2.2.2.2.2.2.2.2.2.2.2.2.2.2.2.2.2.2.2.2.2.2.2.1 x.2.2.2.2.2.2.2.2.2.2.2.2.2.2.2.2.2.2.2.2.2.2.2.2.1 x.2.2.2.2.2.2.2.2.2.2.2.2.2.2.2.2.2.2.2.2.2.2.2.2.2.1 x.2.2.2.2.2.2.2.2.2.2.2.2.2.2.2.2.2.2.2.2.2.2.2.2.2.2.1 x.2.2.2.2.2.2.2.2.2.2.2.2.2.2.2.2.2.2.2.2.2.2.2.2.2.2.2.1 x.2.2.2.2.2.2.2.2.2.2.2.2.2.2.2.2.2.2.2.2.2.2.2.2.2.2.2.2.1 x.2.2.2.2.2.2.2.2.2.2.2.2.2.2.2.2.2.2.2.2.2.2.2.2.2.2.2.2.2.1 x.2.2.2.2.2.2.2.2.2.2.2.2.2.2.2.2.2.2.2.2.2.2.2.2.2.2.2.2.2.2.1 x.2.2.2.2.2.2.2.2.2.2.2.2.2.2.2.2.2.2.2.2.2.2.2.2.2.2.2.2.2.2.2.1 x.2.2.2.2.2.2.2.2.2.2.2.2.2.2.2.2.2.2.2.2.2.2.2.2.2.2.2.2.2.2.2.2.1 x.2.2.2.2.2.2.2.2.2.2.2.2.2.2.2.2.2.2.2.2.2.2.2.2.2.2.2.2.2.2.2.2.2.1 x.2.2.2.2.2.2.2.2.2.2.2.2.2.2.2.2.2.2.2.2.2.2.2.2.2.2.2.2.2.2.2.2.2.2.1 x.2.2.2.2.2.2.2.2.2.2.2.2.2.2.2.2.2.2.2.2.2.2.2.2.2.2.2.2.2.2.2.2.2.2.2.1:=by kernel_rfl
theorem qg6_ (x:As [.pr (.int .u8) YST3,.int .u8,.int .u8,.sl (.int .u16),.int .u16,.int .i64,.int .u8,.int .u32,.int .u32,.int .u32,.bool,.bool,.bool,.bool,.bool,.bool,.bool,.bool,.int .i64,.sl (.int .u16),.int .i64,.sl (.int .u16),.int .i64,.sl (.int .u16),.int .i64,.sl (.int .u16),.int .i64,.sl (.int .u16),.int .i64,.sl (.int .u16),.int .i64,.sl (.int .u16),.int .i64,.sl (.int .u16),.int .i64,.sl .bool]):evT Tryz.prog qap_ 6 18446744073709551616 (Ev.get qaf_) 12 q4r_ x=law21_SlaveStages_z1 x:=by
 rw [rfn_eq,qfg_]
 rfl
theorem qfo_:CtOk Tryz.prog (fun _=>True) 12 ⟨q4r_,law21_SlaveStages_z1⟩:=ct_of_ev (env_cons Ev.bx_ok (env_cons qf1_ (env_cons slave_Serve_ok (env_cons qh1_ (env_cons qn2_ env_nil))))) qg6_
@[reducible] def q0_:Sh:=⟨[.d (.int .u8),.d (.sl (.int .u16)),.d (.int .u16),.d (.int .u32),.d (.sl YST1)],[],[.int .u8,.sl (.int .u16),.int .u16,.int .u32,.sl YST1],[.d (.bool)],[],0,[.bool]⟩
def qg_:Env:=(cts [(1000038,Ev.bxCt),(9,(⟨qaz_,law21_begun⟩:Ct)),(10,(⟨qb8_,law21_awake⟩:Ct)),(11,(⟨low_Fit_s,low_Fit⟩:Ct)),(12,(⟨q4r_,law21_SlaveStages_z1⟩:Ct)),(18,(⟨agent_Words_s,agent_Words⟩:Ct)),(19,(⟨stage_Sum_s,stage_Sum⟩:Ct)),(20,(⟨low_Words_s,low_Words⟩:Ct)),(21,(⟨stage_Words_s,stage_Words⟩:Ct))])
def qf_:List (Nat×Hint):=[(511,⟨[],[7,9,14,15,16,121,122,123,124,125,128]⟩),(4090,⟨[],[7,8,9,13,14,15,16,61,62,63,96,97,100,101,104,105,106,107,108,121,122,123,124,125,128]⟩),(2094287,⟨[.agd 96 .bool,.agd 97 .bool,.agd 100 .bool,.agd 101 .bool,.agd 105 (.sl (.int .u16)),.agd 106 (.sl (.int .u16)),.agd 107 .bool,.agd 108 .bool],[7,8,9,13,14,15,16,61,62,63,109]⟩),(14,⟨[],[7,8,9,11,12,40,43,96,97,100,101,104,105,106,107,108,121,122,123,124,125,128]⟩)]
def q5c_ (ok t40:Bool) (owner tx:Int) (l:List (Int×List Int)) (s:YsAq0):St:={ fr:=[(7,.pb 0 0),(8,.pb 1 0),(9,.pb 2 0),(11,.pb 3 0),(12,.d .bool ok),(40,.d .bool t40)],nt:=130,up:=[],own:=[(0,.box 23 [.d (.int .u16) owner]),(1,.box 24 [.d (.int .u32) tx]),(2,.box 25 [.d (.sl YST1) l]),(3,.box 38 [.d (.int .u8) s.1,.d (.int .u8) s.2.1,.d (.sl (.int .u16)) s.2.2.1.1,.d (.int .u16) s.2.2.1.2.1.1,.d (.int .i64) s.2.2.1.2.1.2,.d (.int .u8) s.2.2.1.2.2.1,.d (.int .u32) s.2.2.1.2.2.2.1,.d (.int .u32) s.2.2.1.2.2.2.2.1,.d (.int .u32) s.2.2.1.2.2.2.2.2.1.1,.d .bool (List.getD s.2.2.1.2.2.2.2.2.1.2.1 0 false),.d .bool (List.getD s.2.2.1.2.2.2.2.2.1.2.1 1 false),.d .bool (List.getD s.2.2.1.2.2.2.2.2.1.2.1 2 false),.d .bool (List.getD s.2.2.1.2.2.2.2.2.1.2.1 3 false),.d .bool (List.getD s.2.2.1.2.2.2.2.2.1.2.1 4 false),.d .bool (List.getD s.2.2.1.2.2.2.2.2.1.2.1 5 false),.d .bool (List.getD s.2.2.1.2.2.2.2.2.1.2.1 6 false),.d .bool (List.getD s.2.2.1.2.2.2.2.2.1.2.1 7 false),.d (.int .i64) (List.getD s.2.2.1.2.2.2.2.2.1.2.2 0 (0,[])).1,.d (.sl (.int .u16)) (List.getD s.2.2.1.2.2.2.2.2.1.2.2 0 (0,[])).2,.d (.int .i64) (List.getD s.2.2.1.2.2.2.2.2.1.2.2 1 (0,[])).1,.d (.sl (.int .u16)) (List.getD s.2.2.1.2.2.2.2.2.1.2.2 1 (0,[])).2,.d (.int .i64) (List.getD s.2.2.1.2.2.2.2.2.1.2.2 2 (0,[])).1,.d (.sl (.int .u16)) (List.getD s.2.2.1.2.2.2.2.2.1.2.2 2 (0,[])).2,.d (.int .i64) (List.getD s.2.2.1.2.2.2.2.2.1.2.2 3 (0,[])).1,.d (.sl (.int .u16)) (List.getD s.2.2.1.2.2.2.2.2.1.2.2 3 (0,[])).2,.d (.int .i64) (List.getD s.2.2.1.2.2.2.2.2.1.2.2 4 (0,[])).1,.d (.sl (.int .u16)) (List.getD s.2.2.1.2.2.2.2.2.1.2.2 4 (0,[])).2,.d (.int .i64) (List.getD s.2.2.1.2.2.2.2.2.1.2.2 5 (0,[])).1,.d (.sl (.int .u16)) (List.getD s.2.2.1.2.2.2.2.2.1.2.2 5 (0,[])).2,.d (.int .i64) (List.getD s.2.2.1.2.2.2.2.2.1.2.2 6 (0,[])).1,.d (.sl (.int .u16)) (List.getD s.2.2.1.2.2.2.2.2.1.2.2 6 (0,[])).2,.d (.int .i64) (List.getD s.2.2.1.2.2.2.2.2.1.2.2 7 (0,[])).1,.d (.sl (.int .u16)) (List.getD s.2.2.1.2.2.2.2.2.1.2.2 7 (0,[])).2,.d (.int .i64) s.2.2.1.2.2.2.2.2.2,.d (.sl .bool) s.2.2.2])],nx:=4,log:=[],ln:=0 }
def q11_ (high low:Int) (t61:List (Int×List Int)) (t62 t63 owner tx:Int) (l:List (Int×List Int)) (o:YsAq0):St:={ fr:=[(7,.pb 0 0),(8,.pb 1 0),(9,.pb 2 0),(13,.pb 3 0),(14,.fn (.func 17) [] [.pb 3 0,.pb 0 0,.pb 1 0,.pb 2 0]),(15,.d (.int .u16) high),(16,.d (.int .u16) low),(61,.d (.sl YST1) t61),(62,.d (.int .i64) t62),(63,.d (.int .i64) t63)],nt:=130,up:=[],own:=[(0,.box 23 [.d (.int .u16) owner]),(1,.box 24 [.d (.int .u32) tx]),(2,.box 25 [.d (.sl YST1) l]),(3,.box 56 [.fn (.func 12) [] [.pb 4 0]]),(4,.box 38 [.d (.int .u8) o.1,.d (.int .u8) o.2.1,.d (.sl (.int .u16)) o.2.2.1.1,.d (.int .u16) o.2.2.1.2.1.1,.d (.int .i64) o.2.2.1.2.1.2,.d (.int .u8) o.2.2.1.2.2.1,.d (.int .u32) o.2.2.1.2.2.2.1,.d (.int .u32) o.2.2.1.2.2.2.2.1,.d (.int .u32) o.2.2.1.2.2.2.2.2.1.1,.d .bool (List.getD o.2.2.1.2.2.2.2.2.1.2.1 0 false),.d .bool (List.getD o.2.2.1.2.2.2.2.2.1.2.1 1 false),.d .bool (List.getD o.2.2.1.2.2.2.2.2.1.2.1 2 false),.d .bool (List.getD o.2.2.1.2.2.2.2.2.1.2.1 3 false),.d .bool (List.getD o.2.2.1.2.2.2.2.2.1.2.1 4 false),.d .bool (List.getD o.2.2.1.2.2.2.2.2.1.2.1 5 false),.d .bool (List.getD o.2.2.1.2.2.2.2.2.1.2.1 6 false),.d .bool (List.getD o.2.2.1.2.2.2.2.2.1.2.1 7 false),.d (.int .i64) (List.getD o.2.2.1.2.2.2.2.2.1.2.2 0 (0,[])).1,.d (.sl (.int .u16)) (List.getD o.2.2.1.2.2.2.2.2.1.2.2 0 (0,[])).2,.d (.int .i64) (List.getD o.2.2.1.2.2.2.2.2.1.2.2 1 (0,[])).1,.d (.sl (.int .u16)) (List.getD o.2.2.1.2.2.2.2.2.1.2.2 1 (0,[])).2,.d (.int .i64) (List.getD o.2.2.1.2.2.2.2.2.1.2.2 2 (0,[])).1,.d (.sl (.int .u16)) (List.getD o.2.2.1.2.2.2.2.2.1.2.2 2 (0,[])).2,.d (.int .i64) (List.getD o.2.2.1.2.2.2.2.2.1.2.2 3 (0,[])).1,.d (.sl (.int .u16)) (List.getD o.2.2.1.2.2.2.2.2.1.2.2 3 (0,[])).2,.d (.int .i64) (List.getD o.2.2.1.2.2.2.2.2.1.2.2 4 (0,[])).1,.d (.sl (.int .u16)) (List.getD o.2.2.1.2.2.2.2.2.1.2.2 4 (0,[])).2,.d (.int .i64) (List.getD o.2.2.1.2.2.2.2.2.1.2.2 5 (0,[])).1,.d (.sl (.int .u16)) (List.getD o.2.2.1.2.2.2.2.2.1.2.2 5 (0,[])).2,.d (.int .i64) (List.getD o.2.2.1.2.2.2.2.2.1.2.2 6 (0,[])).1,.d (.sl (.int .u16)) (List.getD o.2.2.1.2.2.2.2.2.1.2.2 6 (0,[])).2,.d (.int .i64) (List.getD o.2.2.1.2.2.2.2.2.1.2.2 7 (0,[])).1,.d (.sl (.int .u16)) (List.getD o.2.2.1.2.2.2.2.2.1.2.2 7 (0,[])).2,.d (.int .i64) o.2.2.1.2.2.2.2.2.2,.d (.sl .bool) o.2.2.2])],nx:=5,log:=[],ln:=0 }
def q5k_ (high low:Int) (t61:List (Int×List Int)) (t62 t63:Int) (t109:Bool) (owner tx:Int) (l:List (Int×List Int)) (o:YsAq0):St:={ fr:=[(7,.pb 0 0),(8,.pb 1 0),(9,.pb 2 0),(13,.pb 3 0),(14,.fn (.func 17) [] [.pb 3 0,.pb 0 0,.pb 1 0,.pb 2 0]),(15,.d (.int .u16) high),(16,.d (.int .u16) low),(61,.d (.sl YST1) t61),(62,.d (.int .i64) t62),(63,.d (.int .i64) t63),(109,.d .bool t109)],nt:=130,up:=[],own:=[(0,.box 23 [.d (.int .u16) owner]),(1,.box 24 [.d (.int .u32) tx]),(2,.box 25 [.d (.sl YST1) l]),(3,.box 56 [.fn (.func 12) [] [.pb 4 0]]),(4,.box 38 [.d (.int .u8) o.1,.d (.int .u8) o.2.1,.d (.sl (.int .u16)) o.2.2.1.1,.d (.int .u16) o.2.2.1.2.1.1,.d (.int .i64) o.2.2.1.2.1.2,.d (.int .u8) o.2.2.1.2.2.1,.d (.int .u32) o.2.2.1.2.2.2.1,.d (.int .u32) o.2.2.1.2.2.2.2.1,.d (.int .u32) o.2.2.1.2.2.2.2.2.1.1,.d .bool (List.getD o.2.2.1.2.2.2.2.2.1.2.1 0 false),.d .bool (List.getD o.2.2.1.2.2.2.2.2.1.2.1 1 false),.d .bool (List.getD o.2.2.1.2.2.2.2.2.1.2.1 2 false),.d .bool (List.getD o.2.2.1.2.2.2.2.2.1.2.1 3 false),.d .bool (List.getD o.2.2.1.2.2.2.2.2.1.2.1 4 false),.d .bool (List.getD o.2.2.1.2.2.2.2.2.1.2.1 5 false),.d .bool (List.getD o.2.2.1.2.2.2.2.2.1.2.1 6 false),.d .bool (List.getD o.2.2.1.2.2.2.2.2.1.2.1 7 false),.d (.int .i64) (List.getD o.2.2.1.2.2.2.2.2.1.2.2 0 (0,[])).1,.d (.sl (.int .u16)) (List.getD o.2.2.1.2.2.2.2.2.1.2.2 0 (0,[])).2,.d (.int .i64) (List.getD o.2.2.1.2.2.2.2.2.1.2.2 1 (0,[])).1,.d (.sl (.int .u16)) (List.getD o.2.2.1.2.2.2.2.2.1.2.2 1 (0,[])).2,.d (.int .i64) (List.getD o.2.2.1.2.2.2.2.2.1.2.2 2 (0,[])).1,.d (.sl (.int .u16)) (List.getD o.2.2.1.2.2.2.2.2.1.2.2 2 (0,[])).2,.d (.int .i64) (List.getD o.2.2.1.2.2.2.2.2.1.2.2 3 (0,[])).1,.d (.sl (.int .u16)) (List.getD o.2.2.1.2.2.2.2.2.1.2.2 3 (0,[])).2,.d (.int .i64) (List.getD o.2.2.1.2.2.2.2.2.1.2.2 4 (0,[])).1,.d (.sl (.int .u16)) (List.getD o.2.2.1.2.2.2.2.2.1.2.2 4 (0,[])).2,.d (.int .i64) (List.getD o.2.2.1.2.2.2.2.2.1.2.2 5 (0,[])).1,.d (.sl (.int .u16)) (List.getD o.2.2.1.2.2.2.2.2.1.2.2 5 (0,[])).2,.d (.int .i64) (List.getD o.2.2.1.2.2.2.2.2.1.2.2 6 (0,[])).1,.d (.sl (.int .u16)) (List.getD o.2.2.1.2.2.2.2.2.1.2.2 6 (0,[])).2,.d (.int .i64) (List.getD o.2.2.1.2.2.2.2.2.1.2.2 7 (0,[])).1,.d (.sl (.int .u16)) (List.getD o.2.2.1.2.2.2.2.2.1.2.2 7 (0,[])).2,.d (.int .i64) o.2.2.1.2.2.2.2.2.2,.d (.sl .bool) o.2.2.2])],nx:=5,log:=[],ln:=0 }
def q5j_ (high low owner:Int) (l:List (Int×List Int)) (o:YsAq0) (o_2:Int):St:={ fr:=[(7,.pb 0 0),(9,.pb 1 0),(14,.fn (.func 17) [] [.pb 2 0,.pb 0 0,.pb 4 0,.pb 1 0]),(15,.d (.int .u16) high),(16,.d (.int .u16) low)],nt:=130,up:=[],own:=[(0,.box 23 [.d (.int .u16) owner]),(1,.box 25 [.d (.sl YST1) l]),(2,.box 56 [.fn (.func 12) [] [.pb 3 0]]),(3,.box 38 [.d (.int .u8) o.1,.d (.int .u8) o.2.1,.d (.sl (.int .u16)) o.2.2.1.1,.d (.int .u16) o.2.2.1.2.1.1,.d (.int .i64) o.2.2.1.2.1.2,.d (.int .u8) o.2.2.1.2.2.1,.d (.int .u32) o.2.2.1.2.2.2.1,.d (.int .u32) o.2.2.1.2.2.2.2.1,.d (.int .u32) o.2.2.1.2.2.2.2.2.1.1,.d .bool (List.getD o.2.2.1.2.2.2.2.2.1.2.1 0 false),.d .bool (List.getD o.2.2.1.2.2.2.2.2.1.2.1 1 false),.d .bool (List.getD o.2.2.1.2.2.2.2.2.1.2.1 2 false),.d .bool (List.getD o.2.2.1.2.2.2.2.2.1.2.1 3 false),.d .bool (List.getD o.2.2.1.2.2.2.2.2.1.2.1 4 false),.d .bool (List.getD o.2.2.1.2.2.2.2.2.1.2.1 5 false),.d .bool (List.getD o.2.2.1.2.2.2.2.2.1.2.1 6 false),.d .bool (List.getD o.2.2.1.2.2.2.2.2.1.2.1 7 false),.d (.int .i64) (List.getD o.2.2.1.2.2.2.2.2.1.2.2 0 (0,[])).1,.d (.sl (.int .u16)) (List.getD o.2.2.1.2.2.2.2.2.1.2.2 0 (0,[])).2,.d (.int .i64) (List.getD o.2.2.1.2.2.2.2.2.1.2.2 1 (0,[])).1,.d (.sl (.int .u16)) (List.getD o.2.2.1.2.2.2.2.2.1.2.2 1 (0,[])).2,.d (.int .i64) (List.getD o.2.2.1.2.2.2.2.2.1.2.2 2 (0,[])).1,.d (.sl (.int .u16)) (List.getD o.2.2.1.2.2.2.2.2.1.2.2 2 (0,[])).2,.d (.int .i64) (List.getD o.2.2.1.2.2.2.2.2.1.2.2 3 (0,[])).1,.d (.sl (.int .u16)) (List.getD o.2.2.1.2.2.2.2.2.1.2.2 3 (0,[])).2,.d (.int .i64) (List.getD o.2.2.1.2.2.2.2.2.1.2.2 4 (0,[])).1,.d (.sl (.int .u16)) (List.getD o.2.2.1.2.2.2.2.2.1.2.2 4 (0,[])).2,.d (.int .i64) (List.getD o.2.2.1.2.2.2.2.2.1.2.2 5 (0,[])).1,.d (.sl (.int .u16)) (List.getD o.2.2.1.2.2.2.2.2.1.2.2 5 (0,[])).2,.d (.int .i64) (List.getD o.2.2.1.2.2.2.2.2.1.2.2 6 (0,[])).1,.d (.sl (.int .u16)) (List.getD o.2.2.1.2.2.2.2.2.1.2.2 6 (0,[])).2,.d (.int .i64) (List.getD o.2.2.1.2.2.2.2.2.1.2.2 7 (0,[])).1,.d (.sl (.int .u16)) (List.getD o.2.2.1.2.2.2.2.2.1.2.2 7 (0,[])).2,.d (.int .i64) o.2.2.1.2.2.2.2.2.2,.d (.sl .bool) o.2.2.2]),(4,.box 24 [.d (.int .u32) o_2])],nx:=5,log:=[],ln:=0 }
def q5n_ (j2:Int->Int->List (Int×List Int)->Int->Int->Int->Int->List (Int×List Int)->YsAq0->Option (As [.bool])) (ok t40:Bool) (owner tx:Int) (l:List (Int×List Int)) (s:YsAq0):Option (As [.bool]) :=
 if t40=true then if ok=true then Option.bind (law21_awake ()) fun y=>some (y.1,()) else some (false,()) else Option.bind (low_Fit (l,8,())) fun y=>amb (eqAs q0_.rs) [Option.bind (stage_Sum (y.1,())) fun y_1=>amb (eqAs q0_.rs) [Option.bind (agent_Words ((owner,1,tx,cvt .u16 (Int.ofNat (List.length y.1)),y_1.1),())) fun y_2=>amb (eqAs q0_.rs) [Option.bind (law21_SlaveStages_z1 ((23,256,8,272,y_2.1,[]),pkS s)) fun y_3=>if y_3.2.1=true then Option.bind (low_Words (y_3.1.2.2.2.1,[owner,1,cvt .u16 (Sx.shr .u32 tx 16),cvt .u16 tx,0,0,0,0],())) fun y_4=>if (!y_4.1)=true then some (false,()) else j2 (cvt .u16 (Sx.shr .u32 tx 16)) (cvt .u16 tx) y.1 (Int.ofNat (List.length y.1)) 0 owner tx y.1 (unS y_3.2.2) else some (false,()),Option.bind (law21_SlaveStages_z1 ((23,256,8,272,y_2.1,[]),pkS s)) fun y_3=>if y_3.2.1=true then Option.bind (low_Words (y_3.1.2.2.2.1,[owner,1,cvt .u16 (Sx.shr .u32 tx 16),cvt .u16 tx,0,0,0,0],())) fun y_4=>if (!y_4.1)=true then some (false,()) else j2 (cvt .u16 (Sx.shr .u32 tx 16)) (cvt .u16 tx) y.1 (Int.ofNat (List.length y.1)) 0 owner tx y.1 (unS y_3.2.2) else some (false,())],Option.bind (agent_Words ((owner,1,tx,cvt .u16 (Int.ofNat (List.length y.1)),y_1.1),())) fun y_2=>Option.bind (law21_SlaveStages_z1 ((23,256,8,272,y_2.1,[]),pkS s)) fun y_3=>if y_3.2.1=true then Option.bind (low_Words (y_3.1.2.2.2.1,[owner,1,cvt .u16 (Sx.shr .u32 tx 16),cvt .u16 tx,0,0,0,0],())) fun y_4=>if (!y_4.1)=true then some (false,()) else j2 (cvt .u16 (Sx.shr .u32 tx 16)) (cvt .u16 tx) y.1 (Int.ofNat (List.length y.1)) 0 owner tx y.1 (unS y_3.2.2) else some (false,())],Option.bind (stage_Sum (y.1,())) fun y_1=>Option.bind (agent_Words ((owner,1,tx,cvt .u16 (Int.ofNat (List.length y.1)),y_1.1),())) fun y_2=>Option.bind (law21_SlaveStages_z1 ((23,256,8,272,y_2.1,[]),pkS s)) fun y_3=>if y_3.2.1=true then Option.bind (low_Words (y_3.1.2.2.2.1,[owner,1,cvt .u16 (Sx.shr .u32 tx 16),cvt .u16 tx,0,0,0,0],())) fun y_4=>if (!y_4.1)=true then some (false,()) else j2 (cvt .u16 (Sx.shr .u32 tx 16)) (cvt .u16 tx) y.1 (Int.ofNat (List.length y.1)) 0 owner tx y.1 (unS y_3.2.2) else some (false,())]
def q2j_ (j3:Int->Int->List (Int×List Int)->Int->Int->Bool->Int->Int->List (Int×List Int)->YsAq0->Option (As [.bool])) (j4:Int->Int->Int->List (Int×List Int)->YsAq0->Int->Option (As [.bool])) (self2:Int->Int->List (Int×List Int)->Int->Int->Int->Int->List (Int×List Int)->YsAq0->Option (As [.bool])) (high low:Int) (t61:List (Int×List Int)) (t62 t63 owner tx:Int) (l:List (Int×List Int)) (o:YsAq0):Option (As [.bool]) :=
 if lt t63 t62=true then Option.bind (at? t61 t63) fun y=>Option.bind (stage_Words (owner,tx,t63,y,())) fun y=>Option.bind (law21_SlaveStages_z1 ((16,288,20,0,y.1,[]),pkS o)) fun y_1=>Option.bind (law21_SlaveStages_z1 ((3,cvt .u16 (add .i64 512 (mul .i64 t63 32)),20,0,[],[]),y_1.2.2)) fun y_2=>if nei y.2.1 0=true then j3 high low t61 t62 t63 true owner tx l (unS y_2.2.2) else if (!y_1.2.1)=true then j3 high low t61 t62 t63 true owner tx l (unS y_2.2.2) else if (!y_2.2.1)=true then j3 high low t61 t62 t63 true owner tx l (unS y_2.2.2) else Option.bind (low_Words (y_2.1.2.2.2.1,y.1,())) fun y=>j3 high low t61 t62 t63 (!y.1) owner tx l (unS y_2.2.2) else j4 high low owner l o tx
def q5d_ (self2:Int->Int->List (Int×List Int)->Int->Int->Int->Int->List (Int×List Int)->YsAq0->Option (As [.bool])) (high low:Int) (t61:List (Int×List Int)) (t62 t63:Int) (t109:Bool) (owner tx:Int) (l:List (Int×List Int)) (o:YsAq0):Option (As [.bool]) :=
 if t109=true then some (false,()) else self2 high low t61 t62 (add .i64 t63 1) owner tx l o
def q5m_ (high low owner:Int) (l:List (Int×List Int)) (o:YsAq0) (o_2:Int):Option (As [.bool]) :=
 amb (eqAs q0_.rs) [Option.bind (stage_Sum (l,())) fun y=>amb (eqAs q0_.rs) [Option.bind (agent_Words ((owner,2,o_2,cvt .u16 (Int.ofNat (List.length l)),y.1),())) fun y=>amb (eqAs q0_.rs) [Option.bind (law21_SlaveStages_z1 ((23,256,8,272,y.1,[]),pkS o)) fun y=>if y.2.1=true then Option.bind (low_Words (y.1.2.2.2.1,[owner,2,high,low,0,0,cvt .u16 (Int.ofNat (List.length l)),0],())) fun y_1=>if y_1.1=true then amb (eqAs q0_.rs) [Option.bind (stage_Sum (l,())) fun y_2=>amb (eqAs q0_.rs) [Option.bind (agent_Words ((owner,3,o_2,cvt .u16 (Int.ofNat (List.length l)),y_2.1),())) fun y_3=>amb (eqAs q0_.rs) [Option.bind (law21_SlaveStages_z1 ((23,256,8,272,y_3.1,[]),y.2.2)) fun y=>if y.2.1=true then Option.bind (low_Words (y.1.2.2.2.1,[0,0,0,0,high,low,0,0],())) fun y=>if y.1=true then Option.bind (law21_awake ()) fun y=>some (y.1,()) else some (false,()) else some (false,()),Option.bind (law21_SlaveStages_z1 ((23,256,8,272,y_3.1,[]),y.2.2)) fun y=>if y.2.1=true then Option.bind (low_Words (y.1.2.2.2.1,[0,0,0,0,high,low,0,0],())) fun y=>if y.1=true then Option.bind (law21_awake ()) fun y=>some (y.1,()) else some (false,()) else some (false,())],Option.bind (agent_Words ((owner,3,o_2,cvt .u16 (Int.ofNat (List.length l)),y_2.1),())) fun y_3=>Option.bind (law21_SlaveStages_z1 ((23,256,8,272,y_3.1,[]),y.2.2)) fun y=>if y.2.1=true then Option.bind (low_Words (y.1.2.2.2.1,[0,0,0,0,high,low,0,0],())) fun y=>if y.1=true then Option.bind (law21_awake ()) fun y=>some (y.1,()) else some (false,()) else some (false,())],Option.bind (stage_Sum (l,())) fun y_2=>Option.bind (agent_Words ((owner,3,o_2,cvt .u16 (Int.ofNat (List.length l)),y_2.1),())) fun y_3=>Option.bind (law21_SlaveStages_z1 ((23,256,8,272,y_3.1,[]),y.2.2)) fun y=>if y.2.1=true then Option.bind (low_Words (y.1.2.2.2.1,[0,0,0,0,high,low,0,0],())) fun y=>if y.1=true then Option.bind (law21_awake ()) fun y=>some (y.1,()) else some (false,()) else some (false,())] else some (false,()) else some (false,()),Option.bind (law21_SlaveStages_z1 ((23,256,8,272,y.1,[]),pkS o)) fun y=>if y.2.1=true then Option.bind (low_Words (y.1.2.2.2.1,[owner,2,high,low,0,0,cvt .u16 (Int.ofNat (List.length l)),0],())) fun y_1=>if y_1.1=true then amb (eqAs q0_.rs) [Option.bind (stage_Sum (l,())) fun y_2=>amb (eqAs q0_.rs) [Option.bind (agent_Words ((owner,3,o_2,cvt .u16 (Int.ofNat (List.length l)),y_2.1),())) fun y_3=>amb (eqAs q0_.rs) [Option.bind (law21_SlaveStages_z1 ((23,256,8,272,y_3.1,[]),y.2.2)) fun y=>if y.2.1=true then Option.bind (low_Words (y.1.2.2.2.1,[0,0,0,0,high,low,0,0],())) fun y=>if y.1=true then Option.bind (law21_awake ()) fun y=>some (y.1,()) else some (false,()) else some (false,()),Option.bind (law21_SlaveStages_z1 ((23,256,8,272,y_3.1,[]),y.2.2)) fun y=>if y.2.1=true then Option.bind (low_Words (y.1.2.2.2.1,[0,0,0,0,high,low,0,0],())) fun y=>if y.1=true then Option.bind (law21_awake ()) fun y=>some (y.1,()) else some (false,()) else some (false,())],Option.bind (agent_Words ((owner,3,o_2,cvt .u16 (Int.ofNat (List.length l)),y_2.1),())) fun y_3=>Option.bind (law21_SlaveStages_z1 ((23,256,8,272,y_3.1,[]),y.2.2)) fun y=>if y.2.1=true then Option.bind (low_Words (y.1.2.2.2.1,[0,0,0,0,high,low,0,0],())) fun y=>if y.1=true then Option.bind (law21_awake ()) fun y=>some (y.1,()) else some (false,()) else some (false,())],Option.bind (stage_Sum (l,())) fun y_2=>Option.bind (agent_Words ((owner,3,o_2,cvt .u16 (Int.ofNat (List.length l)),y_2.1),())) fun y_3=>Option.bind (law21_SlaveStages_z1 ((23,256,8,272,y_3.1,[]),y.2.2)) fun y=>if y.2.1=true then Option.bind (low_Words (y.1.2.2.2.1,[0,0,0,0,high,low,0,0],())) fun y=>if y.1=true then Option.bind (law21_awake ()) fun y=>some (y.1,()) else some (false,()) else some (false,())] else some (false,()) else some (false,())],Option.bind (agent_Words ((owner,2,o_2,cvt .u16 (Int.ofNat (List.length l)),y.1),())) fun y=>Option.bind (law21_SlaveStages_z1 ((23,256,8,272,y.1,[]),pkS o)) fun y=>if y.2.1=true then Option.bind (low_Words (y.1.2.2.2.1,[owner,2,high,low,0,0,cvt .u16 (Int.ofNat (List.length l)),0],())) fun y_1=>if y_1.1=true then amb (eqAs q0_.rs) [Option.bind (stage_Sum (l,())) fun y_2=>amb (eqAs q0_.rs) [Option.bind (agent_Words ((owner,3,o_2,cvt .u16 (Int.ofNat (List.length l)),y_2.1),())) fun y_3=>amb (eqAs q0_.rs) [Option.bind (law21_SlaveStages_z1 ((23,256,8,272,y_3.1,[]),y.2.2)) fun y=>if y.2.1=true then Option.bind (low_Words (y.1.2.2.2.1,[0,0,0,0,high,low,0,0],())) fun y=>if y.1=true then Option.bind (law21_awake ()) fun y=>some (y.1,()) else some (false,()) else some (false,()),Option.bind (law21_SlaveStages_z1 ((23,256,8,272,y_3.1,[]),y.2.2)) fun y=>if y.2.1=true then Option.bind (low_Words (y.1.2.2.2.1,[0,0,0,0,high,low,0,0],())) fun y=>if y.1=true then Option.bind (law21_awake ()) fun y=>some (y.1,()) else some (false,()) else some (false,())],Option.bind (agent_Words ((owner,3,o_2,cvt .u16 (Int.ofNat (List.length l)),y_2.1),())) fun y_3=>Option.bind (law21_SlaveStages_z1 ((23,256,8,272,y_3.1,[]),y.2.2)) fun y=>if y.2.1=true then Option.bind (low_Words (y.1.2.2.2.1,[0,0,0,0,high,low,0,0],())) fun y=>if y.1=true then Option.bind (law21_awake ()) fun y=>some (y.1,()) else some (false,()) else some (false,())],Option.bind (stage_Sum (l,())) fun y_2=>Option.bind (agent_Words ((owner,3,o_2,cvt .u16 (Int.ofNat (List.length l)),y_2.1),())) fun y_3=>Option.bind (law21_SlaveStages_z1 ((23,256,8,272,y_3.1,[]),y.2.2)) fun y=>if y.2.1=true then Option.bind (low_Words (y.1.2.2.2.1,[0,0,0,0,high,low,0,0],())) fun y=>if y.1=true then Option.bind (law21_awake ()) fun y=>some (y.1,()) else some (false,()) else some (false,())] else some (false,()) else some (false,())],Option.bind (stage_Sum (l,())) fun y=>Option.bind (agent_Words ((owner,2,o_2,cvt .u16 (Int.ofNat (List.length l)),y.1),())) fun y=>Option.bind (law21_SlaveStages_z1 ((23,256,8,272,y.1,[]),pkS o)) fun y=>if y.2.1=true then Option.bind (low_Words (y.1.2.2.2.1,[owner,2,high,low,0,0,cvt .u16 (Int.ofNat (List.length l)),0],())) fun y_1=>if y_1.1=true then amb (eqAs q0_.rs) [Option.bind (stage_Sum (l,())) fun y_2=>amb (eqAs q0_.rs) [Option.bind (agent_Words ((owner,3,o_2,cvt .u16 (Int.ofNat (List.length l)),y_2.1),())) fun y_3=>amb (eqAs q0_.rs) [Option.bind (law21_SlaveStages_z1 ((23,256,8,272,y_3.1,[]),y.2.2)) fun y=>if y.2.1=true then Option.bind (low_Words (y.1.2.2.2.1,[0,0,0,0,high,low,0,0],())) fun y=>if y.1=true then Option.bind (law21_awake ()) fun y=>some (y.1,()) else some (false,()) else some (false,()),Option.bind (law21_SlaveStages_z1 ((23,256,8,272,y_3.1,[]),y.2.2)) fun y=>if y.2.1=true then Option.bind (low_Words (y.1.2.2.2.1,[0,0,0,0,high,low,0,0],())) fun y=>if y.1=true then Option.bind (law21_awake ()) fun y=>some (y.1,()) else some (false,()) else some (false,())],Option.bind (agent_Words ((owner,3,o_2,cvt .u16 (Int.ofNat (List.length l)),y_2.1),())) fun y_3=>Option.bind (law21_SlaveStages_z1 ((23,256,8,272,y_3.1,[]),y.2.2)) fun y=>if y.2.1=true then Option.bind (low_Words (y.1.2.2.2.1,[0,0,0,0,high,low,0,0],())) fun y=>if y.1=true then Option.bind (law21_awake ()) fun y=>some (y.1,()) else some (false,()) else some (false,())],Option.bind (stage_Sum (l,())) fun y_2=>Option.bind (agent_Words ((owner,3,o_2,cvt .u16 (Int.ofNat (List.length l)),y_2.1),())) fun y_3=>Option.bind (law21_SlaveStages_z1 ((23,256,8,272,y_3.1,[]),y.2.2)) fun y=>if y.2.1=true then Option.bind (low_Words (y.1.2.2.2.1,[0,0,0,0,high,low,0,0],())) fun y=>if y.1=true then Option.bind (law21_awake ()) fun y=>some (y.1,()) else some (false,()) else some (false,())] else some (false,()) else some (false,())]
def q5g_ (j1:Bool->Bool->Int->Int->List (Int×List Int)->YsAq0->Option (As [.bool])) (link:Int) (b:List Int) (owner tx:Int) (l:List (Int×List Int)):Option (As [.bool]) :=
 Option.bind (law21_begun (link,b,9,())) fun y=>if (!y.2.1)=true then j1 y.2.1 true owner tx l y.1 else if eqi owner 0=true then j1 y.2.1 true owner tx l y.1 else j1 y.2.1 (eqi tx 0) owner tx l y.1
def q3p_ (u2:Int->Int->List (Int×List Int)->Int->Int->Int->Int->List (Int×List Int)->YsAq0->Option (As [.bool])) (high low:Int) (t61:List (Int×List Int)) (t62 t63:Int) (t109:Bool) (owner tx:Int) (l:List (Int×List Int)) (o:YsAq0):Option (As [.bool]):=q5d_ u2 high low t61 t62 t63 t109 owner tx l o
def q2k_ (high low owner:Int) (l:List (Int×List Int)) (o:YsAq0) (o_2:Int):Option (As [.bool]):=q5m_ high low owner l o o_2
def q1s_ (high low:Int) (t61:List (Int×List Int)) (t62 t63 owner tx:Int) (l:List (Int×List Int)) (o:YsAq0):Option (As [.bool]) :=
 loopF (fun (self:(Int)×(Int)×(List (Int×List Int))×(Int)×(Int)×(Int)×(Int)×(List (Int×List Int))×(YsAq0)->Option (As [.bool])) (s:(Int)×(Int)×(List (Int×List Int))×(Int)×(Int)×(Int)×(Int)×(List (Int×List Int))×(YsAq0))=>q2j_ (q3p_ (fun high low t61 t62 t63 owner tx l o=>self (high,low,t61,t62,t63,owner,tx,l,o))) (q2k_) (fun high low t61 t62 t63 owner tx l o=>self (high,low,t61,t62,t63,owner,tx,l,o)) s.1 s.2.1 s.2.2.1 s.2.2.2.1 s.2.2.2.2.1 s.2.2.2.2.2.1 s.2.2.2.2.2.2.1 s.2.2.2.2.2.2.2.1 s.2.2.2.2.2.2.2.2) 18446744073709551616 (high,low,t61,t62,t63,owner,tx,l,o)
def q42_ (ok t40:Bool) (owner tx:Int) (l:List (Int×List Int)) (s:YsAq0):Option (As [.bool]):=q5n_ (q1s_) ok t40 owner tx l s
def law21_SlaveStages (x:As [.int .u8,.sl (.int .u16),.int .u16,.int .u32,.sl YST1]):Option (As [.bool]):=q5g_ q42_ x.1 x.2.1 x.2.2.1 x.2.2.2.1 x.2.2.2.2.1
theorem qhe_ (J:Orc (As [.bool])) (w2:St->Option (As [.bool])) (high low:Int) (t61:List (Int×List Int)) (t62 t63:Int) (t109:Bool) (owner tx:Int) (l:List (Int×List Int)) (o:YsAq0):pfn Tryz.prog qg_ 6 18446744073709551616 (Ev.get qf_) 3 q0_ J 2094287 [w2] (q5k_ high low t61 t62 t63 t109 owner tx l o)=q5d_ (fun high low t61 t62 t63 owner tx l o=>w2 (q11_ high low t61 t62 t63 owner tx l o)) high low t61 t62 t63 t109 owner tx l o:=by kernel_rfl
theorem qhg_ (J:Orc (As [.bool])) (high low owner:Int) (l:List (Int×List Int)) (o:YsAq0) (o_2:Int):pfn Tryz.prog qg_ 6 18446744073709551616 (Ev.get qf_) 3 q0_ J 511 [] (q5j_ high low owner l o o_2)=q5m_ high low owner l o o_2:=by kernel_rfl
theorem qhh_ (J:Orc (As [.bool])) (w2:St->Option (As [.bool])) (high low:Int) (t61:List (Int×List Int)) (t62 t63 owner tx:Int) (l:List (Int×List Int)) (o:YsAq0):pfn Tryz.prog qg_ 6 18446744073709551616 (Ev.get qf_) 3 q0_ J 4090 [w2] (q11_ high low t61 t62 t63 owner tx l o)=q2j_ (fun high low t61 t62 t63 t109 owner tx l o=>J 2094287 [w2] (q5k_ high low t61 t62 t63 t109 owner tx l o)) (fun high low owner l o o_2=>J 511 [] (q5j_ high low owner l o o_2)) (fun high low t61 t62 t63 owner tx l o=>w2 (q11_ high low t61 t62 t63 owner tx l o)) high low t61 t62 t63 owner tx l o:=by kernel_rfl
theorem qhd_ (J:Orc (As [.bool])) (ok t40:Bool) (owner tx:Int) (l:List (Int×List Int)) (s:YsAq0):pfn Tryz.prog qg_ 6 18446744073709551616 (Ev.get qf_) 3 q0_ J 14 [] (q5c_ ok t40 owner tx l s)=q5n_ (fun high low t61 t62 t63 owner tx l o=>J 4090 [] (q11_ high low t61 t62 t63 owner tx l o)) ok t40 owner tx l s:=by kernel_rfl
theorem qhk_ (J:Orc (As [.bool])) (x:As [.int .u8,.sl (.int .u16),.int .u16,.int .u32,.sl YST1]):rfn Tryz.prog qg_ 6 18446744073709551616 (Ev.get qf_) 3 q0_ J x=q5g_ (fun ok t40 owner tx l s=>J 14 [] (q5c_ ok t40 owner tx l s)) x.1 x.2.1 x.2.2.1 x.2.2.2.1 x.2.2.2.2.1:=by kernel_rfl
theorem qhj_ (w2:St->Option (As [.bool])) (high low:Int) (t61:List (Int×List Int)) (t62 t63:Int) (t109:Bool) (owner tx:Int) (l:List (Int×List Int)) (o:YsAq0):jfn Tryz.prog qg_ 6 18446744073709551616 (Ev.get qf_) 3 q0_ 2094287 [w2] (q5k_ high low t61 t62 t63 t109 owner tx l o)=q3p_ (fun high low t61 t62 t63 owner tx l o=>w2 (q11_ high low t61 t62 t63 owner tx l o)) high low t61 t62 t63 t109 owner tx l o:=by
 rw [pfn_eq (by decide)]
 rw [qhe_]
 rfl
theorem qhw_ (high low owner:Int) (l:List (Int×List Int)) (o:YsAq0) (o_2:Int):jfn Tryz.prog qg_ 6 18446744073709551616 (Ev.get qf_) 3 q0_ 511 [] (q5j_ high low owner l o o_2)=q2k_ high low owner l o o_2:=by
 rw [pfn_eq (by decide)]
 rw [qhg_]
 rfl
theorem qhr_ (high low:Int) (t61:List (Int×List Int)) (t62 t63 owner tx:Int) (l:List (Int×List Int)) (o:YsAq0):jfn Tryz.prog qg_ 6 18446744073709551616 (Ev.get qf_) 3 q0_ 4090 [] (q11_ high low t61 t62 t63 owner tx l o)=q1s_ high low t61 t62 t63 owner tx l o:=by
 rw [pfn_eq (by decide)]
 rw [pfn_loop (by kernel_rfl)]
 refine loopF_sim (σ:=(Int)×(Int)×(List (Int×List Int))×(Int)×(Int)×(Int)×(Int)×(List (Int×List Int))×(YsAq0)) (mk:=fun s=>q11_ s.1 s.2.1 s.2.2.1 s.2.2.2.1 s.2.2.2.2.1 s.2.2.2.2.2.1 s.2.2.2.2.2.2.1 s.2.2.2.2.2.2.2.1 s.2.2.2.2.2.2.2.2) (fun w2 s=>?_) 18446744073709551616 (high,low,t61,t62,t63,owner,tx,l,o)
 have e3:(fun high low t61 t62 t63 t109 owner tx l o=>(jfn Tryz.prog qg_ 6 18446744073709551616 (Ev.get qf_) 3 q0_) 2094287 [w2] (q5k_ high low t61 t62 t63 t109 owner tx l o))=q3p_ (fun high low t61 t62 t63 owner tx l o=>w2 (q11_ high low t61 t62 t63 owner tx l o)):=by funext high low t61 t62 t63 t109 owner tx l o; exact qhj_ w2 high low t61 t62 t63 t109 owner tx l o
 have e4:(fun high low owner l o o_2=>(jfn Tryz.prog qg_ 6 18446744073709551616 (Ev.get qf_) 3 q0_) 511 [] (q5j_ high low owner l o o_2))=q2k_:=by funext high low owner l o o_2; exact qhw_ high low owner l o o_2
 refine (qhh_ _ w2 s.1 s.2.1 s.2.2.1 s.2.2.2.1 s.2.2.2.2.1 s.2.2.2.2.2.1 s.2.2.2.2.2.2.1 s.2.2.2.2.2.2.2.1 s.2.2.2.2.2.2.2.2).trans ?_
 rw [e3,e4]
theorem qht_ (ok t40:Bool) (owner tx:Int) (l:List (Int×List Int)) (s:YsAq0):jfn Tryz.prog qg_ 6 18446744073709551616 (Ev.get qf_) 3 q0_ 14 [] (q5c_ ok t40 owner tx l s)=q42_ ok t40 owner tx l s:=by
 rw [pfn_eq (by decide)]
 have e2:(fun high low t61 t62 t63 owner tx l o=>(jfn Tryz.prog qg_ 6 18446744073709551616 (Ev.get qf_) 3 q0_) 4090 [] (q11_ high low t61 t62 t63 owner tx l o))=q1s_:=by funext high low t61 t62 t63 owner tx l o; exact qhr_ high low t61 t62 t63 owner tx l o
 rw [qhd_,e2]
 rfl
theorem qis_ (x:As [.int .u8,.sl (.int .u16),.int .u16,.int .u32,.sl YST1]):evT Tryz.prog qg_ 6 18446744073709551616 (Ev.get qf_) 3 q0_ x=law21_SlaveStages x:=by
 have e1:(fun ok t40 owner tx l s=>(jfn Tryz.prog qg_ 6 18446744073709551616 (Ev.get qf_) 3 q0_) 14 [] (q5c_ ok t40 owner tx l s))=q42_:=by funext ok t40 owner tx l s; exact qht_ ok t40 owner tx l s
 rw [rfn_eq,qhk_,e1]
 rfl
theorem qhl_:CtOk Tryz.prog (fun _=>True) 3 ⟨q0_,law21_SlaveStages⟩:=ct_of_ev (env_cons Ev.bx_ok (env_cons qlw_ (env_cons qlp_ (env_cons low_Fit_ok (env_cons qfo_ (env_cons agent_Words_ok (env_cons stage_Sum_ok (env_cons low_Words_ok (env_cons stage_Words_ok env_nil))))))))) qis_
end Go.Proofs.Lx
end
section
namespace Go.Proofs.Lx
open Go Ev Sx Pl
set_option maxRecDepth 100000
theorem mkS_eq {s:TSl} (h:OkS s):(s.1,s.2.1,mkAg s.2.2.1,s.2.2.2)=s:=by rw [mkAg_eq h.a.hl h.a.sl]
theorem z1_eq {s:TSl} (h:OkS s) {a:TA} (ha:OkA a) (hr:rightA a=true):law21_SlaveStages_z1 (a,pkS s)=some ((servS s a).2,eqi (servS s a).2.2.1 0,pkS (servS s a).1):=by
 have rp:=servS_rep h ha hr
 have ok:=servS_ok h ha hr
 have e:law21_SlaveStages_z1 (a,pkS s)=Option.bind (ask_Bytes (a,())) fun y=>Option.bind (slave_Serve ((s.1,s.2.1,mkAg s.2.2.1,s.2.2.2),y.1,())) fun y_1=>Option.bind (reply_Parse (y_1.2.1,())) fun y_2=>if eqi y.2.1 0=true then if eqi y_2.2.1 0=true then Option.bind (reply_Fits (a,y_2.1,())) fun y=>if y.1=true then some (y_2.1,eqi y_2.1.2.1 0,pkS (y_1.1.1,y_1.1.2.1,mkAg y_1.1.2.2.1,y_1.1.2.2.2)) else some (y_2.1,false,pkS (y_1.1.1,y_1.1.2.1,mkAg y_1.1.2.2.1,y_1.1.2.2.2)) else some (y_2.1,false,pkS (y_1.1.1,y_1.1.2.1,mkAg y_1.1.2.2.1,y_1.1.2.2.2)) else some (y_2.1,false,pkS (y_1.1.1,y_1.1.2.1,mkAg y_1.1.2.2.1,y_1.1.2.2.2)):=rfl
 rw [e,abytes_eq ha hr,Option.bind_some,mkS_eq h,serve_ask h ha hr,Option.bind_some,rep_parse rp,Option.bind_some,if_pos (by rfl),if_pos (by rfl),fits_eq ha (rep_sm rp),fits_serv h ha hr,Option.bind_some,if_pos rfl]
 dsimp only
 rw [mkS_eq ok]
def hvK (k:Nat):List Bool:=List.replicate k true++List.replicate (8 - k) false
def bsK (L:List TBlk) (k:Nat):List TBlk:=L.take k++List.replicate (8 - k) zB
def agK (bank:List Int) (o tx tk:Int) (L:List TBlk) (k:Nat):TAg:=(bank,(o,tk),1,tx,0,(tx,hvK k,bsK L k),tk)
theorem hvK_len {k:Nat} (h:k≤8):(hvK k).length=8:=by simp [hvK]; omega
theorem bsK_len {L:List TBlk} {k:Nat} (h:k≤8) (hL:k≤L.length):(bsK L k).length=8:=by simp [bsK]; omega
theorem hvK_set {k:Nat} (h:k < 8):(hvK k).set k true=hvK (k + 1):=by
 have:∀ k:Fin 8,(hvK k.1).set k.1 true=hvK (k.1 + 1):=by decide
 exact this ⟨k,h⟩
theorem bsK_set {L:List TBlk} {k:Nat} {x:TBlk} (h:k < 8) (hx:L[k]? = some x):(bsK L k).set k x=bsK L (k + 1):=by
 have hk:=(List.getElem?_eq_some_iff.1 hx).1
 unfold bsK
 have lp:(L.take k).length=k:=by rw [List.length_take]; omega
 have er:List.replicate (8 - k) zB=zB::List.replicate (8 - (k + 1)) zB:=by
  rw [show 8 - k=(8 - (k + 1)) + 1 by omega]
  rfl
 have:=set_at (L.take k) zB x (List.replicate (8 - (k + 1)) zB)
 rw [lp] at this
 rw [er,this,List.take_add_one,hx,List.append_assoc]
 rfl
theorem blkS_app:∀ {h1 h2:List Bool} {b1 b2:List TBlk},h1.length=b1.length->blkS (h1++h2) (b1++b2)=blkS h1 b1++blkS h2 b2:=by
 intro h1 h2 b1 b2 h
 unfold blkS
 rw [List.zip_append h,List.filter_append,List.map_append]
theorem blkS_true:∀ (l:List TBlk),blkS (List.replicate l.length true) l=l
 | []=>rfl
 | x::r=>by
  have:=blkS_true r
  unfold blkS at this ⊢
  rw [List.length_cons,List.replicate_succ,List.zip_cons_cons,List.filter_cons,if_pos rfl,List.map_cons,this]
theorem blkS_false:∀ (n m:Nat),blkS (List.replicate n false) (List.replicate m zB)=[]
 | 0,_=>by simp [blkS]
 | n + 1,0=>by simp [blkS]
 | n + 1,m + 1=>by
  have:=blkS_false n m
  unfold blkS at this ⊢
  rw [List.replicate_succ,List.replicate_succ,List.zip_cons_cons,List.filter_cons,if_neg (by decide),this]
theorem blkS_K {L:List TBlk} {k:Nat} (hL:k≤L.length):blkS (hvK k) (bsK L k)=L.take k:=by
 have lp:(L.take k).length=k:=by rw [List.length_take]; omega
 unfold hvK bsK
 rw [blkS_app (by rw [List.length_replicate,lp]),blkS_false,List.append_nil]
 have:=blkS_true (L.take k)
 rw [lp] at this
 exact this
theorem nzB_app {h1 h2:List Bool} {b1 b2:List TBlk} (h:h1.length=b1.length):nzB (h1++h2) (b1++b2)=nzB h1 b1++nzB h2 b2:=by
 unfold nzB
 exact List.zipWith_append h
theorem nzB_true:∀ (l:List TBlk),nzB (List.replicate l.length true) l=l
 | []=>rfl
 | x::r=>by
  have:=nzB_true r
  unfold nzB at this ⊢
  rw [List.length_cons,List.replicate_succ,List.zipWith_cons_cons,if_pos rfl,this]
theorem nzB_false:∀ (n:Nat),nzB (List.replicate n false) (List.replicate n zB)=List.replicate n zB
 | 0=>rfl
 | n + 1=>by
  have:=nzB_false n
  unfold nzB at this ⊢
  rw [List.replicate_succ,List.replicate_succ,List.zipWith_cons_cons,if_neg (by decide),this]
theorem nzB_K {L:List TBlk} {k:Nat} (hL:k≤L.length):nzB (hvK k) (bsK L k)=bsK L k:=by
 have lp:(L.take k).length=k:=by rw [List.length_take]; omega
 unfold hvK bsK
 rw [nzB_app (by rw [List.length_replicate,lp]),nzB_false]
 have:=nzB_true (L.take k)
 rw [lp] at this
 rw [this]
theorem hvK_count {k:Nat} (h:k≤8):(hvK k).count true=k:=by
 have:∀ k:Fin 9,(hvK k.1).count true=k.1:=by decide
 exact this ⟨k,by omega⟩
theorem hvK_first {k:Nat} (h:k≤8):firstN (hvK k) (k:Int)=true:=by
 have:∀ k:Fin 9,firstN (hvK k.1) (k.1:Int)=true:=by decide
 exact this ⟨k,by omega⟩
section
variable {bank:List Int} {o tx tk:Int} {L:List TBlk} (hb:bank.length=64) (hbr:∀ x ∈ bank,0≤x∧x≤65535) (ho:1≤o∧o≤65535) (ht:1≤tx∧tx≤4294967295) (hk:1≤tk∧tk≤9223372036854775807)
 (hL:L.length≤8) (hf:∀ x ∈ L,fitsB x=true) (hw:∀ x ∈ L,∀ w ∈ x.2,0≤w∧w≤65535)
include hb hbr ho ht hk hL hf hw
theorem bsK_mem {k:Nat} {P:TBlk->Prop} (hz:P zB) (hp:∀ x ∈ L,P x):∀ x ∈ bsK L k,P x:=by
 intro x hx
 rcases List.mem_append.1 hx with e | e
 ·exact hp x (List.mem_of_mem_take e)
 ·rw [List.eq_of_mem_replicate e]; exact hz
theorem agK_ok {k:Nat} (h:k≤L.length):OkG (agK bank o tx tk L k) where
 bl:=hb
 bw:=hbr
 lr:=Or.inr ⟨by show o ≠ 0; omega,Or.inl hk.1⟩
 l1:=⟨by show 0≤o; omega,ho.2⟩
 l2:=hk.2
 pr:=⟨by show (0:Int)≤1; decide,by show (1:Int)≤2; decide⟩
 tr:=⟨by show 0≤tx; omega,ht.2⟩
 ar:=⟨by show (0:Int)≤0; decide,by show (0:Int)≤4294967295; decide⟩
 kr:=hk
 hl:=hvK_len (by omega)
 sl:=bsK_len (by omega) h
 bb:=bsK_mem hb hbr ho ht hk hL hf hw (P:=fun b=>b.2.length≤1000) (by show 0≤1000; omega) (fun x hx=>by have:=of_decide_eq_true (hf x hx); omega)
 wb:=bsK_mem hb hbr ho ht hk hL hf hw (P:=fun b=>∀ w ∈ b.2,0≤w∧w≤65535) (by intro w hw; cases hw) hw
 fb:=fun b hb=>by
  have:b ∈ blkS (hvK k) (bsK L k):=hb
  rw [blkS_K h] at this
  exact hf b (List.mem_of_mem_take this)
 p0:=fun e=>absurd e (show (1:Int) ≠ 0 by decide)
 pn:=fun _=>⟨by show o ≠ 0; omega,by show 0 < tx; omega,rfl⟩
 p1:=fun _=>hk.1
 p2:=fun e=>absurd e (show (1:Int) ≠ 2 by decide)
theorem agK_own {k:Nat} (h:k≤L.length):ownA (agK bank o tx tk L k)=agK bank o tx tk L k:=by
 unfold ownA agK
 dsimp only
 rw [nzB_K h]
theorem agK_put {k:Nat} {x:TBlk} (hx:L[k]? = some x):putA (ownA (agK bank o tx tk L k)) o tx (k:Int) x=(agK bank o tx tk L (k + 1),0):=by
 have hk':=(List.getElem?_eq_some_iff.1 hx).1
 rw [agK_own hb hbr ho ht hk hL hf hw (by omega)]
 unfold putA agK
 dsimp only
 rw [if_neg (by omega),if_neg (by omega),if_neg (by simp)]
 have et:takeL (o,tk) o tk=(o,tk):=by
  unfold takeL
  split <;> rfl
 have es:putS (tx,hvK k,bsK L k) (Int.toNat (k:Int)) x=(tx,hvK (k + 1),bsK L (k + 1)):=by
  unfold putS
  dsimp only
  rw [Int.toNat_natCast,hvK_set (by omega),bsK_set (by omega) hx,nzB_K (by omega)]
 rw [et,es]
theorem zAg_claim {tk':Int} (h:tk'=tk) (n c:Int):doS (ownA (zAg bank tk')) (o,1,tx,n,c)=(agK bank o tx tk L 0,0):=by
 subst h
 show doS (bank,(0,0),0,0,0,(0,zSt.2.1,nzB zSt.2.1 zSt.2.2),tk') (o,1,tx,n,c)=_
 unfold doS
 dsimp only
 rw [if_neg (by omega),if_neg (by omega),if_pos rfl,if_neg (by omega),if_neg (by omega)]
 rfl
def agP (bank:List Int) (o tx tk:Int) (L:List TBlk):TAg:=(bank,(o,-1),2,tx,0,(tx,hvK L.length,bsK L L.length),tk)
theorem agK_prep:doS (ownA (agK bank o tx tk L L.length)) (o,2,tx,(L.length:Int),sumB L)=(agP bank o tx tk L,0):=by
 rw [agK_own hb hbr ho ht hk hL hf hw (Nat.le_refl _)]
 unfold doS
 have hwh:wholeA (agK bank o tx tk L L.length) (L.length:Int) (sumB L)=true:=by
  show (decide (0≤(L.length:Int)∧(L.length:Int)≤8) && (firstN (hvK L.length) (L.length:Int) && decide (sumB (blkS (hvK L.length) (bsK L L.length))=sumB L)))=true
  rw [blkS_K (Nat.le_refl _),List.take_length,hvK_first hL,decide_eq_true rfl,decide_eq_true (by omega)]
  rfl
 unfold agK at hwh ⊢
 dsimp only
 rw [if_neg (by omega),if_neg (by omega),if_neg (by decide),if_pos rfl,if_pos (Or.inr ⟨rfl,rfl,hwh⟩)]
 rfl
theorem agP_ok:OkG (agP bank o tx tk L):=by
 have h0:=agK_ok hb hbr ho ht hk hL hf hw (Nat.le_refl L.length)
 have h1:=h0.own.doS (c:=(o,2,tx,(L.length:Int),sumB L)) ⟨by show 0≤o; omega,ho.2⟩ ⟨by show 0≤tx; omega,ht.2⟩ ⟨by show (0:Int)≤(L.length:Int); omega,by show (L.length:Int)≤65535; omega⟩
 rw [agK_prep hb hbr ho ht hk hL hf hw] at h1
 exact h1
theorem agP_commit (n c:Int):doS (ownA (agP bank o tx tk L)) (o,3,tx,n,c)=(freeA (overB bank L,(o,-1),2,tx,tx,(tx,hvK L.length,bsK L L.length),tk),0):=by
 have e:ownA (agP bank o tx tk L)=agP bank o tx tk L:=by
  unfold ownA agP
  dsimp only
  rw [nzB_K (Nat.le_refl _)]
 rw [e]
 unfold doS agP
 dsimp only
 rw [if_neg (by omega),if_neg (by omega),if_neg (by decide),if_neg (by decide),if_pos rfl,if_neg (by omega),if_pos ⟨rfl,rfl⟩,blkS_K (Nat.le_refl _),List.take_length]
end
def cmdA (c:TCm):TA:=(23,256,8,272,[c.1,c.2.1,c.2.2.1 / 65536,c.2.2.1 % 65536,c.2.2.2.1,c.2.2.2.2 / 65536,c.2.2.2.2 % 65536,0],[])
structure OkC (c:TCm):Prop where
 o:0≤c.1∧c.1≤65535
 v:0≤c.2.1∧c.2.1≤255
 t:0≤c.2.2.1∧c.2.2.1≤4294967295
 n:0≤c.2.2.2.1∧c.2.2.2.1≤65535
 k:0≤c.2.2.2.2∧c.2.2.2.2≤4294967295
theorem cmdA_ok {c:TCm} (h:OkC c):OkA (cmdA c)∧rightA (cmdA c)=true∧chkS (cmdA c)=true:=by
 have h1:=h.o
 have h2:=h.v
 have h3:=h.t
 have h4:=h.n
 have h5:=h.k
 refine ⟨⟨(by decide:(0:Int)≤23),(by decide:(23:Int)≤255),(by decide:(0:Int)≤256),(by decide:(256:Int)≤65535),(by decide:(0:Int)≤8),(by decide:(8:Int)≤65535),(by decide:(0:Int)≤272),(by decide:(272:Int)≤65535),?_,(by decide:8≤100000),(by decide:0≤100000)⟩,rfl,?_⟩
 ·intro x hx
  simp only [cmdA,List.mem_cons,List.not_mem_nil,or_false] at hx
  rcases hx with e | e | e | e | e | e | e | e <;> omega
 ·show (rdH 256 8 && decide ((272:Int)=272∧8=8∨(272:Int)=288∧8=20))=true
  decide
theorem cmdA_read {c:TCm} (h:OkC c):readC (cmdA c).2.2.2.2.1=(c,0):=by
 have h2:=h.v
 have h3:=h.t
 have h5:=h.k
 obtain ⟨o,v,t,n,k⟩:=c
 show readC [o,v,t / 65536,t % 65536,n,k / 65536,k % 65536,0]=_
 unfold readC
 dsimp only at h2 h3 h5
 rw [if_neg (by simp; omega)]
 refine Prod.ext (Prod.ext rfl (Prod.ext rfl (Prod.ext ?_ (Prod.ext rfl ?_)))) rfl
 ·show 65536 * (t / 65536) + t % 65536=t
  omega
 ·show 65536 * (k / 65536) + k % 65536=k
  omega
theorem serv_cmd {s:TSl} (hs:OkS s) {c:TCm} (h:OkC c) {A:TAg} (hA:doS (ownA s.2.2.1) c=(A,0)) (ok:OkG A):servS s (cmdA c)=(setA s A,(23,0,[],statA A,0,0)):=by
 obtain ⟨_,_,h3⟩:=cmdA_ok h
 have hw:wroteS s.2.2.1 (atW (cmdA c)) (cmdA c).2.2.2.2.1=(A,0):=by
  show wroteS s.2.2.1 272 (cmdA c).2.2.2.2.1=_
  unfold wroteS
  rw [if_pos rfl,cmdA_read h,hA,if_neg (by simp),if_neg (by simp)]
 have hn:¬ ((cmdA c).1=5∨(cmdA c).1=15):=by
  show ¬ ((23:Int)=5∨(23:Int)=15)
  decide
 have hl:¬ (cmdA c).2.2.2.2.1.length=0:=by
  show ¬ (8=0)
  decide
 unfold servS
 rw [if_neg (by rw [h3]; decide),if_neg hn,if_neg hl,hw,if_neg (by simp)]
 refine congrArg (fun x=>(setA s A,x)) ?_
 show ((23:Int),(0:Int),([]:List Bool),((holdS A).drop 256).take 8,(0:Int),(0:Int))=_
 rw [hold_stat ok]
def blkA (w:List Int):TA:=(16,288,20,0,w,[])
theorem blkA_ok {w:List Int} (hl:w.length=20) (hr:∀ x ∈ w,0≤x∧x≤65535):OkA (blkA w)∧rightA (blkA w)=true∧chkS (blkA w)=true:=by
 refine ⟨⟨(by decide:(0:Int)≤16),(by decide:(16:Int)≤255),(by decide:(0:Int)≤288),(by decide:(288:Int)≤65535),(by decide:(0:Int)≤20),(by decide:(20:Int)≤65535),(by decide:(0:Int)≤0),(by decide:(0:Int)≤65535),hr,by show w.length≤100000; omega,(by decide:0≤100000)⟩,?_,?_⟩
 ·match w,hl with
  | [_,_,_,_,_,_,_,_,_,_,_,_,_,_,_,_,_,_,_,_],_=>rfl
 ·show decide ((288:Int)=272∧w.length=8∨(288:Int)=288∧w.length=20)=true
  rw [decide_eq_true_eq]
  exact Or.inr ⟨rfl,hl⟩
theorem serv_blk {s:TSl} (hs:OkS s) {o tx n:Int} {x:TBlk} (hf:fitsB x=true) (hn:0≤n∧n≤7) (hr:∀ y ∈ tagB o tx n x,0≤y∧y≤65535) {A:TAg} (hA:putA (ownA s.2.2.1) o tx n x=(A,0)) :
  servS s (blkA (tagB o tx n x))=(setA s A,(16,0,[],[],288,20)):=by
 obtain ⟨_,_,h3⟩:=blkA_ok tagB_len hr
 have hw:wroteS s.2.2.1 (atW (blkA (tagB o tx n x))) (blkA (tagB o tx n x)).2.2.2.2.1=(A,0):=by
  show wroteS s.2.2.1 288 (tagB o tx n x)=_
  unfold wroteS
  rw [if_neg (by decide),rdB_tag hf hn.2]
  dsimp only
  rw [hA,if_neg (by simp),if_neg (by simp)]
 have hl:¬ (blkA (tagB o tx n x)).2.2.2.2.1.length=0:=by
  show ¬ ((tagB o tx n x).length=0)
  rw [tagB_len]
  decide
 unfold servS
 rw [if_neg (by rw [h3]; decide),if_neg (show ¬ ((blkA (tagB o tx n x)).1=5∨(blkA (tagB o tx n x)).1=15) from (by decide:¬ ((16:Int)=5∨(16:Int)=15))),if_neg hl,hw,if_neg (by simp)]
 rfl
def rdQ (p n:Int):TA:=(3,p,n,0,[],[])
theorem rdQ_ok {p n:Int} (hp:0≤p∧p≤65535) (hn:1≤n∧n≤125):OkA (rdQ p n)∧rightA (rdQ p n)=true:=by
 refine ⟨⟨(by decide:(0:Int)≤3),(by decide:(3:Int)≤255),hp.1,hp.2,by show 0≤n; omega,by show n≤65535; omega,(by decide:(0:Int)≤0),(by decide:(0:Int)≤65535),nilW,(by decide:0≤100000),(by decide:0≤100000)⟩,?_⟩
 show rightS (3,p,n,0,[],[]) (125,0,0,false,false)=true
 unfold rightS
 dsimp only
 have e:withinV n 125=true:=by
  unfold withinV
  rw [if_neg (by decide),if_pos (ge_iff.2 hn.1),le_iff.2 hn.2]
 rw [e]
 rfl
theorem serv_rd (s:TSl) {p n:Int} (hc:rdH p n.toNat=true):servS s (rdQ p n)=(s,(3,0,[],((holdS s.2.2.1).drop p.toNat).take n.toNat,0,0)):=by
 have h3:chkS (rdQ p n)=true:=hc
 unfold servS
 rw [if_neg (by rw [h3]; decide),if_neg (show ¬ ((rdQ p n).1=5∨(rdQ p n).1=15) from (by decide:¬ ((3:Int)=5∨(3:Int)=15))),if_pos (by rfl)]
 rfl
theorem rdH_back {i:Nat} (hi:i < 8):rdH (512 + (i:Int) * 32) 20=true:=by
 have:∀ i:Fin 8,rdH (512 + (i.1:Int) * 32) 20=true:=by decide
 exact this ⟨i,hi⟩
def fitB (x:TBlk):TBlk:=(x.1 % 64,x.2.take (min (min x.2.length 14) (64 - x.1 % 64).toNat))
def fitL (l:List TBlk):List TBlk:=(l.take 8).map fitB
theorem fitB_fits (x:TBlk):fitsB (fitB x)=true:=by
 unfold fitsB fitB
 rw [decide_eq_true_eq]
 dsimp only
 rw [List.length_take]
 omega
theorem lfit_eq {l:List TBlk}:low_Fit (l,8,())=some (fitL l,()):=by
 show low_Fit_m0 low_Fit_K1 l 8=_
 unfold low_Fit_m0 fitL
 have hc:cut l 0 (if lt 8 (Int.ofNat l.length)=true then 8 else Int.ofNat l.length)=some (l.take 8):=by
  by_cases h:8 < l.length
  ·rw [if_pos (by rw [lt_iff,ofNat_eq]; omega)]
   exact cut_to (j:=8) (by omega)
  ·rw [if_neg (by rw [lt_iff,ofNat_eq]; omega),ofNat_eq,cut_to (Nat.le_refl _),List.take_of_length_le (Nat.le_refl _),List.take_of_length_le (by omega)]
 rw [hc,Option.bind_some]
 have h8:(l.take 8).length≤8:=by rw [List.length_take]; omega
 generalize l.take 8=m at h8
 show low_Fit_K1 m (Int.ofNat m.length) 0 ((m.take 0).map fitB)=_
 unfold low_Fit_K1
 refine loop_dt (N:=m.length) (mk:=fun i=>(m,Int.ofNat m.length,(i:Int),(m.take i).map fitB)) ?_ ?_ m.length 0 _ (by omega) (by omega)
 ·intro self i hi
  show low_Fit_m1 (low_Fit_K2 _) _ m (Int.ofNat m.length) (i:Int) ((m.take i).map fitB)=self (m,Int.ofNat m.length,((i + 1:Nat):Int),(m.take (i + 1)).map fitB)
  obtain ⟨x,hx⟩:=get_of (xs:=m) (i:=i) hi
  have es:(m.take (i + 1)).map fitB=(m.take i).map fitB++[fitB x]:=by rw [List.take_add_one,hx,List.map_append]; rfl
  have hlen:((m.take i).map fitB).length≤8:=by rw [List.length_map,List.length_take]; omega
  rw [es]
  unfold low_Fit_m1
  rw [if_pos (by rw [lt_iff,ofNat_eq]; omega),at_get hx,Option.bind_some]
  have K2:low_Fit_K2 (fun t14 t15 t16 out=>self (t14,t15,t16,out)) (x.1 % 64) m (Int.ofNat m.length) (i:Int) ((m.take i).map fitB) x=self (m,Int.ofNat m.length,((i + 1:Nat):Int),(m.take i).map fitB++[fitB x]):=by
   show low_Fit_m2 _ (x.1 % 64) m (Int.ofNat m.length) (i:Int) ((m.take i).map fitB) x=_
   unfold low_Fit_m2
   have e1:Sx.sub .i64 64 (x.1 % 64)=64 - x.1 % 64:=sub64 (by omega) (by omega)
   have hc2:cut x.2 0 (if lt (Sx.sub .i64 64 (x.1 % 64)) (if lt 14 (Int.ofNat x.2.length)=true then 14 else Int.ofNat x.2.length)=true then Sx.sub .i64 64 (x.1 % 64) else if lt 14 (Int.ofNat x.2.length)=true then 14 else Int.ofNat x.2.length)=some (fitB x).2:=by
    rw [e1]
    have e2:(if lt (64 - x.1 % 64) (if lt 14 (Int.ofNat x.2.length)=true then 14 else Int.ofNat x.2.length)=true then 64 - x.1 % 64 else if lt 14 (Int.ofNat x.2.length)=true then 14 else Int.ofNat x.2.length)=((min (min x.2.length 14) (64 - x.1 % 64).toNat:Nat):Int):=by
     simp only [lt_dec,ofNat_eq,decide_eq_true_eq]
     split <;> split <;> omega
    rw [e2,cut_to (by omega)]
    rfl
   rw [hc2,Option.bind_some]
   have h14:(fitB x).2.length≤14:=by
    show (x.2.take _).length≤14
    rw [List.length_take]
    omega
   rw [need_small (by omega),need_small (by show _ + 1≤_; omega),succ64 (by omega)]
   rfl
  have er:rem x.1 64=x.1 % 64∨(rem x.1 64 < 0∧rem x.1 64 + 64=x.1 % 64):=by
   unfold rem
   have:=Int.tmod_eq_emod (a:=x.1) (b:=64)
   rw [this]
   split <;> omega
  by_cases hneg:rem x.1 64 < 0
  ·rw [if_pos (lt_iff.2 hneg)]
   have h2:rem x.1 64 + 64=x.1 % 64:=by
    rcases er with e | e
    ·have:=Int.emod_nonneg x.1 (show (64:Int) ≠ 0 by decide); omega
    ·exact e.2
   rw [add64 (by omega) (by omega),h2]
   exact K2
  ·rw [if_neg (fun e=>hneg (lt_iff.1 e))]
   have h2:rem x.1 64=x.1 % 64:=by
    rcases er with e | e
    ·exact e
    ·exact absurd e.1 hneg
   rw [h2]
   exact K2
 ·intro self
  show low_Fit_m1 (low_Fit_K2 _) _ m (Int.ofNat m.length) (m.length:Int) _=_
  unfold low_Fit_m1
  rw [if_neg (by rw [lt_iff,ofNat_eq]; omega),List.take_of_length_le (Nat.le_refl _)]
theorem fitL_len (l:List TBlk):(fitL l).length≤8:=by
 unfold fitL
 rw [List.length_map,List.length_take]
 omega
theorem fitL_fits {l:List TBlk}:∀ x ∈ fitL l,fitsB x=true:=fun x hx=>by
 obtain ⟨y,_,rfl⟩:=List.mem_map.1 hx
 exact fitB_fits y
theorem fitL_rng {l:List TBlk} (h:∀ x ∈ l,∀ w ∈ x.2,0≤w∧w≤65535):∀ x ∈ fitL l,∀ w ∈ x.2,0≤w∧w≤65535:=fun x hx w hw=>by
 obtain ⟨y,hy,rfl⟩:=List.mem_map.1 hx
 exact h y (List.mem_of_mem_take hy) w (List.mem_of_mem_take hw)
theorem tag_rng {o tx n:Int} {x:TBlk} (ho:0≤o∧o≤65535) (ht:0≤tx∧tx≤4294967295) (hn:0≤n∧n≤7) (hw:∀ w ∈ x.2,0≤w∧w≤65535):∀ y ∈ tagB o tx n x,0≤y∧y≤65535:=by
 intro y hy
 unfold tagB at hy
 rcases List.mem_cons.1 hy with e | hy
 ·omega
 ·rcases List.mem_cons.1 hy with e | hy
  ·omega
  ·rcases List.mem_cons.1 hy with e | hy
   ·omega
   ·rcases List.mem_cons.1 hy with e | hy
    ·omega
    ·exact itB_rng (fun _=>hw) y hy
theorem back_K {bank:List Int} {o tx tk:Int} {L:List TBlk} {k:Nat} {x:TBlk} (hx:L[k]? = some x) (hL:L.length≤8):backS (agK bank o tx tk L (k + 1)).2.2.2.2.2.1 o (k:Int)=tagB o tx (k:Int) x:=by
 have hk:=(List.getElem?_eq_some_iff.1 hx).1
 have h1:(hvK (k + 1))[k]? = some true:=by
  have:∀ k:Fin 8,(hvK (k.1 + 1))[k.1]? = some true:=by decide
  exact this ⟨k,by omega⟩
 have h2:(bsK L (k + 1))[k]? = some x:=by
  unfold bsK
  rw [List.getElem?_append_left (by rw [List.length_take]; omega),List.getElem?_take_of_lt (by omega),hx]
 show backS (tx,hvK (k + 1),bsK L (k + 1)) o (k:Int)=_
 unfold backS
 dsimp only
 rw [Int.toNat_natCast,h1,h2]
set_option maxHeartbeats 4000000 in
theorem stages_law {link:Int} {b:List Int} {o tx:Int} {l:List TBlk} (hl0:0≤link) (hb:∀ x ∈ b,0≤x∧x≤65535) (ho:0≤o∧o≤65535) (ht:0≤tx∧tx≤4294967295) (hw:∀ x ∈ l,∀ w ∈ x.2,0≤w∧w≤65535) :
  law21_SlaveStages (link,b,o,tx,l,())=some (true,()):=by
 show q5g_ q42_ link b o tx l=_
 unfold q5g_
 rw [begun_eq hl0 (by decide),Option.bind_some,if_neg (show ¬ (!(begS link b 9,true,()).2.1)=true from fun e=>Bool.false_ne_true e)]
 have K1t:q42_ true true o tx l (begS link b 9)=some (true,()):=by
  show Option.bind (law21_awake ()) _=_
  rw [awake21]
  rfl
 dsimp only
 by_cases ho0:o=0
 ·rw [if_pos (eqi_iff.2 ho0)]
  exact K1t
 ·rw [if_neg (fun e=>ho0 (eqi_iff.1 e))]
  by_cases ht0:tx=0
  ·rw [eqi_iff.2 ht0]
   exact K1t
  ·have hne:eqi tx 0=false:=by
    rw [Bool.eq_false_iff]
    exact fun e=>ht0 (eqi_iff.1 e)
   rw [hne]
   have ok0:=begS_ok (link:=link) (ticks:=9) hb
   have hL:=fitL_len l
   have hf:=fitL_fits (l:=l)
   have hwr:=fitL_rng hw
   have e1:=lfit_eq (l:=l)
   generalize fitL l=L at hL hf hwr e1
   have B1:=bank64_len b
   have B2:=bank64_rng hb
   have O1:1≤o∧o≤65535:=⟨by omega,ho.2⟩
   have T1:1≤tx∧tx≤4294967295:=⟨by omega,ht.2⟩
   have TK:(1:Int)≤10∧(10:Int)≤9223372036854775807:=⟨by decide,by decide⟩
   have hag:∀ k,k≤L.length->OkG (agK (bank64 b) o tx 10 L k):=fun k hk=>agK_ok B1 B2 O1 T1 TK hL hf hwr hk
   have hok:∀ k,k≤L.length->OkS (setA (begS link b 9) (agK (bank64 b) o tx 10 L k)):=fun k hk=>⟨ok0.u,ok0.l,hag k hk,ok0.c⟩
   have hsum:=ssum_eq (l:=L) (by omega) (fun x hx=>by have:=of_decide_eq_true (hf x hx); omega)
   have hsr:=sumW_rng (L.flatMap itB)
   have hcn:cvt .u16 (Int.ofNat L.length)=(L.length:Int):=by rw [ofNat_eq]; exact wu16 (by omega) (by omega)
   have hoc:∀ v:Int,0≤v∧v≤255->OkC (o,v,tx,(L.length:Int),sumB L):=fun v hv=>⟨ho,hv,ht,⟨by show (0:Int)≤(L.length:Int); omega,by show (L.length:Int)≤65535; omega⟩,hsr⟩
   have hwd:∀ v:Int,0≤v∧v≤255->agent_Words ((o,v,tx,(L.length:Int),sumB L),())=some ((cmdA (o,v,tx,(L.length:Int),sumB L)).2.2.2.2.1,()):=fun v hv=>awords_eq hv ht hsr
   have hhi:cvt .u16 (shr .u32 tx 16)=tx / 65536:=by rw [shr16]; exact wu16 (by omega) (by omega)
   have hlo:cvt .u16 tx=tx % 65536:=cvt16 tx
   have hz:∀ (v:Int) (hv:0≤v∧v≤255) (s:TSl) (hs:OkS s) (A:TAg),OkG A->doS (ownA s.2.2.1) (o,v,tx,(L.length:Int),sumB L)=(A,0)->law21_SlaveStages_z1 ((23,256,8,272,(cmdA (o,v,tx,(L.length:Int),sumB L)).2.2.2.2.1,[]),pkS s)=some ((23,0,[],statA A,0,0),true,pkS (setA s A)):=fun v hv s hs A hA hd=>by
    have h1:=cmdA_ok (hoc v hv)
    have:=z1_eq hs h1.1 h1.2.1
    rw [serv_cmd hs (hoc v hv) hd hA] at this
    exact this
   have hmk:∀ s:TSl,OkS s->(s.1,s.2.1,mkAg s.2.2.1,s.2.2.2)=s:=fun s hs=>mkS_eq hs
   have z1:=hz 1 ⟨by decide,by decide⟩ (begS link b 9) ok0 (agK (bank64 b) o tx 10 L 0) (hag 0 (Nat.zero_le _)) (zAg_claim B1 B2 O1 T1 TK hL hf hwr rfl _ _)
   have w1:=lwords_eq (a:=statA (agK (bank64 b) o tx 10 L 0)) (b:=[o,1,tx / 65536,tx % 65536,0,0,0,0]) (by show 8≤1000000; decide)
   have d1:decide (statA (agK (bank64 b) o tx 10 L 0)=[o,1,tx / 65536,tx % 65536,0,0,0,0])=true:=decide_eq_true rfl
   rw [d1] at w1
   have okP:=agP_ok B1 B2 O1 T1 TK hL hf hwr
   have z2:=hz 2 ⟨by decide,by decide⟩ _ (hok L.length (Nat.le_refl _)) (agP (bank64 b) o tx 10 L) okP (agK_prep B1 B2 O1 T1 TK hL hf hwr)
   have w2:=lwords_eq (a:=statA (agP (bank64 b) o tx 10 L)) (b:=[o,2,tx / 65536,tx % 65536,0,0,(L.length:Int),0]) (by show 8≤1000000; decide)
   have d2:decide (statA (agP (bank64 b) o tx 10 L)=[o,2,tx / 65536,tx % 65536,0,0,(L.length:Int),0])=true:=by
    apply decide_eq_true
    show [o,2,tx / 65536,tx % 65536,0,0,(((hvK L.length).count true:Nat):Int),0]=_
    rw [hvK_count hL]
   rw [d2] at w2
   have hcom:=agP_commit B1 B2 O1 T1 TK hL hf hwr (L.length:Int) (sumB L)
   have okC:OkG (freeA (overB (bank64 b) L,(o,-1),2,tx,tx,(tx,hvK L.length,bsK L L.length),10)):=by
    have:=okP.own.doS (c:=(o,3,tx,(L.length:Int),sumB L)) ho ht ⟨by show (0:Int)≤(L.length:Int); omega,by show (L.length:Int)≤65535; omega⟩
    rw [hcom] at this
    exact this
   have okS2:OkS (setA (setA (begS link b 9) (agK (bank64 b) o tx 10 L L.length)) (agP (bank64 b) o tx 10 L)):=⟨ok0.u,ok0.l,okP,ok0.c⟩
   have z3:=hz 3 ⟨by decide,by decide⟩ _ okS2 _ okC hcom
   have w3:=lwords_eq (a:=statA (freeA (overB (bank64 b) L,(o,-1),2,tx,tx,(tx,hvK L.length,bsK L L.length),10))) (b:=[0,0,0,0,tx / 65536,tx % 65536,0,0]) (by show 8≤1000000; decide)
   have d3:decide (statA (freeA (overB (bank64 b) L,(o,-1),2,tx,tx,(tx,hvK L.length,bsK L L.length),10))=[0,0,0,0,tx / 65536,tx % 65536,0,0])=true:=decide_eq_true rfl
   rw [d3] at w3
   have K4:q2k_ (tx / 65536) (tx % 65536) o L (setA (begS link b 9) (agK (bank64 b) o tx 10 L L.length)) tx=some (true,()):=by
    show q5m_ _ _ _ _ _ _=_
    generalize hs2:setA (begS link b 9) (agK (bank64 b) o tx 10 L L.length)=s2 at z2 z3 okS2
    generalize hs3:setA s2 (agP (bank64 b) o tx 10 L)=s3 at z2 z3 okS2
    unfold q5m_
    simp only [hsum,Option.bind_some,hcn,hwd 2 ⟨by decide,by decide⟩,hwd 3 ⟨by decide,by decide⟩,z2,z3,w2,w3,if_true,awake21,amb2 (eqAs_refl q0_.rs),amb3 (eqAs_refl q0_.rs)]
   have hloop:q1s_ (tx / 65536) (tx % 65536) L (Int.ofNat L.length) 0 o tx L (setA (begS link b 9) (agK (bank64 b) o tx 10 L 0))=some (true,()):=by
    unfold q1s_
    refine loop_dt (N:=L.length) (mk:=fun i=>(tx / 65536,tx % 65536,L,Int.ofNat L.length,(i:Int),o,tx,L,setA (begS link b 9) (agK (bank64 b) o tx 10 L i))) ?_ ?_ L.length 0 _ (by omega) (by omega)
    ·intro self i hi
     show q2j_ (q3p_ _) q2k_ _ (tx / 65536) (tx % 65536) L (Int.ofNat L.length) (i:Int) o tx L (setA (begS link b 9) (agK (bank64 b) o tx 10 L i))=_
     obtain ⟨x,hx⟩:=get_of (xs:=L) (i:=i) hi
     have hxm:=List.mem_of_getElem? hx
     have hfx:=hf x hxm
     have hn7:0≤(i:Int)∧(i:Int)≤7:=⟨by omega,by omega⟩
     have htr:=tag_rng (x:=x) ho ht hn7 (hwr x hxm)
     have sw:=swords_eq (o:=o) (tx:=tx) (n:=(i:Int)) (x:=x) ht.1 ht.2 (by have:=of_decide_eq_true hfx; omega)
     rw [if_pos hn7,if_pos hfx] at sw
     have oki:=hok i (by omega)
     have oki1:=hok (i + 1) (by omega)
     have hp:=agK_put B1 B2 O1 T1 TK hL hf hwr hx
     have za:=z1_eq oki (blkA_ok tagB_len htr).1 (blkA_ok tagB_len htr).2.1
     rw [serv_blk oki hfx hn7 htr hp] at za
     have hpos:0≤512 + (i:Int) * 32∧512 + (i:Int) * 32≤65535:=⟨by omega,by omega⟩
     have zb:=z1_eq oki1 (rdQ_ok (p:=512 + (i:Int) * 32) (n:=20) hpos ⟨by decide,by decide⟩).1 (rdQ_ok hpos ⟨by decide,by decide⟩).2
     rw [serv_rd _ (rdH_back (i:=i) (by omega))] at zb
     have hbk:List.take (Int.toNat 20) (List.drop (512 + (i:Int) * 32).toNat (holdS (agK (bank64 b) o tx 10 L (i + 1))))=tagB o tx (i:Int) x:=by
      have:=hold_back (hag (i + 1) (by omega)) (i:=i) (by omega)
      rw [show (512 + (i:Int) * 32).toNat=512 + i * 32 by omega]
      exact this.trans (back_K hx hL)
     have zb':law21_SlaveStages_z1 ((3,512 + (i:Int) * 32,20,0,[],[]),pkS (setA (begS link b 9) (agK (bank64 b) o tx 10 L (i + 1))))=some ((3,0,[],tagB o tx (i:Int) x,0,0),true,pkS (setA (begS link b 9) (agK (bank64 b) o tx 10 L (i + 1)))):=by
      refine zb.trans ?_
      rw [<- hbk]
      rfl
     have za':law21_SlaveStages_z1 ((16,288,20,0,tagB o tx (i:Int) x,[]),pkS (setA (begS link b 9) (agK (bank64 b) o tx 10 L i)))=some ((16,0,[],[],288,20),true,pkS (setA (begS link b 9) (agK (bank64 b) o tx 10 L (i + 1)))):=za
     have hadr:cvt .u16 (add .i64 512 (mul .i64 (i:Int) 32))=512 + (i:Int) * 32:=by
      rw [mul64 (by omega) (by omega),add64 (by omega) (by omega)]
      exact wu16 hpos.1 hpos.2
     have hlw:=lwords_eq (a:=tagB o tx (i:Int) x) (b:=tagB o tx (i:Int) x) (by rw [tagB_len]; omega)
     rw [decide_eq_true rfl] at hlw
     unfold q2j_
     rw [if_pos (by rw [lt_iff,ofNat_eq]; omega),at_get hx,Option.bind_some,sw,Option.bind_some]
     refine (congrArg (fun z=>Option.bind z _) za').trans ?_
     rw [Option.bind_some,hadr]
     refine (congrArg (fun z=>Option.bind z _) zb').trans ?_
     rw [Option.bind_some]
     dsimp only
     rw [if_neg (by decide),if_neg (by decide),if_neg (by decide),hlw,Option.bind_some]
     show q5d_ _ _ _ _ _ (i:Int) false o tx L ((setA (begS link b 9) (agK (bank64 b) o tx 10 L (i + 1))).1,(setA (begS link b 9) (agK (bank64 b) o tx 10 L (i + 1))).2.1,mkAg (setA (begS link b 9) (agK (bank64 b) o tx 10 L (i + 1))).2.2.1,(setA (begS link b 9) (agK (bank64 b) o tx 10 L (i + 1))).2.2.2)=_
     rw [hmk _ oki1]
     unfold q5d_
     rw [if_neg (by decide),succ64 (by omega)]
    ·intro self
     show q2j_ (q3p_ _) q2k_ _ (tx / 65536) (tx % 65536) L (Int.ofNat L.length) (L.length:Int) o tx L (setA (begS link b 9) (agK (bank64 b) o tx 10 L L.length))=_
     unfold q2j_
     rw [if_neg (by rw [lt_iff,ofNat_eq]; omega)]
     exact K4
   have hs1:=hok 0 (Nat.zero_le _)
   have hloop':q1s_ (tx / 65536) (tx % 65536) L (Int.ofNat L.length) 0 o tx L ((setA (begS link b 9) (agK (bank64 b) o tx 10 L 0)).1,(setA (begS link b 9) (agK (bank64 b) o tx 10 L 0)).2.1,mkAg (setA (begS link b 9) (agK (bank64 b) o tx 10 L 0)).2.2.1,(setA (begS link b 9) (agK (bank64 b) o tx 10 L 0)).2.2.2)=some (true,()):=by
    rw [hmk _ hs1]
    exact hloop
   show q5n_ q1s_ true false o tx l (begS link b 9)=_
   generalize begS link b 9=s0 at *
   generalize setA s0 (agK (bank64 b) o tx 10 L 0)=s1 at *
   unfold q5n_
   simp only [Bool.false_eq_true,if_false,e1,Option.bind_some,hsum,hcn,hwd 1 ⟨by decide,by decide⟩,z1,hhi,hlo,w1,if_true,Bool.not_true,hloop',amb2 (eqAs_refl q0_.rs),amb3 (eqAs_refl q0_.rs)]
theorem okw32 {x:Int} (h:(Lit.int .u32 x).wf=true):0≤x∧x≤4294967295:=by
 simp [Lit.wf] at h
 have e1:IntKind.u32.min=0:=rfl
 have e2:IntKind.u32.max=4294967295:=rfl
 omega
abbrev tBlk:Ty:=.pr (.int .i64) (.sl (.int .u16))
theorem stages_row (x:As [.int .u8,.sl (.int .u16),.int .u16,.int .u32,.sl tBlk]) (h:Rw.okA [.int .u8,.sl (.int .u16),.int .u16,.int .u32,.sl tBlk] x):law21_SlaveStages x=some (true,()) :=
 stages_law (link:=x.1) (b:=x.2.1) (o:=x.2.2.1) (tx:=x.2.2.2.1) (l:=x.2.2.2.2.1) (ok8 h.1).1 (fun y hy=>ok16 (h.2.1.2 y hy)) (ok16 h.2.2.1) (okw32 h.2.2.2.1) (fun y hy w hw=>ok16 ((h.2.2.2.2.1.2 y hy).2.2 w hw))
end Go.Proofs.Lx
end
