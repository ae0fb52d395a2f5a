/- Proved in the last of these 15 parts (this is part 12): TalkLate. Conditions: those of the given statement, and no others. -/
import Derived.Test.YtljkanofaahagaaGreatPartk
import Derived.Test.YtljkanofaahagaaGreatParte
set_option linter.unusedVariables false
set_option linter.unusedSimpArgs false
set_option linter.unusedSectionVars false
open Option renaming bind → zC, bind_some → zD
open List renaming replicate → zE, mem_cons_of_mem → zT, getElem?_eq_getElem → zV, getD_eq_getElem?_getD → zX, mem_of_getElem? → zY, length_append → zZ, length_take → kB, length_replicate → kD
open Int renaming ofNat → zF, eq_ofNat_of_zero_le → zN, toNat_natCast → zQ, tmod_eq_emod_of_nonneg → kC
open Bool renaming and_eq_true → zO
noncomputable section
namespace Go.Proofs.Lx
open Go Ev Sx Pl
set_option maxRecDepth 100000
def tcpV (unit tx:Int) (b:List Int):Option TR :=
 if (mbapP b).2 ≠ 0 then none else if (mbapP b).1.2.1 ≠ unit then none else if (mbapP b).1.1 ≠ tx then none else
 if (parseR (mbapP b).1.2.2).2 ≠ 0 then none else some (parseR (mbapP b).1.2.2).1
def echoV (a:TA):Option TR :=
 if a.1=5 then some (5,0,[a.2.2.2.2.2.headD false],[],a.2.1,0) else if a.1=6 then some (6,0,[],[a.2.2.2.2.1.headD 0],a.2.1,0) else
 if a.1=15∨a.1=16 then some (a.1,0,[],[],a.2.1,a.2.2.1) else none
theorem echo_eq {a:TA} (h:OkA a) (hr:qm_ a=true):q49_ (a,())=outF (echoV a):=by
 show q9t_ qec_ qkx_ a=_
 unfold q9t_
 rw [right_eq h,zD,hr]
 clear h
 have hra:=q1q_ hr
 clear hr
 cases hra with
 | bits f p n hf h1 h2=>rcases hf with rfl | rfl <;> rfl
 | words f p n hf h1 h2=>rcases hf with rfl | rfl <;> rfl
 | coil p b=>rfl
 | word p x=>rfl
 | coils p l h1 h2=>rfl
 | regs p l h1 h2=>rfl
 | swap p n t l h1 h2 h3 h4=>rfl
theorem goL_index (v:Bool):∀ (s:List Bool) (n:Nat),∃ k:Int,goL (R:=Int×Unit) (fun (_:Unit) (x:Bool×Nat) k=>if eqb v x.1=true then some ((x.2:Int),()) else k ()) (fun _=>some (-1,())) (s.zipIdx n) ()=some (k,())∧(0≤k ↔ v ∈ s)
 | [],n=>⟨-1,rfl,by simp⟩
 | a::r,n=>by
  rw [List.zipIdx_cons]
  obtain ⟨k,h1,h2⟩:=goL_index v r (n + 1)
  by_cases e:v=a
  ·refine ⟨(n:Int),?_,by simp [e]⟩
   show (if eqb v a=true then _ else _)=_
   rw [if_pos (eqb_iff.2 e)]
  ·refine ⟨k,?_,?_⟩
   ·show (if eqb v a=true then _ else _)=_
    rw [if_neg (fun h=>e (eqb_iff.1 h))]
    exact h1
   ·rw [h2]
    simp [e]
theorem contains_eq {s:List Bool} (v:Bool) (h:s.length≤1000000):q37_ (s,v,())=some (decide (v ∈ s),()):=by
 obtain ⟨k,h1,h2⟩:=goL_index v s 0
 have e:qa1_ (s,v,())=some (k,()):=by
  rw [<- h1]
  show q6t_ q4p_ s v=_
  unfold q6t_ q4p_
  have hz:(s.zipIdx 0).length=s.length:=by simp
  refine loop_go (xs:=s.zipIdx 0) (mk:=fun i _=>(s,v,zF s.length,(i:Int))) ?_ ?_ s.length 0 () _ (by rw [hz]; omega) (by omega)
  ·intro self i acc x hx
   have hi:=(List.getElem?_eq_some_iff.1 hx).1
   rw [hz] at hi
   have hx2:s[i]? = some x.1∧x.2=i:=by
    rw [List.getElem?_zipIdx] at hx
    obtain ⟨y,hy,rfl⟩:=Option.map_eq_some_iff.1 hx
    exact ⟨hy,by simp⟩
   show q36_ _ s v (zF s.length) (i:Int)=_
   unfold q36_
   rw [if_pos (by rw [q5_,q2_]; omega),qf_ hx2.1,zD,qv_ (by omega),hx2.2]
  ·intro self acc
   show q36_ _ s v (zF s.length) (((s.zipIdx 0).length:Nat):Int)=_
   unfold q36_
   rw [hz,if_neg (by rw [q5_,q2_]; omega)]
 show q8y_ s v=_
 unfold q8y_
 rw [e,zD]
 refine congrArg (fun x=>some (x,())) ?_
 rw [ge_dec]
 by_cases hv:v ∈ s
 ·rw [decide_eq_true hv,decide_eq_true (h2.2 hv)]
 ·rw [decide_eq_false hv,decide_eq_false (fun h=>hv (h2.1 h))]
def fitsV (a:TA) (r:TR):Bool :=
 qm_ a && (rightR r && (decide (a.1=r.1) && (if r.2.1 ≠ 0 then true else match echoV a with
  | some e=>decide (e=r)
  | none=>if 0 < r.2.2.1.length then decide ((r.2.2.1.length:Int)=(a.2.2.1 + 7) / 8 * 8) && !decide (true ∈ r.2.2.1.drop a.2.2.1.toNat) else decide ((r.2.2.2.1.length:Int)=a.2.2.1))))
theorem fits_K {a:TA} {r:TR} (h:OkA a) (hr:qm_ a=true) (hs:SmR r) (t:Bool):qe8_ t a.1 a.2.1 a.2.2.1 a.2.2.2.1 a.2.2.2.2.1 a.2.2.2.2.2 r.1 r.2.1 r.2.2.1 r.2.2.2.1 r.2.2.2.2.1 r.2.2.2.2.2 =
  some (!t && (if r.2.1 ≠ 0 then true else match echoV a with
  | some e=>decide (e=r)
  | none=>if 0 < r.2.2.1.length then decide ((r.2.2.1.length:Int)=(a.2.2.1 + 7) / 8 * 8) && !decide (true ∈ r.2.2.1.drop a.2.2.1.toNat) else decide ((r.2.2.2.1.length:Int)=a.2.2.1)),()):=by
 unfold qe8_ qv7_
 cases t with
 | true=>rfl
 | false =>
  rw [if_neg (by decide),Bool.not_false,Bool.true_and]
  by_cases h0:r.2.1=0
  ·rw [if_neg (by rw [qd_]; exact fun e=>e h0)]
   simp only [ne_eq,h0,not_true_eq_false,if_false]
   have he:q49_ ((a.1,a.2.1,a.2.2.1,a.2.2.2.1,a.2.2.2.2.1,a.2.2.2.2.2),())=outF (echoV a):=echo_eq h hr
   rw [he]
   cases hv:echoV a with
   | some e =>
    have hse:SmR e:=by
     unfold echoV at hv
     split at hv
     ·cases hv; exact ⟨by show 1≤100000; decide,by show 0≤100000; decide⟩
     ·split at hv
      ·cases hv; exact ⟨by show 0≤100000; decide,by show 1≤100000; decide⟩
      ·split at hv
       ·cases hv; exact ⟨by show 0≤100000; decide,by show 0≤100000; decide⟩
       ·cases hv
    have e2:=sameR_eq (b:=r) hse
    rw [<- h0]
    show zC (q59_ (e,r,())) _=_
    rw [e2]
    rfl
   | none =>
    have hm0:=h.m0
    have hm1:=h.m1
    have hb:=hs.b
    have hw:=hs.w
    show (if gt (zF r.2.2.1.length) 0=true then _ else _)=_
    by_cases hbl:0 < r.2.2.1.length
    ·rw [if_pos (by rw [q21_,q2_]; omega),if_pos hbl]
     obtain ⟨m,hm⟩:=zN hm0
     have e1:mul .i64 (quo .i64 (add .i64 (cvt .i64 a.2.2.1) 7) 8) 8=(a.2.2.1 + 7) / 8 * 8:=by
      rw [hm,cvt64 (by omega) (by omega),show (7:Int)=((7:Nat):Int) from rfl,addn64 (by omega)]
      have:=quo_nat (i:=m + 7) (d:=8) (by omega)
      rw [show (8:Int)=((8:Nat):Int) from rfl,this,mul64 (by omega) (by omega)]
      omega
     rw [e1]
     by_cases hq:(r.2.2.1.length:Int)=(a.2.2.1 + 7) / 8 * 8
     ·rw [if_pos (by rw [q4_,q2_]; exact hq),decide_eq_true hq,cvt64 (by omega) (by omega),hm,cut_from (by omega),zD,contains_eq true (by simp; omega),zD,zQ]
      rfl
     ·rw [if_neg (by rw [q4_,q2_]; exact hq),decide_eq_false hq]
      rfl
    ·rw [if_neg (by rw [q21_,q2_]; omega),if_neg hbl,cvt64 (by omega) (by omega)]
     refine congrArg (fun x=>some (x,())) ?_
     rw [q2_]
     rw [Bool.eq_iff_iff,q4_,decide_eq_true_eq]
  ·rw [if_pos (by rw [qd_]; exact h0),if_pos h0]
theorem fits_eq {a:TA} {r:TR} (h:OkA a) (hs:SmR r):qhj_ (a,r,())=some (fitsV a r,()):=by
 show qkf_ qe8_ a r=_
 unfold qkf_ fitsV
 rw [right_eq h,zD,rightR_eq hs,zD]
 cases hr:qm_ a with
 | false=>rfl
 | true =>
  rw [if_neg (by decide)]
  cases hq:rightR r with
  | false=>rfl
  | true =>
   rw [if_neg (by decide),fits_K h hr hs]
   refine congrArg (fun x=>some (x,())) ?_
   have e:(!nei a.1 r.1)=decide (a.1=r.1):=by
    rw [Bool.eq_iff_iff,Bool.not_eq_true',<- Bool.not_eq_true,qd_,decide_eq_true_eq]
    exact Decidable.not_not
   rw [e]
   rfl
theorem chkV_sm {b:List Int} {c:TR} {ok:Bool} {w:List Int} (h:SmR c):SmR (chkV b c ok w).1:=by
 unfold chkV
 split
 ·split
  ·exact h
  ·exact zR_sm
 ·exact zR_sm
theorem parseR_sm (b:List Int):SmR (parseR b).1:=by
 match b with
 | []=>exact zR_sm
 | [_]=>exact zR_sm
 | x::y::r =>
  show SmR (parseQ x y r).1
  unfold parseQ
  by_cases hl:251 < r.length
  ·rw [if_pos hl]; exact zR_sm
  ·rw [if_neg hl]
   have sb:SmR (bitC x r):=⟨by show (unpackS r).length≤_; rw [unpackS_len]; omega,by show 0≤100000; decide⟩
   have sw:SmR (wordC x r):=⟨by show 0≤100000; decide,by show (listS r).length≤_; rw [listS_len]; omega⟩
   have so:SmR (obC x (y::r)):=pairC_sm (fun p q=>⟨by show 1≤100000; decide,by show 0≤100000; decide⟩) _
   have su:SmR (owC x (y::r)):=pairC_sm (fun p q=>⟨by show 0≤100000; decide,by show 1≤100000; decide⟩) _
   have sc:SmR (ctC x (y::r)):=pairC_sm (fun p q=>⟨by show 0≤100000; decide,by show 0≤100000; decide⟩) _
   have se:SmR (exC x y):=⟨by show 0≤100000; decide,by show 0≤100000; decide⟩
   have step:∀ {c:Prop} [Decidable c] {A B:TR×Int},SmR A.1->SmR B.1->SmR (if c then A else B).1:=fun {c} _ {A B} h1 h2=>by
    by_cases hc:c
    ·rw [if_pos hc]; exact h1
    ·rw [if_neg hc]; exact h2
   exact step (step (chkV_sm sb) (step (chkV_sm sb) (step (chkV_sm sw) (step (chkV_sm sw) (step (chkV_sm sw) (step (chkV_sm so) (step (chkV_sm su) (step (chkV_sm sc) (step (chkV_sm sc) zR_sm))))))))) (chkV_sm se)
def findV (p:TP) (b:List Int):Option TR:=if p.2.1=2 then tcpV p.1 p.2.2.2.2.2.2.1 b else serV p.1 b
theorem findV_sm {p:TP} {b:List Int} {r:TR} (h:findV p b=some r):SmR r:=by
 unfold findV at h
 split at h
 ·unfold tcpV at h
  split at h
  ·cases h
  ·split at h
   ·cases h
   ·split at h
    ·cases h
    ·split at h
     ·cases h
     ·cases h; exact parseR_sm _
 ·unfold serV at h
  split at h
  ·cases h
  ·split at h
   ·cases h
   ·split at h
    ·cases h
    ·cases h; exact parseR_sm _
def takeV (p:TP) (b:List Int):Option TR:=if p.2.2.2.2.1=true then (findV p b).bind fun r=>if fitsV p.2.2.2.2.2.1 r=true then some r else none else none
def outT (p:TP):Option TR->Option (TP×TR×Bool×Unit)
 | some r=>some (dropP p,r,true,())
 | none=>some (p,zR,false,())
end Go.Proofs.Lx
end
noncomputable section
namespace Pl
open Go Ev Sx
theorem ok8 {x:Int} (h:(Lit.int .u8 x).wf=true):0≤x∧x≤255:=by
 simp [Lit.wf] at h
 have e1:IntKind.u8.min=0:=rfl
 have e2:IntKind.u8.max=255:=rfl
 omega
theorem ok16 {x:Int} (h:(Lit.int .u16 x).wf=true):0≤x∧x≤65535:=by
 simp [Lit.wf] at h
 have e1:IntKind.u16.min=0:=rfl
 have e2:IntKind.u16.max=65535:=rfl
 omega
end Pl
namespace Go.Proofs.Lx
open Go Ev Sx Pl
set_option maxRecDepth 100000
theorem zA_ok:OkA zA:=⟨by decide,by decide,by decide,by decide,by decide,by decide,by decide,by decide,by simp [zA],by decide,by decide⟩
theorem rangesV_ok {u l t r:Int} (h:rangesV u l t r=true):OkP (u,l,t,r,false,zA,0,0,0):=by
 have h:=of_decide_eq_true h
 exact ⟨h.1.1,h.1.2,h.2.1,h.2.2.1.1,h.2.2.1.2,h.2.2.2.1,h.2.2.2.2,zA_ok,by show (0:Int)≤0; decide,by show (0:Int)≤65535; decide⟩
end Go.Proofs.Lx
end
noncomputable section
namespace Pl
open Go Ev Sx
theorem listS_two (y z:Int) (r:List Int):listS (y::z::r)=numV y z::listS r:=by
 unfold listS
 have e:(y::z::r).length / 2=r.length / 2 + 1:=by grind
 rw [e,List.range_succ_eq_map,List.map_cons,List.map_map]
 congr 1
end Pl
namespace Go.Proofs.Lx
open Go Ev Sx Pl
set_option maxRecDepth 100000
theorem numV_two {x:Int} (h0:0≤x) (h1:x≤65535):numV (x / 256 % 256) (x % 256)=x:=by
 grind [numV_eq]
theorem listS_of_two {x:Int} (h0:0≤x) (h1:x≤65535) (r:List Int):listS (x / 256 % 256::x % 256::r)=x::listS r:=by rw [listS_two,numV_two h0 h1]
theorem listS_flat:∀ {l:List Int},(∀ x ∈ l,0≤x∧x≤65535)->listS (l.flatMap two)=l
 | [],_=>rfl
 | x::r,h=>by
  rw [List.flatMap_cons]
  show listS (x / 256 % 256::x % 256::r.flatMap two)=_
  have hx:=h x (by simp)
  rw [listS_of_two hx.1 hx.2,listS_flat fun y hy=>h y (zT _ hy)]
theorem byteV_256 {t:List Bool} (h:t.length≤8):0≤byteV t∧byteV t < 256:=by
 have h1:=byteV_rng t
 have h2:2 ^ t.length≤2 ^ 8:=Nat.pow_le_pow_right (by decide) h
 grind
theorem unpack_pack (l:List Bool):(unpackS (packS l)).take l.length=l:=by
 apply List.ext_getElem?
 intro i
 rw [List.getElem?_take]
 by_cases hi:i < l.length
 ·rw [if_pos hi]
  unfold unpackS
  have hm:i < 8 * (packS l).length:=by grind [q40_,packN]
  rw [List.getElem?_map,List.getElem?_range hm,Option.map_some]
  have hq:i / 8 < packN l.length:=by grind [packN]
  have e:(packS l).getD (i / 8) 0=byteV ((l.drop (8 * (i / 8))).take 8):=by
   simp_all [packS,zX,List.getElem?_map,List.getElem?_range]
  have hr:=byteV_256 (t:=(l.drop (8 * (i / 8))).take 8) (by grind)
  rw [e,bitV_eq hr.1 hr.2 (Nat.mod_lt _ (by decide)),byteV_bit]
  have e2:((l.drop (8 * (i / 8))).take 8).getD (i % 8) false=l[i]:=by
   grind
  simp_all
 grind
abbrev tup (p:TP):TP:=(p.1,p.2.1,p.2.2.1,p.2.2.2.1,p.2.2.2.2.1,(p.2.2.2.2.2.1.1,p.2.2.2.2.2.1.2.1,p.2.2.2.2.2.1.2.2.1,p.2.2.2.2.2.1.2.2.2.1,p.2.2.2.2.2.1.2.2.2.2.1,p.2.2.2.2.2.1.2.2.2.2.2),p.2.2.2.2.2.2.1,p.2.2.2.2.2.2.2.1,p.2.2.2.2.2.2.2.2)
theorem nextV_rng (l:Int) {x:Int} (h0:0≤x) (h1:x≤65535):0≤nextV l x∧nextV l x≤65535:=by
 grind [nextV]
theorem q1h_ (x:Int):∀ y ∈ two x,0≤y∧y≤255:=by
 intro y hy
 simp [two] at hy
 omega
theorem flat_bytes (l:List Int):∀ y ∈ l.flatMap two,0≤y∧y≤255:=by
 intro y hy
 obtain ⟨x,_,hx⟩:=List.mem_flatMap.1 hy
 exact q1h_ x y hx
theorem pack_bytes (l:List Bool):∀ y ∈ packS l,0≤y∧y≤255:=by
 intro y hy
 unfold packS at hy
 obtain ⟨j,_,rfl⟩:=List.mem_map.1 hy
 have:=byteV_256 (t:=(l.drop (8 * j)).take 8) (by grind)
 omega
theorem askB_bytes {a:TA} (h:RA a):∀ y ∈ askB a,0≤y∧y≤255:=by
 have app:∀ {l r:List Int},(∀ y ∈ l,0≤y∧y≤255)->(∀ y ∈ r,0≤y∧y≤255)->∀ y ∈ l++r,0≤y∧y≤255:=fun h1 h2 y hy=>by
  grind
 have con:∀ {x:Int} {r:List Int},(0≤x∧x≤255)->(∀ y ∈ r,0≤y∧y≤255)->∀ y ∈ x::r,0≤y∧y≤255:=fun h1 h2 y hy=>by
  grind
 have nil:∀ y ∈ ([]:List Int),0≤y∧y≤255:=fun y hy=>by cases hy
 cases h with
 | bits f p n hf h1 h2 =>
  rcases hf with rfl | rfl
  ·show ∀ y ∈ (1:Int)::two p++two n,0≤y∧y≤255
   grind [q1h_]
  ·show ∀ y ∈ (2:Int)::two p++two n,0≤y∧y≤255
   grind [q1h_]
 | words f p n hf h1 h2 =>
  rcases hf with rfl | rfl
  ·show ∀ y ∈ (3:Int)::two p++two n,0≤y∧y≤255
   grind [q1h_]
  ·show ∀ y ∈ (4:Int)::two p++two n,0≤y∧y≤255
   grind [q1h_]
 | coil p b =>
  show ∀ y ∈ (5:Int)::two p++two (if b=true then 65280 else 0),0≤y∧y≤255
  grind [q1h_]
 | word p x =>
  show ∀ y ∈ (6:Int)::two p++[x].flatMap two,0≤y∧y≤255
  grind [q1h_,flat_bytes]
 | coils p l h1 h2 =>
  show ∀ y ∈ (15:Int)::two p++two (l.length:Int)++[(packN l.length:Int)]++packS l,0≤y∧y≤255
  exact app (app (app (con (by decide) (q1h_ p)) (q1h_ _)) (con (by grind [packN]) nil)) (pack_bytes l)
 | regs p l h1 h2 =>
  show ∀ y ∈ (16:Int)::two p++two (l.length:Int)++[2 * (l.length:Int)]++l.flatMap two,0≤y∧y≤255
  grind [q1h_,flat_bytes]
 | swap p n t l h1 h2 h3 h4 =>
  show ∀ y ∈ (23:Int)::two p++two n++two t++two (l.length:Int)++[2 * (l.length:Int)]++l.flatMap two,0≤y∧y≤255
  exact app (app (app (app (app (con (by decide) (q1h_ p)) (q1h_ _)) (q1h_ _)) (q1h_ _)) (con (by omega) nil)) (flat_bytes l)
theorem q1op_ {tx unit:Int} {pdu:List Int} (h1:1≤pdu.length) (h2:pdu.length≤253) (ht:0≤tx) (ht2:tx≤65535) (hu:0≤unit) (hu2:unit≤255) (hb:∀ y ∈ pdu,0≤y∧y≤255):qa7_ (mbapV tx unit pdu,())=some ((tx,unit,pdu),0,()):=by
 have hall:∀ y ∈ mbapV tx unit pdu,0≤y∧y≤255:=by
  intro y hy
  unfold mbapV at hy
  grind
 rw [mparse_eq (by simp [mbapV]; omega) hall]
 have e:mbapP (mbapV tx unit pdu)=((tx,unit,pdu),0):=by
  show (if pdu=[] then _ else if beginsV 0 0 0 (((pdu.length + 1:Nat):Int) % 256)=true then if (pdu.length:Int) + 1=((pdu.length + 1:Nat):Int) % 256 then ((numV (tx / 256 % 256) (tx % 256),unit,pdu),0) else (zM,10) else (zM,10))=_
  have hne:¬ pdu=[]:=by grind
  have hbg:beginsV 0 0 0 (((pdu.length + 1:Nat):Int) % 256)=true:=by
   unfold beginsV
   have q1:lt (((pdu.length + 1:Nat):Int) % 256) 2=false:=by rw [<- Bool.not_eq_true,q5_]; omega
   have q2:gt (cvt .i64 (((pdu.length + 1:Nat):Int) % 256)) 254=false:=by rw [<- Bool.not_eq_true,q21_,cvt64 (by omega) (by omega)]; omega
   rw [q1,q2]
   rfl
  rw [if_neg hne,if_pos hbg,if_pos (by omega),numV_two ht ht2]
 rw [e]
theorem q1or_ {unit:Int} {pdu:List Int} (h1:1≤pdu.length) (h2:pdu.length≤253) (hu:1≤unit) (hu2:unit≤247):qgq_ (putV (unit::pdu),())=some (unit,pdu,0,()):=by
 rw [rtup_eq]
 have hs:=sumV_rng (unit::pdu)
 have hc:cutV (putV (unit::pdu))=(unit::pdu,0):=by
  unfold cutV
  have hl:=putV_len (unit::pdu)
  have e0:(putV (unit::pdu)).length - 2=(unit::pdu).length:=by omega
  have et:(putV (unit::pdu)).take (unit::pdu).length=unit::pdu:=by grind [putV,List.take_left]
  have e1:(putV (unit::pdu)).getD ((putV (unit::pdu)).length - 1) 0=sumV (unit::pdu) / 256:=by
   simp_all [putV,zX,List.getElem?_append_right]
  have e2:(putV (unit::pdu)).getD (unit::pdu).length 0=sumV (unit::pdu) % 256:=by
   simp_all [zX,putV,List.getElem?_append_right]
  rw [if_neg (by omega),e0,et,e1,e2,numV_eq (by omega) (by omega) (by omega) (by omega),if_pos (by omega)]
 simp_all [rtuV,putV,putV_len,if_neg,Int,decide_eq_true]
end Go.Proofs.Lx
end
noncomputable section
namespace Go.Proofs.Lx
open Go Ev Sx Pl
set_option maxRecDepth 100000
theorem alist_eq {b:List Int} (h:b.length≤100000):q8t_ (b,())=some (listS b,()):=by
 show qsm_ qjj_ b=_
 unfold qsm_
 have hq:quo .i64 (zF b.length) 2=((b.length / 2:Nat):Int):=quo_nat (d:=2) (by omega)
 rw [hq,q9_ (by rfl),q9_ (capOk_self _),zQ,qe_ (by omega),kD]
 unfold qjj_ listS
 refine (loop_det (mk:=fun i=>(b,zF (b.length / 2),(i:Int),(List.range i).map (fun i=>numV (b.getD (2 * i) 0) (b.getD (2 * i + 1) 0))++(zE (b.length / 2) (0:Int)).drop i)) (N:=b.length / 2) ?_ ?_ (b.length / 2) 0 _ (by omega) (by omega))
 ·intro self i hi
  show qjo_ _ b (zF (b.length / 2)) (i:Int) _=_
  unfold qjo_
  have hm:mul .i64 2 (i:Int)=((2 * i:Nat):Int):=by
   grind [mul64]
  have h1:b[2 * i]? = some (b[2 * i]'(by omega)):=zV (by omega)
  have h2:b[2 * i + 1]? = some (b[2 * i + 1]'(by omega)):=zV (by omega)
  have ho:((List.range i).map (fun i=>numV (b.getD (2 * i) 0) (b.getD (2 * i + 1) 0))++(zE (b.length / 2) (0:Int)).drop i)[i]? = some (((List.range i).map (fun i=>numV (b.getD (2 * i) 0) (b.getD (2 * i + 1) 0))++(zE (b.length / 2) (0:Int)).drop i)[i]'(by grind)):=zV (by grind)
  rw [if_pos (by grind [q5_,q2_]),hm,qv_ (by omega),qf_ h1,qf_ h2,qf_ ho,qv_ (by omega),zQ]
  grind [bor,shl,cvt,numV,fill_step]
 simp_all [qjo_,zF,Nat,Int,if_neg,q5_,q2_,List.drop_of_length_le,List.append_nil]
theorem wr_word (p x y:Int):q2m_ ((6,p,0,0,[],[]),(0,0,1,false,false),[x,y],())=some ((6,p,0,0,[numV x y],[]),true,()):=by
 show zC (q8t_ ([x,y],())) (fun z=>some ((6,p,0,0,z.1,[]),true,()))=_
 rw [alist_eq (by simp),zD,listS_two]
 rfl
theorem wr_coils (p k:Int) (l:List Bool) (h1:1≤l.length) (h2:l.length≤1968):q2m_ ((15,p,(l.length:Int),0,[],[]),(1968,1968,0,false,true),k::packS l,())=some ((15,p,(l.length:Int),0,[],l),true,()):=by
 have hlen:=q40_ l
 show (if lt (zF (k::packS l).length) 2=true then _ else zC (cut (k::packS l) 1 (zF (k::packS l).length)) (fun y=>zC (qdu_ (y,())) fun y=>if lt (zF y.1.length) (cvt .i64 (l.length:Int))=true then some ((0,0,0,0,[],[]),false,()) else zC (cut y.1 0 (l.length:Int)) fun y_1=>need (le (l.length:Int) (l.length:Int)) (need (le (l.length:Int) (zF y.1.length)) (some ((15,p,(l.length:Int),0,[],y_1),true,())))))=_
 have hN:1≤packN l.length∧packN l.length≤300:=by grind [packN]
 have hu:l.length≤(unpackS (packS l)).length:=by grind [unpackS_len,q40_,packN]
 rw [if_neg (by grind [q5_,q2_,List.length_cons,q40_]),cut_tail,zD,unpack_eq (by omega),zD,cvt64 (by omega) (by omega)]
 simp_all [if_neg,q5_,q2_,cut_to,zD,q9_,qo_,unpack_pack]
theorem wr_regs (p n k:Int) (l:List Int) (h:∀ x ∈ l,0≤x∧x≤65535) (h1:1≤l.length) (h2:l.length≤123):q2m_ ((16,p,n,0,[],[]),(123,0,123,false,true),k::l.flatMap two,())=some ((16,p,n,0,l,[]),true,()):=by
 have hlen:=q47_ l
 show (if lt (zF (k::l.flatMap two).length) 2=true then _ else zC (cut (k::l.flatMap two) 1 (zF (k::l.flatMap two).length)) (fun y=>zC (q8t_ (y,())) fun y=>some ((16,p,n,0,y.1,[]),true,())))=_
 rw [if_neg (by grind [q5_,q2_,List.length_cons]),cut_tail,zD,alist_eq (by omega),zD,listS_flat h]
theorem wr_swap (p n t k:Int) (l:List Int) (h:∀ x ∈ l,0≤x∧x≤65535) (h1:1≤l.length) (h2:l.length≤123):q2m_ ((23,p,n,t,[],[]),(125,0,121,true,false),k::l.flatMap two,())=some ((23,p,n,t,l,[]),true,()):=by
 have hlen:=q47_ l
 show (if lt (zF (k::l.flatMap two).length) 2=true then _ else zC (cut (k::l.flatMap two) 1 (zF (k::l.flatMap two).length)) (fun y=>zC (q8t_ (y,())) fun y=>some ((23,p,n,t,y.1,[]),true,())))=_
 rw [if_neg (by grind [q5_,q2_,List.length_cons]),cut_tail,zD,alist_eq (by omega),zD,listS_flat h]
theorem rd_many {f p1 p2 n1 n2:Int} {r:List Int} (hr:r.length≤248) {m bb ww:Int} {tt ee:Bool} (hs:shp f=some (m,bb,ww,tt,ee)) (hm:gt m 0=true) :
  qdl_ (f::p1::p2::n1::n2::r,())=q6d_ (numV p1 p2::numV n1 n2::listS r) r 0 0 0 0 m bb ww tt ee f (numV p1 p2) (numV n1 n2) 0:=by
 show q4w_ qaq_ _=_
 unfold q4w_
 rw [if_neg (by grind [q5_,q2_])]
 have hg:gt (zF (f::p1::p2::n1::n2::r).length) 253=false:=by
  rw [<- Bool.not_eq_true,q21_,q2_]; grind
 rw [hg]
 show q7s_ q6d_ _ false 0 0 0 0=_
 unfold q7s_
 have ec3:cut (f::p1::p2::n1::n2::r) 3 (zF (f::p1::p2::n1::n2::r).length)=some (n1::n2::r):=cut_from (i:=3) (by simp)
 have ec5:cut (f::p1::p2::n1::n2::r) 5 (zF (f::p1::p2::n1::n2::r).length)=some r:=cut_from (i:=5) (by simp)
 rw [if_neg (by decide),q12_,zD,shape_eq,zD]
 unfold shpD
 rw [hs]
 rw [if_neg (by simp),cut_tail,zD,alist_eq (by grind),zD,zD,listS_two,listS_two,q12_,zD,ec3,zD]
 simp_all [Option.getD,if_pos,at_one,zD]
theorem rd_one {f p1 p2 n1 n2:Int} {bb ww:Int} {tt ee:Bool} (hs:shp f=some (0,bb,ww,tt,ee)) :
  qdl_ ([f,p1,p2,n1,n2],())=q6d_ [numV p1 p2,numV n1 n2] [n1,n2] 0 0 0 0 0 bb ww tt ee f (numV p1 p2) 0 0:=by
 show q7s_ q6d_ [f,p1,p2,n1,n2] false 0 0 0 0=_
 unfold q7s_
 have ec3:cut [f,p1,p2,n1,n2] 3 (zF [f,p1,p2,n1,n2].length)=some [n1,n2]:=rfl
 rw [if_neg (by decide),q12_,zD,shape_eq,zD]
 unfold shpD
 rw [hs]
 rw [if_neg (by simp),cut_tail,zD,alist_eq (by simp),zD,zD,listS_two,listS_two,q12_,zD,ec3,zD,if_neg (by simp_all [gt])]
 rfl
theorem read_eq {a:TA} (h:OkA a) (hr:qm_ a=true):qdl_ (askB a,())=some (a,true,()):=by
 have hra:=q1q_ hr
 have hp:=numV_two h.at0 h.at1
 have hn:=numV_two h.m0 h.m1
 have ht:=numV_two h.t0 h.t1
 have hw:=h.w
 clear hr h
 cases hra with
 | bits f p n hf h1 h2 =>
  dsimp only at hp hn
  rcases hf with rfl | rfl
  ·refine (rd_many (f:=1) (r:=[]) (by simp) (m:=2000) (bb:=0) (ww:=0) (tt:=false) (ee:=false) rfl rfl).trans ?_
   rw [hp,hn]; rfl
  ·refine (rd_many (f:=2) (r:=[]) (by simp) (m:=2000) (bb:=0) (ww:=0) (tt:=false) (ee:=false) rfl rfl).trans ?_
   rw [hp,hn]; rfl
 | words f p n hf h1 h2 =>
  dsimp only at hp hn
  rcases hf with rfl | rfl
  ·refine (rd_many (f:=3) (r:=[]) (by simp) (m:=125) (bb:=0) (ww:=0) (tt:=false) (ee:=false) rfl rfl).trans ?_
   rw [hp,hn]; rfl
  ·refine (rd_many (f:=4) (r:=[]) (by simp) (m:=125) (bb:=0) (ww:=0) (tt:=false) (ee:=false) rfl rfl).trans ?_
   rw [hp,hn]; rfl
 | coil p b =>
  dsimp only at hp
  cases b with
  | true =>
   refine (rd_one (f:=5) (n1:=65280 / 256 % 256) (n2:=65280 % 256) (bb:=1) (ww:=0) (tt:=false) (ee:=false) rfl).trans ?_
   rw [hp]; rfl
  | false =>
   refine (rd_one (f:=5) (n1:=0 / 256 % 256) (n2:=0 % 256) (bb:=1) (ww:=0) (tt:=false) (ee:=false) rfl).trans ?_
   rw [hp]; rfl
 | word p x =>
  dsimp only at hp hw
  have hx:=hw x (by simp)
  refine (rd_one (f:=6) (n1:=x / 256 % 256) (n2:=x % 256) (bb:=0) (ww:=1) (tt:=false) (ee:=false) rfl).trans ?_
  rw [hp]
  show zC (q2m_ ((6,p,0,0,[],[]),(0,0,1,false,false),[x / 256 % 256,x % 256],())) (fun y=>some (y.1,y.2.1,()))=_
  grind [wr_word,numV_two]
 | coils p l h1 h2 =>
  dsimp only at hp hn
  have hN:packN l.length≤247:=by grind [packN]
  refine (rd_many (f:=15) (r:=(packN l.length:Int)::packS l) (by grind [List.length_cons,q40_]) (m:=1968) (bb:=1968) (ww:=0) (tt:=false) (ee:=true) rfl rfl).trans ?_
  rw [hp,hn]
  show zC (q2m_ ((15,p,(l.length:Int),0,[],[]),(1968,1968,0,false,true),(packN l.length:Int)::packS l,())) (fun y=>some (y.1,y.2.1,()))=_
  grind [wr_coils]
 | regs p l h1 h2 =>
  dsimp only at hp hn hw
  refine (rd_many (f:=16) (r:=2 * (l.length:Int)::l.flatMap two) (by grind [List.length_cons,q47_]) (m:=123) (bb:=0) (ww:=123) (tt:=false) (ee:=true) rfl rfl).trans ?_
  rw [hp,hn]
  show zC (q2m_ ((16,p,(l.length:Int),0,[],[]),(123,0,123,false,true),2 * (l.length:Int)::l.flatMap two,())) (fun y=>some (y.1,y.2.1,()))=_
  grind [wr_regs]
 | swap p n t l h1 h2 h3 h4 =>
  dsimp only at hp hn ht hw
  refine (rd_many (f:=23) (r:=t / 256 % 256::t % 256::(l.length:Int) / 256 % 256::(l.length:Int) % 256::2 * (l.length:Int)::l.flatMap two) (by grind [List.length_cons,q47_]) (m:=125) (bb:=0) (ww:=121) (tt:=true) (ee:=false) rfl rfl).trans ?_
  rw [hp,hn,listS_two,ht]
  show (if lt (zF (t / 256 % 256::t % 256::(l.length:Int) / 256 % 256::(l.length:Int) % 256::2 * (l.length:Int)::l.flatMap two).length) 4=true then some ((0,0,0,0,[],[]),false,()) else zC (cut (t / 256 % 256::t % 256::(l.length:Int) / 256 % 256::(l.length:Int) % 256::2 * (l.length:Int)::l.flatMap two) 4 (zF (t / 256 % 256::t % 256::(l.length:Int) / 256 % 256::(l.length:Int) % 256::2 * (l.length:Int)::l.flatMap two).length)) (fun y_1=>zC (q2m_ ((23,p,n,t,[],[]),(125,0,121,true,false),y_1,())) (fun y=>some (y.1,y.2.1,()))))=_
  have ec:cut (t / 256 % 256::t % 256::(l.length:Int) / 256 % 256::(l.length:Int) % 256::2 * (l.length:Int)::l.flatMap two) 4 (zF (t / 256 % 256::t % 256::(l.length:Int) / 256 % 256::(l.length:Int) % 256::2 * (l.length:Int)::l.flatMap two).length)=some (2 * (l.length:Int)::l.flatMap two):=cut_from (i:=4) (by simp)
  rw [if_neg (by grind [q5_,q2_,List.length_cons]),ec,zD,wr_swap p n t _ l hw h1 (by omega),zD]
theorem aparse_eq {a:TA} (h:OkA a) (hr:qm_ a=true):quf_ (askB a,())=some (a,0,()):=by
 show qc9_ qox_ (askB a)=_
 unfold qc9_
 have e:q1m_ (askB a,askB a,())=some (true,()):=by
  show some (eqs (toS (askB a)) (toS (askB a)),())=_
  rw [eqs_iff.2 rfl]
 rw [read_eq h hr,zD,if_neg (by simp),qys_ h,if_pos hr,zD,if_neg (by simp_all [nei])]
 dsimp only
 rw [e]
 rfl
structure OkR (r:TR):Prop where
 f0:0≤r.1
 f1:r.1≤255
 e0:0≤r.2.1
 e1:r.2.1≤255
 w:∀ x ∈ r.2.2.2.1,0≤x∧x≤65535
 at0:0≤r.2.2.2.2.1
 at1:r.2.2.2.2.1≤65535
 m0:0≤r.2.2.2.2.2
 m1:r.2.2.2.2.2≤65535
 lb:r.2.2.1.length≤100000
 lw:r.2.2.2.1.length≤100000
inductive RR:TR->Prop where
 | ex (f e:Int) (h0:0≤f) (h:f < 128) (h1:1≤e) (h2:e≤4):RR (f,e,[],[],0,0)
 | bits (f:Int) (l:List Bool) (hf:f=1∨f=2) (h1:8≤l.length) (h2:l.length≤2000) (h3:l.length % 8=0):RR (f,0,l,[],0,0)
 | words (f:Int) (l:List Int) (hf:f=3∨f=4∨f=23) (h1:1≤l.length) (h2:l.length≤125):RR (f,0,[],l,0,0)
 | coil (b:Bool) (p:Int):RR (5,0,[b],[],p,0)
 | word (x p:Int):RR (6,0,[],[x],p,0)
 | coils (p n:Int) (h1:1≤n) (h2:n≤1968):RR (15,0,[],[],p,n)
 | regs (p n:Int) (h1:1≤n) (h2:n≤123):RR (16,0,[],[],p,n)
theorem rem128 {f:Int} (h0:0≤f) (h:f < 128):rem f 128=f:=by
 grind [rem,kC]
def repB (r:TR):List Int:=if nei r.2.1 0=true then exB r else if eqi r.1 1=true then bitB r else if eqi r.1 2=true then bitB r else if eqi r.1 3=true then wordB r else if eqi r.1 4=true then wordB r else if eqi r.1 23=true then wordB r else
 if eqi r.1 5=true then obB r else if eqi r.1 6=true then owB r else if eqi r.1 15=true then ctB r else if eqi r.1 16=true then ctB r else []
theorem chk_self {b:List Int} {c:TR} {ok:Bool} (h:ok=true):chkV b c ok b=(c,0):=by
 unfold chkV
 rw [if_pos h,if_pos (eqs_iff.2 rfl)]
theorem repB_len {r:TR} (h:RR r):2≤(repB r).length∧(repB r).length≤253:=by
 cases h with
 | ex f e h0 h h1 h2 =>
  unfold repB
  rw [if_pos (by grind [qd_])]
  exact ⟨Nat.le.refl,(by decide:2≤253)⟩
 | bits f l hf h1 h2 h3 =>
  have e:repB (f,0,l,[],0,0)=bitB (f,0,l,[],0,0):=by rcases hf with rfl | rfl <;> rfl
  rw [e]
  show 2≤(f::_::packS l).length∧(f::_::packS l).length≤253
  grind [List.length_cons,q40_,packN]
 | words f l hf h1 h2 =>
  have e:repB (f,0,[],l,0,0)=wordB (f,0,[],l,0,0):=by rcases hf with rfl | rfl | rfl <;> rfl
  rw [e]
  show 2≤([f,_]++l.flatMap two).length∧([f,_]++l.flatMap two).length≤253
  grind [zZ,List.length_cons,List.length_nil,q47_]
 | coil b p=>exact ⟨(by decide:2≤5),(by decide:5≤253)⟩
 | word x p=>exact ⟨(by decide:2≤5),(by decide:5≤253)⟩
 | coils p n h1 h2=>exact ⟨(by decide:2≤5),(by decide:5≤253)⟩
 | regs p n h1 h2=>exact ⟨(by decide:2≤5),(by decide:5≤253)⟩
theorem listS_four {p q:Int} (h0:0≤p) (h1:p≤65535) (h2:0≤q) (h3:q≤65535):listS (two p++two q)=[p,q]:=by
 show listS (p / 256 % 256::p % 256::q / 256 % 256::q % 256::[])=_
 rw [listS_of_two h0 h1,listS_of_two h2 h3]
 rfl
theorem rparse_back {r:TR} (h:OkR r) (hr:RR r) (ok:rightR r=true):parseR (repB r)=(r,0):=by
 have hw:=h.w
 have ha:=h.at0
 have ha1:=h.at1
 have hm:=h.m0
 have hm1:=h.m1
 clear h
 cases hr with
 | ex f e h0 h h1 h2 =>
  have ea:add .u8 f 128=f + 128:=wu8 (by omega) (by omega)
  have eb:repB (f,e,[],[],0,0)=[f + 128,e]:=by
   unfold repB
   rw [if_pos (by grind [qd_])]
   simp_all [exB]
  have ec:exC (f + 128) e=(f,e,[],[],0,0):=by
   grind [exC,rem,kC]
  rw [eb]
  show parseQ (f + 128) e []=_
  unfold parseQ
  rw [if_neg (by decide),if_neg (by grind [q5_]),ec]
  have eB:exB (f,e,[],[],0,0)=[f + 128,e]:=by
   simp_all [exB]
  rw [eB]
  apply chk_self
  unfold rightR at ok
  rw [if_pos (by grind [qd_])] at ok
  exact ok
 | bits f l hf h1 h2 h3 =>
  have hN:packN l.length≤250:=by grind [packN]
  have hu:unpackS (packS l)=l:=by
   grind [unpack_pack,List.take_of_length_le,unpackS_len,q40_,packN]
  have ec:bitC f (packS l)=(f,0,l,[],0,0):=by simp_all [bitC]
  rcases hf with rfl | rfl
  ·show parseQ 1 ((packN l.length:Int) % 256) (packS l)=_
   unfold parseQ
   rw [if_neg (by grind [q40_]),if_pos (by decide),if_pos (by decide),ec]
   exact chk_self ok
  ·show parseQ 2 ((packN l.length:Int) % 256) (packS l)=_
   unfold parseQ
   rw [if_neg (by grind [q40_]),if_pos (by decide),if_neg (by decide),if_pos (by decide),ec]
   exact chk_self ok
 | words f l hf h1 h2 =>
  have hlen:=q47_ l
  have ec:wordC f (l.flatMap two)=(f,0,[],l,0,0):=by simp_all [wordC,listS_flat]
  rcases hf with rfl | rfl | rfl
  ·show parseQ 3 (2 * (l.length:Int) % 256) (l.flatMap two)=_
   unfold parseQ
   rw [if_neg (by omega),if_pos (by decide),if_neg (by decide),if_neg (by decide),if_pos (by decide),ec]
   exact chk_self ok
  ·show parseQ 4 (2 * (l.length:Int) % 256) (l.flatMap two)=_
   unfold parseQ
   rw [if_neg (by omega),if_pos (by decide),if_neg (by decide),if_neg (by decide),if_neg (by decide),if_pos (by decide),ec]
   exact chk_self ok
  ·show parseQ 23 (2 * (l.length:Int) % 256) (l.flatMap two)=_
   unfold parseQ
   rw [if_neg (by omega),if_pos (by decide),if_neg (by decide),if_neg (by decide),if_neg (by decide),if_neg (by decide),if_pos (by decide),ec]
   exact chk_self ok
 | coil b p =>
  have ec:obC 5 (two p++two (if b=true then 65280 else 0))=(5,0,[b],[],p,0):=by
   unfold obC pairC
   rw [listS_four ha ha1 (by omega) (by omega)]
   cases b <;> rfl
  show parseQ 5 (p / 256 % 256) (p % 256::two (if b=true then 65280 else 0))=_
  have eq:(p / 256 % 256)::(p % 256::two (if b=true then 65280 else 0))=two p++two (if b=true then 65280 else 0):=rfl
  unfold parseQ
  rw [if_neg (by show ¬ 251 < 3; decide),if_pos (by decide),if_neg (by decide),if_neg (by decide),if_neg (by decide),if_neg (by decide),if_neg (by decide),if_pos (by decide),eq,ec]
  exact chk_self ok
 | word x p =>
  have hx:=hw x (by simp)
  have ec:owC 6 (two p++two x)=(6,0,[],[x],p,0):=by
   simp_all [owC,pairC,listS_four]
  show parseQ 6 (p / 256 % 256) (p % 256::two x)=_
  have eq:(p / 256 % 256)::(p % 256::two x)=two p++two x:=rfl
  unfold parseQ
  rw [if_neg (by show ¬ 251 < 3; decide),if_pos (by decide),if_neg (by decide),if_neg (by decide),if_neg (by decide),if_neg (by decide),if_neg (by decide),if_neg (by decide),if_pos (by decide),eq,ec]
  exact chk_self ok
 | coils p n h1 h2 =>
  have ec:ctC 15 (two p++two n)=(15,0,[],[],p,n):=by
   simp_all [ctC,pairC,listS_four]
  show parseQ 15 (p / 256 % 256) (p % 256::two n)=_
  have eq:(p / 256 % 256)::(p % 256::two n)=two p++two n:=rfl
  unfold parseQ
  rw [if_neg (by show ¬ 251 < 3; decide),if_pos (by decide),if_neg (by decide),if_neg (by decide),if_neg (by decide),if_neg (by decide),if_neg (by decide),if_neg (by decide),if_neg (by decide),if_pos (by decide),eq,ec]
  exact chk_self ok
 | regs p n h1 h2 =>
  have ec:ctC 16 (two p++two n)=(16,0,[],[],p,n):=by
   simp_all [ctC,pairC,listS_four]
  show parseQ 16 (p / 256 % 256) (p % 256::two n)=_
  have eq:(p / 256 % 256)::(p % 256::two n)=two p++two n:=rfl
  unfold parseQ
  rw [if_neg (by show ¬ 251 < 3; decide),if_pos (by decide),if_neg (by decide),if_neg (by decide),if_neg (by decide),if_neg (by decide),if_neg (by decide),if_neg (by decide),if_neg (by decide),if_neg (by decide),if_pos (by decide),eq,ec]
  exact chk_self ok
theorem wr_if {c:Bool} {w:Option (List Int×Unit)} {x:List Int} (hw:c=true->w=some (x,())) :
  (if c=true then zC w fun y=>(some (y.1,0,()):Option (As [.sl (.int .u8),.int .i64])) else some ([],13,()))=if c=true then some (x,0,()) else some ([],13,()):=by
 simp_all
abbrev RB:=Option (As [.sl (.int .u8),.int .i64])
theorem if_step {c:Bool} {A B:RB} {ra rb:Bool} {xa xb:List Int} (h1:A=if ra=true then some (xa,0,()) else some ([],13,())) (h2:B=if rb=true then some (xb,0,()) else some ([],13,())) :
  (if c=true then A else B)=if (if c=true then ra else rb)=true then some ((if c=true then xa else xb),0,()) else some ([],13,()):=by
 grind
theorem rbytes_eq {r:TR} (h:SmR r):qj4_ (r,())=if rightR r=true then some (repB r,0,()) else some ([],13,()):=by
 show qqy_ r=_
 unfold qqy_ rightR repB
 rw [exR_eq h,bitR_eq h,wordR_eq h,obR_eq h,owR_eq h,ctR_eq h,ctR_eq h]
 simp only [zD]
 have wex:=wr_if (c:=exR r) (fun _=>exB_eq r)
 have wbit:=wr_if (c:=bitR r) (fun _=>bitB_eq h)
 have wword:=wr_if (c:=wordR r) (fun _=>wordB_eq h)
 have wob:=wr_if (c:=obR r) (fun hc=>obB_eq hc)
 have wow:=wr_if (c:=owR r) (fun hc=>owB_eq hc)
 have wc1:=wr_if (c:=ctR 1968 r) (fun _=>ctB_eq 1968 r)
 have wc2:=wr_if (c:=ctR 123 r) (fun _=>ctB_eq 123 r)
 exact if_step wex (if_step wbit (if_step wbit (if_step wword (if_step wword (if_step wword (if_step wob (if_step wow (if_step wc1 (if_step wc2 rfl)))))))))
theorem listS_rng (b:List Int):∀ x ∈ listS b,0≤x∧x≤65535:=by
 intro x hx
 unfold listS at hx
 obtain ⟨i,_,rfl⟩:=List.mem_map.1 hx
 have:=numV_rng (b.getD (2 * i) 0) (b.getD (2 * i + 1) 0)
 omega
theorem written_any {f p n t:Int} (hf:0≤f∧f≤255) (hp:0≤p∧p≤65535) (hn:0≤n∧n≤65535) (ht:0≤t∧t≤65535) (s:Int×Int×Int×Bool×Bool) {rest:List Int} (hl:rest.length≤300) :
  ∃ (a:TA) (ok:Bool),q2m_ ((f,p,n,t,[],[]),s,rest,())=some (a,ok,())∧(ok=true->OkA a):=by
 have mkw:∀ l:List Int,(∀ x ∈ l,0≤x∧x≤65535)->l.length≤100000->OkA (f,p,n,t,l,[]):=fun l h1 h2=>⟨hf.1,hf.2,hp.1,hp.2,hn.1,hn.2,ht.1,ht.2,h1,h2,Nat.zero_le _⟩
 have mkb:∀ l:List Bool,l.length≤100000->OkA (f,p,n,t,[],l):=fun l h2=>⟨hf.1,hf.2,hp.1,hp.2,hn.1,hn.2,ht.1,ht.2,(fun x hx=>by cases hx),Nat.zero_le _,h2⟩
 show ∃ (a:TA) (ok:Bool),qh1_ qrm_ (f,p,n,t,[],[]) s rest=_∧_
 unfold qh1_
 dsimp only
 by_cases h1:eqi (add .i64 s.2.1 s.2.2.1) 0=true
 ·simp_all
 ·rw [if_neg h1]
  by_cases h2:rest.length < 2
  ·rw [if_pos (by grind [q5_,q2_])]
   simp
  ·rw [if_neg (by grind [q5_,q2_])]
   by_cases h5:eqi f 5=true
   ·rw [if_pos h5]
    match rest,h2 with
    | y::r,_ =>
     rw [q12_,zD]
     exact ⟨_,_,rfl,fun _=>mkb [nei y 0] (by simp)⟩
    | [],h2=>simp_all
   ·rw [if_neg h5]
    by_cases h6:eqi f 6=true
    ·rw [if_pos h6,alist_eq (by omega),zD]
     exact ⟨_,_,rfl,fun _=>mkw _ (listS_rng _) (by grind [listS_len])⟩
    ·rw [if_neg h6]
     match rest,h2 with
     | [],h2=>simp_all
     | y::r,_ =>
      have hr:r.length≤300:=by grind
      by_cases hb:gt s.2.1 0=true
      ·rw [if_pos hb,cut_tail,zD,unpack_eq (by omega),zD]
       dsimp only
       rw [cvt64 (by omega) (by omega)]
       by_cases hlt:lt (zF (unpackS r).length) n=true
       ·simp_all
       ·rw [if_neg hlt]
        rw [q5_,q2_,unpackS_len] at hlt
        obtain ⟨k,rfl⟩:=zN hn.1
        rw [cut_to (by grind [unpackS_len]),zD,q9_ (by grind [qo_]),q9_ (by grind [qo_,q2_,unpackS_len])]
        exact ⟨_,_,rfl,fun _=>mkb _ (by grind)⟩
      ·rw [if_neg hb,cut_tail,zD,alist_eq (by omega),zD]
       exact ⟨_,_,rfl,fun _=>mkw _ (listS_rng _) (by grind [listS_len])⟩
theorem five_of {b:List Int} (h:5≤b.length):∃ f p1 p2 n1 n2 r,b=f::p1::p2::n1::n2::r:=by
 match b,h with
 | f::p1::p2::n1::n2::r,_=>simp
theorem aread_any {b:List Int} (hb:∀ x ∈ b,0≤x∧x≤255):∃ (a:TA) (ok:Bool),qdl_ (b,())=some (a,ok,())∧(ok=true->OkA a):=by
 have bad:qaq_ b true 0 0 0 0=some ((0,0,0,0,[],[]),false,()):=rfl
 by_cases h5:b.length < 5
 ·refine ⟨(0,0,0,0,[],[]),false,?_,fun e=>by cases e⟩
  show q4w_ qaq_ b=_
  unfold q4w_
  rw [if_pos (by grind [q5_,q2_])]
  rfl
 ·by_cases h253:253 < b.length
  ·refine ⟨(0,0,0,0,[],[]),false,?_,fun e=>by cases e⟩
   show q4w_ qaq_ b=_
   unfold q4w_
   rw [if_neg (by grind [q5_,q2_]),show gt (zF b.length) 253=true from q21_.2 (by grind)]
   rfl
  ·obtain ⟨f,p1,p2,n1,n2,r,rfl⟩:=five_of (b:=b) (by omega)
   have hf:0≤f∧f≤255:=hb f (by simp)
   have hr:r.length≤248:=by simp_all
   have hg:gt (zF (f::p1::p2::n1::n2::r).length) 253=false:=by
    rw [<- Bool.not_eq_true,q21_,q2_]; omega
   have hm0:qdl_ (f::p1::p2::n1::n2::r,())=q7s_ q6d_ (f::p1::p2::n1::n2::r) false 0 0 0 0:=by
    show q4w_ qaq_ _=_
    unfold q4w_
    rw [if_neg (by grind [q5_,q2_]),hg]
    rfl
   have ec3:cut (f::p1::p2::n1::n2::r) 3 (zF (f::p1::p2::n1::n2::r).length)=some (n1::n2::r):=cut_from (i:=3) (by simp)
   have ec5:cut (f::p1::p2::n1::n2::r) 5 (zF (f::p1::p2::n1::n2::r).length)=some r:=cut_from (i:=5) (by simp)
   have nn:∀ x y,0≤numV x y∧numV x y≤65535:=fun x y=>by have:=numV_rng x y; omega
   have tail:∀ (l rest:List Int) (s:Int×Int×Int×Bool×Bool) (n:Int),(∃ q,l=numV p1 p2::numV n1 n2::q∧(4≤rest.length->q ≠ []∧∀ x ∈ q,0≤x∧x≤65535))->rest.length≤300->(0≤n∧n≤65535) ->
     ∃ (a:TA) (ok:Bool),q6d_ l rest 0 0 0 0 s.1 s.2.1 s.2.2.1 s.2.2.2.1 s.2.2.2.2 f (numV p1 p2) n 0=some (a,ok,())∧(ok=true->OkA a):=by
    rintro l rest s n ⟨q,rfl,hq⟩ hrl hn
    have k3:∀ (rest:List Int) (t:Int),rest.length≤300->(0≤t∧t≤65535)->∃ (a:TA) (ok:Bool),q114_ rest 0 0 0 0 s.1 s.2.1 s.2.2.1 s.2.2.2.1 s.2.2.2.2 f (numV p1 p2) n t=some (a,ok,())∧(ok=true->OkA a):=fun rest t h1 h2=>by
     obtain ⟨a,ok,e1,e2⟩:=written_any hf (nn p1 p2) hn h2 s h1
     refine ⟨a,ok,?_,e2⟩
     show zC (q2m_ ((f,numV p1 p2,n,t,[],[]),s,rest,())) _=_
     simp_all
    unfold q6d_ q10h_
    by_cases ht:s.2.2.2.1=true
    ·rw [if_pos ht]
     by_cases h4:rest.length < 4
     ·rw [if_pos (by grind [q5_,q2_])]
      simp
     ·rw [if_neg (by grind [q5_,q2_])]
      obtain ⟨hq1,hq2⟩:=hq (by omega)
      match q,hq1,hq2 with
      | z::q,_,hq2 =>
       have hat:at? (numV p1 p2::numV n1 n2::z::q) 2=some z:=rfl
       rw [hat,zD]
       have hc:cut rest 4 (zF rest.length)=some (rest.drop 4):=cut_from (i:=4) (by omega)
       rw [hc,zD]
       exact k3 _ z (by grind) (hq2 z (by simp))
      | [],hq1,_=>simp_all
    simp_all
   rw [hm0]
   unfold q7s_
   rw [if_neg (by decide),q12_,zD,shape_eq,zD]
   cases hs:shp f with
   | none=>simp
   | some s =>
    dsimp only
    rw [if_neg (by simp),cut_tail,zD,alist_eq (by grind),zD,zD,listS_two,listS_two,q12_,zD,ec3,zD]
    have hsd:shpD f=s:=by grind [shpD]
    rw [hsd]
    have hq4:4≤r.length->listS r ≠ []∧∀ x ∈ listS r,0≤x∧x≤65535:=fun h=>⟨fun e=>by grind [listS_len],listS_rng r⟩
    by_cases hm:gt s.1 0=true
    ·rw [if_pos hm,at_one,zD,ec5,zD]
     exact tail _ r s _ ⟨listS r,rfl,hq4⟩ (by omega) (nn n1 n2)
    ·rw [if_neg hm]
     by_cases h4:4≤(n1::n2::r).length
     ·refine tail _ (n1::n2::r) s 0 ⟨listS r,rfl,fun _=>?_⟩ (by grind) ⟨by decide,by decide⟩
      refine ⟨fun e=>?_,listS_rng r⟩
      grind [listS_len]
     ·exact tail _ (n1::n2::r) s 0 ⟨listS r,rfl,fun h=>absurd h h4⟩ (by omega) ⟨by decide,by decide⟩
theorem aparse_any {b:List Int} (hb:∀ x ∈ b,0≤x∧x≤255):∃ (a:TA) (e:Int),quf_ (b,())=some (a,e,())∧((e=0∧OkA a∧qm_ a=true∧toS (askB a)=toS b)∨e=12):=by
 obtain ⟨a,ok,h1,h2⟩:=aread_any hb
 show ∃ (a':TA) (e:Int),qc9_ qox_ b=some (a',e,())∧_
 unfold qc9_
 rw [h1,zD]
 cases ok with
 | false=>exact ⟨_,_,rfl,.inr rfl⟩
 | true =>
  have ha:=h2 rfl
  dsimp only
  rw [if_neg (by decide),qys_ ha]
  cases hr:qm_ a with
  | false=>exact ⟨_,_,rfl,.inr rfl⟩
  | true =>
   rw [if_pos rfl,zD,if_neg (show ¬ nei 0 0=true by decide)]
   dsimp only
   have e:q1m_ (askB a,b,())=some (eqs (toS (askB a)) (toS b),()):=rfl
   rw [e,zD]
   cases he:eqs (toS (askB a)) (toS b) with
   | false=>exact ⟨_,_,rfl,.inr rfl⟩
   | true=>exact ⟨a,0,rfl,.inl ⟨rfl,ha,hr,eqs_iff.1 he⟩⟩
theorem look_any {f:Int} {b:List Int} (hb:∀ x ∈ f::b,0≤x∧x≤255):∃ (a:TA) (e:Int),qgz_ (f::b,())=some (a,e,())∧((e=0∧OkA a∧qm_ a=true∧toS (askB a)=toS (f::b))∨((e=1∨e=3)∧a=(f,0,0,0,[],[]))):=by
 obtain ⟨a,e,h1,h2⟩:=aparse_any hb
 show ∃ (a':TA) (e:Int),qjq_ (f::b)=some (a',e,())∧_
 unfold qjq_
 rw [if_neg (by grind [q4_,q2_,List.length_cons]),h1,zD]
 dsimp only
 rcases h2 with ⟨rfl,ha⟩ | rfl
 ·exact ⟨a,0,rfl,.inl ⟨rfl,ha⟩⟩
 ·rw [if_neg (by decide),q12_,zD,zD,shape_eq,zD]
  grind
abbrev TArea:=Int×Int×Bool×Bool×Bool
def covS (x:TArea) (i:Int):Bool:=decide (1≤x.2.1∧x.1≤i∧i < x.1 + x.2.1)
def qn_ (l:List TArea) (i:Int):Option TArea:=l.find? fun x=>covS x i
def wantF (w:TArea->Bool) (l:List TArea) (i:Int):Bool:=match qn_ l i with
 | some x=>w x
 | none=>false
def eachS (w:TArea->Bool) (l:List TArea) (p:Int) (m:Nat):Bool:=(List.range m).all fun k=>wantF w l (p + (k:Int))
def OkAr (x:TArea):Prop:=-9223372036854775808≤x.1∧x.1≤9223372036854775807∧-9223372036854775808≤x.2.1∧x.2.1≤9223372036854775807
theorem capOk_sf (n:Int):capOk n n=true:=by
 unfold capOk
 rw [if_pos rfl]
theorem meet_gen {x:TArea} {p e:Int} (h0:0≤p) (hpe:p≤e) (he:e≤1000000000000) (hx:OkAr x) :
  ∃ f t,q57_ (x,p,e,())=some (f,t,())∧p≤f∧f≤e∧t≤e∧∀ i,p≤i->i < e->(covS x i=true ↔ f≤i∧i < t):=by
 obtain ⟨x1,x2,x3,x4⟩:=hx
 show ∃ f t,ql2_ qe7_ x p e=_∧_
 unfold ql2_
 have none:∃ f t,qe7_ p e true x=some (f,t,())∧f=p∧t=p:=⟨p,p,rfl,rfl,rfl⟩
 by_cases hm:x.2.1 < 1
 ·rw [if_pos (q5_.2 hm)]
  obtain ⟨f,t,h1,rfl,rfl⟩:=none
  refine ⟨_,_,h1,Int.le_refl _,hpe,hpe,fun i hi hie=>?_⟩
  unfold covS
  rw [decide_eq_true_eq]
  omega
 ·rw [if_neg (fun h=>hm (q5_.1 h))]
  by_cases ha:e≤x.1
  ·rw [qs_.2 ha]
   obtain ⟨f,t,h1,rfl,rfl⟩:=none
   refine ⟨_,_,h1,Int.le_refl _,hpe,hpe,fun i hi hie=>?_⟩
   unfold covS
   rw [decide_eq_true_eq]
   omega
  ·rw [show ge x.1 e=false from decide_eq_false ha]
   have K3:∀ t,qjx_ p t x=some (if p < x.1 then x.1 else p,t,()):=fun t=>by
    unfold qjx_ qvm_
    simp only [q21_]
   have K2t:qdv_ p e e true x=some (if p < x.1 then x.1 else p,(if x.1 + x.2.1 < e then x.1 + x.2.1 else e),())∨¬ (x.1 < 0∨x.2.1 < e - x.1):=by
    by_cases hc:x.1 < 0∨x.2.1 < e - x.1
    ·left
     unfold qdv_ qlk_
     have hadd:add .i64 x.1 x.2.1=x.1 + x.2.1:=add64 (by omega) (by omega)
     rw [if_pos rfl,K3,hadd]
     simp only [q5_]
    ·exact .inr hc
   have fin:∀ t,(t=(if x.1 + x.2.1 < e then x.1 + x.2.1 else e))->p≤(if p < x.1 then x.1 else p)∧(if p < x.1 then x.1 else p)≤e∧t≤e∧∀ i,p≤i->i < e->(covS x i=true ↔ (if p < x.1 then x.1 else p)≤i∧i < t):=fun t ht=>by
    subst ht
    refine ⟨by split <;> omega,by split <;> omega,by split <;> omega,fun i hi hie=>?_⟩
    unfold covS
    rw [decide_eq_true_eq]
    split <;> split <;> omega
   unfold qe7_ qvz_
   rw [if_neg (by decide)]
   by_cases hn:x.1 < 0
   ·rw [if_pos (q5_.2 hn)]
    rcases K2t with h | h
    ·obtain ⟨g1,g2,g3,g4⟩:=fin _ rfl
     exact ⟨_,_,h,g1,g2,g3,g4⟩
    ·exact absurd (.inl hn) h
   ·rw [if_neg (fun h=>hn (q5_.1 h)),sub64 (by omega) (by omega)]
    by_cases hc:x.2.1 < e - x.1
    ·rw [q5_.2 hc]
     rcases K2t with h | h
     ·obtain ⟨g1,g2,g3,g4⟩:=fin _ rfl
      exact ⟨_,_,h,g1,g2,g3,g4⟩
     ·exact absurd (.inr hc) h
    ·rw [show lt x.2.1 (e - x.1)=false from decide_eq_false hc]
     unfold qdv_ qlk_
     rw [if_neg (by decide),K3]
     obtain ⟨g1,g2,g3,g4⟩:=fin e (by rw [if_neg (by omega)])
     exact ⟨_,_,rfl,g1,g2,g3,g4⟩
theorem first_take {l:List TArea} {t:Nat} {i:Int} {y:TArea} (h:qn_ (l.take t) i=some y):qn_ l i=some y:=by
 have:qn_ l i=(qn_ (l.take t) i).or (qn_ (l.drop t) i):=by
  unfold qn_
  rw [<- List.find?_append,List.take_append_drop]
 rw [this,h]
 rfl
theorem first_next {l:List TArea} {t:Nat} (ht:t < l.length) (i:Int):qn_ (l.take (t + 1)) i=(qn_ (l.take t) i).or (if covS l[t] i=true then some l[t] else none):=by
 unfold qn_
 rw [List.take_succ_eq_append_getElem ht,List.find?_append]
 congr 1
 simp only [List.find?_cons,List.find?_nil]
 cases covS l[t] i <;> rfl
def MetI (w:TArea->Bool) (l:List TArea) (p:Int) (m:Nat) (c:Int->Bool) (met:List Bool) (left:Int):Prop :=
 met.length=m∧left=((met.countP fun b=>!b:Nat):Int)∧∀ k:Nat,k < m->met[k]? = some (c (p + (k:Int)))∧(c (p + (k:Int))=true->wantF w l (p + (k:Int))=true)
theorem met_0 (w:TArea->Bool) (l:List TArea) (p:Int) (m:Nat):MetI w l p m (fun i=>(qn_ (l.take 0) i).isSome) (zE m false) (m:Int):=by
 refine ⟨kD ..,?_,fun k hk=>⟨?_,fun e=>by cases e⟩⟩
 ·rw [List.countP_replicate]
  rfl
 ·rw [List.getElem?_replicate,if_pos hk]
  rfl
theorem met_zero {w:TArea->Bool} {l:List TArea} {p:Int} {m:Nat} {c:Int->Bool} {met:List Bool} {left:Int} (h:MetI w l p m c met left) (h0:left=0):eachS w l p m=true:=by
 obtain ⟨h1,h2,h3⟩:=h
 unfold eachS
 rw [List.all_eq_true]
 intro k hk
 rw [List.mem_range] at hk
 obtain ⟨e1,e2⟩:=h3 k hk
 refine e2 ?_
 have hz:met.countP (fun b=>!b)=0:=by omega
 have:=List.countP_eq_zero.1 hz _ (zY e1)
 simpa using this
theorem met_left {w:TArea->Bool} {l:List TArea} {p:Int} {m:Nat} {met:List Bool} {left:Int} (h:MetI w l p m (fun i=>(qn_ l i).isSome) met left) (h0:left ≠ 0):eachS w l p m=false:=by
 obtain ⟨h1,h2,h3⟩:=h
 rw [<- Bool.not_eq_true]
 intro hall
 unfold eachS at hall
 rw [List.all_eq_true] at hall
 apply h0
 rw [h2]
 have:met.countP (fun b=>!b)=0:=by
  rw [List.countP_eq_zero]
  intro b hb
  obtain ⟨k,hk,rfl⟩:=List.getElem_of_mem hb
  have e1:=(h3 k (by omega)).1
  have hw:=hall k (List.mem_range.2 (by omega))
  unfold wantF at hw
  rw [zV hk] at e1
  dsimp only at e1
  cases hf:qn_ l (p + (k:Int)) with
  | none=>rw [hf] at hw; cases hw
  | some y =>
   rw [hf] at e1
   have e1:met[k]=true:=by simpa using e1
   rw [e1]
   decide
 rw [this]
 rfl
theorem met_false {w:TArea->Bool} {l:List TArea} {p:Int} {m k:Nat} (hk:k < m) (h:wantF w l (p + (k:Int))=false):eachS w l p m=false:=by
 rw [<- Bool.not_eq_true]
 intro hall
 unfold eachS at hall
 rw [List.all_eq_true] at hall
 have:=hall k (List.mem_range.2 hk)
 rw [h] at this
 cases this
theorem q3u_ {w:TArea->Bool} {l:List TArea} {p:Int} {m:Nat} {c c':Int->Bool} {met:List Bool} {left:Int} (h:MetI w l p m c met left) (hc:∀ k:Nat,k < m->c' (p + (k:Int))=c (p + (k:Int))):MetI w l p m c' met left :=
 ⟨h.1,h.2.1,fun k hk=>by rw [hc k hk]; exact h.2.2 k hk⟩
theorem met_set {w:TArea->Bool} {l:List TArea} {p:Int} {m k:Nat} {c:Int->Bool} {met:List Bool} {left:Int} (h:MetI w l p m c met left) (hk:k < m) (hf:c (p + (k:Int))=false) (hw:wantF w l (p + (k:Int))=true) :
  MetI w l p m (fun i=>c i || decide (i=p + (k:Int))) (met.set k true) (left - 1):=by
 obtain ⟨h1,h2,h3⟩:=h
 have hg:=(h3 k hk).1
 have hkl:k < met.length:=by omega
 rw [zV hkl,hf] at hg
 have hg:met[k]=false:=by simpa using hg
 refine ⟨by simp [h1],?_,fun j hj=>?_⟩
 ·have hpos:0 < met.countP (fun b=>!b):=by
   rw [List.countP_pos_iff]
   exact ⟨met[k],List.getElem_mem hkl,by rw [hg]; rfl⟩
  rw [List.countP_set hkl,hg,h2]
  simp only [Bool.not_false,if_true,Bool.not_true,Bool.false_eq_true,if_false]
  omega
 ·obtain ⟨e1,e2⟩:=h3 j hj
  dsimp only
  by_cases hjk:k=j
  ·subst hjk
   refine ⟨?_,fun _=>hw⟩
   rw [List.getElem?_set_self hkl,decide_eq_true rfl,Bool.or_true]
  ·have:¬ (p + (j:Int)=p + (k:Int)):=by omega
   refine ⟨?_,fun e=>?_⟩
   ·rw [List.getElem?_set_ne hjk,e1,decide_eq_false this,Bool.or_false]
   ·rw [decide_eq_false this,Bool.or_false] at e
    exact e2 e
@[reducible] def zL0:Type:=Int->Int->Int->List (Int×Int×Bool×Bool×Bool)->Int->Int->List Bool->Option (As [.bool])
@[reducible] def zL1:Type:=(Int)×(Int)×(Int)×(Int)×(Int)×(List (Int×Int×Bool×Bool×Bool))×(Int)×(Int)×(List Bool)×(Int×Int×Bool×Bool×Bool)->Option (As [.bool])
@[reducible] def zL2:Type:=(Int)×(Int)×(Int)×(Int)×(Int)×(List (Int×Int×Bool×Bool×Bool))×(Int)×(Int)×(List Bool)×(Int×Int×Bool×Bool×Bool)
def quz_ (u1:zL0):=(fun (self:zL1) (s:zL2)=>q8q_ (q5u_ u1 (fun at' many left to' i t19 t20 t21 met x=>self (at',many,left,to',i,t19,t20,t21,met,x))) u1 (fun at' many left to' i t19 t20 t21 met x=>self (at',many,left,to',i,t19,t20,t21,met,x)) s.1 s.2.1 s.2.2.1 s.2.2.2.1 s.2.2.2.2.1 s.2.2.2.2.2.1 s.2.2.2.2.2.2.1 s.2.2.2.2.2.2.2.1 s.2.2.2.2.2.2.2.2.1 s.2.2.2.2.2.2.2.2.2)
@[reducible] def zL3:Type:=List (Int×Int×Bool×Bool×Bool)
@[reducible] def zL4:Type:=Int×Int×Bool×Bool×Bool
theorem q14i_ (u1:zL0) (self:zL1) (at' many left to' i:Int) (t19:zL3) (t20 t21:Int) (met:List Bool) (x:zL4):quz_ u1 self (at',many,left,to',i,t19,t20,t21,met,x)=q8q_ (q5u_ u1 (fun at' many left to' i t19 t20 t21 met x=>self (at',many,left,to',i,t19,t20,t21,met,x))) u1 (fun at' many left to' i t19 t20 t21 met x=>self (at',many,left,to',i,t19,t20,t21,met,x)) at' many left to' i t19 t20 t21 met x:=rfl
theorem q14v_ (u1:zL0) (at' many left to' i:Int) (t19:zL3) (t20 t21:Int) (met:List Bool) (x:zL4):q4d_ u1 at' many left to' i t19 t20 t21 met x=loopF (quz_ u1) 18446744073709551616 (at',many,left,to',i,t19,t20,t21,met,x):=rfl
@[reducible] def zL5:Type:=(Int)×(Int)×(Int)×(List (Int×Int×Bool×Bool×Bool))×(Int)×(Int)×(List Bool)->Option (As [.bool])
@[reducible] def zL6:Type:=(Int)×(Int)×(Int)×(List (Int×Int×Bool×Bool×Bool))×(Int)×(Int)×(List Bool)
def quu_ :=(fun (self:zL5) (s:zL6)=>q8o_ (q89_) (q4d_ (fun at' many left t19 t20 t21 met=>self (at',many,left,t19,t20,t21,met))) (fun at' many left t19 t20 t21 met=>self (at',many,left,t19,t20,t21,met)) s.1 s.2.1 s.2.2.1 s.2.2.2.1 s.2.2.2.2.1 s.2.2.2.2.2.1 s.2.2.2.2.2.2)
theorem q14k_  (self:zL5) (at':Int) (many:Int) (left:Int) (t19:zL3) (t20:Int) (t21:Int) (met:List Bool):quu_ self (at',many,left,t19,t20,t21,met)=q8o_ (q89_) (q4d_ (fun at' many left t19 t20 t21 met=>self (at',many,left,t19,t20,t21,met))) (fun at' many left t19 t20 t21 met=>self (at',many,left,t19,t20,t21,met)) at' many left t19 t20 t21 met:=rfl
theorem q14t_  (at':Int) (many:Int) (left:Int) (t19:zL3) (t20:Int) (t21:Int) (met:List Bool):q8s_ at' many left t19 t20 t21 met=loopF (quu_) 18446744073709551616 (at',many,left,t19,t20,t21,met):=rfl
def quc_ (u1:zL0):=(fun (self:zL1) (s:zL2)=>q8n_ (q5y_ u1 (fun at' many left to' i t19 t20 t21 met x=>self (at',many,left,to',i,t19,t20,t21,met,x))) u1 (fun at' many left to' i t19 t20 t21 met x=>self (at',many,left,to',i,t19,t20,t21,met,x)) s.1 s.2.1 s.2.2.1 s.2.2.2.1 s.2.2.2.2.1 s.2.2.2.2.2.1 s.2.2.2.2.2.2.1 s.2.2.2.2.2.2.2.1 s.2.2.2.2.2.2.2.2.1 s.2.2.2.2.2.2.2.2.2)
theorem q150_ (u1:zL0) (self:zL1) (at' many left to' i:Int) (t19:zL3) (t20 t21:Int) (met:List Bool) (x:zL4):quc_ u1 self (at',many,left,to',i,t19,t20,t21,met,x)=q8n_ (q5y_ u1 (fun at' many left to' i t19 t20 t21 met x=>self (at',many,left,to',i,t19,t20,t21,met,x))) u1 (fun at' many left to' i t19 t20 t21 met x=>self (at',many,left,to',i,t19,t20,t21,met,x)) at' many left to' i t19 t20 t21 met x:=rfl
theorem q14c_ (u1:zL0) (at' many left to' i:Int) (t19:zL3) (t20 t21:Int) (met:List Bool) (x:zL4):q4g_ u1 at' many left to' i t19 t20 t21 met x=loopF (quc_ u1) 18446744073709551616 (at',many,left,to',i,t19,t20,t21,met,x):=rfl
def qub_ :=(fun (self:zL5) (s:zL6)=>q8u_ (q8r_) (q4g_ (fun at' many left t19 t20 t21 met=>self (at',many,left,t19,t20,t21,met))) (fun at' many left t19 t20 t21 met=>self (at',many,left,t19,t20,t21,met)) s.1 s.2.1 s.2.2.1 s.2.2.2.1 s.2.2.2.2.1 s.2.2.2.2.2.1 s.2.2.2.2.2.2)
theorem q151_  (self:zL5) (at':Int) (many:Int) (left:Int) (t19:zL3) (t20:Int) (t21:Int) (met:List Bool):qub_ self (at',many,left,t19,t20,t21,met)=q8u_ (q8r_) (q4g_ (fun at' many left t19 t20 t21 met=>self (at',many,left,t19,t20,t21,met))) (fun at' many left t19 t20 t21 met=>self (at',many,left,t19,t20,t21,met)) at' many left t19 t20 t21 met:=rfl
theorem q14j_  (at':Int) (many:Int) (left:Int) (t19:zL3) (t20:Int) (t21:Int) (met:List Bool):q91_ at' many left t19 t20 t21 met=loopF (qub_) 18446744073709551616 (at',many,left,t19,t20,t21,met):=rfl
@[reducible] def zL7:Type:=Int->Int->Int->List (Int×Int×Bool×Bool×Bool)->Int->Int->Int->Int->List Bool->Option (As [.bool,.int .i64,.int .i64])
@[reducible] def zL8:Type:=(Int)×(Int)×(Int)×(Int)×(Int)×(List (Int×Int×Bool×Bool×Bool))×(Int)×(Int)×(Int)×(Int)×(List Bool)×(Int×Int×Bool×Bool×Bool)->Option (As [.bool,.int .i64,.int .i64])
@[reducible] def zL9:Type:=(Int)×(Int)×(Int)×(Int)×(Int)×(List (Int×Int×Bool×Bool×Bool))×(Int)×(Int)×(Int)×(Int)×(List Bool)×(Int×Int×Bool×Bool×Bool)
def quj_ (u1:zL7):=(fun (self:zL8) (s:zL9)=>q8i_ (q5r_ u1 (fun at' many left to' i t19 t20 t21 o o_2 met x=>self (at',many,left,to',i,t19,t20,t21,o,o_2,met,x))) u1 (fun at' many left to' i t19 t20 t21 o o_2 met x=>self (at',many,left,to',i,t19,t20,t21,o,o_2,met,x)) s.1 s.2.1 s.2.2.1 s.2.2.2.1 s.2.2.2.2.1 s.2.2.2.2.2.1 s.2.2.2.2.2.2.1 s.2.2.2.2.2.2.2.1 s.2.2.2.2.2.2.2.2.1 s.2.2.2.2.2.2.2.2.2.1 s.2.2.2.2.2.2.2.2.2.2.1 s.2.2.2.2.2.2.2.2.2.2.2)
theorem q14r_ (u1:zL7) (self:zL8) (at' many left to' i:Int) (t19:zL3) (t20 t21 o o_2:Int) (met:List Bool) (x:zL4):quj_ u1 self (at',many,left,to',i,t19,t20,t21,o,o_2,met,x)=q8i_ (q5r_ u1 (fun at' many left to' i t19 t20 t21 o o_2 met x=>self (at',many,left,to',i,t19,t20,t21,o,o_2,met,x))) u1 (fun at' many left to' i t19 t20 t21 o o_2 met x=>self (at',many,left,to',i,t19,t20,t21,o,o_2,met,x)) at' many left to' i t19 t20 t21 o o_2 met x:=rfl
theorem q14m_ (u1:zL7) (at' many left to' i:Int) (t19:zL3) (t20 t21 o o_2:Int) (met:List Bool) (x:zL4):q4e_ u1 at' many left to' i t19 t20 t21 o o_2 met x=loopF (quj_ u1) 18446744073709551616 (at',many,left,to',i,t19,t20,t21,o,o_2,met,x):=rfl
@[reducible] def zL10:Type:=(Int)×(Int)×(Int)×(List (Int×Int×Bool×Bool×Bool))×(Int)×(Int)×(Int)×(Int)×(List Bool)->Option (As [.bool,.int .i64,.int .i64])
@[reducible] def zL11:Type:=(Int)×(Int)×(Int)×(List (Int×Int×Bool×Bool×Bool))×(Int)×(Int)×(Int)×(Int)×(List Bool)
def qum_ :=(fun (self:zL10) (s:zL11)=>q8f_ (q8d_) (q4e_ (fun at' many left t19 t20 t21 o o_2 met=>self (at',many,left,t19,t20,t21,o,o_2,met))) (fun at' many left t19 t20 t21 o o_2 met=>self (at',many,left,t19,t20,t21,o,o_2,met)) s.1 s.2.1 s.2.2.1 s.2.2.2.1 s.2.2.2.2.1 s.2.2.2.2.2.1 s.2.2.2.2.2.2.1 s.2.2.2.2.2.2.2.1 s.2.2.2.2.2.2.2.2)
theorem q14f_  (self:zL10) (at':Int) (many:Int) (left:Int) (t19:zL3) (t20:Int) (t21:Int) (o:Int) (o_2:Int) (met:List Bool):qum_ self (at',many,left,t19,t20,t21,o,o_2,met)=q8f_ (q8d_) (q4e_ (fun at' many left t19 t20 t21 o o_2 met=>self (at',many,left,t19,t20,t21,o,o_2,met))) (fun at' many left t19 t20 t21 o o_2 met=>self (at',many,left,t19,t20,t21,o,o_2,met)) at' many left t19 t20 t21 o o_2 met:=rfl
theorem q153_  (at':Int) (many:Int) (left:Int) (t19:zL3) (t20:Int) (t21:Int) (o:Int) (o_2:Int) (met:List Bool):q8c_ at' many left t19 t20 t21 o o_2 met=loopF (qum_) 18446744073709551616 (at',many,left,t19,t20,t21,o,o_2,met):=rfl
def qur_ (u1:zL7):=(fun (self:zL8) (s:zL9)=>q8m_ (q5w_ u1 (fun at' many left to' i t19 t20 t21 o o_2 met x=>self (at',many,left,to',i,t19,t20,t21,o,o_2,met,x))) u1 (fun at' many left to' i t19 t20 t21 o o_2 met x=>self (at',many,left,to',i,t19,t20,t21,o,o_2,met,x)) s.1 s.2.1 s.2.2.1 s.2.2.2.1 s.2.2.2.2.1 s.2.2.2.2.2.1 s.2.2.2.2.2.2.1 s.2.2.2.2.2.2.2.1 s.2.2.2.2.2.2.2.2.1 s.2.2.2.2.2.2.2.2.2.1 s.2.2.2.2.2.2.2.2.2.2.1 s.2.2.2.2.2.2.2.2.2.2.2)
theorem q14o_ (u1:zL7) (self:zL8) (at' many left to' i:Int) (t19:zL3) (t20 t21 o o_2:Int) (met:List Bool) (x:zL4):qur_ u1 self (at',many,left,to',i,t19,t20,t21,o,o_2,met,x)=q8m_ (q5w_ u1 (fun at' many left to' i t19 t20 t21 o o_2 met x=>self (at',many,left,to',i,t19,t20,t21,o,o_2,met,x))) u1 (fun at' many left to' i t19 t20 t21 o o_2 met x=>self (at',many,left,to',i,t19,t20,t21,o,o_2,met,x)) at' many left to' i t19 t20 t21 o o_2 met x:=rfl
theorem q14s_ (u1:zL7) (at' many left to' i:Int) (t19:zL3) (t20 t21 o o_2:Int) (met:List Bool) (x:zL4):q4f_ u1 at' many left to' i t19 t20 t21 o o_2 met x=loopF (qur_ u1) 18446744073709551616 (at',many,left,to',i,t19,t20,t21,o,o_2,met,x):=rfl
def quv_ :=(fun (self:zL10) (s:zL11)=>q8l_ (q8b_) (q4f_ (fun at' many left t19 t20 t21 o o_2 met=>self (at',many,left,t19,t20,t21,o,o_2,met))) (fun at' many left t19 t20 t21 o o_2 met=>self (at',many,left,t19,t20,t21,o,o_2,met)) s.1 s.2.1 s.2.2.1 s.2.2.2.1 s.2.2.2.2.1 s.2.2.2.2.2.1 s.2.2.2.2.2.2.1 s.2.2.2.2.2.2.2.1 s.2.2.2.2.2.2.2.2)
theorem q154_  (self:zL10) (at':Int) (many:Int) (left:Int) (t19:zL3) (t20:Int) (t21:Int) (o:Int) (o_2:Int) (met:List Bool):quv_ self (at',many,left,t19,t20,t21,o,o_2,met)=q8l_ (q8b_) (q4f_ (fun at' many left t19 t20 t21 o o_2 met=>self (at',many,left,t19,t20,t21,o,o_2,met))) (fun at' many left t19 t20 t21 o o_2 met=>self (at',many,left,t19,t20,t21,o,o_2,met)) at' many left t19 t20 t21 o o_2 met:=rfl
theorem q14p_  (at':Int) (many:Int) (left:Int) (t19:zL3) (t20:Int) (t21:Int) (o:Int) (o_2:Int) (met:List Bool):q8k_ at' many left t19 t20 t21 o o_2 met=loopF (quv_) 18446744073709551616 (at',many,left,t19,t20,t21,o,o_2,met):=rfl
theorem each_br_in (u1:Int->Int->Int->List TArea->Int->Int->List Bool->Option (As [.bool])) {w:TArea->Bool} {l:List TArea} {p:Int} {m t:Nat} {r:As [.bool]} (hp:0≤p) (hpm:p + (m:Int)≤1000000000000) (ht:t < l.length) (hw:∀ x,q13_ (x,())=some (w x,())) {f to':Int} (hf:p≤f) (hfe:f≤p + (m:Int)) (hte:to'≤p + (m:Int))
  (hcov:∀ i,p≤i->i < p + (m:Int)->(covS l[t] i=true ↔ f≤i∧i < to')) (hR:∀ met left,MetI w l p m (fun i=>(qn_ (l.take (t + 1)) i).isSome) met left->u1 p (m:Int) left l (l.length:Int) (add .i64 (t:Int) 1) met=some r) (hr:eachS w l p m=false->r=(false,()))
  (met:List Bool) (left:Int) (h:MetI w l p m (fun i=>(qn_ (l.take t) i).isSome) met left) :
  q4d_ u1 p (m:Int) left to' f l (l.length:Int) (t:Int) met l[t]=some r:=by
 rw [q14v_]
 refine loopF_eq (Inv:=fun s=>∃ (i:Int) (met:List Bool) (left:Int),s=(p,(m:Int),left,to',i,l,(l.length:Int),(t:Int),met,l[t])∧f≤i∧(i≤to'∨i=f)∧MetI w l p m (fun j=>(qn_ (l.take t) j).isSome || (decide (f≤j) && decide (j < i))) met left)
  (μ:=fun s=>(to' - s.2.2.2.2.1).toNat) (G:=fun _=>some r) ?_ _ _ ⟨f,met,left,rfl,Int.le_refl _,.inr rfl,q3u_ h fun k hk=>by
   have:(decide (f≤p + (k:Int)) && decide (p + (k:Int) < f))=false:=by
    by_cases hh:f≤p + (k:Int)
    ·rw [decide_eq_false (show ¬ (p + (k:Int) < f) by omega),Bool.and_false]
    ·rw [decide_eq_false hh,Bool.false_and]
   rw [this,Bool.or_false]⟩ (by dsimp only; omega)
 rintro self s ⟨i,met,left,rfl,hi1,hi2,hI⟩ ih
 rw [q14i_]
 unfold q8q_
 by_cases hlt:i < to'
 ·rw [if_pos (q5_.2 hlt)]
  have hk:(i - p).toNat < m:=by omega
  have hki:p + (((i - p).toNat:Nat):Int)=i:=by omega
  have hs:sub .i64 i p=(((i - p).toNat:Nat):Int):=by rw [sub64 (by omega) (by omega)]; omega
  obtain ⟨g1,g2⟩:=hI.2.2 _ hk
  dsimp only at g1 g2
  rw [hki] at g1 g2
  have hdf:(decide (f≤i) && decide (i < i))=false:=by rw [decide_eq_false (show ¬ i < i by omega),Bool.and_false]
  rw [hdf,Bool.or_false] at g1 g2
  have K4:∀ left met,q5u_ u1 (fun at' many left to' i t19 t20 t21 met x=>self (at',many,left,to',i,t19,t20,t21,met,x)) p (m:Int) left to' i l (l.length:Int) (t:Int) met l[t]=self (p,(m:Int),left,to',i + 1,l,(l.length:Int),(t:Int),met,l[t]):=fun left met=>by
   unfold q5u_ qm2_
   rw [add64 (by omega) (by omega)]
  have hcong:∀ (k:Nat),k < m->∀ b:Bool,b=(((qn_ (l.take t) (p + (k:Int))).isSome || (decide (f≤p + (k:Int)) && decide (p + (k:Int) < i))) || decide (p + (k:Int)=i))->((qn_ (l.take t) (p + (k:Int))).isSome || (decide (f≤p + (k:Int)) && decide (p + (k:Int) < i + 1)))=b:=fun k hk b hc=>by
   rw [hc,Bool.or_assoc]
   congr 1
   rw [Bool.eq_iff_iff]
   simp only [Bool.or_eq_true,zO,decide_eq_true_eq]
   omega
  rw [hs,qf_ g1]
  simp only [zD]
  cases hb:(qn_ (l.take t) i).isSome with
  | true =>
   rw [if_pos rfl,K4]
   refine ih _ ⟨i + 1,met,left,rfl,by omega,.inl (by omega),q3u_ hI (fun k hk=>hcong k hk _ ?_)⟩ (by dsimp only; omega)
   by_cases hki':p + (k:Int)=i
   ·rw [hki',hb,Bool.true_or,Bool.true_or]
   ·rw [decide_eq_false hki',Bool.or_false]
  | false =>
   rw [if_neg (by decide),hw,zD]
   dsimp only
   have hnone:qn_ (l.take t) i=none:=by simpa using hb
   have hfirst:qn_ l i=some l[t]:=by
    have hc:=(hcov i (by omega) (by omega)).2 ⟨hi1,hlt⟩
    have:=first_next ht i
    rw [hnone,hc] at this
    exact first_take this
   have hwf:wantF w l i=w l[t]:=by
    unfold wantF
    rw [hfirst]
   cases hwx:w l[t] with
   | false =>
    rw [if_pos (by decide)]
    rw [hr (met_false hk (by rw [hki,hwf,hwx]))]
   | true =>
    rw [if_neg (by decide)]
    have hset:=met_set hI hk (by rw [hki,hdf,Bool.or_false]; exact hb) (by rw [hki,hwf,hwx])
    rw [zQ,K4]
    have hl1:sub .i64 left 1=left - 1:=by
     have:=hI.2.1
     have h2:=List.countP_le_length (p:=fun b:Bool=>!b) (l:=met)
     have h3:=hI.1
     rw [sub64 (by omega) (by omega)]
    rw [hl1]
    refine ih _ ⟨i + 1,_,_,rfl,by omega,.inl (by omega),q3u_ hset (fun k hk=>hcong k hk _ ?_)⟩ (by dsimp only; omega)
    rw [hki]
 ·rw [if_neg (fun e=>hlt (q5_.1 e))]
  refine hR met left (q3u_ hI fun k hk=>?_)
  have hc:=hcov (p + (k:Int)) (by omega) (by omega)
  rw [first_next ht]
  have hcb:covS l[t] (p + (k:Int))=(decide (f≤p + (k:Int)) && decide (p + (k:Int) < i)):=by
   rw [Bool.eq_iff_iff,hc]
   simp only [zO,decide_eq_true_eq]
   omega
  rw [<- hcb]
  cases hx:qn_ (l.take t) (p + (k:Int)) with
  | some y=>rfl
  | none =>
   cases covS l[t] (p + (k:Int)) <;> rfl
theorem each_br_eq {w:TArea->Bool} {l:List TArea} {p:Int} {m:Nat} (hp:0≤p) (hm:m≤1000000) (hpm:p≤1000000) (hl:l.length≤1000000) (ho:∀ x ∈ l,OkAr x) (hw:∀ x,q13_ (x,())=some (w x,())):qe9_ (l,p,(m:Int),())=some (eachS w l p m,()):=by
 show qd6_ q8s_ l p (m:Int)=_
 unfold qd6_
 rw [q9_ (qs_.2 (by omega)),q9_ (capOk_sf _),zQ,qe_ (by omega)]
 rw [q14t_]
 refine loopF_eq (Inv:=fun s=>∃ (t:Nat) (met:List Bool) (left:Int),s=(p,(m:Int),left,l,(l.length:Int),(t:Int),met)∧t≤l.length∧MetI w l p m (fun i=>(qn_ (l.take t) i).isSome) met left)
  (μ:=fun s=>(zF l.length - s.2.2.2.2.2.1).toNat) (G:=fun _=>some (eachS w l p m,())) ?_ _ _ ⟨0,_,_,rfl,Nat.zero_le _,met_0 w l p m⟩ (by dsimp only; rw [q2_]; omega)
 rintro self s ⟨t,met,left,rfl,ht,hI⟩ ih
 rw [q14k_]
 unfold q8o_
 have k2:q89_ left=some (eqi left 0,()):=rfl
 by_cases hlt:t < l.length
 ·have hg:=zV hlt
  rw [if_pos (by rw [q5_]; omega),qf_ hg,zD]
  by_cases h0:left=0
  ·rw [if_pos (q4_.2 h0),k2,q4_.2 h0,met_zero hI h0]
  ·rw [if_neg (fun e=>h0 (q4_.1 e)),add64 (by omega) (by omega)]
   obtain ⟨f,t',e1,e2,e3,e4,e5⟩:=meet_gen (x:=l[t]) (p:=p) (e:=p + (m:Int)) hp (by omega) (by omega) (ho _ (List.getElem_mem hlt))
   rw [e1,zD]
   refine each_br_in _ hp (by omega) hlt hw e2 e3 e4 e5 (fun met left hI'=>?_) (fun e=>by rw [e]) met left hI
   rw [qv_ (by omega)]
   exact ih _ ⟨t + 1,met,left,rfl,by omega,hI'⟩ (by dsimp only; rw [q2_]; omega)
 ·have htl:t=l.length:=by omega
  subst htl
  rw [if_neg (by rw [q5_]; omega),k2]
  by_cases h0:left=0
  ·rw [q4_.2 h0,met_zero hI h0]
  ·rw [List.take_length] at hI
   rw [met_left hI h0,show eqi left 0=false from decide_eq_false h0]
theorem each_ur_in (u1:Int->Int->Int->List TArea->Int->Int->List Bool->Option (As [.bool])) {w:TArea->Bool} {l:List TArea} {p:Int} {m t:Nat} {r:As [.bool]} (hp:0≤p) (hpm:p + (m:Int)≤1000000000000) (ht:t < l.length) (hw:∀ x,qz_ (x,())=some (w x,())) {f to':Int} (hf:p≤f) (hfe:f≤p + (m:Int)) (hte:to'≤p + (m:Int))
  (hcov:∀ i,p≤i->i < p + (m:Int)->(covS l[t] i=true ↔ f≤i∧i < to')) (hR:∀ met left,MetI w l p m (fun i=>(qn_ (l.take (t + 1)) i).isSome) met left->u1 p (m:Int) left l (l.length:Int) (add .i64 (t:Int) 1) met=some r) (hr:eachS w l p m=false->r=(false,()))
  (met:List Bool) (left:Int) (h:MetI w l p m (fun i=>(qn_ (l.take t) i).isSome) met left) :
  q4g_ u1 p (m:Int) left to' f l (l.length:Int) (t:Int) met l[t]=some r:=by
 rw [q14c_]
 refine loopF_eq (Inv:=fun s=>∃ (i:Int) (met:List Bool) (left:Int),s=(p,(m:Int),left,to',i,l,(l.length:Int),(t:Int),met,l[t])∧f≤i∧(i≤to'∨i=f)∧MetI w l p m (fun j=>(qn_ (l.take t) j).isSome || (decide (f≤j) && decide (j < i))) met left)
  (μ:=fun s=>(to' - s.2.2.2.2.1).toNat) (G:=fun _=>some r) ?_ _ _ ⟨f,met,left,rfl,Int.le_refl _,.inr rfl,q3u_ h fun k hk=>by
   have:(decide (f≤p + (k:Int)) && decide (p + (k:Int) < f))=false:=by
    by_cases hh:f≤p + (k:Int)
    ·rw [decide_eq_false (show ¬ (p + (k:Int) < f) by omega),Bool.and_false]
    ·rw [decide_eq_false hh,Bool.false_and]
   rw [this,Bool.or_false]⟩ (by dsimp only; omega)
 rintro self s ⟨i,met,left,rfl,hi1,hi2,hI⟩ ih
 rw [q150_]
 unfold q8n_
 by_cases hlt:i < to'
 ·rw [if_pos (q5_.2 hlt)]
  have hk:(i - p).toNat < m:=by omega
  have hki:p + (((i - p).toNat:Nat):Int)=i:=by omega
  have hs:sub .i64 i p=(((i - p).toNat:Nat):Int):=by rw [sub64 (by omega) (by omega)]; omega
  obtain ⟨g1,g2⟩:=hI.2.2 _ hk
  dsimp only at g1 g2
  rw [hki] at g1 g2
  have hdf:(decide (f≤i) && decide (i < i))=false:=by rw [decide_eq_false (show ¬ i < i by omega),Bool.and_false]
  rw [hdf,Bool.or_false] at g1 g2
  have K4:∀ left met,q5y_ u1 (fun at' many left to' i t19 t20 t21 met x=>self (at',many,left,to',i,t19,t20,t21,met,x)) p (m:Int) left to' i l (l.length:Int) (t:Int) met l[t]=self (p,(m:Int),left,to',i + 1,l,(l.length:Int),(t:Int),met,l[t]):=fun left met=>by
   unfold q5y_ qlt_
   rw [add64 (by omega) (by omega)]
  have hcong:∀ (k:Nat),k < m->∀ b:Bool,b=(((qn_ (l.take t) (p + (k:Int))).isSome || (decide (f≤p + (k:Int)) && decide (p + (k:Int) < i))) || decide (p + (k:Int)=i))->((qn_ (l.take t) (p + (k:Int))).isSome || (decide (f≤p + (k:Int)) && decide (p + (k:Int) < i + 1)))=b:=fun k hk b hc=>by
   rw [hc,Bool.or_assoc]
   congr 1
   rw [Bool.eq_iff_iff]
   simp only [Bool.or_eq_true,zO,decide_eq_true_eq]
   omega
  rw [hs,qf_ g1]
  simp only [zD]
  cases hb:(qn_ (l.take t) i).isSome with
  | true =>
   rw [if_pos rfl,K4]
   refine ih _ ⟨i + 1,met,left,rfl,by omega,.inl (by omega),q3u_ hI (fun k hk=>hcong k hk _ ?_)⟩ (by dsimp only; omega)
   by_cases hki':p + (k:Int)=i
   ·rw [hki',hb,Bool.true_or,Bool.true_or]
   ·rw [decide_eq_false hki',Bool.or_false]
  | false =>
   rw [if_neg (by decide),hw,zD]
   dsimp only
   have hnone:qn_ (l.take t) i=none:=by simpa using hb
   have hfirst:qn_ l i=some l[t]:=by
    have hc:=(hcov i (by omega) (by omega)).2 ⟨hi1,hlt⟩
    have:=first_next ht i
    rw [hnone,hc] at this
    exact first_take this
   have hwf:wantF w l i=w l[t]:=by
    unfold wantF
    rw [hfirst]
   cases hwx:w l[t] with
   | false =>
    rw [if_pos (by decide)]
    rw [hr (met_false hk (by rw [hki,hwf,hwx]))]
   | true =>
    rw [if_neg (by decide)]
    have hset:=met_set hI hk (by rw [hki,hdf,Bool.or_false]; exact hb) (by rw [hki,hwf,hwx])
    rw [zQ,K4]
    have hl1:sub .i64 left 1=left - 1:=by
     have:=hI.2.1
     have h2:=List.countP_le_length (p:=fun b:Bool=>!b) (l:=met)
     have h3:=hI.1
     rw [sub64 (by omega) (by omega)]
    rw [hl1]
    refine ih _ ⟨i + 1,_,_,rfl,by omega,.inl (by omega),q3u_ hset (fun k hk=>hcong k hk _ ?_)⟩ (by dsimp only; omega)
    rw [hki]
 ·rw [if_neg (fun e=>hlt (q5_.1 e))]
  refine hR met left (q3u_ hI fun k hk=>?_)
  have hc:=hcov (p + (k:Int)) (by omega) (by omega)
  rw [first_next ht]
  have hcb:covS l[t] (p + (k:Int))=(decide (f≤p + (k:Int)) && decide (p + (k:Int) < i)):=by
   rw [Bool.eq_iff_iff,hc]
   simp only [zO,decide_eq_true_eq]
   omega
  rw [<- hcb]
  cases hx:qn_ (l.take t) (p + (k:Int)) with
  | some y=>rfl
  | none =>
   cases covS l[t] (p + (k:Int)) <;> rfl
theorem each_ur_eq {w:TArea->Bool} {l:List TArea} {p:Int} {m:Nat} (hp:0≤p) (hm:m≤1000000) (hpm:p≤1000000) (hl:l.length≤1000000) (ho:∀ x ∈ l,OkAr x) (hw:∀ x,qz_ (x,())=some (w x,())):qe0_ (l,p,(m:Int),())=some (eachS w l p m,()):=by
 show qdq_ q91_ l p (m:Int)=_
 unfold qdq_
 rw [q9_ (qs_.2 (by omega)),q9_ (capOk_sf _),zQ,qe_ (by omega)]
 rw [q14j_]
 refine loopF_eq (Inv:=fun s=>∃ (t:Nat) (met:List Bool) (left:Int),s=(p,(m:Int),left,l,(l.length:Int),(t:Int),met)∧t≤l.length∧MetI w l p m (fun i=>(qn_ (l.take t) i).isSome) met left)
  (μ:=fun s=>(zF l.length - s.2.2.2.2.2.1).toNat) (G:=fun _=>some (eachS w l p m,())) ?_ _ _ ⟨0,_,_,rfl,Nat.zero_le _,met_0 w l p m⟩ (by dsimp only; rw [q2_]; omega)
 rintro self s ⟨t,met,left,rfl,ht,hI⟩ ih
 rw [q151_]
 unfold q8u_
 have k2:q8r_ left=some (eqi left 0,()):=rfl
 by_cases hlt:t < l.length
 ·have hg:=zV hlt
  rw [if_pos (by rw [q5_]; omega),qf_ hg,zD]
  by_cases h0:left=0
  ·rw [if_pos (q4_.2 h0),k2,q4_.2 h0,met_zero hI h0]
  ·rw [if_neg (fun e=>h0 (q4_.1 e)),add64 (by omega) (by omega)]
   obtain ⟨f,t',e1,e2,e3,e4,e5⟩:=meet_gen (x:=l[t]) (p:=p) (e:=p + (m:Int)) hp (by omega) (by omega) (ho _ (List.getElem_mem hlt))
   rw [e1,zD]
   refine each_ur_in _ hp (by omega) hlt hw e2 e3 e4 e5 (fun met left hI'=>?_) (fun e=>by rw [e]) met left hI
   rw [qv_ (by omega)]
   exact ih _ ⟨t + 1,met,left,rfl,by omega,hI'⟩ (by dsimp only; rw [q2_]; omega)
 ·have htl:t=l.length:=by omega
  subst htl
  rw [if_neg (by rw [q5_]; omega),k2]
  by_cases h0:left=0
  ·rw [q4_.2 h0,met_zero hI h0]
  ·rw [List.take_length] at hI
   rw [met_left hI h0,show eqi left 0=false from decide_eq_false h0]
theorem each_bw_in (u1:Int->Int->Int->List TArea->Int->Int->Int->Int->List Bool->Option (As [.bool,.int .i64,.int .i64])) {w:TArea->Bool} {l:List TArea} {p:Int} {m t:Nat} {r:As [.bool,.int .i64,.int .i64]} {o o2:Int} (hp:0≤p) (hpm:p + (m:Int)≤1000000000000) (ht:t < l.length) (hw:∀ x,qx_ (x,o,o2,())=some (w x,o,o2,())) {f to':Int} (hf:p≤f) (hfe:f≤p + (m:Int)) (hte:to'≤p + (m:Int))
  (hcov:∀ i,p≤i->i < p + (m:Int)->(covS l[t] i=true ↔ f≤i∧i < to')) (hR:∀ met left,MetI w l p m (fun i=>(qn_ (l.take (t + 1)) i).isSome) met left->u1 p (m:Int) left l (l.length:Int) (add .i64 (t:Int) 1) o o2 met=some r) (hr:eachS w l p m=false->r=(false,o,o2,()))
  (met:List Bool) (left:Int) (h:MetI w l p m (fun i=>(qn_ (l.take t) i).isSome) met left) :
  q4e_ u1 p (m:Int) left to' f l (l.length:Int) (t:Int) o o2 met l[t]=some r:=by
 rw [q14m_]
 refine loopF_eq (Inv:=fun s=>∃ (i:Int) (met:List Bool) (left:Int),s=(p,(m:Int),left,to',i,l,(l.length:Int),(t:Int),o,o2,met,l[t])∧f≤i∧(i≤to'∨i=f)∧MetI w l p m (fun j=>(qn_ (l.take t) j).isSome || (decide (f≤j) && decide (j < i))) met left)
  (μ:=fun s=>(to' - s.2.2.2.2.1).toNat) (G:=fun _=>some r) ?_ _ _ ⟨f,met,left,rfl,Int.le_refl _,.inr rfl,q3u_ h fun k hk=>by
   have:(decide (f≤p + (k:Int)) && decide (p + (k:Int) < f))=false:=by
    by_cases hh:f≤p + (k:Int)
    ·rw [decide_eq_false (show ¬ (p + (k:Int) < f) by omega),Bool.and_false]
    ·rw [decide_eq_false hh,Bool.false_and]
   rw [this,Bool.or_false]⟩ (by dsimp only; omega)
 rintro self s ⟨i,met,left,rfl,hi1,hi2,hI⟩ ih
 rw [q14r_]
 unfold q8i_
 by_cases hlt:i < to'
 ·rw [if_pos (q5_.2 hlt)]
  have hk:(i - p).toNat < m:=by omega
  have hki:p + (((i - p).toNat:Nat):Int)=i:=by omega
  have hs:sub .i64 i p=(((i - p).toNat:Nat):Int):=by rw [sub64 (by omega) (by omega)]; omega
  obtain ⟨g1,g2⟩:=hI.2.2 _ hk
  dsimp only at g1 g2
  rw [hki] at g1 g2
  have hdf:(decide (f≤i) && decide (i < i))=false:=by rw [decide_eq_false (show ¬ i < i by omega),Bool.and_false]
  rw [hdf,Bool.or_false] at g1 g2
  have K4:∀ left met,q5r_ u1 (fun at' many left to' i t19 t20 t21 o o2 met x=>self (at',many,left,to',i,t19,t20,t21,o,o2,met,x)) p (m:Int) left to' i l (l.length:Int) (t:Int) o o2 met l[t]=self (p,(m:Int),left,to',i + 1,l,(l.length:Int),(t:Int),o,o2,met,l[t]):=fun left met=>by
   unfold q5r_ qm5_
   rw [add64 (by omega) (by omega)]
  have hcong:∀ (k:Nat),k < m->∀ b:Bool,b=(((qn_ (l.take t) (p + (k:Int))).isSome || (decide (f≤p + (k:Int)) && decide (p + (k:Int) < i))) || decide (p + (k:Int)=i))->((qn_ (l.take t) (p + (k:Int))).isSome || (decide (f≤p + (k:Int)) && decide (p + (k:Int) < i + 1)))=b:=fun k hk b hc=>by
   rw [hc,Bool.or_assoc]
   congr 1
   rw [Bool.eq_iff_iff]
   simp only [Bool.or_eq_true,zO,decide_eq_true_eq]
   omega
  rw [hs,qf_ g1]
  simp only [zD]
  cases hb:(qn_ (l.take t) i).isSome with
  | true =>
   rw [if_pos rfl,K4]
   refine ih _ ⟨i + 1,met,left,rfl,by omega,.inl (by omega),q3u_ hI (fun k hk=>hcong k hk _ ?_)⟩ (by dsimp only; omega)
   by_cases hki':p + (k:Int)=i
   ·rw [hki',hb,Bool.true_or,Bool.true_or]
   ·rw [decide_eq_false hki',Bool.or_false]
  | false =>
   rw [if_neg (by decide),hw,zD]
   dsimp only
   have hnone:qn_ (l.take t) i=none:=by simpa using hb
   have hfirst:qn_ l i=some l[t]:=by
    have hc:=(hcov i (by omega) (by omega)).2 ⟨hi1,hlt⟩
    have:=first_next ht i
    rw [hnone,hc] at this
    exact first_take this
   have hwf:wantF w l i=w l[t]:=by
    unfold wantF
    rw [hfirst]
   cases hwx:w l[t] with
   | false =>
    rw [if_pos (by decide)]
    rw [hr (met_false hk (by rw [hki,hwf,hwx]))]
   | true =>
    rw [if_neg (by decide)]
    have hset:=met_set hI hk (by rw [hki,hdf,Bool.or_false]; exact hb) (by rw [hki,hwf,hwx])
    rw [zQ,K4]
    have hl1:sub .i64 left 1=left - 1:=by
     have:=hI.2.1
     have h2:=List.countP_le_length (p:=fun b:Bool=>!b) (l:=met)
     have h3:=hI.1
     rw [sub64 (by omega) (by omega)]
    rw [hl1]
    refine ih _ ⟨i + 1,_,_,rfl,by omega,.inl (by omega),q3u_ hset (fun k hk=>hcong k hk _ ?_)⟩ (by dsimp only; omega)
    rw [hki]
 ·rw [if_neg (fun e=>hlt (q5_.1 e))]
  refine hR met left (q3u_ hI fun k hk=>?_)
  have hc:=hcov (p + (k:Int)) (by omega) (by omega)
  rw [first_next ht]
  have hcb:covS l[t] (p + (k:Int))=(decide (f≤p + (k:Int)) && decide (p + (k:Int) < i)):=by
   rw [Bool.eq_iff_iff,hc]
   simp only [zO,decide_eq_true_eq]
   omega
  rw [<- hcb]
  cases hx:qn_ (l.take t) (p + (k:Int)) with
  | some y=>rfl
  | none =>
   cases covS l[t] (p + (k:Int)) <;> rfl
theorem each_bw_eq {w:TArea->Bool} {l:List TArea} {p:Int} {m:Nat} (hp:0≤p) (hm:m≤1000000) (hpm:p≤1000000) (hl:l.length≤1000000) (ho:∀ x ∈ l,OkAr x) {o o2:Int} (hw:∀ x,qx_ (x,o,o2,())=some (w x,o,o2,())):qe4_ (l,p,(m:Int),o,o2,())=some (eachS w l p m,o,o2,()):=by
 show qdb_ q8c_ l p (m:Int) o o2=_
 unfold qdb_
 rw [q9_ (qs_.2 (by omega)),q9_ (capOk_sf _),zQ,qe_ (by omega)]
 rw [q153_]
 refine loopF_eq (Inv:=fun s=>∃ (t:Nat) (met:List Bool) (left:Int),s=(p,(m:Int),left,l,(l.length:Int),(t:Int),o,o2,met)∧t≤l.length∧MetI w l p m (fun i=>(qn_ (l.take t) i).isSome) met left)
  (μ:=fun s=>(zF l.length - s.2.2.2.2.2.1).toNat) (G:=fun _=>some (eachS w l p m,o,o2,())) ?_ _ _ ⟨0,_,_,rfl,Nat.zero_le _,met_0 w l p m⟩ (by dsimp only; rw [q2_]; omega)
 rintro self s ⟨t,met,left,rfl,ht,hI⟩ ih
 rw [q14f_]
 unfold q8f_
 have k2:q8d_ left o o2=some (eqi left 0,o,o2,()):=rfl
 by_cases hlt:t < l.length
 ·have hg:=zV hlt
  rw [if_pos (by rw [q5_]; omega),qf_ hg,zD]
  by_cases h0:left=0
  ·rw [if_pos (q4_.2 h0),k2,q4_.2 h0,met_zero hI h0]
  ·rw [if_neg (fun e=>h0 (q4_.1 e)),add64 (by omega) (by omega)]
   obtain ⟨f,t',e1,e2,e3,e4,e5⟩:=meet_gen (x:=l[t]) (p:=p) (e:=p + (m:Int)) hp (by omega) (by omega) (ho _ (List.getElem_mem hlt))
   rw [e1,zD]
   refine each_bw_in _ hp (by omega) hlt hw e2 e3 e4 e5 (fun met left hI'=>?_) (fun e=>by rw [e]) met left hI
   rw [qv_ (by omega)]
   exact ih _ ⟨t + 1,met,left,rfl,by omega,hI'⟩ (by dsimp only; rw [q2_]; omega)
 ·have htl:t=l.length:=by omega
  subst htl
  rw [if_neg (by rw [q5_]; omega),k2]
  by_cases h0:left=0
  ·rw [q4_.2 h0,met_zero hI h0]
  ·rw [List.take_length] at hI
   rw [met_left hI h0,show eqi left 0=false from decide_eq_false h0]
theorem each_uw_in (u1:Int->Int->Int->List TArea->Int->Int->Int->Int->List Bool->Option (As [.bool,.int .i64,.int .i64])) {w:TArea->Bool} {l:List TArea} {p:Int} {m t:Nat} {r:As [.bool,.int .i64,.int .i64]} {o o2:Int} (hp:0≤p) (hpm:p + (m:Int)≤1000000000000) (ht:t < l.length) (hw:∀ x,qt_ (x,o,o2,())=some (w x,o,o2,())) {f to':Int} (hf:p≤f) (hfe:f≤p + (m:Int)) (hte:to'≤p + (m:Int))
  (hcov:∀ i,p≤i->i < p + (m:Int)->(covS l[t] i=true ↔ f≤i∧i < to')) (hR:∀ met left,MetI w l p m (fun i=>(qn_ (l.take (t + 1)) i).isSome) met left->u1 p (m:Int) left l (l.length:Int) (add .i64 (t:Int) 1) o o2 met=some r) (hr:eachS w l p m=false->r=(false,o,o2,()))
  (met:List Bool) (left:Int) (h:MetI w l p m (fun i=>(qn_ (l.take t) i).isSome) met left) :
  q4f_ u1 p (m:Int) left to' f l (l.length:Int) (t:Int) o o2 met l[t]=some r:=by
 rw [q14s_]
 refine loopF_eq (Inv:=fun s=>∃ (i:Int) (met:List Bool) (left:Int),s=(p,(m:Int),left,to',i,l,(l.length:Int),(t:Int),o,o2,met,l[t])∧f≤i∧(i≤to'∨i=f)∧MetI w l p m (fun j=>(qn_ (l.take t) j).isSome || (decide (f≤j) && decide (j < i))) met left)
  (μ:=fun s=>(to' - s.2.2.2.2.1).toNat) (G:=fun _=>some r) ?_ _ _ ⟨f,met,left,rfl,Int.le_refl _,.inr rfl,q3u_ h fun k hk=>by
   have:(decide (f≤p + (k:Int)) && decide (p + (k:Int) < f))=false:=by
    by_cases hh:f≤p + (k:Int)
    ·rw [decide_eq_false (show ¬ (p + (k:Int) < f) by omega),Bool.and_false]
    ·rw [decide_eq_false hh,Bool.false_and]
   rw [this,Bool.or_false]⟩ (by dsimp only; omega)
 rintro self s ⟨i,met,left,rfl,hi1,hi2,hI⟩ ih
 rw [q14o_]
 unfold q8m_
 by_cases hlt:i < to'
 ·rw [if_pos (q5_.2 hlt)]
  have hk:(i - p).toNat < m:=by omega
  have hki:p + (((i - p).toNat:Nat):Int)=i:=by omega
  have hs:sub .i64 i p=(((i - p).toNat:Nat):Int):=by rw [sub64 (by omega) (by omega)]; omega
  obtain ⟨g1,g2⟩:=hI.2.2 _ hk
  dsimp only at g1 g2
  rw [hki] at g1 g2
  have hdf:(decide (f≤i) && decide (i < i))=false:=by rw [decide_eq_false (show ¬ i < i by omega),Bool.and_false]
  rw [hdf,Bool.or_false] at g1 g2
  have K4:∀ left met,q5w_ u1 (fun at' many left to' i t19 t20 t21 o o2 met x=>self (at',many,left,to',i,t19,t20,t21,o,o2,met,x)) p (m:Int) left to' i l (l.length:Int) (t:Int) o o2 met l[t]=self (p,(m:Int),left,to',i + 1,l,(l.length:Int),(t:Int),o,o2,met,l[t]):=fun left met=>by
   unfold q5w_ qme_
   rw [add64 (by omega) (by omega)]
  have hcong:∀ (k:Nat),k < m->∀ b:Bool,b=(((qn_ (l.take t) (p + (k:Int))).isSome || (decide (f≤p + (k:Int)) && decide (p + (k:Int) < i))) || decide (p + (k:Int)=i))->((qn_ (l.take t) (p + (k:Int))).isSome || (decide (f≤p + (k:Int)) && decide (p + (k:Int) < i + 1)))=b:=fun k hk b hc=>by
   rw [hc,Bool.or_assoc]
   congr 1
   rw [Bool.eq_iff_iff]
   simp only [Bool.or_eq_true,zO,decide_eq_true_eq]
   omega
  rw [hs,qf_ g1]
  simp only [zD]
  cases hb:(qn_ (l.take t) i).isSome with
  | true =>
   rw [if_pos rfl,K4]
   refine ih _ ⟨i + 1,met,left,rfl,by omega,.inl (by omega),q3u_ hI (fun k hk=>hcong k hk _ ?_)⟩ (by dsimp only; omega)
   by_cases hki':p + (k:Int)=i
   ·rw [hki',hb,Bool.true_or,Bool.true_or]
   ·rw [decide_eq_false hki',Bool.or_false]
  | false =>
   rw [if_neg (by decide),hw,zD]
   dsimp only
   have hnone:qn_ (l.take t) i=none:=by simpa using hb
   have hfirst:qn_ l i=some l[t]:=by
    have hc:=(hcov i (by omega) (by omega)).2 ⟨hi1,hlt⟩
    have:=first_next ht i
    rw [hnone,hc] at this
    exact first_take this
   have hwf:wantF w l i=w l[t]:=by
    unfold wantF
    rw [hfirst]
   cases hwx:w l[t] with
   | false =>
    rw [if_pos (by decide)]
    rw [hr (met_false hk (by rw [hki,hwf,hwx]))]
   | true =>
    rw [if_neg (by decide)]
    have hset:=met_set hI hk (by rw [hki,hdf,Bool.or_false]; exact hb) (by rw [hki,hwf,hwx])
    rw [zQ,K4]
    have hl1:sub .i64 left 1=left - 1:=by
     have:=hI.2.1
     have h2:=List.countP_le_length (p:=fun b:Bool=>!b) (l:=met)
     have h3:=hI.1
     rw [sub64 (by omega) (by omega)]
    rw [hl1]
    refine ih _ ⟨i + 1,_,_,rfl,by omega,.inl (by omega),q3u_ hset (fun k hk=>hcong k hk _ ?_)⟩ (by dsimp only; omega)
    rw [hki]
 ·rw [if_neg (fun e=>hlt (q5_.1 e))]
  refine hR met left (q3u_ hI fun k hk=>?_)
  have hc:=hcov (p + (k:Int)) (by omega) (by omega)
  rw [first_next ht]
  have hcb:covS l[t] (p + (k:Int))=(decide (f≤p + (k:Int)) && decide (p + (k:Int) < i)):=by
   rw [Bool.eq_iff_iff,hc]
   simp only [zO,decide_eq_true_eq]
   omega
  rw [<- hcb]
  cases hx:qn_ (l.take t) (p + (k:Int)) with
  | some y=>rfl
  | none =>
   cases covS l[t] (p + (k:Int)) <;> rfl
theorem each_uw_eq {w:TArea->Bool} {l:List TArea} {p:Int} {m:Nat} (hp:0≤p) (hm:m≤1000000) (hpm:p≤1000000) (hl:l.length≤1000000) (ho:∀ x ∈ l,OkAr x) {o o2:Int} (hw:∀ x,qt_ (x,o,o2,())=some (w x,o,o2,())):qe3_ (l,p,(m:Int),o,o2,())=some (eachS w l p m,o,o2,()):=by
 show qd8_ q8k_ l p (m:Int) o o2=_
 unfold qd8_
 rw [q9_ (qs_.2 (by omega)),q9_ (capOk_sf _),zQ,qe_ (by omega)]
 rw [q14p_]
 refine loopF_eq (Inv:=fun s=>∃ (t:Nat) (met:List Bool) (left:Int),s=(p,(m:Int),left,l,(l.length:Int),(t:Int),o,o2,met)∧t≤l.length∧MetI w l p m (fun i=>(qn_ (l.take t) i).isSome) met left)
  (μ:=fun s=>(zF l.length - s.2.2.2.2.2.1).toNat) (G:=fun _=>some (eachS w l p m,o,o2,())) ?_ _ _ ⟨0,_,_,rfl,Nat.zero_le _,met_0 w l p m⟩ (by dsimp only; rw [q2_]; omega)
 rintro self s ⟨t,met,left,rfl,ht,hI⟩ ih
 rw [q154_]
 unfold q8l_
 have k2:q8b_ left o o2=some (eqi left 0,o,o2,()):=rfl
 by_cases hlt:t < l.length
 ·have hg:=zV hlt
  rw [if_pos (by rw [q5_]; omega),qf_ hg,zD]
  by_cases h0:left=0
  ·rw [if_pos (q4_.2 h0),k2,q4_.2 h0,met_zero hI h0]
  ·rw [if_neg (fun e=>h0 (q4_.1 e)),add64 (by omega) (by omega)]
   obtain ⟨f,t',e1,e2,e3,e4,e5⟩:=meet_gen (x:=l[t]) (p:=p) (e:=p + (m:Int)) hp (by omega) (by omega) (ho _ (List.getElem_mem hlt))
   rw [e1,zD]
   refine each_uw_in _ hp (by omega) hlt hw e2 e3 e4 e5 (fun met left hI'=>?_) (fun e=>by rw [e]) met left hI
   rw [qv_ (by omega)]
   exact ih _ ⟨t + 1,met,left,rfl,by omega,hI'⟩ (by dsimp only; rw [q2_]; omega)
 ·have htl:t=l.length:=by omega
  subst htl
  rw [if_neg (by rw [q5_]; omega),k2]
  by_cases h0:left=0
  ·rw [q4_.2 h0,met_zero hI h0]
  ·rw [List.take_length] at hI
   rw [met_left hI h0,show eqi left 0=false from decide_eq_false h0]
abbrev TCm:=Int×Int×Int×Int×Int
def RightL (l:TLs):Prop:=(l.1=0∧l.2=0)∨(l.1 ≠ 0∧(1≤l.2∨l.2=-1))
instance (l:TLs):Decidable (RightL l):=inferInstanceAs (Decidable (_∨_))
theorem lheld_eq (o:Int):qcu_ (o,())=some ((o,-1),()):=rfl
theorem lright_eq' (l:TLs):q112_ (l,())=some (decide (RightL l),()):=by
 obtain ⟨o,n⟩:=l
 show qr2_ (o,n)=_
 unfold qr2_
 simp only [lheld_eq,zD,q4_,qs_,Bool.and_true]
 by_cases h0:o=0
 ·rw [if_pos h0]
  congr 2
  rw [Bool.eq_iff_iff]
  simp [q4_,RightL,h0]
 ·rw [if_neg h0]
  by_cases h1:1≤n
  ·rw [if_pos h1]
   congr 2
   symm
   rw [decide_eq_true_eq]
   exact Or.inr ⟨h0,Or.inl h1⟩
  ·rw [if_neg h1]
   have e:(zC (qcu_ (o,())) fun y=>some (eqi o y.1.1 && eqi n y.1.2,()):Option (As [.bool]))=some (eqi o o && eqi n (-1),()):=rfl
   refine Eq.trans e (congrArg (fun b=>some (b,())) ?_)
   rw [Bool.eq_iff_iff,zO,q4_,q4_,decide_eq_true_eq]
   constructor
   ·rintro ⟨_,e⟩
    exact Or.inr ⟨h0,Or.inr e⟩
   ·rintro (⟨e,_⟩ | ⟨_,e | e⟩)
    ·omega
    ·omega
    omega
def cntL (l:TLs):TLs:=if RightL l then l else (0,0)
theorem lcnt_eq (l:TLs):q9s_ (l,())=some (cntL l,()):=by
 show qlv_ l=_
 grind [qlv_,cntL,lright_eq',RightL]
theorem cnt_right {l:TLs} (h:RightL l):cntL l=l:=if_pos h
theorem lfree_eq {l:TLs} (h:RightL l):q6e_ (l,())=some (decide (l.1=0),()):=by
 show qv4_ l=_
 unfold qv4_
 rw [lcnt_eq,zD,cnt_right h,Bool.and_true]
 congr 2
 rw [Bool.eq_iff_iff]
 simp only [zO,q4_,decide_eq_true_eq]
 grind [RightL]
def takeL (l:TLs) (o t:Int):TLs:=if l=(o,-1) then l else (o,t)
theorem ltake_eq {l:TLs} {o t:Int} (h:RightL l) (ho:o ≠ 0) (ht:1≤t) (hf:l.1=0∨l.1=o):qwl_ (l,o,t,())=some (takeL l o t,0,()):=by
 obtain ⟨l1,l2⟩:=l
 show qke_ qvc_ (l1,l2) o t=_
 unfold qke_
 rw [lcnt_eq,zD,cnt_right h]
 dsimp only
 rw [if_neg (fun e=>ho (q4_.1 e)),lt_dec,decide_eq_false (by omega)]
 show qkk_ qk9_ o t false (l1,l2) (0,0)=_
 unfold qkk_
 rw [if_neg (by decide),lfree_eq h,zD]
 have K2:∀ b z,b=false->qk9_ o t b (l1,l2) z=some (takeL (l1,l2) o t,0,()):=fun b z hb=>by
  subst hb
  show qjz_ o t false (l1,l2) z=_
  unfold qjz_ takeL
  rw [if_neg (by decide),lheld_eq,zD]
  simp only [Bool.and_true,zO,q4_,Prod.mk.injEq]
  grind
 by_cases h0:l1=0
 ·simp_all
 ·rw [if_pos (by grind)]
  refine K2 _ _ ?_
  rw [Bool.eq_false_iff]
  simp_all [qd_,absurd]
theorem lhold_eq {l:TLs} {o:Int} (h:RightL l) (ho:o ≠ 0) (hf:l.1=o):q13b_ (l,o,())=some ((o,-1),0,()):=by
 show qw6_ l o=_
 unfold qw6_
 rw [lcnt_eq,zD,cnt_right h]
 dsimp only
 rw [if_neg (fun e=>ho (q4_.1 e)),if_neg (fun e=>qd_.1 e hf),lheld_eq,zD]
def fitsB (x:TBlk):Bool:=decide (x.2.length≤14∧0≤x.1∧x.1≤63∧x.1 + (x.2.length:Int)≤64)
theorem bfits_eq {x:TBlk} (h:x.2.length≤1000000):q5j_ (x,())=some (fitsB x,()):=by
 obtain ⟨p,w⟩:=x
 show qxn_ (p,w)=_
 unfold qxn_ fitsB
 simp only [qo_,qs_,q5_,q2_] at h ⊢
 by_cases h1:(w.length:Int)≤14
 ·rw [if_pos h1]
  by_cases h2:0≤p
  ·rw [if_pos h2]
   by_cases h3:p < 64
   ·rw [if_pos h3,add64 (by omega) (by omega),le_dec]
    grind
   grind
  grind
 grind
def zB:TBlk:=(0,[])
def nzB (hv:List Bool) (bs:List TBlk):List TBlk:=List.zipWith (fun h b=>if h=true then b else zB) hv bs
theorem nzB_len {hv:List Bool} {bs:List TBlk} (h1:hv.length=8) (h2:bs.length=8):(nzB hv bs).length=8:=by simp_all [nzB,List.length_zipWith]
theorem nzB_at {hv:List Bool} {bs:List TBlk} {i:Nat} {h:Bool} {b:TBlk} (h1:hv[i]? = some h) (h2:bs[i]? = some b):(nzB hv bs)[i]? = some (if h=true then b else zB):=by
 simp_all [nzB,List.getElem?_zipWith]
theorem mix_set {α:Type} {xs ys:List α} (hl:xs.length=ys.length) {i:Nat} {y:α} (h:ys[i]? = some y):(ys.take i++xs.drop i).set i y=ys.take (i + 1)++xs.drop (i + 1):=by
 grind [List.getElem?_eq_some_iff,List.take_add_one,List.drop_eq_getElem_cons,kB,List.append_assoc,List.singleton_append,set_at]
def ownA (a:TAg):TAg:=(a.1,a.2.1,a.2.2.1,a.2.2.2.1,a.2.2.2.2.1,(a.2.2.2.2.2.1.1,a.2.2.2.2.2.1.2.1,nzB a.2.2.2.2.2.1.2.1 a.2.2.2.2.2.1.2.2),a.2.2.2.2.2.2)
structure SzA (a:TAg):Prop where
 bk:a.1.length≤1000
 hv:a.2.2.2.2.2.1.2.1.length=8
 bs:a.2.2.2.2.2.1.2.2.length=8
 bw:∀ b ∈ a.2.2.2.2.2.1.2.2,b.2.length≤1000
theorem get_of {α:Type} {xs:List α} {i:Nat} (h:i < xs.length):∃ x,xs[i]? = some x:=⟨xs[i],zV h⟩
theorem aown_eq {a:TAg} (h:SzA a):qmm_ (a,())=some (ownA a,()):=by
 obtain ⟨bk,ls,ph,tx,la,⟨st,hv,bs⟩,tk⟩:=a
 obtain ⟨hk,h1,h2,h3⟩:=h
 dsimp only at hk h1 h2 h3
 show qpa_ qce_ (bk,ls,ph,tx,la,(st,hv,bs),tk)=_
 unfold qpa_
 rw [q2h_ (show bk.length≤1000000 by omega)]
 have hl:=nzB_len h1 h2
 show qce_ 0 0 hv 0 [(bk,ls,ph,tx,la,(st,hv,bs),tk)] _=some ((bk,ls,ph,tx,la,(st,hv,nzB hv bs),tk),())
 unfold qce_
 refine loop_dt (N:=8) (mk:=fun i=>(0,0,hv,(i:Int),[(bk,ls,ph,tx,la,(st,hv,(nzB hv bs).take i++bs.drop i),tk)],_)) ?_ ?_ 8 0 _ (by omega) (by omega)
 ·intro self i hi
  show qbm_ (qge_ _) _ 0 0 hv (i:Int) [(bk,ls,ph,tx,la,(st,hv,(nzB hv bs).take i++bs.drop i),tk)] _=self (0,0,hv,((i + 1:Nat):Int),[(bk,ls,ph,tx,la,(st,hv,(nzB hv bs).take (i + 1)++bs.drop (i + 1)),tk)],_)
  obtain ⟨x,hx⟩:=get_of (xs:=hv) (i:=i) (by omega)
  obtain ⟨b,hb⟩:=get_of (xs:=bs) (i:=i) (by omega)
  have hm:at? ((nzB hv bs).take i++bs.drop i) (i:Int)=some b:=qf_ (by grind)
  have hs:=mix_set (xs:=bs) (ys:=nzB hv bs) (by omega) (nzB_at hx hb)
  unfold qbm_
  have l8:lt (i:Int) 8=true:=q5_.2 (by omega)
  have g0:ge (i:Int) 0=true:=qs_.2 (by omega)
  have K2:∀ y z,qge_ (fun a t2 t12 t13 a_2 t2_2=>self (a,t2,t12,t13,a_2,t2_2)) 0 0 (i:Int) hv (i:Int) [(bk,ls,ph,tx,la,(st,hv,(nzB hv bs).take i++bs.drop i),tk)] z y=self (0,0,hv,((i + 1:Nat):Int),[(bk,ls,ph,tx,la,(st,hv,((nzB hv bs).take i++bs.drop i).set i y),tk)],z):=fun y z=>by
   show qok_ _ _ _ _ _ _ _ _ _=_
   grind [qok_,q9_,q12_,qv_]
  rw [if_pos l8,q9_ l8,qf_ hx,zD]
  cases x with
  | true =>
   rw [if_pos rfl,q9_ g0,q9_ l8,q12_,zD]
   grind [q9_,q2h_,zY]
  | false =>
   rw [if_neg (by decide),K2,<- hs]
   rfl
 ·intro self
  show qbm_ (qge_ _) _ 0 0 hv (8:Int) [(bk,ls,ph,tx,la,(st,hv,(nzB hv bs).take 8++bs.drop 8),tk)] _=_
  unfold qbm_
  rw [if_neg (by decide)]
  have e1:(nzB hv bs).take 8++bs.drop 8=nzB hv bs:=by
   grind
  rw [e1]
  rfl
theorem wr32 (x:Int):IntKind.u32.wrap x=x % 4294967296:=by
 rfl
theorem shr16 {x:Int}:shr .u32 x 16=x / 65536:=by
 unfold shr
 have:min (16:Int).toNat IntKind.u32.bits=16:=by decide
 grind
theorem parts_eq {x:Int} (h0:0≤x) (h1:x≤4294967295):q7p_ (x,())=some (x / 65536,x % 65536,()):=by
 show qs5_ x=_
 grind [qs5_,shr16,cvt16]
theorem shl16 {y:Int} (h0:0≤y) (h1:y≤65535):shl .u32 (cvt .u32 y) 16=65536 * y:=by
 unfold cvt
 rw [wr32]
 unfold shl
 have:min (16:Int).toNat IntKind.u32.bits=16:=by decide
 grind [wr32]
theorem bor_lo {a b:Int} (ha:0≤a) (ha2:a≤65535) (hb:0≤b) (hb':b≤65535):bor .u32 (65536 * a) b=65536 * a + b:=by
 obtain ⟨n,rfl⟩:=zN ha
 obtain ⟨m,rfl⟩:=zN hb
 unfold bor
 rw [wr32]
 have e1:(BitVec.ofInt IntKind.u32.bits (65536 * (n:Int))).toNat=65536 * n:=by
  rw [BitVec.toNat_ofInt]
  have:((2 ^ IntKind.u32.bits:Nat):Int)=4294967296:=by decide
  grind
 have e2:(BitVec.ofInt IntKind.u32.bits (m:Int)).toNat=m:=by
  rw [BitVec.toNat_ofInt]
  have:((2 ^ IntKind.u32.bits:Nat):Int)=4294967296:=by decide
  grind
 rw [BitVec.toNat_or,e1,e2]
 have e3:65536 * n ||| m=65536 * n + m:=by
  have:=Nat.two_pow_add_eq_or_of_lt (i:=16) (b:=m) (by omega) n
  simp_all
 omega
theorem wide_eq {a b:Int} (ha:0≤a) (ha2:a≤65535) (hb:0≤b) (hb':b≤65535):q33_ (a,b,())=some (65536 * a + b,()):=by
 show qvr_ a b=_
 unfold qvr_
 rw [shl16 ha ha2,show cvt .u32 b=b from wu32 hb (by omega),bor_lo ha ha2 hb hb']
theorem there_eq {st:Int} {hv:List Bool} {bs:List TBlk} (h:hv.length=8):qjd_ ((st,hv,bs),())=some (((hv.count true:Nat):Int),()):=by
 show qbl_ 0 hv 0=_
 unfold qbl_
 refine (loop_dt (N:=8) (mk:=fun i=>((((hv.take i).count true:Nat):Int),hv,(i:Int))) (r:=some (((hv.count true:Nat):Int),())) ?_ ?_ 8 0 _ (by omega) (by omega))
 ·intro self i hi
  show q85_ _ (((hv.take i).count true:Nat):Int) hv (i:Int)=_
  obtain ⟨x,hx⟩:=get_of (xs:=hv) (i:=i) (by omega)
  have l8:lt (i:Int) 8=true:=q5_.2 (by omega)
  have hle:(hv.take i).count true≤8:=by
   grind [List.count_le_length,kB]
  have e:(hv.take (i + 1)).count true=(hv.take i).count true + (if x=true then 1 else 0):=by
   grind [List.take_add_one]
  unfold q85_
  rw [if_pos l8,q9_ l8,qf_ hx,zD,qv_ (by omega),qv_ (by omega),e]
  grind
 ·intro self
  show q85_ _ (((hv.take 8).count true:Nat):Int) hv (8:Int)=_
  unfold q85_
  rw [if_neg (by decide),List.take_of_length_le (by omega)]
theorem sown_eq {x:TBlk} (h:x.2.length≤1000):qcp_ (x,())=some (x,()):=by
 show qya_ x=_
 grind [qya_,q2h_]
theorem number_eq (n:Int):q8x_ (n,())=some (decide (0≤n∧n≤7),()):=by
 show qq4_ n=_
 unfold qq4_
 by_cases h:0≤n
 ·rw [if_pos (qs_.2 h),lt_dec]
  grind
 simp_all [if_neg,qs_,decide_eq_false]
def itB (x:TBlk):List Int:=if fitsB x=true then x.1::(x.2.length:Int)::x.2++zE (14 - x.2.length) 0 else zE 16 0
theorem it_m2 (s:List Int->Option (As [.sl (.int .u16)])) (l:List Int):qfm_ s l=if lt (zF l.length) 16=true then need (small (l.length + 1)) (s (l++[0])) else some (l,()):=rfl
theorem it_K2:∀ (k:Nat) (l:List Int) (n:Nat),l.length + k=16->k < n->loopF (fun (self:List Int->Option (As [.sl (.int .u16)])) (s:List Int)=>qfm_ (fun l=>self l) s) n l=some (l++zE k 0,())
 | _,_,0,_,h=>by omega
 | 0,l,n + 1,h,_=>by
  simp_all [qr_,it_m2,if_neg,q5_,q2_]
 | k + 1,l,n + 1,h,hn=>by
  rw [qr_,it_m2,if_pos (by grind [q5_,q2_]),qe_ (by omega),it_K2 k (l++[0]) n (by grind) (by omega),List.append_assoc]
  rfl
theorem itself_eq {x:TBlk} (h:x.2.length≤1000):q6l_ (x,())=some (itB x,()):=by
 show qfc_ qfx_ x=_
 unfold qfc_ itB
 rw [bfits_eq (by omega),zD]
 have K:∀ (l:List Int) k,l.length + k=16->qfx_ l=some (l++zE k 0,()):=fun l k hk=>by
  show qaa_ l=_
  grind [qaa_,it_K2]
 by_cases hf:fitsB x=true
 ·rw [if_pos hf,if_pos hf]
  have hf2:=of_decide_eq_true hf
  grind [qe_,cvt16,q2_,Int.emod_eq_of_lt]
 simp_all
theorem itB_len {x:TBlk}:(itB x).length=16:=by
 unfold itB
 split
 ·rename_i h
  have:=of_decide_eq_true h
  simp_all
 ·simp
def tagB (o tx n:Int) (x:TBlk):List Int:=o::tx / 65536::tx % 65536::n::itB x
theorem tagB_len {o tx n:Int} {x:TBlk}:(tagB o tx n x).length=20:=by
 simp_all [tagB,itB_len]
theorem tagged_eq {o tx n:Int} {x:TBlk} (h0:0≤tx) (h1:tx≤4294967295) (hn:0≤n∧n≤7) (h:x.2.length≤1000):qgb_ (o,tx,n,x,())=some (tagB o tx n x,()):=by
 show qnh_ o tx n x=_
 unfold qnh_
 rw [parts_eq h0 h1,zD,qe_ (by omega),itself_eq h,zD,qe_ (by grind [itB_len]),show cvt .u16 n=n from wu16 hn.1 (by omega)]
 rfl
theorem swords_eq {o tx n:Int} {x:TBlk} (h0:0≤tx) (h1:tx≤4294967295) (h:x.2.length≤1000) :
  qu4_ (o,tx,n,x,())=some (if 0≤n∧n≤7 then if fitsB x=true then (tagB o tx n x,0,()) else ([],20,()) else ([],2,())):=by
 show qrs_ o tx n x=_
 unfold qrs_
 rw [number_eq,zD]
 by_cases hn:0≤n∧n≤7
 ·rw [if_neg (by grind),if_pos hn,bfits_eq (by omega),zD]
  cases hf:fitsB x with
  | true=>rw [if_neg (by decide),tagged_eq h0 h1 hn h]; rfl
  | false=>rfl
 grind
def backS (s:TStg) (o n:Int):List Int:=match s.2.1[n.toNat]?,s.2.2[n.toNat]? with
 | some true,some x=>tagB o s.1 n x
 | _,_=>zE 20 0
theorem back_eq {s:TStg} {o n:Int} (h0:0≤s.1) (h1:s.1≤4294967295) (hn:0≤n∧n≤7) (hh:s.2.1.length=8) (hb:s.2.2.length=8) (hw:∀ b ∈ s.2.2,b.2.length≤1000):qpg_ (s,o,n,())=some (backS s o n,()):=by
 obtain ⟨st,hv,bs⟩:=s
 obtain ⟨k,rfl⟩:=zN hn.1
 show qjv_ qwa_ (st,hv,bs) o (k:Int)=_
 unfold qjv_ backS
 rw [number_eq,zD,if_neg (by grind)]
 dsimp only at hh hb ⊢
 obtain ⟨x,hx⟩:=get_of (xs:=hv) (i:=k) (by omega)
 obtain ⟨b,hb'⟩:=get_of (xs:=bs) (i:=k) (by omega)
 rw [qf_ hx,zD,zQ,hx,hb']
 show qla_ o (k:Int) (st,hv,bs) (!x)=_
 unfold qla_
 cases x with
 | true =>
  rw [if_neg (by decide)]
  grind [qf_,tagged_eq,zY]
 | false=>rfl
def rdB (w:List Int):Int×Int×Int×TBlk×Int :=
 if w.length ≠ 20∨8≤w.getD 3 0 then (0,0,0,zB,2)
 else if 14 < w.getD 5 0 then (0,0,0,zB,20)
 else if fitsB (w.getD 4 0,(w.drop 6).take (w.getD 5 0).toNat)=true∧itB (w.getD 4 0,(w.drop 6).take (w.getD 5 0).toNat)=w.drop 4 then (w.getD 0 0,65536 * w.getD 1 0 + w.getD 2 0,w.getD 3 0,(w.getD 4 0,(w.drop 6).take (w.getD 5 0).toNat),0)
 else (0,0,0,zB,20)
theorem sread_eq {w:List Int} (hr:∀ x ∈ w,0≤x∧x≤65535):qdr_ (w,())=some ((rdB w).1,(rdB w).2.1,(rdB w).2.2.1,(rdB w).2.2.2.1,(rdB w).2.2.2.2,()):=by
 show qk1_ qvv_ w=_
 unfold qk1_
 by_cases hl:w.length=20
 ·rw [if_neg (fun e=>qd_.1 e (by simp_all))]
  have g:∀ k:Nat,k < 20->at? w (k:Int)=some (w.getD k 0):=fun k hk=>by
   simp_all [get_of,qf_,zX]
  have rg:∀ k:Nat,k < 20->0≤w.getD k 0∧w.getD k 0≤65535:=fun k hk=>by
   simp_all
  have c64:∀ k:Nat,k < 20->cvt .i64 (w.getD k 0)=w.getD k 0:=fun k hk=>cvt64 (by grind) (by grind)
  have g3:at? w 3=some (w.getD 3 0):=g 3 (by omega)
  have g4:at? w 4=some (w.getD 4 0):=g 4 (by omega)
  have g5:at? w 5=some (w.getD 5 0):=g 5 (by omega)
  have g0:at? w 0=some (w.getD 0 0):=g 0 (by omega)
  have g1:at? w 1=some (w.getD 1 0):=g 1 (by omega)
  have g2:at? w 2=some (w.getD 2 0):=g 2 (by omega)
  rw [g3,zD]
  show ql7_ qli_ w (ge (w.getD 3 0) 8) 0=_
  unfold ql7_
  by_cases h8:8≤w.getD 3 0
  ·rw [if_pos (qs_.2 h8)]
   unfold rdB
   rw [if_pos (Or.inr h8)]
   rfl
  ·rw [if_neg (fun e=>h8 (qs_.1 e)),g4,zD,g5,zD]
   have c6:cut w 6 (zF w.length)=some (w.drop 6):=cut_from (i:=6) (by omega)
   have c4:cut w 4 (zF w.length)=some (w.drop 4):=cut_from (i:=4) (by omega)
   have l6:(w.drop 6).length=14:=by simp_all
   rw [c6,zD,c64 5 (by omega),c64 4 (by omega)]
   have r5:=rg 5 (by omega)
   have r4:=rg 4 (by omega)
   by_cases h14:14 < w.getD 5 0
   ·rw [if_pos (q21_.2 (by simp_all))]
    unfold rdB
    rw [if_neg (by omega),if_pos h14]
    rfl
   ·rw [if_neg (fun e=>h14 (by simp_all [q21_,q2_]))]
    obtain ⟨m,hm⟩:=zN r5.1
    have cm:cut (w.drop 6) 0 (w.getD 5 0)=some ((w.drop 6).take m):=by grind [cut_to]
    rw [cm,zD,q9_ (qo_.2 (Int.le_refl _)),q9_ (qo_.2 (by simp_all))]
    have lm:((w.drop 6).take m).length=m:=by grind
    rw [sown_eq (by grind),zD]
    dsimp only
    rw [bfits_eq (by grind),zD]
    unfold rdB
    rw [if_neg (show ¬ (w.length ≠ 20∨8≤w.getD 3 0) by omega),if_neg h14,hm,zQ]
    have K2:∀ b,qli_ w b 0 (w.getD 4 0,(w.drop 6).take m)=some (if b=true then (0,0,0,zB,20,()) else (w.getD 0 0,65536 * w.getD 1 0 + w.getD 2 0,w.getD 3 0,(w.getD 4 0,(w.drop 6).take m),0,())):=fun b=>by
     show qkm_ w b 0 _=_
     unfold qkm_
     cases b with
     | true=>rfl
     | false =>
      have r1:=rg 1 (by omega)
      have r2:=rg 2 (by omega)
      rw [if_neg (by decide),if_neg (by decide),g0,zD,g1,zD,g2,zD,g3,zD,wide_eq r1.1 r1.2 r2.1 r2.2,zD,c64 3 (by omega)]
    cases hf:fitsB (w.getD 4 0,(w.drop 6).take m) with
    | false =>
     rfl
    | true =>
     rw [if_neg (by decide),c4,zD,itself_eq (by grind),zD]
     dsimp only
     rw [equalW_eq (by grind [itB_len]),zD,K2]
     grind
 ·rw [if_pos (qd_.2 (by grind))]
  unfold rdB
  rw [if_pos (Or.inl hl)]
  rfl
theorem getD_tag {o tx n:Int} {x:TBlk} (hf:fitsB x=true):tagB o tx n x=o::tx / 65536::tx % 65536::n::x.1::(x.2.length:Int)::(x.2++zE (14 - x.2.length) 0):=by
 simp_all [tagB,itB,if_pos]
theorem rdB_tag {o tx n:Int} {x:TBlk} (hf:fitsB x=true) (hn:n≤7):rdB (tagB o tx n x)=(o,tx,n,x,0):=by
 obtain ⟨p,w⟩:=x
 have h2:=of_decide_eq_true hf
 dsimp only at h2
 have hl:=tagB_len (o:=o) (tx:=tx) (n:=n) (x:=(p,w))
 have hd:(tagB o tx n (p,w)).drop 4=itB (p,w):=rfl
 have e:(w++zE (14 - w.length) (0:Int)).take w.length=w:=List.take_left' rfl
 have k0:(tagB o tx n (p,w)).getD 0 0=o:=rfl
 have k1:(tagB o tx n (p,w)).getD 1 0=tx / 65536:=rfl
 have k2:(tagB o tx n (p,w)).getD 2 0=tx % 65536:=rfl
 have k3:(tagB o tx n (p,w)).getD 3 0=n:=rfl
 have k4:(tagB o tx n (p,w)).getD 4 0=p:=by grind [getD_tag]
 have k5:(tagB o tx n (p,w)).getD 5 0=(w.length:Int):=by grind [getD_tag]
 have k6:(tagB o tx n (p,w)).drop 6=w++zE (14 - w.length) 0:=by rw [getD_tag hf]; rfl
 unfold rdB
 grind
def putS (s:TStg) (k:Nat) (x:TBlk):TStg:=(s.1,s.2.1.set k true,nzB (s.2.1.set k true) (s.2.2.set k x))
theorem sput_eq {s:TStg} {n:Int} {x:TBlk} (hh:s.2.1.length=8) (hb:s.2.2.length=8) (hw:∀ b ∈ s.2.2,b.2.length≤1000) (hx:x.2.length≤1000) :
  que_ (s,n,x,())=some (if 0≤n∧n≤7 then if fitsB x=true then (putS s n.toNat x,0,()) else (zSt,20,()) else (zSt,2,())):=by
 obtain ⟨st,hv,bs⟩:=s
 dsimp only at hh hb hw
 show qpt_ qgt_ (st,hv,bs) n x=_
 unfold qpt_
 rw [number_eq,zD]
 by_cases hn:0≤n∧n≤7
 ·obtain ⟨k,rfl⟩:=zN hn.1
  rw [decide_eq_true hn,if_neg (by decide),if_pos hn,bfits_eq (by omega),zD]
  cases hf:fitsB x with
  | false =>
   rfl
  | true =>
   have g0:ge (k:Int) 0=true:=qs_.2 (by omega)
   have l8:lt (k:Int) 8=true:=q5_.2 (by omega)
   obtain ⟨y,hy⟩:=get_of (xs:=hv) (i:=k) (by omega)
   obtain ⟨b,hb'⟩:=get_of (xs:=bs) (i:=k) (by omega)
   rw [if_neg (by decide),if_pos rfl,q9_ g0,q9_ l8]
   dsimp only
   rw [qf_ hy,zD,q9_ g0,q9_ l8,qf_ hb',zD,zQ]
   have hh2:(hv.set k true).length=8:=by simp_all
   have hb2:(bs.set k x).length=8:=by simp_all
   have hw2:∀ c ∈ bs.set k x,c.2.length≤1000:=fun c hc=>by
    grind
   unfold putS
   dsimp only
   generalize hv.set k true=hv' at *
   generalize bs.set k x=bs' at *
   have hl:=nzB_len hh2 hb2
   unfold qgt_
   refine loop_dt (N:=8) (mk:=fun i=>(0,0,hv',(i:Int),[(st,hv',(nzB hv' bs').take i++bs'.drop i)],_)) ?_ ?_ 8 0 _ (by omega) (by omega)
   ·intro self i hi
    show qg4_ _ _ 0 0 hv' (i:Int) [(st,hv',(nzB hv' bs').take i++bs'.drop i)] _=self (0,0,hv',((i + 1:Nat):Int),[(st,hv',(nzB hv' bs').take (i + 1)++bs'.drop (i + 1))],_)
    obtain ⟨z,hz⟩:=get_of (xs:=hv') (i:=i) (by omega)
    obtain ⟨c,hc⟩:=get_of (xs:=bs') (i:=i) (by omega)
    have hm:at? ((nzB hv' bs').take i++bs'.drop i) (i:Int)=some c:=qf_ (by grind)
    have hs:=mix_set (xs:=bs') (ys:=nzB hv' bs') (by omega) (nzB_at hz hc)
    have l8:lt (i:Int) 8=true:=q5_.2 (by omega)
    have g0:ge (i:Int) 0=true:=qs_.2 (by omega)
    unfold qg4_
    rw [if_pos l8,q9_ l8,qf_ hz,zD]
    cases z with
    | true =>
     rw [if_pos rfl,q9_ g0,q9_ l8,q12_,zD]
     grind [sown_eq,zY,q9_,qv_]
    | false =>
     rw [if_neg (by decide),q9_ g0,q9_ l8,q12_,zD]
     dsimp only
     rw [hm,zD,qv_ (by omega),<- hs]
     rfl
   ·intro self
    show qg4_ _ _ 0 0 hv' (8:Int) [(st,hv',(nzB hv' bs').take 8++bs'.drop 8)] _=_
    have e1:(nzB hv' bs').take 8++bs'.drop 8=nzB hv' bs':=by
     grind
    rw [e1]
    rfl
 grind
def blkS (hv:List Bool) (bs:List TBlk):List TBlk:=((hv.zip bs).filter (fun p=>p.1)).map (fun p=>p.2)
theorem blkS_snoc {hv:List Bool} {bs:List TBlk} {i:Nat} {x:Bool} {b:TBlk} (h1:hv[i]? = some x) (h2:bs[i]? = some b) :
  blkS (hv.take (i + 1)) (bs.take (i + 1))=blkS (hv.take i) (bs.take i)++(if x=true then [b] else []):=by
 have i1:=(List.getElem?_eq_some_iff.1 h1).1
 have i2:=(List.getElem?_eq_some_iff.1 h2).1
 unfold blkS
 rw [List.take_add_one,List.take_add_one,h1,h2]
 show (List.map _ (List.filter _ ((hv.take i++[x]).zip (bs.take i++[b]))))=_
 rw [List.zip_append (by grind),List.filter_append,List.map_append]
 cases x <;> rfl
theorem blkS_mem {hv:List Bool} {bs:List TBlk} {b:TBlk} (h:b ∈ blkS hv bs):b ∈ bs:=by
 obtain ⟨p,hp,rfl⟩:=List.mem_map.1 h
 exact (List.of_mem_zip (List.mem_filter.1 hp).1).2
theorem blkS_le {hv:List Bool} {bs:List TBlk}:(blkS hv bs).length≤hv.length:=by
 grind [blkS,List.length_map,Nat.le_trans,List.length_filter_le,List.length_zip]
theorem sblocks_eq {s:TStg} (hh:s.2.1.length=8) (hb:s.2.2.length=8) (hw:∀ b ∈ s.2.2,b.2.length≤1000):q50_ (s,())=some (blkS s.2.1 s.2.2,()):=by
 obtain ⟨st,hv,bs⟩:=s
 dsimp only at hh hb hw ⊢
 show qa8_ (st,hv,bs) hv 0 []=_
 unfold qa8_
 refine loop_dt (N:=8) (mk:=fun i=>((st,hv,bs),hv,(i:Int),blkS (hv.take i) (bs.take i))) ?_ ?_ 8 0 _ (by omega) (by omega)
 ·intro self i hi
  show q6s_ _ (st,hv,bs) hv (i:Int) (blkS (hv.take i) (bs.take i))=self ((st,hv,bs),hv,((i + 1:Nat):Int),blkS (hv.take (i + 1)) (bs.take (i + 1)))
  obtain ⟨z,hz⟩:=get_of (xs:=hv) (i:=i) (by omega)
  obtain ⟨c,hc⟩:=get_of (xs:=bs) (i:=i) (by omega)
  have l8:lt (i:Int) 8=true:=q5_.2 (by omega)
  have hle:(blkS (hv.take i) (bs.take i)).length≤8:=by
   grind [blkS_le,kB]
  rw [blkS_snoc hz hc]
  unfold q6s_
  rw [if_pos l8,q9_ l8,qf_ hz,zD]
  cases z with
  | true =>
   rw [if_pos rfl]
   grind [qf_,sown_eq,zY,qe_,qv_]
  | false =>
   rw [if_neg (by decide),qv_ (by omega)]
   simp
 ·intro self
  show q6s_ _ (st,hv,bs) hv (8:Int) (blkS (hv.take 8) (bs.take 8))=_
  unfold q6s_
  rw [if_neg (by decide),List.take_of_length_le (by omega),List.take_of_length_le (by omega)]
def shV (s:Int):Int:=if eqi (band .u32 s 1) 1=true then bxor .u32 (shr .u32 s 1) 3988292384 else shr .u32 s 1
theorem shift_eq (s:Int):quw_ (s,())=some (shV s,()):=by
 show qyp_ s=_
 grind [qyp_,shV]
def addV (s b:Int):Int:=shV (shV (shV (shV (shV (shV (shV (shV (bxor .u32 s (cvt .u32 b)))))))))
theorem sadd_m1 (f:Int->Int->Option (As [.int .u32])) (s i:Int):qnn_ f s i=if lt i 8=true then zC (quw_ (s,())) fun y=>f y.1 (add .i64 i 1) else some (s,()):=rfl
theorem sadd_eq (s b:Int):q121_ (s,b,())=some (addV s b,()):=by
 show qq9_ (bxor .u32 s (cvt .u32 b)) 0=_
 unfold addV
 generalize bxor .u32 s (cvt .u32 b)=x
 have st:∀ n x (i:Int),lt i 8=true->loopF (fun (self:Int×Int->Option (As [.int .u32])) (s:Int×Int)=>qnn_ (fun a b=>self (a,b)) s.1 s.2) (n + 1) (x,i)=loopF (fun (self:Int×Int->Option (As [.int .u32])) (s:Int×Int)=>qnn_ (fun a b=>self (a,b)) s.1 s.2) n (shV x,add .i64 i 1):=fun n x i h=>by
  rw [qr_,sadd_m1,if_pos h,shift_eq,zD]
 unfold qq9_
 rw [st _ _ _ (by rfl),st _ _ _ (by rfl),st _ _ _ (by rfl),st _ _ _ (by rfl),st _ _ _ (by rfl),st _ _ _ (by rfl),st _ _ _ (by rfl),st _ _ _ (by rfl)]
 rfl
def notV (s:Int):Int:=((qo8_ s).getD (0,())).1
theorem notV_rng (s:Int):0≤notV s∧notV s≤4294967295:=by
 grind [notV,qo8_,Int.natCast_nonneg,Int.ofNat_le,Nat.le_of_lt_succ,Nat.mod_lt]
theorem sbytes_eq {b:List Int} (h:b.length≤1000000):qzn_ (b,())=some (notV (b.foldl addV 4294967295),()):=by
 show qgc_ b 4294967295 (zF b.length) 0=_
 unfold qgc_
 refine (loop_idx (xs:=b) (mk:=fun i acc=>(b,acc,zF b.length,(i:Int))) (stp:=addV) (fin:=fun acc=>some (notV acc,())) (fun _ _=>True) ?_ (fun _ _ _ _ _=>trivial) ?_ b.length 0 4294967295 _ (by omega) (by omega) trivial)
 ·intro self i acc x hx _
  have hi:=(List.getElem?_eq_some_iff.1 hx).1
  show qbk_ _ _ b acc (zF b.length) (i:Int)=_
  unfold qbk_
  rw [if_pos (by grind [q5_,q2_]),qf_ hx,zD,sadd_eq,zD,qv_ (by omega)]
 ·intro self acc _
  show qbk_ _ _ b acc (zF b.length) (b.length:Int)=_
  unfold qbk_
  rw [if_neg (by grind [q5_,q2_])]
  rfl
theorem flat_snoc (l:List Int) (x:Int):(l++[x]).flatMap two=l.flatMap two++two x:=by simp
theorem packregs_eq {l:List Int} (h:l.length≤100000):qh8_ (l,())=some (l.flatMap two,()):=by
 show qbf_ q7a_ l=_
 unfold qbf_
 have e2:mul .i64 2 (zF l.length)=((2 * l.length:Nat):Int):=by grind [q2_,mul64]
 rw [e2,q9_ (qs_.2 (by omega)),q9_ (capOk_self _),zQ,qe_ (by omega)]
 unfold q7a_
 have hz:zE (2 * l.length) (0:Int)=(l.take 0).flatMap two++(zE (2 * l.length) 0).drop 0:=by simp
 rw [hz]
 refine loop_dt (N:=l.length) (mk:=fun i=>(l,zF l.length,(i:Int),(l.take i).flatMap two++(zE (2 * l.length) 0).drop (2 * i))) ?_ ?_ l.length 0 _ (by omega) (by omega)
 ·intro self i hi
  show q7b_ _ l (zF l.length) (i:Int) ((l.take i).flatMap two++(zE (2 * l.length) 0).drop (2 * i))=self (l,zF l.length,((i + 1:Nat):Int),(l.take (i + 1)).flatMap two++(zE (2 * l.length) 0).drop (2 * (i + 1)))
  obtain ⟨x,hx⟩:=get_of (xs:=l) (i:=i) (by omega)
  have lp:((l.take i).flatMap two).length=2 * i:=by grind [q47_,kB]
  have ed:(zE (2 * l.length) (0:Int)).drop (2 * i)=0::0::(zE (2 * l.length) 0).drop (2 * (i + 1)):=by
   rw [List.drop_replicate,List.drop_replicate,show 2 * l.length - 2 * i=(2 * l.length - 2 * (i + 1)) + 1 + 1 by omega]
   rfl
  have ei:(l.take (i + 1)).flatMap two=(l.take i).flatMap two++two x:=by simp_all [List.take_add_one,flat_snoc]
  rw [ed,ei]
  unfold q7b_
  have m2:mul .i64 2 (i:Int)=((2 * i:Nat):Int):=by grind [mul64]
  have m3:add .i64 ((2 * i:Nat):Int) 1=((2 * i + 1:Nat):Int):=qv_ (by omega)
  generalize (l.take i).flatMap two=p at *
  generalize (zE (2 * l.length) (0:Int)).drop (2 * (i + 1))=q at *
  have g1:at? (p++0::0::q) ((2 * i:Nat):Int)=some 0:=qf_ (by simp_all)
  have s1:∀ y:Int,(p++0::0::q).set (2 * i) y=p++y::0::q:=fun y=>by simp_all
  have g2:∀ y:Int,at? (p++y::0::q) ((2 * i + 1:Nat):Int)=some 0:=fun y=>qf_ (by simp_all)
  have s2:∀ y z:Int,(p++y::0::q).set (2 * i + 1) z=p++y::z::q:=fun y z=>by
   simp_all
  rw [if_pos (by grind [q5_,q2_]),qf_ hx,zD,zD,m2,g1,zD,zD,m3,zQ,zQ,s1,g2,zD,zD,s2,qv_ (by omega),cvt8,cvt8,shr8 _ _ (by decide),List.append_assoc]
  rfl
 simp_all [q7b_,zF,Int,two,zE,if_neg,q5_,q2_,List.take_length,List.drop_eq_nil_of_le]
def sumW (l:List Int):Int:=notV ((l.flatMap two).foldl addV 4294967295)
theorem sumW_rng (l:List Int):0≤sumW l∧sumW l≤4294967295:=notV_rng _
theorem swordsum_eq {l:List Int} (h:l.length≤100000):qzw_ (l,())=some (sumW l,()):=by
 show qz0_ l=_
 unfold qz0_
 rw [packregs_eq h,zD]
 dsimp only
 rw [sbytes_eq (by grind [q47_])]
 rfl
def sumB (l:List TBlk):Int:=sumW (l.flatMap itB)
theorem ssum_eq {l:List TBlk} (h:l.length≤1000) (hw:∀ b ∈ l,b.2.length≤1000):qgs_ (l,())=some (sumB l,()):=by
 show qgv_ l (zF l.length) 0 []=_
 unfold qgv_
 have K2:∀ all:List Int,all.length≤100000->qyl_ all=some (sumW all,()):=fun all ha=>by
  show qni_ all=_
  grind [qni_,swordsum_eq]
 have hn:l.flatMap itB=[]++l.flatMap itB:=rfl
 unfold sumB
 rw [hn,<- foldl_app]
 refine (loop_idx (xs:=l) (mk:=fun i acc=>(l,zF l.length,(i:Int),acc)) (stp:=fun o x=>o++itB x) (fin:=fun acc=>some (sumW acc,())) (fun i acc=>acc.length=16 * i) ?_ ?_ ?_ l.length 0 [] _ (by omega) (by omega) rfl)
 ·intro self i acc x hx ha
  have hi:=(List.getElem?_eq_some_iff.1 hx).1
  show qbj_ _ _ l (zF l.length) (i:Int) acc=_
  unfold qbj_
  rw [if_pos (by grind [q5_,q2_]),qf_ hx,zD,itself_eq (hw x (zY hx)),zD,qe_ (by grind [itB_len]),qv_ (by omega)]
 ·grind [zZ,itB_len]
 ·intro self acc ha
  show qbj_ _ _ l (zF l.length) (l.length:Int) acc=_
  unfold qbj_
  rw [if_neg (by grind [q5_,q2_]),K2 _ (by omega)]
def firstN (hv:List Bool) (n:Int):Bool:=decide (∀ i:Nat,i < 8->hv.getD i false=decide ((i:Int) < n))
theorem swhole_eq {s:TStg} {n c:Int} (hh:s.2.1.length=8) (hb:s.2.2.length=8) (hw:∀ b ∈ s.2.2,b.2.length≤1000) :
  qj9_ (s,n,c,())=some (decide (0≤n∧n≤8) && (firstN s.2.1 n && decide (sumB (blkS s.2.1 s.2.2)=c)),()):=by
 have hblk:=sblocks_eq hh hb hw
 obtain ⟨st,hv,bs⟩:=s
 dsimp only at hh hb hw hblk ⊢
 show qi2_ qij_ (st,hv,bs) n c=_
 unfold qi2_
 have K1t:qij_ n c (st,hv,bs) true=some (false,()):=rfl
 by_cases h0:n < 0
 ·simp_all [if_pos,q5_,decide_eq_false]
 ·rw [if_neg (fun e=>h0 (q5_.1 e))]
  by_cases h8:8 < n
  ·grind [q21_,decide_eq_false]
  ·rw [gt_dec,decide_eq_false h8,decide_eq_true (show 0≤n∧n≤8 by omega),Bool.true_and]
   show qcb_ n c (st,hv,bs) hv 0=_
   have K3:q4m_ c (st,hv,bs)=some (decide (sumB (blkS hv bs)=c),()):=by
    show qhn_ c (st,hv,bs)=_
    unfold qhn_
    rw [hblk,zD]
    dsimp only
    rw [ssum_eq (by grind [blkS_le]) (fun b hb=>hw b (blkS_mem hb)),zD]
    rfl
   unfold qcb_
   have hg:∀ k i m:Nat,i + k=8->k < m->loopF (fun (self:Int×Int×TStg×List Bool×Int->Option (As [.bool])) (s:Int×Int×TStg×List Bool×Int)=>q63_ q4m_ (fun count check s t16 t17=>self (count,check,s,t16,t17)) s.1 s.2.1 s.2.2.1 s.2.2.2.1 s.2.2.2.2) m (n,c,(st,hv,bs),hv,(i:Int))=some (decide (∀ j:Nat,j < 8->i≤j->hv.getD j false=decide ((j:Int) < n)) && decide (sumB (blkS hv bs)=c),()):=by
    intro k
    induction k with
    | zero =>
     intro i m hi hm
     obtain ⟨m,rfl⟩:∃ q,m=q + 1:=⟨m - 1,by omega⟩
     have:i=8:=by omega
     subst this
     rw [qr_]
     show q63_ q4m_ _ n c (st,hv,bs) hv (8:Int)=_
     unfold q63_
     rw [if_neg (by decide),K3,decide_eq_true (p:=∀ j:Nat,j < 8->8≤j->hv.getD j false=decide ((j:Int) < n)) (fun j h1 h2=>by omega),Bool.true_and]
    | succ k ih =>
     intro i m hi hm
     obtain ⟨m,rfl⟩:∃ q,m=q + 1:=⟨m - 1,by omega⟩
     have l8:lt (i:Int) 8=true:=q5_.2 (by omega)
     obtain ⟨x,hx⟩:=get_of (xs:=hv) (i:=i) (by omega)
     have gx:hv.getD i false=x:=by simp_all
     rw [qr_]
     show q63_ q4m_ _ n c (st,hv,bs) hv (i:Int)=_
     have u:∀ f,q63_ q4m_ f n c (st,hv,bs) hv (i:Int)=if lt (i:Int) 8=true then need (lt (i:Int) 8) (zC (at? hv (i:Int)) fun y=>if neb y (lt (i:Int) n)=true then some (false,()) else f n c (st,hv,bs) hv (add .i64 (i:Int) 1)) else q4m_ c (st,hv,bs):=fun f=>rfl
     rw [u,if_pos l8,q9_ l8,qf_ hx,zD,lt_dec]
     by_cases he:x=decide ((i:Int) < n)
     ·rw [if_neg (by rw [<- he]; cases x <;> decide),qv_ (by omega),ih (i + 1) m (by omega) (by omega)]
      refine congrArg (fun b=>some (b && _,())) ?_
      grind
     ·rw [if_pos (by revert he; cases x <;> cases decide ((i:Int) < n) <;> decide),decide_eq_false (fun h=>he (by rw [<- gx]; grind))]
      rfl
   have:=hg 8 0 18446744073709551616 rfl (by omega)
   refine this.trans ?_
   refine congrArg (fun b=>some (b && _,())) ?_
   unfold firstN
   simp
def copyB (b:List Int) (x:TBlk):List Int:=b.take x.1.toNat++x.2++b.drop (x.1.toNat + x.2.length)
theorem copyB_len {b:List Int} {x:TBlk} (h:b.length=64) (hf:fitsB x=true):(copyB b x).length=64:=by
 have:=of_decide_eq_true hf
 grind [copyB,zZ,kB,List.length_drop]
def overB (b:List Int) (l:List TBlk):List Int:=l.foldl copyB b
theorem overB_len:∀ {l:List TBlk} {b:List Int},b.length=64->(∀ x ∈ l,fitsB x=true)->(overB b l).length=64
 | [],_,h,_=>h
 | x::r,b,h,hf=>overB_len (l:=r) (copyB_len h (hf x (List.mem_cons_self ..))) (fun y hy=>hf y (zT _ hy))
theorem copyB_rng {b:List Int} {x:TBlk} {P:Int->Prop} (hb:∀ y ∈ b,P y) (hx:∀ y ∈ x.2,P y):∀ y ∈ copyB b x,P y:=by
 grind [copyB,List.mem_of_mem_take,List.mem_of_mem_drop]
theorem overB_rng {P:Int->Prop}:∀ {l:List TBlk} {b:List Int},(∀ y ∈ b,P y)->(∀ x ∈ l,∀ y ∈ x.2,P y)->∀ y ∈ overB b l,P y
 | [],_,h,_=>h
 | x::r,b,h,hf=>overB_rng (l:=r) (copyB_rng h (hf x (List.mem_cons_self ..))) (fun y hy=>hf y (zT _ hy))
theorem bfit_eq {l:List TBlk} (hl:l.length≤1000000) (hf:∀ x ∈ l,fitsB x=true):q13c_ (l,())=some (true,()):=by
 have hi:q3v_ (l,())=some (-1,()):=by
  show q29_ l (zF l.length) 0=_
  unfold q29_
  refine loop_dt (N:=l.length) (mk:=fun i=>(l,zF l.length,(i:Int))) ?_ ?_ l.length 0 _ (by omega) (by omega)
  ·intro self i hi
   obtain ⟨x,hx⟩:=get_of (xs:=l) (i:=i) hi
   have hfx:=hf x (zY hx)
   have h2:=of_decide_eq_true hfx
   have hz:qsr_ (x,())=some (false,()):=by
    show qs0_ x=_
    grind [qs0_,bfits_eq]
   show q23_ _ l (zF l.length) (i:Int)=_
   unfold q23_
   rw [if_pos (by grind [q5_,q2_]),qf_ hx,zD,hz,zD,if_neg (by decide),qv_ (by omega)]
  simp_all [q23_,zF,Int,if_neg,q5_,q2_]
 have hc:q55_ (l,())=some (false,()):=by
  show q44_ l=_
  unfold q44_
  rw [hi]
  rfl
 show q10q_ l=_
 simp_all [q10q_]
theorem cloneWr_eq {s:List Int} (h:s.length≤1000000):q2b_ (s,())=some (s,()):=by
 show q7j_ s=_
 unfold q7j_
 by_cases h0:s.length=0
 ·have:s=[]:=List.eq_nil_of_length_eq_zero h0
  subst this
  rfl
 ·rw [if_neg (by grind [q4_,q2_]),qe_ (by omega)]
theorem bover_eq {b:List Int} {l:List TBlk} (hb:b.length=64) (hl:l.length≤1000000) (hf:∀ x ∈ l,fitsB x=true):qg5_ (b,l,())=some (overB b l,0,()):=by
 show qpu_ qbz_ b l=_
 unfold qpu_
 rw [if_neg (fun e=>qd_.1 e (by simp_all)),bfit_eq hl hf,zD,if_neg (by decide),cloneWr_eq (by omega),zD]
 show qbz_ l (zF l.length) 0 b=_
 unfold qbz_
 refine (loop_idx (xs:=l) (mk:=fun i acc=>(l,zF l.length,(i:Int),acc)) (stp:=copyB) (fin:=fun acc=>some (acc,0,())) (fun i acc=>acc.length=64) ?_ ?_ ?_ l.length 0 b _ (by omega) (by omega) hb)
 ·intro self i acc x hx ha
  have hi:=(List.getElem?_eq_some_iff.1 hx).1
  have h2:=of_decide_eq_true (hf x (zY hx))
  show qbu_ _ _ l (zF l.length) (i:Int) acc=_
  unfold qbu_
  rw [if_pos (by grind [q5_,q2_]),qf_ hx,zD,q9_ (qs_.2 (by omega)),q9_ (qo_.2 (by grind)),q9_ (qo_.2 (Int.le_refl _)),q9_ (qo_.2 (by omega)),qv_ (by omega)]
  have e:x.2.take (Int.toNat (zF acc.length - x.1))=x.2:=List.take_of_length_le (by grind)
  rw [e]
  rfl
 ·grind [copyB_len,zY]
 ·intro self acc ha
  show qbu_ _ _ l (zF l.length) (l.length:Int) acc=_
  unfold qbu_
  rw [if_neg (by grind [q5_,q2_])]
  rfl
structure OkG (a:TAg):Prop where
 bl:a.1.length=64
 bw:∀ x ∈ a.1,0≤x∧x≤65535
 lr:RightL a.2.1
 l1:0≤a.2.1.1∧a.2.1.1≤65535
 l2:a.2.1.2≤9223372036854775807
 pr:0≤a.2.2.1∧a.2.2.1≤2
 tr:0≤a.2.2.2.1∧a.2.2.2.1≤4294967295
 ar:0≤a.2.2.2.2.1∧a.2.2.2.2.1≤4294967295
 kr:1≤a.2.2.2.2.2.2∧a.2.2.2.2.2.2≤9223372036854775807
 hl:a.2.2.2.2.2.1.2.1.length=8
 sl:a.2.2.2.2.2.1.2.2.length=8
 bb:∀ b ∈ a.2.2.2.2.2.1.2.2,b.2.length≤1000
 wb:∀ b ∈ a.2.2.2.2.2.1.2.2,∀ w ∈ b.2,0≤w∧w≤65535
 fb:∀ b ∈ blkS a.2.2.2.2.2.1.2.1 a.2.2.2.2.2.1.2.2,fitsB b=true
 p0:a.2.2.1=0->a.2.1.1=0∧a.2.2.2.1=0∧a.2.2.2.2.2.1.1=0∧a.2.2.2.2.2.1.2.1.count true=0
 pn:a.2.2.1 ≠ 0->a.2.1.1 ≠ 0∧a.2.2.2.2.1 < a.2.2.2.1∧a.2.2.2.2.2.1.1=a.2.2.2.1
 p1:a.2.2.1=1->1≤a.2.1.2
 p2:a.2.2.1=2->a.2.1.2=-1∧firstN a.2.2.2.2.2.1.2.1 ((a.2.2.2.2.2.1.2.1.count true:Nat):Int)=true
theorem OkG.sz {a:TAg} (h:OkG a):SzA a:=⟨by have:=h.bl; omega,h.hl,h.sl,h.bb⟩
theorem blkS_nz:∀ (hv:List Bool) (bs:List TBlk),blkS hv (nzB hv bs)=blkS hv bs
 | [],_=>by rfl
 | _::_,[]=>by rfl
 | h::r,b::q=>by
  have ih:=blkS_nz r q
  unfold blkS nzB at ih ⊢
  rw [List.zipWith_cons_cons,List.zip_cons_cons,List.zip_cons_cons]
  grind
theorem nzB_mem {hv:List Bool} {bs:List TBlk} {P:TBlk->Prop} (hz:P zB) (hp:∀ b ∈ bs,P b):∀ b ∈ nzB hv bs,P b:=by
 grind [nzB,List.getElem?_of_mem,zY]
theorem OkG.own {a:TAg} (h:OkG a):OkG (ownA a):=by
 obtain ⟨bk,ls,ph,tx,la,⟨st,hv,bs⟩,tk⟩:=a
 exact { h with
  sl:=nzB_len h.hl h.sl
  bb:=nzB_mem (P:=fun b=>b.2.length≤1000) (by show (0:Nat)≤1000; omega) h.bb
  wb:=nzB_mem (P:=fun b=>∀ w ∈ b.2,0≤w∧w≤65535) (by intro w hw; cases hw) h.wb
  fb:=by have:=h.fb; show ∀ b ∈ blkS hv (nzB hv bs),_; simp_all [blkS_nz] }
def freeA (a:TAg):TAg:=(a.1,(0,0),0,0,a.2.2.2.2.1,zSt,a.2.2.2.2.2.2)
def wholeA (a:TAg) (n c:Int):Bool:=decide (0≤n∧n≤8) && (firstN a.2.2.2.2.2.1.2.1 n && decide (sumB (blkS a.2.2.2.2.2.1.2.1 a.2.2.2.2.2.1.2.2)=c))
def doS (a:TAg) (c:TCm):TAg×Int :=
 if c.1=0∨c.2.2.1=0∨¬ (1≤c.2.1∧c.2.1≤4) then (a,2)
 else if a.2.1.1 ≠ 0∧a.2.1.1 ≠ c.1 then (a,22)
 else if c.2.1=1 then
  if c.2.2.1≤a.2.2.2.2.1∨a.2.2.1 ≠ 0∧c.2.2.1 < a.2.2.2.1 then (a,23)
  else if c.2.2.1=a.2.2.2.1 then ((a.1,takeL a.2.1 c.1 a.2.2.2.2.2.2,a.2.2),0)
  else ((a.1,(c.1,a.2.2.2.2.2.2),1,c.2.2.1,a.2.2.2.2.1,(c.2.2.1,zSt.2),a.2.2.2.2.2.2),0)
 else if c.2.1=2 then
  if a.2.2.1=2∧a.2.2.2.1=c.2.2.1∨a.2.2.1=1∧a.2.2.2.1=c.2.2.1∧wholeA a c.2.2.2.1 c.2.2.2.2=true then ((a.1,(c.1,-1),2,a.2.2.2),0)
  else (a,23)
 else if c.2.1=3 then
  if a.2.2.2.2.1=c.2.2.1 then (a,0)
  else if a.2.2.1=2∧a.2.2.2.1=c.2.2.1 then (freeA (overB a.1 (blkS a.2.2.2.2.2.1.2.1 a.2.2.2.2.2.1.2.2),a.2.1,a.2.2.1,a.2.2.2.1,c.2.2.1,a.2.2.2.2.2),0)
  else (a,23)
 else
  if c.2.2.1≤a.2.2.2.2.1 then (a,23) else if a.2.1.1=c.1∧a.2.2.2.1=c.2.2.1 then (freeA a,0) else (a,0)
theorem afreed_eq (a:TAg):qel_ (a,())=some (freeA a,()):=rfl
theorem ain_eq (a:TAg) (p t:Int):qd1_ (a,p,t,())=some (decide (a.2.2.1=p∧a.2.2.2.1=t),()):=by
 show q115_ a p t=_
 unfold q115_
 by_cases h:a.2.2.1=p
 ·rw [if_pos (q4_.2 h)]
  refine congrArg (fun b=>some (b,())) ?_
  rw [Bool.eq_iff_iff,q4_,decide_eq_true_eq]
  omega
 simp_all [if_neg,q4_,decide_eq_false]
theorem aothers_eq {a:TAg} (h:RightL a.2.1) (o:Int):q2s_ (a,o,())=some (decide (a.2.1.1 ≠ 0∧a.2.1.1 ≠ o),()):=by
 show qn3_ a o=_
 unfold qn3_
 rw [lfree_eq h,zD]
 by_cases h0:a.2.1.1=0
 ·simp_all
 ·rw [decide_eq_false h0,if_pos (by rfl)]
  refine congrArg (fun b=>some (b,())) ?_
  rw [Bool.eq_iff_iff,qd_,decide_eq_true_eq]
  omega
theorem ataken_eq {a:TAg} {o:Int} (h:RightL a.2.1) (ho:o ≠ 0) (ht:1≤a.2.2.2.2.2.2) (hf:a.2.1.1=0∨a.2.1.1=o):qat_ (a,o,())=some ((a.1,takeL a.2.1 o a.2.2.2.2.2.2,a.2.2),()):=by
 show qrh_ a o=_
 grind [qrh_,ltake_eq]
set_option maxHeartbeats 1000000 in
theorem ado_eq {a:TAg} (h:OkG a) {c:TCm} (hc:0≤c.2.2.2.1∧c.2.2.2.1≤65535):qcv_ (a,c,())=some ((doS (ownA a) c).1,(doS (ownA a) c).2,()):=by
 show q10d_ a c=_
 unfold q10d_
 have h':=h.own
 rw [aown_eq h.sz,zD,amb2 (eqAs_refl _)]
 dsimp only
 generalize ownA a=g at h'
 obtain ⟨co,cv,ct,cc,ck⟩:=c
 dsimp only at hc ⊢
 have lr:=h'.lr
 have kr:=h'.kr
 rw [aothers_eq lr,zD]
 unfold doS
 dsimp only
 by_cases hq:co=0∨ct=0∨¬ (1≤cv∧cv≤4)
 ·rw [if_pos hq]
  simp only [q4_]
  by_cases h1:co=0
  ·simp [h1]
  ·by_cases h2:ct=0
   ·simp [h1,h2]
   ·have hv:¬ (1≤cv∧cv≤4):=by omega
    rw [if_neg (by omega),if_neg (by omega),if_neg (by omega),if_neg (by omega),if_neg h1,if_neg h2]
 ·rw [if_neg hq]
  have h1:co ≠ 0:=by omega
  have h2:ct ≠ 0:=by omega
  have hv:1≤cv∧cv≤4:=by omega
  simp only [q4_,if_neg h1,if_neg h2]
  by_cases ho:g.2.1.1 ≠ 0∧g.2.1.1 ≠ co
  ·rw [if_pos ho,decide_eq_true ho]
   simp only [if_true]
   split <;> first | rfl | skip
   split <;> first | rfl | skip
   split <;> first | rfl | skip
   split <;> first | rfl | skip
   omega
  ·rw [if_neg ho,decide_eq_false ho]
   simp only [Bool.false_eq_true,if_false]
   have hf:g.2.1.1=0∨g.2.1.1=co:=by omega
   by_cases v1:cv=1
   ·subst v1
    rw [if_pos rfl,if_pos rfl]
    have hn:ql0_ (g,(co,1,ct,cc,ck),())=some (decide (ct≤g.2.2.2.2.1∨g.2.2.1 ≠ 0∧ct < g.2.2.2.1),()):=by
     show qm1_ g (co,1,ct,cc,ck)=_
     unfold qm1_
     dsimp only
     by_cases q1:ct≤g.2.2.2.2.1
     ·rw [if_pos (qo_.2 q1),decide_eq_true (Or.inl q1)]
     ·rw [if_neg (fun e=>q1 (qo_.1 e))]
      by_cases q2:g.2.2.1=0
      ·rw [if_neg (fun e=>qd_.1 e q2),decide_eq_false (by omega)]
      ·rw [if_pos (qd_.2 q2),lt_dec]
       refine congrArg (fun b=>some (b,())) ?_
       rw [Bool.eq_iff_iff,decide_eq_true_eq,decide_eq_true_eq]
       omega
    rw [hn,zD]
    by_cases q:ct≤g.2.2.2.2.1∨g.2.2.1 ≠ 0∧ct < g.2.2.2.1
    ·rw [if_pos q,decide_eq_true q]
     rfl
    ·rw [if_neg q,decide_eq_false q,if_neg (by decide)]
     have hcl:qtd_ (g,(co,1,ct,cc,ck),())=some (if ct=g.2.2.2.1 then (g.1,takeL g.2.1 co g.2.2.2.2.2.2,g.2.2) else (g.1,(co,g.2.2.2.2.2.2),1,ct,g.2.2.2.2.1,(ct,zSt.2),g.2.2.2.2.2.2),()):=by
      show qre_ g (co,1,ct,cc,ck)=_
      unfold qre_
      dsimp only
      by_cases e:ct=g.2.2.2.1
      ·rw [if_pos (q4_.2 e),if_pos e,ataken_eq lr h1 kr.1 hf]
       rfl
      ·rw [if_neg (fun x=>e (q4_.1 x)),if_neg e,afreed_eq,zD]
       have:=ataken_eq (a:=freeA g) (o:=co) (Or.inl ⟨rfl,rfl⟩) h1 kr.1 (Or.inl rfl)
       dsimp only
       rw [this]
       have et:takeL (0,0) co (freeA g).2.2.2.2.2.2=(co,g.2.2.2.2.2.2):=by
        unfold takeL
        rw [if_neg (fun x=>h1 (by cases x))]
        rfl
       show some ((g.1,takeL (0,0) co (freeA g).2.2.2.2.2.2,1,ct,g.2.2.2.2.1,(ct,zSt.2),g.2.2.2.2.2.2),())=_
       rw [et]
     rw [hcl,zD]
     split <;> rfl
   ·rw [if_neg (Ne.symm v1),if_neg v1]
    by_cases v2:cv=2
    ·subst v2
     rw [if_pos rfl,if_pos rfl]
     have hn:qft_ (g,(co,2,ct,cc,ck),())=some (decide (¬ (g.2.2.1=2∧g.2.2.2.1=ct∨g.2.2.1=1∧g.2.2.2.1=ct∧wholeA g cc ck=true)),()):=by
      show qgd_ g (co,2,ct,cc,ck)=_
      unfold qgd_
      dsimp only
      rw [ain_eq,zD]
      by_cases q1:g.2.2.1=2∧g.2.2.2.1=ct
      ·rw [decide_eq_true q1,if_pos rfl,decide_eq_false (fun e=>e (Or.inl q1))]
      ·rw [decide_eq_false q1,if_neg (by decide),ain_eq,zD]
       by_cases q2:g.2.2.1=1∧g.2.2.2.1=ct
       ·rw [decide_eq_true q2,if_neg (by decide),cvt64 (by omega) (by omega),swhole_eq h'.hl h'.sl h'.bb,zD]
        refine congrArg (fun b=>some (b,())) ?_
        show (!wholeA g cc ck)=_
        cases hw:wholeA g cc ck with
        | true=>rw [decide_eq_false (fun e=>e (Or.inr ⟨q2.1,q2.2,rfl⟩))]; rfl
        | false=>rw [decide_eq_true (by rintro (e | e); exact q1 e; exact Bool.false_ne_true e.2.2)]; rfl
       ·rw [decide_eq_false q2,if_pos (by rfl),decide_eq_true (by rintro (e | e); exact q1 e; exact q2 ⟨e.1,e.2.1⟩)]
     rw [hn,zD]
     by_cases q:g.2.2.1=2∧g.2.2.2.1=ct∨g.2.2.1=1∧g.2.2.2.1=ct∧wholeA g cc ck=true
     ·rw [if_pos q,decide_eq_false (fun e=>e q),if_neg (by decide)]
      have hph:g.2.2.1 ≠ 0:=by rcases q with q | q <;> omega
      have hown:g.2.1.1=co:=by have:=(h'.pn hph).1; omega
      have hp:qkw_ (g,(co,2,ct,cc,ck),())=some ((g.1,(co,-1),2,g.2.2.2),()):=by
       show qmb_ g (co,2,ct,cc,ck)=_
       unfold qmb_
       dsimp only
       rw [lhold_eq lr h1 hown]
       rfl
      rw [hp]
      rfl
     ·rw [if_neg q,decide_eq_true q]
      rfl
    ·rw [if_neg (Ne.symm v2),if_neg v2]
     by_cases v3:cv=3
     ·subst v3
      rw [if_pos rfl,if_pos rfl]
      have hn:qhl_ (g,(co,3,ct,cc,ck),())=some (decide (g.2.2.2.2.1 ≠ ct∧¬ (g.2.2.1=2∧g.2.2.2.1=ct)),()):=by
       show qiw_ g (co,3,ct,cc,ck)=_
       unfold qiw_
       dsimp only
       by_cases q1:g.2.2.2.2.1=ct
       ·rw [if_neg (fun e=>qd_.1 e q1),decide_eq_false (fun e=>e.1 q1)]
       ·rw [if_pos (qd_.2 q1),ain_eq,zD]
        refine congrArg (fun b=>some (b,())) ?_
        by_cases q2:g.2.2.1=2∧g.2.2.2.1=ct
        ·rw [decide_eq_true q2,decide_eq_false (fun e=>e.2 q2)]; rfl
        ·rw [decide_eq_false q2,decide_eq_true ⟨q1,q2⟩]; rfl
      rw [hn,zD]
      have hcm:g.2.2.2.2.1=ct∨(g.2.2.1=2∧g.2.2.2.1=ct)->qqb_ (g,(co,3,ct,cc,ck),())=some (if g.2.2.2.2.1=ct then g else freeA (overB g.1 (blkS g.2.2.2.2.2.1.2.1 g.2.2.2.2.2.1.2.2),g.2.1,g.2.2.1,g.2.2.2.1,ct,g.2.2.2.2.2),()):=fun _=>by
       show qob_ g (co,3,ct,cc,ck)=_
       unfold qob_
       dsimp only
       by_cases q1:g.2.2.2.2.1=ct
       ·rw [if_pos (q4_.2 q1),if_pos q1]
       ·rw [if_neg (fun e=>q1 (q4_.1 e)),if_neg q1,sblocks_eq h'.hl h'.sl h'.bb,zD]
        dsimp only
        rw [bover_eq h'.bl (by have:=blkS_le (hv:=g.2.2.2.2.2.1.2.1) (bs:=g.2.2.2.2.2.1.2.2); have:=h'.hl; omega) h'.fb,zD]
        dsimp only
        rw [if_neg (by decide),afreed_eq]
        rfl
      by_cases q1:g.2.2.2.2.1=ct
      ·rw [decide_eq_false (fun e=>e.1 q1),if_neg (by decide),hcm (Or.inl q1),if_pos q1,if_pos q1]
       rfl
      ·by_cases q2:g.2.2.1=2∧g.2.2.2.1=ct
       ·rw [decide_eq_false (fun e=>e.2 q2),if_neg (by decide),hcm (Or.inr q2),if_neg q1,if_neg q1,if_pos q2]
        rfl
       ·rw [decide_eq_true ⟨q1,q2⟩,if_neg q1,if_neg q2]
        rfl
     ·have v4:cv=4:=by omega
      subst v4
      rw [if_neg (by decide),if_pos rfl,if_neg v3]
      have hn:qkt_ (g,(co,4,ct,cc,ck),())=some (decide (ct≤g.2.2.2.2.1),()):=rfl
      rw [hn,zD]
      by_cases q1:ct≤g.2.2.2.2.1
      ·rw [decide_eq_true q1,if_pos q1]
       rfl
      ·rw [decide_eq_false q1,if_neg (by decide),if_neg q1]
       have ha:qji_ (g,(co,4,ct,cc,ck),())=some (if g.2.1.1=co∧g.2.2.2.1=ct then freeA g else g,()):=by
        show qhg_ qi1_ g (co,4,ct,cc,ck)=_
        unfold qhg_
        dsimp only
        have K:∀ b z,qi1_ g 0 b [z]=some (if b=true then g else freeA g,()):=fun b z=>by
         show qhf_ g 0 b [z]=_
         unfold qhf_
         cases b <;> rfl
        by_cases e1:g.2.1.1=co
        ·rw [if_neg (fun e=>qd_.1 e e1),K]
         by_cases e2:g.2.2.2.1=ct
         ·rw [if_neg (fun e=>qd_.1 e e2),if_pos ⟨e1,e2⟩]
         ·rw [if_pos (qd_.2 e2),if_neg (fun e=>e2 e.2)]
        ·rw [if_pos (qd_.2 e1),K,if_pos rfl,if_neg (fun e=>e1 e.1)]
       rw [ha,zD]
       by_cases e:g.2.1.1=co∧g.2.2.2.1=ct
       ·rw [if_pos e,if_pos e]
        rfl
       ·rw [if_neg e,if_neg e]
        rfl
def putA (a:TAg) (o t n:Int) (x:TBlk):TAg×Int :=
 if o=0∨t=0 then (a,2) else if a.2.1.1 ≠ 0∧a.2.1.1 ≠ o then (a,22) else if ¬ (a.2.2.1=1∧a.2.2.2.1=t) then (a,23)
 else ((a.1,takeL a.2.1 o a.2.2.2.2.2.2,a.2.2.1,a.2.2.2.1,a.2.2.2.2.1,putS a.2.2.2.2.2.1 n.toNat x,a.2.2.2.2.2.2),0)
theorem aput_eq {a:TAg} (h:OkG a) {o t n:Int} {x:TBlk} (hn:0≤n∧n≤7) (hf:fitsB x=true):q7t_ (a,o,t,n,x,())=some ((putA (ownA a) o t n x).1,(putA (ownA a) o t n x).2,()):=by
 show qpd_ qp0_ a o t n x=_
 unfold qpd_
 have h':=h.own
 rw [aown_eq h.sz,zD]
 dsimp only
 generalize ownA a=g at h'
 have lr:=h'.lr
 have kr:=h'.kr
 have hx:x.2.length≤1000:=by have:=of_decide_eq_true hf; omega
 have K:∀ b z,qp0_ o t n 0 0 b [g] x [z]=some (if b=true then (g,2,()) else ((putA g o t n x).1,(putA g o t n x).2,()))∨¬ (b=true ↔ (o=0∨t=0)):=fun b z=>by
  by_cases hb:b=true ↔ (o=0∨t=0)
  ·left
   show qnf_ o t n 0 0 b [g] x [z]=_
   unfold qnf_
   cases b with
   | true=>rfl
   | false =>
    rw [if_neg (by decide),if_neg (by decide)]
    have h0:¬ (o=0∨t=0):=fun e=>Bool.false_ne_true (hb.2 e)
    unfold putA
    rw [if_neg h0]
    rw [q12_,zD,aothers_eq lr,zD]
    by_cases q1:g.2.1.1 ≠ 0∧g.2.1.1 ≠ o
    ·rw [decide_eq_true q1,if_pos q1]
     rfl
    ·rw [decide_eq_false q1,if_neg (by decide),if_neg q1,zD,ain_eq,zD]
     by_cases q2:g.2.2.1=1∧g.2.2.2.1=t
     ·rw [decide_eq_true q2,if_neg (by decide),if_neg (fun e=>e q2),zD,sput_eq h'.hl h'.sl h'.bb hx,if_pos hn,if_pos hf,zD]
      dsimp only
      rw [if_neg (by decide),zD]
      have:=ataken_eq (a:=(g.1,g.2.1,g.2.2.1,g.2.2.2.1,g.2.2.2.2.1,putS g.2.2.2.2.2.1 n.toNat x,g.2.2.2.2.2.2)) (o:=o) lr (by omega) kr.1 (by dsimp only; omega)
      show zC (qat_ ((g.1,g.2.1,g.2.2.1,g.2.2.2.1,g.2.2.2.2.1,putS g.2.2.2.2.2.1 n.toNat x,g.2.2.2.2.2.2),o,())) _=_
      rw [this]
      rfl
     ·rw [decide_eq_false q2,if_pos (by rfl),if_pos q2]
      rfl
  ·exact Or.inr hb
 have p2:o=0∨t=0->putA g o t n x=(g,2):=fun e=>if_pos e
 by_cases ho:o=0
 ·rw [if_pos (q4_.2 ho)]
  rcases K true _ with e | e
  ·rw [e,if_pos rfl,p2 (Or.inl ho)]
  ·exact absurd ⟨fun _=>Or.inl ho,fun _=>rfl⟩ e
 ·rw [if_neg (fun e=>ho (q4_.1 e))]
  rcases K (eqi t 0) ([],(0,0),0,0,0,zSt,0) with e | e
  ·refine e.trans ?_
   by_cases ht:t=0
   ·rw [if_pos (q4_.2 ht),p2 (Or.inr ht)]
   ·rw [if_neg (fun e=>ht (q4_.1 e))]
  ·exact absurd ⟨fun x=>Or.inr (q4_.1 x),fun x=>q4_.2 (x.resolve_left ho)⟩ e
def statA (a:TAg):List Int:=[a.2.1.1,a.2.2.1,a.2.2.2.1 / 65536,a.2.2.2.1 % 65536,a.2.2.2.2.1 / 65536,a.2.2.2.2.1 % 65536,((a.2.2.2.2.2.1.2.1.count true:Nat):Int),0]
theorem astatus_eq {a:TAg} (h:OkG a):q6_ (a,())=some (statA a,()):=by
 obtain ⟨bk,ls,ph,tx,la,⟨st,hv,bs⟩,tk⟩:=a
 have lr:=h.lr
 have pr:=h.pr
 have tr:=h.tr
 have ar:=h.ar
 have hl:=h.hl
 dsimp only at lr pr tr ar hl
 show qfw_ qfd_ (bk,ls,ph,tx,la,(st,hv,bs),tk)=_
 unfold qfw_
 have hc:hv.count true≤8:=by
  have:=List.count_le_length (a:=true) (l:=hv)
  omega
 have K:∀ o,qfd_ (bk,ls,ph,tx,la,(st,hv,bs),tk) o=some ([o,ph,tx / 65536,tx % 65536,la / 65536,la % 65536,((hv.count true:Nat):Int),0],()):=fun o=>by
  show qfj_ _ o=_
  unfold qfj_
  dsimp only
  rw [parts_eq tr.1 tr.2,zD,parts_eq ar.1 ar.2,zD,there_eq hl,zD,show cvt .u16 ph=ph from wu16 pr.1 (by omega),show cvt .u16 ((hv.count true:Nat):Int)=_ from wu16 (by omega) (by omega)]
 rw [lfree_eq lr,zD]
 dsimp only
 by_cases e:ls.1=0
 ·rw [decide_eq_true e,if_pos rfl,K]
  unfold statA
  dsimp only
  rw [e]
 ·rw [decide_eq_false e,if_neg (by decide),K]
  rfl
def zAg (b:List Int) (t:Int):TAg:=(b,(0,0),0,0,0,zSt,t)
theorem anew_eq {b:List Int} {t:Int} (hb:b.length≤1000000):q167_ (b,t,())=some (if b.length=64 then if 1≤t then (zAg b t,0,()) else (zAg [] 0,2,()) else (zAg [] 0,21,())):=by
 show qyo_ b t=_
 unfold qyo_
 by_cases h:b.length=64
 ·rw [if_neg (fun e=>qd_.1 e (by simp_all)),if_pos h]
  by_cases h1:1≤t
  ·rw [if_neg (fun e=>by grind [q5_]),if_pos h1,q2h_ hb]
   rfl
  ·rw [if_pos (q5_.2 (by omega)),if_neg h1]
   rfl
 ·rw [if_pos (qd_.2 (by grind)),if_neg h]
  rfl
theorem blkS_zero:blkS zSt.2.1 zSt.2.2=[]:=rfl
theorem ok_free {bk:List Int} {la tk:Int} (bl:bk.length=64) (bw:∀ x ∈ bk,0≤x∧x≤65535) (ar:0≤la∧la≤4294967295) (kr:1≤tk∧tk≤9223372036854775807):OkG (bk,(0,0),0,0,la,zSt,tk) where
 bl:=bl
 bw:=bw
 lr:=Or.inl ⟨rfl,rfl⟩
 l1:=⟨by simp,by simp⟩
 l2:=by simp
 pr:=⟨by simp,by simp⟩
 tr:=⟨by simp,by simp⟩
 ar:=ar
 kr:=kr
 hl:=rfl
 sl:=rfl
 bb:=by simp
 wb:=by
  simp
 fb:=fun b hb=>by simp_all [blkS,blkS_zero]
 p0:=fun _=>⟨rfl,rfl,rfl,rfl⟩
 pn:=fun e=>absurd rfl e
 p1:=fun e=>absurd e (by simp)
 p2:=fun e=>absurd e (by simp)
theorem OkG.free {a:TAg} (h:OkG a):OkG (freeA a):=ok_free h.bl h.bw h.ar h.kr
theorem OkG.doS {a:TAg} (h:OkG a) {c:TCm} (h1:0≤c.1∧c.1≤65535) (h3:0≤c.2.2.1∧c.2.2.1≤4294967295) (hc:0≤c.2.2.2.1∧c.2.2.2.1≤65535):OkG (doS a c).1:=by
 unfold Lx.doS
 split
 ·exact h
 ·rename_i q0
  split
  ·exact h
  ·rename_i q1
   split
   ·split
    ·exact h
    ·rename_i q2
     split
     ·rename_i q3
      have hp:a.2.2.1 ≠ 0:=fun e=>by have:=(h.p0 e).2.1; omega
      have hn:=h.pn hp
      have hown:a.2.1.1=c.1:=by omega
      have hph:a.2.2.1=1∨a.2.2.1=2:=by have:=h.pr; omega
      have hkr:=h.kr
      rcases hph with e | e
      ·have ht:takeL a.2.1 c.1 a.2.2.2.2.2.2=(c.1,a.2.2.2.2.2.2):=by
        unfold takeL
        rw [if_neg]
        intro x
        have:=h.p1 e
        simp_all
       rw [ht]
       exact { h with lr:=Or.inr ⟨by simp_all,Or.inl hkr.1⟩,l1:=h1,l2:=hkr.2,p0:=fun x=>absurd x hp,pn:=fun _=>⟨by simp_all,hn.2⟩,p1:=fun _=>hkr.1,p2:=fun x=>absurd (e.symm.trans x) (by decide) }
      ·have ht:takeL a.2.1 c.1 a.2.2.2.2.2.2=a.2.1:=by
        unfold takeL
        rw [if_pos]
        exact Prod.ext hown (h.p2 e).1
       simp_all
     ·rename_i q3
      have hkr:=h.kr
      have har:=h.ar
      exact { ok_free h.bl h.bw h.ar h.kr with lr:=Or.inr ⟨by simp_all,Or.inl hkr.1⟩,l1:=h1,l2:=hkr.2,pr:=⟨by simp,by simp⟩,tr:=h3,p0:=fun x=>absurd x (show (1:Int) ≠ 0 by decide),pn:=fun _=>⟨by simp_all,by simp_all,rfl⟩,p1:=fun _=>hkr.1,p2:=fun x=>absurd x (show (1:Int) ≠ 2 by decide) }
   ·split
    ·split
     ·rename_i q2
      have hp:a.2.2.1 ≠ 0:=fun e=>by omega
      have hn:=h.pn hp
      refine { h with lr:=Or.inr ⟨by simp_all,Or.inr rfl⟩,l1:=h1,l2:=by simp,pr:=⟨by simp,by simp⟩,p0:=fun x=>absurd x (show (2:Int) ≠ 0 by decide),pn:=fun _=>⟨by simp_all,hn.2⟩,p1:=fun x=>absurd x (show (2:Int) ≠ 1 by decide),p2:=fun _=>⟨rfl,?_⟩ }
      rcases q2 with q2 | q2
      ·exact (h.p2 q2.1).2
      ·have hw:=q2.2.2
       unfold wholeA at hw
       rw [zO,zO,decide_eq_true_eq] at hw
       have hf:=of_decide_eq_true hw.2.1
       have hl:=h.hl
       have hcnt:((a.2.2.2.2.2.1.2.1.count true:Nat):Int)=c.2.2.2.1:=by
        obtain ⟨n,hn'⟩:=zN hw.1.1
        rw [hn'] at hf ⊢
        have hv8:a.2.2.2.2.2.1.2.1=(List.range 8).map (fun (i:Nat)=>decide ((i:Int) < (n:Int))):=by
         apply List.ext_getElem?
         grind
        have hn8:n≤8:=by omega
        rw [hv8]
        have:n=0∨n=1∨n=2∨n=3∨n=4∨n=5∨n=6∨n=7∨n=8:=by omega
        rcases this with rfl | rfl | rfl | rfl | rfl | rfl | rfl | rfl | rfl <;> rfl
       simp_all
     omega
    ·split
     ·split
      ·exact h
      ·split
       ·exact ok_free (overB_len h.bl h.fb) (overB_rng (P:=fun y=>0≤y∧y≤65535) h.bw (fun x hx=>h.wb x (blkS_mem hx))) h3 h.kr
       omega
     ·split
      ·exact h
      ·split
       ·exact h.free
       omega
theorem set_mem' {α:Type} {P:α->Prop} {xs:List α} {k:Nat} {x:α} (h:∀ y ∈ xs,P y) (hx:P x):∀ y ∈ xs.set k x,P y:=fun y hy=>by
 grind
theorem blkS_set {P:TBlk->Prop} {x:TBlk} (hx:P x):∀ {hv:List Bool} {bs:List TBlk} (k:Nat),(∀ b ∈ blkS hv bs,P b)->∀ b ∈ blkS (hv.set k true) (bs.set k x),P b
 | [],bs,k,_=>by simp_all [blkS]
 | h::r,[],k,_=>by simp_all [blkS]
 | h::r,c::q,0,hp=>by
  intro b hb
  rw [List.set_cons_zero,List.set_cons_zero] at hb
  unfold blkS at hb hp
  rw [List.zip_cons_cons,List.filter_cons,if_pos rfl,List.map_cons] at hb
  grind [List.zip_cons_cons,zT]
 | h::r,c::q,k + 1,hp=>by
  intro b hb
  rw [List.set_cons_succ,List.set_cons_succ] at hb
  have hr:∀ b ∈ blkS r q,P b:=fun b hb=>hp b (by
   grind [blkS,List.zip_cons_cons,zT])
  have ih:=blkS_set hx k hr
  unfold blkS at hb hp ih
  rw [List.zip_cons_cons,List.filter_cons] at hb
  cases h with
  | true =>
   rw [if_pos rfl,List.map_cons] at hb
   rcases List.mem_cons.1 hb with e | e
   ·simp_all
   simp_all
  | false=>simp_all
theorem OkG.putA {a:TAg} (h:OkG a) {o t n:Int} {x:TBlk} (ho:0≤o∧o≤65535) (hf:fitsB x=true) (hw:∀ w ∈ x.2,0≤w∧w≤65535):OkG (putA a o t n x).1:=by
 have hx:x.2.length≤1000:=by have:=of_decide_eq_true hf; omega
 unfold Lx.putA
 split
 ·exact h
 ·rename_i q0
  split
  ·exact h
  ·rename_i q1
   split
   ·exact h
   ·rename_i q2
    have q2:=Classical.not_not.1 q2
    have hkr:=h.kr
    have hp:a.2.2.1 ≠ 0:=by omega
    have hn:=h.pn hp
    have ht:takeL a.2.1 o a.2.2.2.2.2.2=(o,a.2.2.2.2.2.2):=by
     unfold takeL
     rw [if_neg]
     intro e
     have:=h.p1 q2.1
     simp_all
    rw [ht]
    have hbs:∀ b ∈ a.2.2.2.2.2.1.2.2.set n.toNat x,b.2.length≤1000:=set_mem' (P:=fun (b:TBlk)=>b.2.length≤1000) h.bb hx
    have hws:∀ b ∈ a.2.2.2.2.2.1.2.2.set n.toNat x,∀ w ∈ b.2,0≤w∧w≤65535:=set_mem' (P:=fun (b:TBlk)=>∀ w ∈ b.2,0≤w∧w≤65535) h.wb hw
    have hhl:=h.hl
    have hsl:=h.sl
    exact { h with
     lr:=Or.inr ⟨by simp_all,Or.inl hkr.1⟩
     l1:=ho
     l2:=hkr.2
     hl:=by show (a.2.2.2.2.2.1.2.1.set n.toNat true).length=8; simp_all
     sl:=nzB_len (by simp_all) (by simp_all)
     bb:=nzB_mem (P:=fun b=>b.2.length≤1000) (by show (0:Nat)≤1000; omega) hbs
     wb:=nzB_mem (P:=fun b=>∀ w ∈ b.2,0≤w∧w≤65535) (by intro w hw; cases hw) hws
     fb:=by
      show ∀ b ∈ blkS (a.2.2.2.2.2.1.2.1.set n.toNat true) (nzB (a.2.2.2.2.2.1.2.1.set n.toNat true) (a.2.2.2.2.2.1.2.2.set n.toNat x)),fitsB b=true
      rw [blkS_nz]
      exact blkS_set hf _ h.fb
     p0:=fun e=>absurd e hp
     pn:=fun _=>⟨by simp_all,hn.2⟩
     p1:=fun _=>hkr.1
     p2:=fun e=>absurd (q2.1.symm.trans e) (by decide) }
end Go.Proofs.Lx
end
