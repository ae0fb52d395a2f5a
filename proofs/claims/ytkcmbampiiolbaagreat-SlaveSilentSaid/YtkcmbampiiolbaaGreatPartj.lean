/- Proved in the last of these 12 parts (this is part 10): SlaveSilent returns true, whatever the bank, what came ahead, the unit, the bytes, the place and the pattern. Conditions: those of the given statement, and no others. -/
import Derived.Test.YtkcmbampiiolbaaGreatParti
set_option linter.unusedVariables false
set_option linter.unusedSimpArgs false
set_option linter.unusedSectionVars false
section
namespace Go.Proofs.Lx
open Go Ev Sx Pl
set_option maxRecDepth 100000
structure OkR (r:TR):Prop where
 f0:0≤r.1
 f1:r.1≤255
 e0:0≤r.2.1
 e1:r.2.1≤255
 w:∀ x ∈ r.2.2.2.1,0≤x∧x≤65535
 at0:0≤r.2.2.2.2.1
 at1:r.2.2.2.2.1≤65535
 m0:0≤r.2.2.2.2.2
 m1:r.2.2.2.2.2≤65535
 lb:r.2.2.1.length≤100000
 lw:r.2.2.2.1.length≤100000
inductive RR:TR->Prop where
 | ex (f e:Int) (h0:0≤f) (h:f < 128) (h1:1≤e) (h2:e≤4):RR (f,e,[],[],0,0)
 | bits (f:Int) (l:List Bool) (hf:f=1∨f=2) (h1:8≤l.length) (h2:l.length≤2000) (h3:l.length % 8=0):RR (f,0,l,[],0,0)
 | words (f:Int) (l:List Int) (hf:f=3∨f=4∨f=23) (h1:1≤l.length) (h2:l.length≤125):RR (f,0,[],l,0,0)
 | coil (b:Bool) (p:Int):RR (5,0,[b],[],p,0)
 | word (x p:Int):RR (6,0,[],[x],p,0)
 | coils (p n:Int) (h1:1≤n) (h2:n≤1968):RR (15,0,[],[],p,n)
 | regs (p n:Int) (h1:1≤n) (h2:n≤123):RR (16,0,[],[],p,n)
theorem rem128 {f:Int} (h0:0≤f) (h:f < 128):rem f 128=f:=by
 unfold rem
 rw [Int.tmod_eq_emod_of_nonneg h0]
 omega
def repB (r:TR):List Int:=if nei r.2.1 0=true then exB r else if eqi r.1 1=true then bitB r else if eqi r.1 2=true then bitB r else if eqi r.1 3=true then wordB r else if eqi r.1 4=true then wordB r else if eqi r.1 23=true then wordB r else
 if eqi r.1 5=true then obB r else if eqi r.1 6=true then owB r else if eqi r.1 15=true then ctB r else if eqi r.1 16=true then ctB r else []
theorem repB_len {r:TR} (h:RR r):2≤(repB r).length∧(repB r).length≤253:=by
 cases h with
 | ex f e h0 h h1 h2 =>
  unfold repB
  rw [if_pos (by rw [qj_]; show e ≠ 0; omega)]
  exact ⟨Nat.le.refl,(by decide:2≤253)⟩
 | bits f l hf h1 h2 h3 =>
  have e:repB (f,0,l,[],0,0)=bitB (f,0,l,[],0,0):=by rcases hf with rfl | rfl <;> rfl
  rw [e]
  show 2≤(f::_::packS l).length∧(f::_::packS l).length≤253
  simp only [List.length_cons,packS_len]
  unfold packN
  omega
 | words f l hf h1 h2 =>
  have e:repB (f,0,[],l,0,0)=wordB (f,0,[],l,0,0):=by rcases hf with rfl | rfl | rfl <;> rfl
  rw [e]
  show 2≤([f,_]++l.flatMap two).length∧([f,_]++l.flatMap two).length≤253
  simp only [List.length_append,List.length_cons,List.length_nil,flat_two_len]
  omega
 | coil b p=>exact ⟨(by decide:2≤5),(by decide:5≤253)⟩
 | word x p=>exact ⟨(by decide:2≤5),(by decide:5≤253)⟩
 | coils p n h1 h2=>exact ⟨(by decide:2≤5),(by decide:5≤253)⟩
 | regs p n h1 h2=>exact ⟨(by decide:2≤5),(by decide:5≤253)⟩
end Go.Proofs.Lx
end
section
namespace Go.Proofs.Lx
open Go Ev Sx Pl
set_option maxRecDepth 100000
theorem wr_if {c:Bool} {w:Option (List Int×Unit)} {x:List Int} (hw:c=true->w=some (x,())) :
  (if c=true then Option.bind w fun y=>(some (y.1,0,()):Option (As [.sl (.int .u8),.int .i64])) else some ([],13,()))=if c=true then some (x,0,()) else some ([],13,()):=by
 by_cases h:c=true
 ·rw [if_pos h,if_pos h,hw h]
  rfl
 ·rw [if_neg h,if_neg h]
abbrev RB:=Option (As [.sl (.int .u8),.int .i64])
theorem if_step {c:Bool} {A B:RB} {ra rb:Bool} {xa xb:List Int} (h1:A=if ra=true then some (xa,0,()) else some ([],13,())) (h2:B=if rb=true then some (xb,0,()) else some ([],13,())) :
  (if c=true then A else B)=if (if c=true then ra else rb)=true then some ((if c=true then xa else xb),0,()) else some ([],13,()):=by
 cases c with
 | true=>exact h1
 | false=>exact h2
theorem rbytes_eq {r:TR} (h:SmR r):q9a_ (r,())=if rightR r=true then some (repB r,0,()) else some ([],13,()):=by
 show qkz_ r=_
 unfold qkz_ rightR repB
 rw [exR_eq h,bitR_eq h,wordR_eq h,obR_eq h,owR_eq h,ctR_eq h,ctR_eq h]
 simp only [Option.bind_some]
 have wex:=wr_if (c:=exR r) (fun _=>exB_eq r)
 have wbit:=wr_if (c:=bitR r) (fun _=>bitB_eq h)
 have wword:=wr_if (c:=wordR r) (fun _=>wordB_eq h)
 have wob:=wr_if (c:=obR r) (fun hc=>obB_eq hc)
 have wow:=wr_if (c:=owR r) (fun hc=>owB_eq hc)
 have wc1:=wr_if (c:=ctR 1968 r) (fun _=>ctB_eq 1968 r)
 have wc2:=wr_if (c:=ctR 123 r) (fun _=>ctB_eq 123 r)
 exact if_step wex (if_step wbit (if_step wbit (if_step wword (if_step wword (if_step wword (if_step wob (if_step wow (if_step wc1 (if_step wc2 rfl)))))))))
theorem listS_rng (b:List Int):∀ x ∈ listS b,0≤x∧x≤65535:=by
 intro x hx
 unfold listS at hx
 obtain ⟨i,_,rfl⟩:=List.mem_map.1 hx
 have:=numV_rng (b.getD (2 * i) 0) (b.getD (2 * i + 1) 0)
 omega
theorem written_any {f p n t:Int} (hf:0≤f∧f≤255) (hp:0≤p∧p≤65535) (hn:0≤n∧n≤65535) (ht:0≤t∧t≤65535) (s:Int×Int×Int×Bool×Bool) {rest:List Int} (hl:rest.length≤300) :
  ∃ (a:TA) (ok:Bool),qhw_ ((f,p,n,t,[],[]),s,rest,())=some (a,ok,())∧(ok=true->OkA a):=by
 have mkw:∀ l:List Int,(∀ x ∈ l,0≤x∧x≤65535)->l.length≤100000->OkA (f,p,n,t,l,[]):=fun l h1 h2=>⟨hf.1,hf.2,hp.1,hp.2,hn.1,hn.2,ht.1,ht.2,h1,h2,Nat.zero_le _⟩
 have mkb:∀ l:List Bool,l.length≤100000->OkA (f,p,n,t,[],l):=fun l h2=>⟨hf.1,hf.2,hp.1,hp.2,hn.1,hn.2,ht.1,ht.2,(fun x hx=>by cases hx),Nat.zero_le _,h2⟩
 show ∃ (a:TA) (ok:Bool),qkb_ qkt_ (f,p,n,t,[],[]) s rest=_∧_
 unfold qkb_
 dsimp only
 by_cases h1:eqi (add .i64 s.2.1 s.2.2.1) 0=true
 ·rw [if_pos h1]
  exact ⟨_,_,rfl,fun _=>mkw [] (fun x hx=>by cases hx) (Nat.zero_le _)⟩
 ·rw [if_neg h1]
  by_cases h2:rest.length < 2
  ·rw [if_pos (by rw [qa_,q1_]; omega)]
   exact ⟨_,_,rfl,fun e=>by cases e⟩
  ·rw [if_neg (by rw [qa_,q1_]; omega)]
   by_cases h5:eqi f 5=true
   ·rw [if_pos h5]
    match rest,h2 with
    | y::r,_ =>
     rw [q3p_,Option.bind_some]
     exact ⟨_,_,rfl,fun _=>mkb [nei y 0] (by show 1≤100000; decide)⟩
    | [],h2=>exact absurd (by decide) h2
   ·rw [if_neg h5]
    by_cases h6:eqi f 6=true
    ·rw [if_pos h6,alist_eq (by omega),Option.bind_some]
     exact ⟨_,_,rfl,fun _=>mkw _ (listS_rng _) (by rw [listS_len]; omega)⟩
    ·rw [if_neg h6]
     match rest,h2 with
     | [],h2=>exact absurd (by decide) h2
     | y::r,_ =>
      have hr:r.length≤300:=by simp at hl; omega
      by_cases hb:gt s.2.1 0=true
      ·rw [if_pos hb,cut_tail,Option.bind_some,unpack_eq (by omega),Option.bind_some]
       dsimp only
       rw [cvt64 (by omega) (by omega)]
       by_cases hlt:lt (Int.ofNat (unpackS r).length) n=true
       ·rw [if_pos hlt]
        exact ⟨_,_,rfl,fun e=>by cases e⟩
       ·rw [if_neg hlt]
        rw [qa_,q1_,unpackS_len] at hlt
        obtain ⟨k,rfl⟩:=Int.eq_ofNat_of_zero_le hn.1
        rw [cut_to (by rw [unpackS_len]; omega),Option.bind_some,q9_ (by rw [q19_]; omega),q9_ (by rw [q19_,q1_,unpackS_len]; omega)]
        exact ⟨_,_,rfl,fun _=>mkb _ (by rw [List.length_take,unpackS_len]; omega)⟩
      ·rw [if_neg hb,cut_tail,Option.bind_some,alist_eq (by omega),Option.bind_some]
       exact ⟨_,_,rfl,fun _=>mkw _ (listS_rng _) (by rw [listS_len]; omega)⟩
theorem five_of {b:List Int} (h:5≤b.length):∃ f p1 p2 n1 n2 r,b=f::p1::p2::n1::n2::r:=by
 match b,h with
 | f::p1::p2::n1::n2::r,_=>exact ⟨f,p1,p2,n1,n2,r,rfl⟩
theorem aread_any {b:List Int} (hb:∀ x ∈ b,0≤x∧x≤255):∃ (a:TA) (ok:Bool),qsp_ (b,())=some (a,ok,())∧(ok=true->OkA a):=by
 have bad:qec_ b true 0 0 0 0=some ((0,0,0,0,[],[]),false,()):=rfl
 by_cases h5:b.length < 5
 ·refine ⟨(0,0,0,0,[],[]),false,?_,fun e=>by cases e⟩
  show qbp_ qec_ b=_
  unfold qbp_
  rw [if_pos (by rw [qa_,q1_]; omega)]
  exact bad
 ·by_cases h253:253 < b.length
  ·refine ⟨(0,0,0,0,[],[]),false,?_,fun e=>by cases e⟩
   show qbp_ qec_ b=_
   unfold qbp_
   rw [if_neg (by rw [qa_,q1_]; omega),show gt (Int.ofNat b.length) 253=true from gt_iff.2 (by rw [q1_]; omega)]
   exact bad
  ·obtain ⟨f,p1,p2,n1,n2,r,rfl⟩:=five_of (b:=b) (by omega)
   have hf:0≤f∧f≤255:=hb f (by simp)
   have hr:r.length≤248:=by simp at h253; omega
   have hg:gt (Int.ofNat (f::p1::p2::n1::n2::r).length) 253=false:=by
    rw [<- Bool.not_eq_true,gt_iff,q1_]; simp; omega
   have hm0:qsp_ (f::p1::p2::n1::n2::r,())=qt8_ qhz_ (f::p1::p2::n1::n2::r) false 0 0 0 0:=by
    show qbp_ qec_ _=_
    unfold qbp_
    rw [if_neg (by rw [qa_,q1_]; simp; omega),hg]
    rfl
   have ec3:cut (f::p1::p2::n1::n2::r) 3 (Int.ofNat (f::p1::p2::n1::n2::r).length)=some (n1::n2::r):=cut_from (i:=3) (by simp)
   have ec5:cut (f::p1::p2::n1::n2::r) 5 (Int.ofNat (f::p1::p2::n1::n2::r).length)=some r:=cut_from (i:=5) (by simp)
   have nn:∀ x y,0≤numV x y∧numV x y≤65535:=fun x y=>by have:=numV_rng x y; omega
   have tail:∀ (l rest:List Int) (s:Int×Int×Int×Bool×Bool) (n:Int),(∃ q,l=numV p1 p2::numV n1 n2::q∧(4≤rest.length->q ≠ []∧∀ x ∈ q,0≤x∧x≤65535))->rest.length≤300->(0≤n∧n≤65535) ->
     ∃ (a:TA) (ok:Bool),qhz_ l rest 0 0 0 0 s.1 s.2.1 s.2.2.1 s.2.2.2.1 s.2.2.2.2 f (numV p1 p2) n 0=some (a,ok,())∧(ok=true->OkA a):=by
    rintro l rest s n ⟨q,rfl,hq⟩ hrl hn
    have k3:∀ (rest:List Int) (t:Int),rest.length≤300->(0≤t∧t≤65535)->∃ (a:TA) (ok:Bool),qsz_ rest 0 0 0 0 s.1 s.2.1 s.2.2.1 s.2.2.2.1 s.2.2.2.2 f (numV p1 p2) n t=some (a,ok,())∧(ok=true->OkA a):=fun rest t h1 h2=>by
     obtain ⟨a,ok,e1,e2⟩:=written_any hf (nn p1 p2) hn h2 s h1
     refine ⟨a,ok,?_,e2⟩
     show Option.bind (qhw_ ((f,numV p1 p2,n,t,[],[]),s,rest,())) _=_
     rw [e1]
     rfl
    unfold qhz_ qxk_
    by_cases ht:s.2.2.2.1=true
    ·rw [if_pos ht]
     by_cases h4:rest.length < 4
     ·rw [if_pos (by rw [qa_,q1_]; omega)]
      exact ⟨_,_,rfl,fun e=>by cases e⟩
     ·rw [if_neg (by rw [qa_,q1_]; omega)]
      obtain ⟨hq1,hq2⟩:=hq (by omega)
      match q,hq1,hq2 with
      | z::q,_,hq2 =>
       have hat:at? (numV p1 p2::numV n1 n2::z::q) 2=some z:=rfl
       rw [hat,Option.bind_some]
       have hc:cut rest 4 (Int.ofNat rest.length)=some (rest.drop 4):=cut_from (i:=4) (by omega)
       rw [hc,Option.bind_some]
       exact k3 _ z (by rw [List.length_drop]; omega) (hq2 z (by simp))
      | [],hq1,_=>exact absurd rfl hq1
    ·rw [if_neg ht]
     exact k3 rest 0 hrl ⟨by decide,by decide⟩
   rw [hm0]
   unfold qt8_
   rw [if_neg (by decide),q3p_,Option.bind_some,shape_eq,Option.bind_some]
   cases hs:shp f with
   | none=>exact ⟨_,false,rfl,fun e=>by cases e⟩
   | some s =>
    dsimp only
    rw [if_neg (by show ¬ (!true)=true; decide),cut_tail,Option.bind_some,alist_eq (by simp; omega),Option.bind_some,Option.bind_some,listS_two,listS_two,q3p_,Option.bind_some,ec3,Option.bind_some]
    have hsd:shpD f=s:=by unfold shpD; rw [hs]; rfl
    rw [hsd]
    have hq4:4≤r.length->listS r ≠ []∧∀ x ∈ listS r,0≤x∧x≤65535:=fun h=>⟨fun e=>by have:=listS_len r; rw [e] at this; simp at this; omega,listS_rng r⟩
    by_cases hm:gt s.1 0=true
    ·rw [if_pos hm,at_one,Option.bind_some,ec5,Option.bind_some]
     exact tail _ r s _ ⟨listS r,rfl,hq4⟩ (by omega) (nn n1 n2)
    ·rw [if_neg hm]
     by_cases h4:4≤(n1::n2::r).length
     ·refine tail _ (n1::n2::r) s 0 ⟨listS r,rfl,fun _=>?_⟩ (by simp; omega) ⟨by decide,by decide⟩
      refine ⟨fun e=>?_,listS_rng r⟩
      have:=listS_len r
      rw [e] at this
      simp at this h4
      omega
     ·exact tail _ (n1::n2::r) s 0 ⟨listS r,rfl,fun h=>absurd h h4⟩ (by simp; omega) ⟨by decide,by decide⟩
theorem aparse_any {b:List Int} (hb:∀ x ∈ b,0≤x∧x≤255):∃ (a:TA) (e:Int),quh_ (b,())=some (a,e,())∧((e=0∧OkA a∧rightA a=true∧toS (askB a)=toS b)∨e=12):=by
 obtain ⟨a,ok,h1,h2⟩:=aread_any hb
 show ∃ (a':TA) (e:Int),qqu_ qr8_ b=some (a',e,())∧_
 unfold qqu_
 rw [h1,Option.bind_some]
 cases ok with
 | false=>exact ⟨_,_,rfl,.inr rfl⟩
 | true =>
  have ha:=h2 rfl
  dsimp only
  rw [if_neg (by decide),q1gt_ ha]
  cases hr:rightA a with
  | false=>exact ⟨_,_,rfl,.inr rfl⟩
  | true =>
   rw [if_pos rfl,Option.bind_some,if_neg (show ¬ nei 0 0=true by decide)]
   dsimp only
   have e:q2y_ (askB a,b,())=some (eqs (toS (askB a)) (toS b),()):=rfl
   rw [e,Option.bind_some]
   cases he:eqs (toS (askB a)) (toS b) with
   | false=>exact ⟨_,_,rfl,.inr rfl⟩
   | true=>exact ⟨a,0,rfl,.inl ⟨rfl,ha,hr,eqs_iff.1 he⟩⟩
theorem look_any {f:Int} {b:List Int} (hb:∀ x ∈ f::b,0≤x∧x≤255):∃ (a:TA) (e:Int),qgd_ (f::b,())=some (a,e,())∧((e=0∧OkA a∧rightA a=true∧toS (askB a)=toS (f::b))∨((e=1∨e=3)∧a=(f,0,0,0,[],[]))):=by
 obtain ⟨a,e,h1,h2⟩:=aparse_any hb
 show ∃ (a':TA) (e:Int),qtc_ (f::b)=some (a',e,())∧_
 unfold qtc_
 rw [if_neg (by rw [q6_,q1_,List.length_cons]; omega),h1,Option.bind_some]
 dsimp only
 rcases h2 with ⟨rfl,ha⟩ | rfl
 ·exact ⟨a,0,rfl,.inl ⟨rfl,ha⟩⟩
 ·rw [if_neg (by decide),q3p_,Option.bind_some,Option.bind_some,shape_eq,Option.bind_some]
  dsimp only
  split
  ·exact ⟨_,_,rfl,.inr ⟨.inl rfl,rfl⟩⟩
  ·exact ⟨_,_,rfl,.inr ⟨.inr rfl,rfl⟩⟩
end Go.Proofs.Lx
end
section
namespace Go.Proofs.Lx
open Go Ev Sx Pl
set_option maxRecDepth 100000
abbrev TArea:=Int×Int×Bool×Bool×Bool
def covS (x:TArea) (i:Int):Bool:=decide (1≤x.2.1∧x.1≤i∧i < x.1 + x.2.1)
def qv_ (l:List TArea) (i:Int):Option TArea:=l.find? fun x=>covS x i
def wantF (w:TArea->Bool) (l:List TArea) (i:Int):Bool:=match qv_ l i with
 | some x=>w x
 | none=>false
def eachS (w:TArea->Bool) (l:List TArea) (p:Int) (m:Nat):Bool:=(List.range m).all fun k=>wantF w l (p + (k:Int))
def OkAr (x:TArea):Prop:=-9223372036854775808≤x.1∧x.1≤9223372036854775807∧-9223372036854775808≤x.2.1∧x.2.1≤9223372036854775807
theorem capOk_sf (n:Int):capOk n n=true:=by
 unfold capOk
 rw [if_pos rfl]
theorem meet_gen {x:TArea} {p e:Int} (h0:0≤p) (hpe:p≤e) (he:e≤1000000000000) (hx:OkAr x) :
  ∃ f t,q82_ (x,p,e,())=some (f,t,())∧p≤f∧f≤e∧t≤e∧∀ i,p≤i->i < e->(covS x i=true ↔ f≤i∧i < t):=by
 obtain ⟨x1,x2,x3,x4⟩:=hx
 show ∃ f t,qn2_ qd1_ x p e=_∧_
 unfold qn2_
 have none:∃ f t,qd1_ p e true x=some (f,t,())∧f=p∧t=p:=⟨p,p,rfl,rfl,rfl⟩
 by_cases hm:x.2.1 < 1
 ·rw [if_pos (qa_.2 hm)]
  obtain ⟨f,t,h1,rfl,rfl⟩:=none
  refine ⟨_,_,h1,Int.le_refl _,hpe,hpe,fun i hi hie=>?_⟩
  unfold covS
  rw [decide_eq_true_eq]
  omega
 ·rw [if_neg (fun h=>hm (qa_.1 h))]
  by_cases ha:e≤x.1
  ·rw [q1f_.2 ha]
   obtain ⟨f,t,h1,rfl,rfl⟩:=none
   refine ⟨_,_,h1,Int.le_refl _,hpe,hpe,fun i hi hie=>?_⟩
   unfold covS
   rw [decide_eq_true_eq]
   omega
  ·rw [show ge x.1 e=false from decide_eq_false ha]
   have K3:∀ t,qhu_ p t x=some (if p < x.1 then x.1 else p,t,()):=fun t=>by
    unfold qhu_ qup_
    simp only [gt_iff]
   have K2t:qcx_ p e e true x=some (if p < x.1 then x.1 else p,(if x.1 + x.2.1 < e then x.1 + x.2.1 else e),())∨¬ (x.1 < 0∨x.2.1 < e - x.1):=by
    by_cases hc:x.1 < 0∨x.2.1 < e - x.1
    ·left
     unfold qcx_ qnf_
     have hadd:add .i64 x.1 x.2.1=x.1 + x.2.1:=add64 (by omega) (by omega)
     rw [if_pos rfl,K3,hadd]
     simp only [qa_]
    ·exact .inr hc
   have fin:∀ t,(t=(if x.1 + x.2.1 < e then x.1 + x.2.1 else e))->p≤(if p < x.1 then x.1 else p)∧(if p < x.1 then x.1 else p)≤e∧t≤e∧∀ i,p≤i->i < e->(covS x i=true ↔ (if p < x.1 then x.1 else p)≤i∧i < t):=fun t ht=>by
    subst ht
    refine ⟨by split <;> omega,by split <;> omega,by split <;> omega,fun i hi hie=>?_⟩
    unfold covS
    rw [decide_eq_true_eq]
    split <;> split <;> omega
   unfold qd1_ qum_
   rw [if_neg (by decide)]
   by_cases hn:x.1 < 0
   ·rw [if_pos (qa_.2 hn)]
    rcases K2t with h | h
    ·obtain ⟨g1,g2,g3,g4⟩:=fin _ rfl
     exact ⟨_,_,h,g1,g2,g3,g4⟩
    ·exact absurd (.inl hn) h
   ·rw [if_neg (fun h=>hn (qa_.1 h)),sub64 (by omega) (by omega)]
    by_cases hc:x.2.1 < e - x.1
    ·rw [qa_.2 hc]
     rcases K2t with h | h
     ·obtain ⟨g1,g2,g3,g4⟩:=fin _ rfl
      exact ⟨_,_,h,g1,g2,g3,g4⟩
     ·exact absurd (.inr hc) h
    ·rw [show lt x.2.1 (e - x.1)=false from decide_eq_false hc]
     unfold qcx_ qnf_
     rw [if_neg (by decide),K3]
     obtain ⟨g1,g2,g3,g4⟩:=fin e (by rw [if_neg (by omega)])
     exact ⟨_,_,rfl,g1,g2,g3,g4⟩
theorem first_take {l:List TArea} {t:Nat} {i:Int} {y:TArea} (h:qv_ (l.take t) i=some y):qv_ l i=some y:=by
 have:qv_ l i=(qv_ (l.take t) i).or (qv_ (l.drop t) i):=by
  unfold qv_
  rw [<- List.find?_append,List.take_append_drop]
 rw [this,h]
 rfl
theorem first_next {l:List TArea} {t:Nat} (ht:t < l.length) (i:Int):qv_ (l.take (t + 1)) i=(qv_ (l.take t) i).or (if covS l[t] i=true then some l[t] else none):=by
 unfold qv_
 rw [List.take_succ_eq_append_getElem ht,List.find?_append]
 congr 1
 simp only [List.find?_cons,List.find?_nil]
 cases covS l[t] i <;> rfl
def MetI (w:TArea->Bool) (l:List TArea) (p:Int) (m:Nat) (c:Int->Bool) (met:List Bool) (left:Int):Prop :=
 met.length=m∧left=((met.countP fun b=>!b:Nat):Int)∧∀ k:Nat,k < m->met[k]? = some (c (p + (k:Int)))∧(c (p + (k:Int))=true->wantF w l (p + (k:Int))=true)
theorem met_0 (w:TArea->Bool) (l:List TArea) (p:Int) (m:Nat):MetI w l p m (fun i=>(qv_ (l.take 0) i).isSome) (List.replicate m false) (m:Int):=by
 refine ⟨List.length_replicate ..,?_,fun k hk=>⟨?_,fun e=>by cases e⟩⟩
 ·rw [List.countP_replicate]
  rfl
 ·rw [List.getElem?_replicate,if_pos hk]
  rfl
theorem met_zero {w:TArea->Bool} {l:List TArea} {p:Int} {m:Nat} {c:Int->Bool} {met:List Bool} {left:Int} (h:MetI w l p m c met left) (h0:left=0):eachS w l p m=true:=by
 obtain ⟨h1,h2,h3⟩:=h
 unfold eachS
 rw [List.all_eq_true]
 intro k hk
 rw [List.mem_range] at hk
 obtain ⟨e1,e2⟩:=h3 k hk
 refine e2 ?_
 have hz:met.countP (fun b=>!b)=0:=by omega
 have:=List.countP_eq_zero.1 hz _ (List.mem_of_getElem? e1)
 simpa using this
theorem met_left {w:TArea->Bool} {l:List TArea} {p:Int} {m:Nat} {met:List Bool} {left:Int} (h:MetI w l p m (fun i=>(qv_ l i).isSome) met left) (h0:left ≠ 0):eachS w l p m=false:=by
 obtain ⟨h1,h2,h3⟩:=h
 rw [<- Bool.not_eq_true]
 intro hall
 unfold eachS at hall
 rw [List.all_eq_true] at hall
 apply h0
 rw [h2]
 have:met.countP (fun b=>!b)=0:=by
  rw [List.countP_eq_zero]
  intro b hb
  obtain ⟨k,hk,rfl⟩:=List.getElem_of_mem hb
  have e1:=(h3 k (by omega)).1
  have hw:=hall k (List.mem_range.2 (by omega))
  unfold wantF at hw
  rw [List.getElem?_eq_getElem hk] at e1
  dsimp only at e1
  cases hf:qv_ l (p + (k:Int)) with
  | none=>rw [hf] at hw; cases hw
  | some y =>
   rw [hf] at e1
   have e1:met[k]=true:=by simpa using e1
   rw [e1]
   decide
 rw [this]
 rfl
theorem met_false {w:TArea->Bool} {l:List TArea} {p:Int} {m k:Nat} (hk:k < m) (h:wantF w l (p + (k:Int))=false):eachS w l p m=false:=by
 rw [<- Bool.not_eq_true]
 intro hall
 unfold eachS at hall
 rw [List.all_eq_true] at hall
 have:=hall k (List.mem_range.2 hk)
 rw [h] at this
 cases this
theorem q5u_ {w:TArea->Bool} {l:List TArea} {p:Int} {m:Nat} {c c':Int->Bool} {met:List Bool} {left:Int} (h:MetI w l p m c met left) (hc:∀ k:Nat,k < m->c' (p + (k:Int))=c (p + (k:Int))):MetI w l p m c' met left :=
 ⟨h.1,h.2.1,fun k hk=>by rw [hc k hk]; exact h.2.2 k hk⟩
theorem met_set {w:TArea->Bool} {l:List TArea} {p:Int} {m k:Nat} {c:Int->Bool} {met:List Bool} {left:Int} (h:MetI w l p m c met left) (hk:k < m) (hf:c (p + (k:Int))=false) (hw:wantF w l (p + (k:Int))=true) :
  MetI w l p m (fun i=>c i || decide (i=p + (k:Int))) (met.set k true) (left - 1):=by
 obtain ⟨h1,h2,h3⟩:=h
 have hg:=(h3 k hk).1
 have hkl:k < met.length:=by omega
 rw [List.getElem?_eq_getElem hkl,hf] at hg
 have hg:met[k]=false:=by simpa using hg
 refine ⟨by simp [h1],?_,fun j hj=>?_⟩
 ·have hpos:0 < met.countP (fun b=>!b):=by
   rw [List.countP_pos_iff]
   exact ⟨met[k],List.getElem_mem hkl,by rw [hg]; rfl⟩
  rw [List.countP_set hkl,hg,h2]
  simp only [Bool.not_false,if_true,Bool.not_true,Bool.false_eq_true,if_false]
  omega
 ·obtain ⟨e1,e2⟩:=h3 j hj
  dsimp only
  by_cases hjk:k=j
  ·subst hjk
   refine ⟨?_,fun _=>hw⟩
   rw [List.getElem?_set_self hkl,decide_eq_true rfl,Bool.or_true]
  ·have:¬ (p + (j:Int)=p + (k:Int)):=by omega
   refine ⟨?_,fun e=>?_⟩
   ·rw [List.getElem?_set_ne hjk,e1,decide_eq_false this,Bool.or_false]
   ·rw [decide_eq_false this,Bool.or_false] at e
    exact e2 e
def qu9_ (u1:Int->Int->Int->List (Int×Int×Bool×Bool×Bool)->Int->Int->List Bool->Option (As [.bool])):=(fun (self:(Int)×(Int)×(Int)×(Int)×(Int)×(List (Int×Int×Bool×Bool×Bool))×(Int)×(Int)×(List Bool)×(Int×Int×Bool×Bool×Bool)->Option (As [.bool])) (s:(Int)×(Int)×(Int)×(Int)×(Int)×(List (Int×Int×Bool×Bool×Bool))×(Int)×(Int)×(List Bool)×(Int×Int×Bool×Bool×Bool))=>qce_ (q6x_ u1 (fun at' many left to' i t19 t20 t21 met x=>self (at',many,left,to',i,t19,t20,t21,met,x))) u1 (fun at' many left to' i t19 t20 t21 met x=>self (at',many,left,to',i,t19,t20,t21,met,x)) s.1 s.2.1 s.2.2.1 s.2.2.2.1 s.2.2.2.2.1 s.2.2.2.2.2.1 s.2.2.2.2.2.2.1 s.2.2.2.2.2.2.2.1 s.2.2.2.2.2.2.2.2.1 s.2.2.2.2.2.2.2.2.2)
theorem q120_ (u1:Int->Int->Int->List (Int×Int×Bool×Bool×Bool)->Int->Int->List Bool->Option (As [.bool])) (self:(Int)×(Int)×(Int)×(Int)×(Int)×(List (Int×Int×Bool×Bool×Bool))×(Int)×(Int)×(List Bool)×(Int×Int×Bool×Bool×Bool)->Option (As [.bool])) (at' many left to' i:Int) (t19:List (Int×Int×Bool×Bool×Bool)) (t20 t21:Int) (met:List Bool) (x:Int×Int×Bool×Bool×Bool):qu9_ u1 self (at',many,left,to',i,t19,t20,t21,met,x)=qce_ (q6x_ u1 (fun at' many left to' i t19 t20 t21 met x=>self (at',many,left,to',i,t19,t20,t21,met,x))) u1 (fun at' many left to' i t19 t20 t21 met x=>self (at',many,left,to',i,t19,t20,t21,met,x)) at' many left to' i t19 t20 t21 met x:=rfl
theorem q124_ (u1:Int->Int->Int->List (Int×Int×Bool×Bool×Bool)->Int->Int->List Bool->Option (As [.bool])) (at' many left to' i:Int) (t19:List (Int×Int×Bool×Bool×Bool)) (t20 t21:Int) (met:List Bool) (x:Int×Int×Bool×Bool×Bool):q6s_ u1 at' many left to' i t19 t20 t21 met x=loopF (qu9_ u1) 18446744073709551616 (at',many,left,to',i,t19,t20,t21,met,x):=rfl
def qu7_ :=(fun (self:(Int)×(Int)×(Int)×(List (Int×Int×Bool×Bool×Bool))×(Int)×(Int)×(List Bool)->Option (As [.bool])) (s:(Int)×(Int)×(Int)×(List (Int×Int×Bool×Bool×Bool))×(Int)×(Int)×(List Bool))=>qcl_ (q92_) (q6s_ (fun at' many left t19 t20 t21 met=>self (at',many,left,t19,t20,t21,met))) (fun at' many left t19 t20 t21 met=>self (at',many,left,t19,t20,t21,met)) s.1 s.2.1 s.2.2.1 s.2.2.2.1 s.2.2.2.2.1 s.2.2.2.2.2.1 s.2.2.2.2.2.2)
theorem q11q_  (self:(Int)×(Int)×(Int)×(List (Int×Int×Bool×Bool×Bool))×(Int)×(Int)×(List Bool)->Option (As [.bool])) (at':Int) (many:Int) (left:Int) (t19:List (Int×Int×Bool×Bool×Bool)) (t20:Int) (t21:Int) (met:List Bool):qu7_ self (at',many,left,t19,t20,t21,met)=qcl_ (q92_) (q6s_ (fun at' many left t19 t20 t21 met=>self (at',many,left,t19,t20,t21,met))) (fun at' many left t19 t20 t21 met=>self (at',many,left,t19,t20,t21,met)) at' many left t19 t20 t21 met:=rfl
theorem q125_  (at':Int) (many:Int) (left:Int) (t19:List (Int×Int×Bool×Bool×Bool)) (t20:Int) (t21:Int) (met:List Bool):qc4_ at' many left t19 t20 t21 met=loopF (qu7_) 18446744073709551616 (at',many,left,t19,t20,t21,met):=rfl
def quj_ (u1:Int->Int->Int->List (Int×Int×Bool×Bool×Bool)->Int->Int->List Bool->Option (As [.bool])):=(fun (self:(Int)×(Int)×(Int)×(Int)×(Int)×(List (Int×Int×Bool×Bool×Bool))×(Int)×(Int)×(List Bool)×(Int×Int×Bool×Bool×Bool)->Option (As [.bool])) (s:(Int)×(Int)×(Int)×(Int)×(Int)×(List (Int×Int×Bool×Bool×Bool))×(Int)×(Int)×(List Bool)×(Int×Int×Bool×Bool×Bool))=>qcs_ (q6v_ u1 (fun at' many left to' i t19 t20 t21 met x=>self (at',many,left,to',i,t19,t20,t21,met,x))) u1 (fun at' many left to' i t19 t20 t21 met x=>self (at',many,left,to',i,t19,t20,t21,met,x)) s.1 s.2.1 s.2.2.1 s.2.2.2.1 s.2.2.2.2.1 s.2.2.2.2.2.1 s.2.2.2.2.2.2.1 s.2.2.2.2.2.2.2.1 s.2.2.2.2.2.2.2.2.1 s.2.2.2.2.2.2.2.2.2)
theorem q11z_ (u1:Int->Int->Int->List (Int×Int×Bool×Bool×Bool)->Int->Int->List Bool->Option (As [.bool])) (self:(Int)×(Int)×(Int)×(Int)×(Int)×(List (Int×Int×Bool×Bool×Bool))×(Int)×(Int)×(List Bool)×(Int×Int×Bool×Bool×Bool)->Option (As [.bool])) (at' many left to' i:Int) (t19:List (Int×Int×Bool×Bool×Bool)) (t20 t21:Int) (met:List Bool) (x:Int×Int×Bool×Bool×Bool):quj_ u1 self (at',many,left,to',i,t19,t20,t21,met,x)=qcs_ (q6v_ u1 (fun at' many left to' i t19 t20 t21 met x=>self (at',many,left,to',i,t19,t20,t21,met,x))) u1 (fun at' many left to' i t19 t20 t21 met x=>self (at',many,left,to',i,t19,t20,t21,met,x)) at' many left to' i t19 t20 t21 met x:=rfl
theorem q12a_ (u1:Int->Int->Int->List (Int×Int×Bool×Bool×Bool)->Int->Int->List Bool->Option (As [.bool])) (at' many left to' i:Int) (t19:List (Int×Int×Bool×Bool×Bool)) (t20 t21:Int) (met:List Bool) (x:Int×Int×Bool×Bool×Bool):q6p_ u1 at' many left to' i t19 t20 t21 met x=loopF (quj_ u1) 18446744073709551616 (at',many,left,to',i,t19,t20,t21,met,x):=rfl
def qu5_ :=(fun (self:(Int)×(Int)×(Int)×(List (Int×Int×Bool×Bool×Bool))×(Int)×(Int)×(List Bool)->Option (As [.bool])) (s:(Int)×(Int)×(Int)×(List (Int×Int×Bool×Bool×Bool))×(Int)×(Int)×(List Bool))=>qcc_ (q94_) (q6p_ (fun at' many left t19 t20 t21 met=>self (at',many,left,t19,t20,t21,met))) (fun at' many left t19 t20 t21 met=>self (at',many,left,t19,t20,t21,met)) s.1 s.2.1 s.2.2.1 s.2.2.2.1 s.2.2.2.2.1 s.2.2.2.2.2.1 s.2.2.2.2.2.2)
theorem q11t_  (self:(Int)×(Int)×(Int)×(List (Int×Int×Bool×Bool×Bool))×(Int)×(Int)×(List Bool)->Option (As [.bool])) (at':Int) (many:Int) (left:Int) (t19:List (Int×Int×Bool×Bool×Bool)) (t20:Int) (t21:Int) (met:List Bool):qu5_ self (at',many,left,t19,t20,t21,met)=qcc_ (q94_) (q6p_ (fun at' many left t19 t20 t21 met=>self (at',many,left,t19,t20,t21,met))) (fun at' many left t19 t20 t21 met=>self (at',many,left,t19,t20,t21,met)) at' many left t19 t20 t21 met:=rfl
theorem q126_  (at':Int) (many:Int) (left:Int) (t19:List (Int×Int×Bool×Bool×Bool)) (t20:Int) (t21:Int) (met:List Bool):qcf_ at' many left t19 t20 t21 met=loopF (qu5_) 18446744073709551616 (at',many,left,t19,t20,t21,met):=rfl
def qu4_ (u1:Int->Int->Int->List (Int×Int×Bool×Bool×Bool)->Int->Int->Int->Int->List Bool->Option (As [.bool,.int .i64,.int .i64])):=(fun (self:(Int)×(Int)×(Int)×(Int)×(Int)×(List (Int×Int×Bool×Bool×Bool))×(Int)×(Int)×(Int)×(Int)×(List Bool)×(Int×Int×Bool×Bool×Bool)->Option (As [.bool,.int .i64,.int .i64])) (s:(Int)×(Int)×(Int)×(Int)×(Int)×(List (Int×Int×Bool×Bool×Bool))×(Int)×(Int)×(Int)×(Int)×(List Bool)×(Int×Int×Bool×Bool×Bool))=>qbz_ (q6r_ u1 (fun at' many left to' i t19 t20 t21 o o_2 met x=>self (at',many,left,to',i,t19,t20,t21,o,o_2,met,x))) u1 (fun at' many left to' i t19 t20 t21 o o_2 met x=>self (at',many,left,to',i,t19,t20,t21,o,o_2,met,x)) s.1 s.2.1 s.2.2.1 s.2.2.2.1 s.2.2.2.2.1 s.2.2.2.2.2.1 s.2.2.2.2.2.2.1 s.2.2.2.2.2.2.2.1 s.2.2.2.2.2.2.2.2.1 s.2.2.2.2.2.2.2.2.2.1 s.2.2.2.2.2.2.2.2.2.2.1 s.2.2.2.2.2.2.2.2.2.2.2)
theorem q11u_ (u1:Int->Int->Int->List (Int×Int×Bool×Bool×Bool)->Int->Int->Int->Int->List Bool->Option (As [.bool,.int .i64,.int .i64])) (self:(Int)×(Int)×(Int)×(Int)×(Int)×(List (Int×Int×Bool×Bool×Bool))×(Int)×(Int)×(Int)×(Int)×(List Bool)×(Int×Int×Bool×Bool×Bool)->Option (As [.bool,.int .i64,.int .i64])) (at' many left to' i:Int) (t19:List (Int×Int×Bool×Bool×Bool)) (t20 t21 o o_2:Int) (met:List Bool) (x:Int×Int×Bool×Bool×Bool):qu4_ u1 self (at',many,left,to',i,t19,t20,t21,o,o_2,met,x)=qbz_ (q6r_ u1 (fun at' many left to' i t19 t20 t21 o o_2 met x=>self (at',many,left,to',i,t19,t20,t21,o,o_2,met,x))) u1 (fun at' many left to' i t19 t20 t21 o o_2 met x=>self (at',many,left,to',i,t19,t20,t21,o,o_2,met,x)) at' many left to' i t19 t20 t21 o o_2 met x:=rfl
theorem q11v_ (u1:Int->Int->Int->List (Int×Int×Bool×Bool×Bool)->Int->Int->Int->Int->List Bool->Option (As [.bool,.int .i64,.int .i64])) (at' many left to' i:Int) (t19:List (Int×Int×Bool×Bool×Bool)) (t20 t21 o o_2:Int) (met:List Bool) (x:Int×Int×Bool×Bool×Bool):q6q_ u1 at' many left to' i t19 t20 t21 o o_2 met x=loopF (qu4_ u1) 18446744073709551616 (at',many,left,to',i,t19,t20,t21,o,o_2,met,x):=rfl
def qty_ :=(fun (self:(Int)×(Int)×(Int)×(List (Int×Int×Bool×Bool×Bool))×(Int)×(Int)×(Int)×(Int)×(List Bool)->Option (As [.bool,.int .i64,.int .i64])) (s:(Int)×(Int)×(Int)×(List (Int×Int×Bool×Bool×Bool))×(Int)×(Int)×(Int)×(Int)×(List Bool))=>qcg_ (q90_) (q6q_ (fun at' many left t19 t20 t21 o o_2 met=>self (at',many,left,t19,t20,t21,o,o_2,met))) (fun at' many left t19 t20 t21 o o_2 met=>self (at',many,left,t19,t20,t21,o,o_2,met)) s.1 s.2.1 s.2.2.1 s.2.2.2.1 s.2.2.2.2.1 s.2.2.2.2.2.1 s.2.2.2.2.2.2.1 s.2.2.2.2.2.2.2.1 s.2.2.2.2.2.2.2.2)
theorem q127_  (self:(Int)×(Int)×(Int)×(List (Int×Int×Bool×Bool×Bool))×(Int)×(Int)×(Int)×(Int)×(List Bool)->Option (As [.bool,.int .i64,.int .i64])) (at':Int) (many:Int) (left:Int) (t19:List (Int×Int×Bool×Bool×Bool)) (t20:Int) (t21:Int) (o:Int) (o_2:Int) (met:List Bool):qty_ self (at',many,left,t19,t20,t21,o,o_2,met)=qcg_ (q90_) (q6q_ (fun at' many left t19 t20 t21 o o_2 met=>self (at',many,left,t19,t20,t21,o,o_2,met))) (fun at' many left t19 t20 t21 o o_2 met=>self (at',many,left,t19,t20,t21,o,o_2,met)) at' many left t19 t20 t21 o o_2 met:=rfl
theorem q122_  (at':Int) (many:Int) (left:Int) (t19:List (Int×Int×Bool×Bool×Bool)) (t20:Int) (t21:Int) (o:Int) (o_2:Int) (met:List Bool):qcp_ at' many left t19 t20 t21 o o_2 met=loopF (qty_) 18446744073709551616 (at',many,left,t19,t20,t21,o,o_2,met):=rfl
def qud_ (u1:Int->Int->Int->List (Int×Int×Bool×Bool×Bool)->Int->Int->Int->Int->List Bool->Option (As [.bool,.int .i64,.int .i64])):=(fun (self:(Int)×(Int)×(Int)×(Int)×(Int)×(List (Int×Int×Bool×Bool×Bool))×(Int)×(Int)×(Int)×(Int)×(List Bool)×(Int×Int×Bool×Bool×Bool)->Option (As [.bool,.int .i64,.int .i64])) (s:(Int)×(Int)×(Int)×(Int)×(Int)×(List (Int×Int×Bool×Bool×Bool))×(Int)×(Int)×(Int)×(Int)×(List Bool)×(Int×Int×Bool×Bool×Bool))=>qch_ (q6w_ u1 (fun at' many left to' i t19 t20 t21 o o_2 met x=>self (at',many,left,to',i,t19,t20,t21,o,o_2,met,x))) u1 (fun at' many left to' i t19 t20 t21 o o_2 met x=>self (at',many,left,to',i,t19,t20,t21,o,o_2,met,x)) s.1 s.2.1 s.2.2.1 s.2.2.2.1 s.2.2.2.2.1 s.2.2.2.2.2.1 s.2.2.2.2.2.2.1 s.2.2.2.2.2.2.2.1 s.2.2.2.2.2.2.2.2.1 s.2.2.2.2.2.2.2.2.2.1 s.2.2.2.2.2.2.2.2.2.2.1 s.2.2.2.2.2.2.2.2.2.2.2)
theorem q11p_ (u1:Int->Int->Int->List (Int×Int×Bool×Bool×Bool)->Int->Int->Int->Int->List Bool->Option (As [.bool,.int .i64,.int .i64])) (self:(Int)×(Int)×(Int)×(Int)×(Int)×(List (Int×Int×Bool×Bool×Bool))×(Int)×(Int)×(Int)×(Int)×(List Bool)×(Int×Int×Bool×Bool×Bool)->Option (As [.bool,.int .i64,.int .i64])) (at' many left to' i:Int) (t19:List (Int×Int×Bool×Bool×Bool)) (t20 t21 o o_2:Int) (met:List Bool) (x:Int×Int×Bool×Bool×Bool):qud_ u1 self (at',many,left,to',i,t19,t20,t21,o,o_2,met,x)=qch_ (q6w_ u1 (fun at' many left to' i t19 t20 t21 o o_2 met x=>self (at',many,left,to',i,t19,t20,t21,o,o_2,met,x))) u1 (fun at' many left to' i t19 t20 t21 o o_2 met x=>self (at',many,left,to',i,t19,t20,t21,o,o_2,met,x)) at' many left to' i t19 t20 t21 o o_2 met x:=rfl
theorem q11r_ (u1:Int->Int->Int->List (Int×Int×Bool×Bool×Bool)->Int->Int->Int->Int->List Bool->Option (As [.bool,.int .i64,.int .i64])) (at' many left to' i:Int) (t19:List (Int×Int×Bool×Bool×Bool)) (t20 t21 o o_2:Int) (met:List Bool) (x:Int×Int×Bool×Bool×Bool):q6y_ u1 at' many left to' i t19 t20 t21 o o_2 met x=loopF (qud_ u1) 18446744073709551616 (at',many,left,to',i,t19,t20,t21,o,o_2,met,x):=rfl
def qtv_ :=(fun (self:(Int)×(Int)×(Int)×(List (Int×Int×Bool×Bool×Bool))×(Int)×(Int)×(Int)×(Int)×(List Bool)->Option (As [.bool,.int .i64,.int .i64])) (s:(Int)×(Int)×(Int)×(List (Int×Int×Bool×Bool×Bool))×(Int)×(Int)×(Int)×(Int)×(List Bool))=>qc6_ (q93_) (q6y_ (fun at' many left t19 t20 t21 o o_2 met=>self (at',many,left,t19,t20,t21,o,o_2,met))) (fun at' many left t19 t20 t21 o o_2 met=>self (at',many,left,t19,t20,t21,o,o_2,met)) s.1 s.2.1 s.2.2.1 s.2.2.2.1 s.2.2.2.2.1 s.2.2.2.2.2.1 s.2.2.2.2.2.2.1 s.2.2.2.2.2.2.2.1 s.2.2.2.2.2.2.2.2)
theorem q128_  (self:(Int)×(Int)×(Int)×(List (Int×Int×Bool×Bool×Bool))×(Int)×(Int)×(Int)×(Int)×(List Bool)->Option (As [.bool,.int .i64,.int .i64])) (at':Int) (many:Int) (left:Int) (t19:List (Int×Int×Bool×Bool×Bool)) (t20:Int) (t21:Int) (o:Int) (o_2:Int) (met:List Bool):qtv_ self (at',many,left,t19,t20,t21,o,o_2,met)=qc6_ (q93_) (q6y_ (fun at' many left t19 t20 t21 o o_2 met=>self (at',many,left,t19,t20,t21,o,o_2,met))) (fun at' many left t19 t20 t21 o o_2 met=>self (at',many,left,t19,t20,t21,o,o_2,met)) at' many left t19 t20 t21 o o_2 met:=rfl
theorem q11w_  (at':Int) (many:Int) (left:Int) (t19:List (Int×Int×Bool×Bool×Bool)) (t20:Int) (t21:Int) (o:Int) (o_2:Int) (met:List Bool):qc5_ at' many left t19 t20 t21 o o_2 met=loopF (qtv_) 18446744073709551616 (at',many,left,t19,t20,t21,o,o_2,met):=rfl
theorem each_br_in (u1:Int->Int->Int->List TArea->Int->Int->List Bool->Option (As [.bool])) {w:TArea->Bool} {l:List TArea} {p:Int} {m t:Nat} {r:As [.bool]} (hp:0≤p) (hpm:p + (m:Int)≤1000000000000) (ht:t < l.length) (hw:∀ x,q12_ (x,())=some (w x,())) {f to':Int} (hf:p≤f) (hfe:f≤p + (m:Int)) (hte:to'≤p + (m:Int))
  (hcov:∀ i,p≤i->i < p + (m:Int)->(covS l[t] i=true ↔ f≤i∧i < to')) (hR:∀ met left,MetI w l p m (fun i=>(qv_ (l.take (t + 1)) i).isSome) met left->u1 p (m:Int) left l (l.length:Int) (add .i64 (t:Int) 1) met=some r) (hr:eachS w l p m=false->r=(false,()))
  (met:List Bool) (left:Int) (h:MetI w l p m (fun i=>(qv_ (l.take t) i).isSome) met left) :
  q6s_ u1 p (m:Int) left to' f l (l.length:Int) (t:Int) met l[t]=some r:=by
 rw [q124_]
 refine loopF_eq (Inv:=fun s=>∃ (i:Int) (met:List Bool) (left:Int),s=(p,(m:Int),left,to',i,l,(l.length:Int),(t:Int),met,l[t])∧f≤i∧(i≤to'∨i=f)∧MetI w l p m (fun j=>(qv_ (l.take t) j).isSome || (decide (f≤j) && decide (j < i))) met left)
  (μ:=fun s=>(to' - s.2.2.2.2.1).toNat) (G:=fun _=>some r) ?_ _ _ ⟨f,met,left,rfl,Int.le_refl _,.inr rfl,q5u_ h fun k hk=>by
   have:(decide (f≤p + (k:Int)) && decide (p + (k:Int) < f))=false:=by
    by_cases hh:f≤p + (k:Int)
    ·rw [decide_eq_false (show ¬ (p + (k:Int) < f) by omega),Bool.and_false]
    ·rw [decide_eq_false hh,Bool.false_and]
   rw [this,Bool.or_false]⟩ (by dsimp only; omega)
 rintro self s ⟨i,met,left,rfl,hi1,hi2,hI⟩ ih
 rw [q120_]
 unfold qce_
 by_cases hlt:i < to'
 ·rw [if_pos (qa_.2 hlt)]
  have hk:(i - p).toNat < m:=by omega
  have hki:p + (((i - p).toNat:Nat):Int)=i:=by omega
  have hs:sub .i64 i p=(((i - p).toNat:Nat):Int):=by rw [sub64 (by omega) (by omega)]; omega
  obtain ⟨g1,g2⟩:=hI.2.2 _ hk
  dsimp only at g1 g2
  rw [hki] at g1 g2
  have hdf:(decide (f≤i) && decide (i < i))=false:=by rw [decide_eq_false (show ¬ i < i by omega),Bool.and_false]
  rw [hdf,Bool.or_false] at g1 g2
  have K4:∀ left met,q6x_ u1 (fun at' many left to' i t19 t20 t21 met x=>self (at',many,left,to',i,t19,t20,t21,met,x)) p (m:Int) left to' i l (l.length:Int) (t:Int) met l[t]=self (p,(m:Int),left,to',i + 1,l,(l.length:Int),(t:Int),met,l[t]):=fun left met=>by
   unfold q6x_ qo9_
   rw [add64 (by omega) (by omega)]
  have hcong:∀ (k:Nat),k < m->∀ b:Bool,b=(((qv_ (l.take t) (p + (k:Int))).isSome || (decide (f≤p + (k:Int)) && decide (p + (k:Int) < i))) || decide (p + (k:Int)=i))->((qv_ (l.take t) (p + (k:Int))).isSome || (decide (f≤p + (k:Int)) && decide (p + (k:Int) < i + 1)))=b:=fun k hk b hc=>by
   rw [hc,Bool.or_assoc]
   congr 1
   rw [Bool.eq_iff_iff]
   simp only [Bool.or_eq_true,Bool.and_eq_true,decide_eq_true_eq]
   omega
  rw [hs,qp_ g1]
  simp only [Option.bind_some]
  cases hb:(qv_ (l.take t) i).isSome with
  | true =>
   rw [if_pos rfl,K4]
   refine ih _ ⟨i + 1,met,left,rfl,by omega,.inl (by omega),q5u_ hI (fun k hk=>hcong k hk _ ?_)⟩ (by dsimp only; omega)
   by_cases hki':p + (k:Int)=i
   ·rw [hki',hb,Bool.true_or,Bool.true_or]
   ·rw [decide_eq_false hki',Bool.or_false]
  | false =>
   rw [if_neg (by decide),hw,Option.bind_some]
   dsimp only
   have hnone:qv_ (l.take t) i=none:=by simpa using hb
   have hfirst:qv_ l i=some l[t]:=by
    have hc:=(hcov i (by omega) (by omega)).2 ⟨hi1,hlt⟩
    have:=first_next ht i
    rw [hnone,hc] at this
    exact first_take this
   have hwf:wantF w l i=w l[t]:=by
    unfold wantF
    rw [hfirst]
   cases hwx:w l[t] with
   | false =>
    rw [if_pos (by decide)]
    rw [hr (met_false hk (by rw [hki,hwf,hwx]))]
   | true =>
    rw [if_neg (by decide)]
    have hset:=met_set hI hk (by rw [hki,hdf,Bool.or_false]; exact hb) (by rw [hki,hwf,hwx])
    rw [Int.toNat_natCast,K4]
    have hl1:sub .i64 left 1=left - 1:=by
     have:=hI.2.1
     have h2:=List.countP_le_length (p:=fun b:Bool=>!b) (l:=met)
     have h3:=hI.1
     rw [sub64 (by omega) (by omega)]
    rw [hl1]
    refine ih _ ⟨i + 1,_,_,rfl,by omega,.inl (by omega),q5u_ hset (fun k hk=>hcong k hk _ ?_)⟩ (by dsimp only; omega)
    rw [hki]
 ·rw [if_neg (fun e=>hlt (qa_.1 e))]
  refine hR met left (q5u_ hI fun k hk=>?_)
  have hc:=hcov (p + (k:Int)) (by omega) (by omega)
  rw [first_next ht]
  have hcb:covS l[t] (p + (k:Int))=(decide (f≤p + (k:Int)) && decide (p + (k:Int) < i)):=by
   rw [Bool.eq_iff_iff,hc]
   simp only [Bool.and_eq_true,decide_eq_true_eq]
   omega
  rw [<- hcb]
  cases hx:qv_ (l.take t) (p + (k:Int)) with
  | some y=>rfl
  | none =>
   cases covS l[t] (p + (k:Int)) <;> rfl
theorem each_br_eq {w:TArea->Bool} {l:List TArea} {p:Int} {m:Nat} (hp:0≤p) (hm:m≤1000000) (hpm:p≤1000000) (hl:l.length≤1000000) (ho:∀ x ∈ l,OkAr x) (hw:∀ x,q12_ (x,())=some (w x,())):q6j_ (l,p,(m:Int),())=some (eachS w l p m,()):=by
 show qgf_ qc4_ l p (m:Int)=_
 unfold qgf_
 rw [q9_ (q1f_.2 (by omega)),q9_ (capOk_sf _),Int.toNat_natCast,qm_ (by omega)]
 rw [q125_]
 refine loopF_eq (Inv:=fun s=>∃ (t:Nat) (met:List Bool) (left:Int),s=(p,(m:Int),left,l,(l.length:Int),(t:Int),met)∧t≤l.length∧MetI w l p m (fun i=>(qv_ (l.take t) i).isSome) met left)
  (μ:=fun s=>(Int.ofNat l.length - s.2.2.2.2.2.1).toNat) (G:=fun _=>some (eachS w l p m,())) ?_ _ _ ⟨0,_,_,rfl,Nat.zero_le _,met_0 w l p m⟩ (by dsimp only; rw [q1_]; omega)
 rintro self s ⟨t,met,left,rfl,ht,hI⟩ ih
 rw [q11q_]
 unfold qcl_
 have k2:q92_ left=some (eqi left 0,()):=rfl
 by_cases hlt:t < l.length
 ·have hg:=List.getElem?_eq_getElem hlt
  rw [if_pos (by rw [qa_]; omega),qp_ hg,Option.bind_some]
  by_cases h0:left=0
  ·rw [if_pos (q6_.2 h0),k2,q6_.2 h0,met_zero hI h0]
  ·rw [if_neg (fun e=>h0 (q6_.1 e)),add64 (by omega) (by omega)]
   obtain ⟨f,t',e1,e2,e3,e4,e5⟩:=meet_gen (x:=l[t]) (p:=p) (e:=p + (m:Int)) hp (by omega) (by omega) (ho _ (List.getElem_mem hlt))
   rw [e1,Option.bind_some]
   refine each_br_in _ hp (by omega) hlt hw e2 e3 e4 e5 (fun met left hI'=>?_) (fun e=>by rw [e]) met left hI
   rw [q1l_ (by omega)]
   exact ih _ ⟨t + 1,met,left,rfl,by omega,hI'⟩ (by dsimp only; rw [q1_]; omega)
 ·have htl:t=l.length:=by omega
  subst htl
  rw [if_neg (by rw [qa_]; omega),k2]
  by_cases h0:left=0
  ·rw [q6_.2 h0,met_zero hI h0]
  ·rw [List.take_length] at hI
   rw [met_left hI h0,show eqi left 0=false from decide_eq_false h0]
theorem each_ur_in (u1:Int->Int->Int->List TArea->Int->Int->List Bool->Option (As [.bool])) {w:TArea->Bool} {l:List TArea} {p:Int} {m t:Nat} {r:As [.bool]} (hp:0≤p) (hpm:p + (m:Int)≤1000000000000) (ht:t < l.length) (hw:∀ x,qw_ (x,())=some (w x,())) {f to':Int} (hf:p≤f) (hfe:f≤p + (m:Int)) (hte:to'≤p + (m:Int))
  (hcov:∀ i,p≤i->i < p + (m:Int)->(covS l[t] i=true ↔ f≤i∧i < to')) (hR:∀ met left,MetI w l p m (fun i=>(qv_ (l.take (t + 1)) i).isSome) met left->u1 p (m:Int) left l (l.length:Int) (add .i64 (t:Int) 1) met=some r) (hr:eachS w l p m=false->r=(false,()))
  (met:List Bool) (left:Int) (h:MetI w l p m (fun i=>(qv_ (l.take t) i).isSome) met left) :
  q6p_ u1 p (m:Int) left to' f l (l.length:Int) (t:Int) met l[t]=some r:=by
 rw [q12a_]
 refine loopF_eq (Inv:=fun s=>∃ (i:Int) (met:List Bool) (left:Int),s=(p,(m:Int),left,to',i,l,(l.length:Int),(t:Int),met,l[t])∧f≤i∧(i≤to'∨i=f)∧MetI w l p m (fun j=>(qv_ (l.take t) j).isSome || (decide (f≤j) && decide (j < i))) met left)
  (μ:=fun s=>(to' - s.2.2.2.2.1).toNat) (G:=fun _=>some r) ?_ _ _ ⟨f,met,left,rfl,Int.le_refl _,.inr rfl,q5u_ h fun k hk=>by
   have:(decide (f≤p + (k:Int)) && decide (p + (k:Int) < f))=false:=by
    by_cases hh:f≤p + (k:Int)
    ·rw [decide_eq_false (show ¬ (p + (k:Int) < f) by omega),Bool.and_false]
    ·rw [decide_eq_false hh,Bool.false_and]
   rw [this,Bool.or_false]⟩ (by dsimp only; omega)
 rintro self s ⟨i,met,left,rfl,hi1,hi2,hI⟩ ih
 rw [q11z_]
 unfold qcs_
 by_cases hlt:i < to'
 ·rw [if_pos (qa_.2 hlt)]
  have hk:(i - p).toNat < m:=by omega
  have hki:p + (((i - p).toNat:Nat):Int)=i:=by omega
  have hs:sub .i64 i p=(((i - p).toNat:Nat):Int):=by rw [sub64 (by omega) (by omega)]; omega
  obtain ⟨g1,g2⟩:=hI.2.2 _ hk
  dsimp only at g1 g2
  rw [hki] at g1 g2
  have hdf:(decide (f≤i) && decide (i < i))=false:=by rw [decide_eq_false (show ¬ i < i by omega),Bool.and_false]
  rw [hdf,Bool.or_false] at g1 g2
  have K4:∀ left met,q6v_ u1 (fun at' many left to' i t19 t20 t21 met x=>self (at',many,left,to',i,t19,t20,t21,met,x)) p (m:Int) left to' i l (l.length:Int) (t:Int) met l[t]=self (p,(m:Int),left,to',i + 1,l,(l.length:Int),(t:Int),met,l[t]):=fun left met=>by
   unfold q6v_ qoe_
   rw [add64 (by omega) (by omega)]
  have hcong:∀ (k:Nat),k < m->∀ b:Bool,b=(((qv_ (l.take t) (p + (k:Int))).isSome || (decide (f≤p + (k:Int)) && decide (p + (k:Int) < i))) || decide (p + (k:Int)=i))->((qv_ (l.take t) (p + (k:Int))).isSome || (decide (f≤p + (k:Int)) && decide (p + (k:Int) < i + 1)))=b:=fun k hk b hc=>by
   rw [hc,Bool.or_assoc]
   congr 1
   rw [Bool.eq_iff_iff]
   simp only [Bool.or_eq_true,Bool.and_eq_true,decide_eq_true_eq]
   omega
  rw [hs,qp_ g1]
  simp only [Option.bind_some]
  cases hb:(qv_ (l.take t) i).isSome with
  | true =>
   rw [if_pos rfl,K4]
   refine ih _ ⟨i + 1,met,left,rfl,by omega,.inl (by omega),q5u_ hI (fun k hk=>hcong k hk _ ?_)⟩ (by dsimp only; omega)
   by_cases hki':p + (k:Int)=i
   ·rw [hki',hb,Bool.true_or,Bool.true_or]
   ·rw [decide_eq_false hki',Bool.or_false]
  | false =>
   rw [if_neg (by decide),hw,Option.bind_some]
   dsimp only
   have hnone:qv_ (l.take t) i=none:=by simpa using hb
   have hfirst:qv_ l i=some l[t]:=by
    have hc:=(hcov i (by omega) (by omega)).2 ⟨hi1,hlt⟩
    have:=first_next ht i
    rw [hnone,hc] at this
    exact first_take this
   have hwf:wantF w l i=w l[t]:=by
    unfold wantF
    rw [hfirst]
   cases hwx:w l[t] with
   | false =>
    rw [if_pos (by decide)]
    rw [hr (met_false hk (by rw [hki,hwf,hwx]))]
   | true =>
    rw [if_neg (by decide)]
    have hset:=met_set hI hk (by rw [hki,hdf,Bool.or_false]; exact hb) (by rw [hki,hwf,hwx])
    rw [Int.toNat_natCast,K4]
    have hl1:sub .i64 left 1=left - 1:=by
     have:=hI.2.1
     have h2:=List.countP_le_length (p:=fun b:Bool=>!b) (l:=met)
     have h3:=hI.1
     rw [sub64 (by omega) (by omega)]
    rw [hl1]
    refine ih _ ⟨i + 1,_,_,rfl,by omega,.inl (by omega),q5u_ hset (fun k hk=>hcong k hk _ ?_)⟩ (by dsimp only; omega)
    rw [hki]
 ·rw [if_neg (fun e=>hlt (qa_.1 e))]
  refine hR met left (q5u_ hI fun k hk=>?_)
  have hc:=hcov (p + (k:Int)) (by omega) (by omega)
  rw [first_next ht]
  have hcb:covS l[t] (p + (k:Int))=(decide (f≤p + (k:Int)) && decide (p + (k:Int) < i)):=by
   rw [Bool.eq_iff_iff,hc]
   simp only [Bool.and_eq_true,decide_eq_true_eq]
   omega
  rw [<- hcb]
  cases hx:qv_ (l.take t) (p + (k:Int)) with
  | some y=>rfl
  | none =>
   cases covS l[t] (p + (k:Int)) <;> rfl
theorem each_ur_eq {w:TArea->Bool} {l:List TArea} {p:Int} {m:Nat} (hp:0≤p) (hm:m≤1000000) (hpm:p≤1000000) (hl:l.length≤1000000) (ho:∀ x ∈ l,OkAr x) (hw:∀ x,qw_ (x,())=some (w x,())):q6o_ (l,p,(m:Int),())=some (eachS w l p m,()):=by
 show qgs_ qcf_ l p (m:Int)=_
 unfold qgs_
 rw [q9_ (q1f_.2 (by omega)),q9_ (capOk_sf _),Int.toNat_natCast,qm_ (by omega)]
 rw [q126_]
 refine loopF_eq (Inv:=fun s=>∃ (t:Nat) (met:List Bool) (left:Int),s=(p,(m:Int),left,l,(l.length:Int),(t:Int),met)∧t≤l.length∧MetI w l p m (fun i=>(qv_ (l.take t) i).isSome) met left)
  (μ:=fun s=>(Int.ofNat l.length - s.2.2.2.2.2.1).toNat) (G:=fun _=>some (eachS w l p m,())) ?_ _ _ ⟨0,_,_,rfl,Nat.zero_le _,met_0 w l p m⟩ (by dsimp only; rw [q1_]; omega)
 rintro self s ⟨t,met,left,rfl,ht,hI⟩ ih
 rw [q11t_]
 unfold qcc_
 have k2:q94_ left=some (eqi left 0,()):=rfl
 by_cases hlt:t < l.length
 ·have hg:=List.getElem?_eq_getElem hlt
  rw [if_pos (by rw [qa_]; omega),qp_ hg,Option.bind_some]
  by_cases h0:left=0
  ·rw [if_pos (q6_.2 h0),k2,q6_.2 h0,met_zero hI h0]
  ·rw [if_neg (fun e=>h0 (q6_.1 e)),add64 (by omega) (by omega)]
   obtain ⟨f,t',e1,e2,e3,e4,e5⟩:=meet_gen (x:=l[t]) (p:=p) (e:=p + (m:Int)) hp (by omega) (by omega) (ho _ (List.getElem_mem hlt))
   rw [e1,Option.bind_some]
   refine each_ur_in _ hp (by omega) hlt hw e2 e3 e4 e5 (fun met left hI'=>?_) (fun e=>by rw [e]) met left hI
   rw [q1l_ (by omega)]
   exact ih _ ⟨t + 1,met,left,rfl,by omega,hI'⟩ (by dsimp only; rw [q1_]; omega)
 ·have htl:t=l.length:=by omega
  subst htl
  rw [if_neg (by rw [qa_]; omega),k2]
  by_cases h0:left=0
  ·rw [q6_.2 h0,met_zero hI h0]
  ·rw [List.take_length] at hI
   rw [met_left hI h0,show eqi left 0=false from decide_eq_false h0]
theorem each_bw_in (u1:Int->Int->Int->List TArea->Int->Int->Int->Int->List Bool->Option (As [.bool,.int .i64,.int .i64])) {w:TArea->Bool} {l:List TArea} {p:Int} {m t:Nat} {r:As [.bool,.int .i64,.int .i64]} {o o2:Int} (hp:0≤p) (hpm:p + (m:Int)≤1000000000000) (ht:t < l.length) (hw:∀ x,qt_ (x,o,o2,())=some (w x,o,o2,())) {f to':Int} (hf:p≤f) (hfe:f≤p + (m:Int)) (hte:to'≤p + (m:Int))
  (hcov:∀ i,p≤i->i < p + (m:Int)->(covS l[t] i=true ↔ f≤i∧i < to')) (hR:∀ met left,MetI w l p m (fun i=>(qv_ (l.take (t + 1)) i).isSome) met left->u1 p (m:Int) left l (l.length:Int) (add .i64 (t:Int) 1) o o2 met=some r) (hr:eachS w l p m=false->r=(false,o,o2,()))
  (met:List Bool) (left:Int) (h:MetI w l p m (fun i=>(qv_ (l.take t) i).isSome) met left) :
  q6q_ u1 p (m:Int) left to' f l (l.length:Int) (t:Int) o o2 met l[t]=some r:=by
 rw [q11v_]
 refine loopF_eq (Inv:=fun s=>∃ (i:Int) (met:List Bool) (left:Int),s=(p,(m:Int),left,to',i,l,(l.length:Int),(t:Int),o,o2,met,l[t])∧f≤i∧(i≤to'∨i=f)∧MetI w l p m (fun j=>(qv_ (l.take t) j).isSome || (decide (f≤j) && decide (j < i))) met left)
  (μ:=fun s=>(to' - s.2.2.2.2.1).toNat) (G:=fun _=>some r) ?_ _ _ ⟨f,met,left,rfl,Int.le_refl _,.inr rfl,q5u_ h fun k hk=>by
   have:(decide (f≤p + (k:Int)) && decide (p + (k:Int) < f))=false:=by
    by_cases hh:f≤p + (k:Int)
    ·rw [decide_eq_false (show ¬ (p + (k:Int) < f) by omega),Bool.and_false]
    ·rw [decide_eq_false hh,Bool.false_and]
   rw [this,Bool.or_false]⟩ (by dsimp only; omega)
 rintro self s ⟨i,met,left,rfl,hi1,hi2,hI⟩ ih
 rw [q11u_]
 unfold qbz_
 by_cases hlt:i < to'
 ·rw [if_pos (qa_.2 hlt)]
  have hk:(i - p).toNat < m:=by omega
  have hki:p + (((i - p).toNat:Nat):Int)=i:=by omega
  have hs:sub .i64 i p=(((i - p).toNat:Nat):Int):=by rw [sub64 (by omega) (by omega)]; omega
  obtain ⟨g1,g2⟩:=hI.2.2 _ hk
  dsimp only at g1 g2
  rw [hki] at g1 g2
  have hdf:(decide (f≤i) && decide (i < i))=false:=by rw [decide_eq_false (show ¬ i < i by omega),Bool.and_false]
  rw [hdf,Bool.or_false] at g1 g2
  have K4:∀ left met,q6r_ u1 (fun at' many left to' i t19 t20 t21 o o2 met x=>self (at',many,left,to',i,t19,t20,t21,o,o2,met,x)) p (m:Int) left to' i l (l.length:Int) (t:Int) o o2 met l[t]=self (p,(m:Int),left,to',i + 1,l,(l.length:Int),(t:Int),o,o2,met,l[t]):=fun left met=>by
   unfold q6r_ qoa_
   rw [add64 (by omega) (by omega)]
  have hcong:∀ (k:Nat),k < m->∀ b:Bool,b=(((qv_ (l.take t) (p + (k:Int))).isSome || (decide (f≤p + (k:Int)) && decide (p + (k:Int) < i))) || decide (p + (k:Int)=i))->((qv_ (l.take t) (p + (k:Int))).isSome || (decide (f≤p + (k:Int)) && decide (p + (k:Int) < i + 1)))=b:=fun k hk b hc=>by
   rw [hc,Bool.or_assoc]
   congr 1
   rw [Bool.eq_iff_iff]
   simp only [Bool.or_eq_true,Bool.and_eq_true,decide_eq_true_eq]
   omega
  rw [hs,qp_ g1]
  simp only [Option.bind_some]
  cases hb:(qv_ (l.take t) i).isSome with
  | true =>
   rw [if_pos rfl,K4]
   refine ih _ ⟨i + 1,met,left,rfl,by omega,.inl (by omega),q5u_ hI (fun k hk=>hcong k hk _ ?_)⟩ (by dsimp only; omega)
   by_cases hki':p + (k:Int)=i
   ·rw [hki',hb,Bool.true_or,Bool.true_or]
   ·rw [decide_eq_false hki',Bool.or_false]
  | false =>
   rw [if_neg (by decide),hw,Option.bind_some]
   dsimp only
   have hnone:qv_ (l.take t) i=none:=by simpa using hb
   have hfirst:qv_ l i=some l[t]:=by
    have hc:=(hcov i (by omega) (by omega)).2 ⟨hi1,hlt⟩
    have:=first_next ht i
    rw [hnone,hc] at this
    exact first_take this
   have hwf:wantF w l i=w l[t]:=by
    unfold wantF
    rw [hfirst]
   cases hwx:w l[t] with
   | false =>
    rw [if_pos (by decide)]
    rw [hr (met_false hk (by rw [hki,hwf,hwx]))]
   | true =>
    rw [if_neg (by decide)]
    have hset:=met_set hI hk (by rw [hki,hdf,Bool.or_false]; exact hb) (by rw [hki,hwf,hwx])
    rw [Int.toNat_natCast,K4]
    have hl1:sub .i64 left 1=left - 1:=by
     have:=hI.2.1
     have h2:=List.countP_le_length (p:=fun b:Bool=>!b) (l:=met)
     have h3:=hI.1
     rw [sub64 (by omega) (by omega)]
    rw [hl1]
    refine ih _ ⟨i + 1,_,_,rfl,by omega,.inl (by omega),q5u_ hset (fun k hk=>hcong k hk _ ?_)⟩ (by dsimp only; omega)
    rw [hki]
 ·rw [if_neg (fun e=>hlt (qa_.1 e))]
  refine hR met left (q5u_ hI fun k hk=>?_)
  have hc:=hcov (p + (k:Int)) (by omega) (by omega)
  rw [first_next ht]
  have hcb:covS l[t] (p + (k:Int))=(decide (f≤p + (k:Int)) && decide (p + (k:Int) < i)):=by
   rw [Bool.eq_iff_iff,hc]
   simp only [Bool.and_eq_true,decide_eq_true_eq]
   omega
  rw [<- hcb]
  cases hx:qv_ (l.take t) (p + (k:Int)) with
  | some y=>rfl
  | none =>
   cases covS l[t] (p + (k:Int)) <;> rfl
theorem each_bw_eq {w:TArea->Bool} {l:List TArea} {p:Int} {m:Nat} (hp:0≤p) (hm:m≤1000000) (hpm:p≤1000000) (hl:l.length≤1000000) (ho:∀ x ∈ l,OkAr x) {o o2:Int} (hw:∀ x,qt_ (x,o,o2,())=some (w x,o,o2,())):q6m_ (l,p,(m:Int),o,o2,())=some (eachS w l p m,o,o2,()):=by
 show qgc_ qcp_ l p (m:Int) o o2=_
 unfold qgc_
 rw [q9_ (q1f_.2 (by omega)),q9_ (capOk_sf _),Int.toNat_natCast,qm_ (by omega)]
 rw [q122_]
 refine loopF_eq (Inv:=fun s=>∃ (t:Nat) (met:List Bool) (left:Int),s=(p,(m:Int),left,l,(l.length:Int),(t:Int),o,o2,met)∧t≤l.length∧MetI w l p m (fun i=>(qv_ (l.take t) i).isSome) met left)
  (μ:=fun s=>(Int.ofNat l.length - s.2.2.2.2.2.1).toNat) (G:=fun _=>some (eachS w l p m,o,o2,())) ?_ _ _ ⟨0,_,_,rfl,Nat.zero_le _,met_0 w l p m⟩ (by dsimp only; rw [q1_]; omega)
 rintro self s ⟨t,met,left,rfl,ht,hI⟩ ih
 rw [q127_]
 unfold qcg_
 have k2:q90_ left o o2=some (eqi left 0,o,o2,()):=rfl
 by_cases hlt:t < l.length
 ·have hg:=List.getElem?_eq_getElem hlt
  rw [if_pos (by rw [qa_]; omega),qp_ hg,Option.bind_some]
  by_cases h0:left=0
  ·rw [if_pos (q6_.2 h0),k2,q6_.2 h0,met_zero hI h0]
  ·rw [if_neg (fun e=>h0 (q6_.1 e)),add64 (by omega) (by omega)]
   obtain ⟨f,t',e1,e2,e3,e4,e5⟩:=meet_gen (x:=l[t]) (p:=p) (e:=p + (m:Int)) hp (by omega) (by omega) (ho _ (List.getElem_mem hlt))
   rw [e1,Option.bind_some]
   refine each_bw_in _ hp (by omega) hlt hw e2 e3 e4 e5 (fun met left hI'=>?_) (fun e=>by rw [e]) met left hI
   rw [q1l_ (by omega)]
   exact ih _ ⟨t + 1,met,left,rfl,by omega,hI'⟩ (by dsimp only; rw [q1_]; omega)
 ·have htl:t=l.length:=by omega
  subst htl
  rw [if_neg (by rw [qa_]; omega),k2]
  by_cases h0:left=0
  ·rw [q6_.2 h0,met_zero hI h0]
  ·rw [List.take_length] at hI
   rw [met_left hI h0,show eqi left 0=false from decide_eq_false h0]
theorem each_uw_in (u1:Int->Int->Int->List TArea->Int->Int->Int->Int->List Bool->Option (As [.bool,.int .i64,.int .i64])) {w:TArea->Bool} {l:List TArea} {p:Int} {m t:Nat} {r:As [.bool,.int .i64,.int .i64]} {o o2:Int} (hp:0≤p) (hpm:p + (m:Int)≤1000000000000) (ht:t < l.length) (hw:∀ x,qo_ (x,o,o2,())=some (w x,o,o2,())) {f to':Int} (hf:p≤f) (hfe:f≤p + (m:Int)) (hte:to'≤p + (m:Int))
  (hcov:∀ i,p≤i->i < p + (m:Int)->(covS l[t] i=true ↔ f≤i∧i < to')) (hR:∀ met left,MetI w l p m (fun i=>(qv_ (l.take (t + 1)) i).isSome) met left->u1 p (m:Int) left l (l.length:Int) (add .i64 (t:Int) 1) o o2 met=some r) (hr:eachS w l p m=false->r=(false,o,o2,()))
  (met:List Bool) (left:Int) (h:MetI w l p m (fun i=>(qv_ (l.take t) i).isSome) met left) :
  q6y_ u1 p (m:Int) left to' f l (l.length:Int) (t:Int) o o2 met l[t]=some r:=by
 rw [q11r_]
 refine loopF_eq (Inv:=fun s=>∃ (i:Int) (met:List Bool) (left:Int),s=(p,(m:Int),left,to',i,l,(l.length:Int),(t:Int),o,o2,met,l[t])∧f≤i∧(i≤to'∨i=f)∧MetI w l p m (fun j=>(qv_ (l.take t) j).isSome || (decide (f≤j) && decide (j < i))) met left)
  (μ:=fun s=>(to' - s.2.2.2.2.1).toNat) (G:=fun _=>some r) ?_ _ _ ⟨f,met,left,rfl,Int.le_refl _,.inr rfl,q5u_ h fun k hk=>by
   have:(decide (f≤p + (k:Int)) && decide (p + (k:Int) < f))=false:=by
    by_cases hh:f≤p + (k:Int)
    ·rw [decide_eq_false (show ¬ (p + (k:Int) < f) by omega),Bool.and_false]
    ·rw [decide_eq_false hh,Bool.false_and]
   rw [this,Bool.or_false]⟩ (by dsimp only; omega)
 rintro self s ⟨i,met,left,rfl,hi1,hi2,hI⟩ ih
 rw [q11p_]
 unfold qch_
 by_cases hlt:i < to'
 ·rw [if_pos (qa_.2 hlt)]
  have hk:(i - p).toNat < m:=by omega
  have hki:p + (((i - p).toNat:Nat):Int)=i:=by omega
  have hs:sub .i64 i p=(((i - p).toNat:Nat):Int):=by rw [sub64 (by omega) (by omega)]; omega
  obtain ⟨g1,g2⟩:=hI.2.2 _ hk
  dsimp only at g1 g2
  rw [hki] at g1 g2
  have hdf:(decide (f≤i) && decide (i < i))=false:=by rw [decide_eq_false (show ¬ i < i by omega),Bool.and_false]
  rw [hdf,Bool.or_false] at g1 g2
  have K4:∀ left met,q6w_ u1 (fun at' many left to' i t19 t20 t21 o o2 met x=>self (at',many,left,to',i,t19,t20,t21,o,o2,met,x)) p (m:Int) left to' i l (l.length:Int) (t:Int) o o2 met l[t]=self (p,(m:Int),left,to',i + 1,l,(l.length:Int),(t:Int),o,o2,met,l[t]):=fun left met=>by
   unfold q6w_ qof_
   rw [add64 (by omega) (by omega)]
  have hcong:∀ (k:Nat),k < m->∀ b:Bool,b=(((qv_ (l.take t) (p + (k:Int))).isSome || (decide (f≤p + (k:Int)) && decide (p + (k:Int) < i))) || decide (p + (k:Int)=i))->((qv_ (l.take t) (p + (k:Int))).isSome || (decide (f≤p + (k:Int)) && decide (p + (k:Int) < i + 1)))=b:=fun k hk b hc=>by
   rw [hc,Bool.or_assoc]
   congr 1
   rw [Bool.eq_iff_iff]
   simp only [Bool.or_eq_true,Bool.and_eq_true,decide_eq_true_eq]
   omega
  rw [hs,qp_ g1]
  simp only [Option.bind_some]
  cases hb:(qv_ (l.take t) i).isSome with
  | true =>
   rw [if_pos rfl,K4]
   refine ih _ ⟨i + 1,met,left,rfl,by omega,.inl (by omega),q5u_ hI (fun k hk=>hcong k hk _ ?_)⟩ (by dsimp only; omega)
   by_cases hki':p + (k:Int)=i
   ·rw [hki',hb,Bool.true_or,Bool.true_or]
   ·rw [decide_eq_false hki',Bool.or_false]
  | false =>
   rw [if_neg (by decide),hw,Option.bind_some]
   dsimp only
   have hnone:qv_ (l.take t) i=none:=by simpa using hb
   have hfirst:qv_ l i=some l[t]:=by
    have hc:=(hcov i (by omega) (by omega)).2 ⟨hi1,hlt⟩
    have:=first_next ht i
    rw [hnone,hc] at this
    exact first_take this
   have hwf:wantF w l i=w l[t]:=by
    unfold wantF
    rw [hfirst]
   cases hwx:w l[t] with
   | false =>
    rw [if_pos (by decide)]
    rw [hr (met_false hk (by rw [hki,hwf,hwx]))]
   | true =>
    rw [if_neg (by decide)]
    have hset:=met_set hI hk (by rw [hki,hdf,Bool.or_false]; exact hb) (by rw [hki,hwf,hwx])
    rw [Int.toNat_natCast,K4]
    have hl1:sub .i64 left 1=left - 1:=by
     have:=hI.2.1
     have h2:=List.countP_le_length (p:=fun b:Bool=>!b) (l:=met)
     have h3:=hI.1
     rw [sub64 (by omega) (by omega)]
    rw [hl1]
    refine ih _ ⟨i + 1,_,_,rfl,by omega,.inl (by omega),q5u_ hset (fun k hk=>hcong k hk _ ?_)⟩ (by dsimp only; omega)
    rw [hki]
 ·rw [if_neg (fun e=>hlt (qa_.1 e))]
  refine hR met left (q5u_ hI fun k hk=>?_)
  have hc:=hcov (p + (k:Int)) (by omega) (by omega)
  rw [first_next ht]
  have hcb:covS l[t] (p + (k:Int))=(decide (f≤p + (k:Int)) && decide (p + (k:Int) < i)):=by
   rw [Bool.eq_iff_iff,hc]
   simp only [Bool.and_eq_true,decide_eq_true_eq]
   omega
  rw [<- hcb]
  cases hx:qv_ (l.take t) (p + (k:Int)) with
  | some y=>rfl
  | none =>
   cases covS l[t] (p + (k:Int)) <;> rfl
theorem each_uw_eq {w:TArea->Bool} {l:List TArea} {p:Int} {m:Nat} (hp:0≤p) (hm:m≤1000000) (hpm:p≤1000000) (hl:l.length≤1000000) (ho:∀ x ∈ l,OkAr x) {o o2:Int} (hw:∀ x,qo_ (x,o,o2,())=some (w x,o,o2,())):q6n_ (l,p,(m:Int),o,o2,())=some (eachS w l p m,o,o2,()):=by
 show qgj_ qc5_ l p (m:Int) o o2=_
 unfold qgj_
 rw [q9_ (q1f_.2 (by omega)),q9_ (capOk_sf _),Int.toNat_natCast,qm_ (by omega)]
 rw [q11w_]
 refine loopF_eq (Inv:=fun s=>∃ (t:Nat) (met:List Bool) (left:Int),s=(p,(m:Int),left,l,(l.length:Int),(t:Int),o,o2,met)∧t≤l.length∧MetI w l p m (fun i=>(qv_ (l.take t) i).isSome) met left)
  (μ:=fun s=>(Int.ofNat l.length - s.2.2.2.2.2.1).toNat) (G:=fun _=>some (eachS w l p m,o,o2,())) ?_ _ _ ⟨0,_,_,rfl,Nat.zero_le _,met_0 w l p m⟩ (by dsimp only; rw [q1_]; omega)
 rintro self s ⟨t,met,left,rfl,ht,hI⟩ ih
 rw [q128_]
 unfold qc6_
 have k2:q93_ left o o2=some (eqi left 0,o,o2,()):=rfl
 by_cases hlt:t < l.length
 ·have hg:=List.getElem?_eq_getElem hlt
  rw [if_pos (by rw [qa_]; omega),qp_ hg,Option.bind_some]
  by_cases h0:left=0
  ·rw [if_pos (q6_.2 h0),k2,q6_.2 h0,met_zero hI h0]
  ·rw [if_neg (fun e=>h0 (q6_.1 e)),add64 (by omega) (by omega)]
   obtain ⟨f,t',e1,e2,e3,e4,e5⟩:=meet_gen (x:=l[t]) (p:=p) (e:=p + (m:Int)) hp (by omega) (by omega) (ho _ (List.getElem_mem hlt))
   rw [e1,Option.bind_some]
   refine each_uw_in _ hp (by omega) hlt hw e2 e3 e4 e5 (fun met left hI'=>?_) (fun e=>by rw [e]) met left hI
   rw [q1l_ (by omega)]
   exact ih _ ⟨t + 1,met,left,rfl,by omega,hI'⟩ (by dsimp only; rw [q1_]; omega)
 ·have htl:t=l.length:=by omega
  subst htl
  rw [if_neg (by rw [qa_]; omega),k2]
  by_cases h0:left=0
  ·rw [q6_.2 h0,met_zero hI h0]
  ·rw [List.take_length] at hI
   rw [met_left hI h0,show eqi left 0=false from decide_eq_false h0]
end Go.Proofs.Lx
end
section
namespace Go.Proofs.Lx
open Go Ev Sx Pl
set_option maxRecDepth 100000
abbrev TCm:=Int×Int×Int×Int×Int
def RightL (l:TLs):Prop:=(l.1=0∧l.2=0)∨(l.1 ≠ 0∧(1≤l.2∨l.2=-1))
instance (l:TLs):Decidable (RightL l):=inferInstanceAs (Decidable (_∨_))
theorem lheld_eq (o:Int):q6l_ (o,())=some ((o,-1),()):=rfl
theorem lright_eq' (l:TLs):qmf_ (l,())=some (decide (RightL l),()):=by
 obtain ⟨o,n⟩:=l
 show qku_ (o,n)=_
 unfold qku_
 simp only [lheld_eq,Option.bind_some,q6_,q1f_,Bool.and_true]
 by_cases h0:o=0
 ·rw [if_pos h0]
  congr 2
  rw [Bool.eq_iff_iff]
  simp [q6_,RightL,h0]
 ·rw [if_neg h0]
  by_cases h1:1≤n
  ·rw [if_pos h1]
   congr 2
   symm
   rw [decide_eq_true_eq]
   exact Or.inr ⟨h0,Or.inl h1⟩
  ·rw [if_neg h1]
   have e:(Option.bind (q6l_ (o,())) fun y=>some (eqi o y.1.1 && eqi n y.1.2,()):Option (As [.bool]))=some (eqi o o && eqi n (-1),()):=rfl
   refine Eq.trans e (congrArg (fun b=>some (b,())) ?_)
   rw [Bool.eq_iff_iff,Bool.and_eq_true,q6_,q6_,decide_eq_true_eq]
   constructor
   ·rintro ⟨_,e⟩
    exact Or.inr ⟨h0,Or.inr e⟩
   ·rintro (⟨e,_⟩ | ⟨_,e | e⟩)
    ·exact absurd e h0
    ·exact absurd e h1
    ·exact ⟨rfl,e⟩
def cntL (l:TLs):TLs:=if RightL l then l else (0,0)
theorem lcnt_eq (l:TLs):q4b_ (l,())=some (cntL l,()):=by
 show qgg_ l=_
 unfold qgg_ cntL
 rw [lright_eq',Option.bind_some]
 by_cases h:RightL l
 ·simp [h]
 ·simp [h]
theorem cnt_right {l:TLs} (h:RightL l):cntL l=l:=if_pos h
theorem lfree_eq {l:TLs} (h:RightL l):q5j_ (l,())=some (decide (l.1=0),()):=by
 show qnn_ l=_
 unfold qnn_
 rw [lcnt_eq,Option.bind_some,cnt_right h,Bool.and_true]
 congr 2
 rw [Bool.eq_iff_iff]
 simp only [Bool.and_eq_true,q6_,decide_eq_true_eq]
 unfold RightL at h
 omega
def takeL (l:TLs) (o t:Int):TLs:=if l=(o,-1) then l else (o,t)
theorem ltake_eq {l:TLs} {o t:Int} (h:RightL l) (ho:o ≠ 0) (ht:1≤t) (hf:l.1=0∨l.1=o):qrs_ (l,o,t,())=some (takeL l o t,0,()):=by
 obtain ⟨l1,l2⟩:=l
 show qmm_ qnt_ (l1,l2) o t=_
 unfold qmm_
 rw [lcnt_eq,Option.bind_some,cnt_right h]
 dsimp only
 rw [if_neg (fun e=>ho (q6_.1 e)),lt_dec,decide_eq_false (by omega)]
 show qne_ qhf_ o t false (l1,l2) (0,0)=_
 unfold qne_
 rw [if_neg (by decide),lfree_eq h,Option.bind_some]
 have K2:∀ b z,b=false->qhf_ o t b (l1,l2) z=some (takeL (l1,l2) o t,0,()):=fun b z hb=>by
  subst hb
  show qna_ o t false (l1,l2) z=_
  unfold qna_ takeL
  rw [if_neg (by decide),lheld_eq,Option.bind_some]
  simp only [Bool.and_true,Bool.and_eq_true,q6_,Prod.mk.injEq]
  split <;> rfl
 by_cases h0:l1=0
 ·rw [if_neg (by simp [h0])]
  exact K2 _ _ rfl
 ·rw [if_pos (by simp [h0])]
  refine K2 _ _ ?_
  rw [Bool.eq_false_iff]
  intro e
  exact qj_.1 e (by rcases hf with hf | hf; exact absurd hf h0; exact hf)
theorem lhold_eq {l:TLs} {o:Int} (h:RightL l) (ho:o ≠ 0) (hf:l.1=o):qs8_ (l,o,())=some ((o,-1),0,()):=by
 show qo2_ l o=_
 unfold qo2_
 rw [lcnt_eq,Option.bind_some,cnt_right h]
 dsimp only
 rw [if_neg (fun e=>ho (q6_.1 e)),if_neg (fun e=>qj_.1 e hf),lheld_eq,Option.bind_some]
def tickL (l:TLs):TLs×Bool:=if l.1=0∨l.2=-1 then (l,false) else if l.2=1 then ((0,0),true) else ((l.1,l.2 - 1),false)
theorem ltick_eq {l:TLs} (h:RightL l) (hb:l.2≤9223372036854775807):qq4_ (l,())=some ((tickL l).1,(tickL l).2,()):=by
 obtain ⟨l1,l2⟩:=l
 show qmu_ qnb_ (l1,l2)=_
 unfold qmu_ tickL
 rw [lcnt_eq,Option.bind_some,cnt_right h,lfree_eq h,Option.bind_some]
 dsimp only at hb ⊢
 by_cases h0:l1=0
 ·rw [if_pos (by simp [h0]),if_pos (Or.inl h0)]
  rfl
 ·rw [if_neg (by simp [h0]),lheld_eq,Option.bind_some]
  show qo4_ _ (l1,l2) (0,0)=_
  unfold qo4_
  dsimp only
  have e1:(eqi l1 l1 && (eqi l2 (-1) && true))=decide (l2=-1):=by
   rw [Bool.eq_iff_iff]
   simp [q6_]
  rw [e1]
  by_cases h2:l2=-1
  ·rw [if_pos (decide_eq_true h2),if_pos (Or.inr h2)]
  ·rw [if_neg (show ¬ decide (l2=-1)=true from fun e=>h2 (of_decide_eq_true e)),if_neg (show ¬ (l1=0∨l2=-1) by omega)]
   have h3:1≤l2:=by
    rcases h with h | h
    ·exact absurd h.1 h0
    ·rcases h.2 with h | h
     ·exact h
     ·exact absurd h h2
   rw [sub64 (by omega) (by omega)]
   by_cases h4:l2=1
   ·rw [if_pos (q6_.2 (by omega)),if_pos h4]
   ·rw [if_neg (fun e=>h4 (by have:=q6_.1 e; omega)),if_neg h4]
def fitsB (x:TBlk):Bool:=decide (x.2.length≤14∧0≤x.1∧x.1≤63∧x.1 + (x.2.length:Int)≤64)
theorem bfits_eq {x:TBlk} (h:x.2.length≤1000000):q8h_ (x,())=some (fitsB x,()):=by
 obtain ⟨p,w⟩:=x
 show qpx_ (p,w)=_
 unfold qpx_ fitsB
 simp only [q19_,q1f_,qa_,q1_] at h ⊢
 by_cases h1:(w.length:Int)≤14
 ·rw [if_pos h1]
  by_cases h2:0≤p
  ·rw [if_pos h2]
   by_cases h3:p < 64
   ·rw [if_pos h3,add64 (by omega) (by omega),le_dec]
    congr 2
    rw [Bool.eq_iff_iff]
    simp only [decide_eq_true_eq]
    omega
   ·rw [if_neg h3]
    congr 2
    symm
    rw [decide_eq_false_iff_not]
    omega
  ·rw [if_neg h2]
   congr 2
   symm
   rw [decide_eq_false_iff_not]
   omega
 ·rw [if_neg h1]
  congr 2
  symm
  rw [decide_eq_false_iff_not]
  omega
def zB:TBlk:=(0,[])
def nzB (hv:List Bool) (bs:List TBlk):List TBlk:=List.zipWith (fun h b=>if h=true then b else zB) hv bs
theorem nzB_len {hv:List Bool} {bs:List TBlk} (h1:hv.length=8) (h2:bs.length=8):(nzB hv bs).length=8:=by unfold nzB; rw [List.length_zipWith]; omega
theorem nzB_at {hv:List Bool} {bs:List TBlk} {i:Nat} {h:Bool} {b:TBlk} (h1:hv[i]? = some h) (h2:bs[i]? = some b):(nzB hv bs)[i]? = some (if h=true then b else zB):=by
 unfold nzB
 rw [List.getElem?_zipWith,h1,h2]
theorem mix_set {α:Type} {xs ys:List α} (hl:xs.length=ys.length) {i:Nat} {y:α} (h:ys[i]? = some y):(ys.take i++xs.drop i).set i y=ys.take (i + 1)++xs.drop (i + 1):=by
 have hi:=(List.getElem?_eq_some_iff.1 h).1
 have hy:=(List.getElem?_eq_some_iff.1 h).2
 have e1:ys.take (i + 1)=ys.take i++[y]:=by rw [List.take_add_one,h]; rfl
 have e2:xs.drop i=xs[i]::xs.drop (i + 1):=List.drop_eq_getElem_cons (by omega)
 have e3:(ys.take i).length=i:=by rw [List.length_take]; omega
 rw [e1,e2,List.append_assoc,List.singleton_append]
 have:=set_at (ys.take i) xs[i] y (xs.drop (i + 1))
 rw [e3] at this
 exact this
theorem mix_at {α:Type} {xs ys:List α} (hl:xs.length=ys.length) {i j:Nat} (hj:i≤j):(ys.take i++xs.drop i)[j]? = xs[j]?:=by
 by_cases hi:i≤ys.length
 ·have e3:(ys.take i).length=i:=by rw [List.length_take]; omega
  rw [List.getElem?_append_right (by omega),e3,List.getElem?_drop]
  congr 1
  omega
 ·have h1:(ys.take i++xs.drop i).length≤j:=by
   rw [List.length_append,List.length_take,List.length_drop]
   omega
  rw [List.getElem?_eq_none h1,List.getElem?_eq_none (by omega)]
def ownA (a:TAg):TAg:=(a.1,a.2.1,a.2.2.1,a.2.2.2.1,a.2.2.2.2.1,(a.2.2.2.2.2.1.1,a.2.2.2.2.2.1.2.1,nzB a.2.2.2.2.2.1.2.1 a.2.2.2.2.2.1.2.2),a.2.2.2.2.2.2)
structure SzA (a:TAg):Prop where
 bk:a.1.length≤1000
 hv:a.2.2.2.2.2.1.2.1.length=8
 bs:a.2.2.2.2.2.1.2.2.length=8
 bw:∀ b ∈ a.2.2.2.2.2.1.2.2,b.2.length≤1000
theorem get_of {α:Type} {xs:List α} {i:Nat} (h:i < xs.length):∃ x,xs[i]? = some x:=⟨xs[i],List.getElem?_eq_getElem h⟩
theorem aown_eq {a:TAg} (h:SzA a):q9o_ (a,())=some (ownA a,()):=by
 obtain ⟨bk,ls,ph,tx,la,⟨st,hv,bs⟩,tk⟩:=a
 obtain ⟨hk,h1,h2,h3⟩:=h
 dsimp only at hk h1 h2 h3
 show qq8_ qfh_ (bk,ls,ph,tx,la,(st,hv,bs),tk)=_
 unfold qq8_
 rw [q5c_ (show bk.length≤1000000 by omega)]
 have hl:=nzB_len h1 h2
 show qfh_ 0 0 hv 0 [(bk,ls,ph,tx,la,(st,hv,bs),tk)] _=some ((bk,ls,ph,tx,la,(st,hv,nzB hv bs),tk),())
 unfold qfh_
 refine loop_dt (N:=8) (mk:=fun i=>(0,0,hv,(i:Int),[(bk,ls,ph,tx,la,(st,hv,(nzB hv bs).take i++bs.drop i),tk)],_)) ?_ ?_ 8 0 _ (by omega) (by omega)
 ·intro self i hi
  show qf5_ (qet_ _) _ 0 0 hv (i:Int) [(bk,ls,ph,tx,la,(st,hv,(nzB hv bs).take i++bs.drop i),tk)] _=self (0,0,hv,((i + 1:Nat):Int),[(bk,ls,ph,tx,la,(st,hv,(nzB hv bs).take (i + 1)++bs.drop (i + 1)),tk)],_)
  obtain ⟨x,hx⟩:=get_of (xs:=hv) (i:=i) (by omega)
  obtain ⟨b,hb⟩:=get_of (xs:=bs) (i:=i) (by omega)
  have hm:at? ((nzB hv bs).take i++bs.drop i) (i:Int)=some b:=qp_ (by rw [mix_at (by omega) (Nat.le_refl _),hb])
  have hs:=mix_set (xs:=bs) (ys:=nzB hv bs) (by omega) (nzB_at hx hb)
  unfold qf5_
  have l8:lt (i:Int) 8=true:=qa_.2 (by omega)
  have g0:ge (i:Int) 0=true:=q1f_.2 (by omega)
  have K2:∀ y z,qet_ (fun a t2 t12 t13 a_2 t2_2=>self (a,t2,t12,t13,a_2,t2_2)) 0 0 (i:Int) hv (i:Int) [(bk,ls,ph,tx,la,(st,hv,(nzB hv bs).take i++bs.drop i),tk)] z y=self (0,0,hv,((i + 1:Nat):Int),[(bk,ls,ph,tx,la,(st,hv,((nzB hv bs).take i++bs.drop i).set i y),tk)],z):=fun y z=>by
   show qs2_ _ _ _ _ _ _ _ _ _=_
   unfold qs2_
   rw [q9_ g0,q9_ l8,q3p_,Option.bind_some]
   dsimp only
   rw [hm,Option.bind_some,q1l_ (by omega)]
   rfl
  rw [if_pos l8,q9_ l8,qp_ hx,Option.bind_some]
  cases x with
  | true =>
   rw [if_pos rfl,q9_ g0,q9_ l8,q3p_,Option.bind_some]
   dsimp only
   rw [hm,Option.bind_some,q9_ g0,q9_ l8,Option.bind_some]
   dsimp only
   rw [hm,Option.bind_some,q5c_ (by have:=h3 b (List.mem_of_getElem? hb); omega),Option.bind_some,K2]
   rw [<- hs]
   rfl
  | false =>
   rw [if_neg (by decide),K2,<- hs]
   rfl
 ·intro self
  show qf5_ (qet_ _) _ 0 0 hv (8:Int) [(bk,ls,ph,tx,la,(st,hv,(nzB hv bs).take 8++bs.drop 8),tk)] _=_
  unfold qf5_
  rw [if_neg (by decide)]
  have e1:(nzB hv bs).take 8++bs.drop 8=nzB hv bs:=by
   rw [List.take_of_length_le (by omega),List.drop_eq_nil_of_le (by omega),List.append_nil]
  rw [e1]
  rfl
end Go.Proofs.Lx
end
section
namespace Go.Proofs.Lx
open Go Ev Sx Pl
set_option maxRecDepth 100000
theorem wr32 (x:Int):IntKind.u32.wrap x=x % 4294967296:=by
 simp only [IntKind.wrap,IntKind.signed,IntKind.bits]
 simp
theorem shr16 {x:Int}:shr .u32 x 16=x / 65536:=by
 unfold shr
 have:min (16:Int).toNat IntKind.u32.bits=16:=by decide
 rw [this,Int.fdiv_eq_ediv_of_nonneg _ (by decide)]
 rfl
theorem parts_eq {x:Int} (h0:0≤x) (h1:x≤4294967295):q7i_ (x,())=some (x / 65536,x % 65536,()):=by
 show qk5_ x=_
 unfold qk5_
 rw [shr16,cvt16,cvt16,show x / 65536 % 65536=x / 65536 by omega]
theorem shl16 {y:Int} (h0:0≤y) (h1:y≤65535):shl .u32 (cvt .u32 y) 16=65536 * y:=by
 unfold cvt
 rw [wr32]
 unfold shl
 have:min (16:Int).toNat IntKind.u32.bits=16:=by decide
 rw [this,wr32]
 omega
theorem bor_lo {a b:Int} (ha:0≤a) (ha2:a≤65535) (hb:0≤b) (hb':b≤65535):bor .u32 (65536 * a) b=65536 * a + b:=by
 obtain ⟨n,rfl⟩:=Int.eq_ofNat_of_zero_le ha
 obtain ⟨m,rfl⟩:=Int.eq_ofNat_of_zero_le hb
 unfold bor
 rw [wr32]
 have e1:(BitVec.ofInt IntKind.u32.bits (65536 * (n:Int))).toNat=65536 * n:=by
  rw [BitVec.toNat_ofInt]
  have:((2 ^ IntKind.u32.bits:Nat):Int)=4294967296:=by decide
  rw [this]
  omega
 have e2:(BitVec.ofInt IntKind.u32.bits (m:Int)).toNat=m:=by
  rw [BitVec.toNat_ofInt]
  have:((2 ^ IntKind.u32.bits:Nat):Int)=4294967296:=by decide
  rw [this]
  omega
 rw [BitVec.toNat_or,e1,e2]
 have e3:65536 * n ||| m=65536 * n + m:=by
  have:=Nat.two_pow_add_eq_or_of_lt (i:=16) (b:=m) (by omega) n
  rw [show (2:Nat) ^ 16=65536 from rfl] at this
  exact this.symm
 rw [e3]
 omega
theorem wide_eq {a b:Int} (ha:0≤a) (ha2:a≤65535) (hb:0≤b) (hb':b≤65535):qe2_ (a,b,())=some (65536 * a + b,()):=by
 show qnd_ a b=_
 unfold qnd_
 rw [shl16 ha ha2,show cvt .u32 b=b from wu32 hb (by omega),bor_lo ha ha2 hb hb']
theorem there_eq {st:Int} {hv:List Bool} {bs:List TBlk} (h:hv.length=8):qm5_ ((st,hv,bs),())=some (((hv.count true:Nat):Int),()):=by
 show qg2_ 0 hv 0=_
 unfold qg2_
 refine (loop_dt (N:=8) (mk:=fun i=>((((hv.take i).count true:Nat):Int),hv,(i:Int))) (r:=some (((hv.count true:Nat):Int),())) ?_ ?_ 8 0 _ (by omega) (by omega))
 ·intro self i hi
  show qbt_ _ (((hv.take i).count true:Nat):Int) hv (i:Int)=_
  obtain ⟨x,hx⟩:=get_of (xs:=hv) (i:=i) (by omega)
  have l8:lt (i:Int) 8=true:=qa_.2 (by omega)
  have hle:(hv.take i).count true≤8:=by
   have:=List.count_le_length (a:=true) (l:=hv.take i)
   rw [List.length_take] at this
   omega
  have e:(hv.take (i + 1)).count true=(hv.take i).count true + (if x=true then 1 else 0):=by
   rw [List.take_add_one,hx,List.count_append]
   cases x <;> rfl
  unfold qbt_
  rw [if_pos l8,q9_ l8,qp_ hx,Option.bind_some,q1l_ (by omega),q1l_ (by omega),e]
  cases x with
  | true=>rfl
  | false=>rfl
 ·intro self
  show qbt_ _ (((hv.take 8).count true:Nat):Int) hv (8:Int)=_
  unfold qbt_
  rw [if_neg (by decide),List.take_of_length_le (by omega)]
theorem sown_eq {x:TBlk} (h:x.2.length≤1000):qe3_ (x,())=some (x,()):=by
 show qqz_ x=_
 unfold qqz_
 rw [q5c_ (by omega)]
 rfl
theorem number_eq (n:Int):q9m_ (n,())=some (decide (0≤n∧n≤7),()):=by
 show qif_ n=_
 unfold qif_
 by_cases h:0≤n
 ·rw [if_pos (q1f_.2 h),lt_dec]
  refine congrArg (fun b=>some (b,())) ?_
  rw [Bool.eq_iff_iff,decide_eq_true_eq,decide_eq_true_eq]
  omega
 ·rw [if_neg (fun e=>h (q1f_.1 e)),decide_eq_false (by omega)]
def itB (x:TBlk):List Int:=if fitsB x=true then x.1::(x.2.length:Int)::x.2++List.replicate (14 - x.2.length) 0 else List.replicate 16 0
theorem it_m2 (s:List Int->Option (As [.sl (.int .u16)])) (l:List Int):qid_ s l=if lt (Int.ofNat l.length) 16=true then need (small (l.length + 1)) (s (l++[0])) else some (l,()):=rfl
theorem it_K2:∀ (k:Nat) (l:List Int) (n:Nat),l.length + k=16->k < n->loopF (fun (self:List Int->Option (As [.sl (.int .u16)])) (s:List Int)=>qid_ (fun l=>self l) s) n l=some (l++List.replicate k 0,())
 | _,_,0,_,h=>by omega
 | 0,l,n + 1,h,_=>by
  rw [q1r_,it_m2,if_neg (by rw [qa_,q1_]; omega)]
  simp
 | k + 1,l,n + 1,h,hn=>by
  rw [q1r_,it_m2,if_pos (by rw [qa_,q1_]; omega),qm_ (by omega),it_K2 k (l++[0]) n (by simp; omega) (by omega),List.append_assoc]
  rfl
theorem itself_eq {x:TBlk} (h:x.2.length≤1000):q7n_ (x,())=some (itB x,()):=by
 show qik_ qdf_ x=_
 unfold qik_ itB
 rw [bfits_eq (by omega),Option.bind_some]
 have K:∀ (l:List Int) k,l.length + k=16->qdf_ l=some (l++List.replicate k 0,()):=fun l k hk=>by
  show qdi_ l=_
  unfold qdi_
  exact it_K2 k l _ hk (by omega)
 by_cases hf:fitsB x=true
 ·rw [if_pos hf,if_pos hf]
  have hf2:=of_decide_eq_true hf
  rw [qm_ (by omega),qm_ (by omega),cvt16,cvt16,q1_,Int.emod_eq_of_lt (by omega) (by omega),Int.emod_eq_of_lt (by omega) (by omega),K _ (14 - x.2.length) (by simp; omega)]
 ·rw [if_neg hf,if_neg hf]
  exact K [] 16 rfl
theorem itB_len {x:TBlk}:(itB x).length=16:=by
 unfold itB
 split
 ·rename_i h
  have:=of_decide_eq_true h
  simp
  omega
 ·simp
def tagB (o tx n:Int) (x:TBlk):List Int:=o::tx / 65536::tx % 65536::n::itB x
theorem tagB_len {o tx n:Int} {x:TBlk}:(tagB o tx n x).length=20:=by
 unfold tagB
 simp [itB_len]
theorem tagged_eq {o tx n:Int} {x:TBlk} (h0:0≤tx) (h1:tx≤4294967295) (hn:0≤n∧n≤7) (h:x.2.length≤1000):qfa_ (o,tx,n,x,())=some (tagB o tx n x,()):=by
 show qin_ o tx n x=_
 unfold qin_
 rw [parts_eq h0 h1,Option.bind_some,qm_ (by omega),itself_eq h,Option.bind_some,qm_ (by rw [itB_len]; omega),show cvt .u16 n=n from wu16 hn.1 (by omega)]
 rfl
def backS (s:TStg) (o n:Int):List Int:=match s.2.1[n.toNat]?,s.2.2[n.toNat]? with
 | some true,some x=>tagB o s.1 n x
 | _,_=>List.replicate 20 0
theorem back_eq {s:TStg} {o n:Int} (h0:0≤s.1) (h1:s.1≤4294967295) (hn:0≤n∧n≤7) (hh:s.2.1.length=8) (hb:s.2.2.length=8) (hw:∀ b ∈ s.2.2,b.2.length≤1000):qq9_ (s,o,n,())=some (backS s o n,()):=by
 obtain ⟨st,hv,bs⟩:=s
 obtain ⟨k,rfl⟩:=Int.eq_ofNat_of_zero_le hn.1
 show qnc_ qmz_ (st,hv,bs) o (k:Int)=_
 unfold qnc_ backS
 rw [number_eq,Option.bind_some,if_neg (by simp [hn])]
 dsimp only at hh hb ⊢
 obtain ⟨x,hx⟩:=get_of (xs:=hv) (i:=k) (by omega)
 obtain ⟨b,hb'⟩:=get_of (xs:=bs) (i:=k) (by omega)
 rw [qp_ hx,Option.bind_some,Int.toNat_natCast,hx,hb']
 show qmn_ o (k:Int) (st,hv,bs) (!x)=_
 unfold qmn_
 cases x with
 | true =>
  rw [if_neg (by decide)]
  dsimp only
  rw [qp_ hb',Option.bind_some,tagged_eq h0 h1 hn (hw b (List.mem_of_getElem? hb'))]
  rfl
 | false=>rfl
def rdB (w:List Int):Int×Int×Int×TBlk×Int :=
 if w.length ≠ 20∨8≤w.getD 3 0 then (0,0,0,zB,2)
 else if 14 < w.getD 5 0 then (0,0,0,zB,20)
 else if fitsB (w.getD 4 0,(w.drop 6).take (w.getD 5 0).toNat)=true∧itB (w.getD 4 0,(w.drop 6).take (w.getD 5 0).toNat)=w.drop 4 then (w.getD 0 0,65536 * w.getD 1 0 + w.getD 2 0,w.getD 3 0,(w.getD 4 0,(w.drop 6).take (w.getD 5 0).toNat),0)
 else (0,0,0,zB,20)
theorem sread_eq {w:List Int} (hr:∀ x ∈ w,0≤x∧x≤65535):qh0_ (w,())=some ((rdB w).1,(rdB w).2.1,(rdB w).2.2.1,(rdB w).2.2.2.1,(rdB w).2.2.2.2,()):=by
 show qml_ qns_ w=_
 unfold qml_
 by_cases hl:w.length=20
 ·rw [if_neg (fun e=>qj_.1 e (by rw [q1_]; omega))]
  have g:∀ k:Nat,k < 20->at? w (k:Int)=some (w.getD k 0):=fun k hk=>by
   obtain ⟨x,hx⟩:=get_of (xs:=w) (i:=k) (by omega)
   rw [qp_ hx,List.getD_eq_getElem?_getD,hx]
   rfl
  have rg:∀ k:Nat,k < 20->0≤w.getD k 0∧w.getD k 0≤65535:=fun k hk=>by
   obtain ⟨x,hx⟩:=get_of (xs:=w) (i:=k) (by omega)
   rw [List.getD_eq_getElem?_getD,hx]
   exact hr x (List.mem_of_getElem? hx)
  have c64:∀ k:Nat,k < 20->cvt .i64 (w.getD k 0)=w.getD k 0:=fun k hk=>cvt64 (by have:=rg k hk; omega) (by have:=rg k hk; omega)
  have g3:at? w 3=some (w.getD 3 0):=g 3 (by omega)
  have g4:at? w 4=some (w.getD 4 0):=g 4 (by omega)
  have g5:at? w 5=some (w.getD 5 0):=g 5 (by omega)
  have g0:at? w 0=some (w.getD 0 0):=g 0 (by omega)
  have g1:at? w 1=some (w.getD 1 0):=g 1 (by omega)
  have g2:at? w 2=some (w.getD 2 0):=g 2 (by omega)
  rw [g3,Option.bind_some]
  show qni_ qhn_ w (ge (w.getD 3 0) 8) 0=_
  unfold qni_
  by_cases h8:8≤w.getD 3 0
  ·rw [if_pos (q1f_.2 h8)]
   unfold rdB
   rw [if_pos (Or.inr h8)]
   rfl
  ·rw [if_neg (fun e=>h8 (q1f_.1 e)),g4,Option.bind_some,g5,Option.bind_some]
   have c6:cut w 6 (Int.ofNat w.length)=some (w.drop 6):=cut_from (i:=6) (by omega)
   have c4:cut w 4 (Int.ofNat w.length)=some (w.drop 4):=cut_from (i:=4) (by omega)
   have l6:(w.drop 6).length=14:=by rw [List.length_drop]; omega
   rw [c6,Option.bind_some,c64 5 (by omega),c64 4 (by omega)]
   have r5:=rg 5 (by omega)
   have r4:=rg 4 (by omega)
   by_cases h14:14 < w.getD 5 0
   ·rw [if_pos (gt_iff.2 (by rw [q1_,l6]; omega))]
    unfold rdB
    rw [if_neg (by omega),if_pos h14]
    rfl
   ·rw [if_neg (fun e=>h14 (by have:=gt_iff.1 e; rw [q1_,l6] at this; omega))]
    obtain ⟨m,hm⟩:=Int.eq_ofNat_of_zero_le r5.1
    have cm:cut (w.drop 6) 0 (w.getD 5 0)=some ((w.drop 6).take m):=by rw [hm]; exact cut_to (by omega)
    rw [cm,Option.bind_some,q9_ (q19_.2 (Int.le_refl _)),q9_ (q19_.2 (by rw [q1_,l6]; omega))]
    have lm:((w.drop 6).take m).length=m:=by rw [List.length_take]; omega
    rw [sown_eq (by dsimp only; omega),Option.bind_some]
    dsimp only
    rw [bfits_eq (by dsimp only; omega),Option.bind_some]
    unfold rdB
    rw [if_neg (show ¬ (w.length ≠ 20∨8≤w.getD 3 0) by omega),if_neg h14,hm,Int.toNat_natCast]
    have K2:∀ b,qhn_ w b 0 (w.getD 4 0,(w.drop 6).take m)=some (if b=true then (0,0,0,zB,20,()) else (w.getD 0 0,65536 * w.getD 1 0 + w.getD 2 0,w.getD 3 0,(w.getD 4 0,(w.drop 6).take m),0,())):=fun b=>by
     show qno_ w b 0 _=_
     unfold qno_
     cases b with
     | true=>rfl
     | false =>
      have r1:=rg 1 (by omega)
      have r2:=rg 2 (by omega)
      rw [if_neg (by decide),if_neg (by decide),g0,Option.bind_some,g1,Option.bind_some,g2,Option.bind_some,g3,Option.bind_some,wide_eq r1.1 r1.2 r2.1 r2.2,Option.bind_some,c64 3 (by omega)]
    cases hf:fitsB (w.getD 4 0,(w.drop 6).take m) with
    | false =>
     rw [if_pos (by rfl),K2,if_neg (show ¬ (false=true∧_) from fun e=>by cases e.1)]
     rfl
    | true =>
     rw [if_neg (by decide),c4,Option.bind_some,itself_eq (by dsimp only; omega),Option.bind_some]
     dsimp only
     rw [equalW_eq (by rw [itB_len]; omega),Option.bind_some,K2]
     by_cases he:itB (w.getD 4 0,(w.drop 6).take m)=w.drop 4
     ·rw [decide_eq_true he,if_neg (by decide),if_pos ⟨rfl,he⟩]
     ·rw [decide_eq_false he,if_pos (by rfl),if_neg (fun e=>he e.2)]
 ·rw [if_pos (qj_.2 (by rw [q1_]; omega))]
  unfold rdB
  rw [if_pos (Or.inl hl)]
  rfl
end Go.Proofs.Lx
end
section
namespace Go.Proofs.Lx
open Go Ev Sx Pl
set_option maxRecDepth 100000
def putS (s:TStg) (k:Nat) (x:TBlk):TStg:=(s.1,s.2.1.set k true,nzB (s.2.1.set k true) (s.2.2.set k x))
theorem sput_eq {s:TStg} {n:Int} {x:TBlk} (hh:s.2.1.length=8) (hb:s.2.2.length=8) (hw:∀ b ∈ s.2.2,b.2.length≤1000) (hx:x.2.length≤1000) :
  qtp_ (s,n,x,())=some (if 0≤n∧n≤7 then if fitsB x=true then (putS s n.toNat x,0,()) else (zSt,20,()) else (zSt,2,())):=by
 obtain ⟨st,hv,bs⟩:=s
 dsimp only at hh hb hw
 show qqn_ qj8_ (st,hv,bs) n x=_
 unfold qqn_
 rw [number_eq,Option.bind_some]
 by_cases hn:0≤n∧n≤7
 ·obtain ⟨k,rfl⟩:=Int.eq_ofNat_of_zero_le hn.1
  rw [decide_eq_true hn,if_neg (by decide),if_pos hn,bfits_eq (by omega),Option.bind_some]
  cases hf:fitsB x with
  | false =>
   rw [if_pos (by rfl),if_neg (by decide)]
  | true =>
   have g0:ge (k:Int) 0=true:=q1f_.2 (by omega)
   have l8:lt (k:Int) 8=true:=qa_.2 (by omega)
   obtain ⟨y,hy⟩:=get_of (xs:=hv) (i:=k) (by omega)
   obtain ⟨b,hb'⟩:=get_of (xs:=bs) (i:=k) (by omega)
   rw [if_neg (by decide),if_pos rfl,q9_ g0,q9_ l8]
   dsimp only
   rw [qp_ hy,Option.bind_some,q9_ g0,q9_ l8,qp_ hb',Option.bind_some,Int.toNat_natCast]
   have hh2:(hv.set k true).length=8:=by rw [List.length_set]; exact hh
   have hb2:(bs.set k x).length=8:=by rw [List.length_set]; exact hb
   have hw2:∀ c ∈ bs.set k x,c.2.length≤1000:=fun c hc=>by
    rcases List.mem_or_eq_of_mem_set hc with h | h
    ·exact hw c h
    ·rw [h]; exact hx
   unfold putS
   dsimp only
   generalize hv.set k true=hv' at *
   generalize bs.set k x=bs' at *
   have hl:=nzB_len hh2 hb2
   unfold qj8_
   refine loop_dt (N:=8) (mk:=fun i=>(0,0,hv',(i:Int),[(st,hv',(nzB hv' bs').take i++bs'.drop i)],_)) ?_ ?_ 8 0 _ (by omega) (by omega)
   ·intro self i hi
    show qfk_ _ _ 0 0 hv' (i:Int) [(st,hv',(nzB hv' bs').take i++bs'.drop i)] _=self (0,0,hv',((i + 1:Nat):Int),[(st,hv',(nzB hv' bs').take (i + 1)++bs'.drop (i + 1))],_)
    obtain ⟨z,hz⟩:=get_of (xs:=hv') (i:=i) (by omega)
    obtain ⟨c,hc⟩:=get_of (xs:=bs') (i:=i) (by omega)
    have hm:at? ((nzB hv' bs').take i++bs'.drop i) (i:Int)=some c:=qp_ (by rw [mix_at (by omega) (Nat.le_refl _),hc])
    have hs:=mix_set (xs:=bs') (ys:=nzB hv' bs') (by omega) (nzB_at hz hc)
    have l8:lt (i:Int) 8=true:=qa_.2 (by omega)
    have g0:ge (i:Int) 0=true:=q1f_.2 (by omega)
    unfold qfk_
    rw [if_pos l8,q9_ l8,qp_ hz,Option.bind_some]
    cases z with
    | true =>
     rw [if_pos rfl,q9_ g0,q9_ l8,q3p_,Option.bind_some]
     dsimp only
     rw [hm,Option.bind_some,sown_eq (hw2 c (List.mem_of_getElem? hc)),Option.bind_some,q9_ g0,q9_ l8,Option.bind_some]
     dsimp only
     rw [hm,Option.bind_some,q1l_ (by omega),<- hs]
     rfl
    | false =>
     rw [if_neg (by decide),q9_ g0,q9_ l8,q3p_,Option.bind_some]
     dsimp only
     rw [hm,Option.bind_some,q1l_ (by omega),<- hs]
     rfl
   ·intro self
    show qfk_ _ _ 0 0 hv' (8:Int) [(st,hv',(nzB hv' bs').take 8++bs'.drop 8)] _=_
    have e1:(nzB hv' bs').take 8++bs'.drop 8=nzB hv' bs':=by
     rw [List.take_of_length_le (by omega),List.drop_eq_nil_of_le (by omega),List.append_nil]
    rw [e1]
    unfold qfk_
    rw [if_neg (by decide)]
    rfl
 ·rw [decide_eq_false hn,if_pos (by rfl),if_neg hn]
def blkS (hv:List Bool) (bs:List TBlk):List TBlk:=((hv.zip bs).filter (fun p=>p.1)).map (fun p=>p.2)
theorem blkS_snoc {hv:List Bool} {bs:List TBlk} {i:Nat} {x:Bool} {b:TBlk} (h1:hv[i]? = some x) (h2:bs[i]? = some b) :
  blkS (hv.take (i + 1)) (bs.take (i + 1))=blkS (hv.take i) (bs.take i)++(if x=true then [b] else []):=by
 have i1:=(List.getElem?_eq_some_iff.1 h1).1
 have i2:=(List.getElem?_eq_some_iff.1 h2).1
 unfold blkS
 rw [List.take_add_one,List.take_add_one,h1,h2]
 show (List.map _ (List.filter _ ((hv.take i++[x]).zip (bs.take i++[b]))))=_
 rw [List.zip_append (by rw [List.length_take,List.length_take]; omega),List.filter_append,List.map_append]
 cases x <;> rfl
theorem blkS_mem {hv:List Bool} {bs:List TBlk} {b:TBlk} (h:b ∈ blkS hv bs):b ∈ bs:=by
 obtain ⟨p,hp,rfl⟩:=List.mem_map.1 h
 exact (List.of_mem_zip (List.mem_filter.1 hp).1).2
theorem blkS_le {hv:List Bool} {bs:List TBlk}:(blkS hv bs).length≤hv.length:=by
 unfold blkS
 rw [List.length_map]
 refine Nat.le_trans (List.length_filter_le _ _) ?_
 rw [List.length_zip]
 omega
theorem sblocks_eq {s:TStg} (hh:s.2.1.length=8) (hb:s.2.2.length=8) (hw:∀ b ∈ s.2.2,b.2.length≤1000):q6f_ (s,())=some (blkS s.2.1 s.2.2,()):=by
 obtain ⟨st,hv,bs⟩:=s
 dsimp only at hh hb hw ⊢
 show qdw_ (st,hv,bs) hv 0 []=_
 unfold qdw_
 refine loop_dt (N:=8) (mk:=fun i=>((st,hv,bs),hv,(i:Int),blkS (hv.take i) (bs.take i))) ?_ ?_ 8 0 _ (by omega) (by omega)
 ·intro self i hi
  show qa9_ _ (st,hv,bs) hv (i:Int) (blkS (hv.take i) (bs.take i))=self ((st,hv,bs),hv,((i + 1:Nat):Int),blkS (hv.take (i + 1)) (bs.take (i + 1)))
  obtain ⟨z,hz⟩:=get_of (xs:=hv) (i:=i) (by omega)
  obtain ⟨c,hc⟩:=get_of (xs:=bs) (i:=i) (by omega)
  have l8:lt (i:Int) 8=true:=qa_.2 (by omega)
  have hle:(blkS (hv.take i) (bs.take i)).length≤8:=by
   have:=blkS_le (hv:=hv.take i) (bs:=bs.take i)
   rw [List.length_take] at this
   omega
  rw [blkS_snoc hz hc]
  unfold qa9_
  rw [if_pos l8,q9_ l8,qp_ hz,Option.bind_some]
  cases z with
  | true =>
   rw [if_pos rfl]
   dsimp only
   rw [qp_ hc,Option.bind_some,sown_eq (hw c (List.mem_of_getElem? hc)),Option.bind_some,qm_ (by show _ + 1≤_; omega),q1l_ (by omega)]
   rfl
  | false =>
   rw [if_neg (by decide),q1l_ (by omega)]
   simp
 ·intro self
  show qa9_ _ (st,hv,bs) hv (8:Int) (blkS (hv.take 8) (bs.take 8))=_
  unfold qa9_
  rw [if_neg (by decide),List.take_of_length_le (by omega),List.take_of_length_le (by omega)]
def shV (s:Int):Int:=if eqi (band .u32 s 1) 1=true then bxor .u32 (shr .u32 s 1) 3988292384 else shr .u32 s 1
theorem shift_eq (s:Int):qow_ (s,())=some (shV s,()):=by
 show qrn_ s=_
 unfold qrn_ shV
 split <;> rfl
def addV (s b:Int):Int:=shV (shV (shV (shV (shV (shV (shV (shV (bxor .u32 s (cvt .u32 b)))))))))
theorem sadd_m1 (f:Int->Int->Option (As [.int .u32])) (s i:Int):qrd_ f s i=if lt i 8=true then Option.bind (qow_ (s,())) fun y=>f y.1 (add .i64 i 1) else some (s,()):=rfl
theorem sadd_eq (s b:Int):qyy_ (s,b,())=some (addV s b,()):=by
 show qpf_ (bxor .u32 s (cvt .u32 b)) 0=_
 unfold addV
 generalize bxor .u32 s (cvt .u32 b)=x
 have st:∀ n x (i:Int),lt i 8=true->loopF (fun (self:Int×Int->Option (As [.int .u32])) (s:Int×Int)=>qrd_ (fun a b=>self (a,b)) s.1 s.2) (n + 1) (x,i)=loopF (fun (self:Int×Int->Option (As [.int .u32])) (s:Int×Int)=>qrd_ (fun a b=>self (a,b)) s.1 s.2) n (shV x,add .i64 i 1):=fun n x i h=>by
  rw [q1r_,sadd_m1,if_pos h,shift_eq,Option.bind_some]
 unfold qpf_
 rw [st _ _ _ (by rfl),st _ _ _ (by rfl),st _ _ _ (by rfl),st _ _ _ (by rfl),st _ _ _ (by rfl),st _ _ _ (by rfl),st _ _ _ (by rfl),st _ _ _ (by rfl)]
 rfl
def notV (s:Int):Int:=((qvu_ s).getD (0,())).1
theorem sbytes_eq {b:List Int} (h:b.length≤1000000):quf_ (b,())=some (notV (b.foldl addV 4294967295),()):=by
 show qj9_ b 4294967295 (Int.ofNat b.length) 0=_
 unfold qj9_
 refine (loop_idx (xs:=b) (mk:=fun i acc=>(b,acc,Int.ofNat b.length,(i:Int))) (stp:=addV) (fin:=fun acc=>some (notV acc,())) (fun _ _=>True) ?_ (fun _ _ _ _ _=>trivial) ?_ b.length 0 4294967295 _ (by omega) (by omega) trivial)
 ·intro self i acc x hx _
  have hi:=(List.getElem?_eq_some_iff.1 hx).1
  show qf8_ _ _ b acc (Int.ofNat b.length) (i:Int)=_
  unfold qf8_
  rw [if_pos (by rw [qa_,q1_]; omega),qp_ hx,Option.bind_some,sadd_eq,Option.bind_some,q1l_ (by omega)]
 ·intro self acc _
  show qf8_ _ _ b acc (Int.ofNat b.length) (b.length:Int)=_
  unfold qf8_
  rw [if_neg (by rw [qa_,q1_]; omega)]
  rfl
theorem flat_snoc (l:List Int) (x:Int):(l++[x]).flatMap two=l.flatMap two++two x:=by simp
theorem packregs_eq {l:List Int} (h:l.length≤100000):qf7_ (l,())=some (l.flatMap two,()):=by
 show qer_ qai_ l=_
 unfold qer_
 have e2:mul .i64 2 (Int.ofNat l.length)=((2 * l.length:Nat):Int):=by rw [q1_,mul64 (by omega) (by omega)]; omega
 rw [e2,q9_ (q1f_.2 (by omega)),q9_ (capOk_self _),Int.toNat_natCast,qm_ (by omega)]
 unfold qai_
 have hz:List.replicate (2 * l.length) (0:Int)=(l.take 0).flatMap two++(List.replicate (2 * l.length) 0).drop 0:=by simp
 rw [hz]
 refine loop_dt (N:=l.length) (mk:=fun i=>(l,Int.ofNat l.length,(i:Int),(l.take i).flatMap two++(List.replicate (2 * l.length) 0).drop (2 * i))) ?_ ?_ l.length 0 _ (by omega) (by omega)
 ·intro self i hi
  show q8f_ _ l (Int.ofNat l.length) (i:Int) ((l.take i).flatMap two++(List.replicate (2 * l.length) 0).drop (2 * i))=self (l,Int.ofNat l.length,((i + 1:Nat):Int),(l.take (i + 1)).flatMap two++(List.replicate (2 * l.length) 0).drop (2 * (i + 1)))
  obtain ⟨x,hx⟩:=get_of (xs:=l) (i:=i) (by omega)
  have lp:((l.take i).flatMap two).length=2 * i:=by rw [flat_two_len,List.length_take]; omega
  have ed:(List.replicate (2 * l.length) (0:Int)).drop (2 * i)=0::0::(List.replicate (2 * l.length) 0).drop (2 * (i + 1)):=by
   rw [List.drop_replicate,List.drop_replicate,show 2 * l.length - 2 * i=(2 * l.length - 2 * (i + 1)) + 1 + 1 by omega]
   rfl
  have ei:(l.take (i + 1)).flatMap two=(l.take i).flatMap two++two x:=by rw [List.take_add_one,hx]; exact flat_snoc _ _
  rw [ed,ei]
  unfold q8f_
  have m2:mul .i64 2 (i:Int)=((2 * i:Nat):Int):=by rw [mul64 (by omega) (by omega)]; omega
  have m3:add .i64 ((2 * i:Nat):Int) 1=((2 * i + 1:Nat):Int):=q1l_ (by omega)
  generalize (l.take i).flatMap two=p at *
  generalize (List.replicate (2 * l.length) (0:Int)).drop (2 * (i + 1))=q at *
  have g1:at? (p++0::0::q) ((2 * i:Nat):Int)=some 0:=qp_ (by rw [List.getElem?_append_right (by omega),lp,Nat.sub_self]; rfl)
  have s1:∀ y:Int,(p++0::0::q).set (2 * i) y=p++y::0::q:=fun y=>by rw [<- lp]; exact set_at p 0 y (0::q)
  have g2:∀ y:Int,at? (p++y::0::q) ((2 * i + 1:Nat):Int)=some 0:=fun y=>qp_ (by rw [List.getElem?_append_right (by omega),lp,Nat.add_sub_cancel_left]; rfl)
  have s2:∀ y z:Int,(p++y::0::q).set (2 * i + 1) z=p++y::z::q:=fun y z=>by
   have:=set_at (p++[y]) 0 z q
   rw [List.length_append,lp,List.append_assoc,List.append_assoc] at this
   exact this
  rw [if_pos (by rw [qa_,q1_]; omega),qp_ hx,Option.bind_some,Option.bind_some,m2,g1,Option.bind_some,Option.bind_some,m3,Int.toNat_natCast,Int.toNat_natCast,s1,g2,Option.bind_some,Option.bind_some,s2,q1l_ (by omega),cvt8,cvt8,shr8 _ _ (by decide),List.append_assoc]
  rfl
 ·intro self
  show q8f_ _ l (Int.ofNat l.length) (l.length:Int) ((l.take l.length).flatMap two++(List.replicate (2 * l.length) 0).drop (2 * l.length))=_
  unfold q8f_
  rw [if_neg (by rw [qa_,q1_]; omega),List.take_length,List.drop_eq_nil_of_le (by simp),List.append_nil]
def sumW (l:List Int):Int:=notV ((l.flatMap two).foldl addV 4294967295)
theorem swordsum_eq {l:List Int} (h:l.length≤100000):qts_ (l,())=some (sumW l,()):=by
 show qq2_ l=_
 unfold qq2_
 rw [packregs_eq h,Option.bind_some]
 dsimp only
 rw [sbytes_eq (by rw [flat_two_len]; omega)]
 rfl
def sumB (l:List TBlk):Int:=sumW (l.flatMap itB)
theorem ssum_eq {l:List TBlk} (h:l.length≤1000) (hw:∀ b ∈ l,b.2.length≤1000):qu2_ (l,())=some (sumB l,()):=by
 show qiw_ l (Int.ofNat l.length) 0 []=_
 unfold qiw_
 have K2:∀ all:List Int,all.length≤100000->qs1_ all=some (sumW all,()):=fun all ha=>by
  show qr5_ all=_
  unfold qr5_
  rw [swordsum_eq ha]
  rfl
 have hn:l.flatMap itB=[]++l.flatMap itB:=rfl
 unfold sumB
 rw [hn,<- foldl_app]
 refine (loop_idx (xs:=l) (mk:=fun i acc=>(l,Int.ofNat l.length,(i:Int),acc)) (stp:=fun o x=>o++itB x) (fin:=fun acc=>some (sumW acc,())) (fun i acc=>acc.length=16 * i) ?_ ?_ ?_ l.length 0 [] _ (by omega) (by omega) rfl)
 ·intro self i acc x hx ha
  have hi:=(List.getElem?_eq_some_iff.1 hx).1
  show qey_ _ _ l (Int.ofNat l.length) (i:Int) acc=_
  unfold qey_
  rw [if_pos (by rw [qa_,q1_]; omega),qp_ hx,Option.bind_some,itself_eq (hw x (List.mem_of_getElem? hx)),Option.bind_some,qm_ (by rw [itB_len]; omega),q1l_ (by omega)]
 ·intro i acc x _ ha
  rw [List.length_append,itB_len,ha]
  omega
 ·intro self acc ha
  show qey_ _ _ l (Int.ofNat l.length) (l.length:Int) acc=_
  unfold qey_
  rw [if_neg (by rw [qa_,q1_]; omega),K2 _ (by omega)]
def firstN (hv:List Bool) (n:Int):Bool:=decide (∀ i:Nat,i < 8->hv.getD i false=decide ((i:Int) < n))
theorem swhole_eq {s:TStg} {n c:Int} (hh:s.2.1.length=8) (hb:s.2.2.length=8) (hw:∀ b ∈ s.2.2,b.2.length≤1000) :
  qmi_ (s,n,c,())=some (decide (0≤n∧n≤8) && (firstN s.2.1 n && decide (sumB (blkS s.2.1 s.2.2)=c)),()):=by
 have hblk:=sblocks_eq hh hb hw
 obtain ⟨st,hv,bs⟩:=s
 dsimp only at hh hb hw hblk ⊢
 show qkf_ qf3_ (st,hv,bs) n c=_
 unfold qkf_
 have K1t:qf3_ n c (st,hv,bs) true=some (false,()):=rfl
 by_cases h0:n < 0
 ·rw [if_pos (qa_.2 h0),K1t,decide_eq_false (by omega)]
  rfl
 ·rw [if_neg (fun e=>h0 (qa_.1 e))]
  by_cases h8:8 < n
  ·rw [gt_iff.2 h8,K1t,decide_eq_false (by omega)]
   rfl
  ·rw [gt_dec,decide_eq_false h8,decide_eq_true (show 0≤n∧n≤8 by omega),Bool.true_and]
   show qfe_ n c (st,hv,bs) hv 0=_
   have K3:q5l_ c (st,hv,bs)=some (decide (sumB (blkS hv bs)=c),()):=by
    show qkv_ c (st,hv,bs)=_
    unfold qkv_
    rw [hblk,Option.bind_some]
    dsimp only
    rw [ssum_eq (by have:=blkS_le (hv:=hv) (bs:=bs); omega) (fun b hb=>hw b (blkS_mem hb)),Option.bind_some]
    refine congrArg (fun b=>some (b,())) ?_
    rw [Bool.eq_iff_iff,q6_,decide_eq_true_eq]
   unfold qfe_
   have hg:∀ k i m:Nat,i + k=8->k < m->loopF (fun (self:Int×Int×TStg×List Bool×Int->Option (As [.bool])) (s:Int×Int×TStg×List Bool×Int)=>q91_ q5l_ (fun count check s t16 t17=>self (count,check,s,t16,t17)) s.1 s.2.1 s.2.2.1 s.2.2.2.1 s.2.2.2.2) m (n,c,(st,hv,bs),hv,(i:Int))=some (decide (∀ j:Nat,j < 8->i≤j->hv.getD j false=decide ((j:Int) < n)) && decide (sumB (blkS hv bs)=c),()):=by
    intro k
    induction k with
    | zero =>
     intro i m hi hm
     obtain ⟨m,rfl⟩:∃ q,m=q + 1:=⟨m - 1,by omega⟩
     have:i=8:=by omega
     subst this
     rw [q1r_]
     show q91_ q5l_ _ n c (st,hv,bs) hv (8:Int)=_
     unfold q91_
     rw [if_neg (by decide),K3,decide_eq_true (p:=∀ j:Nat,j < 8->8≤j->hv.getD j false=decide ((j:Int) < n)) (fun j h1 h2=>by omega),Bool.true_and]
    | succ k ih =>
     intro i m hi hm
     obtain ⟨m,rfl⟩:∃ q,m=q + 1:=⟨m - 1,by omega⟩
     have l8:lt (i:Int) 8=true:=qa_.2 (by omega)
     obtain ⟨x,hx⟩:=get_of (xs:=hv) (i:=i) (by omega)
     have gx:hv.getD i false=x:=by rw [List.getD_eq_getElem?_getD,hx]; rfl
     rw [q1r_]
     show q91_ q5l_ _ n c (st,hv,bs) hv (i:Int)=_
     have u:∀ f,q91_ q5l_ f n c (st,hv,bs) hv (i:Int)=if lt (i:Int) 8=true then need (lt (i:Int) 8) (Option.bind (at? hv (i:Int)) fun y=>if neb y (lt (i:Int) n)=true then some (false,()) else f n c (st,hv,bs) hv (add .i64 (i:Int) 1)) else q5l_ c (st,hv,bs):=fun f=>rfl
     rw [u,if_pos l8,q9_ l8,qp_ hx,Option.bind_some,lt_dec]
     by_cases he:x=decide ((i:Int) < n)
     ·rw [if_neg (by rw [<- he]; cases x <;> decide),q1l_ (by omega),ih (i + 1) m (by omega) (by omega)]
      refine congrArg (fun b=>some (b && _,())) ?_
      rw [Bool.eq_iff_iff,decide_eq_true_eq,decide_eq_true_eq]
      constructor
      ·intro h j h1 h2
       by_cases e:j=i
       ·rw [e,gx]; exact he
       ·exact h j h1 (by omega)
      ·intro h j h1 h2
       exact h j h1 (by omega)
     ·rw [if_pos (by revert he; cases x <;> cases decide ((i:Int) < n) <;> decide),decide_eq_false (fun h=>he (by rw [<- gx]; exact h i (by omega) (Nat.le_refl _)))]
      rfl
   have:=hg 8 0 18446744073709551616 rfl (by omega)
   refine this.trans ?_
   refine congrArg (fun b=>some (b && _,())) ?_
   unfold firstN
   rw [Bool.eq_iff_iff,decide_eq_true_eq,decide_eq_true_eq]
   exact ⟨fun h i hi=>h i hi (Nat.zero_le _),fun h i hi _=>h i hi⟩
end Go.Proofs.Lx
end
section
namespace Go.Proofs.Lx
open Go Ev Sx Pl
set_option maxRecDepth 100000
def copyB (b:List Int) (x:TBlk):List Int:=b.take x.1.toNat++x.2++b.drop (x.1.toNat + x.2.length)
theorem copyB_len {b:List Int} {x:TBlk} (h:b.length=64) (hf:fitsB x=true):(copyB b x).length=64:=by
 have:=of_decide_eq_true hf
 unfold copyB
 rw [List.length_append,List.length_append,List.length_take,List.length_drop]
 omega
def overB (b:List Int) (l:List TBlk):List Int:=l.foldl copyB b
theorem overB_len:∀ {l:List TBlk} {b:List Int},b.length=64->(∀ x ∈ l,fitsB x=true)->(overB b l).length=64
 | [],_,h,_=>h
 | x::r,b,h,hf=>overB_len (l:=r) (copyB_len h (hf x (List.mem_cons_self ..))) (fun y hy=>hf y (List.mem_cons_of_mem _ hy))
theorem copyB_rng {b:List Int} {x:TBlk} {P:Int->Prop} (hb:∀ y ∈ b,P y) (hx:∀ y ∈ x.2,P y):∀ y ∈ copyB b x,P y:=by
 intro y hy
 unfold copyB at hy
 rcases List.mem_append.1 hy with h | h
 ·rcases List.mem_append.1 h with h | h
  ·exact hb y (List.mem_of_mem_take h)
  ·exact hx y h
 ·exact hb y (List.mem_of_mem_drop h)
theorem overB_rng {P:Int->Prop}:∀ {l:List TBlk} {b:List Int},(∀ y ∈ b,P y)->(∀ x ∈ l,∀ y ∈ x.2,P y)->∀ y ∈ overB b l,P y
 | [],_,h,_=>h
 | x::r,b,h,hf=>overB_rng (l:=r) (copyB_rng h (hf x (List.mem_cons_self ..))) (fun y hy=>hf y (List.mem_cons_of_mem _ hy))
theorem bfit_eq {l:List TBlk} (hl:l.length≤1000000) (hf:∀ x ∈ l,fitsB x=true):qw4_ (l,())=some (true,()):=by
 have hi:q3z_ (l,())=some (-1,()):=by
  show q3a_ l (Int.ofNat l.length) 0=_
  unfold q3a_
  refine loop_dt (N:=l.length) (mk:=fun i=>(l,Int.ofNat l.length,(i:Int))) ?_ ?_ l.length 0 _ (by omega) (by omega)
  ·intro self i hi
   obtain ⟨x,hx⟩:=get_of (xs:=l) (i:=i) hi
   have hfx:=hf x (List.mem_of_getElem? hx)
   have h2:=of_decide_eq_true hfx
   have hz:qe8_ (x,())=some (false,()):=by
    show qk7_ x=_
    unfold qk7_
    rw [bfits_eq (by omega),hfx]
    rfl
   show q2c_ _ l (Int.ofNat l.length) (i:Int)=_
   unfold q2c_
   rw [if_pos (by rw [qa_,q1_]; omega),qp_ hx,Option.bind_some,hz,Option.bind_some,if_neg (by decide),q1l_ (by omega)]
  ·intro self
   show q2c_ _ l (Int.ofNat l.length) (l.length:Int)=_
   unfold q2c_
   rw [if_neg (by rw [qa_,q1_]; omega)]
 have hc:q34_ (l,())=some (false,()):=by
  show q3s_ l=_
  unfold q3s_
  rw [hi]
  rfl
 show qti_ l=_
 unfold qti_
 rw [hc]
 rfl
theorem cloneWr_eq {s:List Int} (h:s.length≤1000000):q2o_ (s,())=some (s,()):=by
 show q7d_ s=_
 unfold q7d_
 by_cases h0:s.length=0
 ·have:s=[]:=List.eq_nil_of_length_eq_zero h0
  subst this
  rfl
 ·rw [if_neg (by rw [q6_,q1_]; omega),qm_ (by omega)]
theorem bover_eq {b:List Int} {l:List TBlk} (hb:b.length=64) (hl:l.length≤1000000) (hf:∀ x ∈ l,fitsB x=true):quc_ (b,l,())=some (overB b l,0,()):=by
 show qs9_ qez_ b l=_
 unfold qs9_
 rw [if_neg (fun e=>qj_.1 e (by rw [q1_]; omega)),bfit_eq hl hf,Option.bind_some,if_neg (by decide),cloneWr_eq (by omega),Option.bind_some]
 show qez_ l (Int.ofNat l.length) 0 b=_
 unfold qez_
 refine (loop_idx (xs:=l) (mk:=fun i acc=>(l,Int.ofNat l.length,(i:Int),acc)) (stp:=copyB) (fin:=fun acc=>some (acc,0,())) (fun i acc=>acc.length=64) ?_ ?_ ?_ l.length 0 b _ (by omega) (by omega) hb)
 ·intro self i acc x hx ha
  have hi:=(List.getElem?_eq_some_iff.1 hx).1
  have h2:=of_decide_eq_true (hf x (List.mem_of_getElem? hx))
  show qfu_ _ _ l (Int.ofNat l.length) (i:Int) acc=_
  unfold qfu_
  rw [if_pos (by rw [qa_,q1_]; omega),qp_ hx,Option.bind_some,q9_ (q1f_.2 (by omega)),q9_ (q19_.2 (by rw [q1_]; omega)),q9_ (q19_.2 (Int.le_refl _)),q9_ (q19_.2 (by rw [q1_]; omega)),q1l_ (by omega)]
  have e:x.2.take (Int.toNat (Int.ofNat acc.length - x.1))=x.2:=List.take_of_length_le (by rw [q1_]; omega)
  rw [e]
  rfl
 ·intro i acc x hx ha
  exact copyB_len ha (hf x (List.mem_of_getElem? hx))
 ·intro self acc ha
  show qfu_ _ _ l (Int.ofNat l.length) (l.length:Int) acc=_
  unfold qfu_
  rw [if_neg (by rw [qa_,q1_]; omega)]
  rfl
structure OkG (a:TAg):Prop where
 bl:a.1.length=64
 bw:∀ x ∈ a.1,0≤x∧x≤65535
 lr:RightL a.2.1
 l1:0≤a.2.1.1∧a.2.1.1≤65535
 l2:a.2.1.2≤9223372036854775807
 pr:0≤a.2.2.1∧a.2.2.1≤2
 tr:0≤a.2.2.2.1∧a.2.2.2.1≤4294967295
 ar:0≤a.2.2.2.2.1∧a.2.2.2.2.1≤4294967295
 kr:1≤a.2.2.2.2.2.2∧a.2.2.2.2.2.2≤9223372036854775807
 hl:a.2.2.2.2.2.1.2.1.length=8
 sl:a.2.2.2.2.2.1.2.2.length=8
 bb:∀ b ∈ a.2.2.2.2.2.1.2.2,b.2.length≤1000
 wb:∀ b ∈ a.2.2.2.2.2.1.2.2,∀ w ∈ b.2,0≤w∧w≤65535
 fb:∀ b ∈ blkS a.2.2.2.2.2.1.2.1 a.2.2.2.2.2.1.2.2,fitsB b=true
 p0:a.2.2.1=0->a.2.1.1=0∧a.2.2.2.1=0∧a.2.2.2.2.2.1.1=0∧a.2.2.2.2.2.1.2.1.count true=0
 pn:a.2.2.1 ≠ 0->a.2.1.1 ≠ 0∧a.2.2.2.2.1 < a.2.2.2.1∧a.2.2.2.2.2.1.1=a.2.2.2.1
 p1:a.2.2.1=1->1≤a.2.1.2
 p2:a.2.2.1=2->a.2.1.2=-1∧firstN a.2.2.2.2.2.1.2.1 ((a.2.2.2.2.2.1.2.1.count true:Nat):Int)=true
theorem OkG.sz {a:TAg} (h:OkG a):SzA a:=⟨by have:=h.bl; omega,h.hl,h.sl,h.bb⟩
theorem blkS_nz:∀ (hv:List Bool) (bs:List TBlk),blkS hv (nzB hv bs)=blkS hv bs
 | [],_=>by simp [blkS]
 | _::_,[]=>by simp [blkS,nzB]
 | h::r,b::q=>by
  have ih:=blkS_nz r q
  unfold blkS nzB at ih ⊢
  rw [List.zipWith_cons_cons,List.zip_cons_cons,List.zip_cons_cons]
  cases h
  ·simpa using ih
  ·simp only [if_true]
   rw [List.filter_cons,List.filter_cons]
   simp only [if_true,List.map_cons]
   rw [ih]
theorem nzB_mem {hv:List Bool} {bs:List TBlk} {P:TBlk->Prop} (hz:P zB) (hp:∀ b ∈ bs,P b):∀ b ∈ nzB hv bs,P b:=by
 intro b hb
 unfold nzB at hb
 obtain ⟨i,hi⟩:=List.getElem?_of_mem hb
 rw [List.getElem?_zipWith] at hi
 revert hi
 cases h1:hv[i]? <;> cases h2:bs[i]? <;> simp
 rename_i x y
 intro e
 subst e
 split
 ·exact hp y (List.mem_of_getElem? h2)
 ·exact hz
theorem OkG.own {a:TAg} (h:OkG a):OkG (ownA a):=by
 obtain ⟨bk,ls,ph,tx,la,⟨st,hv,bs⟩,tk⟩:=a
 exact { h with
  sl:=nzB_len h.hl h.sl
  bb:=nzB_mem (P:=fun b=>b.2.length≤1000) (by show (0:Nat)≤1000; omega) h.bb
  wb:=nzB_mem (P:=fun b=>∀ w ∈ b.2,0≤w∧w≤65535) (by intro w hw; cases hw) h.wb
  fb:=by have:=h.fb; show ∀ b ∈ blkS hv (nzB hv bs),_; rw [blkS_nz]; exact this }
def freeA (a:TAg):TAg:=(a.1,(0,0),0,0,a.2.2.2.2.1,zSt,a.2.2.2.2.2.2)
def wholeA (a:TAg) (n c:Int):Bool:=decide (0≤n∧n≤8) && (firstN a.2.2.2.2.2.1.2.1 n && decide (sumB (blkS a.2.2.2.2.2.1.2.1 a.2.2.2.2.2.1.2.2)=c))
def doS (a:TAg) (c:TCm):TAg×Int :=
 if c.1=0∨c.2.2.1=0∨¬ (1≤c.2.1∧c.2.1≤4) then (a,2)
 else if a.2.1.1 ≠ 0∧a.2.1.1 ≠ c.1 then (a,22)
 else if c.2.1=1 then
  if c.2.2.1≤a.2.2.2.2.1∨a.2.2.1 ≠ 0∧c.2.2.1 < a.2.2.2.1 then (a,23)
  else if c.2.2.1=a.2.2.2.1 then ((a.1,takeL a.2.1 c.1 a.2.2.2.2.2.2,a.2.2),0)
  else ((a.1,(c.1,a.2.2.2.2.2.2),1,c.2.2.1,a.2.2.2.2.1,(c.2.2.1,zSt.2),a.2.2.2.2.2.2),0)
 else if c.2.1=2 then
  if a.2.2.1=2∧a.2.2.2.1=c.2.2.1∨a.2.2.1=1∧a.2.2.2.1=c.2.2.1∧wholeA a c.2.2.2.1 c.2.2.2.2=true then ((a.1,(c.1,-1),2,a.2.2.2),0)
  else (a,23)
 else if c.2.1=3 then
  if a.2.2.2.2.1=c.2.2.1 then (a,0)
  else if a.2.2.1=2∧a.2.2.2.1=c.2.2.1 then (freeA (overB a.1 (blkS a.2.2.2.2.2.1.2.1 a.2.2.2.2.2.1.2.2),a.2.1,a.2.2.1,a.2.2.2.1,c.2.2.1,a.2.2.2.2.2),0)
  else (a,23)
 else
  if c.2.2.1≤a.2.2.2.2.1 then (a,23) else if a.2.1.1=c.1∧a.2.2.2.1=c.2.2.1 then (freeA a,0) else (a,0)
theorem afreed_eq (a:TAg):q4n_ (a,())=some (freeA a,()):=rfl
theorem ain_eq (a:TAg) (p t:Int):qe9_ (a,p,t,())=some (decide (a.2.2.1=p∧a.2.2.2.1=t),()):=by
 show qt7_ a p t=_
 unfold qt7_
 by_cases h:a.2.2.1=p
 ·rw [if_pos (q6_.2 h)]
  refine congrArg (fun b=>some (b,())) ?_
  rw [Bool.eq_iff_iff,q6_,decide_eq_true_eq]
  exact ⟨fun e=>⟨h,e⟩,fun e=>e.2⟩
 ·rw [if_neg (fun e=>h (q6_.1 e)),decide_eq_false (fun e=>h e.1)]
theorem aothers_eq {a:TAg} (h:RightL a.2.1) (o:Int):q35_ (a,o,())=some (decide (a.2.1.1 ≠ 0∧a.2.1.1 ≠ o),()):=by
 show qij_ a o=_
 unfold qij_
 rw [lfree_eq h,Option.bind_some]
 by_cases h0:a.2.1.1=0
 ·rw [decide_eq_true h0,if_neg (by decide),decide_eq_false (fun e=>e.1 h0)]
 ·rw [decide_eq_false h0,if_pos (by rfl)]
  refine congrArg (fun b=>some (b,())) ?_
  rw [Bool.eq_iff_iff,qj_,decide_eq_true_eq]
  exact ⟨fun e=>⟨h0,e⟩,fun e=>e.2⟩
theorem ataken_eq {a:TAg} {o:Int} (h:RightL a.2.1) (ho:o ≠ 0) (ht:1≤a.2.2.2.2.2.2) (hf:a.2.1.1=0∨a.2.1.1=o):q9c_ (a,o,())=some ((a.1,takeL a.2.1 o a.2.2.2.2.2.2,a.2.2),()):=by
 show qkq_ a o=_
 unfold qkq_
 rw [ltake_eq h ho ht hf]
 rfl
set_option maxHeartbeats 1000000 in
theorem ado_eq {a:TAg} (h:OkG a) {c:TCm} (hc:0≤c.2.2.2.1∧c.2.2.2.1≤65535):qed_ (a,c,())=some ((doS (ownA a) c).1,(doS (ownA a) c).2,()):=by
 show qtf_ a c=_
 unfold qtf_
 have h':=h.own
 rw [aown_eq h.sz,Option.bind_some,amb2 (eqAs_refl _)]
 dsimp only
 generalize ownA a=g at h'
 obtain ⟨co,cv,ct,cc,ck⟩:=c
 dsimp only at hc ⊢
 have lr:=h'.lr
 have kr:=h'.kr
 rw [aothers_eq lr,Option.bind_some]
 unfold doS
 dsimp only
 by_cases hq:co=0∨ct=0∨¬ (1≤cv∧cv≤4)
 ·rw [if_pos hq]
  simp only [q6_]
  by_cases h1:co=0
  ·simp [h1]
  ·by_cases h2:ct=0
   ·simp [h1,h2]
   ·have hv:¬ (1≤cv∧cv≤4):=by omega
    rw [if_neg (by omega),if_neg (by omega),if_neg (by omega),if_neg (by omega),if_neg h1,if_neg h2]
 ·rw [if_neg hq]
  have h1:co ≠ 0:=by omega
  have h2:ct ≠ 0:=by omega
  have hv:1≤cv∧cv≤4:=by omega
  simp only [q6_,if_neg h1,if_neg h2]
  by_cases ho:g.2.1.1 ≠ 0∧g.2.1.1 ≠ co
  ·rw [if_pos ho,decide_eq_true ho]
   simp only [if_true]
   split <;> first | rfl | skip
   split <;> first | rfl | skip
   split <;> first | rfl | skip
   split <;> first | rfl | skip
   omega
  ·rw [if_neg ho,decide_eq_false ho]
   simp only [Bool.false_eq_true,if_false]
   have hf:g.2.1.1=0∨g.2.1.1=co:=by omega
   by_cases v1:cv=1
   ·subst v1
    rw [if_pos rfl,if_pos rfl]
    have hn:qd6_ (g,(co,1,ct,cc,ck),())=some (decide (ct≤g.2.2.2.2.1∨g.2.2.1 ≠ 0∧ct < g.2.2.2.1),()):=by
     show qga_ g (co,1,ct,cc,ck)=_
     unfold qga_
     dsimp only
     by_cases q1:ct≤g.2.2.2.2.1
     ·rw [if_pos (q19_.2 q1),decide_eq_true (Or.inl q1)]
     ·rw [if_neg (fun e=>q1 (q19_.1 e))]
      by_cases q2:g.2.2.1=0
      ·rw [if_neg (fun e=>qj_.1 e q2),decide_eq_false (by omega)]
      ·rw [if_pos (qj_.2 q2),lt_dec]
       refine congrArg (fun b=>some (b,())) ?_
       rw [Bool.eq_iff_iff,decide_eq_true_eq,decide_eq_true_eq]
       omega
    rw [hn,Option.bind_some]
    by_cases q:ct≤g.2.2.2.2.1∨g.2.2.1 ≠ 0∧ct < g.2.2.2.1
    ·rw [if_pos q,decide_eq_true q]
     rfl
    ·rw [if_neg q,decide_eq_false q,if_neg (by decide)]
     have hcl:qi4_ (g,(co,1,ct,cc,ck),())=some (if ct=g.2.2.2.1 then (g.1,takeL g.2.1 co g.2.2.2.2.2.2,g.2.2) else (g.1,(co,g.2.2.2.2.2.2),1,ct,g.2.2.2.2.1,(ct,zSt.2),g.2.2.2.2.2.2),()):=by
      show qjy_ g (co,1,ct,cc,ck)=_
      unfold qjy_
      dsimp only
      by_cases e:ct=g.2.2.2.1
      ·rw [if_pos (q6_.2 e),if_pos e,ataken_eq lr h1 kr.1 hf]
       rfl
      ·rw [if_neg (fun x=>e (q6_.1 x)),if_neg e,afreed_eq,Option.bind_some]
       have:=ataken_eq (a:=freeA g) (o:=co) (Or.inl ⟨rfl,rfl⟩) h1 kr.1 (Or.inl rfl)
       dsimp only
       rw [this]
       have et:takeL (0,0) co (freeA g).2.2.2.2.2.2=(co,g.2.2.2.2.2.2):=by
        unfold takeL
        rw [if_neg (fun x=>h1 (by cases x))]
        rfl
       show some ((g.1,takeL (0,0) co (freeA g).2.2.2.2.2.2,1,ct,g.2.2.2.2.1,(ct,zSt.2),g.2.2.2.2.2.2),())=_
       rw [et]
     rw [hcl,Option.bind_some]
     split <;> rfl
   ·rw [if_neg (Ne.symm v1),if_neg v1]
    by_cases v2:cv=2
    ·subst v2
     rw [if_pos rfl,if_pos rfl]
     have hn:q9z_ (g,(co,2,ct,cc,ck),())=some (decide (¬ (g.2.2.1=2∧g.2.2.2.1=ct∨g.2.2.1=1∧g.2.2.2.1=ct∧wholeA g cc ck=true)),()):=by
      show qe4_ g (co,2,ct,cc,ck)=_
      unfold qe4_
      dsimp only
      rw [ain_eq,Option.bind_some]
      by_cases q1:g.2.2.1=2∧g.2.2.2.1=ct
      ·rw [decide_eq_true q1,if_pos rfl,decide_eq_false (fun e=>e (Or.inl q1))]
      ·rw [decide_eq_false q1,if_neg (by decide),ain_eq,Option.bind_some]
       by_cases q2:g.2.2.1=1∧g.2.2.2.1=ct
       ·rw [decide_eq_true q2,if_neg (by decide),cvt64 (by omega) (by omega),swhole_eq h'.hl h'.sl h'.bb,Option.bind_some]
        refine congrArg (fun b=>some (b,())) ?_
        show (!wholeA g cc ck)=_
        cases hw:wholeA g cc ck with
        | true=>rw [decide_eq_false (fun e=>e (Or.inr ⟨q2.1,q2.2,rfl⟩))]; rfl
        | false=>rw [decide_eq_true (by rintro (e | e); exact q1 e; exact Bool.false_ne_true e.2.2)]; rfl
       ·rw [decide_eq_false q2,if_pos (by rfl),decide_eq_true (by rintro (e | e); exact q1 e; exact q2 ⟨e.1,e.2.1⟩)]
     rw [hn,Option.bind_some]
     by_cases q:g.2.2.1=2∧g.2.2.2.1=ct∨g.2.2.1=1∧g.2.2.2.1=ct∧wholeA g cc ck=true
     ·rw [if_pos q,decide_eq_false (fun e=>e q),if_neg (by decide)]
      have hph:g.2.2.1 ≠ 0:=by rcases q with q | q <;> omega
      have hown:g.2.1.1=co:=by have:=(h'.pn hph).1; omega
      have hp:qda_ (g,(co,2,ct,cc,ck),())=some ((g.1,(co,-1),2,g.2.2.2),()):=by
       show qh4_ g (co,2,ct,cc,ck)=_
       unfold qh4_
       dsimp only
       rw [lhold_eq lr h1 hown]
       rfl
      rw [hp]
      rfl
     ·rw [if_neg q,decide_eq_true q]
      rfl
    ·rw [if_neg (Ne.symm v2),if_neg v2]
     by_cases v3:cv=3
     ·subst v3
      rw [if_pos rfl,if_pos rfl]
      have hn:qbw_ (g,(co,3,ct,cc,ck),())=some (decide (g.2.2.2.2.1 ≠ ct∧¬ (g.2.2.1=2∧g.2.2.2.1=ct)),()):=by
       show qeq_ g (co,3,ct,cc,ck)=_
       unfold qeq_
       dsimp only
       by_cases q1:g.2.2.2.2.1=ct
       ·rw [if_neg (fun e=>qj_.1 e q1),decide_eq_false (fun e=>e.1 q1)]
       ·rw [if_pos (qj_.2 q1),ain_eq,Option.bind_some]
        refine congrArg (fun b=>some (b,())) ?_
        by_cases q2:g.2.2.1=2∧g.2.2.2.1=ct
        ·rw [decide_eq_true q2,decide_eq_false (fun e=>e.2 q2)]; rfl
        ·rw [decide_eq_false q2,decide_eq_true ⟨q1,q2⟩]; rfl
      rw [hn,Option.bind_some]
      have hcm:g.2.2.2.2.1=ct∨(g.2.2.1=2∧g.2.2.2.1=ct)->qfx_ (g,(co,3,ct,cc,ck),())=some (if g.2.2.2.2.1=ct then g else freeA (overB g.1 (blkS g.2.2.2.2.2.1.2.1 g.2.2.2.2.2.1.2.2),g.2.1,g.2.2.1,g.2.2.2.1,ct,g.2.2.2.2.2),()):=fun _=>by
       show qil_ g (co,3,ct,cc,ck)=_
       unfold qil_
       dsimp only
       by_cases q1:g.2.2.2.2.1=ct
       ·rw [if_pos (q6_.2 q1),if_pos q1]
       ·rw [if_neg (fun e=>q1 (q6_.1 e)),if_neg q1,sblocks_eq h'.hl h'.sl h'.bb,Option.bind_some]
        dsimp only
        rw [bover_eq h'.bl (by have:=blkS_le (hv:=g.2.2.2.2.2.1.2.1) (bs:=g.2.2.2.2.2.1.2.2); have:=h'.hl; omega) h'.fb,Option.bind_some]
        dsimp only
        rw [if_neg (by decide),afreed_eq]
        rfl
      by_cases q1:g.2.2.2.2.1=ct
      ·rw [decide_eq_false (fun e=>e.1 q1),if_neg (by decide),hcm (Or.inl q1),if_pos q1,if_pos q1]
       rfl
      ·by_cases q2:g.2.2.1=2∧g.2.2.2.1=ct
       ·rw [decide_eq_false (fun e=>e.2 q2),if_neg (by decide),hcm (Or.inr q2),if_neg q1,if_neg q1,if_pos q2]
        rfl
       ·rw [decide_eq_true ⟨q1,q2⟩,if_neg q1,if_neg q2]
        rfl
     ·have v4:cv=4:=by omega
      subst v4
      rw [if_neg (by decide),if_pos rfl,if_neg v3]
      have hn:qd5_ (g,(co,4,ct,cc,ck),())=some (decide (ct≤g.2.2.2.2.1),()):=rfl
      rw [hn,Option.bind_some]
      by_cases q1:ct≤g.2.2.2.2.1
      ·rw [decide_eq_true q1,if_pos q1]
       rfl
      ·rw [decide_eq_false q1,if_neg (by decide),if_neg q1]
       have ha:qi0_ (g,(co,4,ct,cc,ck),())=some (if g.2.1.1=co∧g.2.2.2.1=ct then freeA g else g,()):=by
        show ql0_ qfq_ g (co,4,ct,cc,ck)=_
        unfold ql0_
        dsimp only
        have K:∀ b z,qfq_ g 0 b [z]=some (if b=true then g else freeA g,()):=fun b z=>by
         show qju_ g 0 b [z]=_
         unfold qju_
         cases b <;> rfl
        by_cases e1:g.2.1.1=co
        ·rw [if_neg (fun e=>qj_.1 e e1),K]
         by_cases e2:g.2.2.2.1=ct
         ·rw [if_neg (fun e=>qj_.1 e e2),if_pos ⟨e1,e2⟩]
         ·rw [if_pos (qj_.2 e2),if_neg (fun e=>e2 e.2)]
        ·rw [if_pos (qj_.2 e1),K,if_pos rfl,if_neg (fun e=>e1 e.1)]
       rw [ha,Option.bind_some]
       by_cases e:g.2.1.1=co∧g.2.2.2.1=ct
       ·rw [if_pos e,if_pos e]
        rfl
       ·rw [if_neg e,if_neg e]
        rfl
end Go.Proofs.Lx
end
section
namespace Go.Proofs.Lx
open Go Ev Sx Pl
set_option maxRecDepth 100000
def putA (a:TAg) (o t n:Int) (x:TBlk):TAg×Int :=
 if o=0∨t=0 then (a,2) else if a.2.1.1 ≠ 0∧a.2.1.1 ≠ o then (a,22) else if ¬ (a.2.2.1=1∧a.2.2.2.1=t) then (a,23)
 else ((a.1,takeL a.2.1 o a.2.2.2.2.2.2,a.2.2.1,a.2.2.2.1,a.2.2.2.2.1,putS a.2.2.2.2.2.1 n.toNat x,a.2.2.2.2.2.2),0)
theorem aput_eq {a:TAg} (h:OkG a) {o t n:Int} {x:TBlk} (hn:0≤n∧n≤7) (hf:fitsB x=true):qba_ (a,o,t,n,x,())=some ((putA (ownA a) o t n x).1,(putA (ownA a) o t n x).2,()):=by
 show qrr_ qiz_ a o t n x=_
 unfold qrr_
 have h':=h.own
 rw [aown_eq h.sz,Option.bind_some]
 dsimp only
 generalize ownA a=g at h'
 have lr:=h'.lr
 have kr:=h'.kr
 have hx:x.2.length≤1000:=by have:=of_decide_eq_true hf; omega
 have K:∀ b z,qiz_ o t n 0 0 b [g] x [z]=some (if b=true then (g,2,()) else ((putA g o t n x).1,(putA g o t n x).2,()))∨¬ (b=true ↔ (o=0∨t=0)):=fun b z=>by
  by_cases hb:b=true ↔ (o=0∨t=0)
  ·left
   show qpu_ o t n 0 0 b [g] x [z]=_
   unfold qpu_
   cases b with
   | true=>rfl
   | false =>
    rw [if_neg (by decide),if_neg (by decide)]
    have h0:¬ (o=0∨t=0):=fun e=>Bool.false_ne_true (hb.2 e)
    unfold putA
    rw [if_neg h0]
    rw [q3p_,Option.bind_some,aothers_eq lr,Option.bind_some]
    by_cases q1:g.2.1.1 ≠ 0∧g.2.1.1 ≠ o
    ·rw [decide_eq_true q1,if_pos q1]
     rfl
    ·rw [decide_eq_false q1,if_neg (by decide),if_neg q1,Option.bind_some,ain_eq,Option.bind_some]
     by_cases q2:g.2.2.1=1∧g.2.2.2.1=t
     ·rw [decide_eq_true q2,if_neg (by decide),if_neg (fun e=>e q2),Option.bind_some,sput_eq h'.hl h'.sl h'.bb hx,if_pos hn,if_pos hf,Option.bind_some]
      dsimp only
      rw [if_neg (by decide),Option.bind_some]
      have:=ataken_eq (a:=(g.1,g.2.1,g.2.2.1,g.2.2.2.1,g.2.2.2.2.1,putS g.2.2.2.2.2.1 n.toNat x,g.2.2.2.2.2.2)) (o:=o) lr (by omega) kr.1 (by dsimp only; omega)
      show Option.bind (q9c_ ((g.1,g.2.1,g.2.2.1,g.2.2.2.1,g.2.2.2.2.1,putS g.2.2.2.2.2.1 n.toNat x,g.2.2.2.2.2.2),o,())) _=_
      rw [this]
      rfl
     ·rw [decide_eq_false q2,if_pos (by rfl),if_pos q2]
      rfl
  ·exact Or.inr hb
 have p2:o=0∨t=0->putA g o t n x=(g,2):=fun e=>if_pos e
 by_cases ho:o=0
 ·rw [if_pos (q6_.2 ho)]
  rcases K true _ with e | e
  ·rw [e,if_pos rfl,p2 (Or.inl ho)]
  ·exact absurd ⟨fun _=>Or.inl ho,fun _=>rfl⟩ e
 ·rw [if_neg (fun e=>ho (q6_.1 e))]
  rcases K (eqi t 0) ([],(0,0),0,0,0,zSt,0) with e | e
  ·refine e.trans ?_
   by_cases ht:t=0
   ·rw [if_pos (q6_.2 ht),p2 (Or.inr ht)]
   ·rw [if_neg (fun e=>ht (q6_.1 e))]
  ·exact absurd ⟨fun x=>Or.inr (q6_.1 x),fun x=>q6_.2 (x.resolve_left ho)⟩ e
def tickA (a:TAg):TAg:=if (tickL a.2.1).2=true then freeA a else (a.1,(tickL a.2.1).1,a.2.2)
theorem atick_eq {a:TAg} (h:OkG a):qr0_ (a,())=some (tickA (ownA a),()):=by
 show qn3_ a=_
 unfold qn3_ tickA
 have h':=h.own
 rw [aown_eq h.sz,Option.bind_some,ltick_eq h'.lr h'.l2,Option.bind_some,afreed_eq]
 dsimp only
 split <;> rfl
def bootA (a:TAg):TAg:=if a.2.2.1=1 then freeA a else a
theorem aboot_eq {a:TAg} (h:OkG a):qqj_ (a,())=some (bootA (ownA a),()):=by
 show qn7_ a=_
 unfold qn7_ bootA
 rw [aown_eq h.sz,Option.bind_some,afreed_eq]
 by_cases e:(ownA a).2.2.1=1
 ·rw [if_pos (q6_.2 e),if_pos e]
  rfl
 ·rw [if_neg (fun x=>e (q6_.1 x)),if_neg e]
def statA (a:TAg):List Int:=[a.2.1.1,a.2.2.1,a.2.2.2.1 / 65536,a.2.2.2.1 % 65536,a.2.2.2.2.1 / 65536,a.2.2.2.2.1 % 65536,((a.2.2.2.2.2.1.2.1.count true:Nat):Int),0]
theorem astatus_eq {a:TAg} (h:OkG a):q7_ (a,())=some (statA a,()):=by
 obtain ⟨bk,ls,ph,tx,la,⟨st,hv,bs⟩,tk⟩:=a
 have lr:=h.lr
 have pr:=h.pr
 have tr:=h.tr
 have ar:=h.ar
 have hl:=h.hl
 dsimp only at lr pr tr ar hl
 show qi7_ qdm_ (bk,ls,ph,tx,la,(st,hv,bs),tk)=_
 unfold qi7_
 have hc:hv.count true≤8:=by
  have:=List.count_le_length (a:=true) (l:=hv)
  omega
 have K:∀ o,qdm_ (bk,ls,ph,tx,la,(st,hv,bs),tk) o=some ([o,ph,tx / 65536,tx % 65536,la / 65536,la % 65536,((hv.count true:Nat):Int),0],()):=fun o=>by
  show qis_ _ o=_
  unfold qis_
  dsimp only
  rw [parts_eq tr.1 tr.2,Option.bind_some,parts_eq ar.1 ar.2,Option.bind_some,there_eq hl,Option.bind_some,show cvt .u16 ph=ph from wu16 pr.1 (by omega),show cvt .u16 ((hv.count true:Nat):Int)=_ from wu16 (by omega) (by omega)]
 rw [lfree_eq lr,Option.bind_some]
 dsimp only
 by_cases e:ls.1=0
 ·rw [decide_eq_true e,if_pos rfl,K]
  unfold statA
  dsimp only
  rw [e]
 ·rw [decide_eq_false e,if_neg (by decide),K]
  rfl
def zAg (b:List Int) (t:Int):TAg:=(b,(0,0),0,0,0,zSt,t)
theorem anew_eq {b:List Int} {t:Int} (hb:b.length≤1000000):qtw_ (b,t,())=some (if b.length=64 then if 1≤t then (zAg b t,0,()) else (zAg [] 0,2,()) else (zAg [] 0,21,())):=by
 show qs0_ b t=_
 unfold qs0_
 by_cases h:b.length=64
 ·rw [if_neg (fun e=>qj_.1 e (by rw [q1_]; omega)),if_pos h]
  by_cases h1:1≤t
  ·rw [if_neg (fun e=>by have:=qa_.1 e; omega),if_pos h1,q5c_ hb]
   rfl
  ·rw [if_pos (qa_.2 (by omega)),if_neg h1]
   rfl
 ·rw [if_pos (qj_.2 (by rw [q1_]; omega)),if_neg h]
  rfl
theorem blkS_zero:blkS zSt.2.1 zSt.2.2=[]:=rfl
theorem ok_free {bk:List Int} {la tk:Int} (bl:bk.length=64) (bw:∀ x ∈ bk,0≤x∧x≤65535) (ar:0≤la∧la≤4294967295) (kr:1≤tk∧tk≤9223372036854775807):OkG (bk,(0,0),0,0,la,zSt,tk) where
 bl:=bl
 bw:=bw
 lr:=Or.inl ⟨rfl,rfl⟩
 l1:=⟨by dsimp only; omega,by dsimp only; omega⟩
 l2:=by dsimp only; omega
 pr:=⟨by dsimp only; omega,by dsimp only; omega⟩
 tr:=⟨by dsimp only; omega,by dsimp only; omega⟩
 ar:=ar
 kr:=kr
 hl:=rfl
 sl:=rfl
 bb:=by dsimp only; decide
 wb:=by
  intro b hb w hw
  have:b=zB:=by revert hb; simp; exact fun e=>e
  rw [this] at hw
  cases hw
 fb:=fun b hb=>by rw [show blkS _ _=[] from blkS_zero] at hb; cases hb
 p0:=fun _=>⟨rfl,rfl,rfl,rfl⟩
 pn:=fun e=>absurd rfl e
 p1:=fun e=>absurd e (by dsimp only; omega)
 p2:=fun e=>absurd e (by dsimp only; omega)
theorem OkG.free {a:TAg} (h:OkG a):OkG (freeA a):=ok_free h.bl h.bw h.ar h.kr
theorem OkG.doS {a:TAg} (h:OkG a) {c:TCm} (h1:0≤c.1∧c.1≤65535) (h3:0≤c.2.2.1∧c.2.2.1≤4294967295) (hc:0≤c.2.2.2.1∧c.2.2.2.1≤65535):OkG (doS a c).1:=by
 unfold Lx.doS
 split
 ·exact h
 ·rename_i q0
  split
  ·exact h
  ·rename_i q1
   split
   ·split
    ·exact h
    ·rename_i q2
     split
     ·rename_i q3
      have hp:a.2.2.1 ≠ 0:=fun e=>by have:=(h.p0 e).2.1; omega
      have hn:=h.pn hp
      have hown:a.2.1.1=c.1:=by have:=hn.1; omega
      have hph:a.2.2.1=1∨a.2.2.1=2:=by have:=h.pr; omega
      have hkr:=h.kr
      rcases hph with e | e
      ·have ht:takeL a.2.1 c.1 a.2.2.2.2.2.2=(c.1,a.2.2.2.2.2.2):=by
        unfold takeL
        rw [if_neg]
        intro x
        have:=h.p1 e
        rw [x] at this
        dsimp only at this; omega
       rw [ht]
       exact { h with lr:=Or.inr ⟨by show c.1 ≠ 0; omega,Or.inl hkr.1⟩,l1:=h1,l2:=hkr.2,p0:=fun x=>absurd x hp,pn:=fun _=>⟨by show c.1 ≠ 0; omega,hn.2⟩,p1:=fun _=>hkr.1,p2:=fun x=>absurd (e.symm.trans x) (by decide) }
      ·have ht:takeL a.2.1 c.1 a.2.2.2.2.2.2=a.2.1:=by
        unfold takeL
        rw [if_pos]
        exact Prod.ext hown (h.p2 e).1
       rw [ht]
       exact h
     ·rename_i q3
      have hkr:=h.kr
      have har:=h.ar
      exact { ok_free h.bl h.bw h.ar h.kr with lr:=Or.inr ⟨by show c.1 ≠ 0; omega,Or.inl hkr.1⟩,l1:=h1,l2:=hkr.2,pr:=⟨by dsimp only; omega,by dsimp only; omega⟩,tr:=h3,p0:=fun x=>absurd x (show (1:Int) ≠ 0 by decide),pn:=fun _=>⟨by show c.1 ≠ 0; omega,by show a.2.2.2.2.1 < c.2.2.1; omega,rfl⟩,p1:=fun _=>hkr.1,p2:=fun x=>absurd x (show (1:Int) ≠ 2 by decide) }
   ·split
    ·split
     ·rename_i q2
      have hp:a.2.2.1 ≠ 0:=fun e=>by omega
      have hn:=h.pn hp
      refine { h with lr:=Or.inr ⟨by show c.1 ≠ 0; omega,Or.inr rfl⟩,l1:=h1,l2:=by dsimp only; omega,pr:=⟨by dsimp only; omega,by dsimp only; omega⟩,p0:=fun x=>absurd x (show (2:Int) ≠ 0 by decide),pn:=fun _=>⟨by show c.1 ≠ 0; omega,hn.2⟩,p1:=fun x=>absurd x (show (2:Int) ≠ 1 by decide),p2:=fun _=>⟨rfl,?_⟩ }
      rcases q2 with q2 | q2
      ·exact (h.p2 q2.1).2
      ·have hw:=q2.2.2
       unfold wholeA at hw
       rw [Bool.and_eq_true,Bool.and_eq_true,decide_eq_true_eq] at hw
       have hf:=of_decide_eq_true hw.2.1
       have hl:=h.hl
       have hcnt:((a.2.2.2.2.2.1.2.1.count true:Nat):Int)=c.2.2.2.1:=by
        obtain ⟨n,hn'⟩:=Int.eq_ofNat_of_zero_le hw.1.1
        rw [hn'] at hf ⊢
        have hv8:a.2.2.2.2.2.1.2.1=(List.range 8).map (fun (i:Nat)=>decide ((i:Int) < (n:Int))):=by
         apply List.ext_getElem?
         intro i
         by_cases hi:i < 8
         ·have:=hf i hi
          rw [List.getElem?_map,List.getElem?_range hi,Option.map_some,<- this,List.getD_eq_getElem?_getD,List.getElem?_eq_getElem (by omega)]
          rfl
         ·rw [List.getElem?_eq_none (by omega),List.getElem?_eq_none (by simp; omega)]
        have hn8:n≤8:=by have:=hw.1.2; omega
        rw [hv8]
        have:n=0∨n=1∨n=2∨n=3∨n=4∨n=5∨n=6∨n=7∨n=8:=by omega
        rcases this with rfl | rfl | rfl | rfl | rfl | rfl | rfl | rfl | rfl <;> rfl
       show firstN a.2.2.2.2.2.1.2.1 _=true
       rw [hcnt]
       exact hw.2.1
     ·exact h
    ·split
     ·split
      ·exact h
      ·split
       ·exact ok_free (overB_len h.bl h.fb) (overB_rng (P:=fun y=>0≤y∧y≤65535) h.bw (fun x hx=>h.wb x (blkS_mem hx))) h3 h.kr
       ·exact h
     ·split
      ·exact h
      ·split
       ·exact h.free
       ·exact h
theorem set_mem' {α:Type} {P:α->Prop} {xs:List α} {k:Nat} {x:α} (h:∀ y ∈ xs,P y) (hx:P x):∀ y ∈ xs.set k x,P y:=fun y hy=>by
 rcases List.mem_or_eq_of_mem_set hy with e | e
 ·exact h y e
 ·rw [e]; exact hx
theorem blkS_set {P:TBlk->Prop} {x:TBlk} (hx:P x):∀ {hv:List Bool} {bs:List TBlk} (k:Nat),(∀ b ∈ blkS hv bs,P b)->∀ b ∈ blkS (hv.set k true) (bs.set k x),P b
 | [],bs,k,_=>by intro b hb; simp [blkS] at hb
 | h::r,[],k,_=>by intro b hb; cases k <;> simp [blkS] at hb
 | h::r,c::q,0,hp=>by
  intro b hb
  rw [List.set_cons_zero,List.set_cons_zero] at hb
  unfold blkS at hb hp
  rw [List.zip_cons_cons,List.filter_cons,if_pos rfl,List.map_cons] at hb
  rcases List.mem_cons.1 hb with e | e
  ·rw [e]; exact hx
  ·refine hp b ?_
   rw [List.zip_cons_cons,List.filter_cons]
   split
   ·exact List.mem_cons_of_mem _ e
   ·exact e
 | h::r,c::q,k + 1,hp=>by
  intro b hb
  rw [List.set_cons_succ,List.set_cons_succ] at hb
  have hr:∀ b ∈ blkS r q,P b:=fun b hb=>hp b (by
   unfold blkS at hb ⊢
   rw [List.zip_cons_cons,List.filter_cons]
   split
   ·exact List.mem_cons_of_mem _ hb
   ·exact hb)
  have ih:=blkS_set hx k hr
  unfold blkS at hb hp ih
  rw [List.zip_cons_cons,List.filter_cons] at hb
  cases h with
  | true =>
   rw [if_pos rfl,List.map_cons] at hb
   rcases List.mem_cons.1 hb with e | e
   ·refine hp b ?_
    rw [List.zip_cons_cons,List.filter_cons,if_pos rfl,List.map_cons,e]
    exact List.mem_cons_self ..
   ·exact ih b e
  | false=>exact ih b hb
theorem OkG.putA {a:TAg} (h:OkG a) {o t n:Int} {x:TBlk} (ho:0≤o∧o≤65535) (hf:fitsB x=true) (hw:∀ w ∈ x.2,0≤w∧w≤65535):OkG (putA a o t n x).1:=by
 have hx:x.2.length≤1000:=by have:=of_decide_eq_true hf; omega
 unfold Lx.putA
 split
 ·exact h
 ·rename_i q0
  split
  ·exact h
  ·rename_i q1
   split
   ·exact h
   ·rename_i q2
    have q2:=Classical.not_not.1 q2
    have hkr:=h.kr
    have hp:a.2.2.1 ≠ 0:=by omega
    have hn:=h.pn hp
    have ht:takeL a.2.1 o a.2.2.2.2.2.2=(o,a.2.2.2.2.2.2):=by
     unfold takeL
     rw [if_neg]
     intro e
     have:=h.p1 q2.1
     rw [e] at this
     dsimp only at this; omega
    rw [ht]
    have hbs:∀ b ∈ a.2.2.2.2.2.1.2.2.set n.toNat x,b.2.length≤1000:=set_mem' (P:=fun (b:TBlk)=>b.2.length≤1000) h.bb hx
    have hws:∀ b ∈ a.2.2.2.2.2.1.2.2.set n.toNat x,∀ w ∈ b.2,0≤w∧w≤65535:=set_mem' (P:=fun (b:TBlk)=>∀ w ∈ b.2,0≤w∧w≤65535) h.wb hw
    have hhl:=h.hl
    have hsl:=h.sl
    exact { h with
     lr:=Or.inr ⟨by show o ≠ 0; omega,Or.inl hkr.1⟩
     l1:=ho
     l2:=hkr.2
     hl:=by show (a.2.2.2.2.2.1.2.1.set n.toNat true).length=8; rw [List.length_set]; exact hhl
     sl:=nzB_len (by rw [List.length_set]; exact hhl) (by rw [List.length_set]; exact hsl)
     bb:=nzB_mem (P:=fun b=>b.2.length≤1000) (by show (0:Nat)≤1000; omega) hbs
     wb:=nzB_mem (P:=fun b=>∀ w ∈ b.2,0≤w∧w≤65535) (by intro w hw; cases hw) hws
     fb:=by
      show ∀ b ∈ blkS (a.2.2.2.2.2.1.2.1.set n.toNat true) (nzB (a.2.2.2.2.2.1.2.1.set n.toNat true) (a.2.2.2.2.2.1.2.2.set n.toNat x)),fitsB b=true
      rw [blkS_nz]
      exact blkS_set hf _ h.fb
     p0:=fun e=>absurd e hp
     pn:=fun _=>⟨by show o ≠ 0; omega,hn.2⟩
     p1:=fun _=>hkr.1
     p2:=fun e=>absurd (q2.1.symm.trans e) (by decide) }
theorem OkG.tickA {a:TAg} (h:OkG a):OkG (tickA a):=by
 unfold Lx.tickA tickL
 by_cases q0:a.2.1.1=0∨a.2.1.2=-1
 ·rw [if_pos q0,if_neg (show ¬ (a.2.1,false).2=true from Bool.false_ne_true)]
  exact h
 ·rw [if_neg q0]
  by_cases q1:a.2.1.2=1
  ·rw [if_pos q1,if_pos rfl]
   exact h.free
  ·rw [if_neg q1,if_neg (show ¬ ((a.2.1.1,a.2.1.2 - 1),false).2=true from Bool.false_ne_true)]
   have hl2:=h.l2
   have lr:1≤a.2.1.2:=by
    have:=h.lr
    unfold RightL at this
    omega
   have hp:a.2.2.1 ≠ 0:=fun e=>by have:=(h.p0 e).1; omega
   have hn:=h.pn hp
   exact { h with
    lr:=Or.inr ⟨hn.1,Or.inl (by show 1≤a.2.1.2 - 1; omega)⟩
    l2:=by show a.2.1.2 - 1≤_; omega
    p0:=fun e=>absurd e hp
    pn:=fun _=>⟨hn.1,hn.2⟩
    p1:=fun _=>by show 1≤a.2.1.2 - 1; omega
    p2:=fun e=>by have:=(h.p2 e).1; omega }
theorem OkG.bootA {a:TAg} (h:OkG a):OkG (bootA a):=by
 unfold Lx.bootA
 split
 ·exact h.free
 ·exact h
end Go.Proofs.Lx
end
section
namespace Go.Proofs.Lx
open Go Ev Sx Pl
set_option maxRecDepth 100000
abbrev TSpace:=List TArea×List TArea×List TArea×List TArea
theorem uses_eq (f:Int):qgt_ (f,())=some ((if f=1 then (1,0) else if f=2 then (2,0) else if f=3 then (3,0) else if f=4 then (4,0) else if f=5 then (0,1) else if f=6 then (0,3) else if f=15 then (0,1) else if f=16 then (0,3) else if f=23 then (3,3) else (0,0)),()):=by
 show qnx_ f=_
 unfold qnx_
 simp only [q6_,gdV]
 have e:∀ k:Int,(k=f)=(f=k):=fun k=>propext ⟨fun h=>h.symm,fun h=>h.symm⟩
 simp only [e]
 repeat' split
 all_goals rfl
def rdW (x:TArea):Bool:=x.2.2.1
def wrW (p m:Int) (x:TArea):Bool:=x.2.2.2.1 && (!x.2.2.2.2 || (decide (x.1=p) && decide (x.2.1=m)))
theorem zwb (p m:Int) (x:TArea):qt_ (x,p,m,())=some (wrW p m x,p,m,()):=by
 obtain ⟨a,b,c,d,e⟩:=x
 show q4i_ (a,b,c,d,e) p m=_
 unfold q4i_ wrW
 dsimp only
 cases d <;> cases e <;> try rfl
 rw [if_pos rfl,if_neg (by decide)]
 by_cases h:a=p
 ·rw [if_pos (q6_.2 h),decide_eq_true h]; rfl
 ·rw [if_neg (fun e=>h (q6_.1 e)),decide_eq_false h]; rfl
theorem zwu (p m:Int) (x:TArea):qo_ (x,p,m,())=some (wrW p m x,p,m,()):=by
 obtain ⟨a,b,c,d,e⟩:=x
 show q3q_ (a,b,c,d,e) p m=_
 unfold q3q_ wrW
 dsimp only
 cases d <;> cases e <;> try rfl
 rw [if_pos rfl,if_neg (by decide)]
 by_cases h:a=p
 ·rw [if_pos (q6_.2 h),decide_eq_true h]; rfl
 ·rw [if_neg (fun e=>h (q6_.1 e)),decide_eq_false h]; rfl
section
variable {l:List TArea} {p:Int} {m:Nat} (hp:0≤p) (hpm:p≤1000000) (hm:m≤1000000) (hl:l.length≤1000000) (ho:∀ x ∈ l,OkAr x)
include hp hpm hm hl ho
theorem tab_br (c:List Bool):q1w_ ((l,c),p,(m:Int),())=some (eachS rdW l p m,()):=by
 show Option.bind (q6j_ (l,p,(m:Int),())) _=_
 rw [each_br_eq hp hm hpm hl ho (w:=rdW) (fun _=>rfl)]
 rfl
theorem tab_ur (c:List Int):q1i_ ((l,c),p,(m:Int),())=some (eachS rdW l p m,()):=by
 show Option.bind (q6o_ (l,p,(m:Int),())) _=_
 rw [each_ur_eq hp hm hpm hl ho (w:=rdW) (fun _=>rfl)]
 rfl
theorem tab_bw (c:List Bool):q1x_ ((l,c),p,(m:Int),())=some (eachS (wrW p m) l p m,()):=by
 show Option.bind (q6m_ (l,p,(m:Int),p,(m:Int),())) _=_
 rw [each_bw_eq hp hm hpm hl ho (w:=wrW p m) (zwb p m)]
 rfl
theorem tab_uw (c:List Int):q18_ ((l,c),p,(m:Int),())=some (eachS (wrW p m) l p m,()):=by
 show Option.bind (q6n_ (l,p,(m:Int),p,(m:Int),())) _=_
 rw [each_uw_eq hp hm hpm hl ho (w:=wrW p m) (zwu p m)]
 rfl
end
theorem target_eq {a:TA} (h:OkA a):q9y_ (a,())=some ((if a.1=23 then a.2.2.2.1 else a.2.1),((a.2.2.2.2.2.length + a.2.2.2.2.1.length:Nat):Int),()):=by
 have:=h.lw
 have:=h.lb
 have h0:=h.at0
 have h1:=h.at1
 have h2:=h.t0
 have h3:=h.t1
 show qip_ a=_
 unfold qip_
 rw [q1_,q1_,addn64 (by omega),cvt64 (by omega) (by omega),cvt64 (by omega) (by omega)]
 simp only [q6_]
 split <;> rfl
theorem each_read {k:Int} {w h:Bool} {p:Int} {m:Nat} (hk:1≤k) (hp:0≤p) (hm:1≤m) (f:TArea->Bool) (hf:f (0,k,true,w,h)=true):eachS f [(0,k,true,w,h)] p m=decide (p + m≤k):=by
 have hw:∀ i:Int,0≤i->wantF f [(0,k,true,w,h)] i=decide (i < k):=fun i hi=>by
  unfold wantF qv_
  rw [List.find?_cons,List.find?_nil]
  have:covS (0,k,true,w,h) i=decide (i < k):=by
   unfold covS
   rw [decide_eq_decide]
   dsimp only
   omega
  rw [this]
  by_cases h:i < k
  ·rw [decide_eq_true h]; exact hf
  ·rw [decide_eq_false h]
 unfold eachS
 rw [Bool.eq_iff_iff,List.all_eq_true,decide_eq_true_eq]
 constructor
 ·intro hall
  have:=hall (m - 1) (List.mem_range.2 (by omega))
  rw [hw _ (by omega),decide_eq_true_eq] at this
  omega
 ·intro hle k hk
  rw [List.mem_range] at hk
  rw [hw _ (by omega),decide_eq_true_eq]
  omega
def SPH:List TArea:=[(0,64,true,false,false),(256,8,true,false,false),(272,8,false,true,true),(288,20,false,true,true),(512,20,true,false,false),(544,20,true,false,false),(576,20,true,false,false),(608,20,true,false,false),(640,20,true,false,false),(672,20,true,false,false),(704,20,true,false,false),(736,20,true,false,false)]
def SP:TSpace:=([(0,16,true,true,false)],[(0,8,true,false,false)],SPH,[(0,8,true,false,false)])
theorem space_eq:q5e_ ()=some (SP,()):=by kernel_rfl
theorem want_some {f:TArea->Bool} {l:List TArea} {i:Int} (h:wantF f l i=true):∃ x ∈ l,covS x i=true∧f x=true:=by
 unfold wantF qv_ at h
 cases hx:l.find? (fun x=>covS x i) with
 | none=>rw [hx] at h; cases h
 | some x =>
  rw [hx] at h
  exact ⟨x,List.mem_of_find?_eq_some hx,by simpa using List.find?_some hx,h⟩
theorem wrH_eq {p:Int} {m:Nat} (hm:1≤m):eachS (wrW p m) SPH p m=decide (p=272∧m=8∨p=288∧m=20):=by
 rw [Bool.eq_iff_iff,decide_eq_true_eq]
 constructor
 ·intro h
  unfold eachS at h
  rw [List.all_eq_true] at h
  have h0:=h 0 (List.mem_range.2 (by omega))
  obtain ⟨x,hx,_,hw⟩:=want_some h0
  have e:wrW p (m:Int) x=true ↔ x.2.2.2.1=true∧(x.2.2.2.2=false∨(x.1=p∧x.2.1=(m:Int))):=by
   unfold wrW
   rw [Bool.and_eq_true,Bool.or_eq_true,Bool.and_eq_true,decide_eq_true_eq,decide_eq_true_eq,Bool.not_eq_true']
  rw [e] at hw
  simp only [SPH,List.mem_cons,List.not_mem_nil,or_false] at hx
  rcases hx with rfl | rfl | rfl | rfl | rfl | rfl | rfl | rfl | rfl | rfl | rfl | rfl <;> simp at hw <;> omega
 ·rintro (⟨rfl,rfl⟩ | ⟨rfl,rfl⟩) <;> decide
def rdH (p:Int) (m:Nat):Bool:=eachS rdW SPH p m
theorem rdH_le {p:Int} {m:Nat} (hm:1≤m) (h:rdH p m=true):p + m≤756:=by
 unfold rdH eachS at h
 rw [List.all_eq_true] at h
 obtain ⟨x,hx,hc,_⟩:=want_some (h (m - 1) (List.mem_range.2 (by omega)))
 unfold covS at hc
 rw [decide_eq_true_eq] at hc
 simp only [SPH,List.mem_cons,List.not_mem_nil,or_false] at hx
 rcases hx with rfl | rfl | rfl | rfl | rfl | rfl | rfl | rfl | rfl | rfl | rfl | rfl <;> dsimp only at hc <;> omega
theorem okSPH:∀ x ∈ SPH,OkAr x:=fun x hx=>by
 simp only [SPH,List.mem_cons,List.not_mem_nil,or_false] at hx
 rcases hx with rfl | rfl | rfl | rfl | rfl | rfl | rfl | rfl | rfl | rfl | rfl | rfl <;> exact ⟨by decide,by decide,by decide,by decide⟩
theorem okOne {k:Int} (h0:0≤k) (h1:k≤100) {r w h:Bool}:∀ x ∈ [((0:Int),k,r,w,h)],OkAr x:=fun x hx=>by
 rw [List.mem_singleton] at hx
 subst hx
 exact ⟨by dsimp only; omega,by dsimp only; omega,by dsimp only; omega,by dsimp only; omega⟩
def chkS (a:TA):Bool :=
 if a.1=1 then decide (a.2.1 + a.2.2.1≤16) else if a.1=2∨a.1=4 then decide (a.2.1 + a.2.2.1≤8)
 else if a.1=3 then rdH a.2.1 a.2.2.1.toNat
 else if a.1=5∨a.1=15 then decide (a.2.1 + (a.2.2.2.2.2.length:Int)≤16)
 else if a.1=23 then rdH a.2.1 a.2.2.1.toNat && decide (a.2.2.2.1=272∧a.2.2.2.2.1.length=8∨a.2.2.2.1=288∧a.2.2.2.2.1.length=20)
 else decide (a.2.1=272∧a.2.2.2.2.1.length=8∨a.2.1=288∧a.2.2.2.2.1.length=20)
abbrev XV:=(List TArea×List Bool)×(List TArea×List Bool)×(List TArea×List Int)×List TArea×List Int
def vS:XV:=(([(0,16,true,true,false)],[]),([(0,8,true,false,false)],[]),(SPH,[]),[(0,8,true,false,false)],[])
theorem check_eq {a:TA} (h:OkA a) (hr:rightA a=true):qbo_ (SP,a,())=some (if chkS a=true then 0 else 2,()):=by
 have hra:=rightA_RA hr
 have ht:=target_eq h
 have p0:=h.at0
 have p1:=h.at1
 have t0:=h.t0
 have t1:=h.t1
 have m0:=h.m0
 have m1:=h.m1
 show qkg_ q1e_ SP a=_
 unfold qkg_
 have ho:qe0_ (SP,([],[],[],[]),())=some (vS,()):=rfl
 rw [right_eq h,hr,Option.bind_some,if_neg (by decide),ho,Option.bind_some,uses_eq,Option.bind_some]
 have K1t:∀ u,q1e_ true a vS u=some (2,()):=fun u=>rfl
 have K1:∀ u,q1e_ false a vS u=Option.bind (q9y_ (a,())) fun y=>if eqi u.2 1=true then Option.bind (q1x_ (vS.1,y.1,y.2.1,())) fun y=>q5h_ !y.1 else if eqi u.2 2=true then Option.bind (q1x_ (vS.2.1,y.1,y.2.1,())) fun y=>q5h_ !y.1 else if eqi u.2 3=true then Option.bind (q18_ (vS.2.2.1,y.1,y.2.1,())) fun y=>q5h_ !y.1 else if eqi u.2 4=true then Option.bind (q18_ (vS.2.2.2,y.1,y.2.1,())) fun y=>q5h_ !y.1 else q5h_ false:=fun u=>rfl
 rw [ht] at K1
 simp only [Option.bind_some] at K1
 have K2:∀ b:Bool,q5h_ (!b)=some (if b=true then 0 else 2,()):=fun b=>by cases b <;> rfl
 have K1b:∀ (b:Bool) (u:Int×Int),u.2=0->q1e_ (!b) a vS u=some (if b=true then 0 else 2,()):=fun b u hu=>by
  cases b with
  | true =>
   show q1e_ false a vS u=_
   rw [K1,hu]
   rfl
  | false=>rfl
 cases hra with
 | bits f p n hf h1 h2 =>
  obtain ⟨n,rfl⟩:=Int.eq_ofNat_of_zero_le (show 0≤n by omega)
  have p0:0≤p:=p0
  have p1:p≤65535:=p1
  have hc:cvt .i64 p=p:=cvt64 (by omega) (by omega)
  have hc2:cvt .i64 (n:Int)=n:=cvt64 (by omega) (by omega)
  rcases hf with rfl | rfl
  ·have hb:=tab_br (l:=[(0,16,true,true,false)]) (p:=p) (m:=n) p0 (by omega) (by omega) (by decide) (okOne (by decide) (by decide)) []
   rw [each_read (by decide) p0 (by omega) rdW rfl] at hb
   rw [<- hc,<- hc2] at hb
   show Option.bind (q1w_ (vS.1,cvt .i64 p,cvt .i64 (n:Int),())) (fun y=>q1e_ (!y.1) (1,p,(n:Int),0,[],[]) vS (1,0))=_
   refine (congrArg (fun z=>Option.bind z _) hb).trans ?_
   rw [Option.bind_some,K1b _ _ rfl,hc,hc2]
   rfl
  ·have hb:=tab_br (l:=[(0,8,true,false,false)]) (p:=p) (m:=n) p0 (by omega) (by omega) (by decide) (okOne (by decide) (by decide)) []
   rw [each_read (by decide) p0 (by omega) rdW rfl] at hb
   rw [<- hc,<- hc2] at hb
   show Option.bind (q1w_ (vS.2.1,cvt .i64 p,cvt .i64 (n:Int),())) (fun y=>q1e_ (!y.1) (2,p,(n:Int),0,[],[]) vS (2,0))=_
   refine (congrArg (fun z=>Option.bind z _) hb).trans ?_
   rw [Option.bind_some,K1b _ _ rfl,hc,hc2]
   rfl
 | words f p n hf h1 h2 =>
  obtain ⟨n,rfl⟩:=Int.eq_ofNat_of_zero_le (show 0≤n by omega)
  have p0:0≤p:=p0
  have p1:p≤65535:=p1
  have hc:cvt .i64 p=p:=cvt64 (by omega) (by omega)
  have hc2:cvt .i64 (n:Int)=n:=cvt64 (by omega) (by omega)
  rcases hf with rfl | rfl
  ·have hu:=tab_ur (l:=SPH) (p:=p) (m:=n) p0 (by omega) (by omega) (by decide) okSPH []
   rw [<- hc,<- hc2] at hu
   show Option.bind (q1i_ (vS.2.2.1,cvt .i64 p,cvt .i64 (n:Int),())) (fun y=>q1e_ (!y.1) (3,p,(n:Int),0,[],[]) vS (3,0))=_
   refine (congrArg (fun z=>Option.bind z _) hu).trans ?_
   rw [Option.bind_some,K1b _ _ rfl,hc]
   rfl
  ·have hu:=tab_ur (l:=[(0,8,true,false,false)]) (p:=p) (m:=n) p0 (by omega) (by omega) (by decide) (okOne (by decide) (by decide)) []
   rw [each_read (by decide) p0 (by omega) rdW rfl] at hu
   rw [<- hc,<- hc2] at hu
   show Option.bind (q1i_ (vS.2.2.2,cvt .i64 p,cvt .i64 (n:Int),())) (fun y=>q1e_ (!y.1) (4,p,(n:Int),0,[],[]) vS (4,0))=_
   refine (congrArg (fun z=>Option.bind z _) hu).trans ?_
   rw [Option.bind_some,K1b _ _ rfl,hc,hc2]
   rfl
 | coil p b =>
  have p0:0≤p:=p0
  have p1:p≤65535:=p1
  have hw:=tab_bw (l:=[(0,16,true,true,false)]) (p:=p) (m:=1) p0 (by omega) (by omega) (by decide) (okOne (by decide) (by decide)) []
  rw [each_read (by decide) p0 (by omega) _ rfl] at hw
  show q1e_ false (5,p,0,0,[],[b]) vS (0,1)=_
  rw [K1,if_pos (by decide)]
  refine (congrArg (fun z=>Option.bind z _) hw).trans ?_
  rw [Option.bind_some,K2]
  rfl
 | word p x =>
  have p0:0≤p:=p0
  have p1:p≤65535:=p1
  have hw:=tab_uw (l:=SPH) (p:=p) (m:=1) p0 (by omega) (by omega) (by decide) okSPH []
  rw [wrH_eq (by omega)] at hw
  show q1e_ false (6,p,0,0,[x],[]) vS (0,3)=_
  rw [K1,if_neg (by decide),if_neg (by decide),if_pos (by decide)]
  refine (congrArg (fun z=>Option.bind z _) hw).trans ?_
  rw [Option.bind_some,K2]
  rfl
 | coils p l h1 h2 =>
  have p0:0≤p:=p0
  have p1:p≤65535:=p1
  have hw:=tab_bw (l:=[(0,16,true,true,false)]) (p:=p) (m:=l.length) p0 (by omega) (by omega) (by decide) (okOne (by decide) (by decide)) []
  rw [each_read (by decide) p0 (by omega) _ rfl] at hw
  show q1e_ false (15,p,(l.length:Int),0,[],l) vS (0,1)=_
  rw [K1,if_pos (by decide)]
  refine (congrArg (fun z=>Option.bind z _) hw).trans ?_
  rw [Option.bind_some,K2]
  rfl
 | regs p l h1 h2 =>
  have p0:0≤p:=p0
  have p1:p≤65535:=p1
  have hw:=tab_uw (l:=SPH) (p:=p) (m:=l.length) p0 (by omega) (by omega) (by decide) okSPH []
  rw [wrH_eq (by omega)] at hw
  show q1e_ false (16,p,(l.length:Int),0,l,[]) vS (0,3)=_
  rw [K1,if_neg (by decide),if_neg (by decide),if_pos (by decide)]
  have e:((([]:List Bool).length + l.length:Nat):Int)=(l.length:Int):=by simp
  show Option.bind (q18_ (vS.2.2.1,p,((([]:List Bool).length + l.length:Nat):Int),())) _=_
  rw [e]
  refine (congrArg (fun z=>Option.bind z _) hw).trans ?_
  rw [Option.bind_some,K2]
  rfl
 | swap p n t l h1 h2 h3 h4 =>
  obtain ⟨n,rfl⟩:=Int.eq_ofNat_of_zero_le (show 0≤n by omega)
  have p0:0≤p:=p0
  have p1:p≤65535:=p1
  have t0:0≤t:=t0
  have t1:t≤65535:=t1
  have hc:cvt .i64 p=p:=cvt64 (by omega) (by omega)
  have hc2:cvt .i64 (n:Int)=n:=cvt64 (by omega) (by omega)
  have hu:=tab_ur (l:=SPH) (p:=p) (m:=n) p0 (by omega) (by omega) (by decide) okSPH []
  rw [<- hc,<- hc2] at hu
  have hw:=tab_uw (l:=SPH) (p:=t) (m:=l.length) t0 (by omega) (by omega) (by decide) okSPH []
  rw [wrH_eq (by omega)] at hw
  show Option.bind (q1i_ (vS.2.2.1,cvt .i64 p,cvt .i64 (n:Int),())) (fun y=>q1e_ (!y.1) (23,p,(n:Int),t,l,[]) vS (3,3))=_
  refine (congrArg (fun z=>Option.bind z _) hu).trans ?_
  rw [Option.bind_some,hc]
  show q1e_ (!rdH p n) (23,p,(n:Int),t,l,[]) vS (3,3)=some (if (rdH p n && decide (t=272∧l.length=8∨t=288∧l.length=20))=true then 0 else 2,())
  cases rdH p n with
  | false=>rfl
  | true =>
   rw [Bool.true_and]
   show q1e_ false _ vS (3,3)=_
   rw [K1,if_neg (by decide),if_neg (by decide),if_pos (by decide)]
   have e:((([]:List Bool).length + l.length:Nat):Int)=(l.length:Int):=by simp
   show Option.bind (q18_ (vS.2.2.1,t,((([]:List Bool).length + l.length:Nat):Int),())) _=_
   rw [e]
   refine (congrArg (fun z=>Option.bind z _) hw).trans ?_
   rw [Option.bind_some,K2]
theorem uread_eq {h:List Int} {p n:Int} (hp:0≤p) (hn:0≤n) (hh:h.length≤100000) (hle:p + n≤h.length) (l:List TArea):q41_ ((l,h),p,n,1,())=some ((h.drop p.toNat).take n.toNat,()):=by
 obtain ⟨p,rfl⟩:=Int.eq_ofNat_of_zero_le hp
 obtain ⟨n,rfl⟩:=Int.eq_ofNat_of_zero_le hn
 have e1:mul .i64 (quo .i64 (sub .i64 (add .i64 (n:Int) 1) 1) 1) 1=(n:Int):=by
  rw [q1l_ (by omega),sub64 (by omega) (by omega),show (((n + 1:Nat):Int) - 1)=(n:Int) by omega]
  have:=quo_nat (i:=n) (d:=1) (by omega)
  rw [Nat.div_one] at this
  rw [show (1:Int)=((1:Nat):Int) from rfl,this,mul64 (by omega) (by omega)]
  omega
 show q6k_ (l,h) (p:Int) (n:Int) 1=_
 unfold q6k_
 rw [e1,q9_ (by decide),q9_ (q1f_.2 (by omega)),q9_ (capOk_sf _),Int.toNat_natCast,qm_ (by omega),addn64 (by omega)]
 dsimp only
 rw [cut_nat (by omega) (by omega),Option.bind_some,List.length_replicate,q9_ (q19_.2 (by rw [q1_,q1_]; omega))]
 have hlen:((h.take (p + n)).drop p).length=n:=by rw [List.length_drop,List.length_take]; omega
 have ht:((h.take (p + n)).drop p)=(h.drop p).take n:=by rw [List.drop_take]; congr 1; omega
 have hz:List.drop (0 + n) (List.replicate n (0:Int))=[]:=List.drop_of_length_le (by rw [List.length_replicate]; omega)
 rw [q1_,Int.toNat_natCast,List.take_of_length_le (show ((h.take (p + n)).drop p).length≤n by omega),hlen,hz,List.append_nil,ht]
 rfl
theorem wrong_eq (f e:Int):qh_ (f,e,())=some ((rem f 128,e,[],[],0,0),()):=rfl
theorem right_f {a:TA} (hr:rightA a=true):1≤a.1∧a.1 < 128:=by
 cases rightA_RA hr with
 | bits f p n hf=>show 1≤f∧f < 128; omega
 | words f p n hf=>show 1≤f∧f < 128; omega
 | coil p b=>exact ⟨(by decide:(1:Int)≤5),(by decide:(5:Int) < 128)⟩
 | word p x=>exact ⟨(by decide:(1:Int)≤6),(by decide:(6:Int) < 128)⟩
 | coils p l=>exact ⟨(by decide:(1:Int)≤15),(by decide:(15:Int) < 128)⟩
 | regs p l=>exact ⟨(by decide:(1:Int)≤16),(by decide:(16:Int) < 128)⟩
 | swap p n t l=>exact ⟨(by decide:(1:Int)≤23),(by decide:(23:Int) < 128)⟩
structure Rep (r:TR):Prop where
 ok:OkR r
 rr:RR r
 rt:rightR r=true
theorem rep_wrong {f e:Int} (h0:0≤f) (h1:f < 128) (h2:1≤e) (h3:e≤4):Rep (f,e,[],[],0,0):=by
 refine ⟨⟨h0,by show f≤255; omega,by show 0≤e; omega,by show e≤255; omega,(fun x hx=>by cases hx),(by decide:(0:Int)≤0),(by decide:(0:Int)≤65535),(by decide:(0:Int)≤0),(by decide:(0:Int)≤65535),Nat.zero_le _,Nat.zero_le _⟩,.ex f e h0 h1 h2 h3,?_⟩
 unfold rightR
 rw [if_pos (by rw [qj_]; show e ≠ 0; omega)]
 unfold exR
 dsimp only
 rw [rem128 h0 h1,decide_eq_true h1,decide_eq_true h2,decide_eq_true h3,decide_eq_true rfl]
 rfl
theorem rep_sm {r:TR} (h:Rep r):SmR r:=by
 cases h.rr <;> exact ⟨by simp <;> omega,by simp <;> omega⟩
theorem rep_bytes {r:TR} (h:Rep r):q9a_ (r,())=some (repB r,0,()):=by rw [rbytes_eq (rep_sm h),if_pos h.rt]
end Go.Proofs.Lx
end
