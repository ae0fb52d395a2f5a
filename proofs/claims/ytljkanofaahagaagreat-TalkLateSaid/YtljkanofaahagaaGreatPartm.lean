/- Proved in the last of these 15 parts (this is part 13): TalkLate. Conditions: those of the given statement, and no others. -/
import Derived.Test.YtljkanofaahagaaGreatPartl
set_option linter.unusedVariables false
set_option linter.unusedSimpArgs false
set_option linter.unusedSectionVars false
open Option renaming bind → zC, bind_some → zD
open List renaming replicate → zE, getD → zJ, getD_eq_getElem?_getD → zX, mem_of_getElem? → zY, length_append → zZ, length_take → kB, length_replicate → kD
open Int renaming ofNat → zF, toNat → zI, eq_ofNat_of_zero_le → zN, toNat_natCast → zQ, tmod_eq_emod_of_nonneg → kC
open Bool renaming and_eq_true → zO
noncomputable section
namespace Go.Proofs.Lx
open Go Ev Sx Pl
set_option maxRecDepth 100000
abbrev TSpace:=List TArea×List TArea×List TArea×List TArea
theorem uses_eq (f:Int):qh9_ (f,())=some ((if f=1 then (1,0) else if f=2 then (2,0) else if f=3 then (3,0) else if f=4 then (4,0) else if f=5 then (0,1) else if f=6 then (0,3) else if f=15 then (0,1) else if f=16 then (0,3) else if f=23 then (3,3) else (0,0)),()):=by
 show qvd_ f=_
 unfold qvd_
 simp only [q4_,gdV]
 grind
def rdW (x:TArea):Bool:=x.2.2.1
def wrW (p m:Int) (x:TArea):Bool:=x.2.2.2.1 && (!x.2.2.2.2 || (decide (x.1=p) && decide (x.2.1=m)))
theorem zwb (p m:Int) (x:TArea):qx_ (x,p,m,())=some (wrW p m x,p,m,()):=by
 obtain ⟨a,b,c,d,e⟩:=x
 show q4v_ (a,b,c,d,e) p m=_
 unfold q4v_ wrW
 dsimp only
 cases d <;> cases e <;> try rfl
 rw [if_pos rfl,if_neg (by decide)]
 by_cases h:a=p
 ·rw [if_pos (q4_.2 h),decide_eq_true h]; rfl
 simp_all [if_neg,q4_,decide_eq_false]
theorem zwu (p m:Int) (x:TArea):qt_ (x,p,m,())=some (wrW p m x,p,m,()):=by
 obtain ⟨a,b,c,d,e⟩:=x
 show q46_ (a,b,c,d,e) p m=_
 unfold q46_ wrW
 dsimp only
 cases d <;> cases e <;> try rfl
 rw [if_pos rfl,if_neg (by decide)]
 by_cases h:a=p
 ·rw [if_pos (q4_.2 h),decide_eq_true h]; rfl
 simp_all [if_neg,q4_,decide_eq_false]
section
variable {l:List TArea} {p:Int} {m:Nat} (hp:0≤p) (hpm:p≤1000000) (hm:m≤1000000) (hl:l.length≤1000000) (ho:∀ x ∈ l,OkAr x)
include hp hpm hm hl ho
theorem tab_br (c:List Bool):q1i_ ((l,c),p,(m:Int),())=some (eachS rdW l p m,()):=by
 show zC (qe9_ (l,p,(m:Int),())) _=_
 rw [each_br_eq hp hm hpm hl ho (w:=rdW) (fun _=>rfl)]
 rfl
theorem tab_ur (c:List Int):q15_ ((l,c),p,(m:Int),())=some (eachS rdW l p m,()):=by
 show zC (qe0_ (l,p,(m:Int),())) _=_
 rw [each_ur_eq hp hm hpm hl ho (w:=rdW) (fun _=>rfl)]
 rfl
theorem tab_bw (c:List Bool):q1k_ ((l,c),p,(m:Int),())=some (eachS (wrW p m) l p m,()):=by
 show zC (qe4_ (l,p,(m:Int),p,(m:Int),())) _=_
 grind [each_bw_eq,wrW,zwb]
theorem tab_uw (c:List Int):qy_ ((l,c),p,(m:Int),())=some (eachS (wrW p m) l p m,()):=by
 show zC (qe3_ (l,p,(m:Int),p,(m:Int),())) _=_
 grind [each_uw_eq,wrW,zwu]
end
theorem target_eq {a:TA} (h:OkA a):q8e_ (a,())=some ((if a.1=23 then a.2.2.2.1 else a.2.1),((a.2.2.2.2.2.length + a.2.2.2.2.1.length:Nat):Int),()):=by
 have:=h.lw
 have:=h.lb
 have h0:=h.at0
 have h1:=h.at1
 have h2:=h.t0
 have h3:=h.t1
 show qou_ a=_
 grind [qou_,q2_,addn64,cvt64,q4_]
theorem each_read {k:Int} {w h:Bool} {p:Int} {m:Nat} (hk:1≤k) (hp:0≤p) (hm:1≤m) (f:TArea->Bool) (hf:f (0,k,true,w,h)=true):eachS f [(0,k,true,w,h)] p m=decide (p + m≤k):=by
 have hw:∀ i:Int,0≤i->wantF f [(0,k,true,w,h)] i=decide (i < k):=fun i hi=>by
  unfold wantF qn_
  rw [List.find?_cons,List.find?_nil]
  have:covS (0,k,true,w,h) i=decide (i < k):=by
   simp_all [covS,decide_eq_decide]
  grind
 unfold eachS
 rw [Bool.eq_iff_iff,List.all_eq_true,decide_eq_true_eq]
 constructor
 ·intro hall
  have:=hall (m - 1) (List.mem_range.2 (by omega))
  grind
 grind
def SPH:List TArea:=[(0,64,true,false,false),(256,8,true,false,false),(272,8,false,true,true),(288,20,false,true,true),(512,20,true,false,false),(544,20,true,false,false),(576,20,true,false,false),(608,20,true,false,false),(640,20,true,false,false),(672,20,true,false,false),(704,20,true,false,false),(736,20,true,false,false)]
def SP:TSpace:=([(0,16,true,true,false)],[(0,8,true,false,false)],SPH,[(0,8,true,false,false)])
theorem space_eq:q3m_ ()=some (SP,()):=by rfl
theorem want_some {f:TArea->Bool} {l:List TArea} {i:Int} (h:wantF f l i=true):∃ x ∈ l,covS x i=true∧f x=true:=by
 grind [wantF,qn_,covS,List.mem_of_find?_eq_some]
theorem wrH_eq {p:Int} {m:Nat} (hm:1≤m):eachS (wrW p m) SPH p m=decide (p=272∧m=8∨p=288∧m=20):=by
 rw [Bool.eq_iff_iff,decide_eq_true_eq]
 constructor
 ·intro h
  unfold eachS at h
  rw [List.all_eq_true] at h
  have h0:=h 0 (List.mem_range.2 (by omega))
  obtain ⟨x,hx,_,hw⟩:=want_some h0
  have e:wrW p (m:Int) x=true ↔ x.2.2.2.1=true∧(x.2.2.2.2=false∨(x.1=p∧x.2.1=(m:Int))):=by
   simp_all [wrW,zO,Bool.or_eq_true,decide_eq_true_eq,Bool.not_eq_true']
  rw [e] at hw
  simp only [SPH,List.mem_cons,List.not_mem_nil,or_false] at hx
  rcases hx with rfl | rfl | rfl | rfl | rfl | rfl | rfl | rfl | rfl | rfl | rfl | rfl <;> simp at hw <;> omega
 ·rintro (⟨rfl,rfl⟩ | ⟨rfl,rfl⟩) <;> decide
def rdH (p:Int) (m:Nat):Bool:=eachS rdW SPH p m
theorem rdH_le {p:Int} {m:Nat} (hm:1≤m) (h:rdH p m=true):p + m≤756:=by
 unfold rdH eachS at h
 rw [List.all_eq_true] at h
 obtain ⟨x,hx,hc,_⟩:=want_some (h (m - 1) (List.mem_range.2 (by omega)))
 unfold covS at hc
 rw [decide_eq_true_eq] at hc
 simp only [SPH,List.mem_cons,List.not_mem_nil,or_false] at hx
 rcases hx with rfl | rfl | rfl | rfl | rfl | rfl | rfl | rfl | rfl | rfl | rfl | rfl <;> dsimp only at hc <;> omega
theorem okSPH:∀ x ∈ SPH,OkAr x:=fun x hx=>by
 simp only [SPH,List.mem_cons,List.not_mem_nil,or_false] at hx
 rcases hx with rfl | rfl | rfl | rfl | rfl | rfl | rfl | rfl | rfl | rfl | rfl | rfl <;> exact ⟨by decide,by decide,by decide,by decide⟩
theorem okOne {k:Int} (h0:0≤k) (h1:k≤100) {r w h:Bool}:∀ x ∈ [((0:Int),k,r,w,h)],OkAr x:=fun x hx=>by
 rw [List.mem_singleton] at hx
 subst hx
 exact ⟨by omega,by omega,by grind,by grind⟩
def chkS (a:TA):Bool :=
 if a.1=1 then decide (a.2.1 + a.2.2.1≤16) else if a.1=2∨a.1=4 then decide (a.2.1 + a.2.2.1≤8)
 else if a.1=3 then rdH a.2.1 a.2.2.1.toNat
 else if a.1=5∨a.1=15 then decide (a.2.1 + (a.2.2.2.2.2.length:Int)≤16)
 else if a.1=23 then rdH a.2.1 a.2.2.1.toNat && decide (a.2.2.2.1=272∧a.2.2.2.2.1.length=8∨a.2.2.2.1=288∧a.2.2.2.2.1.length=20)
 else decide (a.2.1=272∧a.2.2.2.2.1.length=8∨a.2.1=288∧a.2.2.2.2.1.length=20)
abbrev XV:=(List TArea×List Bool)×(List TArea×List Bool)×(List TArea×List Int)×List TArea×List Int
def vS:XV:=(([(0,16,true,true,false)],[]),([(0,8,true,false,false)],[]),(SPH,[]),[(0,8,true,false,false)],[])
theorem check_eq {a:TA} (h:OkA a) (hr:qm_ a=true):q7w_ (SP,a,())=some (if chkS a=true then 0 else 2,()):=by
 have hra:=q1q_ hr
 have ht:=target_eq h
 have p0:=h.at0
 have p1:=h.at1
 have t0:=h.t0
 have t1:=h.t1
 have m0:=h.m0
 have m1:=h.m1
 show qhw_ q10_ SP a=_
 unfold qhw_
 have ho:qia_ (SP,([],[],[],[]),())=some (vS,()):=rfl
 rw [right_eq h,hr,zD,if_neg (by decide),ho,zD,uses_eq,zD]
 have K1t:∀ u,q10_ true a vS u=some (2,()):=fun u=>rfl
 have K1:∀ u,q10_ false a vS u=zC (q8e_ (a,())) fun y=>if eqi u.2 1=true then zC (q1k_ (vS.1,y.1,y.2.1,())) fun y=>q4o_ !y.1 else if eqi u.2 2=true then zC (q1k_ (vS.2.1,y.1,y.2.1,())) fun y=>q4o_ !y.1 else if eqi u.2 3=true then zC (qy_ (vS.2.2.1,y.1,y.2.1,())) fun y=>q4o_ !y.1 else if eqi u.2 4=true then zC (qy_ (vS.2.2.2,y.1,y.2.1,())) fun y=>q4o_ !y.1 else q4o_ false:=fun u=>rfl
 rw [ht] at K1
 simp only [zD] at K1
 have K2:∀ b:Bool,q4o_ (!b)=some (if b=true then 0 else 2,()):=fun b=>by cases b <;> rfl
 have K1b:∀ (b:Bool) (u:Int×Int),u.2=0->q10_ (!b) a vS u=some (if b=true then 0 else 2,()):=fun b u hu=>by
  cases b with
  | true =>
   show q10_ false a vS u=_
   rw [K1,hu]
   rfl
  | false=>rfl
 cases hra with
 | bits f p n hf h1 h2 =>
  obtain ⟨n,rfl⟩:=zN (show 0≤n by omega)
  have p0:0≤p:=p0
  have p1:p≤65535:=p1
  have hc:cvt .i64 p=p:=cvt64 (by omega) (by omega)
  have hc2:cvt .i64 (n:Int)=n:=cvt64 (by omega) (by omega)
  rcases hf with rfl | rfl
  ·have hb:=tab_br (l:=[(0,16,true,true,false)]) (p:=p) (m:=n) p0 (by omega) (by omega) (by decide) (okOne (by decide) (by decide)) []
   rw [each_read (by decide) p0 (by omega) rdW rfl] at hb
   rw [<- hc,<- hc2] at hb
   show zC (q1i_ (vS.1,cvt .i64 p,cvt .i64 (n:Int),())) (fun y=>q10_ (!y.1) (1,p,(n:Int),0,[],[]) vS (1,0))=_
   refine (congrArg (fun z=>zC z _) hb).trans ?_
   rw [zD,K1b _ _ rfl,hc,hc2]
   rfl
  ·have hb:=tab_br (l:=[(0,8,true,false,false)]) (p:=p) (m:=n) p0 (by omega) (by omega) (by decide) (okOne (by decide) (by decide)) []
   rw [each_read (by decide) p0 (by omega) rdW rfl] at hb
   rw [<- hc,<- hc2] at hb
   show zC (q1i_ (vS.2.1,cvt .i64 p,cvt .i64 (n:Int),())) (fun y=>q10_ (!y.1) (2,p,(n:Int),0,[],[]) vS (2,0))=_
   refine (congrArg (fun z=>zC z _) hb).trans ?_
   rw [zD,K1b _ _ rfl,hc,hc2]
   rfl
 | words f p n hf h1 h2 =>
  obtain ⟨n,rfl⟩:=zN (show 0≤n by omega)
  have p0:0≤p:=p0
  have p1:p≤65535:=p1
  have hc:cvt .i64 p=p:=cvt64 (by omega) (by omega)
  have hc2:cvt .i64 (n:Int)=n:=cvt64 (by omega) (by omega)
  rcases hf with rfl | rfl
  ·have hu:=tab_ur (l:=SPH) (p:=p) (m:=n) p0 (by omega) (by omega) (by decide) okSPH []
   rw [<- hc,<- hc2] at hu
   show zC (q15_ (vS.2.2.1,cvt .i64 p,cvt .i64 (n:Int),())) (fun y=>q10_ (!y.1) (3,p,(n:Int),0,[],[]) vS (3,0))=_
   refine (congrArg (fun z=>zC z _) hu).trans ?_
   rw [zD,K1b _ _ rfl,hc]
   rfl
  ·have hu:=tab_ur (l:=[(0,8,true,false,false)]) (p:=p) (m:=n) p0 (by omega) (by omega) (by decide) (okOne (by decide) (by decide)) []
   rw [each_read (by decide) p0 (by omega) rdW rfl] at hu
   rw [<- hc,<- hc2] at hu
   show zC (q15_ (vS.2.2.2,cvt .i64 p,cvt .i64 (n:Int),())) (fun y=>q10_ (!y.1) (4,p,(n:Int),0,[],[]) vS (4,0))=_
   refine (congrArg (fun z=>zC z _) hu).trans ?_
   rw [zD,K1b _ _ rfl,hc,hc2]
   rfl
 | coil p b =>
  have p0:0≤p:=p0
  have p1:p≤65535:=p1
  have hw:=tab_bw (l:=[(0,16,true,true,false)]) (p:=p) (m:=1) p0 (by omega) (by omega) (by decide) (okOne (by decide) (by decide)) []
  rw [each_read (by decide) p0 (by omega) _ rfl] at hw
  show q10_ false (5,p,0,0,[],[b]) vS (0,1)=_
  rw [K1,if_pos (by decide)]
  refine (congrArg (fun z=>zC z _) hw).trans ?_
  rw [zD,K2]
  rfl
 | word p x =>
  have p0:0≤p:=p0
  have p1:p≤65535:=p1
  have hw:=tab_uw (l:=SPH) (p:=p) (m:=1) p0 (by omega) (by omega) (by decide) okSPH []
  rw [wrH_eq (by omega)] at hw
  show q10_ false (6,p,0,0,[x],[]) vS (0,3)=_
  rw [K1,if_neg (by decide),if_neg (by decide),if_pos (by decide)]
  refine (congrArg (fun z=>zC z _) hw).trans ?_
  rw [zD,K2]
  rfl
 | coils p l h1 h2 =>
  have p0:0≤p:=p0
  have p1:p≤65535:=p1
  have hw:=tab_bw (l:=[(0,16,true,true,false)]) (p:=p) (m:=l.length) p0 (by omega) (by omega) (by decide) (okOne (by decide) (by decide)) []
  rw [each_read (by decide) p0 (by omega) _ rfl] at hw
  show q10_ false (15,p,(l.length:Int),0,[],l) vS (0,1)=_
  rw [K1,if_pos (by decide)]
  refine (congrArg (fun z=>zC z _) hw).trans ?_
  rw [zD,K2]
  rfl
 | regs p l h1 h2 =>
  have p0:0≤p:=p0
  have p1:p≤65535:=p1
  have hw:=tab_uw (l:=SPH) (p:=p) (m:=l.length) p0 (by omega) (by omega) (by decide) okSPH []
  rw [wrH_eq (by omega)] at hw
  show q10_ false (16,p,(l.length:Int),0,l,[]) vS (0,3)=_
  rw [K1,if_neg (by decide),if_neg (by decide),if_pos (by decide)]
  have e:((([]:List Bool).length + l.length:Nat):Int)=(l.length:Int):=by simp
  show zC (qy_ (vS.2.2.1,p,((([]:List Bool).length + l.length:Nat):Int),())) _=_
  rw [e]
  refine (congrArg (fun z=>zC z _) hw).trans ?_
  rw [zD,K2]
  rfl
 | swap p n t l h1 h2 h3 h4 =>
  obtain ⟨n,rfl⟩:=zN (show 0≤n by omega)
  have p0:0≤p:=p0
  have p1:p≤65535:=p1
  have t0:0≤t:=t0
  have t1:t≤65535:=t1
  have hc:cvt .i64 p=p:=cvt64 (by omega) (by omega)
  have hc2:cvt .i64 (n:Int)=n:=cvt64 (by omega) (by omega)
  have hu:=tab_ur (l:=SPH) (p:=p) (m:=n) p0 (by omega) (by omega) (by decide) okSPH []
  rw [<- hc,<- hc2] at hu
  have hw:=tab_uw (l:=SPH) (p:=t) (m:=l.length) t0 (by omega) (by omega) (by decide) okSPH []
  rw [wrH_eq (by omega)] at hw
  show zC (q15_ (vS.2.2.1,cvt .i64 p,cvt .i64 (n:Int),())) (fun y=>q10_ (!y.1) (23,p,(n:Int),t,l,[]) vS (3,3))=_
  refine (congrArg (fun z=>zC z _) hu).trans ?_
  rw [zD,hc]
  show q10_ (!rdH p n) (23,p,(n:Int),t,l,[]) vS (3,3)=some (if (rdH p n && decide (t=272∧l.length=8∨t=288∧l.length=20))=true then 0 else 2,())
  cases rdH p n with
  | false=>rfl
  | true =>
   rw [Bool.true_and]
   show q10_ false _ vS (3,3)=_
   rw [K1,if_neg (by decide),if_neg (by decide),if_pos (by decide)]
   have e:((([]:List Bool).length + l.length:Nat):Int)=(l.length:Int):=by simp
   show zC (qy_ (vS.2.2.1,t,((([]:List Bool).length + l.length:Nat):Int),())) _=_
   rw [e]
   refine (congrArg (fun z=>zC z _) hw).trans ?_
   grind
theorem uread_eq {h:List Int} {p n:Int} (hp:0≤p) (hn:0≤n) (hh:h.length≤100000) (hle:p + n≤h.length) (l:List TArea):q5k_ ((l,h),p,n,1,())=some ((h.drop p.toNat).take n.toNat,()):=by
 obtain ⟨p,rfl⟩:=zN hp
 obtain ⟨n,rfl⟩:=zN hn
 have e1:mul .i64 (quo .i64 (sub .i64 (add .i64 (n:Int) 1) 1) 1) 1=(n:Int):=by
  rw [qv_ (by omega),sub64 (by omega) (by omega),show (((n + 1:Nat):Int) - 1)=(n:Int) by omega]
  have:=quo_nat (i:=n) (d:=1) (by omega)
  rw [Nat.div_one] at this
  rw [show (1:Int)=((1:Nat):Int) from rfl,this,mul64 (by omega) (by omega)]
  omega
 show q74_ (l,h) (p:Int) (n:Int) 1=_
 unfold q74_
 rw [e1,q9_ (by decide),q9_ (qs_.2 (by omega)),q9_ (capOk_sf _),zQ,qe_ (by omega),addn64 (by omega)]
 dsimp only
 rw [cut_nat (by omega) (by omega),zD,kD,q9_ (qo_.2 (by simp))]
 grind [List.length_drop,kB,List.drop_take,List.drop,zE,Int,List.drop_of_length_le,kD,q2_,zQ]
theorem wrong_eq (f e:Int):qi_ (f,e,())=some ((rem f 128,e,[],[],0,0),()):=rfl
theorem right_f {a:TA} (hr:qm_ a=true):1≤a.1∧a.1 < 128:=by
 cases q1q_ hr with
 | bits f p n hf=>omega
 | words f p n hf=>omega
 | coil p b=>omega
 | word p x=>omega
 | coils p l=>omega
 | regs p l=>omega
 | swap p n t l=>omega
structure Rep (r:TR):Prop where
 ok:OkR r
 rr:RR r
 rt:rightR r=true
theorem rep_wrong {f e:Int} (h0:0≤f) (h1:f < 128) (h2:1≤e) (h3:e≤4):Rep (f,e,[],[],0,0):=by
 refine ⟨⟨h0,by show f≤255; omega,by show 0≤e; omega,by show e≤255; omega,(fun x hx=>by cases hx),(by decide:(0:Int)≤0),(by decide:(0:Int)≤65535),(by decide:(0:Int)≤0),(by decide:(0:Int)≤65535),Nat.zero_le _,Nat.zero_le _⟩,.ex f e h0 h1 h2 h3,?_⟩
 unfold rightR
 rw [if_pos (by rw [qd_]; show e ≠ 0; omega)]
 unfold exR
 dsimp only
 rw [rem128 h0 h1,decide_eq_true h1,decide_eq_true h2,decide_eq_true h3,decide_eq_true rfl]
 rfl
theorem rep_sm {r:TR} (h:Rep r):SmR r:=by
 cases h.rr <;> exact ⟨by simp <;> omega,by simp <;> omega⟩
theorem rep_bytes {r:TR} (h:Rep r):qj4_ (r,())=some (repB r,0,()):=by rw [rbytes_eq (rep_sm h),if_pos h.rt]
theorem rep_parse {r:TR} (h:Rep r):q67_ (repB r,())=some (r,0,()):=by rw [parse_eq,rparse_back h.ok h.rr h.rt]
abbrev TMem:=List Bool×List Bool×List Int×List Int
structure OkS (s:TSl):Prop where
 u:1≤s.1∧s.1≤247
 l:s.2.1=1∨s.2.1=2
 a:OkG s.2.2.1
 c:s.2.2.2.length=16
def cpy {α:Type} (b:List α) (p:Nat) (w:List α):List α:=b.take p++w++b.drop (p + w.length)
theorem cpy_len {α:Type} {b w:List α} {p:Nat} (h:p + w.length≤b.length):(cpy b p w).length=b.length:=by
 grind [cpy,zZ,kB,List.length_drop]
theorem cpy_in {α:Type} {b w:List α} {p:Nat} (h:p + w.length≤b.length):((cpy b p w).drop p).take w.length=w:=by
 have lp:(b.take p).length=p:=by rw [kB]; omega
 unfold cpy
 rw [List.append_assoc,List.drop_left' lp,List.take_left' rfl]
theorem cpy_get {α:Type} {b w:List α} {p i:Nat} (h:p + w.length≤b.length):(cpy b p w)[i]? = if p≤i∧i < p + w.length then w[i - p]? else b[i]?:=by
 have lp:(b.take p).length=p:=by grind
 unfold cpy
 grind
theorem cpy_out {α:Type} {b w:List α} {p q n:Nat} (h:p + w.length≤b.length) (hd:p + w.length≤q∨q + n≤p):((cpy b p w).drop q).take n=(b.drop q).take n:=by
 apply List.ext_getElem?
 intro i
 by_cases hi:i < n
 ·rw [List.getElem?_take_of_lt hi,List.getElem?_take_of_lt hi,List.getElem?_drop,List.getElem?_drop,cpy_get h,if_neg (by omega)]
 grind
theorem cpy_rng {α:Type} {b w:List α} {p:Nat} {P:α->Prop} (hb:∀ y ∈ b,P y) (hx:∀ y ∈ w,P y):∀ y ∈ cpy b p w,P y:=by
 grind [cpy,List.mem_of_mem_take,List.mem_of_mem_drop]
theorem cpy_code {α:Type} {b w:List α} {p m:Nat} (hm:w.length≤m):b.take p++w.take m++b.drop (p + (w.take m).length)=cpy b p w:=by
 rw [List.take_of_length_le hm]
 rfl
def holdS (a:TAg):List Int:=(List.range 8).foldl (fun h b=>cpy h (512 + b * 32) (backS a.2.2.2.2.2.1 a.2.1.1 (b:Int))) (cpy (cpy (zE 756 0) 0 a.1) 256 (statA a))
def inpS (a:TAg):List Bool:=((((zE 8 false).set a.2.2.1.toNat true).set 4 (decide (a.2.1.1 ≠ 0))).set 5 (decide (true ∈ a.2.2.2.2.2.1.2.1)))
def memS (s:TSl):TMem:=(s.2.2.2,inpS s.2.2.1,holdS s.2.2.1,statA s.2.2.1)
theorem backS_len {s:TStg} {o n:Int}:(backS s o n).length=20:=by
 grind [backS,tagB_len]
theorem holdP_len {a:TAg} (h:OkG a):∀ k:Nat,k≤8->((List.range k).foldl (fun h b=>cpy h (512 + b * 32) (backS a.2.2.2.2.2.1 a.2.1.1 (b:Int))) (cpy (cpy (zE 756 0) 0 a.1) 256 (statA a))).length=756
 | 0,_=>by
  have h64:=h.bl
  rw [List.range_zero,List.foldl_nil]
  have e1:(cpy (zE 756 (0:Int)) 0 a.1).length=756:=by rw [cpy_len (by rw [kD]; omega),kD]
  rw [cpy_len (by rw [e1]; show 256 + 8≤756; omega),e1]
 | k + 1,hk=>by
  have ih:=holdP_len h k (by omega)
  rw [List.range_succ,List.foldl_append,List.foldl_cons,List.foldl_nil,cpy_len (by rw [ih,backS_len]; omega),ih]
theorem holdS_len {a:TAg} (h:OkG a):(holdS a).length=756:=holdP_len h 8 (by omega)
theorem inpS_len (a:TAg):(inpS a).length=8:=by
 simp_all [inpS,List.length_set,kD]
set_option maxHeartbeats 1000000 in
theorem mem_eq {s:TSl} (h:OkS s):q3g_ (s,())=some (memS s,()):=by
 have ha:=h.a
 have hst:=astatus_eq ha
 have hfr:=lfree_eq ha.lr
 have hco:=contains_eq (s:=s.2.2.1.2.2.2.2.2.1.2.1) true (by have:=ha.hl; omega)
 have pr:=ha.pr
 have h64:=ha.bl
 have hh8:=ha.hl
 have h16:=h.c
 show qpy_ qxz_ s=_
 unfold qpy_
 simp only [hst,zD,amb2 (eqAs_refl q3_.rs),amb3 (eqAs_refl q3_.rs)]
 show qo1_ qxy_ s (statA s.2.2.1) (zE 16 false) (zE 8 false) (zE 756 0)=_
 unfold qo1_
 obtain ⟨ph,hph⟩:=zN pr.1
 have hin:(zE 8 false)[ph]? = some false:=by grind
 have hcoil:List.take (zI (zF (zE 16 false).length)) s.2.2.2++List.drop (0 + (List.take (zI (zF (zE 16 false).length)) s.2.2.2).length) (zE 16 false)=s.2.2.2:=by
  grind
 rw [q9_ (qo_.2 (by simp)),if_pos (qo_.2 pr.2),hph,qf_ hin,zD,zD,hcoil,zQ]
 show qp7_ qcl_ s (statA s.2.2.1) s.2.2.2 ((zE 8 false).set ph true) (zE 756 0)=_
 unfold qp7_
 have h4:∃ x,((zE 8 false).set ph true)[4]? = some x:=get_of (by simp)
 obtain ⟨x4,h4⟩:=h4
 have t8:List.take 8 (List.drop 0 s.2.2.1.2.2.2.2.2.1.2.1)=s.2.2.1.2.2.2.2.2.1.2.1:=by grind
 rw [hfr,zD,show at? ((zE 8 false).set ph true) 4=some x4 from qf_ h4,zD,zD,t8,hco,zD]
 dsimp only
 generalize hy:(!decide (s.2.2.1.2.1.1=0))=y4
 have h5:∃ x,(((zE 8 false).set ph true).set 4 y4)[5]? = some x:=get_of (by simp)
 obtain ⟨x5,h5⟩:=h5
 rw [show at? (((zE 8 false).set ph true).set 4 y4) 5=some x5 from qf_ h5,zD,zD]
 have c64:List.take 64 s.2.2.1.1++List.drop (0 + (List.take 64 s.2.2.1.1).length) (zE 756 (0:Int))=cpy (zE 756 0) 0 s.2.2.1.1:=cpy_code (p:=0) (b:=zE 756 (0:Int)) (by omega)
 have l64:(cpy (zE 756 (0:Int)) 0 s.2.2.1.1).length=756:=by grind
 rw [c64,l64]
 have l8:(statA s.2.2.1).length=8:=rfl
 have cst:List.take 256 (cpy (zE 756 0) 0 s.2.2.1.1)++List.take (zI (zF 756 - 256)) (statA s.2.2.1)++List.drop (256 + (List.take (zI (zF 756 - 256)) (statA s.2.2.1)).length) (cpy (zE 756 0) 0 s.2.2.1.1)=cpy (cpy (zE 756 0) 0 s.2.2.1.1) 256 (statA s.2.2.1):=cpy_code (by simp_all)
 rw [cst]
 rw [q9_ (by decide),q9_ (by decide),q9_ (by decide),q9_ (by decide),q9_ (by decide),q9_ (by decide)]
 show qcl_ s 0 (statA s.2.2.1) s.2.2.2 _ _=_
 have hinp:((((zE 8 false).set ph true).set 4 y4).set 5 (decide (true ∈ s.2.2.1.2.2.2.2.2.1.2.1)))=inpS s.2.2.1:=by
  simp_all [inpS,zQ,decide_eq_true,decide_eq_false]
 rw [hinp]
 unfold memS holdS
 unfold qcl_
 refine loop_dt (N:=8) (mk:=fun i=>(s,(i:Int),statA s.2.2.1,s.2.2.2,inpS s.2.2.1,(List.range i).foldl (fun h b=>cpy h (512 + b * 32) (backS s.2.2.1.2.2.2.2.2.1 s.2.2.1.2.1.1 (b:Int))) (cpy (cpy (zE 756 0) 0 s.2.2.1.1) 256 (statA s.2.2.1)))) ?_ ?_ 8 0 _ (by omega) (by omega)
 ·intro self i hi
  have hlen:=holdP_len ha i (by omega)
  have hsucc:(List.range (i + 1)).foldl (fun h b=>cpy h (512 + b * 32) (backS s.2.2.1.2.2.2.2.2.1 s.2.2.1.2.1.1 (b:Int))) (cpy (cpy (zE 756 0) 0 s.2.2.1.1) 256 (statA s.2.2.1))=cpy ((List.range i).foldl (fun h b=>cpy h (512 + b * 32) (backS s.2.2.1.2.2.2.2.2.1 s.2.2.1.2.1.1 (b:Int))) (cpy (cpy (zE 756 0) 0 s.2.2.1.1) 256 (statA s.2.2.1))) (512 + i * 32) (backS s.2.2.1.2.2.2.2.2.1 s.2.2.1.2.1.1 (i:Int)):=by
   simp_all [List.range_succ,List.foldl_append]
  rw [hsucc]
  generalize (List.range i).foldl (fun h b=>cpy h (512 + b * 32) (backS s.2.2.1.2.2.2.2.2.1 s.2.2.1.2.1.1 (b:Int))) (cpy (cpy (zE 756 0) 0 s.2.2.1.1) 256 (statA s.2.2.1))=hd at hlen
  show qoj_ _ s (i:Int) (statA s.2.2.1) s.2.2.2 (inpS s.2.2.1) hd=_
  unfold qoj_
  have e1:mul .i64 (i:Int) 32=((i * 32:Nat):Int):=by grind [mul64]
  have e2:add .i64 512 ((i * 32:Nat):Int)=((512 + i * 32:Nat):Int):=addn64 (n:=512) (by omega)
  have hbk:=back_eq (s:=s.2.2.1.2.2.2.2.2.1) (o:=s.2.2.1.2.1.1) (n:=(i:Int))
  have hstx:0≤s.2.2.1.2.2.2.2.2.1.1∧s.2.2.1.2.2.2.2.2.1.1≤4294967295:=by
   by_cases e:s.2.2.1.2.2.1=0
   ·have:=(ha.p0 e).2.2.1; omega
   ·have:=(ha.pn e).2.2; have:=ha.tr; omega
  have hbk:=hbk hstx.1 hstx.2 ⟨by omega,by omega⟩ ha.hl ha.sl ha.bb
  rw [if_pos (q5_.2 (by omega)),e1,e2,q9_ (qs_.2 (by omega)),q9_ (qo_.2 (by grind)),q9_ (qo_.2 (Int.le_refl _)),show at? (statA s.2.2.1) 0=some s.2.2.1.2.1.1 from rfl,zD,hbk,zD,q9_ (qo_.2 (by omega)),qv_ (by omega),zQ]
  dsimp only
  rw [cpy_code (by rw [backS_len,q2_,hlen]; omega)]
 ·intro self
  rfl
def rgtT (n:Int) (fixed:Bool):Int->List TArea->Bool
 | _,[]=>true
 | e,x::r=>if x.1 < e∨n < x.1∨x.2.1 < 1∨n - x.1 < x.2.1∨(fixed=true∧x.2.2.2.1=true) then false else rgtT n fixed (x.1 + x.2.1) r
theorem goL_rgt (n:Int) (fixed:Bool):∀ (l:List TArea) (e:Int),goL (R:=Bool×Unit) (fun (e:Int) (x:TArea) k=>if x.1 < e∨n < x.1∨x.2.1 < 1∨n - x.1 < x.2.1∨(fixed=true∧x.2.2.2.1=true) then some (false,()) else k (x.1 + x.2.1)) (fun _=>some (true,())) l e=some (rgtT n fixed e l,())
 | [],_=>rfl
 | x::r,e=>by
  show (if _ then _ else goL _ _ r _)=_
  rw [goL_rgt n fixed r,rgtT]
  split <;> rfl
theorem ur_right {l:List TArea} {h:List Int} {fixed:Bool} (ho:∀ x ∈ l,OkAr x) (hp:∀ x ∈ l,0≤x.1) (hh:h.length≤65536) (hl:l.length≤1000):q3h_ ((l,h),fixed,())=some (rgtT h.length fixed 0 l,()):=by
 show q3x_ q1u_ (l,h) fixed=_
 unfold q3x_
 rw [if_neg (fun e=>by grind [q21_,q2_])]
 show q1u_ fixed 0 l (zF l.length) 0 (l,h)=_
 rw [<- goL_rgt]
 unfold q1u_
 refine loop_go (xs:=l) (mk:=fun i e=>(fixed,e,l,zF l.length,(i:Int),(l,h))) ?_ ?_ l.length 0 0 _ (by omega) (by omega)
 ·intro self i e x hx
  have hi:=(List.getElem?_eq_some_iff.1 hx).1
  have hm:=zY hx
  have o:=ho x hm
  have p:=hp x hm
  unfold OkAr at o
  show q2o_ _ _ fixed e l (zF l.length) (i:Int) (l,h)=_
  unfold q2o_
  rw [if_pos (by grind [q5_,q2_]),qf_ hx,zD]
  dsimp only
  have K3:∀ t,q3y_ (fun fixed endV t13 t14 t15 t=>self (fixed,endV,t13,t14,t15,t)) fixed l (zF l.length) (i:Int) t (l,h) x=if t=true then some (false,()) else self (fixed,add .i64 x.1 x.2.1,l,zF l.length,((i + 1:Nat):Int),(l,h)):=fun t=>by
   unfold q3y_ q6o_
   rw [qv_ (by omega)]
  have K2:∀ t,q3w_ (fun fixed endV t13 t14 t15 t=>self (fixed,endV,t13,t14,t15,t)) fixed l (zF l.length) (i:Int) t (l,h) x=if t=true∨(fixed=true∧x.2.2.2.1=true) then some (false,()) else self (fixed,add .i64 x.1 x.2.1,l,zF l.length,((i + 1:Nat):Int),(l,h)):=fun t=>by
   unfold q3w_ q6j_
   rw [K3,K3]
   cases t <;> cases fixed <;> simp
  rw [K2,K2]
  simp only [true_or,if_true]
  rw [lt_dec,gt_dec,lt_dec,gt_dec,q2_]
  by_cases q1:x.1 < e
  ·simp_all
  ·rw [if_neg (by simp_all)]
   by_cases q2:(h.length:Int) < x.1
   ·simp_all
   ·rw [if_neg (by simp_all)]
    by_cases q3:x.2.1 < 1
    ·simp_all
    ·rw [if_neg (by simp_all),sub64 (by omega) (by omega)]
     by_cases q4:(h.length:Int) - x.1 < x.2.1
     ·simp_all
     ·rw [add64 (by omega) (by omega)]
      grind
 simp_all [q2o_,zF,Int,if_neg,q5_,q2_]
theorem br_right {l:List TArea} {h:List Bool} {fixed:Bool} (ho:∀ x ∈ l,OkAr x) (hp:∀ x ∈ l,0≤x.1) (hh:h.length≤65536) (hl:l.length≤1000):q45_ ((l,h),fixed,())=some (rgtT h.length fixed 0 l,()):=by
 show q4t_ q2d_ (l,h) fixed=_
 unfold q4t_
 rw [if_neg (fun e=>by grind [q21_,q2_])]
 show q2d_ fixed 0 l (zF l.length) 0 (l,h)=_
 rw [<- goL_rgt]
 unfold q2d_
 refine loop_go (xs:=l) (mk:=fun i e=>(fixed,e,l,zF l.length,(i:Int),(l,h))) ?_ ?_ l.length 0 0 _ (by omega) (by omega)
 ·intro self i e x hx
  have hi:=(List.getElem?_eq_some_iff.1 hx).1
  have hm:=zY hx
  have o:=ho x hm
  have p:=hp x hm
  unfold OkAr at o
  show q2z_ _ _ fixed e l (zF l.length) (i:Int) (l,h)=_
  unfold q2z_
  rw [if_pos (by grind [q5_,q2_]),qf_ hx,zD]
  dsimp only
  have K3:∀ t,q4s_ (fun fixed endV t13 t14 t15 t=>self (fixed,endV,t13,t14,t15,t)) fixed l (zF l.length) (i:Int) t (l,h) x=if t=true then some (false,()) else self (fixed,add .i64 x.1 x.2.1,l,zF l.length,((i + 1:Nat):Int),(l,h)):=fun t=>by
   unfold q4s_ q7i_
   rw [qv_ (by omega)]
  have K2:∀ t,q4u_ (fun fixed endV t13 t14 t15 t=>self (fixed,endV,t13,t14,t15,t)) fixed l (zF l.length) (i:Int) t (l,h) x=if t=true∨(fixed=true∧x.2.2.2.1=true) then some (false,()) else self (fixed,add .i64 x.1 x.2.1,l,zF l.length,((i + 1:Nat):Int),(l,h)):=fun t=>by
   unfold q4u_ q7n_
   rw [K3,K3]
   cases t <;> cases fixed <;> simp
  rw [K2,K2]
  simp only [true_or,if_true]
  rw [lt_dec,gt_dec,lt_dec,gt_dec,q2_]
  by_cases q1:x.1 < e
  ·simp_all
  ·rw [if_neg (by simp_all)]
   by_cases q2:(h.length:Int) < x.1
   ·simp_all
   ·rw [if_neg (by simp_all)]
    by_cases q3:x.2.1 < 1
    ·simp_all
    ·rw [if_neg (by simp_all),sub64 (by omega) (by omega)]
     by_cases q4:(h.length:Int) - x.1 < x.2.1
     ·simp_all
     ·rw [add64 (by omega) (by omega)]
      grind
 simp_all [q2z_,zF,Int,if_neg,q5_,q2_]
structure SzM (m:TMem):Prop where
 c:m.1.length=16
 i:m.2.1.length=8
 h:m.2.2.1.length=756
 w:m.2.2.2.length=8
theorem memS_sz {s:TSl} (h:OkS s):SzM (memS s):=⟨h.c,inpS_len _,holdS_len h.a,rfl⟩
theorem posOne {k:Int} {r w h:Bool}:∀ x ∈ [((0:Int),k,r,w,h)],0≤x.1:=fun x hx=>by
 simp_all
theorem posSPH:∀ x ∈ SPH,0≤x.1:=by decide
theorem mright_eq {m:TMem} (h:SzM m):qtm_ (SP,m,())=some (true,()):=by
 obtain ⟨c,i,hd,w⟩:=m
 have hc:c.length=16:=h.c
 have hi:i.length=8:=h.i
 have hh:hd.length=756:=h.h
 have hw:w.length=8:=h.w
 show qqs_ SP (c,i,hd,w)=_
 unfold qqs_
 have ho:qia_ (SP,(c,i,hd,w),())=some ((([(0,16,true,true,false)],c),([(0,8,true,false,false)],i),(SPH,hd),[(0,8,true,false,false)],w),()):=rfl
 rw [ho,zD]
 dsimp only
 rw [br_right (okOne (by decide) (by decide)) posOne (by omega) (by decide),zD,hc,if_pos (by decide),br_right (okOne (by decide) (by decide)) posOne (by omega) (by decide),zD,hi,if_pos (by decide),ur_right okSPH posSPH (by omega) (by decide),zD,hh,if_pos (by decide),ur_right (okOne (by decide) (by decide)) posOne (by omega) (by decide),hw]
 rfl
def rdBits (c:List Bool) (p n:Nat):List Bool:=(c.drop p).take n++zE ((n + 7) / 8 * 8 - n) false
theorem bread_eq {c:List Bool} {p n:Int} (hp:0≤p) (hn:0≤n) (hh:c.length≤100000) (hle:p + n≤c.length) (l:List TArea):q6y_ ((l,c),p,n,8,())=some (rdBits c p.toNat n.toNat,()):=by
 obtain ⟨p,rfl⟩:=zN hp
 obtain ⟨n,rfl⟩:=zN hn
 have e1:mul .i64 (quo .i64 (sub .i64 (add .i64 (n:Int) 8) 1) 8) 8=(((n + 7) / 8 * 8:Nat):Int):=by
  have e0:add .i64 (n:Int) 8=((n + 8:Nat):Int):=addn64 (m:=8) (by omega)
  rw [e0,sub64 (by omega) (by omega),show (((n + 8:Nat):Int) - 1)=((n + 7:Nat):Int) by omega]
  have:=quo_nat (i:=n + 7) (d:=8) (by omega)
  rw [show (8:Int)=((8:Nat):Int) from rfl,this,mul64 (by omega) (by omega)]
  omega
 show q8w_ (l,c) (p:Int) (n:Int) 8=_
 unfold q8w_
 rw [e1,q9_ (by decide),q9_ (qs_.2 (by omega)),q9_ (capOk_sf _),zQ,qe_ (by omega),addn64 (by omega)]
 dsimp only
 rw [cut_nat (by omega) (by omega),zD,kD,q9_ (qo_.2 (by simp))]
 have hlen:((c.take (p + n)).drop p).length=n:=by grind
 have ht:((c.take (p + n)).drop p)=(c.drop p).take n:=by grind
 rw [q2_,zQ,List.take_of_length_le (show ((c.take (p + n)).drop p).length≤(n + 7) / 8 * 8 by omega),hlen,List.drop_replicate,ht]
 simp_all [rdBits,zQ,Nat.zero_add]
def isE (f:Int):Bool:=decide (f=5∨f=6∨f=15∨f=16)
def echoR (a:TA):TR:=if a.1=5 then (5,0,[a.2.2.2.2.2.headD false],[],a.2.1,0) else if a.1=6 then (6,0,[],[a.2.2.2.2.1.headD 0],a.2.1,0) else (a.1,0,[],[],a.2.1,a.2.2.1)
theorem secho_eq {a:TA} (h:OkA a) (hr:qm_ a=true):q49_ (a,())=some (if isE a.1=true then echoR a else zR,isE a.1,()):=by
 show q9t_ qec_ qkx_ a=_
 unfold q9t_
 rw [right_eq h,hr,zD,if_neg (by decide)]
 cases q1q_ hr with
 | bits f p n hf h1 h2=>rcases hf with rfl | rfl <;> rfl
 | words f p n hf h1 h2=>rcases hf with rfl | rfl <;> rfl
 | coil p b=>rfl
 | word p x=>rfl
 | coils p l h1 h2=>rfl
 | regs p l h1 h2=>rfl
 | swap p n t l h1 h2 h3 h4=>rfl
def ansR (m:TMem) (a:TA):TR :=
 if a.1=1 then (a.1,0,rdBits m.1 a.2.1.toNat a.2.2.1.toNat,[],0,0)
 else if a.1=2 then (a.1,0,rdBits m.2.1 a.2.1.toNat a.2.2.1.toNat,[],0,0)
 else if a.1=4 then (a.1,0,[],(m.2.2.2.drop a.2.1.toNat).take a.2.2.1.toNat,0,0)
 else (a.1,0,[],(m.2.2.1.drop a.2.1.toNat).take a.2.2.1.toNat,0,0)
def wrM (m:TMem) (a:TA):TMem :=
 if a.1=5∨a.1=15 then (cpy m.1 a.2.1.toNat a.2.2.2.2.2,m.2)
 else if a.1=16 then (m.1,m.2.1,cpy m.2.2.1 a.2.1.toNat a.2.2.2.2.1,m.2.2.2)
 else if a.1=23 then (m.1,m.2.1,cpy m.2.2.1 a.2.2.2.1.toNat a.2.2.2.2.1,m.2.2.2)
 else m
def doM (m:TMem) (a:TA):TMem×TR:=if chkS a=true then (wrM m a,if isE a.1=true then echoR a else ansR (wrM m a) a) else (m,(a.1,2,[],[],0,0))
theorem cloneBr_eq {s:List Bool} (h:s.length≤1000000):q2q_ (s,())=some (s,()):=by
 show q9f_ s=_
 unfold q9f_
 by_cases h0:s.length=0
 ·have:s=[]:=List.eq_nil_of_length_eq_zero h0
  subst this
  rfl
 ·rw [if_neg (by grind [q4_,q2_]),qe_ (by omega)]
theorem mdo_K1 (a:TA) (m:TMem) (u:Int×Int):qjm_ a 0 0 0 0 m.1 m.2.1 m.2.2.1 m.2.2.2 SP.1 SP.2.1 SP.2.2.1 SP.2.2.2 u=zC (q49_ (a,())) fun y=>if y.2.1=true then some (m,y.1,()) else zC (q5o_ (((SP.1,m.1),(SP.2.1,m.2.1),(SP.2.2.1,m.2.2.1),SP.2.2.2,m.2.2.2),u.1,a,())) fun y=>some (m,y.1,()):=rfl
theorem wrM_sz {m:TMem} (h:SzM m) {a:TA} (ha:OkA a) (hr:qm_ a=true) (hc:chkS a=true):SzM (wrM m a):=by
 have p0:=ha.at0
 have t0:=ha.t0
 unfold wrM
 unfold chkS at hc
 split
 ·rename_i q
  rw [if_neg (by omega),if_neg (by omega),if_neg (by omega),if_pos q,decide_eq_true_eq] at hc
  exact ⟨by rw [cpy_len (by have:=h.c; omega)]; exact h.c,h.i,h.h,h.w⟩
 ·rename_i q
  split
  ·rename_i q2
   rw [if_neg (by omega),if_neg (by omega),if_neg (by omega),if_neg q,if_neg (by omega),decide_eq_true_eq] at hc
   exact ⟨h.c,h.i,by show (cpy _ _ _).length=756; rw [cpy_len (by have:=h.h; omega)]; exact h.h,h.w⟩
  ·rename_i q2
   split
   ·rename_i q3
    rw [if_neg (by omega),if_neg (by omega),if_neg (by omega),if_neg q,if_pos q3,zO,decide_eq_true_eq] at hc
    exact ⟨h.c,h.i,by show (cpy _ _ _).length=756; rw [cpy_len (by have:=h.h; omega)]; exact h.h,h.w⟩
   omega
theorem answer_eq {m:TMem} (h:SzM m) {a:TA} (ha:OkA a) (hr:qm_ a=true) (hc:chkS a=true) (he:isE a.1=false) (k:Int) (hk:k=(if a.1=1 then 1 else if a.1=2 then 2 else if a.1=4 then 4 else 3)) :
  q5o_ (((SP.1,m.1),(SP.2.1,m.2.1),(SP.2.2.1,m.2.2.1),SP.2.2.2,m.2.2.2),k,a,())=some (ansR m a,()):=by
 have p0:=ha.at0
 have p1:=ha.at1
 have m0:=ha.m0
 have m1:=ha.m1
 have hcp:cvt .i64 a.2.1=a.2.1:=cvt64 (by omega) (by omega)
 have hcn:cvt .i64 a.2.2.1=a.2.2.1:=cvt64 (by omega) (by omega)
 have h1:=h.c
 have h2:=h.i
 have h3:=h.h
 have h4:=h.w
 have hn:1≤a.2.2.1∨isE a.1=true:=by
  cases q1q_ hr with
  | bits f p n hf h1 h2=>simp_all
  | words f p n hf h1 h2=>simp_all
  | coil p b=>exact Or.inr rfl
  | word p x=>exact Or.inr rfl
  | coils p l h1 h2=>grind
  | regs p l h1 h2=>grind
  | swap p n t l g1 g2 g3 g4=>simp_all
 have hn1:1≤a.2.2.1:=by simp_all
 show qap_ _ k a=_
 unfold qap_
 unfold chkS at hc
 unfold ansR
 rw [hcp,hcn]
 by_cases q1:a.1=1
 ·rw [if_pos q1] at hk hc
  rw [decide_eq_true_eq] at hc
  subst hk
  rw [if_pos (by rfl),if_pos q1]
  grind [bread_eq]
 ·rw [if_neg q1] at hk hc
  by_cases q2:a.1=2
  ·rw [if_pos q2] at hk
   rw [if_pos (Or.inl q2),decide_eq_true_eq] at hc
   subst hk
   rw [if_neg (by decide),if_pos (by rfl),if_neg q1,if_pos q2]
   grind [bread_eq]
  ·rw [if_neg q2] at hk
   by_cases q4:a.1=4
   ·rw [if_pos q4] at hk
    rw [if_pos (Or.inr q4),decide_eq_true_eq] at hc
    subst hk
    rw [if_neg (by decide),if_neg (by decide),if_neg (by decide),if_pos (by rfl),if_neg q1,if_neg q2,if_pos q4]
    grind [uread_eq]
   ·rw [if_neg q4] at hk
    rw [if_neg (by omega)] at hc
    subst hk
    rw [if_neg (by decide),if_neg (by decide),if_pos (by rfl),if_neg q1,if_neg q2,if_neg q4]
    have hle:rdH a.2.1 a.2.2.1.toNat=true:=by
     by_cases q3:a.1=3
     ·simp_all
     ·rw [if_neg q3] at hc
      by_cases q5:a.1=5∨a.1=15
      ·simp_all [absurd,decide_eq_true,isE]
      ·rw [if_neg q5] at hc
       by_cases q6:a.1=23
       ·simp_all
       ·exfalso
        have:a.1=6∨a.1=16:=by
         cases q1q_ hr with
         | bits f p n hf=>omega
         | words f p n hf=>omega
         | coil p b=>omega
         | word p x=>omega
         | coils p l=>omega
         | regs p l=>omega
         | swap p n t l=>omega
        simp_all [absurd,decide_eq_true,isE]
    have:=rdH_le (by omega) hle
    grind [uread_eq]
theorem mdo_eq {m:TMem} (h:SzM m) {a:TA} (ha:OkA a) (hr:qm_ a=true):q1j_ (SP,m,a,())=some ((doM m a).1,(doM m a).2,()):=by
 have hf:=right_f hr
 have h1:=h.c
 have h2:=h.i
 have h3:=h.h
 have h4:=h.w
 have p0:=ha.at0
 have t0:=ha.t0
 have lw:=ha.lw
 have lb:=ha.lb
 show qse_ qjm_ SP m a=_
 unfold qse_
 rw [cloneBr_eq (by omega),zD,cloneBr_eq (by omega),zD,cloneWr_eq (by omega),zD,cloneWr_eq (by omega),zD,check_eq ha hr,zD]
 dsimp only
 unfold doM
 cases hc:chkS a with
 | false =>
  simp only [Bool.false_eq_true,if_false]
  rw [if_pos (show nei 2 0=true by decide),wrong_eq,zD,rem128 (by omega) hf.2]
 | true =>
  rw [if_pos rfl,if_neg (by decide),mright_eq h,zD,if_neg (by decide),uses_eq,zD,target_eq ha,zD,if_pos rfl]
  have hsz:=wrM_sz h ha hr hc
  have fin:∀ k:Int×Int,(isE a.1=false->k.1=(if a.1=1 then 1 else if a.1=2 then 2 else if a.1=4 then 4 else 3))->qjm_ a 0 0 0 0 (wrM m a).1 (wrM m a).2.1 (wrM m a).2.2.1 (wrM m a).2.2.2 SP.1 SP.2.1 SP.2.2.1 SP.2.2.2 k=some (wrM m a,if isE a.1=true then echoR a else ansR (wrM m a) a,()):=fun k hk=>by
   rw [mdo_K1,secho_eq ha hr,zD]
   cases he:isE a.1 with
   | true=>rfl
   | false =>
    rw [if_neg (fun e=>Bool.false_ne_true e),if_neg (fun e=>Bool.false_ne_true e),answer_eq hsz ha hr hc he _ (hk he)]
    rfl
  have hcc:=hc
  unfold chkS at hc
  cases hra:q1q_ hr with
  | bits f p n hf' g1 g2 =>
   rcases hf' with rfl | rfl
   ·exact fin (1,0) (fun _=>rfl)
   ·exact fin (2,0) (fun _=>rfl)
  | words f p n hf' g1 g2 =>
   rcases hf' with rfl | rfl
   ·exact fin (3,0) (fun _=>rfl)
   ·exact fin (4,0) (fun _=>rfl)
  | coil p b =>
   have hle:p + ((1:Nat):Int)≤16:=of_decide_eq_true hc
   have p0:0≤p:=p0
   refine Eq.trans ?_ (fin (0,1) (fun e=>by cases e))
   dsimp only
   rw [if_neg (show ¬ (5:Int)=23 by decide)]
   show need (ge p 0) (need (le p (zF m.1.length)) (need (le (zF m.1.length) (zF m.1.length)) (need (le (p + (zF m.1.length - p)) (zF m.1.length)) _)))=_
   rw [q9_ (qs_.2 p0),q9_ (qo_.2 (by grind)),q9_ (qo_.2 (Int.le_refl _)),q9_ (qo_.2 (by omega))]
   rw [cpy_code (w:=[b]) (by grind)]
   rfl
  | word p x =>
   simp_all
  | coils p l g1 g2 =>
   have hle:p + (l.length:Int)≤16:=of_decide_eq_true hc
   have p0:0≤p:=p0
   refine Eq.trans ?_ (fin (0,1) (fun e=>by cases e))
   dsimp only
   rw [if_neg (show ¬ (15:Int)=23 by decide)]
   show need (ge p 0) (need (le p (zF m.1.length)) (need (le (zF m.1.length) (zF m.1.length)) (need (le (p + (zF m.1.length - p)) (zF m.1.length)) _)))=_
   rw [q9_ (qs_.2 p0),q9_ (qo_.2 (by grind)),q9_ (qo_.2 (Int.le_refl _)),q9_ (qo_.2 (by omega))]
   rw [cpy_code (w:=l) (by grind)]
   rfl
  | regs p l g1 g2 =>
   have hle:p=272∧l.length=8∨p=288∧l.length=20:=of_decide_eq_true hc
   have p0:0≤p:=p0
   refine Eq.trans ?_ (fin (0,3) (fun e=>by cases e))
   dsimp only
   rw [if_neg (show ¬ (16:Int)=23 by decide)]
   show need (ge p 0) (need (le p (zF m.2.2.1.length)) (need (le (zF m.2.2.1.length) (zF m.2.2.1.length)) (need (le (p + (zF m.2.2.1.length - p)) (zF m.2.2.1.length)) _)))=_
   rw [q9_ (qs_.2 p0),q9_ (qo_.2 (by grind)),q9_ (qo_.2 (Int.le_refl _)),q9_ (qo_.2 (by omega))]
   rw [cpy_code (w:=l) (by grind)]
   rfl
  | swap p n t l g1 g2 g3 g4 =>
   have hle:t=272∧l.length=8∨t=288∧l.length=20:=of_decide_eq_true (zO _ _ ▸ hc:_∧_).2
   have t0:0≤t:=t0
   refine Eq.trans ?_ (fin (3,3) (fun _=>rfl))
   dsimp only
   rw [if_pos (show (23:Int)=23 by decide)]
   show need (ge t 0) (need (le t (zF m.2.2.1.length)) (need (le (zF m.2.2.1.length) (zF m.2.2.1.length)) (need (le (t + (zF m.2.2.1.length - t)) (zF m.2.2.1.length)) _)))=_
   rw [q9_ (qs_.2 t0),q9_ (qo_.2 (by grind)),q9_ (qo_.2 (Int.le_refl _)),q9_ (qo_.2 (by omega))]
   rw [cpy_code (w:=l) (by grind)]
   rfl
def rdA (a:TA):TA:=(if a.1=23 then 3 else a.1,a.2.1,a.2.2.1,0,[],[])
def answS (s:TSl) (a:TA):TR:=if isE a.1=true then echoR a else (a.1,(ansR (memS s) (rdA a)).2)
theorem rdA_ok {a:TA} (ha:OkA a) (hr:qm_ a=true) (he:isE a.1=false) (hc:chkS a=true):OkA (rdA a)∧qm_ (rdA a)=true∧chkS (rdA a)=true∧isE (rdA a).1=false:=by
 have nil:∀ x ∈ ([]:List Int),0≤x∧x≤65535:=fun x hx=>by cases hx
 cases hra:q1q_ hr with
 | bits f p n hf h1 h2 =>
  rcases hf with rfl | rfl
  ·exact ⟨ha,hr,hc,he⟩
  ·exact ⟨ha,hr,hc,he⟩
 | words f p n hf h1 h2 =>
  rcases hf with rfl | rfl
  ·exact ⟨ha,hr,hc,he⟩
  ·exact ⟨ha,hr,hc,he⟩
 | coil p b=>cases he
 | word p x=>cases he
 | coils p l h1 h2=>cases he
 | regs p l h1 h2=>cases he
 | swap p n t l h1 h2 h3 h4 =>
  have hc1:=(zO _ _ ▸ (show (rdH p n.toNat && decide (t=272∧l.length=8∨t=288∧l.length=20))=true from hc):_∧_).1
  refine ⟨⟨(by decide:(0:Int)≤3),(by decide:(3:Int)≤255),ha.at0,ha.at1,ha.m0,ha.m1,(by decide:(0:Int)≤0),(by decide:(0:Int)≤65535),nil,Nat.zero_le _,Nat.zero_le _⟩,?_,hc1,rfl⟩
  show rightS (3,p,n,0,[],[]) (125,0,0,false,false)=true
  unfold rightS
  dsimp only
  have e:withinV n 125=true:=by
   unfold withinV
   rw [if_neg (by decide),if_pos (qs_.2 h3),qo_.2 h4]
  rw [e]
  rfl
theorem sanswer_eq {s:TSl} (h:OkS s) {a:TA} (ha:OkA a) (hr:qm_ a=true) (hc:chkS a=true):qq_ (s,a,())=some (answS s a,()):=by
 show qff_ qg1_ s a=_
 unfold qff_ answS
 rw [secho_eq ha hr,zD]
 cases he:isE a.1 with
 | true=>rfl
 | false =>
  obtain ⟨h1,h2,h3,h4⟩:=rdA_ok ha hr he hc
  have hd:=mdo_eq (memS_sz h) h1 h2
  have hdo:(doM (memS s) (rdA a)).2=ansR (memS s) (rdA a):=by
   unfold doM
   rw [if_pos h3,h4]
   have:wrM (memS s) (rdA a)=memS s:=by
    unfold isE at h4
    have h5:=of_decide_eq_false h4
    unfold wrM
    have h23:(rdA a).1 ≠ 23:=by
     show (if a.1=23 then (3:Int) else a.1) ≠ 23
     split <;> omega
    rw [if_neg (by omega),if_neg (by omega),if_neg h23]
   rw [this]
   rfl
  have K:qg1_ s a 0 0 0 0 (if a.1=23 then 3 else a.1) a.2.1 a.2.2.1 0=some ((a.1,(ansR (memS s) (rdA a)).2),()):=by
   have hd':q1j_ (SP,memS s,((if a.1=23 then (3:Int) else a.1),a.2.1,a.2.2.1,0,[],[]),())=_:=hd
   show qf8_ qom_ s a 0 0 0 0 _ a.2.1 a.2.2.1 0=_
   unfold qf8_
   simp only [space_eq,mem_eq h,zD,hd',amb2 (eqAs_refl qh_.rs),amb3 (eqAs_refl qh_.rs)]
   show some ((a.1,(doM (memS s) (rdA a)).2.2),())=_
   rw [hdo]
  rw [if_neg (fun e=>Bool.false_ne_true e),if_neg (fun e=>Bool.false_ne_true e)]
  by_cases e:a.1=23
  ·rw [if_pos (q4_.2 e)]
   rw [if_pos e] at K
   exact K
  ·rw [if_neg (fun x=>e (q4_.1 x))]
   rw [if_neg e] at K
   exact K
def readC (w:List Int):TCm×Int :=
 if w.length ≠ 8∨w.getD 7 0 ≠ 0∨256≤w.getD 1 0 then ((0,0,0,0,0),2)
 else ((w.getD 0 0,w.getD 1 0,65536 * w.getD 2 0 + w.getD 3 0,w.getD 4 0,65536 * w.getD 5 0 + w.getD 6 0),0)
theorem aread_eq' {w:List Int} (hr:∀ x ∈ w,0≤x∧x≤65535):qdg_ (w,())=some ((readC w).1,(readC w).2,()):=by
 show ql5_ qky_ w=_
 unfold ql5_
 by_cases hl:w.length=8
 ·rw [if_neg (fun e=>qd_.1 e (by rw [q2_]; omega))]
  have g:∀ k:Nat,k < 8->at? w (k:Int)=some (w.getD k 0):=fun k hk=>by
   obtain ⟨x,hx⟩:=get_of (xs:=w) (i:=k) (by omega)
   rw [qf_ hx,zX,hx]
   rfl
  have rg:∀ k:Nat,k < 8->0≤w.getD k 0∧w.getD k 0≤65535:=fun k hk=>by
   obtain ⟨x,hx⟩:=get_of (xs:=w) (i:=k) (by omega)
   rw [zX,hx]
   exact hr x (zY hx)
  have g0:at? w 0=some (w.getD 0 0):=g 0 (by omega)
  have g1:at? w 1=some (w.getD 1 0):=g 1 (by omega)
  have g2:at? w 2=some (w.getD 2 0):=g 2 (by omega)
  have g3:at? w 3=some (w.getD 3 0):=g 3 (by omega)
  have g4:at? w 4=some (w.getD 4 0):=g 4 (by omega)
  have g5:at? w 5=some (w.getD 5 0):=g 5 (by omega)
  have g6:at? w 6=some (w.getD 6 0):=g 6 (by omega)
  have g7:at? w 7=some (w.getD 7 0):=g 7 (by omega)
  have K:∀ b,qky_ w b (0,0,0,0,0)=some (if b=true then (((0,0,0,0,0):TCm),(2:Int),()) else ((w.getD 0 0,cvt .u8 (w.getD 1 0),65536 * w.getD 2 0 + w.getD 3 0,w.getD 4 0,65536 * w.getD 5 0 + w.getD 6 0),0,())):=fun b=>by
   show qkp_ w b (0,0,0,0,0)=_
   unfold qkp_
   cases b with
   | true=>rfl
   | false =>
    have r2:=rg 2 (by omega)
    have r3:=rg 3 (by omega)
    have r5:=rg 5 (by omega)
    have r6:=rg 6 (by omega)
    rw [if_neg (by decide),if_neg (by decide),g0,zD,g1,zD,g2,zD,g3,zD,g4,zD,g5,zD,g6,zD,wide_eq r2.1 r2.2 r3.1 r3.2,zD,wide_eq r5.1 r5.2 r6.1 r6.2,zD]
  rw [g7,zD]
  unfold readC
  by_cases h7:w.getD 7 0=0
  ·rw [if_neg (fun e=>qd_.1 e h7),g1,zD,K]
   by_cases h1:256≤w.getD 1 0
   ·rw [if_pos (qs_.2 h1),if_pos (Or.inr (Or.inr h1))]
   ·have r1:=rg 1 (by omega)
    rw [if_neg (fun e=>h1 (qs_.1 e)),if_neg (by omega),show cvt .u8 (w.getD 1 0)=w.getD 1 0 from wu8 r1.1 (by omega)]
  ·rw [if_pos (qd_.2 h7),K,if_pos rfl,if_pos (Or.inr (Or.inl h7))]
 ·rw [if_pos (qd_.2 (by rw [q2_]; omega))]
  unfold readC
  rw [if_pos (Or.inl hl)]
  rfl
def wroteS (a:TAg) (p:Int) (w:List Int):TAg×Int :=
 if p=272 then
  if (readC w).2 ≠ 0 then (a,3) else if (doS (ownA a) (readC w).1).2 ≠ 0 then (a,4) else ((doS (ownA a) (readC w).1).1,0)
 else
  if (rdB w).2.2.2.2 ≠ 0 then (a,3) else if (putA (ownA a) (rdB w).1 (rdB w).2.1 (rdB w).2.2.1 (rdB w).2.2.2.1).2 ≠ 0 then (a,4)
  else ((putA (ownA a) (rdB w).1 (rdB w).2.1 (rdB w).2.2.1 (rdB w).2.2.2.1).1,0)
def atW (a:TA):Int:=if a.1=23 then a.2.2.2.1 else a.2.1
def setA (s:TSl) (a:TAg):TSl:=(s.1,s.2.1,a,s.2.2.2)
def setC (s:TSl) (c:List Bool):TSl:=(s.1,s.2.1,s.2.2.1,c)
def servS (s:TSl) (a:TA):TSl×TR :=
 if chkS a=false then (s,(a.1,2,[],[],0,0))
 else if a.1=5∨a.1=15 then (setC s (cpy s.2.2.2 a.2.1.toNat a.2.2.2.2.2),answS (setC s (cpy s.2.2.2 a.2.1.toNat a.2.2.2.2.2)) a)
 else if a.2.2.2.2.1.length=0 then (s,answS s a)
 else if (wroteS s.2.2.1 (atW a) a.2.2.2.2.1).2 ≠ 0 then (s,(a.1,(wroteS s.2.2.1 (atW a) a.2.2.2.2.1).2,[],[],0,0))
 else (setA s (wroteS s.2.2.1 (atW a) a.2.2.2.2.1).1,answS (setA s (wroteS s.2.2.1 (atW a) a.2.2.2.2.1).1) a)
theorem readC_rng {w:List Int} (hr:∀ x ∈ w,0≤x∧x≤65535):(0≤(readC w).1.1∧(readC w).1.1≤65535)∧(0≤(readC w).1.2.2.1∧(readC w).1.2.2.1≤4294967295)∧(0≤(readC w).1.2.2.2.1∧(readC w).1.2.2.2.1≤65535):=by
 unfold readC
 split
 ·exact ⟨⟨by decide,by decide⟩,⟨by decide,by decide⟩,⟨by decide,by decide⟩⟩
 ·rename_i h
  have rg:∀ k:Nat,0≤w.getD k 0∧w.getD k 0≤65535:=fun k=>by
   rw [zX]
   cases hx:w[k]? with
   | none=>exact ⟨by decide,by decide⟩
   | some x=>exact hr x (zY hx)
  have r0:=rg 0
  have r2:=rg 2
  have r3:=rg 3
  have r4:=rg 4
  exact ⟨r0,⟨by dsimp only; omega,by dsimp only; omega⟩,r4⟩
theorem rdB_rng {w:List Int} (hr:∀ x ∈ w,0≤x∧x≤65535) (h:(rdB w).2.2.2.2=0):(0≤(rdB w).1∧(rdB w).1≤65535)∧(0≤(rdB w).2.2.1∧(rdB w).2.2.1≤7)∧fitsB (rdB w).2.2.2.1=true∧(∀ x ∈ (rdB w).2.2.2.1.2,0≤x∧x≤65535):=by
 have rg:∀ k:Nat,0≤w.getD k 0∧w.getD k 0≤65535:=fun k=>by
  rw [zX]
  cases hx:w[k]? with
  | none=>exact ⟨by decide,by decide⟩
  | some x=>exact hr x (zY hx)
 unfold rdB at h ⊢
 split
 ·rename_i q
  rw [if_pos q] at h
  exact absurd h (by decide)
 ·rename_i q
  rw [if_neg q] at h
  split
  ·rename_i q2
   rw [if_pos q2] at h
   exact absurd h (by decide)
  ·rename_i q2
   rw [if_neg q2] at h
   split
   ·rename_i q3
    have r3:=rg 3
    exact ⟨rg 0,⟨r3.1,by dsimp only; omega⟩,q3.1,fun x hx=>hr x (List.mem_of_mem_drop (List.mem_of_mem_take hx))⟩
   ·rename_i q3
    rw [if_neg q3] at h
    exact absurd h (by decide)
theorem wroteS_ok {a:TAg} (h:OkG a) {p:Int} {w:List Int} (hr:∀ x ∈ w,0≤x∧x≤65535):OkG (wroteS a p w).1:=by
 unfold wroteS
 split
 ·split
  ·exact h
  ·split
   ·exact h
   ·obtain ⟨r1,r2,r3⟩:=readC_rng hr
    exact h.own.doS r1 r2 r3
 ·split
  ·exact h
  ·rename_i q
   obtain ⟨r1,r2,r3,r4⟩:=rdB_rng hr (Classical.not_not.1 q)
   split
   ·exact h
   ·exact h.own.putA r1 r3 r4
theorem servS_ok {s:TSl} (h:OkS s) {a:TA} (ha:OkA a) (hr:qm_ a=true):OkS (servS s a).1:=by
 unfold servS
 split
 ·exact h
 ·rename_i hc
  have hc:chkS a=true:=by cases e:chkS a with | true=>rfl | false=>exact absurd e hc
  have hw:=(wrM_sz (memS_sz h) ha hr hc).c
  split
  ·rename_i q
   unfold wrM at hw
   rw [if_pos q] at hw
   exact ⟨h.u,h.l,h.a,hw⟩
  ·split
   ·exact h
   ·split
    ·exact h
    ·exact ⟨h.u,h.l,wroteS_ok h.a ha.w,h.c⟩
theorem eight {α:Type} {l:List α} (h:l.length=8):∃ a b c d e f g i,l=[a,b,c,d,e,f,g,i]:=by
 match l,h with
 | [a,b,c,d,e,f,g,i],_=>exact ⟨a,b,c,d,e,f,g,i,rfl⟩
theorem getD8 {α:Type} {l:List α} {z:α} (h:l.length=8):[l.getD 0 z,l.getD 1 z,l.getD 2 z,l.getD 3 z,l.getD 4 z,l.getD 5 z,l.getD 6 z,l.getD 7 z]=l:=by
 obtain ⟨a,b,c,d,e,f,g,i,rfl⟩:=eight h
 rfl
theorem mkAg_eq {a:TAg} (h1:a.2.2.2.2.2.1.2.1.length=8) (h2:a.2.2.2.2.2.1.2.2.length=8):mkAg a=a:=by
 unfold mkAg
 rw [getD8 h1,getD8 h2]
def midS (x:Int) (s:TSl) (a:TA):Option (As q22_.rs) :=
 qqo_ x s.2.2.2 s.1 s.2.1 s.2.2.1.1 s.2.2.1.2.1.1 s.2.2.1.2.1.2 s.2.2.1.2.2.1 s.2.2.1.2.2.2.1 s.2.2.1.2.2.2.2.1 s.2.2.1.2.2.2.2.2.1.1
  (s.2.2.1.2.2.2.2.2.1.2.1.getD 0 false) (s.2.2.1.2.2.2.2.2.1.2.1.getD 1 false) (s.2.2.1.2.2.2.2.2.1.2.1.getD 2 false) (s.2.2.1.2.2.2.2.2.1.2.1.getD 3 false) (s.2.2.1.2.2.2.2.2.1.2.1.getD 4 false) (s.2.2.1.2.2.2.2.2.1.2.1.getD 5 false) (s.2.2.1.2.2.2.2.2.1.2.1.getD 6 false) (s.2.2.1.2.2.2.2.2.1.2.1.getD 7 false)
  (s.2.2.1.2.2.2.2.2.1.2.2.getD 0 (0,[])).1 (s.2.2.1.2.2.2.2.2.1.2.2.getD 0 (0,[])).2 (s.2.2.1.2.2.2.2.2.1.2.2.getD 1 (0,[])).1 (s.2.2.1.2.2.2.2.2.1.2.2.getD 1 (0,[])).2 (s.2.2.1.2.2.2.2.2.1.2.2.getD 2 (0,[])).1 (s.2.2.1.2.2.2.2.2.1.2.2.getD 2 (0,[])).2 (s.2.2.1.2.2.2.2.2.1.2.2.getD 3 (0,[])).1 (s.2.2.1.2.2.2.2.2.1.2.2.getD 3 (0,[])).2 (s.2.2.1.2.2.2.2.2.1.2.2.getD 4 (0,[])).1 (s.2.2.1.2.2.2.2.2.1.2.2.getD 4 (0,[])).2 (s.2.2.1.2.2.2.2.2.1.2.2.getD 5 (0,[])).1 (s.2.2.1.2.2.2.2.2.1.2.2.getD 5 (0,[])).2 (s.2.2.1.2.2.2.2.2.1.2.2.getD 6 (0,[])).1 (s.2.2.1.2.2.2.2.2.1.2.2.getD 6 (0,[])).2 (s.2.2.1.2.2.2.2.2.1.2.2.getD 7 (0,[])).1 (s.2.2.1.2.2.2.2.2.1.2.2.getD 7 (0,[])).2
  s.2.2.1.2.2.2.2.2.2 0 0 0 0 0 0 0 0 false false false false false false false false 0 0 0 0 0 0 0 0 0 0 0 0 0 a
abbrev RS:=Option (As q22_.rs)
def cmdM (s:TSl) (a:TA) (p:Int):RS :=
 if eqi 272 p=true then zC (qdg_ (a.2.2.2.2.1,())) fun y=>if nei y.2.1 0=true then zC (qi_ (a.1,3,())) fun y=>some (s,y.1,()) else amb (eqAs q22_.rs) [zC (qcv_ (s.2.2.1,y.1,())) fun y=>if nei y.2.1 0=true then zC (qi_ (a.1,4,())) fun y=>some (s,y.1,()) else zC (qq_ (setA s (mkAg y.1),a,())) fun y_1=>some (setA s (mkAg y.1),y_1.1,()),zC (qcv_ (s.2.2.1,y.1,())) fun y=>if nei y.2.1 0=true then zC (qi_ (a.1,4,())) fun y=>some (s,y.1,()) else zC (qq_ (setA s (mkAg y.1),a,())) fun y_1=>some (setA s (mkAg y.1),y_1.1,())]
 else if eqi 288 p=true then zC (qdr_ (a.2.2.2.2.1,())) fun y=>if nei y.2.2.2.2.1 0=true then zC (qi_ (a.1,3,())) fun y=>some (s,y.1,()) else amb (eqAs q22_.rs) [zC (q7t_ (s.2.2.1,y.1,y.2.1,y.2.2.1,y.2.2.2.1,())) fun y=>if nei y.2.1 0=true then zC (qi_ (a.1,4,())) fun y=>some (s,y.1,()) else zC (qq_ (setA s (mkAg y.1),a,())) fun y_1=>some (setA s (mkAg y.1),y_1.1,()),zC (q7t_ (s.2.2.1,y.1,y.2.1,y.2.2.1,y.2.2.2.1,())) fun y=>if nei y.2.1 0=true then zC (qi_ (a.1,4,())) fun y=>some (s,y.1,()) else zC (qq_ (setA s (mkAg y.1),a,())) fun y_1=>some (setA s (mkAg y.1),y_1.1,())]
 else zC (qi_ (a.1,2,())) fun y=>some (s,y.1,())
def copM (s:TSl) (a:TA):RS:=if le (add .i64 (cvt .i64 a.2.1) (zF a.2.2.2.2.2.length)) (zF s.2.2.2.length)=true then need (ge a.2.1 0) (need (le a.2.1 (zF s.2.2.2.length)) (need (le (zF s.2.2.2.length) (zF s.2.2.2.length)) (need (le (a.2.1 + (zF s.2.2.2.length - a.2.1)) (zF s.2.2.2.length)) (zC (qq_ (setC s (s.2.2.2.take (zI a.2.1)++a.2.2.2.2.2.take (zI (zF s.2.2.2.length - a.2.1))++s.2.2.2.drop (zI a.2.1 + (a.2.2.2.2.2.take (zI (zF s.2.2.2.length - a.2.1))).length)),a,())) fun y=>some (setC s (s.2.2.2.take (zI a.2.1)++a.2.2.2.2.2.take (zI (zF s.2.2.2.length - a.2.1))++s.2.2.2.drop (zI a.2.1 + (a.2.2.2.2.2.take (zI (zF s.2.2.2.length - a.2.1))).length)),y.1,()))))) else zC (qq_ (s,a,())) fun y=>some (s,y.1,())
theorem mid_eq {x:Int} {s:TSl} {a:TA} (h1:s.2.2.1.2.2.2.2.2.1.2.1.length=8) (h2:s.2.2.1.2.2.2.2.2.1.2.2.length=8):midS x s a =
  if nei x 0=true then zC (qi_ (a.1,x,())) fun y=>some (s,y.1,())
  else if eqi a.1 5=true then copM s a
  else if eqi a.1 15=true then copM s a
  else if eqi (zF a.2.2.2.2.1.length) 0=true then zC (qq_ (s,a,())) fun y=>some (s,y.1,())
  else if eqi a.1 23=true then cmdM s a a.2.2.2.1
  else cmdM s a a.2.1:=by
 obtain ⟨u,l,⟨bk,⟨lo,lf⟩,ph,tx,la,⟨st,hv,bs⟩,tk⟩,co⟩:=s
 obtain ⟨b0,b1,b2,b3,b4,b5,b6,b7,e1⟩:=eight h1
 obtain ⟨c0,c1,c2,c3,c4,c5,c6,c7,e2⟩:=eight h2
 dsimp only at e1 e2
 subst e1 e2
 rfl
theorem RR_right {r:TR} (h:RR r):rightR r=true:=by
 cases h with
 | ex f e h0 h h1 h2=>exact (rep_wrong h0 h h1 h2).rt
 | bits f l hf h1 h2 h3 =>
  have hb:bitR (f,0,l,[],0,0)=true:=by
   unfold bitR
   dsimp only
   rw [decide_eq_true h1,decide_eq_true h2,decide_eq_true h3,decide_eq_true rfl]
   rfl
  rcases hf with rfl | rfl <;> exact hb
 | words f l hf h1 h2 =>
  have hb:wordR (f,0,[],l,0,0)=true:=by
   unfold wordR
   dsimp only
   rw [decide_eq_true h1,decide_eq_true h2,decide_eq_true rfl]
   rfl
  rcases hf with rfl | rfl | rfl <;> exact hb
 | coil b p =>
  show obR (5,0,[b],[],p,0)=true
  unfold obR
  rw [decide_eq_true rfl]
  rfl
 | word x p =>
  show owR (6,0,[],[x],p,0)=true
  unfold owR
  rw [decide_eq_true rfl]
  rfl
 | coils p n h1 h2 =>
  show ctR 1968 (15,0,[],[],p,n)=true
  unfold ctR
  dsimp only
  rw [decide_eq_true h1,decide_eq_true h2,decide_eq_true rfl]
  rfl
 | regs p n h1 h2 =>
  show ctR 123 (16,0,[],[],p,n)=true
  unfold ctR
  dsimp only
  rw [decide_eq_true h1,decide_eq_true h2,decide_eq_true rfl]
  rfl
theorem rep_of {r:TR} (h:OkR r) (hr:RR r):Rep r:=⟨h,hr,RR_right hr⟩
theorem itB_rng {x:TBlk} (hf:fitsB x=true->∀ w ∈ x.2,0≤w∧w≤65535):∀ w ∈ itB x,0≤w∧w≤65535:=by
 intro w hw
 unfold itB at hw
 split at hw
 ·rename_i h
  have h2:=of_decide_eq_true h
  grind
 simp_all
theorem backS_rng {s:TStg} {o n:Int} (ho:0≤o∧o≤65535) (hn:0≤n∧n≤7) (ht:0≤s.1∧s.1≤4294967295) (hw:∀ b ∈ s.2.2,∀ w ∈ b.2,0≤w∧w≤65535):∀ w ∈ backS s o n,0≤w∧w≤65535:=by
 intro w hm
 unfold backS at hm
 split at hm
 ·rename_i x h1 h2
  unfold tagB at hm
  rcases List.mem_cons.1 hm with e | hm
  ·omega
  ·rcases List.mem_cons.1 hm with e | hm
   ·omega
   ·rcases List.mem_cons.1 hm with e | hm
    ·omega
    ·rcases List.mem_cons.1 hm with e | hm
     ·omega
     ·exact itB_rng (fun _=>hw x (zY h2)) w hm
 simp_all
theorem statA_rng {a:TAg} (h:OkG a):∀ w ∈ statA a,0≤w∧w≤65535:=by
 intro w hw
 have h1:=h.l1
 have h2:=h.pr
 have h3:=h.tr
 have h4:=h.ar
 have hc:a.2.2.2.2.2.1.2.1.count true≤8:=by
  have:=List.count_le_length (a:=true) (l:=a.2.2.2.2.2.1.2.1)
  have:=h.hl
  omega
 simp only [statA,List.mem_cons,List.not_mem_nil,or_false] at hw
 omega
theorem OkG.st {a:TAg} (h:OkG a):0≤a.2.2.2.2.2.1.1∧a.2.2.2.2.2.1.1≤4294967295:=by
 by_cases e:a.2.2.1=0
 ·have:=(h.p0 e).2.2.1; omega
 ·have:=(h.pn e).2.2; have:=h.tr; omega
theorem holdS_rng {a:TAg} (h:OkG a):∀ w ∈ holdS a,0≤w∧w≤65535:=by
 have hg:∀ k:Nat,k≤8->∀ w ∈ (List.range k).foldl (fun h b=>cpy h (512 + b * 32) (backS a.2.2.2.2.2.1 a.2.1.1 (b:Int))) (cpy (cpy (zE 756 0) 0 a.1) 256 (statA a)),0≤w∧w≤65535:=by
  intro k
  induction k with
  | zero =>
   intro _
   rw [List.range_zero,List.foldl_nil]
   exact cpy_rng (P:=fun y=>0≤y∧y≤65535) (cpy_rng (P:=fun y=>0≤y∧y≤65535) (fun y hy=>by simp_all) h.bw) (statA_rng h)
  | succ k ih =>
   intro hk
   rw [List.range_succ,List.foldl_append,List.foldl_cons,List.foldl_nil]
   exact cpy_rng (P:=fun y=>0≤y∧y≤65535) (ih (by omega)) (backS_rng h.l1 ⟨by omega,by omega⟩ h.st h.wb)
 exact hg 8 (by omega)
theorem rdBits_len {c:List Bool} {p n:Nat} (h:p + n≤c.length):(rdBits c p n).length=(n + 7) / 8 * 8:=by
 grind [rdBits,zZ,kB,List.length_drop,kD]
theorem okR_plain {f:Int} (h0:0≤f) (h1:f≤255) {b:List Bool} {w:List Int} (hb:b.length≤100000) (hw:∀ x ∈ w,0≤x∧x≤65535) (hl:w.length≤100000):OkR (f,0,b,w,0,0) :=
 ⟨h0,h1,(by decide:(0:Int)≤0),(by decide:(0:Int)≤255),hw,(by decide:(0:Int)≤0),(by decide:(0:Int)≤65535),(by decide:(0:Int)≤0),(by decide:(0:Int)≤65535),hb,hl⟩
theorem nilW:∀ x ∈ ([]:List Int),0≤x∧x≤65535:=fun x hx=>by cases hx
theorem answS_rep {s:TSl} (h:OkS s) {a:TA} (ha:OkA a) (hr:qm_ a=true) (hc:chkS a=true):Rep (answS s a):=by
 have p0:=ha.at0
 have p1:=ha.at1
 have hcl:=h.c
 have hil:=inpS_len s.2.2.1
 have hhl:=holdS_len h.a
 have hhr:=holdS_rng h.a
 have hsr:=statA_rng h.a
 unfold chkS at hc
 cases q1q_ hr with
 | bits f p n hf g1 g2 =>
  obtain ⟨p,rfl⟩:=zN (show 0≤p from p0)
  obtain ⟨n,rfl⟩:=zN (show 0≤n by omega)
  rcases hf with rfl | rfl
  ·have hc:(p:Int) + (n:Int)≤16:=of_decide_eq_true hc
   have hl:=rdBits_len (c:=s.2.2.2) (p:=p) (n:=n) (by omega)
   exact rep_of (okR_plain (f:=1) (by decide) (by decide) (by show (rdBits s.2.2.2 p n).length≤_; omega) nilW (by decide)) (.bits 1 _ (Or.inl rfl) (by show 8≤(rdBits s.2.2.2 p n).length; omega) (by show (rdBits s.2.2.2 p n).length≤2000; omega) (by show (rdBits s.2.2.2 p n).length % 8=0; omega))
  ·have hc:(p:Int) + (n:Int)≤8:=of_decide_eq_true hc
   have hl:=rdBits_len (c:=inpS s.2.2.1) (p:=p) (n:=n) (by omega)
   exact rep_of (okR_plain (f:=2) (by decide) (by decide) (by show (rdBits (inpS s.2.2.1) p n).length≤_; omega) nilW (by decide)) (.bits 2 _ (Or.inr rfl) (by show 8≤(rdBits (inpS s.2.2.1) p n).length; omega) (by show (rdBits (inpS s.2.2.1) p n).length≤2000; omega) (by show (rdBits (inpS s.2.2.1) p n).length % 8=0; omega))
 | words f p n hf g1 g2 =>
  obtain ⟨p,rfl⟩:=zN (show 0≤p from p0)
  obtain ⟨n,rfl⟩:=zN (show 0≤n by omega)
  rcases hf with rfl | rfl
  ·have hle:=rdH_le (p:=(p:Int)) (m:=n) (by omega) hc
   have hl:((holdS s.2.2.1).drop p |>.take n).length=n:=by grind
   exact rep_of (okR_plain (f:=3) (by decide) (by decide) (by decide) (fun x hx=>hhr x (List.mem_of_mem_drop (List.mem_of_mem_take hx))) (by show ((holdS s.2.2.1).drop p |>.take n).length≤_; omega)) (.words 3 _ (Or.inl rfl) (by show 1≤((holdS s.2.2.1).drop p |>.take n).length; omega) (by show ((holdS s.2.2.1).drop p |>.take n).length≤125; omega))
  ·have hc:(p:Int) + (n:Int)≤8:=of_decide_eq_true hc
   have hl:((statA s.2.2.1).drop p |>.take n).length=n:=by rw [kB,List.length_drop]; show min n (8 - p)=n; omega
   exact rep_of (okR_plain (f:=4) (by decide) (by decide) (by decide) (fun x hx=>hsr x (List.mem_of_mem_drop (List.mem_of_mem_take hx))) (by show ((statA s.2.2.1).drop p |>.take n).length≤_; omega)) (.words 4 _ (Or.inr (Or.inl rfl)) (by show 1≤((statA s.2.2.1).drop p |>.take n).length; omega) (by show ((statA s.2.2.1).drop p |>.take n).length≤125; omega))
 | coil p b =>
  exact rep_of ⟨(by decide:(0:Int)≤5),(by decide:(5:Int)≤255),(by decide:(0:Int)≤0),(by decide:(0:Int)≤255),nilW,p0,p1,(by decide:(0:Int)≤0),(by decide:(0:Int)≤65535),(by decide:1≤100000),(by decide:0≤100000)⟩ (.coil b p)
 | word p x =>
  simp_all
 | coils p l g1 g2 =>
  exact rep_of ⟨(by decide:(0:Int)≤15),(by decide:(15:Int)≤255),(by decide:(0:Int)≤0),(by decide:(0:Int)≤255),nilW,p0,p1,by show (0:Int)≤(l.length:Int); omega,by show (l.length:Int)≤65535; omega,(by decide:0≤100000),(by decide:0≤100000)⟩ (.coils p (l.length:Int) (by omega) (by omega))
 | regs p l g1 g2 =>
  exact rep_of ⟨(by decide:(0:Int)≤16),(by decide:(16:Int)≤255),(by decide:(0:Int)≤0),(by decide:(0:Int)≤255),nilW,p0,p1,by show (0:Int)≤(l.length:Int); omega,by show (l.length:Int)≤65535; omega,(by decide:0≤100000),(by decide:0≤100000)⟩ (.regs p (l.length:Int) (by omega) (by omega))
 | swap p n t l g1 g2 g3 g4 =>
  obtain ⟨p,rfl⟩:=zN (show 0≤p from p0)
  obtain ⟨n,rfl⟩:=zN (show 0≤n by omega)
  have hc1:=(zO _ _ ▸ (show (rdH (p:Int) n && decide (t=272∧l.length=8∨t=288∧l.length=20))=true from hc):_∧_).1
  have hle:=rdH_le (p:=(p:Int)) (m:=n) (by omega) hc1
  have hl:((holdS s.2.2.1).drop p |>.take n).length=n:=by grind
  exact rep_of (okR_plain (f:=23) (by decide) (by decide) (by decide) (fun x hx=>hhr x (List.mem_of_mem_drop (List.mem_of_mem_take hx))) (by show ((holdS s.2.2.1).drop p |>.take n).length≤_; omega)) (.words 23 _ (Or.inr (Or.inr rfl)) (by show 1≤((holdS s.2.2.1).drop p |>.take n).length; omega) (by show ((holdS s.2.2.1).drop p |>.take n).length≤125; omega))
theorem wroteS_ex (a:TAg) (p:Int) (w:List Int):(wroteS a p w).2=0∨(wroteS a p w).2=3∨(wroteS a p w).2=4:=by
 unfold wroteS
 grind
theorem chk_t {a:TA} (h:¬ chkS a=false):chkS a=true:=by
 simp_all
theorem servS_rep {s:TSl} (h:OkS s) {a:TA} (ha:OkA a) (hr:qm_ a=true):Rep (servS s a).2:=by
 have hf:=right_f hr
 have ok:=servS_ok h ha hr
 unfold servS at ok ⊢
 split
 ·grind [rep_wrong]
 ·rename_i hc
  rw [if_neg hc] at ok
  have hc:=chk_t hc
  split
  ·simp_all [if_pos,answS_rep]
  ·rename_i q
   rw [if_neg q] at ok
   split
   ·simp_all [answS_rep]
   ·rename_i q2
    rw [if_neg q2] at ok
    split
    ·grind [wroteS_ex,atW,rep_wrong]
    simp_all [if_neg,answS_rep]
theorem cmd_eq {s:TSl} (h:OkS s) {a:TA} (ha:OkA a) (hr:qm_ a=true) (hc:chkS a=true) {p:Int} (hp:p=272∨p=288) :
  cmdM s a p=some (if (wroteS s.2.2.1 p a.2.2.2.2.1).2 ≠ 0 then (s,(a.1,(wroteS s.2.2.1 p a.2.2.2.2.1).2,[],[],0,0),()) else (setA s (wroteS s.2.2.1 p a.2.2.2.2.1).1,answS (setA s (wroteS s.2.2.1 p a.2.2.2.2.1).1) a,())):=by
 have hf:=right_f hr
 have w4:∀ e,qi_ (a.1,e,())=some ((a.1,e,[],[],0,0),()):=fun e=>by grind [wrong_eq,rem128]
 have hok:=wroteS_ok h.a (p:=p) ha.w
 have fin:∀ g:TAg,OkG g->zC (qq_ (setA s (mkAg g),a,())) (fun y_1=>some (setA s (mkAg g),y_1.1,()))=(some (setA s g,answS (setA s g) a,()):RS):=fun g hg=>by
  rw [mkAg_eq hg.hl hg.sl,sanswer_eq (s:=setA s g) ⟨h.u,h.l,hg,h.c⟩ ha hr hc]
  rfl
 unfold cmdM wroteS at *
 by_cases e:p=272
 ·rw [if_pos e] at hok
  rw [if_pos (q4_.2 e.symm),if_pos e,aread_eq' ha.w,zD,amb2 (eqAs_refl _)]
  obtain ⟨r1,r2,r3⟩:=readC_rng ha.w
  dsimp only
  by_cases q1:(readC a.2.2.2.2.1).2 ≠ 0
  ·simp_all [if_pos,qd_]
  ·rw [if_neg q1] at hok
   rw [if_neg (fun x=>q1 (qd_.1 x)),if_neg q1,ado_eq h.a r3,zD]
   dsimp only
   by_cases q2:(doS (ownA s.2.2.1) (readC a.2.2.2.2.1).1).2 ≠ 0
   ·simp_all [if_pos,qd_]
   simp_all [if_neg,qd_]
 ·have e2:p=288:=by omega
  rw [if_neg e] at hok
  rw [if_neg (fun x=>e (q4_.1 x).symm),if_pos (q4_.2 e2.symm),if_neg e,sread_eq ha.w,zD,amb2 (eqAs_refl _)]
  dsimp only
  by_cases q1:(rdB a.2.2.2.2.1).2.2.2.2 ≠ 0
  ·simp_all [if_pos,qd_]
  ·rw [if_neg q1] at hok
   obtain ⟨r1,r2,r3,r4⟩:=rdB_rng ha.w (Classical.not_not.1 q1)
   rw [if_neg (fun x=>q1 (qd_.1 x)),if_neg q1,aput_eq h.a r2 r3,zD]
   dsimp only
   by_cases q2:(putA (ownA s.2.2.1) (rdB a.2.2.2.2.1).1 (rdB a.2.2.2.2.1).2.1 (rdB a.2.2.2.2.1).2.2.1 (rdB a.2.2.2.2.1).2.2.2.1).2 ≠ 0
   ·simp_all [if_pos,qd_]
   simp_all [if_neg,qd_]
theorem cop_eq {s:TSl} (h:OkS s) {a:TA} (ha:OkA a) (hr:qm_ a=true) (hc:chkS a=true) (hf:a.1=5∨a.1=15):copM s a=some (setC s (cpy s.2.2.2 a.2.1.toNat a.2.2.2.2.2),answS (setC s (cpy s.2.2.2 a.2.1.toNat a.2.2.2.2.2)) a,()):=by
 have ok:=servS_ok h ha hr
 unfold servS at ok
 rw [if_neg (by simp_all),if_pos hf] at ok
 have p0:=ha.at0
 have p1:=ha.at1
 have hcl:=h.c
 have lb:=ha.lb
 have hle:=hc
 unfold chkS at hle
 rw [if_neg (by omega),if_neg (by omega),if_neg (by omega),if_pos hf,decide_eq_true_eq] at hle
 unfold copM
 have e1:add .i64 (cvt .i64 a.2.1) (zF a.2.2.2.2.2.length)=a.2.1 + (a.2.2.2.2.2.length:Int):=by grind [cvt64,q2_,add64]
 rw [e1,if_pos (qo_.2 (by simp_all)),q9_ (qs_.2 p0),q9_ (qo_.2 (by grind)),q9_ (qo_.2 (Int.le_refl _)),q9_ (qo_.2 (by omega)),cpy_code (by grind),sanswer_eq ok ha hr hc]
 rfl
theorem mid_serv {s:TSl} (h:OkS s) {a:TA} (ha:OkA a) (hr:qm_ a=true):midS (if chkS a=true then 0 else 2) s a=some ((servS s a).1,(servS s a).2,()):=by
 have hf:=right_f hr
 have w4:∀ e,qi_ (a.1,e,())=some ((a.1,e,[],[],0,0),()):=fun e=>by grind [wrong_eq,rem128]
 rw [mid_eq h.a.hl h.a.sl]
 unfold servS
 cases hc:chkS a with
 | false =>
  simp_all [Bool.false_eq_true,if_false,if_true,if_pos,nei]
 | true =>
  simp only [if_true,Bool.true_eq_false,if_false]
  rw [if_neg (show ¬ nei 0 0=true by decide)]
  by_cases q5:a.1=5
  ·simp_all [if_pos,q4_,cop_eq,Or.inl]
  ·rw [if_neg (fun e=>q5 (q4_.1 e))]
   by_cases q15:a.1=15
   ·simp_all [if_pos,q4_,cop_eq,Or.inr]
   ·rw [if_neg (fun e=>q15 (q4_.1 e)),if_neg (show ¬ (a.1=5∨a.1=15) by omega)]
    by_cases q0:a.2.2.2.2.1.length=0
    ·rw [if_pos (q4_.2 (by simp_all)),if_pos q0,sanswer_eq h ha hr hc]
     rfl
    ·rw [if_neg (fun e=>q0 (by simp_all [q4_,q2_])),if_neg q0]
     have hp:atW a=272∨atW a=288:=by
      have hc2:=hc
      unfold chkS at hc2
      have hc3:¬ (a.1=1∨a.1=2∨a.1=3∨a.1=4):=by
       intro e
       apply q0
       cases q1q_ hr with
       | bits f p n hf=>rfl
       | words f p n hf=>rfl
       | coil p b=>rfl
       | word p x=>omega
       | coils p l=>rfl
       | regs p l=>omega
       | swap p n t l=>omega
      rw [if_neg (by omega),if_neg (by omega),if_neg (by omega),if_neg (by omega)] at hc2
      unfold atW
      grind
     have hcm:=cmd_eq h ha hr hc hp
     have e2:(if eqi a.1 23=true then cmdM s a a.2.2.2.1 else cmdM s a a.2.1)=cmdM s a (atW a):=by
      unfold atW
      by_cases q23:a.1=23
      ·simp_all [if_pos,q4_]
      simp_all [if_neg,q4_]
     grind
def lookS (b:List Int):TA×Int:=((qgz_ (b,())).map fun y=>(y.1,y.2.1)).getD (zA,1)
theorem look_S {b:List Int} (hb:∀ x ∈ b,0≤x∧x≤255):qgz_ (b,())=some ((lookS b).1,(lookS b).2,()) ∧
  (((lookS b).2=0∧OkA (lookS b).1∧qm_ (lookS b).1=true∧toS (askB (lookS b).1)=toS b)∨(((lookS b).2=1∨(lookS b).2=3)∧(lookS b).1=(b.headD 0,0,0,0,[],[]))):=by
 match b with
 | []=>exact ⟨rfl,Or.inr ⟨Or.inl rfl,rfl⟩⟩
 | f::r =>
  obtain ⟨a,e,h1,h2⟩:=look_any hb
  simp_all [lookS]
def fullS (s:TSl) (b:List Int):TSl×TR:=if (lookS b).2 ≠ 0 then (s,(rem (b.headD 0) 128,(lookS b).2,[],[],0,0)) else servS s (lookS b).1
theorem head_rng {b:List Int} (hb:∀ x ∈ b,0≤x∧x≤255):0≤b.headD 0∧b.headD 0≤255:=by
 match b with
 | []=>simp
 | f::r=>simp_all
theorem rem_rng {x:Int} (h0:0≤x):0≤rem x 128∧rem x 128 < 128:=by
 grind [rem,kC]
theorem fullS_ok {s:TSl} (h:OkS s) {b:List Int} (hb:∀ x ∈ b,0≤x∧x≤255):OkS (fullS s b).1∧Rep (fullS s b).2:=by
 unfold fullS
 obtain ⟨_,h2⟩:=look_S hb
 grind [rem_rng,head_rng,rep_wrong,servS_ok,servS_rep]
theorem sown_r_eq {s:TSl} (h:OkS s):q10v_ (s,())=some (s.1,s.2.1,s.2.2.1.1,s.2.2.1.2.1.1,s.2.2.1.2.1.2,s.2.2.1.2.2.1,s.2.2.1.2.2.2.1,s.2.2.1.2.2.2.2.1,s.2.2.1.2.2.2.2.2.1.1,
  s.2.2.1.2.2.2.2.2.1.2.1.getD 0 false,s.2.2.1.2.2.2.2.2.1.2.1.getD 1 false,s.2.2.1.2.2.2.2.2.1.2.1.getD 2 false,s.2.2.1.2.2.2.2.2.1.2.1.getD 3 false,s.2.2.1.2.2.2.2.2.1.2.1.getD 4 false,s.2.2.1.2.2.2.2.2.1.2.1.getD 5 false,s.2.2.1.2.2.2.2.2.1.2.1.getD 6 false,s.2.2.1.2.2.2.2.2.1.2.1.getD 7 false,
  (s.2.2.1.2.2.2.2.2.1.2.2.getD 0 (0,[])).1,(s.2.2.1.2.2.2.2.2.1.2.2.getD 0 (0,[])).2,(s.2.2.1.2.2.2.2.2.1.2.2.getD 1 (0,[])).1,(s.2.2.1.2.2.2.2.2.1.2.2.getD 1 (0,[])).2,(s.2.2.1.2.2.2.2.2.1.2.2.getD 2 (0,[])).1,(s.2.2.1.2.2.2.2.2.1.2.2.getD 2 (0,[])).2,(s.2.2.1.2.2.2.2.2.1.2.2.getD 3 (0,[])).1,(s.2.2.1.2.2.2.2.2.1.2.2.getD 3 (0,[])).2,(s.2.2.1.2.2.2.2.2.1.2.2.getD 4 (0,[])).1,(s.2.2.1.2.2.2.2.2.1.2.2.getD 4 (0,[])).2,(s.2.2.1.2.2.2.2.2.1.2.2.getD 5 (0,[])).1,(s.2.2.1.2.2.2.2.2.1.2.2.getD 5 (0,[])).2,(s.2.2.1.2.2.2.2.2.1.2.2.getD 6 (0,[])).1,(s.2.2.1.2.2.2.2.2.1.2.2.getD 6 (0,[])).2,(s.2.2.1.2.2.2.2.2.1.2.2.getD 7 (0,[])).1,(s.2.2.1.2.2.2.2.2.1.2.2.getD 7 (0,[])).2,
  s.2.2.1.2.2.2.2.2.2,s.2.2.2,()):=by
 have hw:∀ i,((s.2.2.1.2.2.2.2.2.1.2.2.getD i (0,[])).2).length≤1000000:=fun i=>by
  rw [zX]
  cases hx:s.2.2.1.2.2.2.2.2.1.2.2[i]? with
  | none=>simp
  | some x=>have:=h.a.bb x (zY hx); grind
 have hc:=h.c
 have hbl:=h.a.bl
 show qr7_ s=_
 unfold qr7_
 rw [cloneBr_eq (by omega),zD,q2h_ (by omega),zD,q2h_ (hw 0),zD,q2h_ (hw 1),zD,q2h_ (hw 2),zD,q2h_ (hw 3),zD,q2h_ (hw 4),zD,q2h_ (hw 5),zD,q2h_ (hw 6),zD,q2h_ (hw 7),zD]
theorem serve_full {s:TSl} (h:OkS s) {b:List Int} (hb:∀ x ∈ b,0≤x∧x≤255):q7o_ (s,b,())=some ((fullS s b).1,repB (fullS s b).2,()):=by
 obtain ⟨ok,rp⟩:=fullS_ok h hb
 obtain ⟨h1,h2⟩:=look_S hb
 show qra_ s b=_
 unfold qra_
 rw [sown_r_eq h,zD]
 have key:zC (qgz_ (b,())) (fun y=>if eqi y.2.1 0=true then zC (q3m_ ()) fun y_1=>zC (q7w_ (y_1.1,y.1,())) fun y_2=>midS y_2.1 s y.1 else midS y.2.1 s y.1)=some ((fullS s b).1,(fullS s b).2,()):=by
  rw [h1,zD]
  dsimp only
  unfold fullS
  rcases h2 with ⟨e,ha,hr,_⟩ | ⟨e,e2⟩
  ·rw [if_pos (q4_.2 e),space_eq,zD,check_eq ha hr,zD,if_neg (show ¬ ((lookS b).2 ≠ 0) by omega)]
   grind [mid_serv]
  ·have hne:(lookS b).2 ≠ 0:=by omega
   rw [if_neg (fun x=>hne (q4_.1 x)),if_pos hne,mid_eq h.a.hl h.a.sl,if_pos (qd_.2 hne),e2,wrong_eq]
   rfl
 refine (congrArg (fun z=>zC z fun y=>zC (qj4_ (y.2.1,())) fun y_1=>(some (y.1,y_1.1,()):Option (As qks_.rs))) key).trans ?_
 rw [zD,rep_bytes rp]
 rfl
def bank64 (b:List Int):List Int:=b.take 64++zE (64 - b.length) 0
theorem bank64_len (b:List Int):(bank64 b).length=64:=by
 grind [bank64,zZ,kB,kD]
theorem bank64_rng {b:List Int} (h:∀ x ∈ b,0≤x∧x≤65535):∀ x ∈ bank64 b,0≤x∧x≤65535:=by
 intro x hx
 rcases List.mem_append.1 hx with e | e
 ·grind
 simp_all
theorem lbank_eq (b:List Int):qrz_ (b,())=some (bank64 b,()):=by
 show q10c_ b=_
 unfold q10c_ bank64
 grind
theorem look_ask {a:TA} (ha:OkA a) (hr:qm_ a=true):lookS (askB a)=(a,0):=by
 have hl:=(askB_len (q1q_ hr)).1
 unfold lookS
 have:qgz_ (askB a,())=some (a,0,()):=by
  show qjq_ (askB a)=_
  unfold qjq_
  rw [if_neg (by grind [q4_,q2_]),aparse_eq ha hr]
  rfl
 simp_all
theorem full_ask {s:TSl} {a:TA} (ha:OkA a) (hr:qm_ a=true):fullS s (askB a)=servS s a:=by
 simp_all [fullS,look_ask,if_neg]
theorem serve_ask {s:TSl} (h:OkS s) {a:TA} (ha:OkA a) (hr:qm_ a=true):q7o_ (s,askB a,())=some ((servS s a).1,repB (servS s a).2,()):=by
 rw [serve_full h (askB_bytes (q1q_ hr)),full_ask ha hr]
theorem abytes_eq {a:TA} (ha:OkA a) (hr:qm_ a=true):q6m_ (a,())=some (askB a,0,()):=by
 rw [qys_ ha,if_pos hr]
theorem fits_ex {a:TA} (hr:qm_ a=true) {e:Int} (he:e ≠ 0) (h:RR (a.1,e,[],[],0,0)):fitsV a (a.1,e,[],[],0,0)=true:=by
 unfold fitsV
 rw [hr,RR_right h]
 dsimp only
 rw [if_pos he,decide_eq_true rfl]
 rfl
theorem rdBits_drop {c:List Bool} {p n:Nat} (h:p + n≤c.length):(rdBits c p n).drop n=zE ((n + 7) / 8 * 8 - n) false:=by
 grind [rdBits,List.drop_left',kB,List.length_drop]
theorem fits_ans {s:TSl} (h:OkS s) {a:TA} (ha:OkA a) (hr:qm_ a=true) (hc:chkS a=true):fitsV a (answS s a)=true:=by
 have rp:=answS_rep h ha hr hc
 have p0:=ha.at0
 have hcl:=h.c
 have hil:=inpS_len s.2.2.1
 have hhl:=holdS_len h.a
 unfold fitsV
 rw [hr,rp.rt,Bool.true_and,Bool.true_and]
 unfold chkS at hc
 have bits:∀ (c:List Bool) (p n:Nat),p + n≤c.length->1≤n->(if 0 < (rdBits c p n).length then decide (((rdBits c p n).length:Int)=((n:Int) + 7) / 8 * 8) && !decide (true ∈ (rdBits c p n).drop (zI (n:Int))) else decide ((([]:List Int).length:Int)=(n:Int)))=true:=fun c p n hle h1=>by
  have hl:=rdBits_len hle
  rw [if_pos (by omega),zQ,rdBits_drop hle,decide_eq_true (by omega),decide_eq_false (by simp)]
  rfl
 have words:∀ (c:List Int) (p n:Nat),p + n≤c.length->(if 0 < ([]:List Bool).length then decide ((([]:List Bool).length:Int)=((n:Int) + 7) / 8 * 8) && !decide (true ∈ ([]:List Bool).drop (zI (n:Int))) else decide ((((c.drop p).take n).length:Int)=(n:Int)))=true:=fun c p n hle=>by
  grind
 cases q1q_ hr with
 | bits f p n hf g1 g2 =>
  obtain ⟨p,rfl⟩:=zN (show 0≤p from p0)
  obtain ⟨n,rfl⟩:=zN (show 0≤n by omega)
  rcases hf with rfl | rfl
  ·have hc:(p:Int) + (n:Int)≤16:=of_decide_eq_true hc
   exact bits s.2.2.2 p n (by omega) (by omega)
  ·have hc:(p:Int) + (n:Int)≤8:=of_decide_eq_true hc
   exact bits (inpS s.2.2.1) p n (by omega) (by omega)
 | words f p n hf g1 g2 =>
  obtain ⟨p,rfl⟩:=zN (show 0≤p from p0)
  obtain ⟨n,rfl⟩:=zN (show 0≤n by omega)
  rcases hf with rfl | rfl
  ·have hle:=rdH_le (p:=(p:Int)) (m:=n) (by omega) hc
   exact words (holdS s.2.2.1) p n (by omega)
  ·have hc:(p:Int) + (n:Int)≤8:=of_decide_eq_true hc
   exact words (statA s.2.2.1) p n (by show p + n≤8; omega)
 | coil p b=>show (decide ((5:Int)=5) && decide (((5,0,[b],[],p,0):TR)=(5,0,[b],[],p,0)))=true; simp
 | word p x=>simp_all
 | coils p l g1 g2=>show (decide ((15:Int)=15) && decide (((15,0,[],[],p,(l.length:Int)):TR)=(15,0,[],[],p,(l.length:Int))))=true; simp
 | regs p l g1 g2=>show (decide ((16:Int)=16) && decide (((16,0,[],[],p,(l.length:Int)):TR)=(16,0,[],[],p,(l.length:Int))))=true; simp
 | swap p n t l g1 g2 g3 g4 =>
  obtain ⟨p,rfl⟩:=zN (show 0≤p from p0)
  obtain ⟨n,rfl⟩:=zN (show 0≤n by omega)
  have hc1:=(zO _ _ ▸ (show (rdH (p:Int) n && decide (t=272∧l.length=8∨t=288∧l.length=20))=true from hc):_∧_).1
  have hle:=rdH_le (p:=(p:Int)) (m:=n) (by omega) hc1
  exact words (holdS s.2.2.1) p n (by omega)
theorem fits_serv {s:TSl} (h:OkS s) {a:TA} (ha:OkA a) (hr:qm_ a=true):fitsV a (servS s a).2=true:=by
 have rp:=servS_rep h ha hr
 have ok:=servS_ok h ha hr
 unfold servS at rp ok ⊢
 split
 ·rename_i q
  rw [if_pos q] at rp
  exact fits_ex hr (by decide) rp.rr
 ·rename_i hc
  rw [if_neg hc] at ok rp
  have hc:=chk_t hc
  split
  ·simp_all [if_pos,fits_ans]
  ·rename_i q
   rw [if_neg q] at ok rp
   split
   ·simp_all [fits_ans]
   ·rename_i q2
    rw [if_neg q2] at ok rp
    split
    ·rename_i q3
     rw [if_pos q3] at rp
     exact fits_ex hr q3 rp.rr
    simp_all [if_neg,fits_ans]
theorem hold_fold {a:TAg} (h:OkG a) {p n:Nat} (hd:p + n≤512):∀ k:Nat,k≤8->(((List.range k).foldl (fun h b=>cpy h (512 + b * 32) (backS a.2.2.2.2.2.1 a.2.1.1 (b:Int))) (cpy (cpy (zE 756 0) 0 a.1) 256 (statA a))).drop p).take n=((cpy (cpy (zE 756 0) 0 a.1) 256 (statA a)).drop p).take n
 | 0,_=>rfl
 | k + 1,hk=>by
  have hl:=holdP_len h k (by omega)
  rw [List.range_succ,List.foldl_append,List.foldl_cons,List.foldl_nil,cpy_out (by grind [backS_len]) (Or.inr (by omega)),hold_fold h hd k (by omega)]
theorem cpy0_len {a:TAg} (h:OkG a):(cpy (zE 756 (0:Int)) 0 a.1).length=756:=by
 have:=h.bl
 simp_all [cpy_len,kD]
theorem hold_stat {a:TAg} (h:OkG a):((holdS a).drop 256).take 8=statA a:=by
 unfold holdS
 rw [hold_fold h (by omega) 8 (by omega)]
 exact cpy_in (w:=statA a) (by rw [cpy0_len h]; show 256 + 8≤756; omega)
theorem hold_back {a:TAg} (h:OkG a) {i:Nat} (hi:i < 8):((holdS a).drop (512 + i * 32)).take 20=backS a.2.2.2.2.2.1 a.2.1.1 (i:Int):=by
 have hg:∀ k:Nat,i < k->k≤8->(((List.range k).foldl (fun h b=>cpy h (512 + b * 32) (backS a.2.2.2.2.2.1 a.2.1.1 (b:Int))) (cpy (cpy (zE 756 0) 0 a.1) 256 (statA a))).drop (512 + i * 32)).take 20=backS a.2.2.2.2.2.1 a.2.1.1 (i:Int):=by
  intro k
  induction k with
  | zero=>omega
  | succ k ih =>
   intro h1 h2
   have hl:=holdP_len h k (by omega)
   rw [List.range_succ,List.foldl_append,List.foldl_cons,List.foldl_nil]
   by_cases e:i=k
   ·grind [cpy_in,List.range,cpy,backS,Int,zE,statA,backS_len]
   ·rw [cpy_out (by grind [backS_len]) (Or.inr (by omega)),ih (by omega) (by omega)]
 exact hg 8 hi (Nat.le_refl _)
theorem lwords_eq {a b:List Int} (h:a.length≤1000000):qgi_ (a,b,())=some (decide (a=b),()):=by
 show qpf_ qg7_ a b=_
 unfold qpf_
 by_cases hl:a.length=b.length
 ·rw [if_neg (by simp_all [qd_,q2_])]
  unfold qg7_
  have hz:(a.zip b).length=a.length:=by simp_all
  rw [<- goL_eq (ne:=nei) (fun a b=>by rfl) a b hl]
  refine loop_go (xs:=a.zip b) (mk:=fun i _=>(a,b,zF a.length,(i:Int))) ?_ ?_ a.length 0 () _ (by omega) (by omega)
  ·intro self i acc x hx
   have hi:=(List.getElem?_eq_some_iff.1 hx).1
   obtain ⟨h1,h2⟩:=zip_at hl hx
   show qgx_ _ a b (zF a.length) (i:Int)=_
   unfold qgx_
   rw [if_pos (by grind [q5_,q2_]),qf_ h1,zD,qf_ h2,zD,qv_ (by omega)]
  simp_all [qgx_,zF,Nat,Int,if_neg,q5_,q2_]
 ·rw [if_pos (by grind [qd_,q2_]),decide_eq_false (fun e=>hl (by rw [e]))]
theorem awords_eq {c:TCm} (h1:0≤c.2.1∧c.2.1≤255) (h2:0≤c.2.2.1∧c.2.2.1≤4294967295) (h3:0≤c.2.2.2.2∧c.2.2.2.2≤4294967295):qsh_ (c,())=some ([c.1,c.2.1,c.2.2.1 / 65536,c.2.2.1 % 65536,c.2.2.2.1,c.2.2.2.2 / 65536,c.2.2.2.2 % 65536,0],()):=by
 show qqn_ c=_
 grind [qqn_,parts_eq,cvt,wu16]
theorem slown_eq {s:TSl} (h:OkS s):qmx_ (s,())=some (s,()):=by
 have hc:=h.c
 have hbl:=h.a.bl
 obtain ⟨u,l,⟨bk,ls,ph,tx,la,⟨st,hv,bs⟩,tk⟩,co⟩:=s
 have hsl:bs.length=8:=h.a.sl
 have hbb:∀ b ∈ bs,b.2.length≤1000:=h.a.bb
 show qpr_ qc0_ (u,l,(bk,ls,ph,tx,la,(st,hv,bs),tk),co)=_
 unfold qpr_
 dsimp only at hc hbl ⊢
 rw [cloneB_eq (by omega),zD,q2h_ (by omega),zD]
 show qc0_ 0 0 0 [(u,l,(bk,ls,ph,tx,la,(st,hv,bs),tk),co)] _=_
 unfold qc0_
 refine loop_dt (N:=8) (mk:=fun i=>(0,0,(i:Int),[(u,l,(bk,ls,ph,tx,la,(st,hv,bs),tk),co)],_)) ?_ ?_ 8 0 _ (by omega) (by omega)
 ·intro self i hi
  show qch_ _ 0 0 (i:Int) [(u,l,(bk,ls,ph,tx,la,(st,hv,bs),tk),co)] _=_
  obtain ⟨b,hb⟩:=get_of (xs:=bs) (i:=i) (by omega)
  have l8:lt (i:Int) 8=true:=q5_.2 (by omega)
  have g0:ge (i:Int) 0=true:=qs_.2 (by omega)
  have hset:bs.set i (b.1,b.2)=bs:=by
   apply List.ext_getElem?
   intro j
   by_cases e:i=j
   ·subst e
    rw [List.getElem?_set_self (by omega),hb]
   ·rw [List.getElem?_set_ne e]
  unfold qch_
  rw [if_pos l8,q9_ g0,q9_ l8,q12_,zD]
  dsimp only
  rw [qf_ hb,zD,q2h_ (by have:=hbb b (zY hb); omega),zD,zD]
  dsimp only
  rw [qf_ hb,zD,qv_ (by omega),zQ,hset]
  rfl
 ·intro self
  show qch_ _ 0 0 (8:Int) [(u,l,(bk,ls,ph,tx,la,(st,hv,bs),tk),co)] _=_
  unfold qch_
  rw [if_neg (by decide)]
  rfl
def takeS (s:TSl) (f:List Int):TSl×List Int :=
 if s.2.1=2 then
  if (mbapP f).2 ≠ 0∨(mbapP f).1.2.1 ≠ s.1 then (s,[]) else ((fullS s (mbapP f).1.2.2).1,mbapV (mbapP f).1.1 (mbapP f).1.2.1 (repB (fullS s (mbapP f).1.2.2).2))
 else
  if (rtuV f).2.2 ≠ 0∨(rtuV f).1 ≠ s.1 then (s,[]) else ((fullS s (rtuV f).2.1).1,putV ((rtuV f).1::repB (fullS s (rtuV f).2.1).2))
theorem rep_len {r:TR} (h:Rep r):2≤(repB r).length∧(repB r).length≤253:=repB_len h.rr
theorem mbapP_bytes {f:List Int} (hf:∀ x ∈ f,0≤x∧x≤255):∀ x ∈ (mbapP f).1.2.2,0≤x∧x≤255:=by
 intro x hx
 unfold mbapP at hx
 split at hx
 ·rename_i b0 b1 b2 b3 b4 b5 b6 pdu
  have hp:∀ y ∈ pdu,0≤y∧y≤255:=fun y hy=>hf y (by simp [hy])
  revert hx
  repeat' split
  all_goals first | exact fun hx=>hp x hx | (intro hx; cases hx)
 ·cases hx
theorem rtuV_bytes {f:List Int} (hf:∀ x ∈ f,0≤x∧x≤255):∀ x ∈ (rtuV f).2.1,0≤x∧x≤255:=by
 intro x hx
 unfold rtuV at hx
 split at hx
 ·cases hx
 ·split at hx
  ·cases hx
  ·rename_i h0
   have hc:∀ y ∈ (cutV f).1,0≤y∧y≤255:=by
    intro y hy
    unfold cutV at hy
    split at hy
    ·cases hy
    ·split at hy
     ·exact hf y (List.mem_of_mem_take hy)
     ·cases hy
   split at hx
   ·cases hx
   ·rename_i a r he
    rw [he] at hc
    split at hx
    ·exact hc x (List.mem_cons_of_mem _ hx)
    ·cases hx
theorem stake_eq {s:TSl} (h:OkS s) {f:List Int} (hf:∀ x ∈ f,0≤x∧x≤255) (hl:f.length≤100000):qi3_ (s,f,())=some ((takeS s f).1,(takeS s f).2,()):=by
 have hu:=h.u
 show qlh_ q9n_ qdw_ s f=_
 unfold qlh_ takeS
 by_cases hk:s.2.1=2
 ·rw [if_pos (q4_.2 hk),if_pos hk,mparse_eq hl hf,zD]
  have hb:=mbapP_bytes hf
  have K:∀ t z,q9n_ 0 0 t [s] [z] (mbapP f).1=some (if t=true then (s,[],()) else ((fullS s (mbapP f).1.2.2).1,if (mbapP f).1.2.1=s.1 then mbapV (mbapP f).1.1 (mbapP f).1.2.1 (repB (fullS s (mbapP f).1.2.2).2) else ((q9n_ 0 0 t [s] [z] (mbapP f).1).getD (s,[],())).2.1,())):=fun t z=>by
   cases t with
   | true =>
    show q9r_ 0 0 true [s] [z] (mbapP f).1=_
    unfold q9r_
    rw [if_pos rfl,q12_,zD,slown_eq h]
    rfl
   | false =>
    obtain ⟨ok,rp⟩:=fullS_ok h hb
    have hlen:=rep_len rp
    have e:q9n_ 0 0 false [s] [z] (mbapP f).1=some ((fullS s (mbapP f).1.2.2).1,mbapV (mbapP f).1.1 (mbapP f).1.2.1 (repB (fullS s (mbapP f).1.2.2).2),()):=by
     show q9r_ 0 0 false [s] [z] (mbapP f).1=_
     unfold q9r_
     rw [if_neg (by decide),q12_,zD,serve_full h hb,zD,zD]
     dsimp only
     rw [q1nx_ (by omega) hlen.2]
     rfl
    rw [e]
    simp
  by_cases h0:(mbapP f).2=0
  ·rw [if_neg (fun e=>qd_.1 e h0)]
   by_cases h1:(mbapP f).1.2.1=s.1
   ·have hn:nei (mbapP f).1.2.1 s.1=false:=by
     rw [Bool.eq_false_iff]
     exact fun e=>qd_.1 e h1
    dsimp only
    rw [hn,K,if_neg (by decide),if_pos h1,if_neg (by rintro (e | e); exact e h0; exact e h1)]
   ·dsimp only
    rw [qd_.2 h1,K,if_pos rfl,if_pos (Or.inr h1)]
  ·rw [if_pos (qd_.2 h0)]
   dsimp only
   rw [K,if_pos rfl,if_pos (Or.inl h0)]
 ·rw [if_neg (fun e=>hk (q4_.1 e)),if_neg hk,rtup_eq,zD]
  have hb:=rtuV_bytes hf
  have Kt:∀ z,qdw_ 0 0 (rtuV f).1 (rtuV f).2.1 true [s] [z]=some (s,[],()):=fun z=>by
   show q9i_ 0 0 (rtuV f).1 (rtuV f).2.1 true [s] [z]=_
   unfold q9i_
   rw [if_pos rfl,q12_,zD,slown_eq h]
   rfl
  have Kf:∀ z,(rtuV f).1=s.1->qdw_ 0 0 (rtuV f).1 (rtuV f).2.1 false [s] [z]=some ((fullS s (rtuV f).2.1).1,putV ((rtuV f).1::repB (fullS s (rtuV f).2.1).2),()):=fun z hz=>by
   obtain ⟨ok,rp⟩:=fullS_ok h hb
   have hlen:=rep_len rp
   show q9i_ 0 0 (rtuV f).1 (rtuV f).2.1 false [s] [z]=_
   unfold q9i_
   rw [if_neg (by decide),q12_,zD,serve_full h hb,zD,zD]
   dsimp only
   rw [rtub_eq (by omega) (by omega) (by omega) hlen.2]
   rfl
  by_cases h0:(rtuV f).2.2=0
  ·rw [if_neg (fun e=>qd_.1 e h0)]
   by_cases h1:(rtuV f).1=s.1
   ·have hn:nei (rtuV f).1 s.1=false:=by
     rw [Bool.eq_false_iff]
     exact fun e=>qd_.1 e h1
    dsimp only
    rw [hn,Kf _ h1,if_neg (by rintro (e | e); exact e h0; exact e h1)]
   ·dsimp only
    rw [qd_.2 h1,Kt,if_pos (Or.inr h1)]
  ·rw [if_pos (qd_.2 h0)]
   dsimp only
   rw [Kt,if_pos (Or.inl h0)]
theorem takeS_ok {s:TSl} (h:OkS s) {f:List Int} (hf:∀ x ∈ f,0≤x∧x≤255):OkS (takeS s f).1:=by
 unfold takeS
 split
 ·split
  ·exact h
  ·exact (fullS_ok h (mbapP_bytes hf)).1
 ·split
  ·exact h
  ·exact (fullS_ok h (rtuV_bytes hf)).1
def cmdA (c:TCm):TA:=(23,256,8,272,[c.1,c.2.1,c.2.2.1 / 65536,c.2.2.1 % 65536,c.2.2.2.1,c.2.2.2.2 / 65536,c.2.2.2.2 % 65536,0],[])
structure OkC (c:TCm):Prop where
 o:0≤c.1∧c.1≤65535
 v:0≤c.2.1∧c.2.1≤255
 t:0≤c.2.2.1∧c.2.2.1≤4294967295
 n:0≤c.2.2.2.1∧c.2.2.2.1≤65535
 k:0≤c.2.2.2.2∧c.2.2.2.2≤4294967295
theorem cmdA_ok {c:TCm} (h:OkC c):OkA (cmdA c)∧qm_ (cmdA c)=true∧chkS (cmdA c)=true:=by
 have h1:=h.o
 have h2:=h.v
 have h3:=h.t
 have h4:=h.n
 have h5:=h.k
 refine ⟨⟨(by decide:(0:Int)≤23),(by decide:(23:Int)≤255),(by decide:(0:Int)≤256),(by decide:(256:Int)≤65535),(by decide:(0:Int)≤8),(by decide:(8:Int)≤65535),(by decide:(0:Int)≤272),(by decide:(272:Int)≤65535),?_,(by decide:8≤100000),(by decide:0≤100000)⟩,rfl,?_⟩
 ·intro x hx
  simp only [cmdA,List.mem_cons,List.not_mem_nil,or_false] at hx
  rcases hx with e | e | e | e | e | e | e | e <;> omega
 ·show (rdH 256 8 && decide ((272:Int)=272∧8=8∨(272:Int)=288∧8=20))=true
  decide
theorem cmdA_read {c:TCm} (h:OkC c):readC (cmdA c).2.2.2.2.1=(c,0):=by
 have h2:=h.v
 have h3:=h.t
 have h5:=h.k
 obtain ⟨o,v,t,n,k⟩:=c
 show readC [o,v,t / 65536,t % 65536,n,k / 65536,k % 65536,0]=_
 unfold readC
 dsimp only at h2 h3 h5
 rw [if_neg (by simp; omega)]
 refine Prod.ext (Prod.ext rfl (Prod.ext rfl (Prod.ext ?_ (Prod.ext rfl ?_)))) rfl
 ·show 65536 * (t / 65536) + t % 65536=t
  omega
 ·show 65536 * (k / 65536) + k % 65536=k
  omega
theorem serv_cmd {s:TSl} (hs:OkS s) {c:TCm} (h:OkC c) {A:TAg} (hA:doS (ownA s.2.2.1) c=(A,0)) (ok:OkG A):servS s (cmdA c)=(setA s A,(23,0,[],statA A,0,0)):=by
 obtain ⟨_,_,h3⟩:=cmdA_ok h
 have hw:wroteS s.2.2.1 (atW (cmdA c)) (cmdA c).2.2.2.2.1=(A,0):=by
  show wroteS s.2.2.1 272 (cmdA c).2.2.2.2.1=_
  unfold wroteS
  rw [if_pos rfl,cmdA_read h,hA,if_neg (by simp),if_neg (by simp)]
 have hn:¬ ((cmdA c).1=5∨(cmdA c).1=15):=by
  show ¬ ((23:Int)=5∨(23:Int)=15)
  decide
 have hl:¬ (cmdA c).2.2.2.2.1.length=0:=by
  show ¬ (8=0)
  decide
 unfold servS
 rw [if_neg (by rw [h3]; decide),if_neg hn,if_neg hl,hw,if_neg (by simp)]
 refine congrArg (fun x=>(setA s A,x)) ?_
 show ((23:Int),(0:Int),([]:List Bool),((holdS A).drop 256).take 8,(0:Int),(0:Int))=_
 rw [hold_stat ok]
def blkA (w:List Int):TA:=(16,288,20,0,w,[])
theorem blkA_ok {w:List Int} (hl:w.length=20) (hr:∀ x ∈ w,0≤x∧x≤65535):OkA (blkA w)∧qm_ (blkA w)=true∧chkS (blkA w)=true:=by
 refine ⟨⟨(by decide:(0:Int)≤16),(by decide:(16:Int)≤255),(by decide:(0:Int)≤288),(by decide:(288:Int)≤65535),(by decide:(0:Int)≤20),(by decide:(20:Int)≤65535),(by decide:(0:Int)≤0),(by decide:(0:Int)≤65535),hr,by show w.length≤100000; omega,(by decide:0≤100000)⟩,?_,?_⟩
 ·match w,hl with
  | [_,_,_,_,_,_,_,_,_,_,_,_,_,_,_,_,_,_,_,_],_=>rfl
 ·show decide ((288:Int)=272∧w.length=8∨(288:Int)=288∧w.length=20)=true
  rw [decide_eq_true_eq]
  exact Or.inr ⟨rfl,hl⟩
theorem serv_blk {s:TSl} (hs:OkS s) {o tx n:Int} {x:TBlk} (hf:fitsB x=true) (hn:0≤n∧n≤7) (hr:∀ y ∈ tagB o tx n x,0≤y∧y≤65535) {A:TAg} (hA:putA (ownA s.2.2.1) o tx n x=(A,0)) :
  servS s (blkA (tagB o tx n x))=(setA s A,(16,0,[],[],288,20)):=by
 obtain ⟨_,_,h3⟩:=blkA_ok tagB_len hr
 have hw:wroteS s.2.2.1 (atW (blkA (tagB o tx n x))) (blkA (tagB o tx n x)).2.2.2.2.1=(A,0):=by
  show wroteS s.2.2.1 288 (tagB o tx n x)=_
  unfold wroteS
  rw [if_neg (by decide),rdB_tag hf hn.2]
  dsimp only
  rw [hA,if_neg (by simp),if_neg (by simp)]
 have hl:¬ (blkA (tagB o tx n x)).2.2.2.2.1.length=0:=by
  show ¬ ((tagB o tx n x).length=0)
  rw [tagB_len]
  decide
 unfold servS
 rw [if_neg (by rw [h3]; decide),if_neg (show ¬ ((blkA (tagB o tx n x)).1=5∨(blkA (tagB o tx n x)).1=15) from (by decide:¬ ((16:Int)=5∨(16:Int)=15))),if_neg hl,hw,if_neg (by simp)]
 rfl
def rdQ (p n:Int):TA:=(3,p,n,0,[],[])
theorem rdQ_ok {p n:Int} (hp:0≤p∧p≤65535) (hn:1≤n∧n≤125):OkA (rdQ p n)∧qm_ (rdQ p n)=true:=by
 refine ⟨⟨(by decide:(0:Int)≤3),(by decide:(3:Int)≤255),hp.1,hp.2,by show 0≤n; omega,by show n≤65535; omega,(by decide:(0:Int)≤0),(by decide:(0:Int)≤65535),nilW,(by decide:0≤100000),(by decide:0≤100000)⟩,?_⟩
 show rightS (3,p,n,0,[],[]) (125,0,0,false,false)=true
 unfold rightS
 dsimp only
 have e:withinV n 125=true:=by
  unfold withinV
  rw [if_neg (by decide),if_pos (qs_.2 hn.1),qo_.2 hn.2]
 rw [e]
 rfl
theorem serv_rd (s:TSl) {p n:Int} (hc:rdH p n.toNat=true):servS s (rdQ p n)=(s,(3,0,[],((holdS s.2.2.1).drop p.toNat).take n.toNat,0,0)):=by
 have h3:chkS (rdQ p n)=true:=hc
 unfold servS
 rw [if_neg (by rw [h3]; decide),if_neg (show ¬ ((rdQ p n).1=5∨(rdQ p n).1=15) from (by decide:¬ ((3:Int)=5∨(3:Int)=15))),if_pos (by rfl)]
 rfl
theorem rdH_back {i:Nat} (hi:i < 8):rdH (512 + (i:Int) * 32) 20=true:=by
 have:∀ i:Fin 8,rdH (512 + (i.1:Int) * 32) 20=true:=by decide
 exact this ⟨i,hi⟩
theorem bsame_z1 {x y:TBlk} (h:x.2.length≤1000000):qpj_ (x,y,())=some (decide (x=y),()):=by
 show qo0_ x y=_
 unfold qo0_
 by_cases e:x.1=y.1
 ·rw [if_pos (q4_.2 e),equalW_eq h,zD]
  refine congrArg (fun b=>some (b,())) ?_
  grind
 ·rw [if_neg (fun h=>e (q4_.1 h)),decide_eq_false (fun h=>e (by rw [h]))]
theorem bsame_eq {a b:List TBlk} (hl:a.length≤1000000) (hw:∀ x ∈ a,x.2.length≤1000000):qun_ (a,b,())=some (decide (a=b),()):=by
 have hE:q3z_ (a,b,())=some (decide (a=b),()):=by
  show q31_ q2a_ a b=_
  unfold q31_
  by_cases hl2:a.length=b.length
  ·rw [if_neg (by simp_all [qd_,q2_])]
   unfold q2a_
   have hz:(a.zip b).length=a.length:=by simp_all
   rw [<- goL_eq (ne:=fun x y=>!decide (x=y)) (fun _ _=>rfl) a b hl2]
   refine loop_go (xs:=a.zip b) (mk:=fun i _=>(b,a,zF a.length,(i:Int))) ?_ ?_ a.length 0 () _ (by omega) (by omega)
   ·intro self i acc x hx
    have hi:=(List.getElem?_eq_some_iff.1 hx).1
    obtain ⟨h1,h2⟩:=zip_at hl2 hx
    show q24_ _ b a (zF a.length) (i:Int)=_
    unfold q24_
    rw [if_pos (by grind [q5_,q2_]),qf_ h1,zD,qf_ h2,zD,bsame_z1 (hw _ (zY h1)),zD,qv_ (by omega)]
   simp_all [q24_,zF,Nat,Int,if_neg,q5_,q2_]
  ·rw [if_pos (by grind [qd_,q2_]),decide_eq_false (fun e=>hl2 (by rw [e]))]
 show qz4_ a b=_
 simp_all [qz4_]
theorem nz_of_blk:∀ {hv:List Bool} {b1 b2:List TBlk},b1.length=hv.length->b2.length=hv.length->blkS hv b1=blkS hv b2->nzB hv b1=nzB hv b2
 | [],_,_,_,_,_=>rfl
 | h::r,[],_,e,_,_=>by grind
 | h::r,_::_,[],_,e,_=>by grind
 | h::r,x::p,y::q,e1,e2,e=>by
  have ih:=nz_of_blk (hv:=r) (b1:=p) (b2:=q) (by simp_all) (by simp_all)
  unfold blkS nzB at *
  rw [List.zip_cons_cons,List.zip_cons_cons,List.filter_cons,List.filter_cons] at e
  rw [List.zipWith_cons_cons,List.zipWith_cons_cons]
  grind
theorem ssame_eq {a b:TStg} (h1:a.2.1.length=8) (h2:a.2.2.length=8) (h3:b.2.1.length=8) (h4:b.2.2.length=8) (hw:∀ x ∈ a.2.2,x.2.length≤1000) (hw2:∀ x ∈ b.2.2,x.2.length≤1000) :
  qwy_ (a,b,())=some (decide ((a.1,a.2.1,nzB a.2.1 a.2.2)=(b.1,b.2.1,nzB b.2.1 b.2.2)),()):=by
 have sa:=sblocks_eq h1 h2 hw
 have sb:=sblocks_eq h3 h4 hw2
 have hbl:(blkS a.2.1 a.2.2).length≤8:=by grind [blkS_le]
 have hbw:∀ x ∈ blkS a.2.1 a.2.2,x.2.length≤1000000:=fun x hx=>by grind [blkS_mem]
 obtain ⟨st,hv,bs⟩:=a
 obtain ⟨st',hv',bs'⟩:=b
 dsimp only at h1 h2 h3 h4 sa sb hbl hbw ⊢
 show qvq_ (st,hv,bs) (st',hv',bs')=_
 unfold qvq_
 by_cases e1:st=st'
 ·rw [if_pos (q4_.2 e1)]
  dsimp only
  have e8:((eqb (zJ hv 0 false) (zJ hv' 0 false) && (eqb (zJ hv 1 false) (zJ hv' 1 false) && (eqb (zJ hv 2 false) (zJ hv' 2 false) && (eqb (zJ hv 3 false) (zJ hv' 3 false) && (eqb (zJ hv 4 false) (zJ hv' 4 false) && (eqb (zJ hv 5 false) (zJ hv' 5 false) && (eqb (zJ hv 6 false) (zJ hv' 6 false) && (eqb (zJ hv 7 false) (zJ hv' 7 false) && true))))))))=true) ↔ hv=hv':=by
   simp only [zO,eqb_iff,and_true]
   constructor
   ·grind [getD8]
   simp_all
  by_cases e2:hv=hv'
  ·subst e1
   subst e2
   rw [if_pos (e8.2 rfl),sa,zD,sb,zD]
   dsimp only
   rw [bsame_eq (by omega) hbw,zD]
   refine congrArg (fun b=>some (b,())) ?_
   rw [decide_eq_decide]
   grind [nz_of_blk,Prod.mk.inj,blkS_nz]
  simp_all
 ·rw [if_neg (fun e=>e1 (q4_.1 e)),decide_eq_false (fun e=>e1 (Prod.mk.inj e).1)]
instance dBk:DecidableEq TBlk:=inferInstance
instance dSt1:DecidableEq (List Bool×List TBlk):=inferInstance
instance dSt:DecidableEq TStg:=inferInstance
instance dAg1:DecidableEq (TStg×Int):=inferInstance
instance dAg2:DecidableEq (Int×TStg×Int):=inferInstance
instance dAg3:DecidableEq (Int×Int×TStg×Int):=inferInstance
instance dAg4:DecidableEq (Int×Int×Int×TStg×Int):=inferInstance
instance dAg5:DecidableEq (TLs×Int×Int×Int×TStg×Int):=inferInstance
instance dAg:DecidableEq TAg:=inferInstance
instance dSl1:DecidableEq (TAg×List Bool):=inferInstance
instance dSl:DecidableEq TSl:=inferInstance
theorem asame_eq {a b:TAg} (h1:SzA a) (h2:SzA b):qx7_ (a,b,())=some (decide (ownA a=ownA b),()):=by
 have hs:=ssame_eq h1.hv h1.bs h2.hv h2.bs h1.bw h2.bw
 have hbk:=h1.bk
 obtain ⟨bk,⟨lo,lf⟩,ph,tx,la,⟨st,hv,bs⟩,tk⟩:=a
 obtain ⟨bk',⟨lo',lf'⟩,ph',tx',la',⟨st',hv',bs'⟩,tk'⟩:=b
 dsimp only at hs hbk
 show qw2_ (bk,(lo,lf),ph,tx,la,(st,hv,bs),tk) (bk',(lo',lf'),ph',tx',la',(st',hv',bs'),tk')=_
 unfold qw2_
 rw [equalW_eq (show bk.length≤1000000 by omega),zD]
 dsimp only
 rw [hs]
 simp only [zD]
 rw [if_dec (p:=bk=bk') decide_eq_true_iff fun _=>if_dec (p:=lo=lo'∧lf=lf') (by simp only [zO,q4_,and_true]) fun _=>if_dec (p:=ph=ph') q4_ fun _=>if_dec (p:=tx=tx') q4_ fun _=>if_dec (p:=la=la') q4_ fun _=>if_dec (p:=(st,hv,nzB hv bs)=(st',hv',nzB hv' bs')) decide_eq_true_iff fun _=>rfl]
 refine congrArg (fun b=>some (b,())) ?_
 show _=decide ((bk,(lo,lf),ph,tx,la,(st,hv,nzB hv bs),tk)=(bk',(lo',lf'),ph',tx',la',(st',hv',nzB hv' bs'),tk'))
 rw [Bool.eq_iff_iff]
 simp only [zO,decide_eq_true_eq,q4_,Prod.mk.injEq]
def ownS (s:TSl):TSl:=setA s (ownA s.2.2.1)
theorem slsame_eq {a b:TSl} (h1:OkS a) (h2:SzA b.2.2.1):qo6_ (a,b,())=some (decide (ownS a=ownS b),()):=by
 have hs:=asame_eq h1.a.sz h2
 have hc:=h1.c
 obtain ⟨u,l,g,c⟩:=a
 obtain ⟨u',l',g',c'⟩:=b
 dsimp only at hs hc
 show qvp_ (u,l,g,c) (u',l',g',c')=_
 unfold qvp_
 dsimp only
 rw [hs,zD]
 rw [equalB_eq (by omega)]
 simp only [zD]
 rw [if_dec (p:=u=u') q4_ fun _=>if_dec (p:=l=l') q4_ fun _=>if_dec (p:=ownA g=ownA g') decide_eq_true_iff fun _=>rfl]
 refine congrArg (fun b=>some (b,())) ?_
 show _=decide ((u,l,ownA g,c)=(u',l',ownA g',c'))
 simp
theorem slsame_self {a:TSl} (h:OkS a):qo6_ (a,a,())=some (true,()):=by
 rw [slsame_eq h h.a.sz,decide_eq_true rfl]
abbrev TOp:=Int×List Int×TA×TCm
structure OkO (o:TOp):Prop where
 w:0≤o.1∧o.1≤255
 b:∀ x ∈ o.2.1,0≤x∧x≤255
 bl:o.2.1.length≤300
 a:OkA o.2.2.1
 c:OkC o.2.2.2
theorem rwords_eq {c:TCm} (h:OkC c):qtu_ (c,())=some ((cmdA c).2.2.2.2.1,()):=by
 have h2:=h.v
 have h3:=h.t
 have h5:=h.k
 show qqx_ c=_
 unfold qqx_
 have q:∀ x:Int,0≤x∧x≤4294967295->cvt .u16 (quo .u32 x 65536)=x / 65536:=fun x hx=>by
  obtain ⟨n,rfl⟩:=zN hx.1
  have:quo .u32 (n:Int) 65536=((n / 65536:Nat):Int):=by
   grind [quo,Int.tdiv_eq_ediv_of_nonneg,wr32]
  rw [this]
  exact (wu16 (by omega) (by omega)).trans (by omega)
 have r:∀ x:Int,0≤x∧x≤4294967295->cvt .u16 (rem x 65536)=x % 65536:=fun x hx=>by
  unfold rem
  rw [kC hx.1]
  exact wu16 (by omega) (by omega)
 rw [q _ h3,q _ h5,r _ h3,r _ h5,show cvt .u16 c.2.1=c.2.1 from wu16 h2.1 (by omega)]
 rfl
theorem copied_eq {a:TA} (h1:a.2.2.2.2.1.length≤1000000) (h2:a.2.2.2.2.2.length≤1000000):qtp_ (a,())=some (a,()):=by
 show qrl_ a=_
 unfold qrl_
 rw [q2h_ h1,zD,cloneB_eq h2,zD]
theorem own_eq {p:TP} (h1:p.2.2.2.2.2.1.2.2.2.2.1.length≤1000000) (h2:p.2.2.2.2.2.1.2.2.2.2.2.length≤1000000):qds_ (p,())=some (p,()):=by
 show q117_ p=_
 unfold q117_
 rw [copied_eq h1 h2,zD]
theorem tcpf_eq {unit tx:Int} {a:TA} (h:OkA a) (hr:qm_ a=true):qs7_ ((),unit,tx,a,())=some (mbapV tx unit (askB a),()):=by
 show qiz_ () unit tx a=_
 unfold qiz_
 have hl:=askB_len (q1q_ hr)
 rw [qys_ h,if_pos hr,zD,if_neg (by show ¬ nei 0 0=true; decide)]
 dsimp only
 rw [q1nx_ (by omega) (by omega),zD,if_neg (by show ¬ nei 0 0=true; decide)]
theorem serf_eq {unit tx:Int} {a:TA} (h:OkA a) (hr:qm_ a=true) (hu:1≤unit) (hu2:unit≤247):qj0_ ((),unit,tx,a,())=some (putV (unit::askB a),()):=by
 show qdt_ () unit tx a=_
 unfold qdt_
 have hl:=askB_len (q1q_ hr)
 have e:q1ep_ (unit,a,())=some (putV (unit::askB a),0,()):=by
  show q138_ unit a=_
  unfold q138_
  rw [qys_ h,if_pos hr,zD,if_neg (by show ¬ nei 0 0=true; decide)]
  dsimp only
  rw [rtub_eq hu hu2 (by omega) (by omega),zD]
 rw [e,zD,if_neg (by show ¬ nei 0 0=true; decide)]
theorem sent_eq {p:TP} (h:OkP p) (hr:qm_ p.2.2.2.2.2.1=true):qzy_ (p,())=some (sentP p,sentB p,()):=by
 show qz3_ p=_
 unfold qz3_ sentP sentB frameV nextV
 by_cases hl:p.2.1=2
 ·have e:qwb_ ((),p.2.2.2.2.2.2.1,())=some ((p.2.2.2.2.2.2.1 + 1) % 65536,()):=congrArg (fun x=>some (x,())) (wr16 _)
  rw [if_pos (q4_.2 hl),e,zD,tcpf_eq h.a hr,zD,if_pos hl,if_pos hl]
 ·have e:qmf_ ((),p.2.2.2.2.2.2.1,())=some (p.2.2.2.2.2.2.1,()):=rfl
  rw [if_neg (fun e=>hl (q4_.1 e)),e,zD,serf_eq h.a hr h.u0 h.u1,zD,if_neg hl,if_neg hl]
theorem send_eq {p:TP} {a:TA} (h:OkP p) (ha:OkA a):qmo_ (p,a,()) =
  if p.2.2.2.2.1=true then some (p,[],30,()) else if qm_ a=true then some (sentP (waitP p a),sentB (waitP p a),0,()) else some (p,[],12,()):=by
 show qy2_ p a=_
 unfold qy2_
 have h1:=h.a.lw
 have h2:=h.a.lb
 have h3:=ha.lw
 have h4:=ha.lb
 rw [own_eq (by omega) (by omega),zD,right_eq ha,zD]
 split
 ·rfl
 ·cases hr:qm_ a with
  | false=>rfl
  | true =>
   rw [if_neg (by decide),if_pos rfl,copied_eq (by omega) (by omega),zD]
   dsimp only
   have hw:OkP (waitP p a):=⟨h.u0,h.u1,h.l,h.t0,h.t1,h.r0,h.r1,ha,h.x0,h.x1⟩
   have e:=sent_eq hw hr
   unfold waitP at e
   rw [e]
   rfl
theorem drop_eq (p:TP):qcr_ (p,())=some (dropP p,()):=rfl
theorem tick_eq {p:TP} (h:OkP p) (hr:p.2.2.2.2.1=true->qm_ p.2.2.2.2.2.1=true∧1≤p.2.2.2.2.2.2.2.1∧p.2.2.2.2.2.2.2.1≤100000∧0≤p.2.2.2.2.2.2.2.2∧p.2.2.2.2.2.2.2.2≤1000) :
  q16z_ (p,())=some ((tickV p).1,(tickV p).2.1,(tickV p).2.2,()):=by
 show qxt_ p=_
 unfold qxt_
 have h1:=h.a.lw
 have h2:=h.a.lb
 rw [own_eq (by omega) (by omega),zD]
 dsimp only
 unfold tickV
 by_cases hw:p.2.2.2.2.1=true
 ·obtain ⟨q1,q2,q3,q4,q5⟩:=hr hw
  rw [if_neg (by rw [hw]; decide),if_pos hw,sub64 (by omega) (by omega)]
  by_cases hl:p.2.2.2.2.2.2.2.1=1
  ·rw [if_neg (by rw [qd_]; omega),if_pos hl]
   by_cases hg:0 < p.2.2.2.2.2.2.2.2
   ·rw [if_pos (by rw [q21_]; omega),if_pos hg,sub64 (by omega) (by omega),hl]
    have e0:(1:Int) - 1=0:=rfl
    rw [e0]
    have hw':OkP (againP p 0 (p.2.2.2.2.2.2.2.2 - 1)):=⟨h.u0,h.u1,h.l,h.t0,h.t1,h.r0,h.r1,h.a,h.x0,h.x1⟩
    have e:=sent_eq hw' q1
    unfold againP at e
    rw [e]
    rfl
   ·rw [if_neg (by rw [q21_]; omega),if_neg hg,drop_eq,zD]
    rfl
  ·rw [if_pos (by rw [qd_]; omega),if_neg hl]
   rfl
 ·have hw':p.2.2.2.2.1=false:=by simpa using hw
  rw [if_pos (by rw [hw']; rfl),if_neg hw]
theorem ranges_eq (u l t r:Int):q10z_ (u,l,t,r,())=some (rangesV u l t r,()):=by
 show qr9_ u l t r=_
 unfold qr9_ rangesV
 simp only [qs_,qo_,q4_]
 by_cases h1:1≤u <;> by_cases h2:u≤247 <;> by_cases h5:1≤t <;> by_cases h6:t≤100000 <;> by_cases h7:0≤r <;> simp only [h1,h2,h5,h6,h7,if_true,if_false,true_and,false_and,and_false,and_true] <;>
  by_cases h3:l=1 <;> by_cases h4:l=2 <;> simp [h3,h4,le] <;> omega
theorem new_eq (u l t r:Int):q13e_ (u,l,t,r,())=if rangesV u l t r=true then some ((u,l,t,r,false,zA,0,0,0),0,()) else some (zP,2,()):=by
 show q10x_ u l t r=_
 unfold q10x_
 rw [ranges_eq,zD]
 cases rangesV u l t r <;> rfl
theorem serfind_eq (unit tx:Int) (b:List Int):q64_ ((),unit,tx,b,())=outF (serV unit b):=by
 show qf2_ () unit tx b=_
 unfold qf2_
 have e:q17d_ (unit,b,())=if (rtuV b).2.2 ≠ 0 then some (zR,(rtuV b).2.2,()) else if (rtuV b).1 ≠ unit then some (zR,10,()) else some ((parseR (rtuV b).2.1).1,(parseR (rtuV b).2.1).2,()):=by
  show qxg_ unit b=_
  unfold qxg_
  rw [rtup_eq,zD]
  dsimp only
  rw [parse_eq,zD]
  simp only [qd_]
  repeat' split
  all_goals first | rfl | contradiction
 rw [e]
 unfold serV
 by_cases h1:(rtuV b).2.2=0
 ·by_cases h2:(rtuV b).1=unit
  ·by_cases h3:(parseR (rtuV b).2.1).2=0
   ·simp [h1,h2,h3,nei,outF]
   ·simp [h1,h2,h3,nei,outF,zR]
  ·simp [h1,h2,nei,outF,zR]
 ·simp [h1,nei,outF,zR]
theorem tcpfind_eq {b:List Int} (hl:b.length≤100000) (hb:∀ x ∈ b,0≤x∧x≤255) (unit tx:Int):q73_ ((),unit,tx,b,())=outF (tcpV unit tx b):=by
 show qd9_ q8v_ () unit tx b=_
 unfold qd9_
 rw [mparse_eq hl hb,zD]
 dsimp only
 have K:∀ (t:Bool) (y1 y2:Int) (y3:List Int),q8v_ t 0 0 0 0 y1 y2 y3=if t=true then some (zR,false,()) else if (parseR y3).2 ≠ 0 then some (zR,false,()) else some ((parseR y3).1,true,()):=fun t y1 y2 y3=>by
  unfold q8v_ qm0_
  rw [parse_eq,zD]
  simp only [qd_]
  rfl
 rw [K,K]
 unfold tcpV
 by_cases h1:(mbapP b).2=0
 ·by_cases h2:(mbapP b).1.2.1=unit
  ·by_cases h3:(mbapP b).1.1=tx
   ·by_cases h4:(parseR (mbapP b).1.2.2).2=0
    ·simp [h1,h2,h3,h4,nei,outF]
    ·simp [h1,h2,h3,h4,nei,outF]
   ·simp [h1,h2,h3,nei,outF]
  ·simp [h1,h2,nei,outF]
 ·simp [h1,nei,outF]
theorem take_K {p:TP} (h:OkP p) {r:TR} (hs:SmR r) (ok:Bool):qc5_ ok p.1 p.2.1 p.2.2.1 p.2.2.2.1 p.2.2.2.2.1 p.2.2.2.2.2.1.1 p.2.2.2.2.2.1.2.1 p.2.2.2.2.2.1.2.2.1 p.2.2.2.2.2.1.2.2.2.1 p.2.2.2.2.2.1.2.2.2.2.1 p.2.2.2.2.2.1.2.2.2.2.2
  p.2.2.2.2.2.2.1 p.2.2.2.2.2.2.2.1 p.2.2.2.2.2.2.2.2 0 0 0 0 false 0 0 0 0 0 0 0 0 0 0 0 r.1 r.2.1 r.2.2.1 r.2.2.2.1 r.2.2.2.2.1 r.2.2.2.2.2 =
  outT p (if ok=true then if fitsV p.2.2.2.2.2.1 r=true then some r else none else none):=by
 unfold qc5_ qyt_
 have h1:=h.a.lw
 have h2:=h.a.lb
 have e2:∀ t,qo3_ t p.1 p.2.1 p.2.2.1 p.2.2.2.1 p.2.2.2.2.1 p.2.2.2.2.2.1.1 p.2.2.2.2.2.1.2.1 p.2.2.2.2.2.1.2.2.1 p.2.2.2.2.2.1.2.2.2.1 p.2.2.2.2.2.1.2.2.2.2.1 p.2.2.2.2.2.1.2.2.2.2.2
  p.2.2.2.2.2.2.1 p.2.2.2.2.2.2.2.1 p.2.2.2.2.2.2.2.2 0 0 0 0 false 0 0 0 0 0 0 0 0 0 0 0 r.1 r.2.1 r.2.2.1 r.2.2.2.1 r.2.2.2.2.1 r.2.2.2.2.2=if t=true then some (p,zR,false,()) else some (dropP p,r,true,()):=fun t=>by
  unfold qo3_ qz9_
  have eo:qds_ (p,())=some (p,()):=own_eq (by omega) (by omega)
  cases t with
  | true=>exact (congrArg (fun q=>zC q fun y=>some (y.1,zR,false,())) eo).trans rfl
  | false=>rfl
 rw [e2]
 have e3:qhj_ ((p.2.2.2.2.2.1.1,p.2.2.2.2.2.1.2.1,p.2.2.2.2.2.1.2.2.1,p.2.2.2.2.2.1.2.2.2.1,p.2.2.2.2.2.1.2.2.2.2.1,p.2.2.2.2.2.1.2.2.2.2.2),(r.1,r.2.1,r.2.2.1,r.2.2.2.1,r.2.2.2.2.1,r.2.2.2.2.2),())=some (fitsV p.2.2.2.2.2.1 r,()):=fits_eq h.a hs
 rw [e3,zD,e2]
 cases ok with
 | false=>rfl
 | true=>cases fitsV p.2.2.2.2.2.1 r <;> rfl
theorem take_eq {p:TP} (h:OkP p) {b:List Int} (hl:b.length≤100000) (hb:∀ x ∈ b,0≤x∧x≤255):qzz_ (p,b,())=outT p (takeV p b):=by
 show qpo_ qc5_ p b=_
 unfold qpo_
 have h1:=h.a.lw
 have h2:=h.a.lb
 rw [own_eq (by omega) (by omega),zD,tcpfind_eq hl hb,serfind_eq]
 have key:∀ o:Option TR,(∀ r,o=some r->SmR r)->(zC (outF o) fun y=>qc5_ y.2.1 p.1 p.2.1 p.2.2.1 p.2.2.2.1 p.2.2.2.2.1 p.2.2.2.2.2.1.1 p.2.2.2.2.2.1.2.1 p.2.2.2.2.2.1.2.2.1 p.2.2.2.2.2.1.2.2.2.1 p.2.2.2.2.2.1.2.2.2.2.1 p.2.2.2.2.2.1.2.2.2.2.2
   p.2.2.2.2.2.2.1 p.2.2.2.2.2.2.2.1 p.2.2.2.2.2.2.2.2 0 0 0 0 false 0 0 0 0 0 0 0 0 0 0 0 y.1.1 y.1.2.1 y.1.2.2.1 y.1.2.2.2.1 y.1.2.2.2.2.1 y.1.2.2.2.2.2)=outT p (o.bind fun r=>if fitsV p.2.2.2.2.2.1 r=true then some r else none):=fun o ho=>by
  cases o with
  | none=>exact take_K h zR_sm false
  | some r=>exact take_K h (ho r rfl) true
 have hout:∀ o,∃ x,outT p o=some x:=fun o=>by cases o <;> exact ⟨_,rfl⟩
 unfold takeV
 cases hw:p.2.2.2.2.1 with
 | false=>rfl
 | true =>
  rw [if_neg (by decide),if_pos rfl]
  rw [hw] at key
  by_cases hlk:p.2.1=2
  ·have e:findV p b=tcpV p.1 p.2.2.2.2.2.2.1 b:=by unfold findV; rw [if_pos hlk]
   have kk:=key (tcpV p.1 p.2.2.2.2.2.2.1 b) (fun r hr=>findV_sm (e.trans hr))
   rw [e]
   obtain ⟨x,hx⟩:=hout ((tcpV p.1 p.2.2.2.2.2.2.1 b).bind fun r=>if fitsV p.2.2.2.2.2.1 r=true then some r else none)
   rw [hx] at kk ⊢
   simp only [q4_,hlk,if_true]
   rw [hlk] at kk
   rw [kk,amb_same (eqAs_refl _),amb_same (eqAs_refl _)]
  ·have e:findV p b=serV p.1 b:=by unfold findV; rw [if_neg hlk]
   have kk:=key (serV p.1 b) (fun r hr=>findV_sm (e.trans hr))
   rw [e]
   obtain ⟨x,hx⟩:=hout ((serV p.1 b).bind fun r=>if fitsV p.2.2.2.2.2.1 r=true then some r else none)
   rw [hx] at kk ⊢
   simp only [q4_,hlk,if_false]
   rw [kk,amb_same (eqAs_refl _),amb_same (eqAs_refl _)]
structure OkT (t:TTk):Prop where
 p:OkP t.1
 o:1≤t.2.1∧t.2.1≤65535
 x:0≤t.2.2.1∧t.2.2.1≤4294967295
 bl:t.2.2.2.1.length≤8
 bf:∀ b ∈ t.2.2.2.1,fitsB b=true∧∀ y ∈ b.2,0≤y∧y≤65535
 at':0≤t.2.2.2.2.2.1∧t.2.2.2.2.2.1≤7
 n:0≤t.2.2.2.2.2.2.1∧t.2.2.2.2.2.2.1≤t.2.2.2.1.length
 tr:0≤t.2.2.2.2.2.2.2.1∧(t.2.2.2.2.2.1 ≠ 0->t.2.2.2.2.2.2.2.1≤8)
def endT (t:TTk) (s:Int):TTk:=(dropP t.1,t.2.1,t.2.2.1,t.2.2.2.1,t.2.2.2.2.1,0,t.2.2.2.2.2.2.1,t.2.2.2.2.2.2.2.1,s)
def toT (t:TTk) (k:Int):TTk:=(t.1,t.2.1,t.2.2.1,t.2.2.2.1,t.2.2.2.2.1,k,t.2.2.2.2.2.2)
def numT (t:TTk) (n:Int):TTk:=(t.1,t.2.1,t.2.2.1,t.2.2.2.1,t.2.2.2.2.1,t.2.2.2.2.2.1,n,t.2.2.2.2.2.2.2)
def triT (t:TTk):TTk:=(t.1,t.2.1,t.2.2.1,t.2.2.2.1,t.2.2.2.2.1,t.2.2.2.2.2.1,t.2.2.2.2.2.2.1,t.2.2.2.2.2.2.2.1 + 1,t.2.2.2.2.2.2.2.2)
def nextT (t:TTk):TTk:=if (t.2.2.2.1.length:Int)≤t.2.2.2.2.2.2.1 then toT t 4 else toT t 2
def againT (t:TTk) (k:Int):TTk:=if 8≤t.2.2.2.2.2.2.2.1 then endT (triT t) 2 else toT (triT t) k
theorem end_eq (t:TTk) (s:Int):q2j_ (t,s,())=some (endT t s,()):=rfl
theorem to_eq (t:TTk) (k:Int):q66_ (t,k,())=some (toT t k,()):=rfl
theorem next_eq (t:TTk):qco_ (t,())=some (nextT t,()):=by
 show qxb_ t=_
 unfold qxb_ nextT
 rw [q2_]
 by_cases h:(t.2.2.2.1.length:Int)≤t.2.2.2.2.2.2.1
 ·rw [if_pos (qs_.2 h),if_pos h,to_eq]; rfl
 ·rw [if_neg (fun e=>h (qs_.1 e)),if_neg h,to_eq]; rfl
theorem again_eq {t:TTk} (h:OkT t) (ha:t.2.2.2.2.2.1 ≠ 0) (k:Int):q4y_ (t,k,())=some (againT t k,()):=by
 have:=h.tr
 have:=h.tr.2 ha
 show qvh_ t k=_
 unfold qvh_ againT
 rw [add64 (by omega) (by omega)]
 by_cases h8:8≤t.2.2.2.2.2.2.2.1
 ·rw [if_pos (q21_.2 (by omega)),if_pos h8,end_eq]; rfl
 ·rw [if_neg (fun e=>h8 (by have:=q21_.1 e; omega)),if_neg h8,to_eq]; rfl
abbrev TSt:=Int×Int×Int×Int
def readR (r:TR):Option TSt:=if r.2.1=0∧r.2.2.2.1.length=8 then some (r.2.2.2.1.getD 0 0,r.2.2.2.1.getD 1 0,65536 * r.2.2.2.1.getD 2 0 + r.2.2.2.1.getD 3 0,65536 * r.2.2.2.1.getD 4 0 + r.2.2.2.1.getD 5 0) else none
def outS:Option TSt->Option (TSt×Bool×Unit)
 | some s=>some (s,true,())
 | none=>some ((0,0,0,0),false,())
theorem tread_eq {r:TR} (hr:∀ x ∈ r.2.2.2.1,0≤x∧x≤65535):q6i_ (r,())=outS (readR r):=by
 obtain ⟨f,e,b,w,p,n⟩:=r
 show qny_ qyb_ (f,e,b,w,p,n)=_
 unfold qny_ readR
 simp only at hr ⊢
 by_cases he:e=0
 ·subst he
  rw [if_neg (by decide)]
  by_cases hl:w.length=8
  ·rw [if_pos ⟨rfl,hl⟩]
   obtain ⟨a,b',c,d,e,f',g,i,rfl⟩:=eight hl
   have h2:=hr c (by simp)
   have h3:=hr d (by simp)
   have h4:=hr e (by simp)
   have h5:=hr f' (by simp)
   have hnl:nei (zF [a,b',c,d,e,f',g,i].length) 8=false:=rfl
   rw [hnl]
   show (zC (at? [a,b',c,d,e,f',g,i] 0) fun y=>zC (at? [a,b',c,d,e,f',g,i] 1) fun y_1=>zC (at? [a,b',c,d,e,f',g,i] 2) fun y_2=>zC (at? [a,b',c,d,e,f',g,i] 3) fun y_3=>zC (at? [a,b',c,d,e,f',g,i] 4) fun y_4=>zC (at? [a,b',c,d,e,f',g,i] 5) fun y_5=>zC (q33_ (y_2,y_3,())) fun y_6=>zC (q33_ (y_4,y_5,())) fun y_7=>some ((y,y_1,y_6.1,y_7.1),true,()))=_
   show (zC (q33_ (c,d,())) fun y_6=>zC (q33_ (e,f',())) fun y_7=>some ((a,b',y_6.1,y_7.1),true,()))=_
   rw [wide_eq h2.1 h2.2 h3.1 h3.2,zD,wide_eq h4.1 h4.2 h5.1 h5.2]
   rfl
  ·rw [if_neg (fun h=>hl h.2),show nei (zF w.length) 8=true from qd_.2 (by rw [q2_]; omega)]
   rfl
 ·rw [if_pos (qd_.2 he),if_neg (fun h=>he h.1)]
  rfl
def ownQ (s:TSt) (t:TTk):Bool:=decide (s.1=t.2.1∧s.2.2.1=t.2.2.1)
theorem sown_own (s:TSt) (t:TTk):q18_ (s,t,())=some (ownQ s t,()):=by
 show qgj_ s t=_
 unfold qgj_ ownQ
 by_cases h:s.1=t.2.1
 ·rw [if_pos (q4_.2 h),show eqi s.2.2.1 t.2.2.1=decide (s.1=t.2.1∧s.2.2.1=t.2.2.1) by rw [Bool.eq_iff_iff,q4_,decide_eq_true_iff]; exact ⟨fun e=>⟨h,e⟩,fun e=>e.2⟩]
 ·rw [if_neg (fun e=>h (q4_.1 e))]
  simp [h]
def blkT (t:TTk):List Int:=match t.2.2.2.1[t.2.2.2.2.2.2.1.toNat]? with
 | some b=>tagB t.2.1 t.2.2.1 t.2.2.2.2.2.2.1 b
 | none=>[]
def hasT (t:TTk):Bool:=decide (t.2.2.2.2.2.2.1 < t.2.2.2.1.length)
theorem fitsB_len {x:TBlk} (h:fitsB x=true):x.2.length≤14:=(of_decide_eq_true h).1
theorem block_eq {t:TTk} (h:OkT t):qib_ (t,())=some (blkT t,hasT t,()):=by
 have hn:=h.n
 have hx:=h.x
 have hbl:=h.bl
 show qld_ qvl_ t=_
 unfold qld_ blkT hasT
 rw [if_neg (fun e=>by have:=q5_.1 e; omega)]
 show ql8_ _ t=_
 unfold ql8_
 obtain ⟨k,hk⟩:=zN hn.1
 rw [hk,zQ,q2_]
 by_cases hlt:k < t.2.2.2.1.length
 ·obtain ⟨b,hb⟩:=get_of hlt
  obtain ⟨hf,_⟩:=h.bf b (zY hb)
  have:=fitsB_len hf
  rw [if_neg (fun e=>by have:=qs_.1 e; omega),qf_ hb,zD,swords_eq hx.1 hx.2 (by omega),if_pos ⟨by omega,by omega⟩,if_pos hf,zD,hb]
  simp only [decide_eq_true (show ((k:Nat):Int) < ((t.2.2.2.1.length:Nat):Int) by omega)]
  rfl
 ·rw [if_pos (qs_.2 (by omega)),List.getElem?_eq_none (by omega),decide_eq_false (by omega)]
def cmdT (t:TTk) (v:Int):TCm:=(t.2.1,v,t.2.2.1,if v=2 then (t.2.2.2.1.length:Int) else 0,if v=2 then sumB t.2.2.2.1 else 0)
theorem cmdT_ok {t:TTk} (h:OkT t) {v:Int} (hv:1≤v∧v≤4):OkC (cmdT t v):=by
 have h1:=h.o
 have h2:=h.x
 have h3:=h.bl
 have h4:0≤sumB t.2.2.2.1∧sumB t.2.2.2.1≤4294967295:=sumW_rng _
 unfold cmdT
 constructor <;> dsimp only
 ·omega
 ·omega
 ·exact h2
 ·split <;> omega
 ·split <;> omega
theorem verb_eq {t:TTk} (h:OkT t) {v:Int} (hv:1≤v∧v≤4):qa0_ (t,v,())=some (cmdA (cmdT t v),()):=by
 have h3:=h.bl
 have ok:=cmdT_ok h hv
 show qoo_ qpn_ t v=_
 unfold qoo_
 have key:∀ z (c:TCm),OkC c->qpn_ z c=some (cmdA c,()):=fun z c hc=>by
  show qo7_ z c=_
  unfold qo7_
  rw [awords_eq hc.v hc.t hc.k]
  rfl
 by_cases h2:v=2
 ·subst h2
  rw [if_pos (by decide),ssum_eq (by omega) (fun b hb=>by have:=fitsB_len (h.bf b hb).1; omega),zD]
  have e:cvt .u16 (zF t.2.2.2.1.length)=(t.2.2.2.1.length:Int):=by rw [cvt16,q2_]; omega
  rw [e]
  exact key _ _ ok
 ·rw [if_neg (fun e=>h2 (q4_.1 e))]
  have e:cmdT t v=(t.2.1,v,t.2.2.1,0,0):=by simp [cmdT,h2]
  rw [e] at ok ⊢
  exact key _ _ ok
def reqT (t:TTk):TA :=
 if t.2.2.2.2.2.1=1 then cmdA (cmdT t 1) else if t.2.2.2.2.2.1=2 then (if hasT t=true then blkA (blkT t) else zA) else if t.2.2.2.2.2.1=3 then rdQ (512 + 32 * t.2.2.2.2.2.2.1) 20
 else if t.2.2.2.2.2.1=4 then cmdA (cmdT t 2) else if t.2.2.2.2.2.1=5 then cmdA (cmdT t 3) else if t.2.2.2.2.2.1=6 then cmdA (cmdT t 4) else if t.2.2.2.2.2.1=7 then rdQ 256 8 else zA
theorem request_eq {t:TTk} (h:OkT t):qc2_ (t,())=some (reqT t,()):=by
 have ha:=h.at'
 have hn:=h.n
 have hl:=h.bl
 show qfs_ qq2_ t=_
 unfold qfs_
 rw [cvt64 (by omega) (by omega),if_neg (fun e=>by have:=qs_.1 e; omega)]
 show qfe_ _ t _=_
 unfold qfe_ reqT
 generalize hk:t.2.2.2.2.2.1=k at ha
 have hc:k=0∨k=1∨k=2∨k=3∨k=4∨k=5∨k=6∨k=7:=by omega
 have e5:cvt .u16 (add .i64 512 (mul .i64 32 t.2.2.2.2.2.2.1))=512 + 32 * t.2.2.2.2.2.2.1:=by
  rw [mul64 (by omega) (by omega),add64 (by omega) (by omega),cvt16]; omega
 rcases hc with rfl | rfl | rfl | rfl | rfl | rfl | rfl | rfl
 ·rfl
 ·rw [if_neg (by decide),if_neg (by decide),if_neg (by decide),if_neg (by decide),if_neg (by decide),if_neg (by decide),if_neg (by decide),if_pos (by decide),verb_eq h (by decide)]
  rfl
 ·rw [if_neg (by decide),if_neg (by decide),if_neg (by decide),if_neg (by decide),if_neg (by decide),if_neg (by decide),if_pos (by decide)]
  show (zC (qrv_ t) fun y=>some (y.1,()))=_
  unfold qrv_
  rw [block_eq h,zD]
  cases hh:hasT t with
  | false=>rfl
  | true =>
   have hb:(blkT t).length=20:=by
    unfold hasT at hh
    have:=of_decide_eq_true hh
    obtain ⟨b,hb⟩:=get_of (xs:=t.2.2.2.1) (i:=t.2.2.2.2.2.2.1.toNat) (by omega)
    unfold blkT
    rw [hb]
    exact tagB_len
   have e:cvt .u16 (zF (blkT t).length)=20:=by rw [hb]; rfl
   simp only [Bool.not_true,Bool.false_eq_true,if_false,e]
   rfl
 ·rw [if_neg (by decide),if_neg (by decide),if_neg (by decide),if_neg (by decide),if_neg (by decide),if_pos (by decide)]
  show (zC (qxu_ t) fun y=>some (y.1,()))=_
  unfold qxu_
  rw [e5]
  rfl
 ·rw [if_neg (by decide),if_neg (by decide),if_neg (by decide),if_neg (by decide),if_pos (by decide),verb_eq h (by decide)]
  rfl
 ·rw [if_neg (by decide),if_neg (by decide),if_neg (by decide),if_pos (by decide),verb_eq h (by decide)]
  rfl
 ·rw [if_neg (by decide),if_neg (by decide),if_pos (by decide),verb_eq h (by decide)]
  rfl
 ·rfl
def effT (t:TTk) (r:TR):TTk :=
 if t.2.2.2.2.2.1=1 then (match readR r with
  | none=>endT t 2
  | some s=>if ownQ s t=true∧s.2.1=2 then endT t 1 else if ownQ s t=true∧s.2.1=1 then nextT (numT t 0) else againT t 1)
 else if t.2.2.2.2.2.1=2 then (if r.2.1 ≠ 0 then endT t 2 else toT t 3)
 else if t.2.2.2.2.2.1=3 then (if hasT t=true∧r.2.1=0∧r.2.2.2.1=blkT t then nextT (numT t (t.2.2.2.2.2.2.1 + 1)) else againT t 2)
 else if t.2.2.2.2.2.1=4 then (match readR r with
  | none=>endT t 2
  | some s=>if ownQ s t=true∧s.2.1=2 then endT t 1 else againT t 4)
 else if t.2.2.2.2.2.1=5 then (match readR r with
  | none=>toT t 7
  | some s=>if t.2.2.1≤s.2.2.2 then endT t 1 else toT t 5)
 else if t.2.2.2.2.2.1=6 then (match readR r with
  | none=>toT t 7
  | some s=>if ownQ s t=true then toT t 6 else endT t 1)
 else if t.2.2.2.2.2.1=7 then (if t.2.2.2.2.1=2 then (match readR r with
   | some s=>if t.2.2.1≤s.2.2.2 then endT t 1 else toT t 5
   | none=>toT t 5)
  else (match readR r with
   | some s=>if ownQ s t=true then toT t 6 else endT t 1
   | none=>toT t 6))
 else endT t t.2.2.2.2.2.2.2.2
theorem OkT.end {t:TTk} (h:OkT t) (s:Int):OkT (endT t s) :=
 ⟨⟨h.p.u0,h.p.u1,h.p.l,h.p.t0,h.p.t1,h.p.r0,h.p.r1,zA_ok,h.p.x0,h.p.x1⟩,h.o,h.x,h.bl,h.bf,(by decide:(0:Int)≤0∧(0:Int)≤7),h.n,h.tr.1,fun e=>absurd rfl e⟩
theorem eff1 {t:TTk} (h:t.2.2.2.2.2.1=1) (r:TR):effT t r=match readR r with
  | none=>endT t 2
  | some s=>if ownQ s t=true∧s.2.1=2 then endT t 1 else if ownQ s t=true∧s.2.1=1 then nextT (numT t 0) else againT t 1:=if_pos h
theorem eff2 {t:TTk} (h:t.2.2.2.2.2.1=2) (r:TR):effT t r=if r.2.1 ≠ 0 then endT t 2 else toT t 3:=by simp [effT,h]
theorem eff3 {t:TTk} (h:t.2.2.2.2.2.1=3) (r:TR):effT t r=if hasT t=true∧r.2.1=0∧r.2.2.2.1=blkT t then nextT (numT t (t.2.2.2.2.2.2.1 + 1)) else againT t 2:=by simp [effT,h]
theorem eff4 {t:TTk} (h:t.2.2.2.2.2.1=4) (r:TR):effT t r=match readR r with
  | none=>endT t 2
  | some s=>if ownQ s t=true∧s.2.1=2 then endT t 1 else againT t 4:=by unfold effT; rw [h]; rfl
theorem eff5 {t:TTk} (h:t.2.2.2.2.2.1=5) (r:TR):effT t r=match readR r with
  | none=>toT t 7
  | some s=>if t.2.2.1≤s.2.2.2 then endT t 1 else toT t 5:=by unfold effT; rw [h]; rfl
theorem eff6 {t:TTk} (h:t.2.2.2.2.2.1=6) (r:TR):effT t r=match readR r with
  | none=>toT t 7
  | some s=>if ownQ s t=true then toT t 6 else endT t 1:=by unfold effT; rw [h]; rfl
theorem eff7 {t:TTk} (h:t.2.2.2.2.2.1=7) (r:TR):effT t r=if t.2.2.2.2.1=2 then (match readR r with
   | some s=>if t.2.2.1≤s.2.2.2 then endT t 1 else toT t 5
   | none=>toT t 5)
  else (match readR r with
   | some s=>if ownQ s t=true then toT t 6 else endT t 1
   | none=>toT t 6):=by unfold effT; rw [h]; rfl
theorem OkT.to {t:TTk} (h:OkT t) (ha:t.2.2.2.2.2.1 ≠ 0) {k:Int} (hk:0≤k∧k≤7):OkT (toT t k):=⟨h.p,h.o,h.x,h.bl,h.bf,hk,h.n,h.tr.1,fun _=>h.tr.2 ha⟩
theorem OkT.num {t:TTk} (h:OkT t) {k:Int} (hk:0≤k∧k≤t.2.2.2.1.length):OkT (numT t k):=⟨h.p,h.o,h.x,h.bl,h.bf,h.at',hk,h.tr⟩
theorem OkT.next {t:TTk} (h:OkT t) (ha:t.2.2.2.2.2.1 ≠ 0):OkT (nextT t):=by
 unfold nextT
 split
 ·exact h.to ha (by decide)
 ·exact h.to ha (by decide)
theorem OkT.again {t:TTk} (h:OkT t) (ha:t.2.2.2.2.2.1 ≠ 0) {k:Int} (hk:0≤k∧k≤7):OkT (againT t k):=by
 have h8:=h.tr.2 ha
 have h0:=h.tr.1
 unfold againT
 split
 ·have:=h.end 2
  exact ⟨this.p,this.o,this.x,this.bl,this.bf,this.at',this.n,by show 0≤t.2.2.2.2.2.2.2.1 + 1; omega,fun e=>absurd rfl e⟩
 ·exact ⟨h.p,h.o,h.x,h.bl,h.bf,hk,h.n,by show 0≤t.2.2.2.2.2.2.2.1 + 1; omega,fun _=>by show t.2.2.2.2.2.2.2.1 + 1≤8; omega⟩
theorem claimed_eq {t:TTk} (h:OkT t) (h1:t.2.2.2.2.2.1=1) {r:TR} (hr:∀ x ∈ r.2.2.2.1,0≤x∧x≤65535):qcf_ (t,r,())=some (effT t r,()):=by
 show qfu_ q54_ t r=_
 unfold qfu_
 rw [tread_eq hr,eff1 h1]
 cases hs:readR r with
 | none=>rfl
 | some s =>
  show (zC (q18_ (s,t,())) fun y_1=>if y_1.1=true then q54_ (eqi s.2.1 2) t _ s else q54_ false t _ s)=_
  rw [sown_own,zD]
  dsimp only
  have k2:∀ z,qa4_ false t z=some (againT t 1,()):=fun z=>by
   show (zC (q4y_ (t,1,())) fun y=>some (y.1,()))=_
   rw [again_eq h (by omega)]; rfl
  have k3:∀ z,qa4_ true t z=some (nextT (numT t 0),()):=fun z=>by
   show (zC (qco_ (numT t 0,())) fun y=>some (y.1,()))=_
   rw [next_eq]; rfl
  have k0:∀ z,q54_ false t z s=some (if ownQ s t=true∧s.2.1=1 then nextT (numT t 0) else againT t 1,()):=fun z=>by
   show qg3_ qa4_ false t z s=_
   unfold qg3_
   rw [if_neg (by decide),sown_own,zD]
   cases ho:ownQ s t with
   | false=>simp only [Bool.false_eq_true,if_false,false_and]; exact k2 _
   | true =>
    by_cases e:s.2.1=1
    ·rw [show eqi s.2.1 1=true from q4_.2 e]
     simp only [if_true,e,and_self]; exact k3 _
    ·rw [show eqi s.2.1 1=false from by rw [<- Bool.not_eq_true,q4_]; exact e]
     simp only [if_true,e,and_false,if_false]; exact k2 _
  have k1:∀ z,q54_ true t z s=some (endT t 1,()):=fun z=>rfl
  cases ho:ownQ s t with
  | false =>
   rw [ho] at k0
   simp only [Bool.false_eq_true,if_false,false_and] at k0 ⊢
   exact k0 _
  | true =>
   rw [ho] at k0
   by_cases e:s.2.1=2
   ·rw [show eqi s.2.1 2=true from q4_.2 e]
    simp only [if_true,e,and_self]; exact k1 _
   ·rw [show eqi s.2.1 2=false from by rw [<- Bool.not_eq_true,q4_]; exact e]
    simp only [if_true,e,and_false,if_false,true_and] at k0 ⊢; exact k0 _
theorem staged_eq {t:TTk} (h1:t.2.2.2.2.2.1=2) (r:TR):qjh_ (t,r,())=some (effT t r,()):=by
 show qrk_ t r=_
 unfold qrk_
 rw [eff2 h1]
 by_cases e:r.2.1=0
 ·rw [if_neg (fun h=>qd_.1 h e),if_neg (fun h=>h e)]; rfl
 ·rw [if_pos (qd_.2 e),if_pos e]; rfl
theorem readBack_eq {t:TTk} (h:OkT t) (h1:t.2.2.2.2.2.1=3) {r:TR} (hl:r.2.2.2.1.length≤1000000):q9g_ (t,r,())=some (effT t r,()):=by
 have hn:=h.n
 have hb:=h.bl
 show qde_ q92_ t r=_
 unfold qde_
 rw [eff3 h1,block_eq h,zD]
 have k1:∀ z,q92_ true t z=some (againT t 2,()):=fun z=>by
  show (zC (q4y_ (t,2,())) fun y=>some (y.1,()))=_
  rw [again_eq h (by omega)]; rfl
 have k0:∀ z,q92_ false t z=some (nextT (numT t (t.2.2.2.2.2.2.1 + 1)),()):=fun z=>by
  show (zC (qco_ (numT t (add .i64 t.2.2.2.2.2.2.1 1),())) fun y=>some (y.1,()))=_
  rw [add64 (by omega) (by omega),next_eq]; rfl
 cases hh:hasT t with
 | false=>simp only [Bool.not_false,if_true,Bool.false_eq_true,false_and,if_false]; exact k1 _
 | true =>
  simp only [Bool.not_true,Bool.false_eq_true,if_false,true_and]
  by_cases e:r.2.1=0
  ·rw [if_neg (fun h=>qd_.1 h e),equalW_eq hl,zD]
   by_cases e2:r.2.2.2.1=blkT t
   ·rw [decide_eq_true e2,if_pos ⟨e,e2⟩]; exact k0 _
   ·rw [decide_eq_false e2,if_neg (fun h=>e2 h.2)]; exact k1 _
  ·rw [if_pos (qd_.2 e),if_neg (fun h=>e h.1)]; exact k1 _
theorem prepared_eq {t:TTk} (h:OkT t) (h1:t.2.2.2.2.2.1=4) {r:TR} (hr:∀ x ∈ r.2.2.2.1,0≤x∧x≤65535):q9k_ (t,r,())=some (effT t r,()):=by
 show qdj_ q4h_ t r=_
 unfold qdj_
 rw [tread_eq hr,eff4 h1]
 cases hs:readR r with
 | none=>rfl
 | some s =>
  show (zC (q18_ (s,t,())) fun y_1=>if y_1.1=true then q4h_ (eqi s.2.1 2) t _ else q4h_ false t _)=_
  rw [sown_own,zD]
  dsimp only
  have k0:∀ z,q4h_ false t z=some (againT t 4,()):=fun z=>by
   show (zC (q4y_ (t,4,())) fun y=>some (y.1,()))=_
   rw [again_eq h (by omega)]; rfl
  have k1:∀ z,q4h_ true t z=some (endT t 1,()):=fun z=>rfl
  cases ho:ownQ s t with
  | false=>simp only [Bool.false_eq_true,if_false,false_and]; exact k0 _
  | true =>
   by_cases e:s.2.1=2
   ·rw [show eqi s.2.1 2=true from q4_.2 e]
    simp only [if_true,e,and_self]; exact k1 _
   ·rw [show eqi s.2.1 2=false from by rw [<- Bool.not_eq_true,q4_]; exact e]
    simp only [if_true,e,and_false,if_false]; exact k0 _
theorem committed_eq {t:TTk} (h1:t.2.2.2.2.2.1=5) {r:TR} (hr:∀ x ∈ r.2.2.2.1,0≤x∧x≤65535):qck_ (t,r,())=some (effT t r,()):=by
 show qiv_ t r=_
 unfold qiv_
 rw [tread_eq hr,eff5 h1]
 cases hs:readR r with
 | none=>rfl
 | some s =>
  show (if ge s.2.2.2 t.2.2.1=true then (zC (q2j_ (t,1,())) fun y=>some (y.1,())) else zC (q66_ (t,5,())) fun y=>some (y.1,()))=_
  dsimp only
  by_cases e:t.2.2.1≤s.2.2.2
  ·rw [if_pos (qs_.2 e),if_pos e]; rfl
  ·rw [if_neg (fun h=>e (qs_.1 h)),if_neg e]; rfl
theorem aborted_eq {t:TTk} (h1:t.2.2.2.2.2.1=6) {r:TR} (hr:∀ x ∈ r.2.2.2.1,0≤x∧x≤65535):qgn_ (t,r,())=some (effT t r,()):=by
 show qne_ t r=_
 unfold qne_
 rw [tread_eq hr,eff6 h1]
 cases hs:readR r with
 | none=>rfl
 | some s =>
  show (zC (q18_ (s,t,())) fun y=>if (!y.1)=true then (zC (q2j_ (t,1,())) fun y=>some (y.1,())) else zC (q66_ (t,6,())) fun y=>some (y.1,()))=_
  rw [sown_own,zD]
  dsimp only
  cases ownQ s t <;> rfl
theorem looked_eq {t:TTk} (h1:t.2.2.2.2.2.1=7) {r:TR} (hr:∀ x ∈ r.2.2.2.1,0≤x∧x≤65535):qen_ (t,r,())=some (effT t r,()):=by
 show qid_ qbw_ qci_ t r=_
 unfold qid_
 rw [tread_eq hr,eff7 h1]
 by_cases hg:t.2.2.2.2.1=2
 ·rw [if_pos hg]
  cases hs:readR r with
  | none =>
   show (if eqi t.2.2.2.2.1 2=true then qbw_ false t _ else _)=_
   rw [if_pos (q4_.2 hg)]
   rfl
  | some s =>
   show (if eqi t.2.2.2.2.1 2=true then qbw_ (ge s.2.2.2 t.2.2.1) t _ else _)=_
   rw [if_pos (q4_.2 hg)]
   dsimp only
   by_cases e:t.2.2.1≤s.2.2.2
   ·rw [show ge s.2.2.2 t.2.2.1=true from qs_.2 e,if_pos e]; rfl
   ·rw [show ge s.2.2.2 t.2.2.1=false from by rw [<- Bool.not_eq_true,qs_]; exact e,if_neg e]; rfl
 ·rw [if_neg hg]
  cases hs:readR r with
  | none =>
   show (if eqi t.2.2.2.2.1 2=true then _ else qci_ false t _)=_
   rw [if_neg (fun h=>hg (q4_.1 h))]
   rfl
  | some s =>
   show (if eqi t.2.2.2.2.1 2=true then _ else zC (q18_ (s,t,())) fun y=>qci_ (!y.1) t _)=_
   rw [if_neg (fun h=>hg (q4_.1 h)),sown_own,zD]
   dsimp only
   cases ownQ s t <;> rfl
theorem effect_eq {t:TTk} (h:OkT t) {r:TR} (hr:∀ x ∈ r.2.2.2.1,0≤x∧x≤65535) (hl:r.2.2.2.1.length≤1000000):qj5_ (t,r,())=some (effT t r,()):=by
 have ha:=h.at'
 show qi8_ qri_ t r=_
 unfold qi8_
 rw [cvt64 (by omega) (by omega),if_neg (fun e=>by have:=qs_.1 e; omega)]
 show qim_ _ t r _=_
 unfold qim_
 have e:∀ k:Int,eqi t.2.2.2.2.2.1 k=decide (t.2.2.2.2.2.1=k):=fun k=>by rw [Bool.eq_iff_iff,q4_,decide_eq_true_iff]
 have hc:t.2.2.2.2.2.1=0∨t.2.2.2.2.2.1=1∨t.2.2.2.2.2.1=2∨t.2.2.2.2.2.1=3∨t.2.2.2.2.2.1=4∨t.2.2.2.2.2.1=5∨t.2.2.2.2.2.1=6∨t.2.2.2.2.2.1=7:=by omega
 rcases hc with hk | hk | hk | hk | hk | hk | hk | hk
 ·rw [if_pos (q4_.2 hk),end_eq]
  unfold effT
  rw [if_neg (by omega),if_neg (by omega),if_neg (by omega),if_neg (by omega),if_neg (by omega),if_neg (by omega),if_neg (by omega)]
  rfl
 all_goals
  simp only [e,hk]
  try rw [claimed_eq h hk hr]
  try rw [staged_eq hk r]
  try rw [readBack_eq h hk hl]
  try rw [prepared_eq h hk hr]
  try rw [committed_eq hk hr]
  try rw [aborted_eq hk hr]
  try rw [looked_eq hk hr]
  rfl
theorem OkT.eff {t:TTk} (h:OkT t) (r:TR):OkT (effT t r):=by
 have hn:=h.n
 by_cases ha:t.2.2.2.2.2.1=0
 ·have:effT t r=endT t t.2.2.2.2.2.2.2.2:=by unfold effT; rw [ha]; rfl
  rw [this]
  exact h.end _
 unfold effT
 have n0:OkT (numT t 0):=h.num (by omega)
 split
 ·split
  ·exact h.end _
  ·split
   ·exact h.end _
   ·split
    ·exact n0.next ha
    ·exact h.again ha (by decide)
 ·split
  ·split
   ·exact h.end _
   ·exact h.to ha (by decide)
  ·split
   ·split
    ·rename_i hc
     have:t.2.2.2.2.2.2.1 < t.2.2.2.1.length:=of_decide_eq_true hc.1
     exact (h.num (by omega)).next ha
    ·exact h.again ha (by decide)
   ·split
    ·split
     ·exact h.end _
     ·split
      ·exact h.end _
      ·exact h.again ha (by decide)
    ·split
     ·split
      ·exact h.to ha (by decide)
      ·split
       ·exact h.end _
       ·exact h.to ha (by decide)
     ·split
      ·split
       ·exact h.to ha (by decide)
       ·split
        ·exact h.to ha (by decide)
        ·exact h.end _
      ·split
       ·split
        ·split
         ·split
          ·exact h.end _
          ·exact h.to ha (by decide)
         ·exact h.to ha (by decide)
        ·split
         ·split
          ·exact h.to ha (by decide)
          ·exact h.end _
         ·exact h.to ha (by decide)
       ·exact h.end _
theorem loop_all {σ α:Type} {F:(σ->Option (Bool×Unit))->σ->Option (Bool×Unit)} {mk:Nat->σ} {l:List α} {p:α->Bool} (hs:∀ self i x,l[i]? = some x->F self (mk i)=if p x=true then self (mk (i + 1)) else some (false,()))
  (he:∀ self,F self (mk l.length)=some (true,())):∀ (k i n:Nat),i + k=l.length->k < n->loopF F n (mk i)=some ((l.drop i).all p,())
 | _,_,0,_,hn=>by omega
 | 0,i,n + 1,h,_=>by
  have:i=l.length:=by omega
  subst this
  rw [qr_,he,List.drop_length]
  rfl
 | k + 1,i,n + 1,h,hn=>by
  obtain ⟨x,hx⟩:=get_of (xs:=l) (i:=i) (by omega)
  rw [qr_,hs _ _ _ hx,loop_all hs he k (i + 1) n (by omega) (by omega),List.drop_eq_getElem_cons (show i < l.length by omega),List.all_cons]
  have:l[i]'(by omega)=x:=by rw [List.getElem?_eq_getElem (by omega)] at hx; exact Option.some.inj hx
  rw [this]
  cases p x <;> rfl
theorem copies_eq {l:List TBlk} (hl:l.length≤1000000) (hw:∀ b ∈ l,b.2.length≤1000000):qee_ (l,())=some (l,()):=by
 show qcn_ l (zF l.length) 0 []=_
 unfold qcn_
 have e:∀ (x acc:List TBlk),x.foldl (fun r x=>r++[x]) acc=acc++x:=by
  intro x
  induction x with
  | nil=>simp
  | cons a q ih=>intro acc; rw [List.foldl_cons,ih]; simp
 refine (loop_idx (mk:=fun i (r:List TBlk)=>(l,zF l.length,(i:Int),r)) (xs:=l) (stp:=fun r x=>r++[x]) (fin:=fun r=>some (r,())) (fun i r=>r.length=i∧i≤l.length) ?_ ?_ ?_ l.length 0 [] 18446744073709551616 (by omega) (by omega) ⟨rfl,Nat.zero_le _⟩).trans (by rw [List.drop_zero,e]; rfl)
 ·intro self i acc x hx hI
  have hi:=(List.getElem?_eq_some_iff.1 hx).1
  show q82_ _ l (zF l.length) (i:Int) acc=_
  unfold q82_
  rw [if_pos (q5_.2 (by rw [q2_]; omega)),qf_ hx,zD,q2h_ (hw x (zY hx)),zD,qe_ (by show acc.length + 1≤_; omega),qv_ (by omega)]
 ·intro i acc x hx hI
  have hi:=(List.getElem?_eq_some_iff.1 hx).1
  exact ⟨by simp; omega,by omega⟩
 ·intro self acc _
  show q82_ _ l (zF l.length) (l.length:Int) acc=_
  unfold q82_
  rw [if_neg (fun h=>by have:=q5_.1 h; rw [q2_] at this; omega)]
def fitL (l:List TBlk):Bool:=decide (l.length≤8) && l.all fitsB
theorem fit_eq {l:List TBlk} (hl:l.length≤1000000) (hw:∀ b ∈ l,b.2.length≤1000000):qyw_ (l,())=some (fitL l,()):=by
 show qtv_ qtn_ l=_
 unfold qtv_ fitL
 by_cases h8:l.length≤8
 ·rw [if_neg (fun h=>by have:=q21_.1 h; rw [q2_] at this; omega),decide_eq_true h8,Bool.true_and]
  refine (loop_all (mk:=fun i=>(l,zF l.length,(i:Int))) (l:=l) (p:=fitsB) ?_ ?_ l.length 0 18446744073709551616 (by omega) (by omega)).trans (by rw [List.drop_zero])
  ·intro self i x hx
   have hi:=(List.getElem?_eq_some_iff.1 hx).1
   show qeq_ _ l (zF l.length) (i:Int)=_
   unfold qeq_
   rw [if_pos (q5_.2 (by rw [q2_]; omega)),qf_ hx,zD,bfits_eq (hw x (zY hx)),zD,qv_ (by omega)]
   cases fitsB x <;> rfl
  ·intro self
   show qeq_ _ l (zF l.length) (l.length:Int)=_
   unfold qeq_
   rw [if_neg (fun h=>by have:=q5_.1 h; rw [q2_] at this; omega)]
 ·rw [if_pos (q21_.2 (by rw [q2_]; omega)),decide_eq_false h8]
  rfl
structure SzT (t:TTk):Prop where
 w:t.1.2.2.2.2.2.1.2.2.2.2.1.length≤1000000
 b:t.1.2.2.2.2.2.1.2.2.2.2.2.length≤1000000
 l:t.2.2.2.1.length≤1000000
 k:∀ b ∈ t.2.2.2.1,b.2.length≤1000000
theorem OkT.sz {t:TTk} (h:OkT t):SzT t:=⟨by have:=h.p.a.lw; omega,by have:=h.p.a.lb; omega,by have:=h.bl; omega,fun b hb=>by have:=fitsB_len (h.bf b hb).1; omega⟩
theorem town_eq {t:TTk} (h:SzT t):qma_ (t,())=some (t,()):=by
 show q10j_ t=_
 unfold q10j_
 rw [q2h_ h.w,zD,cloneB_eq h.b,zD,copies_eq h.l h.k]
 rfl
def goodT (t:TTk):Prop:=t.2.2.2.2.2.1 ≠ 0∧(t.2.2.2.2.2.1=2->hasT t=true)
theorem blkT_some {t:TTk} (h:OkT t) (hh:hasT t=true):∃ b,t.2.2.2.1[t.2.2.2.2.2.2.1.toNat]? = some b∧blkT t=tagB t.2.1 t.2.2.1 t.2.2.2.2.2.2.1 b∧fitsB b=true∧∀ y ∈ b.2,0≤y∧y≤65535:=by
 have hn:=h.n
 have:=of_decide_eq_true hh
 obtain ⟨b,hb⟩:=get_of (xs:=t.2.2.2.1) (i:=t.2.2.2.2.2.2.1.toNat) (by omega)
 obtain ⟨h1,h2⟩:=h.bf b (zY hb)
 exact ⟨b,hb,by unfold blkT; rw [hb],h1,h2⟩
theorem tagB_rng {o tx n:Int} {x:TBlk} (ho:0≤o∧o≤65535) (ht:0≤tx∧tx≤4294967295) (hn:0≤n∧n≤7) (hw:∀ w ∈ x.2,0≤w∧w≤65535):∀ w ∈ tagB o tx n x,0≤w∧w≤65535:=by
 intro w hm
 unfold tagB at hm
 simp only [List.mem_cons] at hm
 rcases hm with rfl | rfl | rfl | rfl | hm
 ·exact ho
 ·omega
 ·omega
 ·omega
 ·exact itB_rng (fun _=>hw) w hm
theorem reqT_ok {t:TTk} (h:OkT t):OkA (reqT t):=by
 have hn:=h.n
 have hl:=h.bl
 unfold reqT
 split
 ·exact (cmdA_ok (cmdT_ok h (by decide))).1
 ·split
  ·split
   ·rename_i hh
    obtain ⟨b,_,h2,h3,h4⟩:=blkT_some h hh
    have:=of_decide_eq_true hh
    have ho:=h.o
    rw [h2]
    exact (blkA_ok tagB_len (tagB_rng (by omega) h.x (by omega) h4)).1
   ·exact zA_ok
  ·split
   ·exact (rdQ_ok (by omega) (by decide)).1
   ·split
    ·exact (cmdA_ok (cmdT_ok h (by decide))).1
    ·split
     ·exact (cmdA_ok (cmdT_ok h (by decide))).1
     ·split
      ·exact (cmdA_ok (cmdT_ok h (by decide))).1
      ·split
       ·exact (rdQ_ok (by decide) (by decide)).1
       ·exact zA_ok
theorem q5b_ {t:TTk} (h:OkT t) (hg:goodT t):qm_ (reqT t)=true:=by
 have hn:=h.n
 have hl:=h.bl
 have ha:=h.at'
 have h0:=hg.1
 unfold reqT
 split
 ·exact (cmdA_ok (cmdT_ok h (by decide))).2.1
 ·split
  ·rename_i h2
   rw [if_pos (hg.2 h2)]
   obtain ⟨b,_,h2,h3,h4⟩:=blkT_some h (hg.2 h2)
   have:=of_decide_eq_true (hg.2 (by assumption))
   have ho:=h.o
   rw [h2]
   exact (blkA_ok tagB_len (tagB_rng (by omega) h.x (by omega) h4)).2.1
  ·split
   ·exact (rdQ_ok (by omega) (by decide)).2
   ·split
    ·exact (cmdA_ok (cmdT_ok h (by decide))).2.1
    ·split
     ·exact (cmdA_ok (cmdT_ok h (by decide))).2.1
     ·split
      ·exact (cmdA_ok (cmdT_ok h (by decide))).2.1
      ·split
       ·exact (rdQ_ok (by decide) (by decide)).2
       ·omega
def sendT (t:TTk):TTk×List Int:=if t.1.2.2.2.2.1=true then (t,[]) else if qm_ (reqT t)=true then ((sentP (waitP t.1 (reqT t)),t.2),sentB (waitP t.1 (reqT t))) else (t,[])
theorem tsend_eq {t:TTk} (h:OkT t):q7v_ (t,())=some ((sendT t).1,(sendT t).2,()):=by
 show qpv_ qyx_ t=_
 unfold qpv_ sendT
 rw [request_eq h,zD,amb2 (eqAs_refl _)]
 dsimp only
 rw [zD,amb2 (eqAs_refl _),send_eq h.p (reqT_ok h)]
 split
 ·rfl
 ·split
  ·rfl
  ·rfl
def firstT (g:Int):Int:=if g=1 then 1 else if g=2 then 5 else if g=3 then 6 else 0
def beginT (t:TTk) (g tx:Int) (l:List TBlk):TTk:=(dropP t.1,t.2.1,tx,if g=1 then l else [],g,firstT g,0,0,0)
def startT (t:TTk) (g tx:Int) (l:List TBlk):TTk×List Int×Int :=
 if ¬ (1≤g∧g≤3)∨tx=0 then (t,[],2) else if g=1∧fitL l=false then (t,[],20) else ((sendT (beginT t g tx l)).1,(sendT (beginT t g tx l)).2,0)
theorem beginT_ok {t:TTk} (h:OkT t) {g tx:Int} {l:List TBlk} (hx:0≤tx∧tx≤4294967295) (hl:g=1->fitL l=true) (hw:∀ b ∈ l,∀ y ∈ b.2,0≤y∧y≤65535):OkT (beginT t g tx l):=by
 refine ⟨⟨h.p.u0,h.p.u1,h.p.l,h.p.t0,h.p.t1,h.p.r0,h.p.r1,zA_ok,h.p.x0,h.p.x1⟩,h.o,hx,?_,?_,?_,?_,(by decide:(0:Int)≤0),fun _=>(by decide:(0:Int)≤8)⟩
 ·show (if g=1 then l else []).length≤8
  split
  ·rename_i e
   have:=hl e
   unfold fitL at this
   simp only [zO,decide_eq_true_eq] at this
   exact this.1
  ·decide
 ·show ∀ b ∈ (if g=1 then l else []),_
  split
  ·rename_i e
   have:=hl e
   unfold fitL at this
   simp only [zO,List.all_eq_true] at this
   exact fun b hb=>⟨this.2 b hb,hw b hb⟩
  ·intro b hb; cases hb
 ·show 0≤firstT g∧firstT g≤7
  unfold firstT
  split
  ·decide
  ·split
   ·decide
   ·split <;> decide
 ·exact ⟨(by decide:(0:Int)≤0),by show (0:Int)≤((if g=1 then l else []).length:Int); omega⟩
theorem start_eq {t:TTk} (h:OkT t) {g tx:Int} {l:List TBlk} (hx:0≤tx∧tx≤4294967295) (hl:l.length≤1000000) (hk:∀ b ∈ l,b.2.length≤1000000) (hw:∀ b ∈ l,∀ y ∈ b.2,0≤y∧y≤65535) :
  q3o_ (t,g,tx,l,())=some ((startT t g tx l).1,(startT t g tx l).2.1,(startT t g tx l).2.2,()):=by
 show qju_ qku_ t g tx l=_
 unfold qju_ startT
 have k1:∀ (g l a z),qku_ g tx l a true t z=some (t,[],2,()):=fun g l a z=>by
  show q9v_ qea_ g tx l a true t z=_
  unfold q9v_
  rw [if_pos rfl,town_eq h.sz]; rfl
 have hf:qwe_ (g,())=some (firstT g,decide (1≤g∧g≤3),()):=by
  show qw1_ g=_
  unfold qw1_ firstT
  by_cases h1:g=1
  ·subst h1; rfl
  ·rw [if_neg (fun e=>h1 (q4_.1 e)),if_neg h1]
   by_cases h2:g=2
   ·subst h2; rfl
   ·rw [if_neg (fun e=>h2 (q4_.1 e)),if_neg h2]
    by_cases h3:g=3
    ·subst h3; rfl
    ·rw [if_neg (fun e=>h3 (q4_.1 e)),if_neg h3,decide_eq_false (by omega)]
 rw [hf,zD]
 by_cases hg:1≤g∧g≤3
 ·rw [decide_eq_true hg]
  by_cases h0:tx=0
  ·rw [if_neg (by simp),show eqi tx 0=true from q4_.2 h0,k1,if_pos (.inr h0)]
  ·rw [if_neg (by simp),show eqi tx 0=false from by rw [<- Bool.not_eq_true,q4_]; exact h0,if_neg (fun e=>e.elim (fun e=>e hg) h0)]
   have k2:∀ (l':List TBlk) z,l'=(if g=1 then l else [])->qea_ g tx l' (firstT g) t z=some (if g=1∧fitL l=false then (t,[],20,()) else ((sendT (beginT t g tx l)).1,(sendT (beginT t g tx l)).2,0,())):=fun l' z el=>by
    have hl':l'.length≤1000000:=by
     rw [el]
     split
     ·exact hl
     ·exact Nat.zero_le _
    have hk':∀ b ∈ l',b.2.length≤1000000:=by
     rw [el]
     split
     ·exact hk
     ·intro b hb; cases hb
    show qkg_ g tx l' (firstT g) t z=_
    unfold qkg_
    rw [fit_eq hl' hk',zD]
    by_cases hc:g=1∧fitL l=false
    ·have:fitL l'=false:=by rw [el,if_pos hc.1]; exact hc.2
     rw [this,if_pos (by decide),if_pos hc,town_eq h.sz]; rfl
    ·have:fitL l'=true:=by
      rw [el]
      by_cases e:g=1
      ·rw [if_pos e]
       cases hfl:fitL l with
       | true=>rfl
       | false=>exact absurd ⟨e,hfl⟩ hc
      ·rw [if_neg e]; rfl
     have ok:=beginT_ok h (g:=g) hx (l:=l) (fun e=>by rw [el,if_pos e] at this; exact this) hw
     rw [this,if_neg (by decide),if_neg hc,drop_eq,zD,copies_eq hl' hk',zD]
     show (zC (q7v_ ((dropP t.1,t.2.1,tx,l',g,firstT g,0,0,0),())) fun y=>some (y.1,y.2.1,0,()))=_
     rw [el]
     show (zC (q7v_ (beginT t g tx l,())) fun y=>some (y.1,y.2.1,0,()))=_
     rw [tsend_eq ok]; rfl
   show q9v_ qea_ g tx l (firstT g) false t _=_
   unfold q9v_
   rw [if_neg (by decide)]
   by_cases e:g=1
   ·rw [if_neg (fun h=>qd_.1 h e),k2 l _ (by rw [if_pos e])]
    split <;> rfl
   ·rw [if_pos (qd_.2 e),k2 [] _ (by rw [if_neg e])]
    split <;> rfl
 ·rw [decide_eq_false hg,if_pos (by simp),k1,if_pos (.inl hg)]
def ttakeT (t:TTk) (f:List Int):TTk×List Int:=match takeV t.1 f with
 | none=>(t,[])
 | some r=>if (effT (dropP t.1,t.2) r).2.2.2.2.2.1=0 then (effT (dropP t.1,t.2) r,[]) else sendT (effT (dropP t.1,t.2) r)
theorem OkT.drop {t:TTk} (h:OkT t):OkT (dropP t.1,t.2) :=
 ⟨⟨h.p.u0,h.p.u1,h.p.l,h.p.t0,h.p.t1,h.p.r0,h.p.r1,zA_ok,h.p.x0,h.p.x1⟩,h.o,h.x,h.bl,h.bf,h.at',h.n,h.tr⟩
theorem ttake_eq {t:TTk} (h:OkT t) {f:List Int} (hf:∀ x ∈ f,0≤x∧x≤255) (hl:f.length≤100000) (hr:∀ r,takeV t.1 f=some r->(∀ x ∈ r.2.2.2.1,0≤x∧x≤65535)∧r.2.2.2.1.length≤1000000) :
  q7q_ (t,f,())=some ((ttakeT t f).1,(ttakeT t f).2,()):=by
 show qzd_ t f=_
 unfold qzd_ ttakeT
 rw [town_eq h.sz,zD,take_eq h.p hl hf]
 cases hv:takeV t.1 f with
 | none=>rfl
 | some r =>
  obtain ⟨h1,h2⟩:=hr r hv
  show (zC (qj5_ ((dropP t.1,t.2),r,())) fun y=>if eqi y.1.2.2.2.2.2.1 0=true then some (y.1,[],()) else zC (q7v_ (y.1,())) fun y=>some (y.1,y.2.1,()))=_
  rw [effect_eq h.drop h1 h2,zD]
  dsimp only
  by_cases e:(effT (dropP t.1,t.2) r).2.2.2.2.2.1=0
  ·rw [if_pos (q4_.2 e),if_pos e]
  ·rw [if_neg (fun h=>e (q4_.1 h)),if_neg e,tsend_eq (h.drop.eff r)]
   rfl
def ttickT (t:TTk):TTk×List Int :=
 if (tickV t.1).2.2=false then (((tickV t.1).1,t.2),(tickV t.1).2.1) else if t.2.2.2.2.1=1 then (endT ((tickV t.1).1,t.2) 2,[]) else sendT ((tickV t.1).1,t.2)
abbrev TWay:=List (Bool×List Int)
theorem q1v_ {s:TSl} (h:OkS s):mkSl s=s:=by
 have h1:=h.a.sz.hv
 have h2:=h.a.sz.bs
 unfold mkSl
 rw [mkAg_eq h1 h2]
def outW (w:TWay) (m:Bool) (b:List Int):TWay:=if 0 < b.length∧w.length < 12 then w++[(m,b)] else w
theorem sent_law {b:List Int} {t:TTk} {s:TSl} (hs:OkS s) (x g:Int) (pl:List (List TBlk)) (w:TWay):q2y_ (b,t,s,x,g,pl,w,())=some (t,s,x,g,pl,outW w false b,()):=by
 show qah_ q6q_ b t s x g pl w=_
 unfold qah_ outW
 have k1:q6q_ b true (t,s,(),x,g,pl) w=need (small (w.length + 1)) (some (t,s,x,g,pl,w++[(false,b)],())):=by
  show q4l_ b true (t,s,(),x,g,pl) w=_
  unfold q4l_
  rw [if_pos rfl,q1v_ hs]
 have k0:q6q_ b false (t,s,(),x,g,pl) w=some (t,s,x,g,pl,w,()):=by
  show q4l_ b false (t,s,(),x,g,pl) w=_
  unfold q4l_
  rw [if_neg (by decide),q1v_ hs]
 by_cases h1:0 < b.length
 ·rw [if_pos (q21_.2 (by rw [q2_]; omega))]
  by_cases h2:w.length < 12
  ·rw [show lt (zF w.length) 12=true from q5_.2 (by rw [q2_]; omega),k1,qe_ (by omega),if_pos ⟨h1,h2⟩]
  ·rw [show lt (zF w.length) 12=false from by rw [<- Bool.not_eq_true,q5_,q2_]; omega,k0,if_neg (fun h=>h2 h.2)]
 ·rw [if_neg (fun h=>h1 (by have:=q21_.1 h; rw [q2_] at this; omega)),k0,if_neg (fun h=>h1 h.1)]
def comeP (m:Bool×List Int) (t:TTk) (s:TSl) (w:TWay):TTk×TSl×TWay :=
 if m.1=true then ((ttakeT t m.2).1,s,outW w false (ttakeT t m.2).2) else (t,(takeS s m.2).1,outW w true (takeS s m.2).2)
structure OkM (t:TTk) (m:Bool×List Int):Prop where
 b:∀ x ∈ m.2,0≤x∧x≤255
 l:m.2.length≤100000
 r:m.1=true->∀ r,takeV t.1 m.2=some r->(∀ x ∈ r.2.2.2.1,0≤x∧x≤65535)∧r.2.2.2.1.length≤1000000
theorem come_law {m:Bool×List Int} {t:TTk} {s:TSl} (ht:OkT t) (hs:OkS s) (hm:OkM t m) (x g:Int) (pl:List (List TBlk)) (w:TWay) :
  q2l_ (m,t,s,x,g,pl,w,())=some ((comeP m t s w).1,(comeP m t s w).2.1,x,g,pl,(comeP m t s w).2.2,()):=by
 show q9y_ qac_ q9x_ m t s x g pl w=_
 unfold q9y_ comeP
 have k1:∀ b (o:TWay) (t':TTk),qac_ b (t,s,(),x,g,pl) o t'=some (t',s,x,g,pl,outW o false b,()):=fun b o t'=>by
  show qaf_ b (t,s,(),x,g,pl) o t'=_
  unfold qaf_
  rw [q1v_ hs,sent_law hs,zD]
  dsimp only
  rw [q1v_ hs]
 have k2:∀ b (o:TWay) (s':TSl),OkS s'->q9x_ 0 b (t,s,(),x,g,pl) o [s']=some (t,s',x,g,pl,outW o true b,()):=fun b o s' hs'=>by
  have k3:q2p_ b true (t,s',(),x,g,pl) o=need (small (o.length + 1)) (some (t,s',x,g,pl,o++[(true,b)],())):=by
   show q4k_ b true (t,s',(),x,g,pl) o=_
   unfold q4k_
   rw [if_pos rfl,q1v_ hs']
  have k4:q2p_ b false (t,s',(),x,g,pl) o=some (t,s',x,g,pl,o,()):=by
   show q4k_ b false (t,s',(),x,g,pl) o=_
   unfold q4k_
   rw [if_neg (by decide),q1v_ hs']
  show qab_ q2p_ 0 b (t,s,(),x,g,pl) o [s']=_
  unfold qab_ outW
  rw [q12_,zD]
  by_cases h1:0 < b.length
  ·rw [if_pos (q21_.2 (by rw [q2_]; omega))]
   by_cases h2:o.length < 12
   ·rw [show lt (zF o.length) 12=true from q5_.2 (by rw [q2_]; omega)]
    show q2p_ b true (t,s',(),x,g,pl) o=_
    rw [k3,qe_ (by omega),if_pos ⟨h1,h2⟩]
   ·rw [show lt (zF o.length) 12=false from by rw [<- Bool.not_eq_true,q5_,q2_]; omega]
    show q2p_ b false (t,s',(),x,g,pl) o=_
    rw [k4,if_neg (fun h=>h2 h.2)]
  ·rw [if_neg (fun h=>h1 (by have:=q21_.1 h; rw [q2_] at this; omega))]
   show q2p_ b false (t,s',(),x,g,pl) o=_
   rw [k4,if_neg (fun h=>h1 h.1)]
 by_cases h1:m.1=true
 ·rw [if_pos h1,if_pos h1,amb2 (eqAs_refl _),ttake_eq ht hm.b hm.l (hm.r h1),zD]
  exact k1 _ _ _
 ·rw [if_neg h1,if_neg h1,amb2 (eqAs_refl _),q1v_ hs,stake_eq hs hm.b hm.l,zD]
  exact k2 _ _ _ (takeS_ok hs hm.b)
end Go.Proofs.Lx
end
