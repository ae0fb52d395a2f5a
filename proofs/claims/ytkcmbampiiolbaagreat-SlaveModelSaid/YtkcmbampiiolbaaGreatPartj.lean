/- Proved in the last of these 13 parts (this is part 10): SlaveModel returns true, whatever the link, the bank, the ticks and what comes. Conditions: those of the given statement, and no others. -/
import Derived.Test.YtkcmbampiiolbaaGreatParti
import Derived.Test.YtkcmbampiiolbaaGreatParte
set_option linter.unusedVariables false
set_option linter.unusedSimpArgs false
set_option linter.unusedSectionVars false
section
namespace Go.Proofs.Lx
open Go Ev Sx Pl
set_option maxRecDepth 100000
def cutV (b:List Int):List Int×Int :=
 if b.length < 2 then ([],10) else
 if sumV (b.take (b.length - 2))=numV (b.getD (b.length - 1) 0) (b.getD (b.length - 2) 0) then (b.take (b.length - 2),0) else ([],11)
theorem fill_all {α:Type} {z:α} {n:Nat} {y:List α} (h:y.length=n):List.take (Int.toNat (Int.ofNat (List.length (List.replicate n z)))) y++List.drop (0 + List.length (List.take (Int.toNat (Int.ofNat (List.length (List.replicate n z)))) y)) (List.replicate n z)=y:=by
 rw [List.length_replicate,q1_,Int.toNat_natCast,List.take_of_length_le (by omega),List.drop_of_length_le (by simp; omega)]
 simp
theorem fill_take {α:Type} {z:α} {n:Nat} {y:List α} (h:n≤y.length):List.take (Int.toNat (Int.ofNat (List.length (List.replicate n z)))) y++List.drop (0 + List.length (List.take (Int.toNat (Int.ofNat (List.length (List.replicate n z)))) y)) (List.replicate n z)=y.take n:=by
 rw [List.length_replicate,q1_,Int.toNat_natCast,List.drop_of_length_le (by simp; omega)]
 simp
theorem ccut_eq {b:List Int} (h:b.length≤100000):qxt_ (b,())=some ((cutV b).1,(cutV b).2,()):=by
 show qvd_ b=_
 unfold qvd_ cutV
 by_cases h2:b.length < 2
 ·rw [if_pos (by rw [q7_,q1_]; omega),if_pos h2]
 ·have e1:sub .i64 (Int.ofNat b.length) 2=((b.length - 2:Nat):Int):=by
   rw [sub64 (by rw [q1_]; omega) (by rw [q1_]; omega),q1_]
   omega
  have g1:b[b.length - 2]? = some (b[b.length - 2]'(by omega)):=List.getElem?_eq_getElem (by omega)
  have g2:b[b.length - 2 + 1]? = some (b[b.length - 2 + 1]'(by omega)):=List.getElem?_eq_getElem (by omega)
  rw [if_neg (by rw [q7_,q1_]; omega),if_neg h2,e1,cut_to (by omega),Option.bind_some,q1a_ (by omega),ql_ g1,Option.bind_some,ql_ g2,Option.bind_some,sum_eq (by simp; omega),Option.bind_some]
  have e2:bor .u16 (cvt .u16 (b[b.length - 2]'(by omega))) (shl .u16 (cvt .u16 (b[b.length - 2 + 1]'(by omega))) 8)=numV (b.getD (b.length - 1) 0) (b.getD (b.length - 2) 0):=by
   rw [bor_comm]
   have e3:b.length - 1=b.length - 2 + 1:=by omega
   rw [e3,List.getD_eq_getElem?_getD,List.getD_eq_getElem?_getD,g1,g2]
   rfl
  rw [e2]
  by_cases hs:sumV (b.take (b.length - 2))=numV (b.getD (b.length - 1) 0) (b.getD (b.length - 2) 0)
  ·rw [if_neg (by rw [qf_]; exact fun e=>e hs),if_pos hs,q8_ (by rw [q17_]; omega),q8_ (capOk_self _),Int.toNat_natCast,qn_ (by omega),q8_ (by rw [qv_]; simp only [List.length_replicate,q1_]; omega),fill_take (by omega)]
  ·rw [if_pos (by rw [qf_]; exact hs),if_neg hs]
theorem isUnit_eq (u:Int):qev_ (u,())=some (decide (1≤u) && decide (u≤247),()):=by
 show qfi_ u=_
 unfold qfi_
 rw [if_dec (q17_) fun _=>rfl]
 rfl
def rtuV (b:List Int):Int×List Int×Int :=
 if b.length < 4∨256 < b.length then (0,[],10) else
 if (cutV b).2 ≠ 0 then (0,[],(cutV b).2) else
 match (cutV b).1 with
 | []=>(0,[],10)
 | x::r=>if (decide (1≤x) && decide (x≤247))=true then (x,r,0) else (0,[],10)
theorem cutV_len {b:List Int} (h:(cutV b).2=0):(cutV b).1.length=b.length - 2:=by
 unfold cutV at h ⊢
 split
 ·rename_i h1; rw [if_pos h1] at h; cases h
 ·rename_i h1
  rw [if_neg h1] at h
  split
  ·simp
  ·rename_i h2; rw [if_neg h2] at h; cases h
theorem rtup_eq (b:List Int):qqs_ (b,())=some ((rtuV b).1,(rtuV b).2.1,(rtuV b).2.2,()):=by
 show qmz_ qgy_ b=_
 have K:∀ t,qgy_ b t=qo2_ b t:=fun _=>rfl
 unfold qmz_ rtuV
 rw [K,K]
 by_cases h:b.length < 4
 ·rw [if_pos (by rw [q7_,q1_]; omega),if_pos (.inl h)]
  rfl
 ·rw [if_neg (by rw [q7_,q1_]; omega)]
  unfold qo2_
  by_cases h2:256 < b.length
  ·rw [if_pos (by rw [gt_iff,q1_]; omega),if_pos (.inr h2)]
  ·rw [if_neg (by rw [gt_iff,q1_]; omega),if_neg (by omega),ccut_eq (by omega),Option.bind_some]
   dsimp only
   by_cases h3:(cutV b).2=0
   ·rw [if_neg (by rw [qf_]; exact fun e=>e h3),if_neg (fun e=>e h3)]
    have hl:=cutV_len h3
    match hc:(cutV b).1 with
    | []=>rw [hc] at hl; simp at hl; omega
    | x::r =>
     rw [q1b_,Option.bind_some,isUnit_eq,Option.bind_some,Option.bind_some]
     show _=some ((if (decide (1≤x) && decide (x≤247))=true then (x,r,0) else (0,[],10)).1,(if (decide (1≤x) && decide (x≤247))=true then (x,r,0) else (0,[],10)).2.1,(if (decide (1≤x) && decide (x≤247))=true then (x,r,0) else (0,[],10)).2.2,())
     cases decide (1≤x) && decide (x≤247) with
     | false=>rfl
     | true =>
      have e:cut (x::r) 1 (Int.ofNat (x::r).length)=some r:=cut_one x r
      rw [if_neg (by decide),e,Option.bind_some,q8_ (by rw [qv_]; omega),q8_ (by rw [qv_]; omega),if_pos rfl]
   ·rw [if_pos (by rw [qf_]; exact h3),if_pos h3]
def outF:Option TR->Option (TR×Bool×Unit)
 | some r=>some (r,true,())
 | none=>some (zR,false,())
def beginsV (b2 b3 b4 b5:Int):Bool:=!nei b2 0 && (!nei b3 0 && (!nei b4 0 && (!lt b5 2 && !gt (cvt .i64 b5) 254)))
theorem bstep {self:List Int->Int->Option (As [.bool])} {b:List Int} {i y:Int} (hi:i < 5) (hl:i < Int.ofNat b.length) (hy:at? b i=some y) :
  q6c_ (q51_ self) self b i=if nei y 0=true then some (false,()) else self b (add .i64 i 1):=by
 have e5:eqi i 5=false:=by
  rw [<- Bool.not_eq_true,q4_]
  omega
 unfold q6c_
 rw [if_pos (by rw [q7_]; omega),q7_.2 hl]
 unfold q51_ qia_
 rw [if_pos rfl,if_pos (q7_.2 hi),hy,Option.bind_some]
 unfold qd5_ qi6_
 cases nei y 0 with
 | true=>rfl
 | false =>
  simp only [e5,Bool.false_eq_true,if_false]
  rfl
theorem bstep5 {self:List Int->Int->Option (As [.bool])} {b:List Int} {y:Int} (hl:5 < Int.ofNat b.length) (hy:at? b 5=some y) :
  q6c_ (q51_ self) self b 5=if lt y 2=true then some (false,()) else if gt (cvt .i64 y) 254=true then some (false,()) else self b 6:=by
 unfold q6c_
 rw [if_pos (by decide),q7_.2 hl]
 unfold q51_ qia_
 rw [if_pos rfl,if_neg (by decide)]
 unfold qd5_ qi6_
 rw [if_neg (by decide),if_pos (by decide),hy,Option.bind_some,Option.bind_some]
 cases lt y 2 with
 | true=>rfl
 | false=>cases gt (cvt .i64 y) 254 <;> rfl
theorem bstep6 {self:List Int->Int->Option (As [.bool])} {b:List Int}:q6c_ (q51_ self) self b 6=some (true,()):=rfl
theorem begins_eq (b0 b1 b2 b3 b4 b5 b6 b7:Int) (r:List Int):qje_ (b0::b1::b2::b3::b4::b5::b6::b7::r,())=some (beginsV b2 b3 b4 b5,()):=by
 show qim_ qe4_ _=_
 unfold qim_ qe4_ beginsV
 have hlen:(Int.ofNat (b0::b1::b2::b3::b4::b5::b6::b7::r).length)=(r.length:Int) + 8:=by rw [q1_]; simp; omega
 generalize hb:b0::b1::b2::b3::b4::b5::b6::b7::r=b at hlen ⊢
 have h2:at? b 2=some b2:=by rw [<- hb]; rfl
 have h3:at? b 3=some b3:=by rw [<- hb]; rfl
 have h4:at? b 4=some b4:=by rw [<- hb]; rfl
 have h5:at? b 5=some b5:=by rw [<- hb]; rfl
 have key:∀ n:Nat,loopF (fun (self:(List Int)×(Int)->Option (As [.bool])) (s:(List Int)×(Int))=>q6c_ (q51_ (fun b i=>self (b,i))) (fun b i=>self (b,i)) s.1 s.2) (n + 5) (b,2) =
   some (!nei b2 0 && (!nei b3 0 && (!nei b4 0 && (!lt b5 2 && !gt (cvt .i64 b5) 254))),()):=by
  intro n
  rw [q21_]
  refine (bstep (by decide) (by rw [hlen]; omega) h2).trans ?_
  cases nei b2 0 with
  | true=>rfl
  | false =>
   rw [if_neg (by decide),q21_]
   refine (bstep (i:=3) (by decide) (by rw [hlen]; omega) h3).trans ?_
   cases nei b3 0 with
   | true=>rfl
   | false =>
    rw [if_neg (by decide),q21_]
    refine (bstep (i:=4) (by decide) (by rw [hlen]; omega) h4).trans ?_
    cases nei b4 0 with
    | true=>rfl
    | false =>
     rw [if_neg (by decide),q21_]
     refine (bstep5 (by rw [hlen]; omega) h5).trans ?_
     cases lt b5 2 with
     | true=>rfl
     | false =>
      cases gt (cvt .i64 b5) 254 with
      | true=>rfl
      | false =>
       rw [if_neg (by decide),if_neg (by decide),q21_]
       exact bstep6
 exact key 18446744073709551611
def zM:Int×Int×List Int:=(0,0,[])
def mbapP:List Int->(Int×Int×List Int)×Int
 | b0::b1::b2::b3::b4::b5::b6::r =>
  if r=[] then (zM,10) else if beginsV b2 b3 b4 b5=true then if (r.length:Int) + 1=b5 then ((numV b0 b1,b6,r),0) else (zM,10) else (zM,10)
 | _=>(zM,10)
theorem mparse_eq {b:List Int} (hl:b.length≤100000) (hb:∀ x ∈ b,0≤x∧x≤255):qn0_ (b,())=some ((mbapP b).1,(mbapP b).2,()):=by
 show qky_ qft_ b=_
 unfold qky_
 have short:b.length≤7->qis_ (b,())=some (zM,0,()):=fun h=>by
  show qbj_ qg1_ b=_
  unfold qbj_
  rw [if_pos (by rw [qv_,q1_]; omega)]
  rfl
 have shortP:b.length≤7->mbapP b=(zM,10):=fun h=>by
  match b with
  | [] | [_] | [_,_] | [_,_,_] | [_,_,_,_] | [_,_,_,_,_] | [_,_,_,_,_,_]=>rfl
  | [_,_,_,_,_,_,_]=>rfl
  | _::_::_::_::_::_::_::_::_=>exact absurd h (by simp)
 by_cases hs:b.length≤7
 ·rw [short hs,shortP hs]
  rfl
 ·match b with
  | [] | [_] | [_,_] | [_,_,_] | [_,_,_,_] | [_,_,_,_,_] | [_,_,_,_,_,_]=>simp at hs
  | [_,_,_,_,_,_,_]=>simp at hs
  | b0::b1::b2::b3::b4::b5::b6::b7::r =>
   have h5:=hb b5 (by simp)
   have hlr:r.length≤100000:=by simp at hl; omega
   have e5:cvt .i64 b5=b5:=cvt64 (by omega) (by omega)
   have hF:qis_ (b0::b1::b2::b3::b4::b5::b6::b7::r,())=if beginsV b2 b3 b4 b5=true then if (r.length:Int) + 2 < b5 then some (zM,0,()) else some ((numV b0 b1,b6,(b7::r).take (b5 - 1).toNat),6 + b5,()) else some (zM,0,()):=by
    show qbj_ qg1_ _=_
    unfold qbj_
    rw [if_neg (by rw [qv_,q1_]; simp; omega),begins_eq,Option.bind_some]
    cases hbg:beginsV b2 b3 b4 b5 with
    | false=>rfl
    | true =>
     rw [if_pos rfl]
     have h52:2≤b5:=by
      unfold beginsV at hbg
      simp only [Bool.and_eq_true,Bool.not_eq_true',<- Bool.not_eq_true] at hbg
      have:=hbg.2.2.2.1
      rw [q7_] at this
      omega
     show qjw_ _ false 0 0=_
     unfold qjw_
     have g5:at? (b0::b1::b2::b3::b4::b5::b6::b7::r) 5=some b5:=rfl
     have ea:add .i64 6 (cvt .i64 b5)=6 + b5:=by rw [e5,add64 (by omega) (by omega)]
     rw [if_neg (by decide),g5,Option.bind_some,ea]
     by_cases hlt:(r.length:Int) + 2 < b5
     ·rw [if_pos (by rw [q7_,q1_]; simp; omega),if_pos hlt]
      rfl
     ·have es:sub .i64 (6 + b5) 7=(((b5 - 1).toNat:Nat):Int):=by rw [sub64 (by omega) (by omega)]; omega
      have ec:cut (b0::b1::b2::b3::b4::b5::b6::b7::r) 7 (6 + b5)=some ((b7::r).take (b5 - 1).toNat):=by
       have:=cut_nat (xs:=b0::b1::b2::b3::b4::b5::b6::b7::r) (i:=7) (j:=7 + (b5 - 1).toNat) (by omega) (by simp; omega)
       have e:((7 + (b5 - 1).toNat:Nat):Int)=6 + b5:=by omega
       rw [e,Nat.add_comm 7 (b5 - 1).toNat] at this
       exact this
      rw [if_neg (by rw [q7_,q1_]; simp; omega),if_neg hlt,es,q8_ (by rw [q17_]; omega),q8_ (capOk_self _),Int.toNat_natCast,qn_ (by omega),ec,Option.bind_some,q8_ (by rw [qv_]; simp only [List.length_replicate,q1_]; omega)]
      have hlen:((b7::r).take (b5 - 1).toNat).length=(b5 - 1).toNat:=by rw [List.length_take,List.length_cons]; omega
      rw [fill_all hlen]
      rfl
   rw [hF]
   have K:∀ (t:Bool) (y1 y2:Int) (y3:List Int),qft_ t 0 0 (y1,y2,y3)=if t=true then some (zM,10,()) else some ((y1,y2,y3),0,()):=fun t y1 y2 y3=>rfl
   show _=some ((mbapP (b0::b1::b2::b3::b4::b5::b6::b7::r)).1,(mbapP (b0::b1::b2::b3::b4::b5::b6::b7::r)).2,())
   unfold mbapP
   dsimp only
   have hne:¬ (b7::r=[]):=by simp
   rw [if_neg hne]
   cases hbg:beginsV b2 b3 b4 b5 with
   | false=>rfl
   | true =>
    simp only [if_true]
    have h52:2≤b5:=by
     unfold beginsV at hbg
     simp only [Bool.and_eq_true,Bool.not_eq_true',<- Bool.not_eq_true] at hbg
     have:=hbg.2.2.2.1
     rw [q7_] at this
     omega
    by_cases hlt:(r.length:Int) + 2 < b5
    ·have hq:¬ (((b7::r).length:Int) + 1=b5):=by simp; omega
     rw [if_pos hlt,if_neg hq]
     rfl
    ·rw [if_neg hlt,Option.bind_some]
     dsimp only
     rw [if_neg (by rw [q4_]; omega),K]
     by_cases he:(r.length:Int) + 2=b5
     ·have e1:nei (6 + b5) (Int.ofNat (b0::b1::b2::b3::b4::b5::b6::b7::r).length)=false:=by
       rw [<- Bool.not_eq_true,qf_,q1_]
       simp
       omega
      have hq:((b7::r).length:Int) + 1=b5:=by simp; omega
      rw [e1,if_pos hq]
      have e2:(b7::r).take (b5 - 1).toNat=b7::r:=List.take_of_length_le (by simp; omega)
      rw [e2]
      rfl
     ·have hq:¬ (((b7::r).length:Int) + 1=b5):=by simp; omega
      rw [if_neg hq,if_pos (by rw [qf_,q1_]; simp; omega)]
end Go.Proofs.Lx
end
section
namespace Go.Proofs.Lx
open Go Ev Sx Pl
set_option maxRecDepth 100000
def echoV (a:TA):Option TR :=
 if a.1=5 then some (5,0,[a.2.2.2.2.2.headD false],[],a.2.1,0) else if a.1=6 then some (6,0,[],[a.2.2.2.2.1.headD 0],a.2.1,0) else
 if a.1=15∨a.1=16 then some (a.1,0,[],[],a.2.1,a.2.2.1) else none
theorem echo_eq {a:TA} (h:OkA a) (hr:q1o_ a=true):q5y_ (a,())=outF (echoV a):=by
 show qbh_ q8z_ qg2_ a=_
 unfold qbh_
 rw [right_eq h,Option.bind_some,hr]
 clear h
 have hra:=q3i_ hr
 clear hr
 cases hra with
 | bits f p n hf h1 h2=>rcases hf with rfl | rfl <;> rfl
 | words f p n hf h1 h2=>rcases hf with rfl | rfl <;> rfl
 | coil p b=>rfl
 | word p x=>rfl
 | coils p l h1 h2=>rfl
 | regs p l h1 h2=>rfl
 | swap p n t l h1 h2 h3 h4=>rfl
theorem goL_index (v:Bool):∀ (s:List Bool) (n:Nat),∃ k:Int,goL (R:=Int×Unit) (fun (_:Unit) (x:Bool×Nat) k=>if eqb v x.1=true then some ((x.2:Int),()) else k ()) (fun _=>some (-1,())) (s.zipIdx n) ()=some (k,())∧(0≤k ↔ v ∈ s)
 | [],n=>⟨-1,rfl,by simp⟩
 | a::r,n=>by
  rw [List.zipIdx_cons]
  obtain ⟨k,h1,h2⟩:=goL_index v r (n + 1)
  by_cases e:v=a
  ·refine ⟨(n:Int),?_,by simp [e]⟩
   show (if eqb v a=true then _ else _)=_
   rw [if_pos (eqb_iff.2 e)]
  ·refine ⟨k,?_,?_⟩
   ·show (if eqb v a=true then _ else _)=_
    rw [if_neg (fun h=>e (eqb_iff.1 h))]
    exact h1
   ·rw [h2]
    simp [e]
theorem contains_eq {s:List Bool} (v:Bool) (h:s.length≤1000000):q2w_ (s,v,())=some (decide (v ∈ s),()):=by
 obtain ⟨k,h1,h2⟩:=goL_index v s 0
 have e:qby_ (s,v,())=some (k,()):=by
  rw [<- h1]
  show q8p_ q6e_ s v=_
  unfold q8p_ q6e_
  have hz:(s.zipIdx 0).length=s.length:=by simp
  refine loop_go (xs:=s.zipIdx 0) (mk:=fun i _=>(s,v,Int.ofNat s.length,(i:Int))) ?_ ?_ s.length 0 () _ (by rw [hz]; omega) (by omega)
  ·intro self i acc x hx
   have hi:=(List.getElem?_eq_some_iff.1 hx).1
   rw [hz] at hi
   have hx2:s[i]? = some x.1∧x.2=i:=by
    rw [List.getElem?_zipIdx] at hx
    obtain ⟨y,hy,rfl⟩:=Option.map_eq_some_iff.1 hx
    exact ⟨hy,by simp⟩
   show q4k_ _ s v (Int.ofNat s.length) (i:Int)=_
   unfold q4k_
   rw [if_pos (by rw [q7_,q1_]; omega),ql_ hx2.1,Option.bind_some,q1a_ (by omega),hx2.2]
  ·intro self acc
   show q4k_ _ s v (Int.ofNat s.length) (((s.zipIdx 0).length:Nat):Int)=_
   unfold q4k_
   rw [hz,if_neg (by rw [q7_,q1_]; omega)]
 show qar_ s v=_
 unfold qar_
 rw [e,Option.bind_some]
 refine congrArg (fun x=>some (x,())) ?_
 rw [ge_dec]
 by_cases hv:v ∈ s
 ·rw [decide_eq_true hv,decide_eq_true (h2.2 hv)]
 ·rw [decide_eq_false hv,decide_eq_false (fun h=>hv (h2.1 h))]
def fitsV (a:TA) (r:TR):Bool :=
 q1o_ a && (rightR r && (decide (a.1=r.1) && (if r.2.1 ≠ 0 then true else match echoV a with
  | some e=>decide (e=r)
  | none=>if 0 < r.2.2.1.length then decide ((r.2.2.1.length:Int)=(a.2.2.1 + 7) / 8 * 8) && !decide (true ∈ r.2.2.1.drop a.2.2.1.toNat) else decide ((r.2.2.2.1.length:Int)=a.2.2.1))))
theorem fits_K {a:TA} {r:TR} (h:OkA a) (hr:q1o_ a=true) (hs:SmR r) (t:Bool):qbo_ t a.1 a.2.1 a.2.2.1 a.2.2.2.1 a.2.2.2.2.1 a.2.2.2.2.2 r.1 r.2.1 r.2.2.1 r.2.2.2.1 r.2.2.2.2.1 r.2.2.2.2.2 =
  some (!t && (if r.2.1 ≠ 0 then true else match echoV a with
  | some e=>decide (e=r)
  | none=>if 0 < r.2.2.1.length then decide ((r.2.2.1.length:Int)=(a.2.2.1 + 7) / 8 * 8) && !decide (true ∈ r.2.2.1.drop a.2.2.1.toNat) else decide ((r.2.2.2.1.length:Int)=a.2.2.1)),()):=by
 unfold qbo_ qr9_
 cases t with
 | true=>rfl
 | false =>
  rw [if_neg (by decide),Bool.not_false,Bool.true_and]
  by_cases h0:r.2.1=0
  ·rw [if_neg (by rw [qf_]; exact fun e=>e h0)]
   simp only [ne_eq,h0,not_true_eq_false,if_false]
   have he:q5y_ ((a.1,a.2.1,a.2.2.1,a.2.2.2.1,a.2.2.2.2.1,a.2.2.2.2.2),())=outF (echoV a):=echo_eq h hr
   rw [he]
   cases hv:echoV a with
   | some e =>
    have hse:SmR e:=by
     unfold echoV at hv
     split at hv
     ·cases hv; exact ⟨by show 1≤100000; decide,by show 0≤100000; decide⟩
     ·split at hv
      ·cases hv; exact ⟨by show 0≤100000; decide,by show 1≤100000; decide⟩
      ·split at hv
       ·cases hv; exact ⟨by show 0≤100000; decide,by show 0≤100000; decide⟩
       ·cases hv
    have e2:=sameR_eq (b:=r) hse
    rw [<- h0]
    show Option.bind (q71_ (e,r,())) _=_
    rw [e2]
    rfl
   | none =>
    have hm0:=h.m0
    have hm1:=h.m1
    have hb:=hs.b
    have hw:=hs.w
    show (if gt (Int.ofNat r.2.2.1.length) 0=true then _ else _)=_
    by_cases hbl:0 < r.2.2.1.length
    ·rw [if_pos (by rw [gt_iff,q1_]; omega),if_pos hbl]
     obtain ⟨m,hm⟩:=Int.eq_ofNat_of_zero_le hm0
     have e1:mul .i64 (quo .i64 (add .i64 (cvt .i64 a.2.2.1) 7) 8) 8=(a.2.2.1 + 7) / 8 * 8:=by
      rw [hm,cvt64 (by omega) (by omega),show (7:Int)=((7:Nat):Int) from rfl,addn64 (by omega)]
      have:=quo_nat (i:=m + 7) (d:=8) (by omega)
      rw [show (8:Int)=((8:Nat):Int) from rfl,this,mul64 (by omega) (by omega)]
      omega
     rw [e1]
     by_cases hq:(r.2.2.1.length:Int)=(a.2.2.1 + 7) / 8 * 8
     ·rw [if_pos (by rw [q4_,q1_]; exact hq),decide_eq_true hq,cvt64 (by omega) (by omega),hm,cut_from (by omega),Option.bind_some,contains_eq true (by simp; omega),Option.bind_some,Int.toNat_natCast]
      rfl
     ·rw [if_neg (by rw [q4_,q1_]; exact hq),decide_eq_false hq]
      rfl
    ·rw [if_neg (by rw [gt_iff,q1_]; omega),if_neg hbl,cvt64 (by omega) (by omega)]
     refine congrArg (fun x=>some (x,())) ?_
     rw [q1_]
     rw [Bool.eq_iff_iff,q4_,decide_eq_true_eq]
  ·rw [if_pos (by rw [qf_]; exact h0),if_pos h0]
theorem fits_eq {a:TA} {r:TR} (h:OkA a) (hs:SmR r):qiq_ (a,r,())=some (fitsV a r,()):=by
 show qkx_ qbo_ a r=_
 unfold qkx_ fitsV
 rw [right_eq h,Option.bind_some,rightR_eq hs,Option.bind_some]
 cases hr:q1o_ a with
 | false=>rfl
 | true =>
  rw [if_neg (by decide)]
  cases hq:rightR r with
  | false=>rfl
  | true =>
   rw [if_neg (by decide),fits_K h hr hs]
   refine congrArg (fun x=>some (x,())) ?_
   have e:(!nei a.1 r.1)=decide (a.1=r.1):=by
    rw [Bool.eq_iff_iff,Bool.not_eq_true',<- Bool.not_eq_true,qf_,decide_eq_true_eq]
    exact Decidable.not_not
   rw [e]
   rfl
end Go.Proofs.Lx
end
section
namespace Go.Proofs.Lx
open Go Ev Sx Pl
set_option maxRecDepth 100000
end Go.Proofs.Lx
end
section
namespace Pl
open Go Ev Sx
theorem ok8 {x:Int} (h:(Lit.int .u8 x).wf=true):0≤x∧x≤255:=by
 simp [Lit.wf] at h
 have e1:IntKind.u8.min=0:=rfl
 have e2:IntKind.u8.max=255:=rfl
 omega
theorem ok16 {x:Int} (h:(Lit.int .u16 x).wf=true):0≤x∧x≤65535:=by
 simp [Lit.wf] at h
 have e1:IntKind.u16.min=0:=rfl
 have e2:IntKind.u16.max=65535:=rfl
 omega
end Pl
namespace Go.Proofs.Lx
open Go Ev Sx Pl
set_option maxRecDepth 100000
def fewV (ws:List Int) (bs:List Bool):Bool:=decide (ws.length≤200) && decide (bs.length≤2100)
theorem few_eq (ws:List Int) (bs:List Bool):qxu_ (ws,bs,())=some (fewV ws bs,()):=by
 show qv1_ ws bs=_
 unfold qv1_ fewV
 by_cases h:ws.length≤200
 ·rw [if_pos (by rw [qv_,q1_]; omega),decide_eq_true h,Bool.true_and,le_dec]
  refine congrArg (fun x=>some (x,())) ?_
  rw [q1_]
  by_cases h2:bs.length≤2100
  ·rw [decide_eq_true h2,decide_eq_true (by omega)]
  ·rw [decide_eq_false h2,decide_eq_false (by omega)]
 ·rw [if_neg (by rw [qv_,q1_]; omega),decide_eq_false h]
  rfl
theorem few_iff {ws:List Int} {bs:List Bool}:fewV ws bs=true ↔ ws.length≤200∧bs.length≤2100:=by simp [fewV]
end Go.Proofs.Lx
end
section
namespace Pl
open Go Ev Sx
theorem listS_two (y z:Int) (r:List Int):listS (y::z::r)=numV y z::listS r:=by
 unfold listS
 have e:(y::z::r).length / 2=r.length / 2 + 1:=by simp; omega
 rw [e,List.range_succ_eq_map,List.map_cons,List.map_map]
 congr 1
end Pl
namespace Go.Proofs.Lx
open Go Ev Sx Pl
set_option maxRecDepth 100000
theorem numV_two {x:Int} (h0:0≤x) (h1:x≤65535):numV (x / 256 % 256) (x % 256)=x:=by
 rw [numV_eq (by omega) (by omega) (by omega) (by omega)]
 omega
theorem listS_of_two {x:Int} (h0:0≤x) (h1:x≤65535) (r:List Int):listS (x / 256 % 256::x % 256::r)=x::listS r:=by rw [listS_two,numV_two h0 h1]
theorem listS_flat:∀ {l:List Int},(∀ x ∈ l,0≤x∧x≤65535)->listS (l.flatMap two)=l
 | [],_=>rfl
 | x::r,h=>by
  rw [List.flatMap_cons]
  show listS (x / 256 % 256::x % 256::r.flatMap two)=_
  have hx:=h x (by simp)
  rw [listS_of_two hx.1 hx.2,listS_flat fun y hy=>h y (List.mem_cons_of_mem _ hy)]
theorem byteV_256 {t:List Bool} (h:t.length≤8):0≤byteV t∧byteV t < 256:=by
 have h1:=byteV_rng t
 have h2:2 ^ t.length≤2 ^ 8:=Nat.pow_le_pow_right (by decide) h
 have h3:((2 ^ t.length:Nat):Int)=(2:Int) ^ t.length:=by norm_cast
 have h4:(2:Nat) ^ 8=256:=by decide
 exact ⟨h1.1,by omega⟩
theorem unpack_pack (l:List Bool):(unpackS (packS l)).take l.length=l:=by
 apply List.ext_getElem?
 intro i
 rw [List.getElem?_take]
 by_cases hi:i < l.length
 ·rw [if_pos hi]
  unfold unpackS
  have hm:i < 8 * (packS l).length:=by rw [packS_len]; unfold packN; omega
  rw [List.getElem?_map,List.getElem?_range hm,Option.map_some]
  have hq:i / 8 < packN l.length:=by unfold packN; omega
  have e:(packS l).getD (i / 8) 0=byteV ((l.drop (8 * (i / 8))).take 8):=by
   unfold packS
   rw [List.getD_eq_getElem?_getD,List.getElem?_map,List.getElem?_range hq]
   rfl
  have hr:=byteV_256 (t:=(l.drop (8 * (i / 8))).take 8) (by simp; omega)
  rw [e,bitV_eq hr.1 hr.2 (Nat.mod_lt _ (by decide)),byteV_bit]
  have e2:((l.drop (8 * (i / 8))).take 8).getD (i % 8) false=l[i]:=by
   rw [List.getD_eq_getElem?_getD,List.getElem?_take,if_pos (Nat.mod_lt _ (by decide)),List.getElem?_drop]
   have:8 * (i / 8) + i % 8=i:=by omega
   rw [this,List.getElem?_eq_getElem hi]
   rfl
  rw [e2,List.getElem?_eq_getElem hi]
  cases l[i] <;> rfl
 ·rw [if_neg hi,List.getElem?_eq_none (by omega)]
abbrev tup (p:TP):TP:=(p.1,p.2.1,p.2.2.1,p.2.2.2.1,p.2.2.2.2.1,(p.2.2.2.2.2.1.1,p.2.2.2.2.2.1.2.1,p.2.2.2.2.2.1.2.2.1,p.2.2.2.2.2.1.2.2.2.1,p.2.2.2.2.2.1.2.2.2.2.1,p.2.2.2.2.2.1.2.2.2.2.2),p.2.2.2.2.2.2.1,p.2.2.2.2.2.2.2.1,p.2.2.2.2.2.2.2.2)
theorem beg_rng {link timeout retries:Int} (h1:0≤link) (h2:0≤timeout) (h3:0≤retries):(add .u8 1 (rem link 2)=1 + link % 2)∧(add .i64 1 (cvt .i64 (rem timeout 20))=1 + timeout % 20)∧cvt .i64 (rem retries 6)=retries % 6:=by
 have e1:rem link 2=link % 2:=by unfold rem; exact Int.tmod_eq_emod_of_nonneg h1
 have e2:rem timeout 20=timeout % 20:=by unfold rem; exact Int.tmod_eq_emod_of_nonneg h2
 have e3:rem retries 6=retries % 6:=by unfold rem; exact Int.tmod_eq_emod_of_nonneg h3
 rw [e1,e2,e3,cvt64 (by omega) (by omega),cvt64 (by omega) (by omega),add64 (by omega) (by omega)]
 refine ⟨?_,rfl,rfl⟩
 unfold add
 rw [wu8 (by omega) (by omega)]
theorem q2x_ (x:Int):∀ y ∈ two x,0≤y∧y≤255:=by
 intro y hy
 simp [two] at hy
 rcases hy with rfl | rfl <;> omega
theorem flat_bytes (l:List Int):∀ y ∈ l.flatMap two,0≤y∧y≤255:=by
 intro y hy
 obtain ⟨x,_,hx⟩:=List.mem_flatMap.1 hy
 exact q2x_ x y hx
theorem pack_bytes (l:List Bool):∀ y ∈ packS l,0≤y∧y≤255:=by
 intro y hy
 unfold packS at hy
 obtain ⟨j,_,rfl⟩:=List.mem_map.1 hy
 have:=byteV_256 (t:=(l.drop (8 * j)).take 8) (by simp; omega)
 omega
theorem askB_bytes {a:TA} (h:RA a):∀ y ∈ askB a,0≤y∧y≤255:=by
 have app:∀ {l r:List Int},(∀ y ∈ l,0≤y∧y≤255)->(∀ y ∈ r,0≤y∧y≤255)->∀ y ∈ l++r,0≤y∧y≤255:=fun h1 h2 y hy=>by
  rcases List.mem_append.1 hy with h | h
  ·exact h1 y h
  ·exact h2 y h
 have con:∀ {x:Int} {r:List Int},(0≤x∧x≤255)->(∀ y ∈ r,0≤y∧y≤255)->∀ y ∈ x::r,0≤y∧y≤255:=fun h1 h2 y hy=>by
  rcases List.mem_cons.1 hy with h | h
  ·subst h; exact h1
  ·exact h2 y h
 have nil:∀ y ∈ ([]:List Int),0≤y∧y≤255:=fun y hy=>by cases hy
 cases h with
 | bits f p n hf h1 h2 =>
  rcases hf with rfl | rfl
  ·show ∀ y ∈ (1:Int)::two p++two n,0≤y∧y≤255
   exact app (con (by decide) (q2x_ p)) (q2x_ n)
  ·show ∀ y ∈ (2:Int)::two p++two n,0≤y∧y≤255
   exact app (con (by decide) (q2x_ p)) (q2x_ n)
 | words f p n hf h1 h2 =>
  rcases hf with rfl | rfl
  ·show ∀ y ∈ (3:Int)::two p++two n,0≤y∧y≤255
   exact app (con (by decide) (q2x_ p)) (q2x_ n)
  ·show ∀ y ∈ (4:Int)::two p++two n,0≤y∧y≤255
   exact app (con (by decide) (q2x_ p)) (q2x_ n)
 | coil p b =>
  show ∀ y ∈ (5:Int)::two p++two (if b=true then 65280 else 0),0≤y∧y≤255
  exact app (con (by decide) (q2x_ p)) (q2x_ _)
 | word p x =>
  show ∀ y ∈ (6:Int)::two p++[x].flatMap two,0≤y∧y≤255
  exact app (con (by decide) (q2x_ p)) (flat_bytes _)
 | coils p l h1 h2 =>
  show ∀ y ∈ (15:Int)::two p++two (l.length:Int)++[(packN l.length:Int)]++packS l,0≤y∧y≤255
  exact app (app (app (con (by decide) (q2x_ p)) (q2x_ _)) (con (by unfold packN; omega) nil)) (pack_bytes l)
 | regs p l h1 h2 =>
  show ∀ y ∈ (16:Int)::two p++two (l.length:Int)++[2 * (l.length:Int)]++l.flatMap two,0≤y∧y≤255
  exact app (app (app (con (by decide) (q2x_ p)) (q2x_ _)) (con (by omega) nil)) (flat_bytes l)
 | swap p n t l h1 h2 h3 h4 =>
  show ∀ y ∈ (23:Int)::two p++two n++two t++two (l.length:Int)++[2 * (l.length:Int)]++l.flatMap two,0≤y∧y≤255
  exact app (app (app (app (app (con (by decide) (q2x_ p)) (q2x_ _)) (q2x_ _)) (q2x_ _)) (con (by omega) nil)) (flat_bytes l)
end Go.Proofs.Lx
end
section
namespace Go.Proofs.Lx
open Go Ev Sx Pl
set_option maxRecDepth 100000
theorem alist_eq {b:List Int} (h:b.length≤100000):qhf_ (b,())=some (listS b,()):=by
 show qpn_ qju_ b=_
 unfold qpn_
 have hq:quo .i64 (Int.ofNat b.length) 2=((b.length / 2:Nat):Int):=quo_nat (d:=2) (by omega)
 rw [hq,q8_ (by rw [q17_]; omega),q8_ (capOk_self _),Int.toNat_natCast,qn_ (by omega),List.length_replicate]
 unfold qju_ listS
 refine (loop_det (mk:=fun i=>(b,Int.ofNat (b.length / 2),(i:Int),(List.range i).map (fun i=>numV (b.getD (2 * i) 0) (b.getD (2 * i + 1) 0))++(List.replicate (b.length / 2) (0:Int)).drop i)) (N:=b.length / 2) ?_ ?_ (b.length / 2) 0 _ (by omega) (by omega))
 ·intro self i hi
  show qg5_ _ b (Int.ofNat (b.length / 2)) (i:Int) _=_
  unfold qg5_
  have hm:mul .i64 2 (i:Int)=((2 * i:Nat):Int):=by
   rw [mul64 (by omega) (by omega)]
   simp
  have h1:b[2 * i]? = some (b[2 * i]'(by omega)):=List.getElem?_eq_getElem (by omega)
  have h2:b[2 * i + 1]? = some (b[2 * i + 1]'(by omega)):=List.getElem?_eq_getElem (by omega)
  have ho:((List.range i).map (fun i=>numV (b.getD (2 * i) 0) (b.getD (2 * i + 1) 0))++(List.replicate (b.length / 2) (0:Int)).drop i)[i]? = some (((List.range i).map (fun i=>numV (b.getD (2 * i) 0) (b.getD (2 * i + 1) 0))++(List.replicate (b.length / 2) (0:Int)).drop i)[i]'(by simp; omega)):=List.getElem?_eq_getElem (by simp; omega)
  rw [if_pos (by rw [q7_,q1_]; omega),hm,q1a_ (by omega),ql_ h1,ql_ h2,ql_ ho,q1a_ (by omega),Int.toNat_natCast]
  simp only [Option.bind_some]
  have e:bor .u16 (shl .u16 (cvt .u16 (b[2 * i]'(by omega))) 8) (cvt .u16 (b[2 * i + 1]'(by omega)))=numV (b.getD (2 * i) 0) (b.getD (2 * i + 1) 0):=by
   rw [List.getD_eq_getElem?_getD,List.getD_eq_getElem?_getD,h1,h2]
   rfl
  rw [e,fill_step (f:=fun i=>numV (b.getD (2 * i) 0) (b.getD (2 * i + 1) 0)) (by simp; omega)]
 ·intro self
  show qg5_ _ b (Int.ofNat (b.length / 2)) ((b.length / 2:Nat):Int) _=_
  unfold qg5_
  rw [if_neg (by rw [q7_,q1_]; omega),List.drop_of_length_le (by simp),List.append_nil]
end Go.Proofs.Lx
end
section
namespace Go.Proofs.Lx
open Go Ev Sx Pl
set_option maxRecDepth 100000
structure OkR (r:TR):Prop where
 f0:0≤r.1
 f1:r.1≤255
 e0:0≤r.2.1
 e1:r.2.1≤255
 w:∀ x ∈ r.2.2.2.1,0≤x∧x≤65535
 at0:0≤r.2.2.2.2.1
 at1:r.2.2.2.2.1≤65535
 m0:0≤r.2.2.2.2.2
 m1:r.2.2.2.2.2≤65535
 lb:r.2.2.1.length≤100000
 lw:r.2.2.2.1.length≤100000
inductive RR:TR->Prop where
 | ex (f e:Int) (h0:0≤f) (h:f < 128) (h1:1≤e) (h2:e≤4):RR (f,e,[],[],0,0)
 | bits (f:Int) (l:List Bool) (hf:f=1∨f=2) (h1:8≤l.length) (h2:l.length≤2000) (h3:l.length % 8=0):RR (f,0,l,[],0,0)
 | words (f:Int) (l:List Int) (hf:f=3∨f=4∨f=23) (h1:1≤l.length) (h2:l.length≤125):RR (f,0,[],l,0,0)
 | coil (b:Bool) (p:Int):RR (5,0,[b],[],p,0)
 | word (x p:Int):RR (6,0,[],[x],p,0)
 | coils (p n:Int) (h1:1≤n) (h2:n≤1968):RR (15,0,[],[],p,n)
 | regs (p n:Int) (h1:1≤n) (h2:n≤123):RR (16,0,[],[],p,n)
theorem rem128 {f:Int} (h0:0≤f) (h:f < 128):rem f 128=f:=by
 unfold rem
 rw [Int.tmod_eq_emod_of_nonneg h0]
 omega
def repB (r:TR):List Int:=if nei r.2.1 0=true then exB r else if eqi r.1 1=true then bitB r else if eqi r.1 2=true then bitB r else if eqi r.1 3=true then wordB r else if eqi r.1 4=true then wordB r else if eqi r.1 23=true then wordB r else
 if eqi r.1 5=true then obB r else if eqi r.1 6=true then owB r else if eqi r.1 15=true then ctB r else if eqi r.1 16=true then ctB r else []
theorem chk_self {b:List Int} {c:TR} {ok:Bool} (h:ok=true):chkV b c ok b=(c,0):=by
 unfold chkV
 rw [if_pos h,if_pos (eqs_iff.2 rfl)]
theorem repB_len {r:TR} (h:RR r):2≤(repB r).length∧(repB r).length≤253:=by
 cases h with
 | ex f e h0 h h1 h2 =>
  unfold repB
  rw [if_pos (by rw [qf_]; show e ≠ 0; omega)]
  exact ⟨Nat.le.refl,(by decide:2≤253)⟩
 | bits f l hf h1 h2 h3 =>
  have e:repB (f,0,l,[],0,0)=bitB (f,0,l,[],0,0):=by rcases hf with rfl | rfl <;> rfl
  rw [e]
  show 2≤(f::_::packS l).length∧(f::_::packS l).length≤253
  simp only [List.length_cons,packS_len]
  unfold packN
  omega
 | words f l hf h1 h2 =>
  have e:repB (f,0,[],l,0,0)=wordB (f,0,[],l,0,0):=by rcases hf with rfl | rfl | rfl <;> rfl
  rw [e]
  show 2≤([f,_]++l.flatMap two).length∧([f,_]++l.flatMap two).length≤253
  simp only [List.length_append,List.length_cons,List.length_nil,flat_two_len]
  omega
 | coil b p=>exact ⟨(by decide:2≤5),(by decide:5≤253)⟩
 | word x p=>exact ⟨(by decide:2≤5),(by decide:5≤253)⟩
 | coils p n h1 h2=>exact ⟨(by decide:2≤5),(by decide:5≤253)⟩
 | regs p n h1 h2=>exact ⟨(by decide:2≤5),(by decide:5≤253)⟩
theorem listS_four {p q:Int} (h0:0≤p) (h1:p≤65535) (h2:0≤q) (h3:q≤65535):listS (two p++two q)=[p,q]:=by
 show listS (p / 256 % 256::p % 256::q / 256 % 256::q % 256::[])=_
 rw [listS_of_two h0 h1,listS_of_two h2 h3]
 rfl
theorem rparse_back {r:TR} (h:OkR r) (hr:RR r) (ok:rightR r=true):parseR (repB r)=(r,0):=by
 have hw:=h.w
 have ha:=h.at0
 have ha1:=h.at1
 have hm:=h.m0
 have hm1:=h.m1
 clear h
 cases hr with
 | ex f e h0 h h1 h2 =>
  have ea:add .u8 f 128=f + 128:=wu8 (by omega) (by omega)
  have eb:repB (f,e,[],[],0,0)=[f + 128,e]:=by
   unfold repB
   rw [if_pos (by rw [qf_]; show e ≠ 0; omega)]
   unfold exB
   dsimp only
   rw [ea]
  have ec:exC (f + 128) e=(f,e,[],[],0,0):=by
   unfold exC
   have:rem (f + 128) 128=f:=by unfold rem; rw [Int.tmod_eq_emod_of_nonneg (by omega)]; omega
   rw [this]
  rw [eb]
  show parseQ (f + 128) e []=_
  unfold parseQ
  rw [if_neg (by decide),if_neg (by rw [q7_]; omega),ec]
  have eB:exB (f,e,[],[],0,0)=[f + 128,e]:=by
   unfold exB
   dsimp only
   rw [ea]
  rw [eB]
  apply chk_self
  unfold rightR at ok
  rw [if_pos (by rw [qf_]; show e ≠ 0; omega)] at ok
  exact ok
 | bits f l hf h1 h2 h3 =>
  have hN:packN l.length≤250:=by unfold packN; omega
  have hu:unpackS (packS l)=l:=by
   have:=unpack_pack l
   rwa [List.take_of_length_le (by rw [unpackS_len,packS_len]; unfold packN; omega)] at this
  have ec:bitC f (packS l)=(f,0,l,[],0,0):=by unfold bitC; rw [hu]
  rcases hf with rfl | rfl
  ·show parseQ 1 ((packN l.length:Int) % 256) (packS l)=_
   unfold parseQ
   rw [if_neg (by rw [packS_len]; omega),if_pos (by decide),if_pos (by decide),ec]
   exact chk_self ok
  ·show parseQ 2 ((packN l.length:Int) % 256) (packS l)=_
   unfold parseQ
   rw [if_neg (by rw [packS_len]; omega),if_pos (by decide),if_neg (by decide),if_pos (by decide),ec]
   exact chk_self ok
 | words f l hf h1 h2 =>
  have hlen:=flat_two_len l
  have ec:wordC f (l.flatMap two)=(f,0,[],l,0,0):=by unfold wordC; rw [listS_flat hw]
  rcases hf with rfl | rfl | rfl
  ·show parseQ 3 (2 * (l.length:Int) % 256) (l.flatMap two)=_
   unfold parseQ
   rw [if_neg (by omega),if_pos (by decide),if_neg (by decide),if_neg (by decide),if_pos (by decide),ec]
   exact chk_self ok
  ·show parseQ 4 (2 * (l.length:Int) % 256) (l.flatMap two)=_
   unfold parseQ
   rw [if_neg (by omega),if_pos (by decide),if_neg (by decide),if_neg (by decide),if_neg (by decide),if_pos (by decide),ec]
   exact chk_self ok
  ·show parseQ 23 (2 * (l.length:Int) % 256) (l.flatMap two)=_
   unfold parseQ
   rw [if_neg (by omega),if_pos (by decide),if_neg (by decide),if_neg (by decide),if_neg (by decide),if_neg (by decide),if_pos (by decide),ec]
   exact chk_self ok
 | coil b p =>
  have ec:obC 5 (two p++two (if b=true then 65280 else 0))=(5,0,[b],[],p,0):=by
   unfold obC pairC
   rw [listS_four ha ha1 (by split <;> decide) (by split <;> decide)]
   cases b <;> rfl
  show parseQ 5 (p / 256 % 256) (p % 256::two (if b=true then 65280 else 0))=_
  have eq:(p / 256 % 256)::(p % 256::two (if b=true then 65280 else 0))=two p++two (if b=true then 65280 else 0):=rfl
  unfold parseQ
  rw [if_neg (by show ¬ 251 < 3; decide),if_pos (by decide),if_neg (by decide),if_neg (by decide),if_neg (by decide),if_neg (by decide),if_neg (by decide),if_pos (by decide),eq,ec]
  exact chk_self ok
 | word x p =>
  have hx:=hw x (by simp)
  have ec:owC 6 (two p++two x)=(6,0,[],[x],p,0):=by
   unfold owC pairC
   rw [listS_four ha ha1 hx.1 hx.2]
  show parseQ 6 (p / 256 % 256) (p % 256::two x)=_
  have eq:(p / 256 % 256)::(p % 256::two x)=two p++two x:=rfl
  unfold parseQ
  rw [if_neg (by show ¬ 251 < 3; decide),if_pos (by decide),if_neg (by decide),if_neg (by decide),if_neg (by decide),if_neg (by decide),if_neg (by decide),if_neg (by decide),if_pos (by decide),eq,ec]
  exact chk_self ok
 | coils p n h1 h2 =>
  have ec:ctC 15 (two p++two n)=(15,0,[],[],p,n):=by
   unfold ctC pairC
   rw [listS_four ha ha1 hm hm1]
  show parseQ 15 (p / 256 % 256) (p % 256::two n)=_
  have eq:(p / 256 % 256)::(p % 256::two n)=two p++two n:=rfl
  unfold parseQ
  rw [if_neg (by show ¬ 251 < 3; decide),if_pos (by decide),if_neg (by decide),if_neg (by decide),if_neg (by decide),if_neg (by decide),if_neg (by decide),if_neg (by decide),if_neg (by decide),if_pos (by decide),eq,ec]
  exact chk_self ok
 | regs p n h1 h2 =>
  have ec:ctC 16 (two p++two n)=(16,0,[],[],p,n):=by
   unfold ctC pairC
   rw [listS_four ha ha1 hm hm1]
  show parseQ 16 (p / 256 % 256) (p % 256::two n)=_
  have eq:(p / 256 % 256)::(p % 256::two n)=two p++two n:=rfl
  unfold parseQ
  rw [if_neg (by show ¬ 251 < 3; decide),if_pos (by decide),if_neg (by decide),if_neg (by decide),if_neg (by decide),if_neg (by decide),if_neg (by decide),if_neg (by decide),if_neg (by decide),if_neg (by decide),if_pos (by decide),eq,ec]
  exact chk_self ok
end Go.Proofs.Lx
end
section
namespace Go.Proofs.Lx
open Go Ev Sx Pl
set_option maxRecDepth 100000
theorem wr_if {c:Bool} {w:Option (List Int×Unit)} {x:List Int} (hw:c=true->w=some (x,())) :
  (if c=true then Option.bind w fun y=>(some (y.1,0,()):Option (As [.sl (.int .u8),.int .i64])) else some ([],13,()))=if c=true then some (x,0,()) else some ([],13,()):=by
 by_cases h:c=true
 ·rw [if_pos h,if_pos h,hw h]
  rfl
 ·rw [if_neg h,if_neg h]
abbrev RB:=Option (As [.sl (.int .u8),.int .i64])
theorem if_step {c:Bool} {A B:RB} {ra rb:Bool} {xa xb:List Int} (h1:A=if ra=true then some (xa,0,()) else some ([],13,())) (h2:B=if rb=true then some (xb,0,()) else some ([],13,())) :
  (if c=true then A else B)=if (if c=true then ra else rb)=true then some ((if c=true then xa else xb),0,()) else some ([],13,()):=by
 cases c with
 | true=>exact h1
 | false=>exact h2
theorem rbytes_eq {r:TR} (h:SmR r):qcc_ (r,())=if rightR r=true then some (repB r,0,()) else some ([],13,()):=by
 show qp2_ r=_
 unfold qp2_ rightR repB
 rw [exR_eq h,bitR_eq h,wordR_eq h,obR_eq h,owR_eq h,ctR_eq h,ctR_eq h]
 simp only [Option.bind_some]
 have wex:=wr_if (c:=exR r) (fun _=>exB_eq r)
 have wbit:=wr_if (c:=bitR r) (fun _=>bitB_eq h)
 have wword:=wr_if (c:=wordR r) (fun _=>wordB_eq h)
 have wob:=wr_if (c:=obR r) (fun hc=>obB_eq hc)
 have wow:=wr_if (c:=owR r) (fun hc=>owB_eq hc)
 have wc1:=wr_if (c:=ctR 1968 r) (fun _=>ctB_eq 1968 r)
 have wc2:=wr_if (c:=ctR 123 r) (fun _=>ctB_eq 123 r)
 exact if_step wex (if_step wbit (if_step wbit (if_step wword (if_step wword (if_step wword (if_step wob (if_step wow (if_step wc1 (if_step wc2 rfl)))))))))
theorem listS_rng (b:List Int):∀ x ∈ listS b,0≤x∧x≤65535:=by
 intro x hx
 unfold listS at hx
 obtain ⟨i,_,rfl⟩:=List.mem_map.1 hx
 have:=numV_rng (b.getD (2 * i) 0) (b.getD (2 * i + 1) 0)
 omega
theorem written_any {f p n t:Int} (hf:0≤f∧f≤255) (hp:0≤p∧p≤65535) (hn:0≤n∧n≤65535) (ht:0≤t∧t≤65535) (s:Int×Int×Int×Bool×Bool) {rest:List Int} (hl:rest.length≤300) :
  ∃ (a:TA) (ok:Bool),qgd_ ((f,p,n,t,[],[]),s,rest,())=some (a,ok,())∧(ok=true->OkA a):=by
 have mkw:∀ l:List Int,(∀ x ∈ l,0≤x∧x≤65535)->l.length≤100000->OkA (f,p,n,t,l,[]):=fun l h1 h2=>⟨hf.1,hf.2,hp.1,hp.2,hn.1,hn.2,ht.1,ht.2,h1,h2,Nat.zero_le _⟩
 have mkb:∀ l:List Bool,l.length≤100000->OkA (f,p,n,t,[],l):=fun l h2=>⟨hf.1,hf.2,hp.1,hp.2,hn.1,hn.2,ht.1,ht.2,(fun x hx=>by cases hx),Nat.zero_le _,h2⟩
 show ∃ (a:TA) (ok:Bool),qie_ qhv_ (f,p,n,t,[],[]) s rest=_∧_
 unfold qie_
 dsimp only
 by_cases h1:eqi (add .i64 s.2.1 s.2.2.1) 0=true
 ·rw [if_pos h1]
  exact ⟨_,_,rfl,fun _=>mkw [] (fun x hx=>by cases hx) (Nat.zero_le _)⟩
 ·rw [if_neg h1]
  by_cases h2:rest.length < 2
  ·rw [if_pos (by rw [q7_,q1_]; omega)]
   exact ⟨_,_,rfl,fun e=>by cases e⟩
  ·rw [if_neg (by rw [q7_,q1_]; omega)]
   by_cases h5:eqi f 5=true
   ·rw [if_pos h5]
    match rest,h2 with
    | y::r,_ =>
     rw [q1b_,Option.bind_some]
     exact ⟨_,_,rfl,fun _=>mkb [nei y 0] (by show 1≤100000; decide)⟩
    | [],h2=>exact absurd (by decide) h2
   ·rw [if_neg h5]
    by_cases h6:eqi f 6=true
    ·rw [if_pos h6,alist_eq (by omega),Option.bind_some]
     exact ⟨_,_,rfl,fun _=>mkw _ (listS_rng _) (by rw [listS_len]; omega)⟩
    ·rw [if_neg h6]
     match rest,h2 with
     | [],h2=>exact absurd (by decide) h2
     | y::r,_ =>
      have hr:r.length≤300:=by simp at hl; omega
      by_cases hb:gt s.2.1 0=true
      ·rw [if_pos hb,cut_tail,Option.bind_some,unpack_eq (by omega),Option.bind_some]
       dsimp only
       rw [cvt64 (by omega) (by omega)]
       by_cases hlt:lt (Int.ofNat (unpackS r).length) n=true
       ·rw [if_pos hlt]
        exact ⟨_,_,rfl,fun e=>by cases e⟩
       ·rw [if_neg hlt]
        rw [q7_,q1_,unpackS_len] at hlt
        obtain ⟨k,rfl⟩:=Int.eq_ofNat_of_zero_le hn.1
        rw [cut_to (by rw [unpackS_len]; omega),Option.bind_some,q8_ (by rw [qv_]; omega),q8_ (by rw [qv_,q1_,unpackS_len]; omega)]
        exact ⟨_,_,rfl,fun _=>mkb _ (by rw [List.length_take,unpackS_len]; omega)⟩
      ·rw [if_neg hb,cut_tail,Option.bind_some,alist_eq (by omega),Option.bind_some]
       exact ⟨_,_,rfl,fun _=>mkw _ (listS_rng _) (by rw [listS_len]; omega)⟩
theorem five_of {b:List Int} (h:5≤b.length):∃ f p1 p2 n1 n2 r,b=f::p1::p2::n1::n2::r:=by
 match b,h with
 | f::p1::p2::n1::n2::r,_=>exact ⟨f,p1,p2,n1,n2,r,rfl⟩
theorem aread_any {b:List Int} (hb:∀ x ∈ b,0≤x∧x≤255):∃ (a:TA) (ok:Bool),qp5_ (b,())=some (a,ok,())∧(ok=true->OkA a):=by
 have bad:qco_ b true 0 0 0 0=some ((0,0,0,0,[],[]),false,()):=rfl
 by_cases h5:b.length < 5
 ·refine ⟨(0,0,0,0,[],[]),false,?_,fun e=>by cases e⟩
  show q9b_ qco_ b=_
  unfold q9b_
  rw [if_pos (by rw [q7_,q1_]; omega)]
  exact bad
 ·by_cases h253:253 < b.length
  ·refine ⟨(0,0,0,0,[],[]),false,?_,fun e=>by cases e⟩
   show q9b_ qco_ b=_
   unfold q9b_
   rw [if_neg (by rw [q7_,q1_]; omega),show gt (Int.ofNat b.length) 253=true from gt_iff.2 (by rw [q1_]; omega)]
   exact bad
  ·obtain ⟨f,p1,p2,n1,n2,r,rfl⟩:=five_of (b:=b) (by omega)
   have hf:0≤f∧f≤255:=hb f (by simp)
   have hr:r.length≤248:=by simp at h253; omega
   have hg:gt (Int.ofNat (f::p1::p2::n1::n2::r).length) 253=false:=by
    rw [<- Bool.not_eq_true,gt_iff,q1_]; simp; omega
   have hm0:qp5_ (f::p1::p2::n1::n2::r,())=qpk_ qg9_ (f::p1::p2::n1::n2::r) false 0 0 0 0:=by
    show q9b_ qco_ _=_
    unfold q9b_
    rw [if_neg (by rw [q7_,q1_]; simp; omega),hg]
    rfl
   have ec3:cut (f::p1::p2::n1::n2::r) 3 (Int.ofNat (f::p1::p2::n1::n2::r).length)=some (n1::n2::r):=cut_from (i:=3) (by simp)
   have ec5:cut (f::p1::p2::n1::n2::r) 5 (Int.ofNat (f::p1::p2::n1::n2::r).length)=some r:=cut_from (i:=5) (by simp)
   have nn:∀ x y,0≤numV x y∧numV x y≤65535:=fun x y=>by have:=numV_rng x y; omega
   have tail:∀ (l rest:List Int) (s:Int×Int×Int×Bool×Bool) (n:Int),(∃ q,l=numV p1 p2::numV n1 n2::q∧(4≤rest.length->q ≠ []∧∀ x ∈ q,0≤x∧x≤65535))->rest.length≤300->(0≤n∧n≤65535) ->
     ∃ (a:TA) (ok:Bool),qg9_ l rest 0 0 0 0 s.1 s.2.1 s.2.2.1 s.2.2.2.1 s.2.2.2.2 f (numV p1 p2) n 0=some (a,ok,())∧(ok=true->OkA a):=by
    rintro l rest s n ⟨q,rfl,hq⟩ hrl hn
    have k3:∀ (rest:List Int) (t:Int),rest.length≤300->(0≤t∧t≤65535)->∃ (a:TA) (ok:Bool),qpu_ rest 0 0 0 0 s.1 s.2.1 s.2.2.1 s.2.2.2.1 s.2.2.2.2 f (numV p1 p2) n t=some (a,ok,())∧(ok=true->OkA a):=fun rest t h1 h2=>by
     obtain ⟨a,ok,e1,e2⟩:=written_any hf (nn p1 p2) hn h2 s h1
     refine ⟨a,ok,?_,e2⟩
     show Option.bind (qgd_ ((f,numV p1 p2,n,t,[],[]),s,rest,())) _=_
     rw [e1]
     rfl
    unfold qg9_ qty_
    by_cases ht:s.2.2.2.1=true
    ·rw [if_pos ht]
     by_cases h4:rest.length < 4
     ·rw [if_pos (by rw [q7_,q1_]; omega)]
      exact ⟨_,_,rfl,fun e=>by cases e⟩
     ·rw [if_neg (by rw [q7_,q1_]; omega)]
      obtain ⟨hq1,hq2⟩:=hq (by omega)
      match q,hq1,hq2 with
      | z::q,_,hq2 =>
       have hat:at? (numV p1 p2::numV n1 n2::z::q) 2=some z:=rfl
       rw [hat,Option.bind_some]
       have hc:cut rest 4 (Int.ofNat rest.length)=some (rest.drop 4):=cut_from (i:=4) (by omega)
       rw [hc,Option.bind_some]
       exact k3 _ z (by rw [List.length_drop]; omega) (hq2 z (by simp))
      | [],hq1,_=>exact absurd rfl hq1
    ·rw [if_neg ht]
     exact k3 rest 0 hrl ⟨by decide,by decide⟩
   rw [hm0]
   unfold qpk_
   rw [if_neg (by decide),q1b_,Option.bind_some,shape_eq,Option.bind_some]
   cases hs:shp f with
   | none=>exact ⟨_,false,rfl,fun e=>by cases e⟩
   | some s =>
    dsimp only
    rw [if_neg (by show ¬ (!true)=true; decide),cut_tail,Option.bind_some,alist_eq (by simp; omega),Option.bind_some,Option.bind_some,listS_two,listS_two,q1b_,Option.bind_some,ec3,Option.bind_some]
    have hsd:shpD f=s:=by unfold shpD; rw [hs]; rfl
    rw [hsd]
    have hq4:4≤r.length->listS r ≠ []∧∀ x ∈ listS r,0≤x∧x≤65535:=fun h=>⟨fun e=>by have:=listS_len r; rw [e] at this; simp at this; omega,listS_rng r⟩
    by_cases hm:gt s.1 0=true
    ·rw [if_pos hm,at_one,Option.bind_some,ec5,Option.bind_some]
     exact tail _ r s _ ⟨listS r,rfl,hq4⟩ (by omega) (nn n1 n2)
    ·rw [if_neg hm]
     by_cases h4:4≤(n1::n2::r).length
     ·refine tail _ (n1::n2::r) s 0 ⟨listS r,rfl,fun _=>?_⟩ (by simp; omega) ⟨by decide,by decide⟩
      refine ⟨fun e=>?_,listS_rng r⟩
      have:=listS_len r
      rw [e] at this
      simp at this h4
      omega
     ·exact tail _ (n1::n2::r) s 0 ⟨listS r,rfl,fun h=>absurd h h4⟩ (by simp; omega) ⟨by decide,by decide⟩
theorem aparse_any {b:List Int} (hb:∀ x ∈ b,0≤x∧x≤255):∃ (a:TA) (e:Int),qt7_ (b,())=some (a,e,())∧((e=0∧OkA a∧q1o_ a=true∧toS (askB a)=toS b)∨e=12):=by
 obtain ⟨a,ok,h1,h2⟩:=aread_any hb
 show ∃ (a':TA) (e:Int),qmv_ qn6_ b=some (a',e,())∧_
 unfold qmv_
 rw [h1,Option.bind_some]
 cases ok with
 | false=>exact ⟨_,_,rfl,.inr rfl⟩
 | true =>
  have ha:=h2 rfl
  dsimp only
  rw [if_neg (by decide),q16k_ ha]
  cases hr:q1o_ a with
  | false=>exact ⟨_,_,rfl,.inr rfl⟩
  | true =>
   rw [if_pos rfl,Option.bind_some,if_neg (show ¬ nei 0 0=true by decide)]
   dsimp only
   have e:q2z_ (askB a,b,())=some (eqs (toS (askB a)) (toS b),()):=rfl
   rw [e,Option.bind_some]
   cases he:eqs (toS (askB a)) (toS b) with
   | false=>exact ⟨_,_,rfl,.inr rfl⟩
   | true=>exact ⟨a,0,rfl,.inl ⟨rfl,ha,hr,eqs_iff.1 he⟩⟩
theorem look_any {f:Int} {b:List Int} (hb:∀ x ∈ f::b,0≤x∧x≤255):∃ (a:TA) (e:Int),qcg_ (f::b,())=some (a,e,())∧((e=0∧OkA a∧q1o_ a=true∧toS (askB a)=toS (f::b))∨((e=1∨e=3)∧a=(f,0,0,0,[],[]))):=by
 obtain ⟨a,e,h1,h2⟩:=aparse_any hb
 show ∃ (a':TA) (e:Int),qtl_ (f::b)=some (a',e,())∧_
 unfold qtl_
 rw [if_neg (by rw [q4_,q1_,List.length_cons]; omega),h1,Option.bind_some]
 dsimp only
 rcases h2 with ⟨rfl,ha⟩ | rfl
 ·exact ⟨a,0,rfl,.inl ⟨rfl,ha⟩⟩
 ·rw [if_neg (by decide),q1b_,Option.bind_some,Option.bind_some,shape_eq,Option.bind_some]
  dsimp only
  split
  ·exact ⟨_,_,rfl,.inr ⟨.inl rfl,rfl⟩⟩
  ·exact ⟨_,_,rfl,.inr ⟨.inr rfl,rfl⟩⟩
end Go.Proofs.Lx
end
section
namespace Go.Proofs.Lx
open Go Ev Sx Pl
set_option maxRecDepth 100000
abbrev TArea:=Int×Int×Bool×Bool×Bool
def covS (x:TArea) (i:Int):Bool:=decide (1≤x.2.1∧x.1≤i∧i < x.1 + x.2.1)
def qs_ (l:List TArea) (i:Int):Option TArea:=l.find? fun x=>covS x i
def wantF (w:TArea->Bool) (l:List TArea) (i:Int):Bool:=match qs_ l i with
 | some x=>w x
 | none=>false
def eachS (w:TArea->Bool) (l:List TArea) (p:Int) (m:Nat):Bool:=(List.range m).all fun k=>wantF w l (p + (k:Int))
def OkAr (x:TArea):Prop:=-9223372036854775808≤x.1∧x.1≤9223372036854775807∧-9223372036854775808≤x.2.1∧x.2.1≤9223372036854775807
theorem capOk_sf (n:Int):capOk n n=true:=by
 unfold capOk
 rw [if_pos rfl]
theorem meet_gen {x:TArea} {p e:Int} (h0:0≤p) (hpe:p≤e) (he:e≤1000000000000) (hx:OkAr x) :
  ∃ f t,q73_ (x,p,e,())=some (f,t,())∧p≤f∧f≤e∧t≤e∧∀ i,p≤i->i < e->(covS x i=true ↔ f≤i∧i < t):=by
 obtain ⟨x1,x2,x3,x4⟩:=hx
 show ∃ f t,qk4_ qbl_ x p e=_∧_
 unfold qk4_
 have none:∃ f t,qbl_ p e true x=some (f,t,())∧f=p∧t=p:=⟨p,p,rfl,rfl,rfl⟩
 by_cases hm:x.2.1 < 1
 ·rw [if_pos (q7_.2 hm)]
  obtain ⟨f,t,h1,rfl,rfl⟩:=none
  refine ⟨_,_,h1,Int.le_refl _,hpe,hpe,fun i hi hie=>?_⟩
  unfold covS
  rw [decide_eq_true_eq]
  omega
 ·rw [if_neg (fun h=>hm (q7_.1 h))]
  by_cases ha:e≤x.1
  ·rw [q17_.2 ha]
   obtain ⟨f,t,h1,rfl,rfl⟩:=none
   refine ⟨_,_,h1,Int.le_refl _,hpe,hpe,fun i hi hie=>?_⟩
   unfold covS
   rw [decide_eq_true_eq]
   omega
  ·rw [show ge x.1 e=false from decide_eq_false ha]
   have K3:∀ t,qfj_ p t x=some (if p < x.1 then x.1 else p,t,()):=fun t=>by
    unfold qfj_ qr4_
    simp only [gt_iff]
   have K2t:qbr_ p e e true x=some (if p < x.1 then x.1 else p,(if x.1 + x.2.1 < e then x.1 + x.2.1 else e),())∨¬ (x.1 < 0∨x.2.1 < e - x.1):=by
    by_cases hc:x.1 < 0∨x.2.1 < e - x.1
    ·left
     unfold qbr_ ql4_
     have hadd:add .i64 x.1 x.2.1=x.1 + x.2.1:=add64 (by omega) (by omega)
     rw [if_pos rfl,K3,hadd]
     simp only [q7_]
    ·exact .inr hc
   have fin:∀ t,(t=(if x.1 + x.2.1 < e then x.1 + x.2.1 else e))->p≤(if p < x.1 then x.1 else p)∧(if p < x.1 then x.1 else p)≤e∧t≤e∧∀ i,p≤i->i < e->(covS x i=true ↔ (if p < x.1 then x.1 else p)≤i∧i < t):=fun t ht=>by
    subst ht
    refine ⟨by split <;> omega,by split <;> omega,by split <;> omega,fun i hi hie=>?_⟩
    unfold covS
    rw [decide_eq_true_eq]
    split <;> split <;> omega
   unfold qbl_ qrb_
   rw [if_neg (by decide)]
   by_cases hn:x.1 < 0
   ·rw [if_pos (q7_.2 hn)]
    rcases K2t with h | h
    ·obtain ⟨g1,g2,g3,g4⟩:=fin _ rfl
     exact ⟨_,_,h,g1,g2,g3,g4⟩
    ·exact absurd (.inl hn) h
   ·rw [if_neg (fun h=>hn (q7_.1 h)),sub64 (by omega) (by omega)]
    by_cases hc:x.2.1 < e - x.1
    ·rw [q7_.2 hc]
     rcases K2t with h | h
     ·obtain ⟨g1,g2,g3,g4⟩:=fin _ rfl
      exact ⟨_,_,h,g1,g2,g3,g4⟩
     ·exact absurd (.inr hc) h
    ·rw [show lt x.2.1 (e - x.1)=false from decide_eq_false hc]
     unfold qbr_ ql4_
     rw [if_neg (by decide),K3]
     obtain ⟨g1,g2,g3,g4⟩:=fin e (by rw [if_neg (by omega)])
     exact ⟨_,_,rfl,g1,g2,g3,g4⟩
theorem first_take {l:List TArea} {t:Nat} {i:Int} {y:TArea} (h:qs_ (l.take t) i=some y):qs_ l i=some y:=by
 have:qs_ l i=(qs_ (l.take t) i).or (qs_ (l.drop t) i):=by
  unfold qs_
  rw [<- List.find?_append,List.take_append_drop]
 rw [this,h]
 rfl
theorem first_next {l:List TArea} {t:Nat} (ht:t < l.length) (i:Int):qs_ (l.take (t + 1)) i=(qs_ (l.take t) i).or (if covS l[t] i=true then some l[t] else none):=by
 unfold qs_
 rw [List.take_succ_eq_append_getElem ht,List.find?_append]
 congr 1
 simp only [List.find?_cons,List.find?_nil]
 cases covS l[t] i <;> rfl
def MetI (w:TArea->Bool) (l:List TArea) (p:Int) (m:Nat) (c:Int->Bool) (met:List Bool) (left:Int):Prop :=
 met.length=m∧left=((met.countP fun b=>!b:Nat):Int)∧∀ k:Nat,k < m->met[k]? = some (c (p + (k:Int)))∧(c (p + (k:Int))=true->wantF w l (p + (k:Int))=true)
theorem met_0 (w:TArea->Bool) (l:List TArea) (p:Int) (m:Nat):MetI w l p m (fun i=>(qs_ (l.take 0) i).isSome) (List.replicate m false) (m:Int):=by
 refine ⟨List.length_replicate ..,?_,fun k hk=>⟨?_,fun e=>by cases e⟩⟩
 ·rw [List.countP_replicate]
  rfl
 ·rw [List.getElem?_replicate,if_pos hk]
  rfl
theorem met_zero {w:TArea->Bool} {l:List TArea} {p:Int} {m:Nat} {c:Int->Bool} {met:List Bool} {left:Int} (h:MetI w l p m c met left) (h0:left=0):eachS w l p m=true:=by
 obtain ⟨h1,h2,h3⟩:=h
 unfold eachS
 rw [List.all_eq_true]
 intro k hk
 rw [List.mem_range] at hk
 obtain ⟨e1,e2⟩:=h3 k hk
 refine e2 ?_
 have hz:met.countP (fun b=>!b)=0:=by omega
 have:=List.countP_eq_zero.1 hz _ (List.mem_of_getElem? e1)
 simpa using this
theorem met_left {w:TArea->Bool} {l:List TArea} {p:Int} {m:Nat} {met:List Bool} {left:Int} (h:MetI w l p m (fun i=>(qs_ l i).isSome) met left) (h0:left ≠ 0):eachS w l p m=false:=by
 obtain ⟨h1,h2,h3⟩:=h
 rw [<- Bool.not_eq_true]
 intro hall
 unfold eachS at hall
 rw [List.all_eq_true] at hall
 apply h0
 rw [h2]
 have:met.countP (fun b=>!b)=0:=by
  rw [List.countP_eq_zero]
  intro b hb
  obtain ⟨k,hk,rfl⟩:=List.getElem_of_mem hb
  have e1:=(h3 k (by omega)).1
  have hw:=hall k (List.mem_range.2 (by omega))
  unfold wantF at hw
  rw [List.getElem?_eq_getElem hk] at e1
  dsimp only at e1
  cases hf:qs_ l (p + (k:Int)) with
  | none=>rw [hf] at hw; cases hw
  | some y =>
   rw [hf] at e1
   have e1:met[k]=true:=by simpa using e1
   rw [e1]
   decide
 rw [this]
 rfl
theorem met_false {w:TArea->Bool} {l:List TArea} {p:Int} {m k:Nat} (hk:k < m) (h:wantF w l (p + (k:Int))=false):eachS w l p m=false:=by
 rw [<- Bool.not_eq_true]
 intro hall
 unfold eachS at hall
 rw [List.all_eq_true] at hall
 have:=hall k (List.mem_range.2 hk)
 rw [h] at this
 cases this
theorem q55_ {w:TArea->Bool} {l:List TArea} {p:Int} {m:Nat} {c c':Int->Bool} {met:List Bool} {left:Int} (h:MetI w l p m c met left) (hc:∀ k:Nat,k < m->c' (p + (k:Int))=c (p + (k:Int))):MetI w l p m c' met left :=
 ⟨h.1,h.2.1,fun k hk=>by rw [hc k hk]; exact h.2.2 k hk⟩
theorem met_set {w:TArea->Bool} {l:List TArea} {p:Int} {m k:Nat} {c:Int->Bool} {met:List Bool} {left:Int} (h:MetI w l p m c met left) (hk:k < m) (hf:c (p + (k:Int))=false) (hw:wantF w l (p + (k:Int))=true) :
  MetI w l p m (fun i=>c i || decide (i=p + (k:Int))) (met.set k true) (left - 1):=by
 obtain ⟨h1,h2,h3⟩:=h
 have hg:=(h3 k hk).1
 have hkl:k < met.length:=by omega
 rw [List.getElem?_eq_getElem hkl,hf] at hg
 have hg:met[k]=false:=by simpa using hg
 refine ⟨by simp [h1],?_,fun j hj=>?_⟩
 ·have hpos:0 < met.countP (fun b=>!b):=by
   rw [List.countP_pos_iff]
   exact ⟨met[k],List.getElem_mem hkl,by rw [hg]; rfl⟩
  rw [List.countP_set hkl,hg,h2]
  simp only [Bool.not_false,if_true,Bool.not_true,Bool.false_eq_true,if_false]
  omega
 ·obtain ⟨e1,e2⟩:=h3 j hj
  dsimp only
  by_cases hjk:k=j
  ·subst hjk
   refine ⟨?_,fun _=>hw⟩
   rw [List.getElem?_set_self hkl,decide_eq_true rfl,Bool.or_true]
  ·have:¬ (p + (j:Int)=p + (k:Int)):=by omega
   refine ⟨?_,fun e=>?_⟩
   ·rw [List.getElem?_set_ne hjk,e1,decide_eq_false this,Bool.or_false]
   ·rw [decide_eq_false this,Bool.or_false] at e
    exact e2 e
def qpy_ (u1:Int->Int->Int->List (Int×Int×Bool×Bool×Bool)->Int->Int->List Bool->Option (As [.bool])):=(fun (self:(Int)×(Int)×(Int)×(Int)×(Int)×(List (Int×Int×Bool×Bool×Bool))×(Int)×(Int)×(List Bool)×(Int×Int×Bool×Bool×Bool)->Option (As [.bool])) (s:(Int)×(Int)×(Int)×(Int)×(Int)×(List (Int×Int×Bool×Bool×Bool))×(Int)×(Int)×(List Bool)×(Int×Int×Bool×Bool×Bool))=>qa1_ (q67_ u1 (fun at' many left to' i t19 t20 t21 met x=>self (at',many,left,to',i,t19,t20,t21,met,x))) u1 (fun at' many left to' i t19 t20 t21 met x=>self (at',many,left,to',i,t19,t20,t21,met,x)) s.1 s.2.1 s.2.2.1 s.2.2.2.1 s.2.2.2.2.1 s.2.2.2.2.2.1 s.2.2.2.2.2.2.1 s.2.2.2.2.2.2.2.1 s.2.2.2.2.2.2.2.2.1 s.2.2.2.2.2.2.2.2.2)
theorem qwk_ (u1:Int->Int->Int->List (Int×Int×Bool×Bool×Bool)->Int->Int->List Bool->Option (As [.bool])) (self:(Int)×(Int)×(Int)×(Int)×(Int)×(List (Int×Int×Bool×Bool×Bool))×(Int)×(Int)×(List Bool)×(Int×Int×Bool×Bool×Bool)->Option (As [.bool])) (at' many left to' i:Int) (t19:List (Int×Int×Bool×Bool×Bool)) (t20 t21:Int) (met:List Bool) (x:Int×Int×Bool×Bool×Bool):qpy_ u1 self (at',many,left,to',i,t19,t20,t21,met,x)=qa1_ (q67_ u1 (fun at' many left to' i t19 t20 t21 met x=>self (at',many,left,to',i,t19,t20,t21,met,x))) u1 (fun at' many left to' i t19 t20 t21 met x=>self (at',many,left,to',i,t19,t20,t21,met,x)) at' many left to' i t19 t20 t21 met x:=rfl
theorem qw8_ (u1:Int->Int->Int->List (Int×Int×Bool×Bool×Bool)->Int->Int->List Bool->Option (As [.bool])) (at' many left to' i:Int) (t19:List (Int×Int×Bool×Bool×Bool)) (t20 t21:Int) (met:List Bool) (x:Int×Int×Bool×Bool×Bool):q66_ u1 at' many left to' i t19 t20 t21 met x=loopF (qpy_ u1) 18446744073709551616 (at',many,left,to',i,t19,t20,t21,met,x):=rfl
def qqc_ :=(fun (self:(Int)×(Int)×(Int)×(List (Int×Int×Bool×Bool×Bool))×(Int)×(Int)×(List Bool)->Option (As [.bool])) (s:(Int)×(Int)×(Int)×(List (Int×Int×Bool×Bool×Bool))×(Int)×(Int)×(List Bool))=>qal_ (q81_) (q66_ (fun at' many left t19 t20 t21 met=>self (at',many,left,t19,t20,t21,met))) (fun at' many left t19 t20 t21 met=>self (at',many,left,t19,t20,t21,met)) s.1 s.2.1 s.2.2.1 s.2.2.2.1 s.2.2.2.2.1 s.2.2.2.2.2.1 s.2.2.2.2.2.2)
theorem qw5_  (self:(Int)×(Int)×(Int)×(List (Int×Int×Bool×Bool×Bool))×(Int)×(Int)×(List Bool)->Option (As [.bool])) (at':Int) (many:Int) (left:Int) (t19:List (Int×Int×Bool×Bool×Bool)) (t20:Int) (t21:Int) (met:List Bool):qqc_ self (at',many,left,t19,t20,t21,met)=qal_ (q81_) (q66_ (fun at' many left t19 t20 t21 met=>self (at',many,left,t19,t20,t21,met))) (fun at' many left t19 t20 t21 met=>self (at',many,left,t19,t20,t21,met)) at' many left t19 t20 t21 met:=rfl
theorem qwg_  (at':Int) (many:Int) (left:Int) (t19:List (Int×Int×Bool×Bool×Bool)) (t20:Int) (t21:Int) (met:List Bool):qah_ at' many left t19 t20 t21 met=loopF (qqc_) 18446744073709551616 (at',many,left,t19,t20,t21,met):=rfl
def qpx_ (u1:Int->Int->Int->List (Int×Int×Bool×Bool×Bool)->Int->Int->List Bool->Option (As [.bool])):=(fun (self:(Int)×(Int)×(Int)×(Int)×(Int)×(List (Int×Int×Bool×Bool×Bool))×(Int)×(Int)×(List Bool)×(Int×Int×Bool×Bool×Bool)->Option (As [.bool])) (s:(Int)×(Int)×(Int)×(Int)×(Int)×(List (Int×Int×Bool×Bool×Bool))×(Int)×(Int)×(List Bool)×(Int×Int×Bool×Bool×Bool))=>qad_ (q62_ u1 (fun at' many left to' i t19 t20 t21 met x=>self (at',many,left,to',i,t19,t20,t21,met,x))) u1 (fun at' many left to' i t19 t20 t21 met x=>self (at',many,left,to',i,t19,t20,t21,met,x)) s.1 s.2.1 s.2.2.1 s.2.2.2.1 s.2.2.2.2.1 s.2.2.2.2.2.1 s.2.2.2.2.2.2.1 s.2.2.2.2.2.2.2.1 s.2.2.2.2.2.2.2.2.1 s.2.2.2.2.2.2.2.2.2)
theorem qw0_ (u1:Int->Int->Int->List (Int×Int×Bool×Bool×Bool)->Int->Int->List Bool->Option (As [.bool])) (self:(Int)×(Int)×(Int)×(Int)×(Int)×(List (Int×Int×Bool×Bool×Bool))×(Int)×(Int)×(List Bool)×(Int×Int×Bool×Bool×Bool)->Option (As [.bool])) (at' many left to' i:Int) (t19:List (Int×Int×Bool×Bool×Bool)) (t20 t21:Int) (met:List Bool) (x:Int×Int×Bool×Bool×Bool):qpx_ u1 self (at',many,left,to',i,t19,t20,t21,met,x)=qad_ (q62_ u1 (fun at' many left to' i t19 t20 t21 met x=>self (at',many,left,to',i,t19,t20,t21,met,x))) u1 (fun at' many left to' i t19 t20 t21 met x=>self (at',many,left,to',i,t19,t20,t21,met,x)) at' many left to' i t19 t20 t21 met x:=rfl
theorem qvz_ (u1:Int->Int->Int->List (Int×Int×Bool×Bool×Bool)->Int->Int->List Bool->Option (As [.bool])) (at' many left to' i:Int) (t19:List (Int×Int×Bool×Bool×Bool)) (t20 t21:Int) (met:List Bool) (x:Int×Int×Bool×Bool×Bool):q63_ u1 at' many left to' i t19 t20 t21 met x=loopF (qpx_ u1) 18446744073709551616 (at',many,left,to',i,t19,t20,t21,met,x):=rfl
def qql_ :=(fun (self:(Int)×(Int)×(Int)×(List (Int×Int×Bool×Bool×Bool))×(Int)×(Int)×(List Bool)->Option (As [.bool])) (s:(Int)×(Int)×(Int)×(List (Int×Int×Bool×Bool×Bool))×(Int)×(Int)×(List Bool))=>qae_ (q82_) (q63_ (fun at' many left t19 t20 t21 met=>self (at',many,left,t19,t20,t21,met))) (fun at' many left t19 t20 t21 met=>self (at',many,left,t19,t20,t21,met)) s.1 s.2.1 s.2.2.1 s.2.2.2.1 s.2.2.2.2.1 s.2.2.2.2.2.1 s.2.2.2.2.2.2)
theorem qw9_  (self:(Int)×(Int)×(Int)×(List (Int×Int×Bool×Bool×Bool))×(Int)×(Int)×(List Bool)->Option (As [.bool])) (at':Int) (many:Int) (left:Int) (t19:List (Int×Int×Bool×Bool×Bool)) (t20:Int) (t21:Int) (met:List Bool):qql_ self (at',many,left,t19,t20,t21,met)=qae_ (q82_) (q63_ (fun at' many left t19 t20 t21 met=>self (at',many,left,t19,t20,t21,met))) (fun at' many left t19 t20 t21 met=>self (at',many,left,t19,t20,t21,met)) at' many left t19 t20 t21 met:=rfl
theorem qwa_  (at':Int) (many:Int) (left:Int) (t19:List (Int×Int×Bool×Bool×Bool)) (t20:Int) (t21:Int) (met:List Bool):qat_ at' many left t19 t20 t21 met=loopF (qql_) 18446744073709551616 (at',many,left,t19,t20,t21,met):=rfl
def qq0_ (u1:Int->Int->Int->List (Int×Int×Bool×Bool×Bool)->Int->Int->Int->Int->List Bool->Option (As [.bool,.int .i64,.int .i64])):=(fun (self:(Int)×(Int)×(Int)×(Int)×(Int)×(List (Int×Int×Bool×Bool×Bool))×(Int)×(Int)×(Int)×(Int)×(List Bool)×(Int×Int×Bool×Bool×Bool)->Option (As [.bool,.int .i64,.int .i64])) (s:(Int)×(Int)×(Int)×(Int)×(Int)×(List (Int×Int×Bool×Bool×Bool))×(Int)×(Int)×(Int)×(Int)×(List Bool)×(Int×Int×Bool×Bool×Bool))=>qa4_ (q65_ u1 (fun at' many left to' i t19 t20 t21 o o_2 met x=>self (at',many,left,to',i,t19,t20,t21,o,o_2,met,x))) u1 (fun at' many left to' i t19 t20 t21 o o_2 met x=>self (at',many,left,to',i,t19,t20,t21,o,o_2,met,x)) s.1 s.2.1 s.2.2.1 s.2.2.2.1 s.2.2.2.2.1 s.2.2.2.2.2.1 s.2.2.2.2.2.2.1 s.2.2.2.2.2.2.2.1 s.2.2.2.2.2.2.2.2.1 s.2.2.2.2.2.2.2.2.2.1 s.2.2.2.2.2.2.2.2.2.2.1 s.2.2.2.2.2.2.2.2.2.2.2)
theorem qwp_ (u1:Int->Int->Int->List (Int×Int×Bool×Bool×Bool)->Int->Int->Int->Int->List Bool->Option (As [.bool,.int .i64,.int .i64])) (self:(Int)×(Int)×(Int)×(Int)×(Int)×(List (Int×Int×Bool×Bool×Bool))×(Int)×(Int)×(Int)×(Int)×(List Bool)×(Int×Int×Bool×Bool×Bool)->Option (As [.bool,.int .i64,.int .i64])) (at' many left to' i:Int) (t19:List (Int×Int×Bool×Bool×Bool)) (t20 t21 o o_2:Int) (met:List Bool) (x:Int×Int×Bool×Bool×Bool):qq0_ u1 self (at',many,left,to',i,t19,t20,t21,o,o_2,met,x)=qa4_ (q65_ u1 (fun at' many left to' i t19 t20 t21 o o_2 met x=>self (at',many,left,to',i,t19,t20,t21,o,o_2,met,x))) u1 (fun at' many left to' i t19 t20 t21 o o_2 met x=>self (at',many,left,to',i,t19,t20,t21,o,o_2,met,x)) at' many left to' i t19 t20 t21 o o_2 met x:=rfl
theorem qwq_ (u1:Int->Int->Int->List (Int×Int×Bool×Bool×Bool)->Int->Int->Int->Int->List Bool->Option (As [.bool,.int .i64,.int .i64])) (at' many left to' i:Int) (t19:List (Int×Int×Bool×Bool×Bool)) (t20 t21 o o_2:Int) (met:List Bool) (x:Int×Int×Bool×Bool×Bool):q64_ u1 at' many left to' i t19 t20 t21 o o_2 met x=loopF (qq0_ u1) 18446744073709551616 (at',many,left,to',i,t19,t20,t21,o,o_2,met,x):=rfl
def qq4_ :=(fun (self:(Int)×(Int)×(Int)×(List (Int×Int×Bool×Bool×Bool))×(Int)×(Int)×(Int)×(Int)×(List Bool)->Option (As [.bool,.int .i64,.int .i64])) (s:(Int)×(Int)×(Int)×(List (Int×Int×Bool×Bool×Bool))×(Int)×(Int)×(Int)×(Int)×(List Bool))=>qam_ (q7z_) (q64_ (fun at' many left t19 t20 t21 o o_2 met=>self (at',many,left,t19,t20,t21,o,o_2,met))) (fun at' many left t19 t20 t21 o o_2 met=>self (at',many,left,t19,t20,t21,o,o_2,met)) s.1 s.2.1 s.2.2.1 s.2.2.2.1 s.2.2.2.2.1 s.2.2.2.2.2.1 s.2.2.2.2.2.2.1 s.2.2.2.2.2.2.2.1 s.2.2.2.2.2.2.2.2)
theorem qwj_  (self:(Int)×(Int)×(Int)×(List (Int×Int×Bool×Bool×Bool))×(Int)×(Int)×(Int)×(Int)×(List Bool)->Option (As [.bool,.int .i64,.int .i64])) (at':Int) (many:Int) (left:Int) (t19:List (Int×Int×Bool×Bool×Bool)) (t20:Int) (t21:Int) (o:Int) (o_2:Int) (met:List Bool):qq4_ self (at',many,left,t19,t20,t21,o,o_2,met)=qam_ (q7z_) (q64_ (fun at' many left t19 t20 t21 o o_2 met=>self (at',many,left,t19,t20,t21,o,o_2,met))) (fun at' many left t19 t20 t21 o o_2 met=>self (at',many,left,t19,t20,t21,o,o_2,met)) at' many left t19 t20 t21 o o_2 met:=rfl
theorem qwu_  (at':Int) (many:Int) (left:Int) (t19:List (Int×Int×Bool×Bool×Bool)) (t20:Int) (t21:Int) (o:Int) (o_2:Int) (met:List Bool):qas_ at' many left t19 t20 t21 o o_2 met=loopF (qq4_) 18446744073709551616 (at',many,left,t19,t20,t21,o,o_2,met):=rfl
def qqb_ (u1:Int->Int->Int->List (Int×Int×Bool×Bool×Bool)->Int->Int->Int->Int->List Bool->Option (As [.bool,.int .i64,.int .i64])):=(fun (self:(Int)×(Int)×(Int)×(Int)×(Int)×(List (Int×Int×Bool×Bool×Bool))×(Int)×(Int)×(Int)×(Int)×(List Bool)×(Int×Int×Bool×Bool×Bool)->Option (As [.bool,.int .i64,.int .i64])) (s:(Int)×(Int)×(Int)×(Int)×(Int)×(List (Int×Int×Bool×Bool×Bool))×(Int)×(Int)×(Int)×(Int)×(List Bool)×(Int×Int×Bool×Bool×Bool))=>qa7_ (q61_ u1 (fun at' many left to' i t19 t20 t21 o o_2 met x=>self (at',many,left,to',i,t19,t20,t21,o,o_2,met,x))) u1 (fun at' many left to' i t19 t20 t21 o o_2 met x=>self (at',many,left,to',i,t19,t20,t21,o,o_2,met,x)) s.1 s.2.1 s.2.2.1 s.2.2.2.1 s.2.2.2.2.1 s.2.2.2.2.2.1 s.2.2.2.2.2.2.1 s.2.2.2.2.2.2.2.1 s.2.2.2.2.2.2.2.2.1 s.2.2.2.2.2.2.2.2.2.1 s.2.2.2.2.2.2.2.2.2.2.1 s.2.2.2.2.2.2.2.2.2.2.2)
theorem qwi_ (u1:Int->Int->Int->List (Int×Int×Bool×Bool×Bool)->Int->Int->Int->Int->List Bool->Option (As [.bool,.int .i64,.int .i64])) (self:(Int)×(Int)×(Int)×(Int)×(Int)×(List (Int×Int×Bool×Bool×Bool))×(Int)×(Int)×(Int)×(Int)×(List Bool)×(Int×Int×Bool×Bool×Bool)->Option (As [.bool,.int .i64,.int .i64])) (at' many left to' i:Int) (t19:List (Int×Int×Bool×Bool×Bool)) (t20 t21 o o_2:Int) (met:List Bool) (x:Int×Int×Bool×Bool×Bool):qqb_ u1 self (at',many,left,to',i,t19,t20,t21,o,o_2,met,x)=qa7_ (q61_ u1 (fun at' many left to' i t19 t20 t21 o o_2 met x=>self (at',many,left,to',i,t19,t20,t21,o,o_2,met,x))) u1 (fun at' many left to' i t19 t20 t21 o o_2 met x=>self (at',many,left,to',i,t19,t20,t21,o,o_2,met,x)) at' many left to' i t19 t20 t21 o o_2 met x:=rfl
theorem qw4_ (u1:Int->Int->Int->List (Int×Int×Bool×Bool×Bool)->Int->Int->Int->Int->List Bool->Option (As [.bool,.int .i64,.int .i64])) (at' many left to' i:Int) (t19:List (Int×Int×Bool×Bool×Bool)) (t20 t21 o o_2:Int) (met:List Bool) (x:Int×Int×Bool×Bool×Bool):q68_ u1 at' many left to' i t19 t20 t21 o o_2 met x=loopF (qqb_ u1) 18446744073709551616 (at',many,left,to',i,t19,t20,t21,o,o_2,met,x):=rfl
def qqa_ :=(fun (self:(Int)×(Int)×(Int)×(List (Int×Int×Bool×Bool×Bool))×(Int)×(Int)×(Int)×(Int)×(List Bool)->Option (As [.bool,.int .i64,.int .i64])) (s:(Int)×(Int)×(Int)×(List (Int×Int×Bool×Bool×Bool))×(Int)×(Int)×(Int)×(Int)×(List Bool))=>qa9_ (q7x_) (q68_ (fun at' many left t19 t20 t21 o o_2 met=>self (at',many,left,t19,t20,t21,o,o_2,met))) (fun at' many left t19 t20 t21 o o_2 met=>self (at',many,left,t19,t20,t21,o,o_2,met)) s.1 s.2.1 s.2.2.1 s.2.2.2.1 s.2.2.2.2.1 s.2.2.2.2.2.1 s.2.2.2.2.2.2.1 s.2.2.2.2.2.2.2.1 s.2.2.2.2.2.2.2.2)
theorem qw2_  (self:(Int)×(Int)×(Int)×(List (Int×Int×Bool×Bool×Bool))×(Int)×(Int)×(Int)×(Int)×(List Bool)->Option (As [.bool,.int .i64,.int .i64])) (at':Int) (many:Int) (left:Int) (t19:List (Int×Int×Bool×Bool×Bool)) (t20:Int) (t21:Int) (o:Int) (o_2:Int) (met:List Bool):qqa_ self (at',many,left,t19,t20,t21,o,o_2,met)=qa9_ (q7x_) (q68_ (fun at' many left t19 t20 t21 o o_2 met=>self (at',many,left,t19,t20,t21,o,o_2,met))) (fun at' many left t19 t20 t21 o o_2 met=>self (at',many,left,t19,t20,t21,o,o_2,met)) at' many left t19 t20 t21 o o_2 met:=rfl
theorem qwx_  (at':Int) (many:Int) (left:Int) (t19:List (Int×Int×Bool×Bool×Bool)) (t20:Int) (t21:Int) (o:Int) (o_2:Int) (met:List Bool):qa6_ at' many left t19 t20 t21 o o_2 met=loopF (qqa_) 18446744073709551616 (at',many,left,t19,t20,t21,o,o_2,met):=rfl
theorem each_br_in (u1:Int->Int->Int->List TArea->Int->Int->List Bool->Option (As [.bool])) {w:TArea->Bool} {l:List TArea} {p:Int} {m t:Nat} {r:As [.bool]} (hp:0≤p) (hpm:p + (m:Int)≤1000000000000) (ht:t < l.length) (hw:∀ x,q1f_ (x,())=some (w x,())) {f to':Int} (hf:p≤f) (hfe:f≤p + (m:Int)) (hte:to'≤p + (m:Int))
  (hcov:∀ i,p≤i->i < p + (m:Int)->(covS l[t] i=true ↔ f≤i∧i < to')) (hR:∀ met left,MetI w l p m (fun i=>(qs_ (l.take (t + 1)) i).isSome) met left->u1 p (m:Int) left l (l.length:Int) (add .i64 (t:Int) 1) met=some r) (hr:eachS w l p m=false->r=(false,()))
  (met:List Bool) (left:Int) (h:MetI w l p m (fun i=>(qs_ (l.take t) i).isSome) met left) :
  q66_ u1 p (m:Int) left to' f l (l.length:Int) (t:Int) met l[t]=some r:=by
 rw [qw8_]
 refine loopF_eq (Inv:=fun s=>∃ (i:Int) (met:List Bool) (left:Int),s=(p,(m:Int),left,to',i,l,(l.length:Int),(t:Int),met,l[t])∧f≤i∧(i≤to'∨i=f)∧MetI w l p m (fun j=>(qs_ (l.take t) j).isSome || (decide (f≤j) && decide (j < i))) met left)
  (μ:=fun s=>(to' - s.2.2.2.2.1).toNat) (G:=fun _=>some r) ?_ _ _ ⟨f,met,left,rfl,Int.le_refl _,.inr rfl,q55_ h fun k hk=>by
   have:(decide (f≤p + (k:Int)) && decide (p + (k:Int) < f))=false:=by
    by_cases hh:f≤p + (k:Int)
    ·rw [decide_eq_false (show ¬ (p + (k:Int) < f) by omega),Bool.and_false]
    ·rw [decide_eq_false hh,Bool.false_and]
   rw [this,Bool.or_false]⟩ (by dsimp only; omega)
 rintro self s ⟨i,met,left,rfl,hi1,hi2,hI⟩ ih
 rw [qwk_]
 unfold qa1_
 by_cases hlt:i < to'
 ·rw [if_pos (q7_.2 hlt)]
  have hk:(i - p).toNat < m:=by omega
  have hki:p + (((i - p).toNat:Nat):Int)=i:=by omega
  have hs:sub .i64 i p=(((i - p).toNat:Nat):Int):=by rw [sub64 (by omega) (by omega)]; omega
  obtain ⟨g1,g2⟩:=hI.2.2 _ hk
  dsimp only at g1 g2
  rw [hki] at g1 g2
  have hdf:(decide (f≤i) && decide (i < i))=false:=by rw [decide_eq_false (show ¬ i < i by omega),Bool.and_false]
  rw [hdf,Bool.or_false] at g1 g2
  have K4:∀ left met,q67_ u1 (fun at' many left to' i t19 t20 t21 met x=>self (at',many,left,to',i,t19,t20,t21,met,x)) p (m:Int) left to' i l (l.length:Int) (t:Int) met l[t]=self (p,(m:Int),left,to',i + 1,l,(l.length:Int),(t:Int),met,l[t]):=fun left met=>by
   unfold q67_ qlb_
   rw [add64 (by omega) (by omega)]
  have hcong:∀ (k:Nat),k < m->∀ b:Bool,b=(((qs_ (l.take t) (p + (k:Int))).isSome || (decide (f≤p + (k:Int)) && decide (p + (k:Int) < i))) || decide (p + (k:Int)=i))->((qs_ (l.take t) (p + (k:Int))).isSome || (decide (f≤p + (k:Int)) && decide (p + (k:Int) < i + 1)))=b:=fun k hk b hc=>by
   rw [hc,Bool.or_assoc]
   congr 1
   rw [Bool.eq_iff_iff]
   simp only [Bool.or_eq_true,Bool.and_eq_true,decide_eq_true_eq]
   omega
  rw [hs,ql_ g1]
  simp only [Option.bind_some]
  cases hb:(qs_ (l.take t) i).isSome with
  | true =>
   rw [if_pos rfl,K4]
   refine ih _ ⟨i + 1,met,left,rfl,by omega,.inl (by omega),q55_ hI (fun k hk=>hcong k hk _ ?_)⟩ (by dsimp only; omega)
   by_cases hki':p + (k:Int)=i
   ·rw [hki',hb,Bool.true_or,Bool.true_or]
   ·rw [decide_eq_false hki',Bool.or_false]
  | false =>
   rw [if_neg (by decide),hw,Option.bind_some]
   dsimp only
   have hnone:qs_ (l.take t) i=none:=by simpa using hb
   have hfirst:qs_ l i=some l[t]:=by
    have hc:=(hcov i (by omega) (by omega)).2 ⟨hi1,hlt⟩
    have:=first_next ht i
    rw [hnone,hc] at this
    exact first_take this
   have hwf:wantF w l i=w l[t]:=by
    unfold wantF
    rw [hfirst]
   cases hwx:w l[t] with
   | false =>
    rw [if_pos (by decide)]
    rw [hr (met_false hk (by rw [hki,hwf,hwx]))]
   | true =>
    rw [if_neg (by decide)]
    have hset:=met_set hI hk (by rw [hki,hdf,Bool.or_false]; exact hb) (by rw [hki,hwf,hwx])
    rw [Int.toNat_natCast,K4]
    have hl1:sub .i64 left 1=left - 1:=by
     have:=hI.2.1
     have h2:=List.countP_le_length (p:=fun b:Bool=>!b) (l:=met)
     have h3:=hI.1
     rw [sub64 (by omega) (by omega)]
    rw [hl1]
    refine ih _ ⟨i + 1,_,_,rfl,by omega,.inl (by omega),q55_ hset (fun k hk=>hcong k hk _ ?_)⟩ (by dsimp only; omega)
    rw [hki]
 ·rw [if_neg (fun e=>hlt (q7_.1 e))]
  refine hR met left (q55_ hI fun k hk=>?_)
  have hc:=hcov (p + (k:Int)) (by omega) (by omega)
  rw [first_next ht]
  have hcb:covS l[t] (p + (k:Int))=(decide (f≤p + (k:Int)) && decide (p + (k:Int) < i)):=by
   rw [Bool.eq_iff_iff,hc]
   simp only [Bool.and_eq_true,decide_eq_true_eq]
   omega
  rw [<- hcb]
  cases hx:qs_ (l.take t) (p + (k:Int)) with
  | some y=>rfl
  | none =>
   cases covS l[t] (p + (k:Int)) <;> rfl
theorem each_br_eq {w:TArea->Bool} {l:List TArea} {p:Int} {m:Nat} (hp:0≤p) (hm:m≤1000000) (hpm:p≤1000000) (hl:l.length≤1000000) (ho:∀ x ∈ l,OkAr x) (hw:∀ x,q1f_ (x,())=some (w x,())):qfz_ (l,p,(m:Int),())=some (eachS w l p m,()):=by
 show qet_ qah_ l p (m:Int)=_
 unfold qet_
 rw [q8_ (q17_.2 (by omega)),q8_ (capOk_sf _),Int.toNat_natCast,qn_ (by omega)]
 rw [qwg_]
 refine loopF_eq (Inv:=fun s=>∃ (t:Nat) (met:List Bool) (left:Int),s=(p,(m:Int),left,l,(l.length:Int),(t:Int),met)∧t≤l.length∧MetI w l p m (fun i=>(qs_ (l.take t) i).isSome) met left)
  (μ:=fun s=>(Int.ofNat l.length - s.2.2.2.2.2.1).toNat) (G:=fun _=>some (eachS w l p m,())) ?_ _ _ ⟨0,_,_,rfl,Nat.zero_le _,met_0 w l p m⟩ (by dsimp only; rw [q1_]; omega)
 rintro self s ⟨t,met,left,rfl,ht,hI⟩ ih
 rw [qw5_]
 unfold qal_
 have k2:q81_ left=some (eqi left 0,()):=rfl
 by_cases hlt:t < l.length
 ·have hg:=List.getElem?_eq_getElem hlt
  rw [if_pos (by rw [q7_]; omega),ql_ hg,Option.bind_some]
  by_cases h0:left=0
  ·rw [if_pos (q4_.2 h0),k2,q4_.2 h0,met_zero hI h0]
  ·rw [if_neg (fun e=>h0 (q4_.1 e)),add64 (by omega) (by omega)]
   obtain ⟨f,t',e1,e2,e3,e4,e5⟩:=meet_gen (x:=l[t]) (p:=p) (e:=p + (m:Int)) hp (by omega) (by omega) (ho _ (List.getElem_mem hlt))
   rw [e1,Option.bind_some]
   refine each_br_in _ hp (by omega) hlt hw e2 e3 e4 e5 (fun met left hI'=>?_) (fun e=>by rw [e]) met left hI
   rw [q1a_ (by omega)]
   exact ih _ ⟨t + 1,met,left,rfl,by omega,hI'⟩ (by dsimp only; rw [q1_]; omega)
 ·have htl:t=l.length:=by omega
  subst htl
  rw [if_neg (by rw [q7_]; omega),k2]
  by_cases h0:left=0
  ·rw [q4_.2 h0,met_zero hI h0]
  ·rw [List.take_length] at hI
   rw [met_left hI h0,show eqi left 0=false from decide_eq_false h0]
theorem each_ur_in (u1:Int->Int->Int->List TArea->Int->Int->List Bool->Option (As [.bool])) {w:TArea->Bool} {l:List TArea} {p:Int} {m t:Nat} {r:As [.bool]} (hp:0≤p) (hpm:p + (m:Int)≤1000000000000) (ht:t < l.length) (hw:∀ x,q19_ (x,())=some (w x,())) {f to':Int} (hf:p≤f) (hfe:f≤p + (m:Int)) (hte:to'≤p + (m:Int))
  (hcov:∀ i,p≤i->i < p + (m:Int)->(covS l[t] i=true ↔ f≤i∧i < to')) (hR:∀ met left,MetI w l p m (fun i=>(qs_ (l.take (t + 1)) i).isSome) met left->u1 p (m:Int) left l (l.length:Int) (add .i64 (t:Int) 1) met=some r) (hr:eachS w l p m=false->r=(false,()))
  (met:List Bool) (left:Int) (h:MetI w l p m (fun i=>(qs_ (l.take t) i).isSome) met left) :
  q63_ u1 p (m:Int) left to' f l (l.length:Int) (t:Int) met l[t]=some r:=by
 rw [qvz_]
 refine loopF_eq (Inv:=fun s=>∃ (i:Int) (met:List Bool) (left:Int),s=(p,(m:Int),left,to',i,l,(l.length:Int),(t:Int),met,l[t])∧f≤i∧(i≤to'∨i=f)∧MetI w l p m (fun j=>(qs_ (l.take t) j).isSome || (decide (f≤j) && decide (j < i))) met left)
  (μ:=fun s=>(to' - s.2.2.2.2.1).toNat) (G:=fun _=>some r) ?_ _ _ ⟨f,met,left,rfl,Int.le_refl _,.inr rfl,q55_ h fun k hk=>by
   have:(decide (f≤p + (k:Int)) && decide (p + (k:Int) < f))=false:=by
    by_cases hh:f≤p + (k:Int)
    ·rw [decide_eq_false (show ¬ (p + (k:Int) < f) by omega),Bool.and_false]
    ·rw [decide_eq_false hh,Bool.false_and]
   rw [this,Bool.or_false]⟩ (by dsimp only; omega)
 rintro self s ⟨i,met,left,rfl,hi1,hi2,hI⟩ ih
 rw [qw0_]
 unfold qad_
 by_cases hlt:i < to'
 ·rw [if_pos (q7_.2 hlt)]
  have hk:(i - p).toNat < m:=by omega
  have hki:p + (((i - p).toNat:Nat):Int)=i:=by omega
  have hs:sub .i64 i p=(((i - p).toNat:Nat):Int):=by rw [sub64 (by omega) (by omega)]; omega
  obtain ⟨g1,g2⟩:=hI.2.2 _ hk
  dsimp only at g1 g2
  rw [hki] at g1 g2
  have hdf:(decide (f≤i) && decide (i < i))=false:=by rw [decide_eq_false (show ¬ i < i by omega),Bool.and_false]
  rw [hdf,Bool.or_false] at g1 g2
  have K4:∀ left met,q62_ u1 (fun at' many left to' i t19 t20 t21 met x=>self (at',many,left,to',i,t19,t20,t21,met,x)) p (m:Int) left to' i l (l.length:Int) (t:Int) met l[t]=self (p,(m:Int),left,to',i + 1,l,(l.length:Int),(t:Int),met,l[t]):=fun left met=>by
   unfold q62_ qle_
   rw [add64 (by omega) (by omega)]
  have hcong:∀ (k:Nat),k < m->∀ b:Bool,b=(((qs_ (l.take t) (p + (k:Int))).isSome || (decide (f≤p + (k:Int)) && decide (p + (k:Int) < i))) || decide (p + (k:Int)=i))->((qs_ (l.take t) (p + (k:Int))).isSome || (decide (f≤p + (k:Int)) && decide (p + (k:Int) < i + 1)))=b:=fun k hk b hc=>by
   rw [hc,Bool.or_assoc]
   congr 1
   rw [Bool.eq_iff_iff]
   simp only [Bool.or_eq_true,Bool.and_eq_true,decide_eq_true_eq]
   omega
  rw [hs,ql_ g1]
  simp only [Option.bind_some]
  cases hb:(qs_ (l.take t) i).isSome with
  | true =>
   rw [if_pos rfl,K4]
   refine ih _ ⟨i + 1,met,left,rfl,by omega,.inl (by omega),q55_ hI (fun k hk=>hcong k hk _ ?_)⟩ (by dsimp only; omega)
   by_cases hki':p + (k:Int)=i
   ·rw [hki',hb,Bool.true_or,Bool.true_or]
   ·rw [decide_eq_false hki',Bool.or_false]
  | false =>
   rw [if_neg (by decide),hw,Option.bind_some]
   dsimp only
   have hnone:qs_ (l.take t) i=none:=by simpa using hb
   have hfirst:qs_ l i=some l[t]:=by
    have hc:=(hcov i (by omega) (by omega)).2 ⟨hi1,hlt⟩
    have:=first_next ht i
    rw [hnone,hc] at this
    exact first_take this
   have hwf:wantF w l i=w l[t]:=by
    unfold wantF
    rw [hfirst]
   cases hwx:w l[t] with
   | false =>
    rw [if_pos (by decide)]
    rw [hr (met_false hk (by rw [hki,hwf,hwx]))]
   | true =>
    rw [if_neg (by decide)]
    have hset:=met_set hI hk (by rw [hki,hdf,Bool.or_false]; exact hb) (by rw [hki,hwf,hwx])
    rw [Int.toNat_natCast,K4]
    have hl1:sub .i64 left 1=left - 1:=by
     have:=hI.2.1
     have h2:=List.countP_le_length (p:=fun b:Bool=>!b) (l:=met)
     have h3:=hI.1
     rw [sub64 (by omega) (by omega)]
    rw [hl1]
    refine ih _ ⟨i + 1,_,_,rfl,by omega,.inl (by omega),q55_ hset (fun k hk=>hcong k hk _ ?_)⟩ (by dsimp only; omega)
    rw [hki]
 ·rw [if_neg (fun e=>hlt (q7_.1 e))]
  refine hR met left (q55_ hI fun k hk=>?_)
  have hc:=hcov (p + (k:Int)) (by omega) (by omega)
  rw [first_next ht]
  have hcb:covS l[t] (p + (k:Int))=(decide (f≤p + (k:Int)) && decide (p + (k:Int) < i)):=by
   rw [Bool.eq_iff_iff,hc]
   simp only [Bool.and_eq_true,decide_eq_true_eq]
   omega
  rw [<- hcb]
  cases hx:qs_ (l.take t) (p + (k:Int)) with
  | some y=>rfl
  | none =>
   cases covS l[t] (p + (k:Int)) <;> rfl
theorem each_ur_eq {w:TArea->Bool} {l:List TArea} {p:Int} {m:Nat} (hp:0≤p) (hm:m≤1000000) (hpm:p≤1000000) (hl:l.length≤1000000) (ho:∀ x ∈ l,OkAr x) (hw:∀ x,q19_ (x,())=some (w x,())):qfq_ (l,p,(m:Int),())=some (eachS w l p m,()):=by
 show qeg_ qat_ l p (m:Int)=_
 unfold qeg_
 rw [q8_ (q17_.2 (by omega)),q8_ (capOk_sf _),Int.toNat_natCast,qn_ (by omega)]
 rw [qwa_]
 refine loopF_eq (Inv:=fun s=>∃ (t:Nat) (met:List Bool) (left:Int),s=(p,(m:Int),left,l,(l.length:Int),(t:Int),met)∧t≤l.length∧MetI w l p m (fun i=>(qs_ (l.take t) i).isSome) met left)
  (μ:=fun s=>(Int.ofNat l.length - s.2.2.2.2.2.1).toNat) (G:=fun _=>some (eachS w l p m,())) ?_ _ _ ⟨0,_,_,rfl,Nat.zero_le _,met_0 w l p m⟩ (by dsimp only; rw [q1_]; omega)
 rintro self s ⟨t,met,left,rfl,ht,hI⟩ ih
 rw [qw9_]
 unfold qae_
 have k2:q82_ left=some (eqi left 0,()):=rfl
 by_cases hlt:t < l.length
 ·have hg:=List.getElem?_eq_getElem hlt
  rw [if_pos (by rw [q7_]; omega),ql_ hg,Option.bind_some]
  by_cases h0:left=0
  ·rw [if_pos (q4_.2 h0),k2,q4_.2 h0,met_zero hI h0]
  ·rw [if_neg (fun e=>h0 (q4_.1 e)),add64 (by omega) (by omega)]
   obtain ⟨f,t',e1,e2,e3,e4,e5⟩:=meet_gen (x:=l[t]) (p:=p) (e:=p + (m:Int)) hp (by omega) (by omega) (ho _ (List.getElem_mem hlt))
   rw [e1,Option.bind_some]
   refine each_ur_in _ hp (by omega) hlt hw e2 e3 e4 e5 (fun met left hI'=>?_) (fun e=>by rw [e]) met left hI
   rw [q1a_ (by omega)]
   exact ih _ ⟨t + 1,met,left,rfl,by omega,hI'⟩ (by dsimp only; rw [q1_]; omega)
 ·have htl:t=l.length:=by omega
  subst htl
  rw [if_neg (by rw [q7_]; omega),k2]
  by_cases h0:left=0
  ·rw [q4_.2 h0,met_zero hI h0]
  ·rw [List.take_length] at hI
   rw [met_left hI h0,show eqi left 0=false from decide_eq_false h0]
theorem each_bw_in (u1:Int->Int->Int->List TArea->Int->Int->Int->Int->List Bool->Option (As [.bool,.int .i64,.int .i64])) {w:TArea->Bool} {l:List TArea} {p:Int} {m t:Nat} {r:As [.bool,.int .i64,.int .i64]} {o o2:Int} (hp:0≤p) (hpm:p + (m:Int)≤1000000000000) (ht:t < l.length) (hw:∀ x,q13_ (x,o,o2,())=some (w x,o,o2,())) {f to':Int} (hf:p≤f) (hfe:f≤p + (m:Int)) (hte:to'≤p + (m:Int))
  (hcov:∀ i,p≤i->i < p + (m:Int)->(covS l[t] i=true ↔ f≤i∧i < to')) (hR:∀ met left,MetI w l p m (fun i=>(qs_ (l.take (t + 1)) i).isSome) met left->u1 p (m:Int) left l (l.length:Int) (add .i64 (t:Int) 1) o o2 met=some r) (hr:eachS w l p m=false->r=(false,o,o2,()))
  (met:List Bool) (left:Int) (h:MetI w l p m (fun i=>(qs_ (l.take t) i).isSome) met left) :
  q64_ u1 p (m:Int) left to' f l (l.length:Int) (t:Int) o o2 met l[t]=some r:=by
 rw [qwq_]
 refine loopF_eq (Inv:=fun s=>∃ (i:Int) (met:List Bool) (left:Int),s=(p,(m:Int),left,to',i,l,(l.length:Int),(t:Int),o,o2,met,l[t])∧f≤i∧(i≤to'∨i=f)∧MetI w l p m (fun j=>(qs_ (l.take t) j).isSome || (decide (f≤j) && decide (j < i))) met left)
  (μ:=fun s=>(to' - s.2.2.2.2.1).toNat) (G:=fun _=>some r) ?_ _ _ ⟨f,met,left,rfl,Int.le_refl _,.inr rfl,q55_ h fun k hk=>by
   have:(decide (f≤p + (k:Int)) && decide (p + (k:Int) < f))=false:=by
    by_cases hh:f≤p + (k:Int)
    ·rw [decide_eq_false (show ¬ (p + (k:Int) < f) by omega),Bool.and_false]
    ·rw [decide_eq_false hh,Bool.false_and]
   rw [this,Bool.or_false]⟩ (by dsimp only; omega)
 rintro self s ⟨i,met,left,rfl,hi1,hi2,hI⟩ ih
 rw [qwp_]
 unfold qa4_
 by_cases hlt:i < to'
 ·rw [if_pos (q7_.2 hlt)]
  have hk:(i - p).toNat < m:=by omega
  have hki:p + (((i - p).toNat:Nat):Int)=i:=by omega
  have hs:sub .i64 i p=(((i - p).toNat:Nat):Int):=by rw [sub64 (by omega) (by omega)]; omega
  obtain ⟨g1,g2⟩:=hI.2.2 _ hk
  dsimp only at g1 g2
  rw [hki] at g1 g2
  have hdf:(decide (f≤i) && decide (i < i))=false:=by rw [decide_eq_false (show ¬ i < i by omega),Bool.and_false]
  rw [hdf,Bool.or_false] at g1 g2
  have K4:∀ left met,q65_ u1 (fun at' many left to' i t19 t20 t21 o o2 met x=>self (at',many,left,to',i,t19,t20,t21,o,o2,met,x)) p (m:Int) left to' i l (l.length:Int) (t:Int) o o2 met l[t]=self (p,(m:Int),left,to',i + 1,l,(l.length:Int),(t:Int),o,o2,met,l[t]):=fun left met=>by
   unfold q65_ ql9_
   rw [add64 (by omega) (by omega)]
  have hcong:∀ (k:Nat),k < m->∀ b:Bool,b=(((qs_ (l.take t) (p + (k:Int))).isSome || (decide (f≤p + (k:Int)) && decide (p + (k:Int) < i))) || decide (p + (k:Int)=i))->((qs_ (l.take t) (p + (k:Int))).isSome || (decide (f≤p + (k:Int)) && decide (p + (k:Int) < i + 1)))=b:=fun k hk b hc=>by
   rw [hc,Bool.or_assoc]
   congr 1
   rw [Bool.eq_iff_iff]
   simp only [Bool.or_eq_true,Bool.and_eq_true,decide_eq_true_eq]
   omega
  rw [hs,ql_ g1]
  simp only [Option.bind_some]
  cases hb:(qs_ (l.take t) i).isSome with
  | true =>
   rw [if_pos rfl,K4]
   refine ih _ ⟨i + 1,met,left,rfl,by omega,.inl (by omega),q55_ hI (fun k hk=>hcong k hk _ ?_)⟩ (by dsimp only; omega)
   by_cases hki':p + (k:Int)=i
   ·rw [hki',hb,Bool.true_or,Bool.true_or]
   ·rw [decide_eq_false hki',Bool.or_false]
  | false =>
   rw [if_neg (by decide),hw,Option.bind_some]
   dsimp only
   have hnone:qs_ (l.take t) i=none:=by simpa using hb
   have hfirst:qs_ l i=some l[t]:=by
    have hc:=(hcov i (by omega) (by omega)).2 ⟨hi1,hlt⟩
    have:=first_next ht i
    rw [hnone,hc] at this
    exact first_take this
   have hwf:wantF w l i=w l[t]:=by
    unfold wantF
    rw [hfirst]
   cases hwx:w l[t] with
   | false =>
    rw [if_pos (by decide)]
    rw [hr (met_false hk (by rw [hki,hwf,hwx]))]
   | true =>
    rw [if_neg (by decide)]
    have hset:=met_set hI hk (by rw [hki,hdf,Bool.or_false]; exact hb) (by rw [hki,hwf,hwx])
    rw [Int.toNat_natCast,K4]
    have hl1:sub .i64 left 1=left - 1:=by
     have:=hI.2.1
     have h2:=List.countP_le_length (p:=fun b:Bool=>!b) (l:=met)
     have h3:=hI.1
     rw [sub64 (by omega) (by omega)]
    rw [hl1]
    refine ih _ ⟨i + 1,_,_,rfl,by omega,.inl (by omega),q55_ hset (fun k hk=>hcong k hk _ ?_)⟩ (by dsimp only; omega)
    rw [hki]
 ·rw [if_neg (fun e=>hlt (q7_.1 e))]
  refine hR met left (q55_ hI fun k hk=>?_)
  have hc:=hcov (p + (k:Int)) (by omega) (by omega)
  rw [first_next ht]
  have hcb:covS l[t] (p + (k:Int))=(decide (f≤p + (k:Int)) && decide (p + (k:Int) < i)):=by
   rw [Bool.eq_iff_iff,hc]
   simp only [Bool.and_eq_true,decide_eq_true_eq]
   omega
  rw [<- hcb]
  cases hx:qs_ (l.take t) (p + (k:Int)) with
  | some y=>rfl
  | none =>
   cases covS l[t] (p + (k:Int)) <;> rfl
theorem each_bw_eq {w:TArea->Bool} {l:List TArea} {p:Int} {m:Nat} (hp:0≤p) (hm:m≤1000000) (hpm:p≤1000000) (hl:l.length≤1000000) (ho:∀ x ∈ l,OkAr x) {o o2:Int} (hw:∀ x,q13_ (x,o,o2,())=some (w x,o,o2,())):qfw_ (l,p,(m:Int),o,o2,())=some (eachS w l p m,o,o2,()):=by
 show qf8_ qas_ l p (m:Int) o o2=_
 unfold qf8_
 rw [q8_ (q17_.2 (by omega)),q8_ (capOk_sf _),Int.toNat_natCast,qn_ (by omega)]
 rw [qwu_]
 refine loopF_eq (Inv:=fun s=>∃ (t:Nat) (met:List Bool) (left:Int),s=(p,(m:Int),left,l,(l.length:Int),(t:Int),o,o2,met)∧t≤l.length∧MetI w l p m (fun i=>(qs_ (l.take t) i).isSome) met left)
  (μ:=fun s=>(Int.ofNat l.length - s.2.2.2.2.2.1).toNat) (G:=fun _=>some (eachS w l p m,o,o2,())) ?_ _ _ ⟨0,_,_,rfl,Nat.zero_le _,met_0 w l p m⟩ (by dsimp only; rw [q1_]; omega)
 rintro self s ⟨t,met,left,rfl,ht,hI⟩ ih
 rw [qwj_]
 unfold qam_
 have k2:q7z_ left o o2=some (eqi left 0,o,o2,()):=rfl
 by_cases hlt:t < l.length
 ·have hg:=List.getElem?_eq_getElem hlt
  rw [if_pos (by rw [q7_]; omega),ql_ hg,Option.bind_some]
  by_cases h0:left=0
  ·rw [if_pos (q4_.2 h0),k2,q4_.2 h0,met_zero hI h0]
  ·rw [if_neg (fun e=>h0 (q4_.1 e)),add64 (by omega) (by omega)]
   obtain ⟨f,t',e1,e2,e3,e4,e5⟩:=meet_gen (x:=l[t]) (p:=p) (e:=p + (m:Int)) hp (by omega) (by omega) (ho _ (List.getElem_mem hlt))
   rw [e1,Option.bind_some]
   refine each_bw_in _ hp (by omega) hlt hw e2 e3 e4 e5 (fun met left hI'=>?_) (fun e=>by rw [e]) met left hI
   rw [q1a_ (by omega)]
   exact ih _ ⟨t + 1,met,left,rfl,by omega,hI'⟩ (by dsimp only; rw [q1_]; omega)
 ·have htl:t=l.length:=by omega
  subst htl
  rw [if_neg (by rw [q7_]; omega),k2]
  by_cases h0:left=0
  ·rw [q4_.2 h0,met_zero hI h0]
  ·rw [List.take_length] at hI
   rw [met_left hI h0,show eqi left 0=false from decide_eq_false h0]
theorem each_uw_in (u1:Int->Int->Int->List TArea->Int->Int->Int->Int->List Bool->Option (As [.bool,.int .i64,.int .i64])) {w:TArea->Bool} {l:List TArea} {p:Int} {m t:Nat} {r:As [.bool,.int .i64,.int .i64]} {o o2:Int} (hp:0≤p) (hpm:p + (m:Int)≤1000000000000) (ht:t < l.length) (hw:∀ x,q10_ (x,o,o2,())=some (w x,o,o2,())) {f to':Int} (hf:p≤f) (hfe:f≤p + (m:Int)) (hte:to'≤p + (m:Int))
  (hcov:∀ i,p≤i->i < p + (m:Int)->(covS l[t] i=true ↔ f≤i∧i < to')) (hR:∀ met left,MetI w l p m (fun i=>(qs_ (l.take (t + 1)) i).isSome) met left->u1 p (m:Int) left l (l.length:Int) (add .i64 (t:Int) 1) o o2 met=some r) (hr:eachS w l p m=false->r=(false,o,o2,()))
  (met:List Bool) (left:Int) (h:MetI w l p m (fun i=>(qs_ (l.take t) i).isSome) met left) :
  q68_ u1 p (m:Int) left to' f l (l.length:Int) (t:Int) o o2 met l[t]=some r:=by
 rw [qw4_]
 refine loopF_eq (Inv:=fun s=>∃ (i:Int) (met:List Bool) (left:Int),s=(p,(m:Int),left,to',i,l,(l.length:Int),(t:Int),o,o2,met,l[t])∧f≤i∧(i≤to'∨i=f)∧MetI w l p m (fun j=>(qs_ (l.take t) j).isSome || (decide (f≤j) && decide (j < i))) met left)
  (μ:=fun s=>(to' - s.2.2.2.2.1).toNat) (G:=fun _=>some r) ?_ _ _ ⟨f,met,left,rfl,Int.le_refl _,.inr rfl,q55_ h fun k hk=>by
   have:(decide (f≤p + (k:Int)) && decide (p + (k:Int) < f))=false:=by
    by_cases hh:f≤p + (k:Int)
    ·rw [decide_eq_false (show ¬ (p + (k:Int) < f) by omega),Bool.and_false]
    ·rw [decide_eq_false hh,Bool.false_and]
   rw [this,Bool.or_false]⟩ (by dsimp only; omega)
 rintro self s ⟨i,met,left,rfl,hi1,hi2,hI⟩ ih
 rw [qwi_]
 unfold qa7_
 by_cases hlt:i < to'
 ·rw [if_pos (q7_.2 hlt)]
  have hk:(i - p).toNat < m:=by omega
  have hki:p + (((i - p).toNat:Nat):Int)=i:=by omega
  have hs:sub .i64 i p=(((i - p).toNat:Nat):Int):=by rw [sub64 (by omega) (by omega)]; omega
  obtain ⟨g1,g2⟩:=hI.2.2 _ hk
  dsimp only at g1 g2
  rw [hki] at g1 g2
  have hdf:(decide (f≤i) && decide (i < i))=false:=by rw [decide_eq_false (show ¬ i < i by omega),Bool.and_false]
  rw [hdf,Bool.or_false] at g1 g2
  have K4:∀ left met,q61_ u1 (fun at' many left to' i t19 t20 t21 o o2 met x=>self (at',many,left,to',i,t19,t20,t21,o,o2,met,x)) p (m:Int) left to' i l (l.length:Int) (t:Int) o o2 met l[t]=self (p,(m:Int),left,to',i + 1,l,(l.length:Int),(t:Int),o,o2,met,l[t]):=fun left met=>by
   unfold q61_ ql6_
   rw [add64 (by omega) (by omega)]
  have hcong:∀ (k:Nat),k < m->∀ b:Bool,b=(((qs_ (l.take t) (p + (k:Int))).isSome || (decide (f≤p + (k:Int)) && decide (p + (k:Int) < i))) || decide (p + (k:Int)=i))->((qs_ (l.take t) (p + (k:Int))).isSome || (decide (f≤p + (k:Int)) && decide (p + (k:Int) < i + 1)))=b:=fun k hk b hc=>by
   rw [hc,Bool.or_assoc]
   congr 1
   rw [Bool.eq_iff_iff]
   simp only [Bool.or_eq_true,Bool.and_eq_true,decide_eq_true_eq]
   omega
  rw [hs,ql_ g1]
  simp only [Option.bind_some]
  cases hb:(qs_ (l.take t) i).isSome with
  | true =>
   rw [if_pos rfl,K4]
   refine ih _ ⟨i + 1,met,left,rfl,by omega,.inl (by omega),q55_ hI (fun k hk=>hcong k hk _ ?_)⟩ (by dsimp only; omega)
   by_cases hki':p + (k:Int)=i
   ·rw [hki',hb,Bool.true_or,Bool.true_or]
   ·rw [decide_eq_false hki',Bool.or_false]
  | false =>
   rw [if_neg (by decide),hw,Option.bind_some]
   dsimp only
   have hnone:qs_ (l.take t) i=none:=by simpa using hb
   have hfirst:qs_ l i=some l[t]:=by
    have hc:=(hcov i (by omega) (by omega)).2 ⟨hi1,hlt⟩
    have:=first_next ht i
    rw [hnone,hc] at this
    exact first_take this
   have hwf:wantF w l i=w l[t]:=by
    unfold wantF
    rw [hfirst]
   cases hwx:w l[t] with
   | false =>
    rw [if_pos (by decide)]
    rw [hr (met_false hk (by rw [hki,hwf,hwx]))]
   | true =>
    rw [if_neg (by decide)]
    have hset:=met_set hI hk (by rw [hki,hdf,Bool.or_false]; exact hb) (by rw [hki,hwf,hwx])
    rw [Int.toNat_natCast,K4]
    have hl1:sub .i64 left 1=left - 1:=by
     have:=hI.2.1
     have h2:=List.countP_le_length (p:=fun b:Bool=>!b) (l:=met)
     have h3:=hI.1
     rw [sub64 (by omega) (by omega)]
    rw [hl1]
    refine ih _ ⟨i + 1,_,_,rfl,by omega,.inl (by omega),q55_ hset (fun k hk=>hcong k hk _ ?_)⟩ (by dsimp only; omega)
    rw [hki]
 ·rw [if_neg (fun e=>hlt (q7_.1 e))]
  refine hR met left (q55_ hI fun k hk=>?_)
  have hc:=hcov (p + (k:Int)) (by omega) (by omega)
  rw [first_next ht]
  have hcb:covS l[t] (p + (k:Int))=(decide (f≤p + (k:Int)) && decide (p + (k:Int) < i)):=by
   rw [Bool.eq_iff_iff,hc]
   simp only [Bool.and_eq_true,decide_eq_true_eq]
   omega
  rw [<- hcb]
  cases hx:qs_ (l.take t) (p + (k:Int)) with
  | some y=>rfl
  | none =>
   cases covS l[t] (p + (k:Int)) <;> rfl
theorem each_uw_eq {w:TArea->Bool} {l:List TArea} {p:Int} {m:Nat} (hp:0≤p) (hm:m≤1000000) (hpm:p≤1000000) (hl:l.length≤1000000) (ho:∀ x ∈ l,OkAr x) {o o2:Int} (hw:∀ x,q10_ (x,o,o2,())=some (w x,o,o2,())):qfm_ (l,p,(m:Int),o,o2,())=some (eachS w l p m,o,o2,()):=by
 show qf1_ qa6_ l p (m:Int) o o2=_
 unfold qf1_
 rw [q8_ (q17_.2 (by omega)),q8_ (capOk_sf _),Int.toNat_natCast,qn_ (by omega)]
 rw [qwx_]
 refine loopF_eq (Inv:=fun s=>∃ (t:Nat) (met:List Bool) (left:Int),s=(p,(m:Int),left,l,(l.length:Int),(t:Int),o,o2,met)∧t≤l.length∧MetI w l p m (fun i=>(qs_ (l.take t) i).isSome) met left)
  (μ:=fun s=>(Int.ofNat l.length - s.2.2.2.2.2.1).toNat) (G:=fun _=>some (eachS w l p m,o,o2,())) ?_ _ _ ⟨0,_,_,rfl,Nat.zero_le _,met_0 w l p m⟩ (by dsimp only; rw [q1_]; omega)
 rintro self s ⟨t,met,left,rfl,ht,hI⟩ ih
 rw [qw2_]
 unfold qa9_
 have k2:q7x_ left o o2=some (eqi left 0,o,o2,()):=rfl
 by_cases hlt:t < l.length
 ·have hg:=List.getElem?_eq_getElem hlt
  rw [if_pos (by rw [q7_]; omega),ql_ hg,Option.bind_some]
  by_cases h0:left=0
  ·rw [if_pos (q4_.2 h0),k2,q4_.2 h0,met_zero hI h0]
  ·rw [if_neg (fun e=>h0 (q4_.1 e)),add64 (by omega) (by omega)]
   obtain ⟨f,t',e1,e2,e3,e4,e5⟩:=meet_gen (x:=l[t]) (p:=p) (e:=p + (m:Int)) hp (by omega) (by omega) (ho _ (List.getElem_mem hlt))
   rw [e1,Option.bind_some]
   refine each_uw_in _ hp (by omega) hlt hw e2 e3 e4 e5 (fun met left hI'=>?_) (fun e=>by rw [e]) met left hI
   rw [q1a_ (by omega)]
   exact ih _ ⟨t + 1,met,left,rfl,by omega,hI'⟩ (by dsimp only; rw [q1_]; omega)
 ·have htl:t=l.length:=by omega
  subst htl
  rw [if_neg (by rw [q7_]; omega),k2]
  by_cases h0:left=0
  ·rw [q4_.2 h0,met_zero hI h0]
  ·rw [List.take_length] at hI
   rw [met_left hI h0,show eqi left 0=false from decide_eq_false h0]
end Go.Proofs.Lx
end
section
namespace Go.Proofs.Lx
open Go Ev Sx Pl
set_option maxRecDepth 100000
abbrev TCm:=Int×Int×Int×Int×Int
def RightL (l:TLs):Prop:=(l.1=0∧l.2=0)∨(l.1 ≠ 0∧(1≤l.2∨l.2=-1))
instance (l:TLs):Decidable (RightL l):=inferInstanceAs (Decidable (_∨_))
theorem lheld_eq (o:Int):q97_ (o,())=some ((o,-1),()):=rfl
theorem lright_eq' (l:TLs):qtp_ (l,())=some (decide (RightL l),()):=by
 obtain ⟨o,n⟩:=l
 show qp1_ (o,n)=_
 unfold qp1_
 simp only [lheld_eq,Option.bind_some,q4_,q17_,Bool.and_true]
 by_cases h0:o=0
 ·rw [if_pos h0]
  congr 2
  rw [Bool.eq_iff_iff]
  simp [q4_,RightL,h0]
 ·rw [if_neg h0]
  by_cases h1:1≤n
  ·rw [if_pos h1]
   congr 2
   symm
   rw [decide_eq_true_eq]
   exact Or.inr ⟨h0,Or.inl h1⟩
  ·rw [if_neg h1]
   have e:(Option.bind (q97_ (o,())) fun y=>some (eqi o y.1.1 && eqi n y.1.2,()):Option (As [.bool]))=some (eqi o o && eqi n (-1),()):=rfl
   refine Eq.trans e (congrArg (fun b=>some (b,())) ?_)
   rw [Bool.eq_iff_iff,Bool.and_eq_true,q4_,q4_,decide_eq_true_eq]
   constructor
   ·rintro ⟨_,e⟩
    exact Or.inr ⟨h0,Or.inr e⟩
   ·rintro (⟨e,_⟩ | ⟨_,e | e⟩)
    ·exact absurd e h0
    ·exact absurd e h1
    ·exact ⟨rfl,e⟩
def cntL (l:TLs):TLs:=if RightL l then l else (0,0)
theorem lcnt_eq (l:TLs):q7k_ (l,())=some (cntL l,()):=by
 show qld_ l=_
 unfold qld_ cntL
 rw [lright_eq',Option.bind_some]
 by_cases h:RightL l
 ·simp [h]
 ·simp [h]
theorem cnt_right {l:TLs} (h:RightL l):cntL l=l:=if_pos h
theorem lfree_eq {l:TLs} (h:RightL l):q4g_ (l,())=some (decide (l.1=0),()):=by
 show qrd_ l=_
 unfold qrd_
 rw [lcnt_eq,Option.bind_some,cnt_right h,Bool.and_true]
 congr 2
 rw [Bool.eq_iff_iff]
 simp only [Bool.and_eq_true,q4_,decide_eq_true_eq]
 unfold RightL at h
 omega
def takeL (l:TLs) (o t:Int):TLs:=if l=(o,-1) then l else (o,t)
theorem ltake_eq {l:TLs} {o t:Int} (h:RightL l) (ho:o ≠ 0) (ht:1≤t) (hf:l.1=0∨l.1=o):qrm_ (l,o,t,())=some (takeL l o t,0,()):=by
 obtain ⟨l1,l2⟩:=l
 show qkq_ qko_ (l1,l2) o t=_
 unfold qkq_
 rw [lcnt_eq,Option.bind_some,cnt_right h]
 dsimp only
 rw [if_neg (fun e=>ho (q4_.1 e)),lt_dec,decide_eq_false (by omega)]
 show qk0_ qg3_ o t false (l1,l2) (0,0)=_
 unfold qk0_
 rw [if_neg (by decide),lfree_eq h,Option.bind_some]
 have K2:∀ b z,b=false->qg3_ o t b (l1,l2) z=some (takeL (l1,l2) o t,0,()):=fun b z hb=>by
  subst hb
  show qkc_ o t false (l1,l2) z=_
  unfold qkc_ takeL
  rw [if_neg (by decide),lheld_eq,Option.bind_some]
  simp only [Bool.and_true,Bool.and_eq_true,q4_,Prod.mk.injEq]
  split <;> rfl
 by_cases h0:l1=0
 ·rw [if_neg (by simp [h0])]
  exact K2 _ _ rfl
 ·rw [if_pos (by simp [h0])]
  refine K2 _ _ ?_
  rw [Bool.eq_false_iff]
  intro e
  exact qf_.1 e (by rcases hf with hf | hf; exact absurd hf h0; exact hf)
theorem lhold_eq {l:TLs} {o:Int} (h:RightL l) (ho:o ≠ 0) (hf:l.1=o):qvc_ (l,o,())=some ((o,-1),0,()):=by
 show qrc_ l o=_
 unfold qrc_
 rw [lcnt_eq,Option.bind_some,cnt_right h]
 dsimp only
 rw [if_neg (fun e=>ho (q4_.1 e)),if_neg (fun e=>qf_.1 e hf),lheld_eq,Option.bind_some]
def tickL (l:TLs):TLs×Bool:=if l.1=0∨l.2=-1 then (l,false) else if l.2=1 then ((0,0),true) else ((l.1,l.2 - 1),false)
theorem ltick_eq {l:TLs} (h:RightL l) (hb:l.2≤9223372036854775807):qrs_ (l,())=some ((tickL l).1,(tickL l).2,()):=by
 obtain ⟨l1,l2⟩:=l
 show ql2_ qk8_ (l1,l2)=_
 unfold ql2_ tickL
 rw [lcnt_eq,Option.bind_some,cnt_right h,lfree_eq h,Option.bind_some]
 dsimp only at hb ⊢
 by_cases h0:l1=0
 ·rw [if_pos (by simp [h0]),if_pos (Or.inl h0)]
  rfl
 ·rw [if_neg (by simp [h0]),lheld_eq,Option.bind_some]
  show qk9_ _ (l1,l2) (0,0)=_
  unfold qk9_
  dsimp only
  have e1:(eqi l1 l1 && (eqi l2 (-1) && true))=decide (l2=-1):=by
   rw [Bool.eq_iff_iff]
   simp [q4_]
  rw [e1]
  by_cases h2:l2=-1
  ·rw [if_pos (decide_eq_true h2),if_pos (Or.inr h2)]
  ·rw [if_neg (show ¬ decide (l2=-1)=true from fun e=>h2 (of_decide_eq_true e)),if_neg (show ¬ (l1=0∨l2=-1) by omega)]
   have h3:1≤l2:=by
    rcases h with h | h
    ·exact absurd h.1 h0
    ·rcases h.2 with h | h
     ·exact h
     ·exact absurd h h2
   rw [sub64 (by omega) (by omega)]
   by_cases h4:l2=1
   ·rw [if_pos (q4_.2 (by omega)),if_pos h4]
   ·rw [if_neg (fun e=>h4 (by have:=q4_.1 e; omega)),if_neg h4]
def fitsB (x:TBlk):Bool:=decide (x.2.length≤14∧0≤x.1∧x.1≤63∧x.1 + (x.2.length:Int)≤64)
theorem bfits_eq {x:TBlk} (h:x.2.length≤1000000):q7g_ (x,())=some (fitsB x,()):=by
 obtain ⟨p,w⟩:=x
 show qsw_ (p,w)=_
 unfold qsw_ fitsB
 simp only [qv_,q17_,q7_,q1_] at h ⊢
 by_cases h1:(w.length:Int)≤14
 ·rw [if_pos h1]
  by_cases h2:0≤p
  ·rw [if_pos h2]
   by_cases h3:p < 64
   ·rw [if_pos h3,add64 (by omega) (by omega),le_dec]
    congr 2
    rw [Bool.eq_iff_iff]
    simp only [decide_eq_true_eq]
    omega
   ·rw [if_neg h3]
    congr 2
    symm
    rw [decide_eq_false_iff_not]
    omega
  ·rw [if_neg h2]
   congr 2
   symm
   rw [decide_eq_false_iff_not]
   omega
 ·rw [if_neg h1]
  congr 2
  symm
  rw [decide_eq_false_iff_not]
  omega
def zB:TBlk:=(0,[])
def nzB (hv:List Bool) (bs:List TBlk):List TBlk:=List.zipWith (fun h b=>if h=true then b else zB) hv bs
theorem nzB_len {hv:List Bool} {bs:List TBlk} (h1:hv.length=8) (h2:bs.length=8):(nzB hv bs).length=8:=by unfold nzB; rw [List.length_zipWith]; omega
theorem nzB_at {hv:List Bool} {bs:List TBlk} {i:Nat} {h:Bool} {b:TBlk} (h1:hv[i]? = some h) (h2:bs[i]? = some b):(nzB hv bs)[i]? = some (if h=true then b else zB):=by
 unfold nzB
 rw [List.getElem?_zipWith,h1,h2]
theorem mix_set {α:Type} {xs ys:List α} (hl:xs.length=ys.length) {i:Nat} {y:α} (h:ys[i]? = some y):(ys.take i++xs.drop i).set i y=ys.take (i + 1)++xs.drop (i + 1):=by
 have hi:=(List.getElem?_eq_some_iff.1 h).1
 have hy:=(List.getElem?_eq_some_iff.1 h).2
 have e1:ys.take (i + 1)=ys.take i++[y]:=by rw [List.take_add_one,h]; rfl
 have e2:xs.drop i=xs[i]::xs.drop (i + 1):=List.drop_eq_getElem_cons (by omega)
 have e3:(ys.take i).length=i:=by rw [List.length_take]; omega
 rw [e1,e2,List.append_assoc,List.singleton_append]
 have:=set_at (ys.take i) xs[i] y (xs.drop (i + 1))
 rw [e3] at this
 exact this
theorem mix_at {α:Type} {xs ys:List α} (hl:xs.length=ys.length) {i j:Nat} (hj:i≤j):(ys.take i++xs.drop i)[j]? = xs[j]?:=by
 by_cases hi:i≤ys.length
 ·have e3:(ys.take i).length=i:=by rw [List.length_take]; omega
  rw [List.getElem?_append_right (by omega),e3,List.getElem?_drop]
  congr 1
  omega
 ·have h1:(ys.take i++xs.drop i).length≤j:=by
   rw [List.length_append,List.length_take,List.length_drop]
   omega
  rw [List.getElem?_eq_none h1,List.getElem?_eq_none (by omega)]
def ownA (a:TAg):TAg:=(a.1,a.2.1,a.2.2.1,a.2.2.2.1,a.2.2.2.2.1,(a.2.2.2.2.2.1.1,a.2.2.2.2.2.1.2.1,nzB a.2.2.2.2.2.1.2.1 a.2.2.2.2.2.1.2.2),a.2.2.2.2.2.2)
structure SzA (a:TAg):Prop where
 bk:a.1.length≤1000
 hv:a.2.2.2.2.2.1.2.1.length=8
 bs:a.2.2.2.2.2.1.2.2.length=8
 bw:∀ b ∈ a.2.2.2.2.2.1.2.2,b.2.length≤1000
theorem get_of {α:Type} {xs:List α} {i:Nat} (h:i < xs.length):∃ x,xs[i]? = some x:=⟨xs[i],List.getElem?_eq_getElem h⟩
theorem aown_eq {a:TAg} (h:SzA a):qe9_ (a,())=some (ownA a,()):=by
 obtain ⟨bk,ls,ph,tx,la,⟨st,hv,bs⟩,tk⟩:=a
 obtain ⟨hk,h1,h2,h3⟩:=h
 dsimp only at hk h1 h2 h3
 show qmt_ qd2_ (bk,ls,ph,tx,la,(st,hv,bs),tk)=_
 unfold qmt_
 rw [q3v_ (show bk.length≤1000000 by omega)]
 have hl:=nzB_len h1 h2
 show qd2_ 0 0 hv 0 [(bk,ls,ph,tx,la,(st,hv,bs),tk)] _=some ((bk,ls,ph,tx,la,(st,hv,nzB hv bs),tk),())
 unfold qd2_
 refine loop_dt (N:=8) (mk:=fun i=>(0,0,hv,(i:Int),[(bk,ls,ph,tx,la,(st,hv,(nzB hv bs).take i++bs.drop i),tk)],_)) ?_ ?_ 8 0 _ (by omega) (by omega)
 ·intro self i hi
  show qda_ (qd9_ _) _ 0 0 hv (i:Int) [(bk,ls,ph,tx,la,(st,hv,(nzB hv bs).take i++bs.drop i),tk)] _=self (0,0,hv,((i + 1:Nat):Int),[(bk,ls,ph,tx,la,(st,hv,(nzB hv bs).take (i + 1)++bs.drop (i + 1)),tk)],_)
  obtain ⟨x,hx⟩:=get_of (xs:=hv) (i:=i) (by omega)
  obtain ⟨b,hb⟩:=get_of (xs:=bs) (i:=i) (by omega)
  have hm:at? ((nzB hv bs).take i++bs.drop i) (i:Int)=some b:=ql_ (by rw [mix_at (by omega) (Nat.le_refl _),hb])
  have hs:=mix_set (xs:=bs) (ys:=nzB hv bs) (by omega) (nzB_at hx hb)
  unfold qda_
  have l8:lt (i:Int) 8=true:=q7_.2 (by omega)
  have g0:ge (i:Int) 0=true:=q17_.2 (by omega)
  have K2:∀ y z,qd9_ (fun a t2 t12 t13 a_2 t2_2=>self (a,t2,t12,t13,a_2,t2_2)) 0 0 (i:Int) hv (i:Int) [(bk,ls,ph,tx,la,(st,hv,(nzB hv bs).take i++bs.drop i),tk)] z y=self (0,0,hv,((i + 1:Nat):Int),[(bk,ls,ph,tx,la,(st,hv,((nzB hv bs).take i++bs.drop i).set i y),tk)],z):=fun y z=>by
   show qmp_ _ _ _ _ _ _ _ _ _=_
   unfold qmp_
   rw [q8_ g0,q8_ l8,q1b_,Option.bind_some]
   dsimp only
   rw [hm,Option.bind_some,q1a_ (by omega)]
   rfl
  rw [if_pos l8,q8_ l8,ql_ hx,Option.bind_some]
  cases x with
  | true =>
   rw [if_pos rfl,q8_ g0,q8_ l8,q1b_,Option.bind_some]
   dsimp only
   rw [hm,Option.bind_some,q8_ g0,q8_ l8,Option.bind_some]
   dsimp only
   rw [hm,Option.bind_some,q3v_ (by have:=h3 b (List.mem_of_getElem? hb); omega),Option.bind_some,K2]
   rw [<- hs]
   rfl
  | false =>
   rw [if_neg (by decide),K2,<- hs]
   rfl
 ·intro self
  show qda_ (qd9_ _) _ 0 0 hv (8:Int) [(bk,ls,ph,tx,la,(st,hv,(nzB hv bs).take 8++bs.drop 8),tk)] _=_
  unfold qda_
  rw [if_neg (by decide)]
  have e1:(nzB hv bs).take 8++bs.drop 8=nzB hv bs:=by
   rw [List.take_of_length_le (by omega),List.drop_eq_nil_of_le (by omega),List.append_nil]
  rw [e1]
  rfl
end Go.Proofs.Lx
end
section
namespace Go.Proofs.Lx
open Go Ev Sx Pl
set_option maxRecDepth 100000
theorem wr32 (x:Int):IntKind.u32.wrap x=x % 4294967296:=by
 simp only [IntKind.wrap,IntKind.signed,IntKind.bits]
 simp
theorem shr16 {x:Int}:shr .u32 x 16=x / 65536:=by
 unfold shr
 have:min (16:Int).toNat IntKind.u32.bits=16:=by decide
 rw [this,Int.fdiv_eq_ediv_of_nonneg _ (by decide)]
 rfl
theorem parts_eq {x:Int} (h0:0≤x) (h1:x≤4294967295):q9p_ (x,())=some (x / 65536,x % 65536,()):=by
 show qp7_ x=_
 unfold qp7_
 rw [shr16,cvt16,cvt16,show x / 65536 % 65536=x / 65536 by omega]
theorem shl16 {y:Int} (h0:0≤y) (h1:y≤65535):shl .u32 (cvt .u32 y) 16=65536 * y:=by
 unfold cvt
 rw [wr32]
 unfold shl
 have:min (16:Int).toNat IntKind.u32.bits=16:=by decide
 rw [this,wr32]
 omega
theorem bor_lo {a b:Int} (ha:0≤a) (ha2:a≤65535) (hb:0≤b) (hb':b≤65535):bor .u32 (65536 * a) b=65536 * a + b:=by
 obtain ⟨n,rfl⟩:=Int.eq_ofNat_of_zero_le ha
 obtain ⟨m,rfl⟩:=Int.eq_ofNat_of_zero_le hb
 unfold bor
 rw [wr32]
 have e1:(BitVec.ofInt IntKind.u32.bits (65536 * (n:Int))).toNat=65536 * n:=by
  rw [BitVec.toNat_ofInt]
  have:((2 ^ IntKind.u32.bits:Nat):Int)=4294967296:=by decide
  rw [this]
  omega
 have e2:(BitVec.ofInt IntKind.u32.bits (m:Int)).toNat=m:=by
  rw [BitVec.toNat_ofInt]
  have:((2 ^ IntKind.u32.bits:Nat):Int)=4294967296:=by decide
  rw [this]
  omega
 rw [BitVec.toNat_or,e1,e2]
 have e3:65536 * n ||| m=65536 * n + m:=by
  have:=Nat.two_pow_add_eq_or_of_lt (i:=16) (b:=m) (by omega) n
  rw [show (2:Nat) ^ 16=65536 from rfl] at this
  exact this.symm
 rw [e3]
 omega
theorem wide_eq {a b:Int} (ha:0≤a) (ha2:a≤65535) (hb:0≤b) (hb':b≤65535):qez_ (a,b,())=some (65536 * a + b,()):=by
 show qr3_ a b=_
 unfold qr3_
 rw [shl16 ha ha2,show cvt .u32 b=b from wu32 hb (by omega),bor_lo ha ha2 hb hb']
theorem there_eq {st:Int} {hv:List Bool} {bs:List TBlk} (h:hv.length=8):q5t_ ((st,hv,bs),())=some (((hv.count true:Nat):Int),()):=by
 show qdn_ 0 hv 0=_
 unfold qdn_
 refine (loop_dt (N:=8) (mk:=fun i=>((((hv.take i).count true:Nat):Int),hv,(i:Int))) (r:=some (((hv.count true:Nat):Int),())) ?_ ?_ 8 0 _ (by omega) (by omega))
 ·intro self i hi
  show q9q_ _ (((hv.take i).count true:Nat):Int) hv (i:Int)=_
  obtain ⟨x,hx⟩:=get_of (xs:=hv) (i:=i) (by omega)
  have l8:lt (i:Int) 8=true:=q7_.2 (by omega)
  have hle:(hv.take i).count true≤8:=by
   have:=List.count_le_length (a:=true) (l:=hv.take i)
   rw [List.length_take] at this
   omega
  have e:(hv.take (i + 1)).count true=(hv.take i).count true + (if x=true then 1 else 0):=by
   rw [List.take_add_one,hx,List.count_append]
   cases x <;> rfl
  unfold q9q_
  rw [if_pos l8,q8_ l8,ql_ hx,Option.bind_some,q1a_ (by omega),q1a_ (by omega),e]
  cases x with
  | true=>rfl
  | false=>rfl
 ·intro self
  show q9q_ _ (((hv.take 8).count true:Nat):Int) hv (8:Int)=_
  unfold q9q_
  rw [if_neg (by decide),List.take_of_length_le (by omega)]
theorem sown_eq {x:TBlk} (h:x.2.length≤1000):qed_ (x,())=some (x,()):=by
 show qs9_ x=_
 unfold qs9_
 rw [q3v_ (by omega)]
 rfl
theorem number_eq (n:Int):qaf_ (n,())=some (decide (0≤n∧n≤7),()):=by
 show qo8_ n=_
 unfold qo8_
 by_cases h:0≤n
 ·rw [if_pos (q17_.2 h),lt_dec]
  refine congrArg (fun b=>some (b,())) ?_
  rw [Bool.eq_iff_iff,decide_eq_true_eq,decide_eq_true_eq]
  omega
 ·rw [if_neg (fun e=>h (q17_.1 e)),decide_eq_false (by omega)]
def itB (x:TBlk):List Int:=if fitsB x=true then x.1::(x.2.length:Int)::x.2++List.replicate (14 - x.2.length) 0 else List.replicate 16 0
theorem it_m2 (s:List Int->Option (As [.sl (.int .u16)])) (l:List Int):qgs_ s l=if lt (Int.ofNat l.length) 16=true then need (small (l.length + 1)) (s (l++[0])) else some (l,()):=rfl
theorem it_K2:∀ (k:Nat) (l:List Int) (n:Nat),l.length + k=16->k < n->loopF (fun (self:List Int->Option (As [.sl (.int .u16)])) (s:List Int)=>qgs_ (fun l=>self l) s) n l=some (l++List.replicate k 0,())
 | _,_,0,_,h=>by omega
 | 0,l,n + 1,h,_=>by
  rw [q21_,it_m2,if_neg (by rw [q7_,q1_]; omega)]
  simp
 | k + 1,l,n + 1,h,hn=>by
  rw [q21_,it_m2,if_pos (by rw [q7_,q1_]; omega),qn_ (by omega),it_K2 k (l++[0]) n (by simp; omega) (by omega),List.append_assoc]
  rfl
theorem itself_eq {x:TBlk} (h:x.2.length≤1000):q8j_ (x,())=some (itB x,()):=by
 show qgn_ qc0_ x=_
 unfold qgn_ itB
 rw [bfits_eq (by omega),Option.bind_some]
 have K:∀ (l:List Int) k,l.length + k=16->qc0_ l=some (l++List.replicate k 0,()):=fun l k hk=>by
  show qc4_ l=_
  unfold qc4_
  exact it_K2 k l _ hk (by omega)
 by_cases hf:fitsB x=true
 ·rw [if_pos hf,if_pos hf]
  have hf2:=of_decide_eq_true hf
  rw [qn_ (by omega),qn_ (by omega),cvt16,cvt16,q1_,Int.emod_eq_of_lt (by omega) (by omega),Int.emod_eq_of_lt (by omega) (by omega),K _ (14 - x.2.length) (by simp; omega)]
 ·rw [if_neg hf,if_neg hf]
  exact K [] 16 rfl
theorem itB_len {x:TBlk}:(itB x).length=16:=by
 unfold itB
 split
 ·rename_i h
  have:=of_decide_eq_true h
  simp
  omega
 ·simp
def tagB (o tx n:Int) (x:TBlk):List Int:=o::tx / 65536::tx % 65536::n::itB x
theorem tagB_len {o tx n:Int} {x:TBlk}:(tagB o tx n x).length=20:=by
 unfold tagB
 simp [itB_len]
theorem tagged_eq {o tx n:Int} {x:TBlk} (h0:0≤tx) (h1:tx≤4294967295) (hn:0≤n∧n≤7) (h:x.2.length≤1000):qh0_ (o,tx,n,x,())=some (tagB o tx n x,()):=by
 show qma_ o tx n x=_
 unfold qma_
 rw [parts_eq h0 h1,Option.bind_some,qn_ (by omega),itself_eq h,Option.bind_some,qn_ (by rw [itB_len]; omega),show cvt .u16 n=n from wu16 hn.1 (by omega)]
 rfl
def backS (s:TStg) (o n:Int):List Int:=match s.2.1[n.toNat]?,s.2.2[n.toNat]? with
 | some true,some x=>tagB o s.1 n x
 | _,_=>List.replicate 20 0
theorem back_eq {s:TStg} {o n:Int} (h0:0≤s.1) (h1:s.1≤4294967295) (hn:0≤n∧n≤7) (hh:s.2.1.length=8) (hb:s.2.2.length=8) (hw:∀ b ∈ s.2.2,b.2.length≤1000):qo3_ (s,o,n,())=some (backS s o n,()):=by
 obtain ⟨st,hv,bs⟩:=s
 obtain ⟨k,rfl⟩:=Int.eq_ofNat_of_zero_le hn.1
 show qkf_ ql3_ (st,hv,bs) o (k:Int)=_
 unfold qkf_ backS
 rw [number_eq,Option.bind_some,if_neg (by simp [hn])]
 dsimp only at hh hb ⊢
 obtain ⟨x,hx⟩:=get_of (xs:=hv) (i:=k) (by omega)
 obtain ⟨b,hb'⟩:=get_of (xs:=bs) (i:=k) (by omega)
 rw [ql_ hx,Option.bind_some,Int.toNat_natCast,hx,hb']
 show qkw_ o (k:Int) (st,hv,bs) (!x)=_
 unfold qkw_
 cases x with
 | true =>
  rw [if_neg (by decide)]
  dsimp only
  rw [ql_ hb',Option.bind_some,tagged_eq h0 h1 hn (hw b (List.mem_of_getElem? hb'))]
  rfl
 | false=>rfl
def rdB (w:List Int):Int×Int×Int×TBlk×Int :=
 if w.length ≠ 20∨8≤w.getD 3 0 then (0,0,0,zB,2)
 else if 14 < w.getD 5 0 then (0,0,0,zB,20)
 else if fitsB (w.getD 4 0,(w.drop 6).take (w.getD 5 0).toNat)=true∧itB (w.getD 4 0,(w.drop 6).take (w.getD 5 0).toNat)=w.drop 4 then (w.getD 0 0,65536 * w.getD 1 0 + w.getD 2 0,w.getD 3 0,(w.getD 4 0,(w.drop 6).take (w.getD 5 0).toNat),0)
 else (0,0,0,zB,20)
theorem sread_eq {w:List Int} (hr:∀ x ∈ w,0≤x∧x≤65535):qf3_ (w,())=some ((rdB w).1,(rdB w).2.1,(rdB w).2.2.1,(rdB w).2.2.2.1,(rdB w).2.2.2.2,()):=by
 show qkh_ qk5_ w=_
 unfold qkh_
 by_cases hl:w.length=20
 ·rw [if_neg (fun e=>qf_.1 e (by rw [q1_]; omega))]
  have g:∀ k:Nat,k < 20->at? w (k:Int)=some (w.getD k 0):=fun k hk=>by
   obtain ⟨x,hx⟩:=get_of (xs:=w) (i:=k) (by omega)
   rw [ql_ hx,List.getD_eq_getElem?_getD,hx]
   rfl
  have rg:∀ k:Nat,k < 20->0≤w.getD k 0∧w.getD k 0≤65535:=fun k hk=>by
   obtain ⟨x,hx⟩:=get_of (xs:=w) (i:=k) (by omega)
   rw [List.getD_eq_getElem?_getD,hx]
   exact hr x (List.mem_of_getElem? hx)
  have c64:∀ k:Nat,k < 20->cvt .i64 (w.getD k 0)=w.getD k 0:=fun k hk=>cvt64 (by have:=rg k hk; omega) (by have:=rg k hk; omega)
  have g3:at? w 3=some (w.getD 3 0):=g 3 (by omega)
  have g4:at? w 4=some (w.getD 4 0):=g 4 (by omega)
  have g5:at? w 5=some (w.getD 5 0):=g 5 (by omega)
  have g0:at? w 0=some (w.getD 0 0):=g 0 (by omega)
  have g1:at? w 1=some (w.getD 1 0):=g 1 (by omega)
  have g2:at? w 2=some (w.getD 2 0):=g 2 (by omega)
  rw [g3,Option.bind_some]
  show qkn_ qfk_ w (ge (w.getD 3 0) 8) 0=_
  unfold qkn_
  by_cases h8:8≤w.getD 3 0
  ·rw [if_pos (q17_.2 h8)]
   unfold rdB
   rw [if_pos (Or.inr h8)]
   rfl
  ·rw [if_neg (fun e=>h8 (q17_.1 e)),g4,Option.bind_some,g5,Option.bind_some]
   have c6:cut w 6 (Int.ofNat w.length)=some (w.drop 6):=cut_from (i:=6) (by omega)
   have c4:cut w 4 (Int.ofNat w.length)=some (w.drop 4):=cut_from (i:=4) (by omega)
   have l6:(w.drop 6).length=14:=by rw [List.length_drop]; omega
   rw [c6,Option.bind_some,c64 5 (by omega),c64 4 (by omega)]
   have r5:=rg 5 (by omega)
   have r4:=rg 4 (by omega)
   by_cases h14:14 < w.getD 5 0
   ·rw [if_pos (gt_iff.2 (by rw [q1_,l6]; omega))]
    unfold rdB
    rw [if_neg (by omega),if_pos h14]
    rfl
   ·rw [if_neg (fun e=>h14 (by have:=gt_iff.1 e; rw [q1_,l6] at this; omega))]
    obtain ⟨m,hm⟩:=Int.eq_ofNat_of_zero_le r5.1
    have cm:cut (w.drop 6) 0 (w.getD 5 0)=some ((w.drop 6).take m):=by rw [hm]; exact cut_to (by omega)
    rw [cm,Option.bind_some,q8_ (qv_.2 (Int.le_refl _)),q8_ (qv_.2 (by rw [q1_,l6]; omega))]
    have lm:((w.drop 6).take m).length=m:=by rw [List.length_take]; omega
    rw [sown_eq (by dsimp only; omega),Option.bind_some]
    dsimp only
    rw [bfits_eq (by dsimp only; omega),Option.bind_some]
    unfold rdB
    rw [if_neg (show ¬ (w.length ≠ 20∨8≤w.getD 3 0) by omega),if_neg h14,hm,Int.toNat_natCast]
    have K2:∀ b,qfk_ w b 0 (w.getD 4 0,(w.drop 6).take m)=some (if b=true then (0,0,0,zB,20,()) else (w.getD 0 0,65536 * w.getD 1 0 + w.getD 2 0,w.getD 3 0,(w.getD 4 0,(w.drop 6).take m),0,())):=fun b=>by
     show qkt_ w b 0 _=_
     unfold qkt_
     cases b with
     | true=>rfl
     | false =>
      have r1:=rg 1 (by omega)
      have r2:=rg 2 (by omega)
      rw [if_neg (by decide),if_neg (by decide),g0,Option.bind_some,g1,Option.bind_some,g2,Option.bind_some,g3,Option.bind_some,wide_eq r1.1 r1.2 r2.1 r2.2,Option.bind_some,c64 3 (by omega)]
    cases hf:fitsB (w.getD 4 0,(w.drop 6).take m) with
    | false =>
     rw [if_pos (by rfl),K2,if_neg (show ¬ (false=true∧_) from fun e=>by cases e.1)]
     rfl
    | true =>
     rw [if_neg (by decide),c4,Option.bind_some,itself_eq (by dsimp only; omega),Option.bind_some]
     dsimp only
     rw [equalW_eq (by rw [itB_len]; omega),Option.bind_some,K2]
     by_cases he:itB (w.getD 4 0,(w.drop 6).take m)=w.drop 4
     ·rw [decide_eq_true he,if_neg (by decide),if_pos ⟨rfl,he⟩]
     ·rw [decide_eq_false he,if_pos (by rfl),if_neg (fun e=>he e.2)]
 ·rw [if_pos (qf_.2 (by rw [q1_]; omega))]
  unfold rdB
  rw [if_pos (Or.inl hl)]
  rfl
end Go.Proofs.Lx
end
section
namespace Go.Proofs.Lx
open Go Ev Sx Pl
set_option maxRecDepth 100000
def putS (s:TStg) (k:Nat) (x:TBlk):TStg:=(s.1,s.2.1.set k true,nzB (s.2.1.set k true) (s.2.2.set k x))
theorem sput_eq {s:TStg} {n:Int} {x:TBlk} (hh:s.2.1.length=8) (hb:s.2.2.length=8) (hw:∀ b ∈ s.2.2,b.2.length≤1000) (hx:x.2.length≤1000) :
  qqp_ (s,n,x,())=some (if 0≤n∧n≤7 then if fitsB x=true then (putS s n.toNat x,0,()) else (zSt,20,()) else (zSt,2,())):=by
 obtain ⟨st,hv,bs⟩:=s
 dsimp only at hh hb hw
 show qn8_ qhd_ (st,hv,bs) n x=_
 unfold qn8_
 rw [number_eq,Option.bind_some]
 by_cases hn:0≤n∧n≤7
 ·obtain ⟨k,rfl⟩:=Int.eq_ofNat_of_zero_le hn.1
  rw [decide_eq_true hn,if_neg (by decide),if_pos hn,bfits_eq (by omega),Option.bind_some]
  cases hf:fitsB x with
  | false =>
   rw [if_pos (by rfl),if_neg (by decide)]
  | true =>
   have g0:ge (k:Int) 0=true:=q17_.2 (by omega)
   have l8:lt (k:Int) 8=true:=q7_.2 (by omega)
   obtain ⟨y,hy⟩:=get_of (xs:=hv) (i:=k) (by omega)
   obtain ⟨b,hb'⟩:=get_of (xs:=bs) (i:=k) (by omega)
   rw [if_neg (by decide),if_pos rfl,q8_ g0,q8_ l8]
   dsimp only
   rw [ql_ hy,Option.bind_some,q8_ g0,q8_ l8,ql_ hb',Option.bind_some,Int.toNat_natCast]
   have hh2:(hv.set k true).length=8:=by rw [List.length_set]; exact hh
   have hb2:(bs.set k x).length=8:=by rw [List.length_set]; exact hb
   have hw2:∀ c ∈ bs.set k x,c.2.length≤1000:=fun c hc=>by
    rcases List.mem_or_eq_of_mem_set hc with h | h
    ·exact hw c h
    ·rw [h]; exact hx
   unfold putS
   dsimp only
   generalize hv.set k true=hv' at *
   generalize bs.set k x=bs' at *
   have hl:=nzB_len hh2 hb2
   unfold qhd_
   refine loop_dt (N:=8) (mk:=fun i=>(0,0,hv',(i:Int),[(st,hv',(nzB hv' bs').take i++bs'.drop i)],_)) ?_ ?_ 8 0 _ (by omega) (by omega)
   ·intro self i hi
    show qdw_ _ _ 0 0 hv' (i:Int) [(st,hv',(nzB hv' bs').take i++bs'.drop i)] _=self (0,0,hv',((i + 1:Nat):Int),[(st,hv',(nzB hv' bs').take (i + 1)++bs'.drop (i + 1))],_)
    obtain ⟨z,hz⟩:=get_of (xs:=hv') (i:=i) (by omega)
    obtain ⟨c,hc⟩:=get_of (xs:=bs') (i:=i) (by omega)
    have hm:at? ((nzB hv' bs').take i++bs'.drop i) (i:Int)=some c:=ql_ (by rw [mix_at (by omega) (Nat.le_refl _),hc])
    have hs:=mix_set (xs:=bs') (ys:=nzB hv' bs') (by omega) (nzB_at hz hc)
    have l8:lt (i:Int) 8=true:=q7_.2 (by omega)
    have g0:ge (i:Int) 0=true:=q17_.2 (by omega)
    unfold qdw_
    rw [if_pos l8,q8_ l8,ql_ hz,Option.bind_some]
    cases z with
    | true =>
     rw [if_pos rfl,q8_ g0,q8_ l8,q1b_,Option.bind_some]
     dsimp only
     rw [hm,Option.bind_some,sown_eq (hw2 c (List.mem_of_getElem? hc)),Option.bind_some,q8_ g0,q8_ l8,Option.bind_some]
     dsimp only
     rw [hm,Option.bind_some,q1a_ (by omega),<- hs]
     rfl
    | false =>
     rw [if_neg (by decide),q8_ g0,q8_ l8,q1b_,Option.bind_some]
     dsimp only
     rw [hm,Option.bind_some,q1a_ (by omega),<- hs]
     rfl
   ·intro self
    show qdw_ _ _ 0 0 hv' (8:Int) [(st,hv',(nzB hv' bs').take 8++bs'.drop 8)] _=_
    have e1:(nzB hv' bs').take 8++bs'.drop 8=nzB hv' bs':=by
     rw [List.take_of_length_le (by omega),List.drop_eq_nil_of_le (by omega),List.append_nil]
    rw [e1]
    unfold qdw_
    rw [if_neg (by decide)]
    rfl
 ·rw [decide_eq_false hn,if_pos (by rfl),if_neg hn]
def blkS (hv:List Bool) (bs:List TBlk):List TBlk:=((hv.zip bs).filter (fun p=>p.1)).map (fun p=>p.2)
theorem blkS_snoc {hv:List Bool} {bs:List TBlk} {i:Nat} {x:Bool} {b:TBlk} (h1:hv[i]? = some x) (h2:bs[i]? = some b) :
  blkS (hv.take (i + 1)) (bs.take (i + 1))=blkS (hv.take i) (bs.take i)++(if x=true then [b] else []):=by
 have i1:=(List.getElem?_eq_some_iff.1 h1).1
 have i2:=(List.getElem?_eq_some_iff.1 h2).1
 unfold blkS
 rw [List.take_add_one,List.take_add_one,h1,h2]
 show (List.map _ (List.filter _ ((hv.take i++[x]).zip (bs.take i++[b]))))=_
 rw [List.zip_append (by rw [List.length_take,List.length_take]; omega),List.filter_append,List.map_append]
 cases x <;> rfl
theorem blkS_mem {hv:List Bool} {bs:List TBlk} {b:TBlk} (h:b ∈ blkS hv bs):b ∈ bs:=by
 obtain ⟨p,hp,rfl⟩:=List.mem_map.1 h
 exact (List.of_mem_zip (List.mem_filter.1 hp).1).2
theorem blkS_le {hv:List Bool} {bs:List TBlk}:(blkS hv bs).length≤hv.length:=by
 unfold blkS
 rw [List.length_map]
 refine Nat.le_trans (List.length_filter_le _ _) ?_
 rw [List.length_zip]
 omega
theorem sblocks_eq {s:TStg} (hh:s.2.1.length=8) (hb:s.2.2.length=8) (hw:∀ b ∈ s.2.2,b.2.length≤1000):q7a_ (s,())=some (blkS s.2.1 s.2.2,()):=by
 obtain ⟨st,hv,bs⟩:=s
 dsimp only at hh hb hw ⊢
 show qbx_ (st,hv,bs) hv 0 []=_
 unfold qbx_
 refine loop_dt (N:=8) (mk:=fun i=>((st,hv,bs),hv,(i:Int),blkS (hv.take i) (bs.take i))) ?_ ?_ 8 0 _ (by omega) (by omega)
 ·intro self i hi
  show q8s_ _ (st,hv,bs) hv (i:Int) (blkS (hv.take i) (bs.take i))=self ((st,hv,bs),hv,((i + 1:Nat):Int),blkS (hv.take (i + 1)) (bs.take (i + 1)))
  obtain ⟨z,hz⟩:=get_of (xs:=hv) (i:=i) (by omega)
  obtain ⟨c,hc⟩:=get_of (xs:=bs) (i:=i) (by omega)
  have l8:lt (i:Int) 8=true:=q7_.2 (by omega)
  have hle:(blkS (hv.take i) (bs.take i)).length≤8:=by
   have:=blkS_le (hv:=hv.take i) (bs:=bs.take i)
   rw [List.length_take] at this
   omega
  rw [blkS_snoc hz hc]
  unfold q8s_
  rw [if_pos l8,q8_ l8,ql_ hz,Option.bind_some]
  cases z with
  | true =>
   rw [if_pos rfl]
   dsimp only
   rw [ql_ hc,Option.bind_some,sown_eq (hw c (List.mem_of_getElem? hc)),Option.bind_some,qn_ (by show _ + 1≤_; omega),q1a_ (by omega)]
   rfl
  | false =>
   rw [if_neg (by decide),q1a_ (by omega)]
   simp
 ·intro self
  show q8s_ _ (st,hv,bs) hv (8:Int) (blkS (hv.take 8) (bs.take 8))=_
  unfold q8s_
  rw [if_neg (by decide),List.take_of_length_le (by omega),List.take_of_length_le (by omega)]
def shV (s:Int):Int:=if eqi (band .u32 s 1) 1=true then bxor .u32 (shr .u32 s 1) 3988292384 else shr .u32 s 1
theorem shift_eq (s:Int):qq1_ (s,())=some (shV s,()):=by
 show qst_ s=_
 unfold qst_ shV
 split <;> rfl
def addV (s b:Int):Int:=shV (shV (shV (shV (shV (shV (shV (shV (bxor .u32 s (cvt .u32 b)))))))))
theorem sadd_m1 (f:Int->Int->Option (As [.int .u32])) (s i:Int):qmg_ f s i=if lt i 8=true then Option.bind (qq1_ (s,())) fun y=>f y.1 (add .i64 i 1) else some (s,()):=rfl
theorem sadd_eq (s b:Int):qu8_ (s,b,())=some (addV s b,()):=by
 show qmn_ (bxor .u32 s (cvt .u32 b)) 0=_
 unfold addV
 generalize bxor .u32 s (cvt .u32 b)=x
 have st:∀ n x (i:Int),lt i 8=true->loopF (fun (self:Int×Int->Option (As [.int .u32])) (s:Int×Int)=>qmg_ (fun a b=>self (a,b)) s.1 s.2) (n + 1) (x,i)=loopF (fun (self:Int×Int->Option (As [.int .u32])) (s:Int×Int)=>qmg_ (fun a b=>self (a,b)) s.1 s.2) n (shV x,add .i64 i 1):=fun n x i h=>by
  rw [q21_,sadd_m1,if_pos h,shift_eq,Option.bind_some]
 unfold qmn_
 rw [st _ _ _ (by rfl),st _ _ _ (by rfl),st _ _ _ (by rfl),st _ _ _ (by rfl),st _ _ _ (by rfl),st _ _ _ (by rfl),st _ _ _ (by rfl),st _ _ _ (by rfl)]
 rfl
def notV (s:Int):Int:=((qse_ s).getD (0,())).1
theorem sbytes_eq {b:List Int} (h:b.length≤1000000):qth_ (b,())=some (notV (b.foldl addV 4294967295),()):=by
 show qh8_ b 4294967295 (Int.ofNat b.length) 0=_
 unfold qh8_
 refine (loop_idx (xs:=b) (mk:=fun i acc=>(b,acc,Int.ofNat b.length,(i:Int))) (stp:=addV) (fin:=fun acc=>some (notV acc,())) (fun _ _=>True) ?_ (fun _ _ _ _ _=>trivial) ?_ b.length 0 4294967295 _ (by omega) (by omega) trivial)
 ·intro self i acc x hx _
  have hi:=(List.getElem?_eq_some_iff.1 hx).1
  show qd3_ _ _ b acc (Int.ofNat b.length) (i:Int)=_
  unfold qd3_
  rw [if_pos (by rw [q7_,q1_]; omega),ql_ hx,Option.bind_some,sadd_eq,Option.bind_some,q1a_ (by omega)]
 ·intro self acc _
  show qd3_ _ _ b acc (Int.ofNat b.length) (b.length:Int)=_
  unfold qd3_
  rw [if_neg (by rw [q7_,q1_]; omega)]
  rfl
theorem flat_snoc (l:List Int) (x:Int):(l++[x]).flatMap two=l.flatMap two++two x:=by simp
theorem packregs_eq {l:List Int} (h:l.length≤100000):qil_ (l,())=some (l.flatMap two,()):=by
 show qcv_ q93_ l=_
 unfold qcv_
 have e2:mul .i64 2 (Int.ofNat l.length)=((2 * l.length:Nat):Int):=by rw [q1_,mul64 (by omega) (by omega)]; omega
 rw [e2,q8_ (q17_.2 (by omega)),q8_ (capOk_self _),Int.toNat_natCast,qn_ (by omega)]
 unfold q93_
 have hz:List.replicate (2 * l.length) (0:Int)=(l.take 0).flatMap two++(List.replicate (2 * l.length) 0).drop 0:=by simp
 rw [hz]
 refine loop_dt (N:=l.length) (mk:=fun i=>(l,Int.ofNat l.length,(i:Int),(l.take i).flatMap two++(List.replicate (2 * l.length) 0).drop (2 * i))) ?_ ?_ l.length 0 _ (by omega) (by omega)
 ·intro self i hi
  show q7c_ _ l (Int.ofNat l.length) (i:Int) ((l.take i).flatMap two++(List.replicate (2 * l.length) 0).drop (2 * i))=self (l,Int.ofNat l.length,((i + 1:Nat):Int),(l.take (i + 1)).flatMap two++(List.replicate (2 * l.length) 0).drop (2 * (i + 1)))
  obtain ⟨x,hx⟩:=get_of (xs:=l) (i:=i) (by omega)
  have lp:((l.take i).flatMap two).length=2 * i:=by rw [flat_two_len,List.length_take]; omega
  have ed:(List.replicate (2 * l.length) (0:Int)).drop (2 * i)=0::0::(List.replicate (2 * l.length) 0).drop (2 * (i + 1)):=by
   rw [List.drop_replicate,List.drop_replicate,show 2 * l.length - 2 * i=(2 * l.length - 2 * (i + 1)) + 1 + 1 by omega]
   rfl
  have ei:(l.take (i + 1)).flatMap two=(l.take i).flatMap two++two x:=by rw [List.take_add_one,hx]; exact flat_snoc _ _
  rw [ed,ei]
  unfold q7c_
  have m2:mul .i64 2 (i:Int)=((2 * i:Nat):Int):=by rw [mul64 (by omega) (by omega)]; omega
  have m3:add .i64 ((2 * i:Nat):Int) 1=((2 * i + 1:Nat):Int):=q1a_ (by omega)
  generalize (l.take i).flatMap two=p at *
  generalize (List.replicate (2 * l.length) (0:Int)).drop (2 * (i + 1))=q at *
  have g1:at? (p++0::0::q) ((2 * i:Nat):Int)=some 0:=ql_ (by rw [List.getElem?_append_right (by omega),lp,Nat.sub_self]; rfl)
  have s1:∀ y:Int,(p++0::0::q).set (2 * i) y=p++y::0::q:=fun y=>by rw [<- lp]; exact set_at p 0 y (0::q)
  have g2:∀ y:Int,at? (p++y::0::q) ((2 * i + 1:Nat):Int)=some 0:=fun y=>ql_ (by rw [List.getElem?_append_right (by omega),lp,Nat.add_sub_cancel_left]; rfl)
  have s2:∀ y z:Int,(p++y::0::q).set (2 * i + 1) z=p++y::z::q:=fun y z=>by
   have:=set_at (p++[y]) 0 z q
   rw [List.length_append,lp,List.append_assoc,List.append_assoc] at this
   exact this
  rw [if_pos (by rw [q7_,q1_]; omega),ql_ hx,Option.bind_some,Option.bind_some,m2,g1,Option.bind_some,Option.bind_some,m3,Int.toNat_natCast,Int.toNat_natCast,s1,g2,Option.bind_some,Option.bind_some,s2,q1a_ (by omega),cvt8,cvt8,shr8 _ _ (by decide),List.append_assoc]
  rfl
 ·intro self
  show q7c_ _ l (Int.ofNat l.length) (l.length:Int) ((l.take l.length).flatMap two++(List.replicate (2 * l.length) 0).drop (2 * l.length))=_
  unfold q7c_
  rw [if_neg (by rw [q7_,q1_]; omega),List.take_length,List.drop_eq_nil_of_le (by simp),List.append_nil]
def sumW (l:List Int):Int:=notV ((l.flatMap two).foldl addV 4294967295)
theorem swordsum_eq {l:List Int} (h:l.length≤100000):qtj_ (l,())=some (sumW l,()):=by
 show qsd_ l=_
 unfold qsd_
 rw [packregs_eq h,Option.bind_some]
 dsimp only
 rw [sbytes_eq (by rw [flat_two_len]; omega)]
 rfl
def sumB (l:List TBlk):Int:=sumW (l.flatMap itB)
theorem ssum_eq {l:List TBlk} (h:l.length≤1000) (hw:∀ b ∈ l,b.2.length≤1000):qq9_ (l,())=some (sumB l,()):=by
 show qh9_ l (Int.ofNat l.length) 0 []=_
 unfold qh9_
 have K2:∀ all:List Int,all.length≤100000->qlw_ all=some (sumW all,()):=fun all ha=>by
  show qmf_ all=_
  unfold qmf_
  rw [swordsum_eq ha]
  rfl
 have hn:l.flatMap itB=[]++l.flatMap itB:=rfl
 unfold sumB
 rw [hn,<- foldl_app]
 refine (loop_idx (xs:=l) (mk:=fun i acc=>(l,Int.ofNat l.length,(i:Int),acc)) (stp:=fun o x=>o++itB x) (fin:=fun acc=>some (sumW acc,())) (fun i acc=>acc.length=16 * i) ?_ ?_ ?_ l.length 0 [] _ (by omega) (by omega) rfl)
 ·intro self i acc x hx ha
  have hi:=(List.getElem?_eq_some_iff.1 hx).1
  show qd0_ _ _ l (Int.ofNat l.length) (i:Int) acc=_
  unfold qd0_
  rw [if_pos (by rw [q7_,q1_]; omega),ql_ hx,Option.bind_some,itself_eq (hw x (List.mem_of_getElem? hx)),Option.bind_some,qn_ (by rw [itB_len]; omega),q1a_ (by omega)]
 ·intro i acc x _ ha
  rw [List.length_append,itB_len,ha]
  omega
 ·intro self acc ha
  show qd0_ _ _ l (Int.ofNat l.length) (l.length:Int) acc=_
  unfold qd0_
  rw [if_neg (by rw [q7_,q1_]; omega),K2 _ (by omega)]
def firstN (hv:List Bool) (n:Int):Bool:=decide (∀ i:Nat,i < 8->hv.getD i false=decide ((i:Int) < n))
theorem swhole_eq {s:TStg} {n c:Int} (hh:s.2.1.length=8) (hb:s.2.2.length=8) (hw:∀ b ∈ s.2.2,b.2.length≤1000) :
  qjg_ (s,n,c,())=some (decide (0≤n∧n≤8) && (firstN s.2.1 n && decide (sumB (blkS s.2.1 s.2.2)=c)),()):=by
 have hblk:=sblocks_eq hh hb hw
 obtain ⟨st,hv,bs⟩:=s
 dsimp only at hh hb hw hblk ⊢
 show qhp_ qd4_ (st,hv,bs) n c=_
 unfold qhp_
 have K1t:qd4_ n c (st,hv,bs) true=some (false,()):=rfl
 by_cases h0:n < 0
 ·rw [if_pos (q7_.2 h0),K1t,decide_eq_false (by omega)]
  rfl
 ·rw [if_neg (fun e=>h0 (q7_.1 e))]
  by_cases h8:8 < n
  ·rw [gt_iff.2 h8,K1t,decide_eq_false (by omega)]
   rfl
  ·rw [gt_dec,decide_eq_false h8,decide_eq_true (show 0≤n∧n≤8 by omega),Bool.true_and]
   show qdt_ n c (st,hv,bs) hv 0=_
   have K3:q4z_ c (st,hv,bs)=some (decide (sumB (blkS hv bs)=c),()):=by
    show qip_ c (st,hv,bs)=_
    unfold qip_
    rw [hblk,Option.bind_some]
    dsimp only
    rw [ssum_eq (by have:=blkS_le (hv:=hv) (bs:=bs); omega) (fun b hb=>hw b (blkS_mem hb)),Option.bind_some]
    refine congrArg (fun b=>some (b,())) ?_
    rw [Bool.eq_iff_iff,q4_,decide_eq_true_eq]
   unfold qdt_
   have hg:∀ k i m:Nat,i + k=8->k < m->loopF (fun (self:Int×Int×TStg×List Bool×Int->Option (As [.bool])) (s:Int×Int×TStg×List Bool×Int)=>q7v_ q4z_ (fun count check s t16 t17=>self (count,check,s,t16,t17)) s.1 s.2.1 s.2.2.1 s.2.2.2.1 s.2.2.2.2) m (n,c,(st,hv,bs),hv,(i:Int))=some (decide (∀ j:Nat,j < 8->i≤j->hv.getD j false=decide ((j:Int) < n)) && decide (sumB (blkS hv bs)=c),()):=by
    intro k
    induction k with
    | zero =>
     intro i m hi hm
     obtain ⟨m,rfl⟩:∃ q,m=q + 1:=⟨m - 1,by omega⟩
     have:i=8:=by omega
     subst this
     rw [q21_]
     show q7v_ q4z_ _ n c (st,hv,bs) hv (8:Int)=_
     unfold q7v_
     rw [if_neg (by decide),K3,decide_eq_true (p:=∀ j:Nat,j < 8->8≤j->hv.getD j false=decide ((j:Int) < n)) (fun j h1 h2=>by omega),Bool.true_and]
    | succ k ih =>
     intro i m hi hm
     obtain ⟨m,rfl⟩:∃ q,m=q + 1:=⟨m - 1,by omega⟩
     have l8:lt (i:Int) 8=true:=q7_.2 (by omega)
     obtain ⟨x,hx⟩:=get_of (xs:=hv) (i:=i) (by omega)
     have gx:hv.getD i false=x:=by rw [List.getD_eq_getElem?_getD,hx]; rfl
     rw [q21_]
     show q7v_ q4z_ _ n c (st,hv,bs) hv (i:Int)=_
     have u:∀ f,q7v_ q4z_ f n c (st,hv,bs) hv (i:Int)=if lt (i:Int) 8=true then need (lt (i:Int) 8) (Option.bind (at? hv (i:Int)) fun y=>if neb y (lt (i:Int) n)=true then some (false,()) else f n c (st,hv,bs) hv (add .i64 (i:Int) 1)) else q4z_ c (st,hv,bs):=fun f=>rfl
     rw [u,if_pos l8,q8_ l8,ql_ hx,Option.bind_some,lt_dec]
     by_cases he:x=decide ((i:Int) < n)
     ·rw [if_neg (by rw [<- he]; cases x <;> decide),q1a_ (by omega),ih (i + 1) m (by omega) (by omega)]
      refine congrArg (fun b=>some (b && _,())) ?_
      rw [Bool.eq_iff_iff,decide_eq_true_eq,decide_eq_true_eq]
      constructor
      ·intro h j h1 h2
       by_cases e:j=i
       ·rw [e,gx]; exact he
       ·exact h j h1 (by omega)
      ·intro h j h1 h2
       exact h j h1 (by omega)
     ·rw [if_pos (by revert he; cases x <;> cases decide ((i:Int) < n) <;> decide),decide_eq_false (fun h=>he (by rw [<- gx]; exact h i (by omega) (Nat.le_refl _)))]
      rfl
   have:=hg 8 0 18446744073709551616 rfl (by omega)
   refine this.trans ?_
   refine congrArg (fun b=>some (b && _,())) ?_
   unfold firstN
   rw [Bool.eq_iff_iff,decide_eq_true_eq,decide_eq_true_eq]
   exact ⟨fun h i hi=>h i hi (Nat.zero_le _),fun h i hi _=>h i hi⟩
end Go.Proofs.Lx
end
section
namespace Go.Proofs.Lx
open Go Ev Sx Pl
set_option maxRecDepth 100000
def copyB (b:List Int) (x:TBlk):List Int:=b.take x.1.toNat++x.2++b.drop (x.1.toNat + x.2.length)
theorem copyB_len {b:List Int} {x:TBlk} (h:b.length=64) (hf:fitsB x=true):(copyB b x).length=64:=by
 have:=of_decide_eq_true hf
 unfold copyB
 rw [List.length_append,List.length_append,List.length_take,List.length_drop]
 omega
def overB (b:List Int) (l:List TBlk):List Int:=l.foldl copyB b
theorem overB_len:∀ {l:List TBlk} {b:List Int},b.length=64->(∀ x ∈ l,fitsB x=true)->(overB b l).length=64
 | [],_,h,_=>h
 | x::r,b,h,hf=>overB_len (l:=r) (copyB_len h (hf x (List.mem_cons_self ..))) (fun y hy=>hf y (List.mem_cons_of_mem _ hy))
theorem copyB_rng {b:List Int} {x:TBlk} {P:Int->Prop} (hb:∀ y ∈ b,P y) (hx:∀ y ∈ x.2,P y):∀ y ∈ copyB b x,P y:=by
 intro y hy
 unfold copyB at hy
 rcases List.mem_append.1 hy with h | h
 ·rcases List.mem_append.1 h with h | h
  ·exact hb y (List.mem_of_mem_take h)
  ·exact hx y h
 ·exact hb y (List.mem_of_mem_drop h)
theorem overB_rng {P:Int->Prop}:∀ {l:List TBlk} {b:List Int},(∀ y ∈ b,P y)->(∀ x ∈ l,∀ y ∈ x.2,P y)->∀ y ∈ overB b l,P y
 | [],_,h,_=>h
 | x::r,b,h,hf=>overB_rng (l:=r) (copyB_rng h (hf x (List.mem_cons_self ..))) (fun y hy=>hf y (List.mem_cons_of_mem _ hy))
theorem bfit_eq {l:List TBlk} (hl:l.length≤1000000) (hf:∀ x ∈ l,fitsB x=true):qve_ (l,())=some (true,()):=by
 have hi:q56_ (l,())=some (-1,()):=by
  show q37_ l (Int.ofNat l.length) 0=_
  unfold q37_
  refine loop_dt (N:=l.length) (mk:=fun i=>(l,Int.ofNat l.length,(i:Int))) ?_ ?_ l.length 0 _ (by omega) (by omega)
  ·intro self i hi
   obtain ⟨x,hx⟩:=get_of (xs:=l) (i:=i) hi
   have hfx:=hf x (List.mem_of_getElem? hx)
   have h2:=of_decide_eq_true hfx
   have hz:qpv_ (x,())=some (false,()):=by
    show qoo_ x=_
    unfold qoo_
    rw [bfits_eq (by omega),hfx]
    rfl
   show q22_ _ l (Int.ofNat l.length) (i:Int)=_
   unfold q22_
   rw [if_pos (by rw [q7_,q1_]; omega),ql_ hx,Option.bind_some,hz,Option.bind_some,if_neg (by decide),q1a_ (by omega)]
  ·intro self
   show q22_ _ l (Int.ofNat l.length) (l.length:Int)=_
   unfold q22_
   rw [if_neg (by rw [q7_,q1_]; omega)]
 have hc:q6z_ (l,())=some (false,()):=by
  show q5v_ l=_
  unfold q5v_
  rw [hi]
  rfl
 show qtt_ l=_
 unfold qtt_
 rw [hc]
 rfl
theorem cloneWr_eq {s:List Int} (h:s.length≤1000000):q38_ (s,())=some (s,()):=by
 show q95_ s=_
 unfold q95_
 by_cases h0:s.length=0
 ·have:s=[]:=List.eq_nil_of_length_eq_zero h0
  subst this
  rfl
 ·rw [if_neg (by rw [q4_,q1_]; omega),qn_ (by omega)]
theorem bover_eq {b:List Int} {l:List TBlk} (hb:b.length=64) (hl:l.length≤1000000) (hf:∀ x ∈ l,fitsB x=true):qte_ (b,l,())=some (overB b l,0,()):=by
 show qmb_ qdj_ b l=_
 unfold qmb_
 rw [if_neg (fun e=>qf_.1 e (by rw [q1_]; omega)),bfit_eq hl hf,Option.bind_some,if_neg (by decide),cloneWr_eq (by omega),Option.bind_some]
 show qdj_ l (Int.ofNat l.length) 0 b=_
 unfold qdj_
 refine (loop_idx (xs:=l) (mk:=fun i acc=>(l,Int.ofNat l.length,(i:Int),acc)) (stp:=copyB) (fin:=fun acc=>some (acc,0,())) (fun i acc=>acc.length=64) ?_ ?_ ?_ l.length 0 b _ (by omega) (by omega) hb)
 ·intro self i acc x hx ha
  have hi:=(List.getElem?_eq_some_iff.1 hx).1
  have h2:=of_decide_eq_true (hf x (List.mem_of_getElem? hx))
  show qdo_ _ _ l (Int.ofNat l.length) (i:Int) acc=_
  unfold qdo_
  rw [if_pos (by rw [q7_,q1_]; omega),ql_ hx,Option.bind_some,q8_ (q17_.2 (by omega)),q8_ (qv_.2 (by rw [q1_]; omega)),q8_ (qv_.2 (Int.le_refl _)),q8_ (qv_.2 (by rw [q1_]; omega)),q1a_ (by omega)]
  have e:x.2.take (Int.toNat (Int.ofNat acc.length - x.1))=x.2:=List.take_of_length_le (by rw [q1_]; omega)
  rw [e]
  rfl
 ·intro i acc x hx ha
  exact copyB_len ha (hf x (List.mem_of_getElem? hx))
 ·intro self acc ha
  show qdo_ _ _ l (Int.ofNat l.length) (l.length:Int) acc=_
  unfold qdo_
  rw [if_neg (by rw [q7_,q1_]; omega)]
  rfl
structure OkG (a:TAg):Prop where
 bl:a.1.length=64
 bw:∀ x ∈ a.1,0≤x∧x≤65535
 lr:RightL a.2.1
 l1:0≤a.2.1.1∧a.2.1.1≤65535
 l2:a.2.1.2≤9223372036854775807
 pr:0≤a.2.2.1∧a.2.2.1≤2
 tr:0≤a.2.2.2.1∧a.2.2.2.1≤4294967295
 ar:0≤a.2.2.2.2.1∧a.2.2.2.2.1≤4294967295
 kr:1≤a.2.2.2.2.2.2∧a.2.2.2.2.2.2≤9223372036854775807
 hl:a.2.2.2.2.2.1.2.1.length=8
 sl:a.2.2.2.2.2.1.2.2.length=8
 bb:∀ b ∈ a.2.2.2.2.2.1.2.2,b.2.length≤1000
 wb:∀ b ∈ a.2.2.2.2.2.1.2.2,∀ w ∈ b.2,0≤w∧w≤65535
 fb:∀ b ∈ blkS a.2.2.2.2.2.1.2.1 a.2.2.2.2.2.1.2.2,fitsB b=true
 p0:a.2.2.1=0->a.2.1.1=0∧a.2.2.2.1=0∧a.2.2.2.2.2.1.1=0∧a.2.2.2.2.2.1.2.1.count true=0
 pn:a.2.2.1 ≠ 0->a.2.1.1 ≠ 0∧a.2.2.2.2.1 < a.2.2.2.1∧a.2.2.2.2.2.1.1=a.2.2.2.1
 p1:a.2.2.1=1->1≤a.2.1.2
 p2:a.2.2.1=2->a.2.1.2=-1∧firstN a.2.2.2.2.2.1.2.1 ((a.2.2.2.2.2.1.2.1.count true:Nat):Int)=true
theorem OkG.sz {a:TAg} (h:OkG a):SzA a:=⟨by have:=h.bl; omega,h.hl,h.sl,h.bb⟩
theorem blkS_nz:∀ (hv:List Bool) (bs:List TBlk),blkS hv (nzB hv bs)=blkS hv bs
 | [],_=>by simp [blkS]
 | _::_,[]=>by simp [blkS,nzB]
 | h::r,b::q=>by
  have ih:=blkS_nz r q
  unfold blkS nzB at ih ⊢
  rw [List.zipWith_cons_cons,List.zip_cons_cons,List.zip_cons_cons]
  cases h
  ·simpa using ih
  ·simp only [if_true]
   rw [List.filter_cons,List.filter_cons]
   simp only [if_true,List.map_cons]
   rw [ih]
theorem nzB_mem {hv:List Bool} {bs:List TBlk} {P:TBlk->Prop} (hz:P zB) (hp:∀ b ∈ bs,P b):∀ b ∈ nzB hv bs,P b:=by
 intro b hb
 unfold nzB at hb
 obtain ⟨i,hi⟩:=List.getElem?_of_mem hb
 rw [List.getElem?_zipWith] at hi
 revert hi
 cases h1:hv[i]? <;> cases h2:bs[i]? <;> simp
 rename_i x y
 intro e
 subst e
 split
 ·exact hp y (List.mem_of_getElem? h2)
 ·exact hz
theorem OkG.own {a:TAg} (h:OkG a):OkG (ownA a):=by
 obtain ⟨bk,ls,ph,tx,la,⟨st,hv,bs⟩,tk⟩:=a
 exact { h with
  sl:=nzB_len h.hl h.sl
  bb:=nzB_mem (P:=fun b=>b.2.length≤1000) (by show (0:Nat)≤1000; omega) h.bb
  wb:=nzB_mem (P:=fun b=>∀ w ∈ b.2,0≤w∧w≤65535) (by intro w hw; cases hw) h.wb
  fb:=by have:=h.fb; show ∀ b ∈ blkS hv (nzB hv bs),_; rw [blkS_nz]; exact this }
def freeA (a:TAg):TAg:=(a.1,(0,0),0,0,a.2.2.2.2.1,zSt,a.2.2.2.2.2.2)
def wholeA (a:TAg) (n c:Int):Bool:=decide (0≤n∧n≤8) && (firstN a.2.2.2.2.2.1.2.1 n && decide (sumB (blkS a.2.2.2.2.2.1.2.1 a.2.2.2.2.2.1.2.2)=c))
def doS (a:TAg) (c:TCm):TAg×Int :=
 if c.1=0∨c.2.2.1=0∨¬ (1≤c.2.1∧c.2.1≤4) then (a,2)
 else if a.2.1.1 ≠ 0∧a.2.1.1 ≠ c.1 then (a,22)
 else if c.2.1=1 then
  if c.2.2.1≤a.2.2.2.2.1∨a.2.2.1 ≠ 0∧c.2.2.1 < a.2.2.2.1 then (a,23)
  else if c.2.2.1=a.2.2.2.1 then ((a.1,takeL a.2.1 c.1 a.2.2.2.2.2.2,a.2.2),0)
  else ((a.1,(c.1,a.2.2.2.2.2.2),1,c.2.2.1,a.2.2.2.2.1,(c.2.2.1,zSt.2),a.2.2.2.2.2.2),0)
 else if c.2.1=2 then
  if a.2.2.1=2∧a.2.2.2.1=c.2.2.1∨a.2.2.1=1∧a.2.2.2.1=c.2.2.1∧wholeA a c.2.2.2.1 c.2.2.2.2=true then ((a.1,(c.1,-1),2,a.2.2.2),0)
  else (a,23)
 else if c.2.1=3 then
  if a.2.2.2.2.1=c.2.2.1 then (a,0)
  else if a.2.2.1=2∧a.2.2.2.1=c.2.2.1 then (freeA (overB a.1 (blkS a.2.2.2.2.2.1.2.1 a.2.2.2.2.2.1.2.2),a.2.1,a.2.2.1,a.2.2.2.1,c.2.2.1,a.2.2.2.2.2),0)
  else (a,23)
 else
  if c.2.2.1≤a.2.2.2.2.1 then (a,23) else if a.2.1.1=c.1∧a.2.2.2.1=c.2.2.1 then (freeA a,0) else (a,0)
theorem afreed_eq (a:TAg):q9k_ (a,())=some (freeA a,()):=rfl
theorem ain_eq (a:TAg) (p t:Int):qf6_ (a,p,t,())=some (decide (a.2.2.1=p∧a.2.2.2.1=t),()):=by
 show qtz_ a p t=_
 unfold qtz_
 by_cases h:a.2.2.1=p
 ·rw [if_pos (q4_.2 h)]
  refine congrArg (fun b=>some (b,())) ?_
  rw [Bool.eq_iff_iff,q4_,decide_eq_true_eq]
  exact ⟨fun e=>⟨h,e⟩,fun e=>e.2⟩
 ·rw [if_neg (fun e=>h (q4_.1 e)),decide_eq_false (fun e=>h e.1)]
theorem aothers_eq {a:TAg} (h:RightL a.2.1) (o:Int):q46_ (a,o,())=some (decide (a.2.1.1 ≠ 0∧a.2.1.1 ≠ o),()):=by
 show qnu_ a o=_
 unfold qnu_
 rw [lfree_eq h,Option.bind_some]
 by_cases h0:a.2.1.1=0
 ·rw [decide_eq_true h0,if_neg (by decide),decide_eq_false (fun e=>e.1 h0)]
 ·rw [decide_eq_false h0,if_pos (by rfl)]
  refine congrArg (fun b=>some (b,())) ?_
  rw [Bool.eq_iff_iff,qf_,decide_eq_true_eq]
  exact ⟨fun e=>⟨h0,e⟩,fun e=>e.2⟩
theorem ataken_eq {a:TAg} {o:Int} (h:RightL a.2.1) (ho:o ≠ 0) (ht:1≤a.2.2.2.2.2.2) (hf:a.2.1.1=0∨a.2.1.1=o):qc8_ (a,o,())=some ((a.1,takeL a.2.1 o a.2.2.2.2.2.2,a.2.2),()):=by
 show qok_ a o=_
 unfold qok_
 rw [ltake_eq h ho ht hf]
 rfl
set_option maxHeartbeats 1000000 in
theorem ado_eq {a:TAg} (h:OkG a) {c:TCm} (hc:0≤c.2.2.2.1∧c.2.2.2.1≤65535):qf9_ (a,c,())=some ((doS (ownA a) c).1,(doS (ownA a) c).2,()):=by
 show qtw_ a c=_
 unfold qtw_
 have h':=h.own
 rw [aown_eq h.sz,Option.bind_some,amb2 (eqAs_refl _)]
 dsimp only
 generalize ownA a=g at h'
 obtain ⟨co,cv,ct,cc,ck⟩:=c
 dsimp only at hc ⊢
 have lr:=h'.lr
 have kr:=h'.kr
 rw [aothers_eq lr,Option.bind_some]
 unfold doS
 dsimp only
 by_cases hq:co=0∨ct=0∨¬ (1≤cv∧cv≤4)
 ·rw [if_pos hq]
  simp only [q4_]
  by_cases h1:co=0
  ·simp [h1]
  ·by_cases h2:ct=0
   ·simp [h1,h2]
   ·have hv:¬ (1≤cv∧cv≤4):=by omega
    rw [if_neg (by omega),if_neg (by omega),if_neg (by omega),if_neg (by omega),if_neg h1,if_neg h2]
 ·rw [if_neg hq]
  have h1:co ≠ 0:=by omega
  have h2:ct ≠ 0:=by omega
  have hv:1≤cv∧cv≤4:=by omega
  simp only [q4_,if_neg h1,if_neg h2]
  by_cases ho:g.2.1.1 ≠ 0∧g.2.1.1 ≠ co
  ·rw [if_pos ho,decide_eq_true ho]
   simp only [if_true]
   split <;> first | rfl | skip
   split <;> first | rfl | skip
   split <;> first | rfl | skip
   split <;> first | rfl | skip
   omega
  ·rw [if_neg ho,decide_eq_false ho]
   simp only [Bool.false_eq_true,if_false]
   have hf:g.2.1.1=0∨g.2.1.1=co:=by omega
   by_cases v1:cv=1
   ·subst v1
    rw [if_pos rfl,if_pos rfl]
    have hn:ql0_ (g,(co,1,ct,cc,ck),())=some (decide (ct≤g.2.2.2.2.1∨g.2.2.1 ≠ 0∧ct < g.2.2.2.1),()):=by
     show qla_ g (co,1,ct,cc,ck)=_
     unfold qla_
     dsimp only
     by_cases q1:ct≤g.2.2.2.2.1
     ·rw [if_pos (qv_.2 q1),decide_eq_true (Or.inl q1)]
     ·rw [if_neg (fun e=>q1 (qv_.1 e))]
      by_cases q2:g.2.2.1=0
      ·rw [if_neg (fun e=>qf_.1 e q2),decide_eq_false (by omega)]
      ·rw [if_pos (qf_.2 q2),lt_dec]
       refine congrArg (fun b=>some (b,())) ?_
       rw [Bool.eq_iff_iff,decide_eq_true_eq,decide_eq_true_eq]
       omega
    rw [hn,Option.bind_some]
    by_cases q:ct≤g.2.2.2.2.1∨g.2.2.1 ≠ 0∧ct < g.2.2.2.1
    ·rw [if_pos q,decide_eq_true q]
     rfl
    ·rw [if_neg q,decide_eq_false q,if_neg (by decide)]
     have hcl:qpc_ (g,(co,1,ct,cc,ck),())=some (if ct=g.2.2.2.1 then (g.1,takeL g.2.1 co g.2.2.2.2.2.2,g.2.2) else (g.1,(co,g.2.2.2.2.2.2),1,ct,g.2.2.2.2.1,(ct,zSt.2),g.2.2.2.2.2.2),()):=by
      show qoj_ g (co,1,ct,cc,ck)=_
      unfold qoj_
      dsimp only
      by_cases e:ct=g.2.2.2.1
      ·rw [if_pos (q4_.2 e),if_pos e,ataken_eq lr h1 kr.1 hf]
       rfl
      ·rw [if_neg (fun x=>e (q4_.1 x)),if_neg e,afreed_eq,Option.bind_some]
       have:=ataken_eq (a:=freeA g) (o:=co) (Or.inl ⟨rfl,rfl⟩) h1 kr.1 (Or.inl rfl)
       dsimp only
       rw [this]
       have et:takeL (0,0) co (freeA g).2.2.2.2.2.2=(co,g.2.2.2.2.2.2):=by
        unfold takeL
        rw [if_neg (fun x=>h1 (by cases x))]
        rfl
       show some ((g.1,takeL (0,0) co (freeA g).2.2.2.2.2.2,1,ct,g.2.2.2.2.1,(ct,zSt.2),g.2.2.2.2.2.2),())=_
       rw [et]
     rw [hcl,Option.bind_some]
     split <;> rfl
   ·rw [if_neg (Ne.symm v1),if_neg v1]
    by_cases v2:cv=2
    ·subst v2
     rw [if_pos rfl,if_pos rfl]
     have hn:qgk_ (g,(co,2,ct,cc,ck),())=some (decide (¬ (g.2.2.1=2∧g.2.2.2.1=ct∨g.2.2.1=1∧g.2.2.2.1=ct∧wholeA g cc ck=true)),()):=by
      show qhi_ g (co,2,ct,cc,ck)=_
      unfold qhi_
      dsimp only
      rw [ain_eq,Option.bind_some]
      by_cases q1:g.2.2.1=2∧g.2.2.2.1=ct
      ·rw [decide_eq_true q1,if_pos rfl,decide_eq_false (fun e=>e (Or.inl q1))]
      ·rw [decide_eq_false q1,if_neg (by decide),ain_eq,Option.bind_some]
       by_cases q2:g.2.2.1=1∧g.2.2.2.1=ct
       ·rw [decide_eq_true q2,if_neg (by decide),cvt64 (by omega) (by omega),swhole_eq h'.hl h'.sl h'.bb,Option.bind_some]
        refine congrArg (fun b=>some (b,())) ?_
        show (!wholeA g cc ck)=_
        cases hw:wholeA g cc ck with
        | true=>rw [decide_eq_false (fun e=>e (Or.inr ⟨q2.1,q2.2,rfl⟩))]; rfl
        | false=>rw [decide_eq_true (by rintro (e | e); exact q1 e; exact Bool.false_ne_true e.2.2)]; rfl
       ·rw [decide_eq_false q2,if_pos (by rfl),decide_eq_true (by rintro (e | e); exact q1 e; exact q2 ⟨e.1,e.2.1⟩)]
     rw [hn,Option.bind_some]
     by_cases q:g.2.2.1=2∧g.2.2.2.1=ct∨g.2.2.1=1∧g.2.2.2.1=ct∧wholeA g cc ck=true
     ·rw [if_pos q,decide_eq_false (fun e=>e q),if_neg (by decide)]
      have hph:g.2.2.1 ≠ 0:=by rcases q with q | q <;> omega
      have hown:g.2.1.1=co:=by have:=(h'.pn hph).1; omega
      have hp:qkv_ (g,(co,2,ct,cc,ck),())=some ((g.1,(co,-1),2,g.2.2.2),()):=by
       show ql8_ g (co,2,ct,cc,ck)=_
       unfold ql8_
       dsimp only
       rw [lhold_eq lr h1 hown]
       rfl
      rw [hp]
      rfl
     ·rw [if_neg q,decide_eq_true q]
      rfl
    ·rw [if_neg (Ne.symm v2),if_neg v2]
     by_cases v3:cv=3
     ·subst v3
      rw [if_pos rfl,if_pos rfl]
      have hn:qi9_ (g,(co,3,ct,cc,ck),())=some (decide (g.2.2.2.2.1 ≠ ct∧¬ (g.2.2.1=2∧g.2.2.2.1=ct)),()):=by
       show qj2_ g (co,3,ct,cc,ck)=_
       unfold qj2_
       dsimp only
       by_cases q1:g.2.2.2.2.1=ct
       ·rw [if_neg (fun e=>qf_.1 e q1),decide_eq_false (fun e=>e.1 q1)]
       ·rw [if_pos (qf_.2 q1),ain_eq,Option.bind_some]
        refine congrArg (fun b=>some (b,())) ?_
        by_cases q2:g.2.2.1=2∧g.2.2.2.1=ct
        ·rw [decide_eq_true q2,decide_eq_false (fun e=>e.2 q2)]; rfl
        ·rw [decide_eq_false q2,decide_eq_true ⟨q1,q2⟩]; rfl
      rw [hn,Option.bind_some]
      have hcm:g.2.2.2.2.1=ct∨(g.2.2.1=2∧g.2.2.2.1=ct)->qnv_ (g,(co,3,ct,cc,ck),())=some (if g.2.2.2.2.1=ct then g else freeA (overB g.1 (blkS g.2.2.2.2.2.1.2.1 g.2.2.2.2.2.1.2.2),g.2.1,g.2.2.1,g.2.2.2.1,ct,g.2.2.2.2.2),()):=fun _=>by
       show qn4_ g (co,3,ct,cc,ck)=_
       unfold qn4_
       dsimp only
       by_cases q1:g.2.2.2.2.1=ct
       ·rw [if_pos (q4_.2 q1),if_pos q1]
       ·rw [if_neg (fun e=>q1 (q4_.1 e)),if_neg q1,sblocks_eq h'.hl h'.sl h'.bb,Option.bind_some]
        dsimp only
        rw [bover_eq h'.bl (by have:=blkS_le (hv:=g.2.2.2.2.2.1.2.1) (bs:=g.2.2.2.2.2.1.2.2); have:=h'.hl; omega) h'.fb,Option.bind_some]
        dsimp only
        rw [if_neg (by decide),afreed_eq]
        rfl
      by_cases q1:g.2.2.2.2.1=ct
      ·rw [decide_eq_false (fun e=>e.1 q1),if_neg (by decide),hcm (Or.inl q1),if_pos q1,if_pos q1]
       rfl
      ·by_cases q2:g.2.2.1=2∧g.2.2.2.1=ct
       ·rw [decide_eq_false (fun e=>e.2 q2),if_neg (by decide),hcm (Or.inr q2),if_neg q1,if_neg q1,if_pos q2]
        rfl
       ·rw [decide_eq_true ⟨q1,q2⟩,if_neg q1,if_neg q2]
        rfl
     ·have v4:cv=4:=by omega
      subst v4
      rw [if_neg (by decide),if_pos rfl,if_neg v3]
      have hn:qjz_ (g,(co,4,ct,cc,ck),())=some (decide (ct≤g.2.2.2.2.1),()):=rfl
      rw [hn,Option.bind_some]
      by_cases q1:ct≤g.2.2.2.2.1
      ·rw [decide_eq_true q1,if_pos q1]
       rfl
      ·rw [decide_eq_false q1,if_neg (by decide),if_neg q1]
       have ha:qj4_ (g,(co,4,ct,cc,ck),())=some (if g.2.1.1=co∧g.2.2.2.1=ct then freeA g else g,()):=by
        show qif_ qdx_ g (co,4,ct,cc,ck)=_
        unfold qif_
        dsimp only
        have K:∀ b z,qdx_ g 0 b [z]=some (if b=true then g else freeA g,()):=fun b z=>by
         show qhq_ g 0 b [z]=_
         unfold qhq_
         cases b <;> rfl
        by_cases e1:g.2.1.1=co
        ·rw [if_neg (fun e=>qf_.1 e e1),K]
         by_cases e2:g.2.2.2.1=ct
         ·rw [if_neg (fun e=>qf_.1 e e2),if_pos ⟨e1,e2⟩]
         ·rw [if_pos (qf_.2 e2),if_neg (fun e=>e2 e.2)]
        ·rw [if_pos (qf_.2 e1),K,if_pos rfl,if_neg (fun e=>e1 e.1)]
       rw [ha,Option.bind_some]
       by_cases e:g.2.1.1=co∧g.2.2.2.1=ct
       ·rw [if_pos e,if_pos e]
        rfl
       ·rw [if_neg e,if_neg e]
        rfl
end Go.Proofs.Lx
end
