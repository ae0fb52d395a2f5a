/- Proved in the last of these 15 parts (this is part 12): PlanText. Conditions: those of the given statement, and no others. -/
import Derived.Test.YtnamnibaedolaaaGreatDoorPartk
import Derived.Test.YtnamnibaedolaaaGreatDoorParti
import Derived.Test.YtnamnibaedolaaaGreatDoorPartg
set_option linter.unusedVariables false
set_option linter.unusedSimpArgs false
set_option linter.unusedSectionVars false
open Option renaming bind_some → zB
open List renaming replicate → zC, length → zE, mem_cons_of_mem → zO, getElem?_eq_getElem → zQ, getD_eq_getElem?_getD → zS, mem_of_getElem? → zT
open Int renaming ofNat → zD, toNat_natCast → zM
open Bool renaming and_eq_true → zL
noncomputable section
set_option maxRecDepth 100000
namespace Go.Proofs.Lx
open Go Go.Proofs Ev Sx Pl
abbrev Mw:=List (Int×Int)
def yG(b:Vw)(a:Vl iF):List (Vl ptT)->Mw->Option Mw
 | [],m=>some m
 | p::q,m=>if eqs p.1 a.1=true then (b (p,a,())).bind fun c=>yG b a q (dh kT m p.2.1 c.1) else yG b a q m
def xN(b:Vw)(a:List (Vl ptT)):List (Vl iF)->Mw->Option Mw
 | [],m=>some m
 | s::r,m=>(yG b s a m).bind fun c=>xN b a r c
def wS7(g:List Value)(f:Vl bX)(e:List (Vl cr))(d b a:Int)(c:Mw):St:={ fr:=lFr f e d b,nt:=92,up:=[],own:=Bd g a c,nx:=3,log:=[],ln:=2 }
section
variable (vc:Vc)(vf:Vf)(vw:Vw)(us:List Value)(t:Vl bX)(ps:List (Vl cr))(n k i:Int)
theorem akR(J:Orc RW)(y:Vl cr)(m:Mw):evJ Tryz.prog (fJ vc vf vw) (clW vc vf vw) NW hsW J [] 1 yF (wS6 us t ps n k y i m) kW=J 6 [] (wL1 us t ps n k i y.2.2 (zD y.2.2.length) 0 m):=by kernel_rfl
theorem akS(J:Orc RW)(u1:St->Option RW)(ss:List (Vl iF))(ns j:Int)(m:Mw):pW vc vf vw J 6 [u1] (wL1 us t ps n k i ss ns j m) =
  if lt j ns=true then (at? ss j).bind fun s=>(at? t i).bind fun d=>J 1638 [u1] (wL2 us t ps n k i ss ns j s d.2 (zD (zE d.2)) 0 m) else some (.n,wS7 us t ps n k i m):=by kernel_rfl
theorem akT(J:Orc RW)(u1 u2:St->Option RW)(ss:List (Vl iF))(ns j:Int)(s:Vl iF)(qs:List (Vl ptT))(nq h:Int)(m:Mw):pW vc vf vw J 1638 [u1,u2] (wL2 us t ps n k i ss ns j s qs nq h m) =
  if lt h nq=true then (at? qs h).bind fun p=>if eqs p.1 s.1=true then need (eqi i i) (if i=i∧Option.map nY (Tryz.prog.underlying 74)=some false then
    (vw (p,s,())).bind fun y=>u2 (wL2 us t ps n k i ss ns j s qs nq (add .i64 h 1) (dh kT m p.2.1 y.1)) else none)
   else u2 (wL2 us t ps n k i ss ns j s qs nq (add .i64 h 1) m)
  else u1 (wL1 us t ps n k i ss ns (add .i64 j 1) m):=by kernel_rfl
noncomputable def JW:Orc RW:=fun q uu=>fnd Tryz.prog (fJ vc vf vw) (clW vc vf vw) NW hsW q yF 1 kW uu
theorem aao{q:Nat}(hq:0<q)(uu:Us RW)(S:St):JW vc vf vw q uu S=pW vc vf vw (JW vc vf vw) q uu S:=by have:=ZI (P:=Tryz.prog) (env:=fJ vc vf vw) (cl:=clW vc vf vw) (fuel:=NW) (hs:=hsW) (J:=JW vc vf vw) (q:=q) (c:=yF) (p:=1) (u0:=[]) (k:=kW) (us:=uu) (by decide) (In.one hq) (fun q uu' _=>rfl);exact (congrFun this S).symm
theorem akU{qs:List (Vl ptT)}(hq:qs.length<9223372036854775807)(u1:St->Option RW)(ss:List (Vl iF))(ns j:Int)(s:Vl iF)(m:Mw) :
  JW vc vf vw 1638 [u1] (wL2 us t ps n k i ss ns j s qs (zD qs.length) 0 m)=(yG vw s qs m).bind fun m'=>u1 (wL1 us t ps n k i ss ns (add .i64 j 1) m'):=by
 rw[aao vc vf vw (by decide)];have hl:pN 1638 yF 1 ([u1]:Us RW).length=true:=by kernel_rfl
 refine (E5 hl).trans ?_
 refine (ru (σ:=Int×Mw) (mk:=fun s2=>wL2 us t ps n k i ss ns j s qs (zD qs.length) s2.1 s2.2)
  (G:=fun self s2=>if lt s2.1 (zD qs.length)=true then (at? qs s2.1).bind fun p=>if eqs p.1 s.1=true then (vw (p,s,())).bind fun y=>self (add .i64 s2.1 1,dh kT s2.2 p.2.1 y.1) else self (add .i64 s2.1 1,s2.2) else u1 (wL1 us t ps n k i ss ns (add .i64 j 1) s2.2))
  (fun g s2=>?_) NW (0,m)).trans ?_
 ·refine (akT vc vf vw us t ps n k i _ u1 g ss ns j s qs _ s2.1 s2.2).trans ?_
  have hn:∀K:Option RW,need (eqi i i) K=K:=fun K=>gW (fQ.2 rfl);have hx:Option.map nY (Tryz.prog.underlying 74)=some false:=by kernel_rfl
  simp only[hn,hx,and_self,if_true]
 ·have key:∀(c:Nat) (m:Mw) (N:Nat),c≤qs.length->qs.length - c<N->aj (σ:=Int×Mw) (R:=RW) (fun self s2=>if lt s2.1 (zD qs.length)=true then (at? qs s2.1).bind fun p=>if eqs p.1 s.1=true then (vw (p,s,())).bind fun y=>self (add .i64 s2.1 1,dh kT s2.2 p.2.1 y.1) else self (add .i64 s2.1 1,s2.2) else u1 (wL1 us t ps n k i ss ns (add .i64 j 1) s2.2)) N ((c:Int),m)=(yG vw s (qs.drop c) m).bind fun m'=>u1 (wL1 us t ps n k i ss ns (add .i64 j 1) m'):=by
   intro c m N hc hN
   induction N generalizing c m with
   | zero=>omega
   | succ N ih =>
    rw[gB];simp only;by_cases hlt:c<qs.length
    ·rw[if_pos (by rw[bg];show (c:Int)<(qs.length:Int);omega),List.drop_eq_getElem_cons hlt]
     have ha:at? qs (c:Int)=some qs[c]:=by unfold at?;rw[if_pos (by omega),zM];exact zQ hlt
     have hadd:add .i64 (c:Int) 1=((c+1:Nat):Int):=by rw[lX (by omega) (by omega)];omega
     rw[ha,zB,yG];by_cases he:eqs (qs[c]).1 s.1=true
     ·rw[if_pos he,if_pos he,Option.bind_assoc]
      congr 1
      funext y;rw[hadd];exact ih (c+1) _ (by omega) (by omega)
     ·rw[if_neg he,if_neg he,hadd]
      exact ih (c+1) _ (by omega) (by omega)
    ·obtain rfl:c=qs.length:=by omega
     rw[if_neg (by rw[bg];show ¬ (qs.length:Int)<(qs.length:Int);omega),List.drop_length];rfl
  exact key 0 m NW (by omega) (by show _<18446744073709551616;omega)
theorem ah0{ss:List (Vl iF)}{d:Vl wB}(hd:at? t i=some d)(hq:d.2.length<9223372036854775807)(hs:ss.length<9223372036854775807)(m:Mw) :
  JW vc vf vw 6 [] (wL1 us t ps n k i ss (zD ss.length) 0 m)=(xN vw d.2 ss m).bind fun m'=>some (.n,wS7 us t ps n k i m'):=by
 rw[aao vc vf vw (by decide)];have hl:pN 6 yF 1 ([]:Us RW).length=true:=by kernel_rfl
 refine (E5 hl).trans ?_
 refine (ru (σ:=Int×Mw) (mk:=fun s2=>wL1 us t ps n k i ss (zD ss.length) s2.1 s2.2)
  (G:=fun self s2=>if lt s2.1 (zD ss.length)=true then (at? ss s2.1).bind fun s=>(yG vw s d.2 s2.2).bind fun m'=>self (add .i64 s2.1 1,m') else some (.n,wS7 us t ps n k i s2.2))
  (fun g s2=>?_) NW (0,m)).trans ?_
 ·refine (akS vc vf vw us t ps n k i _ g ss _ s2.1 s2.2).trans ?_
  congr 1
  congr 1
  funext s;rw[hd,zB];exact akU vc vf vw us t ps n k i hq g ss _ _ s _
 ·have key:∀(c:Nat) (m:Mw) (N:Nat),c≤ss.length->ss.length - c<N->aj (σ:=Int×Mw) (R:=RW) (fun self s2=>if lt s2.1 (zD ss.length)=true then (at? ss s2.1).bind fun s=>(yG vw s d.2 s2.2).bind fun m'=>self (add .i64 s2.1 1,m') else some (.n,wS7 us t ps n k i s2.2)) N ((c:Int),m)=(xN vw d.2 (ss.drop c) m).bind fun m'=>some (.n,wS7 us t ps n k i m'):=by
   intro c m N hc hN
   induction N generalizing c m with
   | zero=>omega
   | succ N ih =>
    rw[gB];simp only;by_cases hlt:c<ss.length
    ·rw[if_pos (by rw[bg];show (c:Int)<(ss.length:Int);omega),List.drop_eq_getElem_cons hlt]
     have ha:at? ss (c:Int)=some ss[c]:=by unfold at?;rw[if_pos (by omega),zM];exact zQ hlt
     have hadd:add .i64 (c:Int) 1=((c+1:Nat):Int):=by rw[lX (by omega) (by omega)];omega
     rw[ha,zB,xN,Option.bind_assoc]
     congr 1
     funext y;rw[hadd];exact ih (c+1) _ (by omega) (by omega)
    ·obtain rfl:c=ss.length:=by omega
     rw[if_neg (by rw[bg];show ¬ (ss.length:Int)<(ss.length:Int);omega),List.drop_length];rfl
  exact key 0 m NW (by omega) (by show _<18446744073709551616;omega)
theorem ama{y:Vl cr}{d:Vl wB}(hd:at? t i=some d)(hq:d.2.length<9223372036854775807)(hs:y.2.2.length<9223372036854775807)(m:Mw) :
  ev Tryz.prog (fJ vc vf vw) (clW vc vf vw) NW hsW 1 yF (wS6 us t ps n k y i m) kW=(xN vw d.2 y.2.2 m).bind fun m'=>some (.n,wS7 us t ps n k i m'):=by
 have h0:=GU (P:=Tryz.prog) (env:=fJ vc vf vw) (cl:=clW vc vf vw) (fuel:=NW) (hs:=hsW) (J:=JW vc vf vw) (c:=yF) (p:=1) (us:=[]) (S:=wS6 us t ps n k y i m) (k:=kW) (by decide) (fun q uu' _=>rfl);rw[<- h0,akR,ah0 vc vf vw us t ps n k i hd hq hs]
end
end Go.Proofs.Lx
end
noncomputable section
set_option maxRecDepth 100000
namespace Go.Proofs.Lx
open Go Go.Proofs Go.RowKit Ev Sx Pl
noncomputable def evF (N:Nat) (env:Env) (hs:Nat->Option Hint) (h:Hint) (c:Code) (S:St):Option (Ex×St):=ev Tryz.prog env (evC (R:=Ex×St) Tryz.prog env N (fun _ _=>false) 2) N hs 1 c S (fun e S'=>(nrm Tryz.prog h S').bind fun S1=>some (e,S1))
section
variable {B0:Nat->Prop}{p0:List Ev.Place}{F F':Lx}{pl:List Ev.Place}{own:List (Nat×Ent)}{w w':World}
theorem lM{N:Nat}{env:Env}{hs:Nat->Option Hint}{hint:Hint}(henv:iK Tryz.prog (fun _=>True) env){c:Code}{S S1:St}{e0:Ex}{l:List Value}
  (hb:∀k,Bo pl S.own w k->B0 k) (h:Sto B0 p0 F pl S.own w) (hup:S.up=[]) (hnx:S.nx=pl.length) (hln:S.ln=p0.length) (hnt:l.length=S.nt) (hfr:FrD pl (lx pl S.own++F) w S.fr l)
  (hev:evF N env hs hint c S=some (e0,S1)) :
  CW Tryz.prog c (fun e a w'=>∃pl' l',e=E4 e0∧a=mk l'∧l'.length=S1.nt∧pl'.length=S1.nx∧Sto B0 p0 F pl' S1.own w'∧FrD pl' (lx pl' S1.own++F) w' S1.fr l'∧Blw (Bo pl S.own w) w w') l w:=by
 refine lW (R:=Ex×St) henv (GQ henv (fun _ _ h=>by cases h) 2) (Hn:=False) (fun h=>h.elim) c 1 _ pl S l w _ _ ?_ (h.rel hup hnx hln hnt hfr) hev (fun e wr' pl' S' l' w' h' _ hv=>?_)
 ·rintro c a a' w ⟨pl',l',he,_⟩
  exact absurd he.symm (Hw c)
 ·obtain⟨S2,h1,h2⟩:=bK hv
  cases h2
  obtain⟨wr2,pl2,h3⟩:=vH h' h1;obtain⟨a,b⟩:=uE hb h3;exact⟨pl2,l',rfl,rfl,h3.nt,h3.nx.symm,a,h3.fr,b⟩
end
abbrev mv(b:Nat):Value:=.map (some b)
abbrev nmp:Value:=.map none
def FM(a:Lx)(b:Nat)(c:List Nat):Lx:=a++(b::c).map some
theorem fH{F:Lx}{g:Nat}{gs:List Nat}{k:Nat}:some k∈FM F g gs↔some k∈F∨k∈g::gs:=by
 unfold FM;rw[List.mem_append];constructor
 ·rintro (h | h)
  ·exact .inl h
  ·obtain⟨a,h1,h2⟩:=List.mem_map.1 h
   cases h2
   exact .inr h1
 ·rintro (h | h)
  ·exact .inl h
  ·exact .inr (List.mem_map_of_mem (f:=some) h)
structure RowI(B0:Nat->Prop) (F:Lx) (w:World) (g n:Nat) (gs:List Nat) (xs:List Mw):Prop where
 bx:Bx w g (gs.map mv++zC (n - gs.length) nmp) 74
 le:gs.length≤n
 len:gs.length=xs.length
 maps:∀(k b:Nat) (x:Mw),gs[k]? = some b->xs[k]? = some x->MapIs (bM kT) (fun v:Int=>Value.int .u16 v) w b x
 nd:(g::gs).Nodup
 own:∀k∈g::gs,B0 k
 far:∀k∈g::gs,some k ∉ F
theorem RowI.lt{B0:Nat->Prop}{F:Lx}{w:World}{g n:Nat}{gs:List Nat}{xs:List Mw}(h:RowI B0 F w g n gs xs):∀k∈g::gs,k<w.heap.size:=fun k hk=>by
 rcases List.mem_cons.1 hk with rfl | hk
 ·exact h.bx.lt
 ·obtain⟨i,hi,he⟩:=List.getElem_of_mem hk
  have h1:gs[i]? = some k:=by rw[zQ hi,he]
  have h2:xs[i]? = some (xs[i]'(by rw[<- h.len];exact hi)):=zQ _;exact (h.maps i k _ h1 h2).lt
theorem MapIs.keep{K V:Type}{kv:K->Value}{vv:V->Value}{w w':World}{g:Nat}{x:List (K×V)}(h:MapIs kv vv w g x)(hk:w'.heap[g]? = w.heap[g]?):MapIs kv vv w' g x:=by obtain⟨es,cl,a,b⟩:=h;exact⟨es,cl,hk.trans a,b⟩
theorem RowI.keep{B0:Nat->Prop}{F:Lx}{w w':World}{g n:Nat}{gs:List Nat}{xs:List Mw}(h:RowI B0 F w g n gs xs)(hk:∀k∈g::gs,w'.heap[k]? = w.heap[k]?):RowI B0 F w' g n gs xs :=
 ⟨by unfold Bx;rw[hk g (by simp)];exact h.bx,h.le,h.len,fun k b x h1 h2=>MapIs.keep (h.maps k b x h1 h2) (hk b (zO _ (zT h1))),h.nd,h.own,h.far⟩
theorem jO{pl:List Ev.Place}{L:Lx}{w:World}{fr:Fr}{l:List Value}{j:Nat}{v:Value}(h:FrD pl L w fr l)(hj:Ev.get fr j=none):FrD pl L w fr (l.set j v):=fun t s hg=>by
 have hne:j≠t:=fun e=>by subst e;rw[hj]at hg;cases hg
 rw[zS,List.getElem?_set_ne hne,<- zS];exact h t s hg
theorem wC{l:List Value}{j:Nat}{v:Value}(hl:j<l.length):(l.set j v).getD j undef=v:=by rw[zS,List.getElem?_set_self hl];rfl
theorem Be{l:List Value}{j t:Nat}{v:Value}(h:j≠t):(l.set j v).getD t undef=l.getD t undef:=by rw[zS,List.getElem?_set_ne h,<- zS]
theorem ah1:∃id o1 o2 o3 o4,wd4 = .region id #[o1,o2,o3,o4] false∧o1={ o1 with dst:=some 24,op:=.move (.tmp 0),guard:=none }∧o2={ o2 with dst:=some 25,op:=.call { callee:=.builtin .len,args:=#[.tmp 24],argTypes:=#[23] },guard:=none } ∧
  o3={ o3 with dst:=some 26,op:=.makeSlice 81 (.tmp 25) (.tmp 25),guard:=none }∧o4={ o4 with dst:=some 7,op:=.assign (.tmp 26),guard:=none }:=⟨_,_,_,_,_,rfl,rfl,rfl,rfl,rfl⟩
theorem ah2:∃id o1 o2 o3,wd5 = .region id #[o1,o2,o3] false∧o1={ o1 with dst:=some 27,op:=.move (.tmp 7),guard:=none }∧o2={ o2 with dst:=some 28,op:=.call { callee:=.builtin .len,args:=#[.tmp 27],argTypes:=#[81] },guard:=none } ∧
  o3={ o3 with dst:=some 29,op:=.move (.const (.int .i64 0)),guard:=none }:=⟨_,_,_,_,rfl,rfl,rfl,rfl⟩
theorem atj:TyRow Tryz.prog 74 (kP 1) [nmp]:=⟨⟨_,_,rfl,rfl,rfl,by decide,rfl,fun L w=>⟨rfl,rfl,by simp[Value.oneCell']⟩⟩,by decide⟩
theorem X8{l:List Value}{w:World}{d:Option Tmp}{ty:TypeId}{pos:String}{af:Array Edge}{gd:Option (Nat×Bool)}{x:Operand}{n:Nat}(hx:Sx.ev l x = .int .i64 n)(hn:n≤1000) :
  ∃w',(execOp (Sx.ev l) ⟨d,.makeSlice 81 x x,ty,pos,af,gd⟩).run Tryz.prog w = .ok (.value (.slice (some ⟨w.heap.size,0,none⟩) n n)) w'∧Fz [] w w'∧w'.heap.size=w.heap.size+1∧Bx w' w.heap.size (zC n nmp) 74:=by
 obtain⟨i,zv,hi,hz,hsz,hby,hzs,hzr⟩:=atj.info;have hz1:=(hzr [] w).1;have hbb:(i.bytes:Int)*(n:Int)≤281474976710656:=by have h1:i.bytes*n≤131072000:=Nat.mul_le_mul hby hn;have h2:((i.bytes*n:Nat):Int)≤(131072000:Nat):=Int.ofNat_le.2 h1;rw[Int.natCast_mul]at h2;omega
 have hrun:=run_make (P:=Tryz.prog) w 81 74 i zv (by kernel_rfl) hi hz .i64 .i64 n n (by omega) (Int.le_refl _) hbb (by omega);simp only[zM]at hrun;refine⟨w.alloc (.cells (madeCells zv.cells (n*i.size)) 74),?_,Fz.alloc _ _ _,by simp,?_⟩
 ·simp only[execOp,hx,Sem.run_bind,hrun,Go.Result.andThen_ok,Sem.run_pure]
 ·unfold Bx
  have hfl:=mR zv.cells n;rw[hzs]at hfl;rw[hsz];have:(madeCells zv.cells (n*(kP 1).size))=(zC n nmp).toArray:=by apply Array.ext';rw[hfl,hz1];simp
  rw[this];exact Sx.oL w _
theorem LC{B:Nat->Prop}{w w':World}(h:Fz [] w w'):Blw B w w':=gX h (fun k hk=>by cases hk)
section
variable {B0:Nat->Prop}{F:Lx}{pl:List Ev.Place}{own:List (Nat×Ent)}{w:World}{l:List Value}{fr:Fr}
theorem akV{t:Vl bX}{n:Nat}(hn:(show List (Vl wB) from t).length=n)(h2:n≤1000)(hst:Sto B0 [] F pl own w)(hB:∀k,w.heap.size≤k->B0 k)(hl:l.length=92)(hfr:FrD pl (lx pl own++F) w fr l)
  (h0:Ev.get fr 0=some (.d bX t)) (hno:∀j ∈ [24,25,26,7],Ev.get fr j=none) :
  CW Tryz.prog wd4 (fun e a w'=>∃l' g,e = .normal∧a=mk l'∧l'.length=92∧RowI B0 F w' g n [] []∧Sto B0 [] (FM F g []) pl own w'∧Blw B0 w w'∧FrD pl (lx pl own++FM F g []) w' fr l'∧l'.getD 7 undef = .slice (some ⟨g,0,none⟩) n n) l w:=by
 obtain⟨id,o1,o2,o3,o4,e0,e1,e2,e3,e4⟩:=ah1;rw[e0,e1,e2,e3,e4];obtain⟨cs0,⟨a0,c0,rfl,_,_⟩,hv0⟩:=hfr 0 _ h0;have hv0:l.getD 0 undef = .slice a0 (show List (Vl wB) from t).length c0:=hv0;rw[hn]at hv0;refine oK (ops:=[_,_,_,_]) ?_;refine jH (v:=.slice a0 n c0) rfl (run_move hv0) ?_;have i1:Sx.ev (l.set 24 (.slice a0 n c0)) (.tmp 24) = .slice a0 n c0:=wC (by omega);refine jH (v:=.int .i64 n) rfl (Sx.run_len_slice (e:=68) (by kernel_rfl) i1) ?_;have i2:Sx.ev ((l.set 24 (.slice a0 n c0)).set 25 (.int .i64 n)) (.tmp 25) = .int .i64 n:=wC (by simp;omega);obtain⟨w1,r1,r2,r3,r4⟩:=X8 (w:=w) (d:=some 26) (ty:=o3.type) (pos:=o3.pos) (af:=o3.after) (gd:=none) i2 h2;refine jH rfl r1 ?_;refine jH (v:=.slice (some ⟨w.heap.size,0,none⟩) n n) rfl (run_assign (wC (by simp[st];omega))) ?_
 have hF:∀k,some k∈FM F w.heap.size []->(some k∈F∨w.heap.size≤k)∧k<w1.heap.size:=fun k hk=>by
  rcases fH.1 hk with h | h
  ·exact⟨.inl h,by have:=(hst.far k h).2;omega⟩
  ·simp at h
   subst h;exact⟨.inr (Nat.le_refl _),by omega⟩
 have hst1:=hst.grow r2 hF;refine yL ⟨_,w.heap.size,rfl,rfl,by simp[st,hl],⟨by simpa using r4,by simp,rfl,(fun k b x h1 h2=>by cases h1),by simp,fun k hk=>?_,fun k hk=>?_⟩,hst1,LC r2,?_,?_⟩
 ·simp at hk;subst hk;exact hB _ (Nat.le_refl _)
 ·simp at hk;subst hk;exact fun hm=>by have:=(hst.far _ hm).2;omega
 ·have hE:Ext pl (lx pl own++F) w pl (lx pl own++FM F w.heap.size []) w1:=by
   have hs:Sub w (lx pl own++FM F w.heap.size []) (lx pl own++F):=fun k hk=>by
    rcases List.mem_append.1 hk with hk | hk
    ·exact .inl (List.mem_append_left _ hk)
    ·rcases (hF k hk).1 with h1 | h1
     ·exact .inl (List.mem_append_right _ h1)
     ·exact .inr h1
   exact⟨fun _ _ h=>h,by intro α R cs x h;exact R.mono (R.grow h hs) r2.nil,by intro α R b o x h;exact (h.grow hs).mono r2.nil⟩
  show FrD _ _ _ fr ((((l.set 24 _).set 25 _).set 26 _).set 7 _);exact jO (jO (jO (jO (hfr.ext hE) (hno 24 (by simp))) (hno 25 (by simp))) (hno 26 (by simp))) (hno 7 (by simp))
 ·exact wC (by simp[st];omega)
end
end Go.Proofs.Lx
end
noncomputable section
set_option maxRecDepth 100000
namespace Go.Proofs.Lx
open Go Go.Proofs Go.RowKit Ev Sx Pl
noncomputable def akW:Code:=iI C8
noncomputable def akX:Code:=iI (cZ C8)
noncomputable def akY:Code:=iI (Kk (iI (cZ (cZ C8))))
noncomputable def afr:Code:=cZ (Kk (iI (cZ (cZ C8))))
noncomputable def akZ:Code:=cZ (cZ (cZ C8))
theorem ah3:C8 = .seq akW (.seq akX (.seq (.block 1 (.seq akY afr)) akZ)):=rfl
def jP(c:Vl bX)(d:Value)(b a:Int):Fr:=[(28,.d kT b),(29,.d kT a),(7,.k d),(0,.d bX c),(3,.pb 0 0),(5,.pb 1 0)]
def w0S(a:Fr)(b:Vl oG):St:={ fr:=a,nt:=92,up:=[],own:=[(0,.box 26 [.d .str b.1,.d (.sl cr) b.2]),(1,.box 33 [.d kT 0,.d kT 0])],nx:=2,log:=[],ln:=0 }
def h0W(a:List Nat):Hint:=⟨[],a++[28,29,7,0,3,5]⟩
section
variable (vc:Vc)(vf:Vf)(vw:Vw)(t:Vl bX)(r:Vl oG)(v7:Value)(n k:Int)
theorem amc:evF NW (fJ vc vf vw) gG (h0W [30]) akW (w0S (jP t v7 n k) r)=some (.n,w0S ((30,.d .bool (lt k n))::jP t v7 n k) r):=by kernel_rfl
theorem amd(b:Bool):evF NW (fJ vc vf vw) gG (h0W []) akX (w0S ((30,.d .bool b)::jP t v7 n k) r)=if b=true then some (.n,w0S (jP t v7 n k) r) else some (.x 0,w0S (jP t v7 n k) r):=by kernel_rfl
theorem ame:evF NW (fJ vc vf vw) gG (h0W [8]) akY (w0S (jP t v7 n k) r)=some (.n,w0S ((8,.d kT k)::jP t v7 n k) r):=by kernel_rfl
theorem amf:evF NW (fJ vc vf vw) gG (h0W []) akZ (w0S (jP t v7 n k) r)=some (.n,w0S (jP t v7 n (add .i64 k 1)) r):=by kernel_rfl
end
theorem ak0:∃id o1 o2 o3 o4 o5,afr = .region id #[o1,o2,o3,o4,o5] false∧o1={ o1 with dst:=some 32,op:=.move (.tmp 7),guard:=none }∧o2={ o2 with dst:=some 33,op:=.move (.tmp 8),guard:=none } ∧
  o3={ o3 with dst:=some 34,op:=.makeMap 74 none,guard:=none }∧o4={ o4 with dst:=some 35,op:=.indexAddr 81 (.tmp 32) (.tmp 33),guard:=none }∧o5={ o5 with dst:=none,op:=.store 74 (.tmp 35) (.tmp 34),guard:=none }:=⟨_,_,_,_,_,_,rfl,rfl,rfl,rfl,rfl,rfl⟩
section
variable {B0:Nat->Prop}{F:Lx}{pl:List Ev.Place}{own:List (Nat×Ent)}{w:World}{l:List Value}{fr:Fr}
theorem ak1{n:Nat}{v7:Value}{a:Option Addr}{c:Nat}(hv:v7 = .slice a n c)(hl:l.length=92){L:Lx}(hfr:FrD pl L w fr l)(h7:l.getD 7 undef=v7)(hno:∀j ∈ [27,28,29],Ev.get fr j=none) :
  CW Tryz.prog wd5 (fun e a w'=>∃l',e = .normal∧a=mk l'∧l'.length=92∧w'=w∧FrD pl L w ((28,.d kT n)::(29,.d kT 0)::(7,.k v7)::fr) l') l w:=by
 obtain⟨id,o1,o2,o3,e0,e1,e2,e3⟩:=ah2;rw[e0,e1,e2,e3];subst hv;refine oK (ops:=[_,_,_]) ?_;refine jH (v:=.slice a n c) rfl (run_move h7) ?_;have i1:Sx.ev (st l (some 27) (.slice a n c)) (.tmp 27) = .slice a n c:=wC (by omega);refine jH (v:=.int .i64 n) rfl (Sx.run_len_slice (e:=74) (by kernel_rfl) i1) ?_;refine jH (v:=.int .i64 0) rfl (run_move rfl) (yL ⟨_,rfl,rfl,by simp[st,hl],rfl,?_⟩);refine iJ ?_ (iJ ?_ (iJ ?_ ?_))
 ·show Den _ _ _ _ ((((l.set 27 _).set 28 _).set 29 _).getD 28 undef)
  rw[Be (by decide),wC (by simp;omega)];exact⟨_,rfl,rfl⟩
 ·show Den _ _ _ _ ((((l.set 27 _).set 28 _).set 29 _).getD 29 undef)
  rw[wC (by simp;omega)];exact⟨_,rfl,rfl⟩
 ·show ((((l.set 27 _).set 28 _).set 29 _).getD 7 undef)=_
  rw[Be (by decide),Be (by decide),Be (by decide)];exact h7
 ·show FrD _ _ _ fr (((l.set 27 _).set 28 _).set 29 _)
  exact jO (jO (jO hfr (hno 27 (by simp))) (hno 28 (by simp))) (hno 29 (by simp))
theorem aap{gs:List Nat}{n b:Nat}(h:gs.length<n):(gs.map mv++zC (n - gs.length) nmp).take gs.length++[mv b]++(gs.map mv++zC (n - gs.length) nmp).drop (gs.length+1)=(gs++[b]).map mv++zC (n - (gs++[b]).length) nmp:=by
 have e1:(gs.map mv++zC (n - gs.length) nmp).take gs.length=gs.map mv:=by rw[List.take_append_of_le_length (by simp)];exact List.take_of_length_le (by simp)
 have e2:(gs.map mv++zC (n - gs.length) nmp).drop (gs.length+1)=zC (n - (gs++[b]).length) nmp:=by
  rw[List.drop_append,List.drop_eq_nil_of_le (by simp),List.nil_append,List.drop_replicate]
  congr 1
  simp;omega
 rw[e1,e2];simp
theorem amg{g n:Nat}{gs:List Nat}{xs:List Mw}(hr:RowI B0 F w g n gs xs)(hlt:gs.length<n)(hst:Sto B0 [] (FM F g gs) pl own w)(hB:∀k,w.heap.size≤k->B0 k)(hl:l.length=92)(hfr:FrD pl (lx pl own++FM F g gs) w fr l)
  (h7:l.getD 7 undef = .slice (some ⟨g,0,none⟩) n n) (h8:l.getD 8 undef = .int .i64 (gs.length:Nat)) (hno:∀j ∈ [32,33,34,35],Ev.get fr j=none) :
  CW Tryz.prog afr (fun e a w'=>∃l' b,e = .normal∧a=mk l'∧l'.length=92∧RowI B0 F w' g n (gs++[b]) (xs++[[]])∧Sto B0 [] (FM F g (gs++[b])) pl own w'∧Blw B0 w w'∧FrD pl (lx pl own++FM F g (gs++[b])) w' fr l') l w:=by
 obtain⟨id,o1,o2,o3,o4,o5,e0,e1,e2,e3,e4,e5⟩:=ak0;rw[e0,e1,e2,e3,e4,e5];have hgl:=hr.lt;refine oK (ops:=[_,_,_,_,_]) ?_;refine jH (v:=.slice (some ⟨g,0,none⟩) n n) rfl (run_move h7) ?_;refine jH (v:=.int .i64 (gs.length:Nat)) rfl (run_move (show Sx.ev (st l (some 32) _) (.tmp 8)=_ from (Be (by decide)).trans h8)) ?_;refine jH (v:=.map (some w.heap.size)) (w':=w.alloc (.map #[] 0)) rfl rfl ?_;refine jH rfl (yN (e:=74) (sz:=1) (k:=.i64) (j:=(gs.length:Nat)) (a:=some ⟨g,0,none⟩) (b:=g) (o:=0) (n:=n) (c:=n) (by kernel_rfl) (by kernel_rfl) ?_ rfl ?_ (by omega) (by simpa using hlt)) ?_
 ·show (((l.set 32 _).set 33 _).set 34 _).getD 32 undef=_
  rw[Be (by decide),Be (by decide),wC (by omega)]
 ·show (((l.set 32 _).set 33 _).set 34 _).getD 33 undef=_
  rw[Be (by decide),wC (by simp;omega)]
 have hf1:Fz [] w (w.alloc (.map #[] 0)):=Fz.alloc _ _ _;have hb1:Bx (w.alloc (.map #[] 0)) g (gs.map mv++zC (n - gs.length) nmp) 74:=hr.bx.step hf1 H9
 obtain⟨W2,x1,x2,x3,x4⟩:=kG (P:=Tryz.prog) (l:=(((l.set 32 (.slice (some ⟨g,0,none⟩) n n)).set 33 (.int .i64 (gs.length:Nat))).set 34 (.map (some w.heap.size))).set 35 (.pointer (some ⟨g,0+((gs.length:Nat):Int).toNat*1,none⟩))) (w:=w.alloc (.map #[] 0)) (d:=none) (ty:=o5.type) (pos:=o5.pos) (af:=o5.after) (gd:=none) (t:=74) (x:=.tmp 35) (y:=.tmp 34) (g:=g) (j:=gs.length) (n:=1) (vs:=[mv w.heap.size]) (v:=mv w.heap.size) (by kernel_rfl)
  (by
    show ((((l.set 32 _).set 33 _).set 34 _).set 35 _).getD 35 undef=_;rw[wC (by simp;omega)]
    simp)
  (by
    show ((((l.set 32 _).set 33 _).set 34 _).set 35 _).getD 34 undef=_
    rw[Be (by decide),wC (by simp;omega)])
  rfl rfl (by simp[Value.oneCell']) hb1 (by simp;omega)
 refine agN rfl x1 ?_;rw[aap hlt]at x4;have hsz:W2.heap.size=w.heap.size+1:=by rw[x2];simp
 have hf:Fz [some g] w W2:=(hf1.sub (fun k hk=>by cases hk)).trans x3;have hgn:g<w.heap.size:=hr.bx.lt
 have hF:∀k,some k∈FM F g (gs++[w.heap.size])->(some k∈FM F g gs∨w.heap.size≤k)∧k<w.heap.size+1:=fun k hk=>by
  rcases fH.1 hk with h | h
  ·exact⟨.inl (fH.2 (.inl h)),by have:=(hst.far k (fH.2 (.inl h))).2;omega⟩
  ·rw[<- List.cons_append]at h
   rcases List.mem_append.1 h with h | h
   ·exact⟨.inl (fH.2 (.inr h)),by have:=hgl k h;omega⟩
   ·simp at h;subst h;exact⟨.inr (Nat.le_refl _),by omega⟩
 have hst1:Sto B0 [] (FM F g (gs++[w.heap.size])) pl own (w.alloc (.map #[] 0)):=hst.grow hf1 (fun k hk=>by simpa using hF k hk);have hst2:Sto B0 [] (FM F g (gs++[w.heap.size])) pl own W2:=hst1.turn (x3.sub fun k hk=>by simp at hk;subst hk;exact fH.2 (.inr (by simp)));have hkeep:∀b∈gs,W2.heap[b]? = w.heap[b]?:=fun b hb=>by refine hf.block b (hgl b (zO _ hb)) fun hk=>?_;simp at hk;subst hk;exact (List.nodup_cons.1 hr.nd).1 hb
 have hnew:W2.heap[w.heap.size]? = some (.map #[] 0):=by rw[x3.block w.heap.size (by simp) (fun hk=>by simp at hk;omega)];exact Sx.oL w _
 refine yL ⟨_,w.heap.size,rfl,rfl,by simp[st,hl],⟨x4,by simp;omega,by simp[hr.len],fun k b x h1 h2=>?_,?_,fun k hk=>?_,fun k hk=>?_⟩,hst2,(LC hf1).trans (gX x3 (fun k hk=>by simp at hk;subst hk;exact hr.own _ (by simp))),?_⟩
 ·rcases Nat.lt_or_ge k gs.length with hk | hk
  ·rw[List.getElem?_append_left hk]at h1
   rw[List.getElem?_append_left (by rw[<- hr.len];exact hk)]at h2;exact MapIs.keep (hr.maps k b x h1 h2) (hkeep b (zT h1))
  ·have hk1:=(List.getElem?_eq_some_iff.1 h1).1
   simp at hk1;obtain rfl:k=gs.length:=by omega
   rw[List.getElem?_append_right (Nat.le_refl _),Nat.sub_self]at h1;rw[List.getElem?_append_right (by have:=hr.len;omega),<- hr.len,Nat.sub_self]at h2;cases h1;cases h2;exact⟨#[],0,hnew,rfl,MapKept.stamped_empty 0⟩
 ·rw[<- List.cons_append]
  refine List.nodup_append.2 ⟨hr.nd,by simp,fun a ha b hb=>?_⟩;simp at hb;subst hb;exact fun e=>by subst e;exact Nat.lt_irrefl _ (hgl _ ha)
 ·rw[<- List.cons_append]at hk
  rcases List.mem_append.1 hk with h | h
  ·exact hr.own k h
  ·simp at h;subst h;exact hB _ (Nat.le_refl _)
 ·rw[<- List.cons_append]at hk
  rcases List.mem_append.1 hk with h | h
  ·exact hr.far k h
  ·simp at h;subst h;exact fun hm=>by have:=(hst.far _ (fH.2 (.inl hm))).2;omega
 ·have hE:Ext pl (lx pl own++FM F g gs) w pl (lx pl own++FM F g (gs++[w.heap.size])) W2:=by
   have hs:Sub w (lx pl own++FM F g (gs++[w.heap.size])) (lx pl own++FM F g gs):=fun k hk=>by
    rcases List.mem_append.1 hk with hk | hk
    ·exact .inl (List.mem_append_left _ hk)
    ·rcases (hF k hk).1 with h1 | h1
     ·exact .inl (List.mem_append_right _ h1)
     ·exact .inr h1
   have hM:∀k,some k ∈ [some g]->some k∈lx pl own++FM F g (gs++[w.heap.size]):=fun k hk=>by simp at hk;subst hk;exact List.mem_append_right _ (fH.2 (.inr (by simp)))
   have hf2:Fz (lx pl own++FM F g (gs++[w.heap.size])) w W2:=hf.sub hM;exact⟨fun _ _ h=>h,by intro α R cs x h;exact R.mono (R.grow h hs) hf2,by intro α R b o x h;exact (h.grow hs).mono hf2⟩
  show FrD _ _ _ fr ((((l.set 32 _).set 33 _).set 34 _).set 35 _);exact jO (jO (jO (jO (hfr.ext hE) (hno 32 (by simp))) (hno 33 (by simp))) (hno 34 (by simp))) (hno 35 (by simp))
end
end Go.Proofs.Lx
end
noncomputable section
set_option maxRecDepth 100000
namespace Go.Proofs.Lx
open Go Go.Proofs Go.RowKit Ev Sx Pl
theorem jh{P:Program}{c:Code}{Q Q':Exit->Act->World->Prop}{l:List Value}{w:World}(h:CW P c Q l w)(hq:∀e a w,Q e a w->Q' e a w):CW P c Q' l w:=fun r=>Code.wpIn_mono hq (h r)
section
variable {B0:Nat->Prop}{p0:List Ev.Place}{F F1:Lx}{pl:List Ev.Place}{own:List (Nat×Ent)}{w w':World}
theorem cO{sz:Nat}(hbase:∀k,sz≤k->B0 k)(hs:sz≤w.heap.size)(hst:Sto B0 p0 F1 pl own w):∀k,Bo pl own w k->B0 k:=fun k hk=>by
 rcases hk with hk | hk
 ·exact hst.lo k hk
 ·exact hbase k (Nat.le_trans hs hk)
theorem Qq(hst:Sto B0 p0 F1 pl own w)(hb:Blw (Bo pl own w) w w'):∀k,some k∈F1->w'.heap[k]? = w.heap[k]?:=fun k hk=>hb.block k (hst.far k hk).2 (fun hx=>by
 rcases hx with hx | hx
 ·exact (hst.far k hk).1 hx
 ·have:=(hst.far k hk).2;omega)
theorem RowI.over{g n:Nat}{gs:List Nat}{xs:List Mw}(hr:RowI B0 F w g n gs xs)(hst:Sto B0 p0 (FM F g gs) pl own w)(hb:Blw (Bo pl own w) w w'):RowI B0 F w' g n gs xs :=
 hr.keep fun k hk=>Qq hst hb k (fH.2 (.inr hk))
end
def cntF(b:Nat)(c:Nat->Option Unit)(a:Nat):Option Unit:=if a<b then c (a+1) else some ()
theorem SN(n:Nat):∀(m k:Nat),k≤n->n - k<m->aj (cntF n) m k=some ()
 | 0,_,_,h=>by omega
 | m+1,k,hk,h=>by
  show cntF n (aj (cntF n) m) k=some ();unfold cntF;by_cases hlt:k<n
  ·rw[if_pos hlt];exact SN n m (k+1) (by omega) (by omega)
  ·rw[if_neg hlt]
section
variable {vc:Vc}{vf:Vf}{vw:Vw}{B0:Nat->Prop}{F:Lx}{sz:Nat}{wa:World}
theorem afs(henv:iK Tryz.prog (fun _=>True) (fJ vc vf vw))(hbase:∀k,sz≤k->B0 k){t:Vl bX}{r:Vl oG}{g n:Nat}(hn:n≤1000){pl:List Ev.Place}{w:World}{l:List Value}(hsz:sz≤w.heap.size)
  (hr:RowI B0 F w g n [] []) (hst:Sto B0 [] (FM F g []) pl (w0S [] r).own w) (hpl:pl.length=2) (hl:l.length=92) (hfr:FrD pl (lx pl (w0S [] r).own++FM F g []) w (jP t (.slice (some ⟨g,0,none⟩) n n) n 0) l) :
  CW Tryz.prog (.loop C8) (fun e a w'=>∃l' pl' gs,e = .exit 0∧a=mk l'∧l'.length=92∧pl'.length=2∧gs.length=n∧RowI B0 F w' g n gs (zC n [])∧Sto B0 [] (FM F g gs) pl' (w0S [] r).own w'∧Blw B0 w w' ∧
   FrD pl' (lx pl' (w0S [] r).own++FM F g gs) w' (jP t (.slice (some ⟨g,0,none⟩) n n) n n) l') l w:=by
 refine Dl (σ:=Nat) (R:=Unit) (cntF n) () (fun k l' w'=>k≤n∧∃gs pl',gs.length=k∧RowI B0 F w' g n gs (zC k [])∧Sto B0 [] (FM F g gs) pl' (w0S [] r).own w'∧pl'.length=2∧l'.length=92∧Blw B0 w w' ∧
   FrD pl' (lx pl' (w0S [] r).own++FM F g gs) w' (jP t (.slice (some ⟨g,0,none⟩) n n) n k) l') ?_ (n:=n+1) (s:=0) ⟨Nat.zero_le _,[],pl,rfl,hr,hst,hpl,hl,Blw.refl _ _,hfr⟩ (SN n (n+1) 0 (Nat.zero_le _) (by omega))
 rintro self k l1 w1 ⟨hk,gs,pl1,hgs,r1,s1,hp1,hl1,b1,f1⟩ hself;have z1:sz≤w1.heap.size:=Nat.le_trans hsz b1.size;rw[ah3];have p:=lM (S:=w0S (jP t (.slice (some ⟨g,0,none⟩) n n) n k) r) (l:=l1) henv (cO hbase z1 s1) s1 rfl hp1.symm rfl hl1 f1 (amc vc vf vw t r (.slice (some ⟨g,0,none⟩) n n) n k);refine gT (jh p ?_);rintro e a w2 ⟨pl2,l2,rfl,rfl,hl2,hp2,s2,f2,b2⟩;have r2:=r1.over s1 b2;have b2':=b1.trans (jd b2 (cO hbase z1 s1));have z2:sz≤w2.heap.size:=Nat.le_trans hsz b2'.size;refine⟨l2,rfl,?_⟩
 have p:=lM (S:=w0S ((30,.d .bool (lt k n))::jP t (.slice (some ⟨g,0,none⟩) n n) n k) r) (l:=l2) henv (cO hbase z2 s2) s2 rfl hp2.symm rfl hl2 f2 (S1:=w0S (jP t (.slice (some ⟨g,0,none⟩) n n) n k) r) (e0:=if (lt k n)=true then .n else .x 0) (by
  rw[amd]
  split<;>rfl)
 refine gT (jh p ?_);rintro e a w3 ⟨pl3,l3,rfl,rfl,hl3,hp3,s3,f3,b3⟩;have r3:=r2.over s2 b3;have b3':=b2'.trans (jd b3 (cO hbase z2 s2));have z3:sz≤w3.heap.size:=Nat.le_trans hsz b3'.size;by_cases hlt:k<n
 ·rw[if_pos (bg.2 (by omega))]
  refine⟨l3,rfl,?_⟩;have hself:self (k+1)=some ():=by unfold cntF at hself;rwa[if_pos hlt]at hself
  refine gT (uZ (gT ?_));have p:=lM (S:=w0S (jP t (.slice (some ⟨g,0,none⟩) n n) n k) r) (l:=l3) henv (cO hbase z3 s3) s3 rfl hp3.symm rfl hl3 f3 (ame vc vf vw t r (.slice (some ⟨g,0,none⟩) n n) n k);refine jh p ?_;rintro e a w4 ⟨pl4,l4,rfl,rfl,hl4,hp4,s4,f4,b4⟩;have r4:=r3.over s3 b4;have b4':=b3'.trans (jd b4 (cO hbase z3 s3));have z4:sz≤w4.heap.size:=Nat.le_trans hsz b4'.size;refine⟨l4,rfl,?_⟩;have d8:l4.getD 8 undef = .int .i64 (gs.length:Nat):=by obtain⟨cs,h1,h2⟩:=f4 8 _ rfl;rw[h2,hgs];cases h1;rfl
  have d7:l4.getD 7 undef = .slice (some ⟨g,0,none⟩) n n:=f4 7 _ rfl
  refine jh (amg (fr:=jP t (.slice (some ⟨g,0,none⟩) n n) n k) r4 (by omega) s4 (fun k hk=>hbase k (Nat.le_trans z4 hk)) hl4 (fun t' s' hg=>f4 t' s' (by
   show Ev.get ((8,_)::_) t'=_;unfold Ev.get;split
   ·rename_i e;subst e;cases hg
   ·exact hg)) d7 d8 (fun j hj=>by simp at hj;rcases hj with rfl | rfl | rfl | rfl<;>rfl)) ?_
  rintro e a w5 ⟨l5,b,rfl,rfl,hl5,r5,s5,b5,f5⟩;have b5':=b4'.trans b5;have z5:sz≤w5.heap.size:=Nat.le_trans hsz b5'.size;refine⟨l5,rfl,?_⟩;have p:=lM (S:=w0S (jP t (.slice (some ⟨g,0,none⟩) n n) n k) r) (l:=l5) henv (cO hbase z5 s5) s5 rfl hp4.symm rfl hl5 f5 (amf vc vf vw t r (.slice (some ⟨g,0,none⟩) n n) n k);refine jh p ?_;rintro e a w6 ⟨pl6,l6,rfl,rfl,hl6,hp6,s6,f6,b6⟩;have r6:=r5.over s5 b6;refine⟨l6,rfl,k+1,⟨by omega,gs++[b],pl6,by simp[hgs],?_,s6,hp6,hl6,b5'.trans (jd b6 (cO hbase z5 s5)),?_⟩,hself⟩
  ·rw[List.replicate_succ']
   exact r6
  ·have e1:add .i64 (k:Int) 1=((k+1:Nat):Int):=by rw[lX (by omega) (by omega)];omega
   rw[e1]at f6;exact f6
 ·obtain rfl:k=n:=by omega
  rw[if_neg (by rw[bg];omega)];exact⟨l3,pl3,gs,rfl,rfl,hl3,hp3,hgs,r3,s3,b3',f3⟩
end
end Go.Proofs.Lx
end
noncomputable section
set_option maxRecDepth 100000
namespace Go.Proofs.Lx
open Go Go.Proofs Go.RowKit Ev Sx Pl
section
variable (vc:Vc)(vf:Vf)(vw:Vw)(t:Vl bX)(r:Vl oG)(ps:List (Vl cr))(v7:Value)(n k:Int)
theorem amh:evF NW (fJ vc vf vw) gG hW2 wd6 (w0S (jP t v7 n k) r)=some (.n,wS3 t r.2 v7 (zD (zE r.2)) 0):=by kernel_rfl
theorem ami:evF NW (fJ vc vf vw) gG hW3 wdH (wS3 t ps v7 n k)=some (.n,{ wS3 t ps v7 n k with fr:=(41,.d .bool (lt k n))::(wS3 t ps v7 n k).fr }):=by kernel_rfl
theorem amj(b:Bool):evF NW (fJ vc vf vw) gG hW2 wdI { wS3 t ps v7 n k with fr:=(41,.d .bool b)::(wS3 t ps v7 n k).fr }=if b=true then some (.n,wS3 t ps v7 n k) else some (.x 2,wS3 t ps v7 n k):=by kernel_rfl
theorem amk:evF NW (fJ vc vf vw) gG hW4 akN (wS3 t ps v7 n k)=(at? ps k).bind fun y=>some (.n,wS4 t ps v7 n k y):=by kernel_rfl
theorem aml(y:Vl cr):evF NW (fJ vc vf vw) gG hW5 akO (wS4 t ps v7 n k y)=(vf (t,y.1,())).bind fun z=>some (.n,wS5 t ps v7 n k y z.1 z.2.1):=by kernel_rfl
theorem amm(y:Vl cr)(i:Int)(ok:Bool):evF NW (fJ vc vf vw) gG hW5 akP (wS5 t ps v7 n k y i ok)=if (!ok)=true then some (.x 3,wS5 t ps v7 n k y i ok) else some (.n,wS5 t ps v7 n k y i ok):=by kernel_rfl
theorem s_eq:evF NW (fJ vc vf vw) gG hW2 wdS (wS3 t ps v7 n k)=some (.n,wS3 t ps v7 n (add .i64 k 1)):=by kernel_rfl
theorem amn(y:Vl cr)(i:Int)(ok:Bool):evF NW (fJ vc vf vw) gG hW2 wdS (wS5 t ps v7 n k y i ok)=some (.n,wS3 t ps v7 n (add .i64 k 1)):=by kernel_rfl
end
def Hy(h:Vf)(i:Vw)(c:Vl bX)(d:Vl cr)(b:List Mw):Option (List Mw) :=
 (h (c,d.1,())).bind fun a=>if a.2.1=true then (at? c a.1).bind fun e=>(at? b a.1).bind fun f=>(xN i e.2 d.2.2 f).bind fun g=>some (b.set a.1.toNat g) else some b
def yH(b:Vf)(c:Vw)(a:Vl bX):List (Vl cr)->List Mw->Option (List Mw)
 | [],xs=>some xs
 | y::q,xs=>(Hy b c a y xs).bind fun d=>yH b c a q d
abbrev rowP(g n:Nat):Ev.Place:=⟨some ⟨g,0,none⟩,n,n⟩
abbrev qg(b:Nat):Ev.Place:=⟨some ⟨b,0,none⟩,0,0⟩
def FX(a:Lx)(c:List Nat)(b:Nat):Lx:=a++(c.filter (·≠ b)).map some
theorem qj{F:Lx}{gs:List Nat}{b k:Nat}:some k∈FX F gs b↔some k∈F∨(k∈gs∧k≠b):=by
 unfold FX;rw[List.mem_append];constructor
 ·rintro (h | h)
  ·exact .inl h
  ·obtain⟨a,h1,h2⟩:=List.mem_map.1 h
   cases h2
   have:=List.mem_filter.1 h1;exact .inr ⟨this.1,by simpa using this.2⟩
 ·rintro (h | h)
  ·exact .inl h
  ·exact .inr (List.mem_map_of_mem (f:=some) (List.mem_filter.2 ⟨h.1,by simpa using h.2⟩))
def xO(m:Mw):List (Int×Value):=m.map fun a=>(a.1,Value.int .u16 a.2)
theorem Qr(L:Lx)(w:World):∀m:Mw,DmD (kt:=kT) (vt:=uT) L w (xO m) m
 | []=>rfl
 | a::q=>⟨a,q,rfl,rfl,⟨[.int .u16 a.2],rfl,rfl⟩,Qr L w q⟩
theorem aaq{L:Lx}{w:World}:∀{vs:List (Int×Value)} {m:Mw},DmD (kt:=kT) (vt:=uT) L w vs m->vs=xO m
 | [],_,h=>by cases h;rfl
 | (a,v)::q,_,⟨b,r,h1,h2,⟨cs,h3,h4⟩,h5⟩=>by subst h1;have h2:a=b.1:=h2;cases h3;have h4:v = .int .u16 b.2:=h4;subst h2 h4;rw[aaq h5];rfl
theorem aar{w:World}{b:Nat}{m:Mw}(h:MapIs (bM kT) (fun v:Int=>Value.int .u16 v) w b m):MapIs (bM kT) (fun v:Value=>v) w b (xO m):=by obtain⟨es,cl,h1,h2,h3⟩:=h;refine⟨es,cl,h1,?_,h3⟩;rw[h2];unfold xO;rw[List.map_map];rfl
theorem ak2{w:World}{b:Nat}{m:Mw}(h:MapIs (bM kT) (fun v:Value=>v) w b (xO m)):MapIs (bM kT) (fun v:Int=>Value.int .u16 v) w b m:=by obtain⟨es,cl,h1,h2,h3⟩:=h;refine⟨es,cl,h1,?_,h3⟩;rw[h2];unfold xO;rw[List.map_map];rfl
section
variable {B0:Nat->Prop}{F:Lx}{pl:List Ev.Place}{w w':World}{l:List Value}{t:Vl bX}{ps:List (Vl cr)}{n k i:Int}{y:Vl cr}{g nd b:Nat}{gs:List Nat}{xs:List Mw}{m:Mw}{v7:Value}{ok:Bool}
theorem agG(hr:RowI B0 F w g nd gs xs)(hb:b∈gs):g≠b:=fun e=>by subst e;exact (List.nodup_cons.1 hr.nd).1 hb
theorem LD{L L':Lx}{p q:Ev.Place}{i:Nat}{T:TypeId}{cs:List SV}(hs:∀k:Nat,some k∈L'->some k∈L)(hd:∀us,DenL pl L w cs us->DenL (p::q::pl) L' w cs us)(h:EntD pl L w i (.box T cs)):EntD (p::q::pl) L' w (i+2) (.box T cs):=by obtain⟨a,n,c,us,h1,h2,h3,h4⟩:=h;exact⟨a,n,c,us,h1,h2,hd us h3,h4⟩
theorem Hz{L L':Lx}{pl pl':List Ev.Place}(hs:∀k:Nat,some k∈L'->some k∈L):∀{cs:List SV} {us:List Value},(∀s∈cs,∃(ty:Ty) (x:Vl ty),s = .d ty x)->DenL pl L w cs us->DenL pl' L' w cs us
 | [],_,_,h=>h
 | _::q,_,hc,⟨v,r,h1,h2,h3⟩=>by obtain⟨ty,x,rfl⟩:=hc _ (List.mem_cons_self ..);obtain⟨cs,e1,e2⟩:=h2;exact⟨v,r,h1,⟨cs,Rp.grow _ e1 (gV hs),e2⟩,Hz hs (fun s hs'=>hc s (zO _ hs')) h3⟩
theorem ah4(hr:RowI B0 F w g nd gs xs)(hgs:gs.length=nd)(hst:Sto B0 [] (FM F g gs) pl (qd y) w)(hpl:pl.length=2)(hi:0≤i)(hb:gs[i.toNat]? = some b)(hm:xs[i.toNat]? = some m)
  (hfr:FrD pl (lx pl (qd y)++FM F g gs) w (wS5 t ps (.slice (some ⟨g,0,none⟩) nd nd) n k y i ok).fr l) :
  Sto B0 [rowP g nd,qg b] (FX F gs b) (rowP g nd::qg b::pl) (wS6 (gs.map mv) t ps n k y i m).own w ∧
  FrD (rowP g nd::qg b::pl) (lx (rowP g nd::qg b::pl) (wS6 (gs.map mv) t ps n k y i m).own++FX F gs b) w (wS6 (gs.map mv) t ps n k y i m).fr l:=by
 have hbm:b∈gs:=zT hb;have hgb:=agG hr hbm;have hlx:lx (rowP g nd::qg b::pl) (wS6 (gs.map mv) t ps n k y i m).own=some g::some b::lx pl (qd y):=rfl
 have hsub:∀z:Nat,some z∈lx (rowP g nd::qg b::pl) (wS6 (gs.map mv) t ps n k y i m).own++FX F gs b->some z∈lx pl (qd y)++FM F g gs:=fun k hk=>by
  rw[hlx]at hk;rcases List.mem_append.1 hk with hk | hk
  ·rcases List.mem_cons.1 hk with hk | hk
   ·cases hk;exact List.mem_append_right _ (fH.2 (.inr (by simp)))
   ·rcases List.mem_cons.1 hk with hk | hk
    ·cases hk;exact List.mem_append_right _ (fH.2 (.inr (zO _ hbm)))
    ·exact List.mem_append_left _ hk
  ·rcases qj.1 hk with h | h
   ·exact List.mem_append_right _ (fH.2 (.inl h))
   ·exact List.mem_append_right _ (fH.2 (.inr (zO _ h.1)))
 have hnot:∀k∈g::gs,some k ∉ lx pl (qd y):=fun k hk=>(hst.far k (fH.2 (.inr hk))).1;have hbxs:gs.map mv++zC (nd - gs.length) nmp=gs.map mv:=by rw[hgs,Nat.sub_self];simp
 have hbx:=hr.bx;rw[hbxs]at hbx;have hilt:i.toNat<nd:=by rw[<- hgs];exact (List.getElem?_eq_some_iff.1 hb).1
 refine⟨⟨?_,fun k hk=>?_,fun k hk=>?_,fun k hk=>⟨fun hx=>?_,?_⟩,fun j p hp=>?_,fun e he=>?_⟩,?_⟩
 ·rw[hlx]
  refine List.pairwise_cons.2 ⟨fun a ha k e1 e2=>?_,List.pairwise_cons.2 ⟨fun a ha k e1 e2=>?_,hst.pair⟩⟩
  ·cases e1
   subst e2;rcases List.mem_cons.1 ha with h | h
   ·cases h;exact hgb rfl
   ·exact hnot _ (by simp) h
  ·cases e1
   subst e2;exact hnot _ (zO _ hbm) ha
 ·rw[hlx]at hk
  rcases List.mem_cons.1 hk with h | h
  ·cases h;exact hr.own _ (by simp)
  ·rcases List.mem_cons.1 h with h | h
   ·cases h;exact hr.own _ (zO _ hbm)
   ·exact hst.lo k h
 ·rw[hlx]at hk
  rcases List.mem_cons.1 hk with h | h
  ·cases h;exact hr.lt _ (by simp)
  ·rcases List.mem_cons.1 h with h | h
   ·cases h;exact hr.lt _ (zO _ hbm)
   ·exact hst.hi k h
 ·rw[hlx]at hx
  rcases qj.1 hk with h | h
  ·rcases List.mem_cons.1 hx with hx | hx
   ·cases hx;exact hr.far _ (by simp) h
   ·rcases List.mem_cons.1 hx with hx | hx
    ·cases hx;exact hr.far _ (zO _ hbm) h
    ·exact (hst.far k (fH.2 (.inl h))).1 hx
  ·rcases List.mem_cons.1 hx with hx | hx
   ·cases hx;exact (List.nodup_cons.1 hr.nd).1 h.1
   ·rcases List.mem_cons.1 hx with hx | hx
    ·cases hx;exact h.2 rfl
    ·exact hnot k (zO _ h.1) hx
 ·rcases qj.1 hk with h | h
  ·exact (hst.far k (fH.2 (.inl h))).2
  ·exact hr.lt k (zO _ h.1)
 ·match j,hp with
  | 0,hp=>exact hp
  | 1,hp=>exact hp
 ·have e0:=hst.ent (0,_) (show (0,Ent.box 43 [.d .str y.1,.d kT y.2.1,.d (.sl iF) y.2.2])∈qd y by simp[qd])
  have e1:=hst.ent (1,_) (show (1,Ent.box 33 [.d kT 0,.d kT 0])∈qd y by simp[qd]);simp only[wS6,List.mem_cons,List.not_mem_nil,or_false]at he;rcases he with rfl | rfl | rfl | rfl
  ·refine⟨g,nd,nd,mv b,rfl,hbx,by simp[hgs],⟨hi,hilt⟩,?_,⟨_,[],rfl,⟨b,0,0,rfl,rfl⟩,rfl⟩⟩
   rw[List.getElem?_map,hb];rfl
  ·exact⟨b,0,0,xO m,rfl,aar (hr.maps _ _ _ hb hm),Qr _ _ m⟩
  ·exact LD hsub (fun us=>Hz hsub (by simp)) e0
  ·exact LD hsub (fun us=>Hz hsub (by simp)) e1
 ·have dd:∀{j:Nat} {ty:Ty} {x:Vl ty},Ev.get (wS5 t ps (.slice (some ⟨g,0,none⟩) nd nd) n k y i ok).fr j=some (.d ty x)->Den (rowP g nd::qg b::pl) (lx (rowP g nd::qg b::pl) (wS6 (gs.map mv) t ps n k y i m).own++FX F gs b) w (.d ty x) (l.getD j undef):=fun hg=>by obtain⟨cs,h1,h2⟩:=hfr _ _ hg;exact⟨cs,Rp.grow _ h1 (gV hsub),h2⟩
  have dp:∀{j o:Nat},Ev.get (wS5 t ps (.slice (some ⟨g,0,none⟩) nd nd) n k y i ok).fr j=some (.pb o 0)->Den (rowP g nd::qg b::pl) (lx (rowP g nd::qg b::pl) (wS6 (gs.map mv) t ps n k y i m).own++FX F gs b) w (.pb (o+2) 0) (l.getD j undef):=fun hg=>by obtain⟨a,n',c',h1,h2⟩:=hfr _ _ hg;exact⟨a,n',c',h1,h2⟩
  refine iJ (dd rfl) (iJ (dp (o:=0) rfl) (iJ ⟨rowP g nd,rfl,hfr 7 _ rfl⟩ (iJ (dd rfl) (iJ (dp (o:=1) rfl) (iJ (dd rfl) (iJ (dd rfl) (iJ (dd rfl) kI)))))))
end
end Go.Proofs.Lx
end
noncomputable section
set_option maxRecDepth 100000
namespace Go.Proofs.Lx
open Go Go.Proofs Go.RowKit Ev Sx Pl
section
variable {B0:Nat->Prop}{F:Lx}{w w':World}{l l':List Value}{t:Vl bX}{ps:List (Vl cr)}{n kk i:Int}{y:Vl cr}{g nd b:Nat}{gs:List Nat}{xs:List Mw}{m m':Mw}
theorem aft{pl2:List Ev.Place}(hr:RowI B0 F w g nd gs xs)(hgs:gs.length=nd)(hb:gs[i.toNat]? = some b)(hm:xs[i.toNat]? = some m)
  (hst:Sto B0 [rowP g nd,qg b] (FX F gs b) pl2 (Bd (gs.map mv) i m') w') (hpl:pl2.length=3) (hkeep:∀k:Nat,some k∈FX F gs b->w'.heap[k]? = w.heap[k]?)
  (hfr:FrD pl2 (lx pl2 (Bd (gs.map mv) i m')++FX F gs b) w' (wS7 (gs.map mv) t ps n kk i m').fr l') :
  RowI B0 F w' g nd gs (xs.set i.toNat m')∧∃pl3,pl3.length=1∧Sto B0 [] (FM F g gs) pl3 ku w'∧FrD pl3 (lx pl3 ku++FM F g gs) w' (wS3 t ps (.slice (some ⟨g,0,none⟩) nd nd) n kk).fr l':=by
 have hbm:b∈gs:=zT hb;have hgb:=agG hr hbm;have hbxs:gs.map mv++zC (nd - gs.length) nmp=gs.map mv:=by rw[hgs,Nat.sub_self];simp
 match pl2,hpl,hst,hfr with
 | [p,q,c],_,hst,hfr =>
 obtain rfl:rowP g nd=p:=Option.some.inj (hst.pre 0 _ rfl).symm;obtain rfl:qg b=q:=Option.some.inj (hst.pre 1 _ rfl).symm;obtain⟨g',n',c',u,e1,e2,e3,e4,e5,_⟩:=hst.ent (0,.rowq 74 (gs.map mv) i [.mp 1]) (by simp[Bd]);cases e1;obtain⟨b',n2,c2,vs,d1,d2,d3⟩:=hst.ent (1,.dm kT uT m') (by simp[Bd]);cases d1;have dB:=hst.ent (2,.box 33 [.d kT 0,.d kT 0]) (by simp[Bd]);have hlx:lx [rowP g nd,qg b,c] (Bd (gs.map mv) i m')=[some g,some b,blk c.a]:=rfl;have hlx3:lx [c] ku=[blk c.a]:=rfl;have hpair:=hst.pair;rw[hlx]at hpair;have hp1:=List.pairwise_cons.1 hpair;have hp2:=List.pairwise_cons.1 hp1.2
 have hR:RowI B0 F w' g nd gs (xs.set i.toNat m'):=by
  refine⟨by rw[hbxs];exact e2,hr.le,by rw[List.length_set];exact hr.len,fun k b2 x h1 h2=>?_,hr.nd,hr.own,hr.far⟩;by_cases hk:i.toNat=k
  ·subst hk
   rw[hb]at h1;cases h1;rw[List.getElem?_set_self (by have:=(List.getElem?_eq_some_iff.1 hm).1;exact this)]at h2;cases h2;rw[aaq d3]at d2;exact ak2 d2
  ·rw[List.getElem?_set_ne hk]at h2
   have hne:b2≠b:=fun e=>by subst e;have h3:=(List.getElem?_eq_some_iff.1 h1);have h4:=(List.getElem?_eq_some_iff.1 hb);exact hk ((List.getElem_inj (List.nodup_cons.1 hr.nd).2).1 (h4.2.trans h3.2.symm))
   exact MapIs.keep (hr.maps k b2 x h1 h2) (hkeep b2 (qj.2 (.inr ⟨zT h1,hne⟩)))
 have hsub:∀z:Nat,some z∈lx [c] ku++FM F g gs->some z∈lx [rowP g nd,qg b,c] (Bd (gs.map mv) i m')++FX F gs b:=fun k hk=>by
  rw[hlx];rw[hlx3]at hk;rcases List.mem_append.1 hk with hk | hk
  ·exact List.mem_append_left _ (zO _ (zO _ hk))
  ·rcases fH.1 hk with h | h
   ·exact List.mem_append_right _ (qj.2 (.inl h))
   ·rcases List.mem_cons.1 h with h | h
    ·subst h;exact List.mem_append_left _ (by simp)
    ·by_cases hkb:k=b
     ·subst hkb;exact List.mem_append_left _ (by simp)
     ·exact List.mem_append_right _ (qj.2 (.inr ⟨h,hkb⟩))
 refine⟨hR,[c],rfl,⟨?_,fun k hk=>?_,fun k hk=>?_,fun k hk=>⟨fun hx=>?_,?_⟩,(fun j p hp=>by simp at hp),fun e he=>?_⟩,?_⟩
 ·rw[hlx3];simp
 ·rw[hlx3]at hk
  exact hst.lo k (by rw[hlx];exact zO _ (zO _ hk))
 ·rw[hlx3]at hk
  exact hst.hi k (by rw[hlx];exact zO _ (zO _ hk))
 ·rw[hlx3]at hx
  have hx':blk c.a=some k:=(List.mem_singleton.1 hx).symm;rcases fH.1 hk with h | h
  ·exact (hst.far k (qj.2 (.inl h))).1 (by rw[hlx,hx'];simp)
  ·rcases List.mem_cons.1 h with h | h
   ·subst h;exact hp1.1 (blk c.a) (by simp) _ rfl hx'
   ·by_cases hkb:k=b
    ·subst hkb;exact hp2.1 (blk c.a) (by simp) _ rfl hx'
    ·exact (hst.far k (qj.2 (.inr ⟨h,hkb⟩))).1 (by rw[hlx,hx'];simp)
 ·rcases fH.1 hk with h | h
  ·exact (hst.far k (qj.2 (.inl h))).2
  ·exact hR.lt k h
 ·simp[ku]at he
  subst he;obtain⟨a,n3,c3,us,h1,h2,h3,h4⟩:=dB;exact⟨a,n3,c3,us,h1,h2,Hz hsub (by simp) h3,h4⟩
 ·have dd:∀{j:Nat} {ty:Ty} {x:Vl ty},Ev.get (wS7 (gs.map mv) t ps n kk i m').fr j=some (.d ty x)->Den [c] (lx [c] ku++FM F g gs) w' (.d ty x) (l'.getD j undef):=fun hg=>by obtain⟨cs,h1,h2⟩:=hfr _ _ hg;exact⟨cs,Rp.grow _ h1 (gV hsub),h2⟩
  have d7:l'.getD 7 undef = .slice (some ⟨g,0,none⟩) nd nd:=by obtain⟨p,h1,h2⟩:=hfr 7 _ rfl;cases h1;exact h2
  have d5:Den [c] (lx [c] ku++FM F g gs) w' (.pb 0 0) (l'.getD 5 undef):=by obtain⟨a,n',c',h1,h2⟩:=hfr 5 _ rfl;exact⟨a,n',c',h1,h2⟩
  exact iJ d7 (iJ (dd rfl) (iJ d5 (iJ (dd rfl) (iJ (dd rfl) (iJ (dd rfl) kI)))))
end
section
variable {vc:Vc}{vf:Vf}{vw:Vw}{B0:Nat->Prop}{F:Lx}{sz:Nat}
def okT(t:Vl bX):Bool:=(show List (Vl wB) from t).all fun d=>decide ((show List (Vl ptT) from d.2).length≤1000)
def okP(ps:List (Vl cr)):Bool:=decide (ps.length≤1000) && ps.all fun y=>decide ((show List (Vl iF) from y.2.2).length≤1000)
theorem at_mem{α:Type}{xs:List α}{j:Int}{x:α}(h:at? xs j=some x):x∈xs:=zT (gY h).2.1
def FW(vf:Vf)(vw:Vw)(t:Vl bX)(ps:List (Vl cr))(self:Nat×List Mw->Option (List Mw))(s:Nat×List Mw):Option (List Mw) :=
 match ps[s.1]? with
 | some y=>(Hy vf vw t y s.2).bind fun xs=>self (s.1+1,xs)
 | none=>some s.2
theorem SQ(vf:Vf)(vw:Vw)(t:Vl bX)(ps:List (Vl cr)):∀(m k:Nat) (xs:List Mw),k≤ps.length->ps.length - k<m->aj (FW vf vw t ps) m (k,xs)=yH vf vw t (ps.drop k) xs
 | 0,_,_,_,h=>by omega
 | m+1,k,xs,hk,h=>by
  show FW vf vw t ps (aj (FW vf vw t ps) m) (k,xs)=_;unfold FW;by_cases hlt:k<ps.length
  ·rw[zQ hlt,List.drop_eq_getElem_cons hlt,yH]
   simp only
   congr 1
   funext xs';exact SQ vf vw t ps m (k+1) xs' (by omega) (by omega)
  ·obtain rfl:k=ps.length:=by omega
   rw[List.getElem?_eq_none (Nat.le_refl _),List.drop_length];rfl
theorem afu(henv:iK Tryz.prog (fun _=>True) (fJ vc vf vw))(hbase:∀k,sz≤k->B0 k){t:Vl bX}{ps:List (Vl cr)}(hot:okT t=true)(hop:okP ps=true){g nd:Nat}{gs:List Nat}{xs0 xsE:List Mw}(hgs:gs.length=nd){pl:List Ev.Place}{w:World}{l:List Value}(hsz:sz≤w.heap.size)
  (hr:RowI B0 F w g nd gs xs0) (hst:Sto B0 [] (FM F g gs) pl ku w) (hpl:pl.length=1) (hl:l.length=92) (hfr:FrD pl (lx pl ku++FM F g gs) w (wS3 t ps (.slice (some ⟨g,0,none⟩) nd nd) (zD ps.length) 0).fr l) (hw:yH vf vw t ps xs0=some xsE) :
  CW Tryz.prog (.loop FV) (fun e a w'=>∃l' pl',e = .exit 2∧a=mk l'∧l'.length=92∧pl'.length=1∧RowI B0 F w' g nd gs xsE∧Sto B0 [] (FM F g gs) pl' ku w'∧Blw B0 w w' ∧
   FrD pl' (lx pl' ku++FM F g gs) w' (wS3 t ps (.slice (some ⟨g,0,none⟩) nd nd) (zD ps.length) (zD ps.length)).fr l') l w:=by
 unfold okP at hop;rw[zL]at hop;have hpl1:ps.length≤1000:=of_decide_eq_true hop.1
 refine Dl (σ:=Nat×List Mw) (R:=List Mw) (FW vf vw t ps) xsE (fun s l' w'=>s.1≤ps.length∧∃pl',RowI B0 F w' g nd gs s.2∧Sto B0 [] (FM F g gs) pl' ku w'∧pl'.length=1∧l'.length=92∧Blw B0 w w' ∧
   FrD pl' (lx pl' ku++FM F g gs) w' (wS3 t ps (.slice (some ⟨g,0,none⟩) nd nd) (zD ps.length) s.1).fr l') ?_ (n:=ps.length+1) (s:=(0,xs0)) ⟨Nat.zero_le _,pl,hr,hst,hpl,hl,Blw.refl _ _,hfr⟩ (by rw[SQ vf vw t ps _ 0 xs0 (Nat.zero_le _) (by omega)];exact hw)
 rintro self ⟨k,xs⟩ l1 w1 ⟨hk,pl1,r1,s1,hp1,hl1,b1,f1⟩ hself;simp only at hk r1 f1;have z1:sz≤w1.heap.size:=Nat.le_trans hsz b1.size;obtain⟨v7,hv7⟩:∃v7,v7=Go.Value.slice (some ⟨g,0,none⟩) nd nd:=⟨_,rfl⟩;rw[<- hv7]at f1;rw[ahZ];have p:=lM (S:=wS3 t ps v7 (zD ps.length) k) (l:=l1) henv (cO hbase z1 s1) s1 rfl hp1.symm rfl hl1 f1 (ami vc vf vw t ps v7 (zD ps.length) k);refine gT (jh p ?_);rintro e a w2 ⟨pl2,l2,rfl,rfl,hl2,hp2,s2,f2,b2⟩;have r2:=r1.over s1 b2;have b2':=b1.trans (jd b2 (cO hbase z1 s1));have z2:sz≤w2.heap.size:=Nat.le_trans hsz b2'.size;refine⟨l2,rfl,?_⟩
 have p:=lM (S:={ wS3 t ps v7 (zD ps.length) k with fr:=(41,.d .bool (lt k (zD ps.length)))::(wS3 t ps v7 (zD ps.length) k).fr }) (l:=l2) henv (cO hbase z2 s2) s2 rfl hp2.symm rfl hl2 f2 (S1:=wS3 t ps v7 (zD ps.length) k) (e0:=if (lt k (zD ps.length))=true then .n else .x 2) (by
  rw[amj]
  split<;>rfl)
 refine gT (jh p ?_);rintro e a w3 ⟨pl3,l3,rfl,rfl,hl3,hp3,s3,f3,b3⟩;have r3:=r2.over s2 b3;have b3':=b2'.trans (jd b3 (cO hbase z2 s2));have z3:sz≤w3.heap.size:=Nat.le_trans hsz b3'.size;by_cases hlt:k<ps.length
 case neg =>
  obtain rfl:k=ps.length:=by omega
  rw[if_neg (by rw[bg];show ¬ (ps.length:Int)<(ps.length:Int);omega)];unfold FW at hself;rw[List.getElem?_eq_none (Nat.le_refl _)]at hself;cases hself;subst hv7;exact⟨l3,pl3,rfl,rfl,hl3,hp3,r3,s3,b3',f3⟩
 rw[if_pos (by rw[bg];show (k:Int)<(ps.length:Int);omega)];refine⟨l3,rfl,?_⟩;obtain⟨y,hy⟩:∃y,ps[k]? = some y:=⟨_,zQ hlt⟩;have hyl:(show List (Vl iF) from y.2.2).length≤1000:=of_decide_eq_true (List.all_eq_true.1 hop.2 y (zT hy));unfold FW at hself;simp only[hy]at hself;obtain⟨xs2,hx2,hself⟩:=bK hself;unfold Hy at hx2;obtain⟨z,hz,hx2⟩:=bK hx2;have e1:add .i64 (k:Int) 1=((k+1:Nat):Int):=by rw[lX (by omega) (by omega)];omega
 refine gT (uZ (gT ?_));have hat:at? ps (k:Int)=some y:=by unfold at?;rw[if_pos (by omega),zM];exact hy
 have p:=lM (S:=wS3 t ps v7 (zD ps.length) k) (l:=l3) henv (cO hbase z3 s3) s3 rfl hp3.symm rfl hl3 f3 ((amk vc vf vw t ps v7 (zD ps.length) k).trans (by rw[hat];rfl)) (S1:=wS4 t ps v7 (zD ps.length) k y) (e0:=.n);refine jh p ?_;rintro e a w4 ⟨pl4,l4,rfl,rfl,hl4,hp4,s4,f4,b4⟩;have r4:=r3.over s3 b4;have b4':=b3'.trans (jd b4 (cO hbase z3 s3));have z4:sz≤w4.heap.size:=Nat.le_trans hsz b4'.size;refine⟨l4,rfl,gT ?_⟩;have p:=lM (S:=wS4 t ps v7 (zD ps.length) k y) (l:=l4) henv (cO hbase z4 s4) s4 rfl hp4.symm rfl hl4 f4 ((aml vc vf vw t ps v7 (zD ps.length) k y).trans (by rw[hz];rfl)) (S1:=wS5 t ps v7 (zD ps.length) k y z.1 z.2.1) (e0:=.n);refine jh p ?_;rintro e a w5 ⟨pl5,l5,rfl,rfl,hl5,hp5,s5,f5,b5⟩;have r5:=r4.over s4 b5;have b5':=b4'.trans (jd b5 (cO hbase z4 s4));have z5:sz≤w5.heap.size:=Nat.le_trans hsz b5'.size;refine⟨l5,rfl,gT ?_⟩
 have p:=lM (S:=wS5 t ps v7 (zD ps.length) k y z.1 z.2.1) (l:=l5) henv (cO hbase z5 s5) s5 rfl hp5.symm rfl hl5 f5 (S1:=wS5 t ps v7 (zD ps.length) k y z.1 z.2.1) (e0:=if (!z.2.1)=true then .x 3 else .n) (by
  rw[amm]
  split<;>rfl)
 refine jh p ?_;rintro e a w6 ⟨pl6,l6,rfl,rfl,hl6,hp6,s6,f6,b6⟩;have r6:=r5.over s5 b6;have b6':=b5'.trans (jd b6 (cO hbase z5 s5));have z6:sz≤w6.heap.size:=Nat.le_trans hsz b6'.size;by_cases hok:z.2.1=true
 case neg =>
  have hok':(!z.2.1)=true:=by simpa using hok
  rw[if_pos hok'];rw[if_neg hok]at hx2;cases hx2;refine⟨l6,rfl,?_⟩;have p:=lM (S:=wS5 t ps v7 (zD ps.length) k y z.1 z.2.1) (l:=l6) henv (cO hbase z6 s6) s6 rfl hp6.symm rfl hl6 f6 (amn vc vf vw t ps v7 (zD ps.length) k y z.1 z.2.1);refine jh p ?_;rintro e a w7 ⟨pl7,l7,rfl,rfl,hl7,hp7,s7,f7,b7⟩;rw[e1]at f7;subst hv7;exact⟨l7,rfl,(k+1,xs),⟨by show k+1≤_;omega,pl7,r6.over s6 b7,s7,hp7,hl7,b6'.trans (jd b7 (cO hbase z6 s6)),f7⟩,hself⟩
 rw[if_neg (by rw[hok];decide)];rw[if_pos hok]at hx2;obtain⟨d,hd,hx2⟩:=bK hx2;obtain⟨m,hm,hx2⟩:=bK hx2;obtain⟨m',hm',hx2⟩:=bK hx2;cases hx2;have hi0:=(gY hm).1;have hmi:=(gY hm).2.1;obtain⟨b,hb⟩:∃b,gs[z.1.toNat]? = some b:=⟨_,zQ (by rw[r6.len];exact (gY hm).2.2)⟩;have hdl:(show List (Vl ptT) from d.2).length≤1000:=of_decide_eq_true (List.all_eq_true.1 hot d (at_mem hd));refine⟨l6,rfl,?_⟩;subst hv7;obtain⟨q1,q2⟩:=ah4 (i:=z.1) (m:=m) (ok:=z.2.1) r6 hgs s6 hp6 hi0 hb hmi f6;have h6:pl6.length=2:=hp6;have h4:4=pl6.length+1+1:=by omega
 have p:=lM (N:=NW) (hs:=hsW) (hint:=hW6) (c:=yF) (S:=wS6 (gs.map mv) t ps (zD ps.length) k y z.1 m) (S1:=wS7 (gs.map mv) t ps (zD ps.length) k z.1 m') (e0:=.n) (l:=l6) henv (cO hbase z6 q1) q1 rfl h4 rfl hl6 q2
  ((ama vc vf vw (gs.map mv) t ps (zD ps.length) k z.1 hd (Nat.lt_of_le_of_lt hdl (by decide)) (Nat.lt_of_le_of_lt hyl (by decide)) m).trans (by rw[hm'];rfl))
 refine jh p ?_;rintro e a w7 ⟨pl7,l7,rfl,rfl,hl7,hp7,s7,f7,b7⟩;have b7':=b6'.trans (jd b7 (cO hbase z6 q1));have z7:sz≤w7.heap.size:=Nat.le_trans hsz b7'.size;obtain⟨r7,pl8,hp8,s8,f8⟩:=aft r6 hgs hb hmi s7 hp7 (Qq q1 b7) f7;refine⟨l7,rfl,?_⟩;have p:=lM (S:=wS3 t ps (.slice (some ⟨g,0,none⟩) nd nd) (zD ps.length) k) (l:=l7) henv (cO hbase z7 s8) s8 rfl hp8.symm rfl hl7 f8 (s_eq vc vf vw t ps (.slice (some ⟨g,0,none⟩) nd nd) (zD ps.length) k);refine jh p ?_;rintro e a w9 ⟨pl9,l9,rfl,rfl,hl9,hp9,s9,f9,b9⟩;rw[e1]at f9;exact⟨l9,rfl,(k+1,xs.set z.1.toNat m'),⟨by show k+1≤_;omega,pl9,r7.over s8 b9,s9,hp9,hl9,b7'.trans (jd b9 (cO hbase z7 s8)),f9⟩,hself⟩
end
end Go.Proofs.Lx
end
noncomputable section
set_option maxRecDepth 100000
namespace Go.Proofs.Lx
open Go Go.Proofs Go.RowKit Ev Sx Pl
@[reducible] def oH:Sh:=shD [bX,oG] [.sl mT,sZ]
def C9(vc:Vc)(vf:Vf)(vw:Vw)(x:As oH.ps):Option (As oH.rs) :=
 (vc (x.1,x.2.1,())).bind fun f=>if (!(eqi f.1.1 0 && (eqi f.1.2 0 && true)))=true then some ([],f.1,()) else
  if (okT x.1 && okP x.2.1.2 && decide ((show List (Vl wB) from x.1).length≤1000))=true then (yH vf vw x.1 x.2.1.2 (zC (show List (Vl wB) from x.1).length [])).bind fun l=>some (l,(0,0),()) else none
def wSX(t:Vl bX)(r:Vl oG)(f:Int×Int):St:={ fr:=[(0,.d bX t),(3,.pb 0 0),(4,bH),(5,.pb 1 0)],nt:=92,up:=[],own:=[(0,.box 26 [.d .str r.1,.d (.sl cr) r.2]),(1,.box 33 [.d kT f.1,.d kT f.2])],nx:=2,log:=[],ln:=0 }
def wSE(a:List Mw):St:={ fr:=[(7,.d (.sl mT) a),(5,.pb 0 0)],nt:=92,up:=[],own:=ku,nx:=1,log:=[],ln:=0 }
def wSF(a:List Mw):St:={ fr:=[(4,.d (.sl mT) a),(5,.pb 0 0)],nt:=92,up:=[],own:=ku,nx:=1,log:=[],ln:=0 }
section
variable (vc:Vc)(vf:Vf)(vw:Vw)(t:Vl bX)(r:Vl oG)
theorem amo:evF NW (fJ vc vf vw) gG hW1 wd1 (wS0 t r)=some (.n,wSX t r (0,0)):=by kernel_rfl
theorem agH:evF NW (fJ vc vf vw) gG hW1 wdX (wSX t r (0,0))=(vc (t,r,())).bind fun f=>if (!(eqi f.1.1 0 && (eqi f.1.2 0 && true)))=true then some (.r,wSX t r f.1) else some (.n,wSX t r (0,0)):=by kernel_rfl
theorem amq(xs:List Mw):evF NW (fJ vc vf vw) gG ⟨[],[4,5]⟩ wdE (wSE xs)=some (.r,wSF xs):=by kernel_rfl
theorem amr(xs:List Mw):∃S1,nrm Tryz.prog ⟨[],[4,5]⟩ (wSF xs)=some S1∧jL Tryz.prog S1 Tryz.f33.results.toList (fun ss=>some ss)=some [.d (.sl mT) xs,.d sZ (0,0)]:=⟨wSF xs,by kernel_rfl,by kernel_rfl⟩
end
theorem agI{B1:Nat->Prop}{F':Lx}{pl:List Ev.Place}{S S1:St}{l:List Value}{W:World}{L:List Mw}{f:Int×Int}{h:Hint}(hb:∀k,Bo pl S.own W k->B1 k)
  (hst:Sto B1 [] F' pl S.own W) (hup:S.up=[]) (hnx:S.nx=pl.length) (hln:S.ln=0) (hnt:l.length=S.nt) (hfr:FrD pl (lx pl S.own++F') W S.fr l)
  (hn:nrm Tryz.prog h S=some S1) (hr:jL Tryz.prog S1 Tryz.f33.results.toList (fun ss=>some ss)=some [.d (.sl mT) L,.d sZ f]) :
  ∃pl' us,DenL pl' (lx pl' S1.own++F') W [.d (.sl mT) L,.d sZ f] us∧∀R:Ending->World->Prop,R (.returned (pI us)) W->bodyPost Tryz.prog Tryz.f33 R .ret (mk l) W:=by
 have h1:=hst.rel hup hnx hln hnt hfr;obtain⟨wr2,pl2,h2⟩:=vH h1 hn;obtain⟨ss,us,h3,h4,h5⟩:=uU h2 hr;cases h3;exact⟨pl2,us,h5,fun R hR=>Aw (fn:=Tryz.f33) (by decide) h4 hR⟩
theorem SS{F F':Lx}{w0 W:World}{pl':List Ev.Place}{own':List (Nat×Ent)}{L:List Mw}{f:Int×Int}{us:List Value}
  (hL:LOk (Bo [] [] w0) (lx [] []) F w0) (hF:∀k,some k∈F->some k∈F') (hB:Blw (Bo [] [] w0) w0 W)
  (hd:DenL pl' (lx pl' own'++F') W [.d (.sl mT) L,.d sZ f] us):After oH (L,f,()) F w0 [] [] W us:=by
 have hsub:∀k,some k∈lx [] []++F->some k∈lx pl' own'++F':=fun k hk=>List.mem_append_right _ (hF k (by simpa [lx]using hk));refine⟨[],[.d (.sl mT) L,.d sZ f],[],rfl,fun _ _ h=>h,rfl,hB,⟨hL.pair,hL.lo,(fun k hk=>by cases hk),hL.baseS hB.size,hL.farS hB.size⟩,(fun e he=>by cases he),?_⟩;obtain⟨v,q,h1,⟨cs,h2,h3⟩,v',q',h4,⟨cs',h5,h6⟩,h7⟩:=hd;exact⟨v,q,h1,⟨cs,Rp.grow _ h2 (gV hsub),h3⟩,v',q',h4,⟨cs',Rp.grow _ h5 (gV hsub),h6⟩,h7⟩
theorem SX{w:World}{L:Lx}:∀{gs:List Nat} {xs:List Mw},gs.length=xs.length->(∀b∈gs,some b ∉ L∧b<w.heap.size)->(∀(k b:Nat) (x:Mw),gs[k]? = some b->xs[k]? = some x->MapIs (bM kT) (fun v:Int=>Value.int .u16 v) w b x)->RowsOf (rp mT) L w (gs.map mv) xs
 | [],[],_,_,_=>rfl
 | b::gs,x::xs,hl,hL,hm=>⟨[mv b],gs.map mv,rfl,⟨b,xO x,rfl,(hL b (by simp)).1,(hL b (by simp)).2,aar (hm 0 b x rfl rfl),DmD.iff.2 (Qr _ _ x)⟩,
   SX (by simpa using hl) (fun c hc=>hL c (zO _ hc)) fun k c y h1 h2=>hm (k+1) c y h1 h2⟩
theorem afv{B0:Nat->Prop}{F L:Lx}{w:World}{g n:Nat}{gs:List Nat}{xs:List Mw}(hr:RowI B0 F w g n gs xs)(hgs:gs.length=n)(hn:n≤1000)(hL:∀k∈g::gs,some k ∉ L)(pl:List Ev.Place) :
  Den pl L w (.d (.sl mT) xs) (.slice (some ⟨g,0,none⟩) n n):=by
 have hbx:=hr.bx;rw[hgs,Nat.sub_self,show zC 0 nmp=[] from rfl,List.append_nil]at hbx;have hl:=hr.len;have ho:=GA (t:=mT) (L:=L) (xs:=xs) hbx (SX hl (fun b hb=>⟨hL b (zO _ hb),hr.lt b (zO _ hb)⟩) hr.maps) (by omega);rw[<- hl,hgs]at ho;exact⟨_,ho.freeze (Sub.refl _ _) (fun k hk=>by cases hk;exact hL g (by simp)),rfl⟩
theorem SY{B0:Nat->Prop}{F F':Lx}{pl:List Ev.Place}{i:Nat}{f:Int×Int}{w:World}(hs:Sto B0 [] F pl [(i,.box 33 [.d kT f.1,.d kT f.2])] w)
  (hF:∀k,some k∈F'->some k ∉ lx pl [(i,Ent.box 33 [.d kT f.1,.d kT f.2])]∧k<w.heap.size):Sto B0 [] F' pl [(i,.box 33 [.d kT f.1,.d kT f.2])] w:=by
 refine⟨hs.pair,hs.lo,hs.hi,hF,hs.pre,fun e he=>?_⟩;obtain rfl:=List.mem_singleton.1 he;obtain⟨g,n,c,us,h1,h2,⟨v,q,rfl,⟨cs,h3,h4⟩,v',q',rfl,⟨cs',h5,h6⟩,rfl⟩,h7⟩:=hs.ent _ (List.mem_singleton.2 rfl);exact⟨g,n,c,_,h1,h2,⟨v,_,rfl,⟨cs,h3,h4⟩,v',_,rfl,⟨cs',h5,h6⟩,rfl⟩,h7⟩
def wSG(f:Int×Int):St:={ fr:=[(4,.d (.sl mT) []),(5,.pb 1 0)],nt:=92,up:=[],own:=[(1,.box 33 [.d kT f.1,.d kT f.2])],nx:=2,log:=[],ln:=0 }
theorem ams(f:Int×Int):∃S1,nrm Tryz.prog ⟨[],[4,5]⟩ (wSG f)=some S1∧jL Tryz.prog S1 Tryz.f33.results.toList (fun ss=>some ss)=some [.d (.sl mT) [],.d sZ f]:=⟨{ fr:=[(4,.d (.sl mT) []),(5,.pb 0 0)],nt:=92,up:=[],own:=[(0,.box 33 [.d kT f.1,.d kT f.2])],nx:=1,log:=[],ln:=0 },by kernel_rfl,by kernel_rfl⟩
theorem ak3{vc:Vc}{vf:Vf}{vw:Vw}(hc:au Tryz.prog (fun _=>True) 65 ⟨vcS,vc⟩)(hf:au Tryz.prog (fun _=>True) 15 ⟨vfS,vf⟩)(hw:au Tryz.prog (fun _=>True) 66 ⟨vwS,vw⟩)(F M:Lx)(w0:World)(x:As oH.ps)(y:As oH.rs)(vs:List Value)
  (hx:C9 vc vf vw x=some y) (hL:LOk (Bo [] [] w0) (lx [] []) F w0) (hM:∀k,some k∈M->k<w0.heap.size) (hD:DenL [] (lx [] []++F) w0 [SV.d bX x.1,SV.d oG x.2.1] vs) :
  Calls Tryz.prog 33 vs.toArray w0 (fun e w'=>∃us,e = .returned (pI us)∧After oH y (F++M) w0 [] [] w' us):=by
 obtain⟨t,r,u0⟩:=x
 have hx:(vc (t,r,())).bind (fun f=>if (!(eqi f.1.1 0 && (eqi f.1.2 0 && true)))=true then some (([],f.1,()):As oH.rs) else
  if (okT t && okP r.2 && decide ((show List (Vl wB) from t).length≤1000))=true then (yH vf vw t r.2 (zC (show List (Vl wB) from t).length [])).bind (fun l=>some (l,(0,0),())) else none)=some y:=hx
 obtain⟨f,hvc,hx⟩:=bK hx;obtain⟨u1,q1,rfl,d0,u2,q2,rfl,d1,rfl⟩:=hD
 have hLM:LOk (Bo [] [] w0) (lx [] []) (F++M) w0:=⟨hL.pair,hL.lo,hL.hi,hL.base,fun k hk=>by
  rcases List.mem_append.1 hk with hk | hk
  ·exact hL.far k hk
  ·refine⟨fun hb=>?_,hM k hk⟩
   rcases hb with hb | hb
   ·cases hb
   ·have:=hM k hk;omega⟩
 have henv:iK Tryz.prog (fun _=>True) (fJ vc vf vw):=av hc (av hf (av hw bN));obtain⟨B0,hB0⟩:∃B0,B0=Bo [] [] w0:=⟨_,rfl⟩;have hbase:∀k,w0.heap.size≤k->B0 k:=fun k hk=>by subst hB0;exact .inr hk
 have old:∀{G:Lx} {pl:List Ev.Place} {own:List (Nat×Ent)} {W:World},Sto B0 [] G pl own W->w0.heap.size≤W.heap.size->(∀k,some k∈F->some k∈G)->∀k,some k∈F++M->some k ∉ lx pl own∧k<W.heap.size:=fun {G} {pl} {own} {W} hs hz hG k hk=>by
  rcases List.mem_append.1 hk with hk | hk
  ·exact hs.far k (hG k hk)
  ·have:=hM k hk
   refine⟨fun hm=>?_,by omega⟩;have hb:=hs.lo k hm;subst hB0;rcases hb with hb | hb
   ·cases hb
   ·omega
 have hst0:Sto B0 [] F [] [] w0:=⟨List.Pairwise.nil,(fun k hk=>by cases hk),(fun k hk=>by cases hk),fun k hk=>⟨(fun hx=>by cases hx),(hL.far k hk).2⟩,fun _ _ h=>h,(fun e he=>by cases he)⟩;refine enter (f:=33) (args:=[u1,u2]) Tryz.func33 akM rfl (l:=u1::u2::zC 90 undef) rfl ?_;generalize hR:(fun (e:Ending) (w':World)=>∃us,e = .returned (pI us)∧After oH y (F++M) w0 [] [] w' us)=R;have hRe:∀{W:World} {us:List Value},After oH y (F++M) w0 [] [] W us->R (.returned (pI us)) W:=fun h=>by subst hR;exact⟨_,rfl,h⟩
 have hfr0:FrD [] (lx [] []++F) w0 [(0,.d bX t),(1,.d oG r)] (u1::u2::zC 90 undef):=iJ d0 (iJ d1 kI);have p:=lM (S:=wS0 t r) (l:=u1::u2::zC 90 undef) henv (cO hbase (Nat.le_refl _) hst0) hst0 rfl rfl rfl rfl hfr0 (amo vc vf vw t r);refine gT (jh p ?_);rintro e a w1 ⟨pl1,l1,rfl,rfl,hl1,hp1,s1,f1,b1⟩;have b1':Blw B0 w0 w1:=jd b1 (cO hbase (Nat.le_refl _) hst0);have z1:=b1'.size;refine⟨l1,rfl,gT ?_⟩;by_cases hfz:(!(eqi f.1.1 0 && (eqi f.1.2 0 && true)))=true
 ·-- a fault
  rw[if_pos hfz]at hx;cases hx;have p:=lM (S:=wSX t r (0,0)) (l:=l1) henv (cO hbase z1 s1) s1 rfl hp1.symm rfl hl1 f1 (S1:=wSX t r f.1) (e0:=.r) (by rw[agH,hvc,zB,if_pos hfz]);refine jh p ?_;rintro e a w2 ⟨pl2,l2,rfl,rfl,hl2,hp2,s2,f2,b2⟩;have b2':=b1'.trans (jd b2 (cO hbase z1 s1));have s3:Sto B0 [] (F++M) pl2 (wSG f.1).own w2:=SY (s2.sub (own':=[(1,.box 33 [.d kT f.1.1,.d kT f.1.2])]) (List.Sublist.cons _ (List.Sublist.refl _)) (fun _ _ h=>by cases h)) (old (s2.sub (p1:=[]) (own':=[(1,.box 33 [.d kT f.1.1,.d kT f.1.2])]) (List.Sublist.cons _ (List.Sublist.refl _)) (fun _ _ h=>by cases h)) b2'.size (fun _ h=>h))
  have f3:FrD pl2 (lx pl2 (wSG f.1).own++(F++M)) w2 (wSG f.1).fr l2:=by
   refine iJ ?_ (iJ ?_ kI)
   ·have:l2.getD 4 undef = .slice none 0 0:=f2 4 _ rfl
    rw[this];exact⟨[.slice none 0 0],(Ow.nil (rp mT) 0 (lx pl2 (wSG f.1).own++(F++M)) w2).freeze (Sub.refl _ _) (fun k hk=>by cases hk),rfl⟩
   ·obtain⟨a,n',c',h1,h2⟩:=f2 5 _ rfl
    exact⟨a,n',c',h1,h2⟩
  obtain⟨S1,y1,y2⟩:=ams f.1;obtain⟨pl',us,y3,y4⟩:=agI (cO hbase b2'.size s3) s3 rfl hp2.symm rfl hl2 f3 y1 y2;refine y4 R (hRe ?_);subst hB0;exact SS hLM (fun _ h=>h) b2' y3
 rw[if_neg hfz]at hx;split at hx
 case isFalse=>cases hx
 rename_i hok;simp only[zL,decide_eq_true_eq]at hok;obtain⟨⟨hot,hop⟩,hn⟩:=hok;obtain⟨xsE,hwE,hx⟩:=bK hx;cases hx;have p:=lM (S:=wSX t r (0,0)) (l:=l1) henv (cO hbase z1 s1) s1 rfl hp1.symm rfl hl1 f1 (S1:=wSX t r (0,0)) (e0:=.n) (by rw[agH,hvc,zB,if_neg hfz]);refine jh p ?_;rintro e a w2 ⟨pl2,l2,rfl,rfl,hl2,hp2,s2,f2,b2⟩;have b2':=b1'.trans (jd b2 (cO hbase z1 s1));have z2:=b2'.size;refine⟨l2,rfl,gT ?_⟩;obtain⟨n,hnn⟩:∃n,n=(show List (Vl wB) from t).length:=⟨_,rfl⟩;rw[<- hnn]at hn hwE;refine jh (akV (fr:=(wSX t r (0,0)).fr) (t:=t) hnn.symm hn s2 (fun k hk=>hbase k (Nat.le_trans z2 hk)) hl2 f2 rfl (fun j hj=>by simp at hj;rcases hj with rfl | rfl | rfl | rfl<;>rfl)) ?_;rintro e a w3 ⟨l3,g,rfl,rfl,hl3,r3,s3,b3,f3,d7⟩;have b3':=b2'.trans b3;have z3:=b3'.size;refine⟨l3,rfl,gT (gT ?_)⟩;have f3':FrD pl2 (lx pl2 (wSX t r (0,0)).own++FM F g []) w3 [(0,.d bX t),(3,.pb 0 0),(5,.pb 1 0)] l3:=iJ (f3 0 _ rfl) (iJ (f3 3 _ rfl) (iJ (f3 5 _ rfl) kI));refine jh (ak1 (n:=n) (a:=some ⟨g,0,none⟩) (c:=n) rfl hl3 f3' d7 (fun j hj=>by simp at hj;rcases hj with rfl | rfl | rfl<;>rfl)) ?_;rintro e a w4 ⟨l4,rfl,rfl,hl4,rfl,f4⟩;refine⟨l4,rfl,uZ ?_⟩;refine jh (afs (r:=r) henv hbase hn z3 r3 s3 hp2 hl4 f4) ?_;rintro e a w5 ⟨l5,pl5,gs,rfl,rfl,hl5,hp5,hgs,r5,s5,b5,f5⟩;have b5':=b3'.trans b5;have z5:=b5'.size;refine⟨l5,rfl,gT (gT ?_)⟩;have p:=lM (S:=w0S (jP t (.slice (some ⟨g,0,none⟩) n n) n n) r) (l:=l5) henv (cO hbase z5 s5) s5 rfl hp5.symm rfl hl5 f5 (amh vc vf vw t r (.slice (some ⟨g,0,none⟩) n n) n n);refine jh p ?_;rintro e a w6 ⟨pl6,l6,rfl,rfl,hl6,hp6,s6,f6,b6⟩;have r6:=r5.over s5 b6;have b6':=b5'.trans (jd b6 (cO hbase z5 s5));have z6:=b6'.size;refine⟨l6,rfl,uZ ?_⟩;refine jh (afu henv hbase hot hop hgs z6 r6 s6 hp6 hl6 f6 hwE) ?_;rintro e a w7 ⟨l7,pl7,rfl,rfl,hl7,hp7,r7,s7,b7,f7⟩;have b7':=b6'.trans b7;have z7:=b7'.size;refine⟨l7,rfl,?_⟩
 have hnot:∀k∈g::gs,some k ∉ lx pl7 ku++(F++M):=fun k hk hm=>by
  rcases List.mem_append.1 hm with hm | hm
  ·exact (s7.far k (fH.2 (.inr hk))).1 hm
  ·rcases List.mem_append.1 hm with hm | hm
   ·exact r7.far k hk hm
   ·have:=hM k hm
    have hb:=r7.own k hk;subst hB0;rcases hb with hb | hb
    ·cases hb
    ·omega
 have s8:Sto B0 [] (F++M) pl7 ku w7:=SY (f:=(0,0)) s7 (old s7 z7 (fun k hk=>fH.2 (.inl hk)))
 have f8:FrD pl7 (lx pl7 ku++(F++M)) w7 (wSE xsE).fr l7:=by
  refine iJ ?_ (iJ ?_ kI)
  ·have:l7.getD 7 undef = .slice (some ⟨g,0,none⟩) n n:=f7 7 _ rfl
   rw[this];exact afv r7 hgs hn hnot pl7
  ·obtain⟨a,n',c',h1,h2⟩:=f7 5 _ rfl
   exact⟨a,n',c',h1,h2⟩
 have p:=lM (S:=wSE xsE) (l:=l7) henv (cO hbase z7 s8) s8 rfl hp7.symm rfl hl7 f8 (amq vc vf vw xsE);refine jh p ?_;rintro e a w9 ⟨pl9,l9,rfl,rfl,hl9,hp9,s9,f9,b9⟩;have b9':=b7'.trans (jd b9 (cO hbase z7 s8));obtain⟨S1,y1,y2⟩:=amr xsE;obtain⟨pl',us,y3,y4⟩:=agI (cO hbase b9'.size s9) s9 rfl hp9.symm rfl hl9 f9 y1 y2;refine y4 R (hRe ?_);subst hB0;exact SS hLM (fun _ h=>h) b9' y3
theorem atl{I:World->Prop}{vc:Vc}{vf:Vf}{vw:Vw}(hc:au Tryz.prog (fun _=>True) 65 ⟨vcS,vc⟩)(hf:au Tryz.prog (fun _=>True) 15 ⟨vfS,vf⟩)(hw:au Tryz.prog (fun _=>True) 66 ⟨vwS,vw⟩):au Tryz.prog I 33 ⟨oH,C9 vc vf vw⟩:=by intro F w0 pl0 x y ss own vs hx hA hpl hI0 hL hE hD;have hA:some ([SV.d bX x.1,SV.d oG x.2.1],[])=some (ss,own):=hA;cases hA;have hpl:pl0.length=0:=hpl;obtain rfl:=List.eq_nil_of_length_eq_zero hpl;have:=ak3 hc hf hw F [] w0 x y vs hx hL (fun k hk=>by cases hk) hD;rw[List.append_nil]at this;exact this
@[reducible] def Da:Sh:=⟨[.d bX,.agg [.d .str,.row 0]],[.row cr 43],[bX,.str,.sl cr],[.d (.sl mT),.d sZ],[(0,.row cr 43)],0,[.sl mT,sZ,.sl cr]⟩
def aas(c:Vc)(d:Vf)(e:Vw)(a:As Da.ps):Option (As Da.rs):=(C9 c d e (a.1,(a.2.1,a.2.2.1),())).map fun b=>(b.1,b.2.1,a.2.2.1,())
theorem atm{I:World->Prop}{vc:Vc}{vf:Vf}{vw:Vw}(hc:au Tryz.prog (fun _=>True) 65 ⟨vcS,vc⟩)(hf:au Tryz.prog (fun _=>True) 15 ⟨vfS,vf⟩)(hw:au Tryz.prog (fun _=>True) 66 ⟨vwS,vw⟩):au Tryz.prog I 33 ⟨Da,aas vc vf vw⟩:=by
 intro F w0 pl x y ss own vs hx hA hpl hI0 hL hE hD;obtain⟨t,nm',ps,u0⟩:=x;have hA:some ([SV.d bX t,SV.agg [.d .str nm',.row 0]],[(0,Ent.row cr 43 ps)])=some (ss,own):=hA;cases hA;have hpl:pl.length=1:=hpl;obtain⟨z,hz,hy⟩:=Option.map_eq_some_iff.1 (show (C9 vc vf vw (t,(nm',ps),())).map (fun y=>((y.1,y.2.1,ps,()):As Da.rs))=some y from hx);subst hy;obtain⟨ms,f,u'⟩:=z;obtain⟨u1,q1,rfl,d0,u2,q2,rfl,d1,rfl⟩:=hD;obtain⟨cs,⟨c1,r1,rfl,e1,c2,r2,rfl,⟨p,hp,rfl⟩,rfl⟩,e2⟩:=d1;obtain⟨p',hp',how⟩:=hE (0,.row cr 43 ps) (by simp);have hp':pl[0]? = some p':=hp';rw[hp]at hp';cases hp';have how:Ow (rp cr) 43 (lx pl [(0,Ent.row cr 43 ps)]++F) w0 p.a p.n p.c ps:=how;have hlx:lx pl [(0,Ent.row cr 43 ps)]=[blk p.a]:=by simp[lx,plb,hp]
 have hfar:∀j,blk p.a=some j->some j ∉ F:=fun j hj hF=>(hL.far j hF).1 (.inl (by rw[hlx,hj];simp));have hsub:∀k,some k∈lx [] []++F->some k∈lx pl [(0,Ent.row cr 43 ps)]++F:=fun k hk=>List.mem_append_right _ (by simpa [lx]using hk)
 have hmono:∀j,Bo [] [] w0 j->Bo pl [(0,Ent.row cr 43 ps)] w0 j:=fun j hj=>by
  rcases hj with hj | hj
  ·cases hj
  ·exact .inr hj
 have hM:∀k,some k∈lx pl [(0,Ent.row cr 43 ps)]->k<w0.heap.size:=fun k hk=>hL.hi k hk;have e1':Den [] (lx [] []++F) w0 (.d .str nm') c1:=by obtain⟨cs,h1,h2⟩:=e1;exact⟨cs,Rp.grow _ h1 (gV hsub),h2⟩
 have ep:Den [] (lx [] []++F) w0 (.d (.sl cr) ps) (.slice p.a p.n p.c) :=
  ⟨[.slice p.a p.n p.c],how.freeze (gV hsub) (fun j hj hm=>hfar j hj (by simpa [lx]using hm)),rfl⟩
 have dr:Den [] (lx [] []++F) w0 (.d oG (nm',ps)) u2:=by obtain⟨cs,h1,h2⟩:=jo (t:=oG) (s:=.agg [.d .str nm',.d (.sl cr) ps]) (x:=(nm',ps)) (by rfl) ⟨_,⟨c1,_,rfl,e1',_,_,rfl,ep,rfl⟩,e2⟩;exact⟨cs,h1,h2⟩
 have d0':Den [] (lx [] []++F) w0 (.d bX t) u1:=by obtain⟨cs,h1,h2⟩:=d0;exact⟨cs,Rp.grow _ h1 (gV hsub),h2⟩
 have hL0:LOk (Bo [] [] w0) (lx [] []) F w0:=⟨List.Pairwise.nil,(fun j hj=>by cases hj),(fun j hj=>by cases hj),fun j hj=>.inr hj,fun j hj=>⟨fun hb=>by
   rcases hb with hb | hb
   ·cases hb
   ·have:=(hL.far j hj).2;omega,(hL.far j hj).2⟩⟩
 have hcall:=ak3 hc hf hw F (lx pl [(0,Ent.row cr 43 ps)]) w0 (t,(nm',ps),()) (ms,f,u') [u1,u2] hz hL0 hM ⟨u1,[u2],rfl,d0',u2,[],rfl,dr,rfl⟩;refine hcall.mono fun en w' he=>?_;obtain⟨us,rfl,pl',rr,own',hfa,_,hl,hb,hL2,hE2,hD2⟩:=he;have hfa:some ([SV.d (.sl mT) ms,SV.d sZ f],[])=some (rr,own'):=hfa;cases hfa
 have hfz:Fz [] w0 w':=hb.fz fun j hj hbo=>by
  rcases hbo with hb | hb
  ·cases hb
  ·omega
 have st0:Sto (Bo pl [(0,Ent.row cr 43 ps)] w0) [] [] pl [(0,.row cr 43 ps)] w0:=⟨hL.pair,hL.lo,hL.hi,(fun k hk=>by cases hk),(fun _ _ h=>by cases h),hE.sub (fun k hk=>by rw[List.append_nil]at hk;exact List.mem_append_left _ hk)⟩;have st1:=st0.turn hfz;have keep:EntsD pl (lx pl [(0,Ent.row cr 43 ps)]++F) w' [(0,.row cr 43 ps)]:=by intro e he;obtain rfl:=List.mem_singleton.1 he;exact⟨p,hp,how.1,how.2.step (M:=[]) hfz ED (Sub.refl _ _) aaH⟩
 obtain⟨v,q,h1,⟨cs1,h2,h3⟩,v',q',h4,⟨cs2,h5,h6⟩,h7⟩:=hD2
 have hs2:∀k,some k∈lx pl [(0,Ent.row cr 43 ps)]++F->some k∈lx pl' []++(F++lx pl [(0,Ent.row cr 43 ps)]):=fun k hk=>by
  refine List.mem_append_right _ ?_;rcases List.mem_append.1 hk with hk | hk
  ·exact List.mem_append_right _ hk
  ·exact List.mem_append_left _ hk
 refine⟨us,rfl,pl,[.d (.sl mT) ms,.d sZ f],[(0,.row cr 43 ps)],rfl,fun _ _ h=>h,hpl,jd hb hmono,⟨hL.pair,hL.lo,fun k hk=>Nat.lt_of_lt_of_le (hL.hi k hk) hb.size,hL.baseS hb.size,hL.farS hb.size⟩,keep,?_⟩;exact⟨v,q,h1,⟨cs1,Rp.grow _ h2 (gV hs2),h3⟩,v',q',h4,⟨cs2,Rp.grow _ h5 (gV hs2),h6⟩,h7⟩
end Go.Proofs.Lx
end
noncomputable section
set_option maxRecDepth 100000
namespace Go.Proofs.Lx
open Go Go.Proofs Ev Sx
def Kn(x:As oH.ps):Option (As oH.rs):=C9 O5 lq lu x
theorem atn{I:World->Prop}:au Tryz.prog I 33 ⟨oH,Kn⟩:=atl aja IX acO
def X9(x:As Da.ps):Option (As Da.rs):=aas O5 lq lu x
theorem ato{I:World->Prop}:au Tryz.prog I 33 ⟨Da,X9⟩:=atm aja IX acO
end Go.Proofs.Lx
end
noncomputable section
set_option maxRecDepth 100000
namespace Go.Proofs.Lx
open Go Ev Sx Pl
abbrev EnL:=List (Int×Int)
def gQ(m L:EnL):EnL:=L.foldl (fun m e=>dh kT m e.1 e.2) m
theorem Qs(m:EnL)(k v j:Int):bq kT (dh kT m k v) j=if k=j then some v else bq kT m j:=by
 have:=CV (kt:=kT) CX (V:=Int) k v j m;rw[this];by_cases h:k=j
 ·rw[if_pos h,if_pos ((CX _ _).2 h)]
 ·rw[if_neg h,if_neg (fun e=>h ((CX _ _).1 e))]
theorem xP:∀(L:EnL) (m:EnL) (a w:Int),bq kT (gQ m L) a=some w->(a,w)∈L∨bq kT m a=some w
 | [],_,_,_,h=>.inr h
 | e::q,m,a,w,h=>by
  rcases xP q _ a w h with h | h
  ·exact .inl (zO _ h)
  ·rw[Qs]at h
   split at h
   ·rename_i he
    cases h
    subst he;exact .inl (List.mem_cons_self ..)
   ·exact .inr h
theorem S7:∀(L:EnL) (m:EnL) (a:Int),(bq kT m a).isSome=true∨(∃w,(a,w)∈L)->(bq kT (gQ m L) a).isSome=true
 | [],_,_,h=>h.elim id fun ⟨w,h⟩=>by cases h
 | e::q,m,a,h=>by
  refine S7 q _ a ?_;rw[Qs];rcases h with h | ⟨w,h⟩
  ·left
   split
   ·rfl
   ·exact h
  ·rcases List.mem_cons.1 h with h | h
   ·subst h
    left;rw[if_pos rfl];rfl
   ·exact .inr ⟨w,h⟩
def Func(L:EnL):Prop:=∀a w v,(a,w)∈L->(a,v)∈L->w=v
theorem Qt{L:EnL}(h:Func L)(a w:Int):bq kT (gQ [] L) a=some w↔(a,w)∈L:=by
 constructor
 ·intro he
  rcases xP L [] a w he with h | h
  ·exact h
  ·cases h
 ·intro he
  have:=S7 L [] a (.inr ⟨w,he⟩)
  cases hd:bq kT (gQ [] L) a with
  | none=>rw[hd]at this;cases this
  | some v =>
   rcases xP L [] a v hd with h' | h'
   ·rw[h a w v he h']
   ·cases h'
theorem aat(m:EnL)(k v:Int):(m.map (·.1)).Nodup->((dh kT m k v).map (·.1)).Nodup∧∀x,x∈(dh kT m k v).map (·.1)->x=k∨x∈m.map (·.1):=by
 induction m with
 | nil=>intro _;exact⟨by simp[dh],by simp[dh]⟩
 | cons e q ih =>
  intro h;obtain⟨a,b⟩:=e;rw[List.map_cons,List.nodup_cons]at h;unfold dh;by_cases hk:keq kT a k=true
  ·rw[if_pos hk]
   have:=(CX _ _).1 hk;subst this;refine⟨by rw[List.map_cons,List.nodup_cons];exact h,fun x hx=>?_⟩;exact .inr hx
  ·rw[if_neg hk]
   obtain⟨h1,h2⟩:=ih h.2;have hne:a≠k:=fun e=>hk ((CX _ _).2 e);refine⟨?_,fun x hx=>?_⟩
   ·rw[List.map_cons,List.nodup_cons]
    refine⟨fun hm=>?_,h1⟩;rcases h2 _ hm with h3 | h3
    ·exact hne h3
    ·exact h.1 h3
   ·rw[List.map_cons]at hx
    rcases List.mem_cons.1 hx with h3 | h3
    ·exact .inr (by rw[h3];exact List.mem_cons_self ..)
    ·rcases h2 _ h3 with h4 | h4
     ·exact .inl h4
     ·exact .inr (zO _ h4)
theorem HV:∀(L m:EnL),(m.map (·.1)).Nodup->((gQ m L).map (·.1)).Nodup
 | [],_,h=>h
 | e::q,m,h=>HV q _ (aat m e.1 e.2 h).1
theorem LF{m:EnL}{k:Int}:bq kT m k=none↔k ∉ m.map (·.1):=by
 induction m with
 | nil=>simp[bq]
 | cons e q ih =>
  obtain⟨a,b⟩:=e;unfold bq;by_cases hk:keq kT a k=true
  ·rw[if_pos hk]
   have:=(CX _ _).1 hk;subst this;simp
  ·rw[if_neg hk,ih]
   have hne:a≠k:=fun e=>hk ((CX _ _).2 e);simp only[List.map_cons,List.mem_cons,not_or];exact⟨fun h=>⟨fun e=>hne e.symm,h⟩,fun h=>h.2⟩
def wrP(b:bG)(c:List TPt):EnL:=(c.filter fun a=>eqs a.1 b.1).map fun a=>(a.2.1,(kN a b).1)
def wrS(a:List TPt)(c:List bG):EnL:=c.flatMap fun b=>wrP b a
def wrD(a:fZ)(c:List ak):EnL:=c.flatMap fun b=>if eqs a.1 b.1=true then wrS a.2 b.2.2 else []
def Bf(a:List TPt):Prop:=∀p∈a,PtR p∧rgt p.2.2.2.2.1=true∧rgt p.2.2.2.2.2.1=true
theorem Ko{s:bG}(hs:0≤s.2.1.2):∀{qs:List TPt} (m:EnL),Bf qs->yG lu s qs m=some (gQ m (wrP s qs))
 | [],_,_=>rfl
 | p::q,m,h=>by
  have hp:=h p (by simp);have hq:Bf q:=fun x hx=>h x (zO _ hx);unfold yG;by_cases hb:eqs p.1 s.1=true
  ·rw[if_pos hb,Qo hp.1 hp.2.1 hp.2.2 hs,zB,Ko hs _ hq]
   show _=some (gQ m (wrP s (p::q)));unfold wrP;rw[List.filter_cons_of_pos (p:=fun p:TPt=>eqs p.1 s.1) hb];rfl
  ·rw[if_neg hb,Ko hs _ hq]
   unfold wrP;rw[List.filter_cons_of_neg (p:=fun p:TPt=>eqs p.1 s.1) (by simpa using hb)]
theorem Qu(m L K:EnL):gQ m (L++K)=gQ (gQ m L) K:=by unfold gQ;rw[List.foldl_append]
theorem Qv{qs:List TPt}(h:Bf qs):∀{ss:List bG} (m:EnL),(∀s∈ss,0≤s.2.1.2)->xN lu qs ss m=some (gQ m (wrS qs ss))
 | [],_,_=>rfl
 | s::r,m,hs=>by unfold xN;rw[Ko (hs s (by simp)) m h,zB,Qv h _ fun x hx=>hs x (zO _ hx)];show _=some (gQ m (wrP s qs++wrS qs r));rw[Qu]
def Ya(t:bU):Prop:=∀(i j:Nat) (d e:fZ),t[i]? = some d->t[j]? = some e->d.1=e.1->i=j
theorem ql{a b:List UInt8}:eqs a b=true↔a=b:=lZ
theorem afw{t:bU}(hl:t.length≤1000000)(hd:Ya t)(hg:∀d∈t,Bf d.2){y:ak}(hy:∀s∈y.2.2,0≤s.2.1.2){xs:List EnL}(hx:xs.length=t.length) :
  ∃xs',Hy lq lu t y xs=some xs'∧xs'.length=t.length∧∀(i:Nat) (d:fZ) (m:EnL),t[i]? = some d->xs[i]? = some m->xs'[i]? = some (gQ m (if eqs d.1 y.1=true then wrS d.2 y.2.2 else [])):=by
 unfold Hy;rw[find_eq hl,zB]
 cases hz:eD (fun d=>eqs d.1 y.1) t 0 with
 | none =>
  refine⟨xs,rfl,hx,fun i d m hi hm=>?_⟩;have:=CS hz d (zT hi);rw[if_neg (by rw[this];decide),hm];rfl
 | some z =>
  obtain⟨z1,z2⟩:=z;obtain⟨hm,hi,hn⟩:=oF hz;have hlt:=(List.getElem?_eq_some_iff.1 hi).1;obtain⟨m0,hm0⟩:∃m,xs[z1]? = some m:=⟨_,zQ (by omega)⟩;dsimp only;rw[if_pos rfl,gK hi,zB,gK hm0,zB,Qv (hg z2 hm) _ hy,zB,zM];refine⟨_,rfl,by rw[List.length_set,hx],fun i d m hi' hm'=>?_⟩;by_cases he:z1=i
  ·subst he
   rw[hi]at hi';cases hi';rw[hm0]at hm';cases hm';rw[if_pos hn,List.getElem?_set_self (by omega)]
  ·rw[List.getElem?_set_ne he,hm']
   have:¬ eqs d.1 y.1=true:=fun e=>he (hd z1 i z2 d hi hi' (by rw[ql.1 hn,ql.1 e]));rw[if_neg this];rfl
theorem S8{t:bU}(hl:t.length≤1000000)(hd:Ya t)(hg:∀d∈t,Bf d.2):∀{ps:List ak} (_:∀y∈ps,∀s∈y.2.2,0≤s.2.1.2) {xs:List EnL} (_:xs.length=t.length),
  ∃xs',yH lq lu t ps xs=some xs'∧xs'.length=t.length∧∀(i:Nat) (d:fZ) (m:EnL),t[i]? = some d->xs[i]? = some m->xs'[i]? = some (gQ m (wrD d ps))
 | [],_,xs,hx=>⟨xs,rfl,hx,fun i d m _ hm=>hm⟩
 | y::q,hy,xs,hx=>by
  obtain⟨x1,h1,h2,h3⟩:=afw hl hd hg (hy y (by simp)) hx;obtain⟨x2,h4,h5,h6⟩:=S8 hl hd hg (fun z hz=>hy z (zO _ hz)) h2;refine⟨x2,?_,h5,fun i d m hi hm=>?_⟩
  ·unfold yH
   rw[h1,zB,h4]
  ·rw[h6 i d _ hi (h3 i d m hi hm),<- Qu]
   rfl
def fU(c:bU)(b:List ak):List EnL:=c.map fun a=>gQ [] (wrD a b)
theorem aau{t:bU}(hl:t.length≤1000000)(hd:Ya t)(hg:∀d∈t,Bf d.2){ps:List ak}(hy:∀y∈ps,∀s∈y.2.2,0≤s.2.1.2):yH lq lu t ps (zC t.length [])=some (fU t ps):=by
 obtain⟨xs,h1,h2,h3⟩:=S8 hl hd hg hy (xs:=zC t.length []) (by simp);rw[h1]
 congr 1
 refine List.ext_getElem? fun i=>?_;unfold fU;rw[List.getElem?_map]
 cases hi:t[i]? with
 | none =>
  rw[List.getElem?_eq_none_iff]at hi;rw[List.getElem?_eq_none (by omega)];rfl
 | some d =>
  have hlt:=(List.getElem?_eq_some_iff.1 hi).1;exact h3 i d [] hi (by rw[List.getElem?_replicate,if_pos hlt])
theorem Qw:∀{q:bU} {N:List (List UInt8)},Ba q N=true->(q.map (·.1)).Nodup∧∀d∈q,d.1 ∉ N
 | [],_,_=>⟨by simp,(fun d hd=>by cases hd)⟩
 | x::q,N,h=>by
  rw[Ba]at h;simp only[zL,Bool.not_eq_true',decide_eq_false_iff_not]at h;obtain⟨h1,h2⟩:=Qw h.2.2;refine⟨by rw[List.map_cons,List.nodup_cons];refine⟨fun hm=>?_,h1⟩;obtain⟨e,he,h3⟩:=List.mem_map.1 hm;exact h2 e he (by rw[h3];exact List.mem_cons_self ..),fun d hd=>?_⟩;rcases List.mem_cons.1 hd with rfl | hd
  ·exact h.2.1
  ·exact fun hm=>h2 d hd (zO _ hm)
theorem FY:∀{q:List TPt} {N:List (List UInt8)} {A:List Int},A9 q N A=true->((q.map (·.1)).Nodup∧∀d∈q,d.1 ∉ N)∧((q.map (·.2.1)).Nodup∧∀d∈q,d.2.1 ∉ A)
 | [],_,_,_=>⟨⟨by simp,(fun d hd=>by cases hd)⟩,⟨by simp,(fun d hd=>by cases hd)⟩⟩
 | x::q,N,A,h=>by
  rw[A9]at h;simp only[zL,Bool.not_eq_true',decide_eq_false_iff_not]at h;obtain⟨⟨h1,h2⟩,h3,h4⟩:=FY h.2.2.2;refine⟨⟨?_,fun d hd=>?_⟩,?_,fun d hd=>?_⟩
  ·rw[List.map_cons,List.nodup_cons];refine⟨fun hm=>?_,h1⟩;obtain⟨e,he,h5⟩:=List.mem_map.1 hm;exact h2 e he (by rw[h5];exact List.mem_cons_self ..)
  ·rcases List.mem_cons.1 hd with rfl | hd
   ·exact h.2.1
   ·exact fun hm=>h2 d hd (zO _ hm)
  ·rw[List.map_cons,List.nodup_cons];refine⟨fun hm=>?_,h3⟩;obtain⟨e,he,h5⟩:=List.mem_map.1 hm;exact h4 e he (by rw[h5];exact List.mem_cons_self ..)
  ·rcases List.mem_cons.1 hd with rfl | hd
   ·exact h.2.2.1
   ·exact fun hm=>h4 d hd (zO _ hm)
theorem Bg{α β:Type}{f:α->β}:∀{xs:List α},(xs.map f).Nodup->∀(i j:Nat) (a b:α),xs[i]? = some a->xs[j]? = some b->f a=f b->i=j
 | [],_,_,_,_,_,h,_,_=>by simp at h
 | x::q,h,i,j,a,b,hi,hj,he=>by
  rw[List.map_cons,List.nodup_cons]at h
  cases i with
  | zero =>
   cases j with
   | zero=>rfl
   | succ j =>
    simp at hi hj;subst hi;exact absurd (List.mem_map.2 ⟨b,zT hj,he.symm⟩) h.1
  | succ i =>
   cases j with
   | zero =>
    simp at hi hj;subst hj;exact absurd (List.mem_map.2 ⟨a,zT hi,he⟩) h.1
   | succ j =>
    simp at hi hj;rw[Bg h.2 i j a b hi hj he]
theorem rG{α β:Type}{f:α->β}{xs:List α}(h:(xs.map f).Nodup){a b:α}(ha:a∈xs)(hb:b∈xs)(he:f a=f b):a=b:=by obtain⟨i,hi⟩:=List.getElem?_of_mem ha;obtain⟨j,hj⟩:=List.getElem?_of_mem hb;have:=Bg h i j a b hi hj he;subst this;rw[hi]at hj;exact Option.some.inj hj
theorem oI{t:bU}(h:oD t=true):(t.map (·.1)).Nodup∧Ya t∧∀d∈t,sV d=true:=by unfold oD at h;simp only[zL]at h;have:=(Qw h.2.2).1;exact⟨this,fun i j d e hi hj he=>Bg this i j d e hi hj he,FT h.2.2⟩
theorem FZ{d:fZ}(h:sV d=true):(d.2.map (·.1)).Nodup∧(d.2.map (·.2.1)).Nodup∧∀p∈d.2,ptB p=true:=by have hp:=aah h;unfold sV at h;simp only[zL]at h;exact⟨(FY h.2.2).1.1,(FY h.2.2).2.1,hp⟩
theorem afx{t:bU}(h:oD t=true)(ht:Kj t):∀d∈t,Bf d.2:=fun d hd p hp=>⟨(ht.2 d hd).2 p hp,SC ((FZ ((oI h).2.2 d hd)).2.2 p hp)⟩
theorem F3{d:fZ}:∀{ss:List bG} {N:List (List UInt8)},fI d ss N=none->((ss.map (·.1)).Nodup∧∀s∈ss,s.1 ∉ N)∧∀s∈ss,∃z,eD (fun p=>eqs p.1 s.1) d.2 0=some z∧(kN z.2 s).2=0
 | [],_,_=>⟨⟨by simp,(fun d hd=>by cases hd)⟩,(fun d hd=>by cases hd)⟩
 | s::q,N,h=>by
  rw[fI]at h
  cases hz:eD (fun p=>eqs p.1 s.1) d.2 0 with
  | none=>rw[hz]at h;cases h
  | some z =>
   rw[hz]at h;dsimp only at h;by_cases h1:s.1∈N
   ·rw[if_pos h1]at h;cases h
   ·rw[if_neg h1]at h
    by_cases h2:(kN z.2 s).2=0
    ·rw[if_pos h2]at h
     obtain⟨⟨h3,h4⟩,h5⟩:=F3 h;refine⟨⟨?_,fun x hx=>?_⟩,fun x hx=>?_⟩
     ·rw[List.map_cons,List.nodup_cons];refine⟨fun hm=>?_,h3⟩;obtain⟨e,he,h6⟩:=List.mem_map.1 hm;exact h4 e he (by rw[h6];exact List.mem_cons_self ..)
     ·rcases List.mem_cons.1 hx with rfl | hx
      ·exact h1
      ·exact fun hm=>h4 x hx (zO _ hm)
     ·rcases List.mem_cons.1 hx with rfl | hx
      ·exact⟨z,hz,h2⟩
      ·exact h5 x hx
    ·rw[if_neg h2]at h;cases h
theorem o9{t:bU}:∀{ps:List ak} {N:List (List UInt8)},gF t ps N=none->((ps.map (·.1)).Nodup∧∀p∈ps,p.1 ∉ N)∧∀p∈ps,∃z,eD (fun d=>eqs d.1 p.1) t 0=some z∧fI z.2 p.2.2 []=none
 | [],_,_=>⟨⟨by simp,(fun d hd=>by cases hd)⟩,(fun d hd=>by cases hd)⟩
 | p::q,N,h=>by
  rw[gF]at h
  cases hz:eD (fun d=>eqs d.1 p.1) t 0 with
  | none=>rw[hz]at h;cases h
  | some z =>
   rw[hz]at h;dsimp only at h;by_cases h1:p.1∈N
   ·rw[if_pos h1]at h;cases h
   ·rw[if_neg h1]at h
    cases h2:fI z.2 p.2.2 []with
    | some f=>rw[h2]at h;cases h
    | none =>
     rw[h2]at h;dsimp only at h;obtain⟨⟨h3,h4⟩,h5⟩:=o9 h;refine⟨⟨?_,fun x hx=>?_⟩,fun x hx=>?_⟩
     ·rw[List.map_cons,List.nodup_cons];refine⟨fun hm=>?_,h3⟩;obtain⟨e,he,h6⟩:=List.mem_map.1 hm;exact h4 e he (by rw[h6];exact List.mem_cons_self ..)
     ·rcases List.mem_cons.1 hx with rfl | hx
      ·exact h1
      ·exact fun hm=>h4 x hx (zO _ hm)
     ·rcases List.mem_cons.1 hx with rfl | hx
      ·exact⟨z,hz,h2⟩
      ·exact h5 x hx
theorem LG{d:fZ}:∀{ss:List bG} {N:List (List UInt8)} {f:Int×Int},fI d ss N=some f->f.1=151∨f.1=152∨f.1=153
 | [],_,_,h=>by cases h
 | s::q,N,f,h=>by
  rw[fI]at h;split at h
  ·cases h;exact .inl rfl
  ·rename_i z hz
   split at h
   ·cases h;exact .inl rfl
   ·split at h
    ·exact LG h
    ·rename_i h2
     cases h
     rcases ahR z.2 s with h | h
     ·exact absurd h h2
     ·exact .inr h
theorem HY{t:bU}:∀{ps:List ak} {N:List (List UInt8)} {f:Int×Int},gF t ps N=some f->f.1=150∨f.1=151∨f.1=152∨f.1=153
 | [],_,_,h=>by cases h
 | p::q,N,f,h=>by
  rw[gF]at h;split at h
  ·cases h;exact .inl rfl
  ·split at h
   ·cases h;exact .inl rfl
   ·split at h
    ·rename_i g hg
     cases h
     exact .inr (LG hg)
    ·exact HY h
theorem yI(t:bU)(r:eT):(iP t r=(0,0)∧oD t=true∧eX r=true∧gF t r.2 []=none)∨((iP t r).1≠0∧(iP t r).1≠160):=by
 unfold iP;by_cases h:(oD t && eX r)=true
 ·rw[if_pos h]
  rw[zL]at h
  cases hp:gF t r.2 []with
  | none=>exact .inl ⟨rfl,h.1,h.2,rfl⟩
  | some f =>
   right;have:=HY hp;show f.1≠0∧f.1≠160;omega
 ·rw[if_neg h]
  right;decide
theorem Qx{t:bU}{r:eT}(hB:oD t=true)(hN:gF t r.2 []=none){d:fZ}(hd:d∈t):Func (wrD d r.2):=by
 obtain⟨⟨hps,_⟩,hz⟩:=o9 hN;obtain⟨hn,ha,_⟩:=FZ ((oI hB).2.2 d hd)
 have key:∀a w,(a,w)∈wrD d r.2->∃p∈r.2,d.1=p.1∧∃s∈p.2.2,∃q∈d.2,q.1=s.1∧q.2.1=a∧(kN q s).1=w:=by
  intro a w h;unfold wrD at h;obtain⟨p,hp,h⟩:=List.mem_flatMap.1 h;split at h
  ·rename_i he
   unfold wrS at h;obtain⟨s,hs,h⟩:=List.mem_flatMap.1 h;unfold wrP at h;obtain⟨q,hq,h⟩:=List.mem_map.1 h;obtain⟨hq1,hq2⟩:=List.mem_filter.1 hq;cases h;exact⟨p,hp,ql.1 he,s,hs,q,hq1,ql.1 hq2,rfl,rfl⟩
  ·cases h
 intro a w v h1 h2;obtain⟨p1,hp1,e1,s1,hs1,q1,hq1,f1,g1,k1⟩:=key a w h1;obtain⟨p2,hp2,e2,s2,hs2,q2,hq2,f2,g2,k2⟩:=key a v h2;have hp:p1=p2:=rG hps hp1 hp2 (by rw[<- e1,<- e2]);subst hp;have hq:q1=q2:=rG ha hq1 hq2 (by rw[g1,g2]);subst hq;obtain⟨z,_,hz2⟩:=hz p1 hp1;have hs:s1=s2:=rG (F3 hz2).1.1 hs1 hs2 (by rw[<- f1,<- f2]);subst hs;rw[<- k1,<- k2]
theorem uY{d:fZ}{ps:List ak}{a w:Int}:(a,w)∈wrD d ps ↔ ∃p∈ps,d.1=p.1∧∃s∈p.2.2,∃q∈d.2,q.1=s.1∧q.2.1=a∧(kN q s).1=w:=by
 unfold wrD wrS wrP;simp only[List.mem_flatMap];constructor
 ·rintro⟨p,hp,h⟩
  split at h
  ·rename_i he
   simp only[List.mem_flatMap,List.mem_map,List.mem_filter]at h;obtain⟨s,hs,q,⟨hq1,hq2⟩,h⟩:=h;cases h;exact⟨p,hp,ql.1 he,s,hs,q,hq1,ql.1 hq2,rfl,rfl⟩
  ·cases h
 ·rintro⟨p,hp,he,s,hs,q,hq,h1,h2,h3⟩
  refine⟨p,hp,?_⟩;rw[if_pos (ql.2 he)];simp only[List.mem_flatMap,List.mem_map,List.mem_filter];exact⟨s,hs,q,⟨hq,ql.2 h1⟩,by rw[h2,h3]⟩
theorem atp{t:bU}{r:eT}(ht:Kj t)(hr:FR r):Kn (t,r,())=if iP t r=(0,0) then some (fU t r.2,(0,0),()) else some ([],iP t r,()):=by
 have ht1:=ht.1
 show (O5 (t,r,())).bind (fun f=>if (!(eqi f.1.1 0 && (eqi f.1.2 0 && true)))=true then some (([],f.1,()):As oH.rs) else
  if (okT t && okP r.2 && decide (t.length≤1000))=true then (yH lq lu t r.2 (zC t.length [])).bind (fun l=>some (l,(0,0),())) else none)=_
 rw[afj ht hr,zB];dsimp only;rcases yI t r with ⟨h1,h2,h3,h4⟩ | ⟨h1,_⟩
 ·rw[h1,if_neg (by decide),if_pos rfl]
  have h5:okT t=true:=List.all_eq_true.2 fun d hd=>decide_eq_true (ht.2 d hd).1;have h6:okP r.2=true:=by unfold okP;rw[decide_eq_true hr.1];exact List.all_eq_true.2 fun p hp=>decide_eq_true (hr.2 p hp).1
  rw[h5,h6,decide_eq_true ht1,if_pos (show (true && true && true)=true from rfl),aau (by omega) (oI h2).2.1 (afx h2 ht) fun y hy=>(hr.2 y hy).2,zB]
 ·have:¬ iP t r=(0,0):=fun e=>h1 (by rw[e])
  rw[if_neg this,if_pos];have:eqi (iP t r).1 0=false:=by rw[Bool.eq_false_iff];exact fun e=>h1 (fQ.1 e)
  rw[this];rfl
end Go.Proofs.Lx
end
