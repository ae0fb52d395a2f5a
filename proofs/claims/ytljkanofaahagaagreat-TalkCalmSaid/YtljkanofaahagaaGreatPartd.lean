/- Proved in the last of these 16 parts (this is part 4): TalkCalm. Conditions: those of the given statement, and no others. -/
import Derived.Test.YtljkanofaahagaaGreatPartc
set_option linter.unusedVariables false
set_option linter.unusedSimpArgs false
set_option linter.unusedSectionVars false
open Option renaming bind_some → zD
open List renaming replicate → zE, mem_cons_of_mem → zT, getElem?_eq_getElem → zV, getElem?_eq_some_iff → zW, getD_eq_getElem?_getD → zX, length_append → zZ, length_take → kB
open Int renaming ofNat → zF
open Go.Result renaming andThen_ok → zL
open Bool renaming and_eq_true → zO
noncomputable section
namespace Ev
open Go Go.RowKit Sx Go.MapKept
section
variable {R:Type}
def II(P:Program)(S:St)(t:TypeId)(m:SV)(K:St->SV->Option R):Option R:=none
def NT(eq:R->R->Bool)(S:St)(it:SV)(K:St->SV->Option R):Option R:=none
def IJ(own:List (Nat×Ent))(it:SV)(K:SV->List Nat->Option R):Option R:=none
end
section
variable {R:Type}{B:Nat->Prop}{F:Lx}{w0:Bs}{wr:Wr}{pl pl':List Place}{S S':St}{l l':List Value}{ls:List (List Value)}{w w':World}{L L' M:Lx}{P:Program}{d:Option Tmp}{ty:TypeId}{pos:String}{af:Array Edge}{gd:Option (Nat×Bool)}
 {Q:Exit->Act->World->Prop} {KK:List Value->World->Prop} {K:St->SV->Option R} {r:R}
theorem DmR.split{α β:Type}{R:Rp β}:∀{v1:List (α×Value)} {v:α×Value} {v2:List (α×Value)} {xs:List (α×β)},DmR R L w (v1++v::v2) xs ->
  ∃r1 x r2,xs=r1++x::r2∧(v.1=x.1∧∃cs,R.rel L w cs x.2∧v.2=R.val cs)∧DmR R L w (v1++v2) (r1++r2)
 | [],v,v2,xs,⟨b,q,h1,h2,h3,h4⟩=>⟨[],b,q,h1,⟨h2,h3⟩,h4⟩
 | a::v1,v,v2,xs,⟨b,q,h1,h2,h3,h4⟩=>by obtain⟨r1,x,r2,e1,e2,e3⟩:=DmR.split h4;exact⟨b::r1,x,r2,by simp_all,e2,b,r1++r2,rfl,h2,h3,e3⟩
theorem Vp(h:Rel B F w0 wr pl S l ls w){t:TypeId}{x:Operand}{m:SV}(hv:II P S t m K=some r)(hx:Den pl (lx pl S.own++F) w m (ev l x))(hk:Hand B F w0 wr S.nt l ls d K r KK):OW P ⟨d,.range t x,ty,pos,af,gd⟩ l w KK Q:=by unfold II at hv;cases hv
theorem adf{eq:R->R->Bool}(heq:∀a b,eq a b=true->a=b)(h:Rel B F w0 wr pl S l ls w){x:Operand}{it:SV}(hv:NT eq S it K=some r)(hx:Den pl (lx pl S.own++F) w it (ev l x))(hk:Hand B F w0 wr S.nt l ls d K r KK) :
  OW P ⟨d,.next x false,ty,pos,af,gd⟩ l w KK Q:=by
 unfold NT at hv;cases hv
theorem Vq{own:List (Nat×Ent)}(he:EntsD pl L w own){x:Operand}{it:SV}{K:SV->List Nat->Option R}(h:IJ own it K=some r)(hx:Den pl L w it (ev l x)) :
  ∃s' rd,K s' rd=some r∧Yv P pl L w l ⟨d,.entry x,ty,pos,af,gd⟩ s' rd:=by
 unfold IJ at h;cases h
end
end Ev
end
noncomputable section
namespace Sx
open Go Go.RowKit Ev
section
variable {P:Program}{l:List Value}{w:World}{d:Option Tmp}{ty:TypeId}{pos:String}{af:Array Edge}{gd:Option (Nat×Bool)}
 {Q:Exit->Act->World->Prop} {K:List Value->World->Prop} {α:Type} {R:Rp α}
theorem E7(t ty e:TypeId)(i:TypeInfo)(ht:P.underlying t=some (.slice e))(hi:P.info? e=some i)
  (g o n cap:Nat) (cur:Array Value) (hg:w.heap[g]? = some (.cells cur e (0,0)))
  (a:Addr) (m c:Nat) (news:List Value) (hl:news.length=m*i.size) (hnews:∀j u,news[j]? = some u->w.cell? (a.add j)=some u) (h1:∀u∈news,u.oneCell'=true)
  (hroom:n+m≤cap) (hfit:o+n*i.size+news.length≤cur.size) :
  (Builtin.append_ #[t,t] ty #[.slice (some ⟨g,o,none⟩) n cap,.slice (some a) m c]).run P w =
   .ok (.slice (some ⟨g,o,none⟩) (n+m) cap) (w.setRow g (cur.toList.take (o+n*i.size)++news++cur.toList.drop (o+n*i.size+news.length)).toArray):=by
 have hf:=run_firstCells_some (P:=P) w i.size m a m c news hl hnews;have hst:=run_storeCells_at P g (o+n*i.size) e news 0 cur w hg (by simpa using hfit) h1;simp only[Nat.add_zero]at hst;simp[Builtin.append_,run_underlying ht,Go.sizeOf,typeInfo,hi,Builtin.lenOf,hroom,hf,Addr.add_lit,hst]
theorem Oq.cell{e:TypeId}{L:Lx}{a:Option Addr}{n c:Nat}{xs:List α}(h:Oq R e L w a n c xs)(hne:xs ≠ []) :
  ∃g o cells,a=some ⟨g,o,none⟩∧RowsOf R L w cells xs∧∀j u,cells[j]? = some u->∀w':World,w'.heap[g]? = w.heap[g]?->w'.cell? ⟨g,o+j,none⟩=some u:=by
 obtain⟨h1,h2,h3,h4,h5⟩:=h;have hp:=List.length_pos_iff.2 hne;obtain⟨g,o,cur,cells,rfl,h6,h7,h8,h9⟩:=h5 (by omega);refine⟨g,o,cells,rfl,h8,fun j u hj w' hw=>?_⟩;rw[cell_of_row w' g (o+j) cur e (0,0) (by rw[hw];exact h6)];rw[<- h9,List.getElem?_take]at hj;split at hj
 ·rw[List.getElem?_drop]at hj
  simpa using hj
 ·cases hj
theorem ar3{B:Nat->Prop}{pre post F:Lx}{s x:Operand}{t e:TypeId}{z:α}{a0:Option Nat}{a a2:Option Addr}{n c n2 c2:Nat}{xs ys:List α}{news:List Value}(ht:P.underlying t=some (.slice e))(hr:TyRow P e R z)
  (hs:Sx.ev l s = .slice a n c) (hx:Sx.ev l x = .slice a2 n2 c2) (hL:LOk B (pre++a0::post) F w) (hq:Oq R e ((pre++a0::post)++F) w a n c xs) (hb:blk a=a0)
  (hn2:n2=ys.length) (hrow:RowsOf R ((pre++a0::post)++F) w news ys) (hcell:ys ≠ []->∃b o,a2=some ⟨b,o,none⟩∧∀j u,news[j]? = some u->w.cell? ((⟨b,o,none⟩:Addr).add j)=some u)
  (hsm:small (xs.length+ys.length)=true)
  (h:∀a' n' c' w',Stp B (pre++a0::post) (pre++blk a'::post) F [a0] w w'->Oq R e ((pre++blk a'::post)++F) w' a' n' c' (xs++ys)->K (st l d (.slice a' n' c')) w') :
  OW P ⟨d,.call { callee:=.builtin .append,args:=#[s,x],argTypes:=#[t,t] },ty,pos,af,gd⟩ l w K Q:=by
 subst hb hn2;obtain⟨i,zv,hi,hz,hsz,hby,hzs,hzr⟩:=hr.info;have hsm:=pM hsm;have hq0:=hq;obtain⟨rfl,hnc,hcm,hlt,hcc⟩:=hq;have fin:∀(v:Value) (w':World),(Builtin.append_ #[t,t] ty #[.slice a xs.length c,.slice a2 ys.length c2]).run P w = .ok v w'->K (st l d v) w'->OW P ⟨d,.call { callee:=.builtin .append,args:=#[s,x],argTypes:=#[t,t] },ty,pos,af,gd⟩ l w K Q:=fun v w' hrun hk=>by refine kZ (v:=v) (w':=w') ?_ hk;simp_all[execOp,resolve,invoke,builtin,Sem.run_bind,Sem.run_pure,zL,List.map_toArray,List.map_cons,List.map_nil]
 by_cases hne:ys=[]
 ·subst hne
  have hrun:(Builtin.append_ #[t,t] ty #[.slice a xs.length c,.slice a2 ([]:List α).length c2]).run P w = .ok (.slice a xs.length c) w:=by
   cases a2 with
   | none=>exact rG t ty e ht ⟨i,hi⟩ a _ c c2 hnc
   | some ad=>cases a<;>simp[Builtin.append_,run_underlying ht,Go.sizeOf,typeInfo,hi,Builtin.lenOf,Builtin.firstCells,loadCells,loadCellsFrom,storeCells,hnc]
  refine fin _ _ hrun (h a _ c w (Stp.turn hL (Fz.refl _ _) (fun k hk=>.inl hk)) ?_);rw[List.append_nil];exact hq0
 ·obtain⟨b,o2,ha2,hcl⟩:=hcell hne
  clear hcell;subst ha2;have hcell:=hcl;have hpos:0<ys.length:=List.length_pos_iff.2 hne;by_cases hroom:xs.length+ys.length≤c
  ·obtain⟨g,o,cur,cells,rfl,h6,h7,h8,h9⟩:=hcc (by omega)
   have hl:=hrow.len;have hl8:=h8.len;have hmul:xs.length*R.size+ys.length*R.size≤c*R.size:=by rw[<- Nat.add_mul];exact Nat.mul_le_mul_right _ hroom
   have hrun:=E7 (P:=P) (w:=w) t ty e i ht hi g o xs.length c cur h6 ⟨b,o2,none⟩ ys.length c2 news (by rw[hsz];exact hl) hcell hrow.one hroom (by rw[hsz];omega);rw[hsz]at hrun
   have hf:Fz [blk (some ⟨g,o,none⟩)] w (w.setRow g (cur.toList.take (o+xs.length*R.size)++news++cur.toList.drop (o+xs.length*R.size+news.length)).toArray) :=
    ⟨rfl,rfl,rfl,by simp,fun k hk hn=>setRow_other w g k _ (fun e=>hn (by simp[e,blk]))⟩
   have S:=Stp.turn (x':=blk (some ⟨g,o,none⟩)) hL hf (fun k hk=>.inl hk);refine fin _ _ hrun (h _ _ _ _ S ⟨by simp,hroom,hcm,fun k hk=>?_,fun _=>⟨g,o,_,cells++news,rfl,setRow_heap w g cur _ e (0,0) h6,?_,?_,?_⟩⟩)
   ·exact Nat.lt_of_lt_of_le (hlt k hk) S.hf.size
   ·simp;omega
   ·exact (h8.step S.hf (fun k hk=>List.mem_append_left _ (S.hM k hk)) S.hs).append (hrow.step S.hf (fun k hk=>List.mem_append_left _ (S.hM k hk)) S.hs)
   ·have hlen:o+xs.length*R.size≤cur.toList.length:=by simp;omega
    have e1:cur.toList.take (o+xs.length*R.size)=cur.toList.take o++cells:=by rw[<- h9,hl8,List.take_add]
    have e2:(cur.toList.take o).length=o:=by rw[kB];omega
    rw[e1,List.append_assoc,List.append_assoc,List.drop_append,List.drop_of_length_le (by omega),e2,Nat.sub_self,List.nil_append,List.drop_zero,<- List.append_assoc,List.take_left]
  ·have hbytes:(xs.length+ys.length)*i.bytes≤140737488355328:=by have:(xs.length+ys.length)*i.bytes≤1073741824*131072:=Nat.mul_le_mul hsm hby;omega
   have run:∃v' w' cells,(Builtin.append_ #[t,t] ty #[.slice a xs.length c,.slice (some ⟨b,o2,none⟩) ys.length c2]).run P w = .ok v' w'∧w'.ownsRow w.heap.size e R.size v' (xs.length+ys.length) (cells++news)∧w.grownBy w' none∧RowsOf R ((pre++blk a::post)++F) w cells xs:=by
    by_cases hxe:xs=[]
    ·subst hxe
     cases a with
     | none =>
      have hc0:c=0:=Classical.byContradiction fun hne0=>by obtain⟨g,o,cur,cells,e1,_⟩:=hcc hne0;cases e1
      subst hc0
      obtain⟨v',w',hrun,h5,h6,h7⟩:=run_append_own (P:=P) w w.heap.size t ty e i zv R.size i.bytes ht hi hz hsz rfl (by rw[hzs]) hr.pos (.slice none 0 0) 0 [] (World.ownsRow_nil w w.heap.size e _)
       ⟨b,o2,none⟩ ys.length c2 news hrow.len hcell hrow.one (by grind[maxLen]) (by simpa using hbytes) (Nat.le_refl _)
      exact⟨v',w',[],hrun,by simpa using h5,h6,rfl⟩
     | some ad =>
      obtain⟨v',w',hrun,h5,h6⟩:=run_append_arg_grows (P:=P) (w:=w) t ty e i zv R.size i.bytes ht hi hz hsz rfl (by rw[hzs]) hr.pos ad 0 c [] (by simp) (fun j u hj=>by grind)
       ⟨b,o2,none⟩ ys.length c2 news hrow.len hcell (by simpa using hroom) (by grind[maxLen]) (by simpa using hbytes)
      exact⟨v',w',[],hrun,by simpa using h5,h6,rfl⟩
    ·obtain⟨g,o,cells,rfl,h8,h9⟩:=Oq.cell hq0 hxe
     obtain⟨v',w',hrun,h5,h6⟩:=run_append_arg_grows (P:=P) (w:=w) t ty e i zv R.size i.bytes ht hi hz hsz rfl (by rw[hzs]) hr.pos ⟨g,o,none⟩ xs.length c cells h8.len (fun j u hj=>by rw[Addr.add_lit'];exact h9 j u hj w rfl)
      ⟨b,o2,none⟩ ys.length c2 news hrow.len hcell (by omega) (by grind[maxLen]) hbytes
     exact⟨v',w',cells,hrun,h5,h6,h8⟩
   obtain⟨v',w',cells,hrun,h5,h6,h8⟩:=run;have hf0:Fz [] w w':=⟨h6.os,h6.tape,h6.output,h6.size,fun k hk _=>h6.block k hk (fun e=>by cases e)⟩;rcases h5.2 with ⟨_,hn⟩ | ⟨g,cap,cur,rfl,hg,hrest⟩
   ·omega
   ·have hlt2:g<w'.heap.size:=(Array.getElem?_eq_some_iff.1 hrest.1).1
    have S:Stp B (pre++blk a::post) (pre++blk (some ⟨g,0,none⟩)::post) F [blk a] w w':=Stp.turn hL hf0.nil (fun k hk=>.inr (by cases hk;exact⟨hg,hlt2⟩));have hrow':RowsOf R ((pre++blk (some ⟨g,0,none⟩)::post)++F) w' (cells++news) (xs++ys):=(h8.step S.hf (fun k hk=>List.mem_append_left _ (S.hM k hk)) S.hs).append (hrow.step S.hf (fun k hk=>List.mem_append_left _ (S.hM k hk)) S.hs);refine fin _ _ hrun (h _ _ _ _ S (Oq.of_ow ⟨by simp,cells++news,⟨?_,.inr ⟨g,cap,cur,?_,Nat.zero_le _,by rw[zZ (as:=xs)];exact hrest⟩⟩,hrow'⟩))
    ·rw[zZ (as:=xs)];exact h5.1
    ·simp
end
end Sx
namespace Ev
open Go Go.RowKit Sx
section
variable {R:Type}{B:Nat->Prop}{F:Lx}{w0:Bs}{wr:Wr}{pl pl':List Place}{S S':St}{l l':List Value}{ls:List (List Value)}{w w':World}{L L' M:Lx}{P:Program}{d:Option Tmp}{ty:TypeId}{pos:String}{af:Array Edge}{gd:Option (Nat×Bool)}
 {Q:Exit->Act->World->Prop} {KK:List Value->World->Prop} {K:St->SV->Option R} {r:R}
def E8(own:List (Nat×Ent))(i:Nat):Bool:=match get own i with
 | some (.que _ _ _)=>true
 | _=>false
def Vr(P:Program)(own:List (Nat×Ent))(t:TypeId)(s:SV)(K:SV->List Nat->Option R):Option R :=
 match s with
 | .row i=>if EP P t=true then match get own i with
  | some (.que _ _ xs)=>K (.d (.int .i64) (xs.length:Int)) []
  | _=>none else none
 | _=>none
theorem afr{own:List (Nat×Ent)}(he:EntsD pl L w own){t:TypeId}{x:Operand}{s:SV}{K:SV->List Nat->Option R}(h:Vr P own t s K=some r)(hx:Den pl L w s (ev l x)) :
  ∃s' rd,K s' rd=some r∧Yv P pl L w l ⟨d,.call { callee:=.builtin .len,args:=#[x],argTypes:=#[t] },ty,pos,af,gd⟩ s' rd:=by
 unfold Vr at h;split at h
 ·split at h
  ·rename_i ht
   obtain⟨e,ht⟩:=yM ht;split at h
   ·rename_i hg
    obtain⟨p,h6,h7⟩:=hx;obtain⟨p',h8,h9⟩:=he.get hg;rw[h6]at h8;cases h8;exact⟨_,_,h,Yv.of (jA _ _) (fun w'=>qj ht h7 h9.1)⟩
   grind
  grind
 grind
def IK(P:Program)(own:List (Nat×Ent))(t:TypeId)(s i:SV)(K:SV->List Nat->Option R):Option R :=
 match s,i with
 | .row q,.d (.int _) j=>match lX P t,get own q with
  | some (_,n),some (.que t0 _ xs)=>if t0.size=n then (at? xs j).bind fun _=>K (.prw q j t0.size 0) [] else none
  | _,_=>none
 | _,_=>none
theorem Vs{own:List (Nat×Ent)}(he:EntsD pl L w own){t:TypeId}{x y:Operand}{s i:SV}{K:SV->List Nat->Option R}(h:IK P own t s i K=some r)(hx:Den pl L w s (ev l x))(hi:Den pl L w i (ev l y)) :
  ∃s' rd,K s' rd=some r∧Yv P pl L w l ⟨d,.indexAddr t x y,ty,pos,af,gd⟩ s' rd:=by
 unfold IK at h;split at h
 ·rename_i q k j
  split at h
  ·rename_i e n t0 e0 xs hel hg
   split at h
   ·rename_i hsz
    obtain⟨z,hz,h⟩:=iD h;obtain⟨h3,h4,h5⟩:=kJ hz;have hi:=jC hi;obtain⟨h1,h2⟩:=jD hel;obtain⟨p,h6,h7⟩:=hx;obtain⟨p',h8,h9⟩:=he.get hg;rw[h6]at h8;cases h8;obtain⟨g,o,cells,ha,_⟩:=Oq.cell h9 (by rintro rfl;simp at h5);obtain⟨pa,pn,pc⟩:=p;simp only at ha h7;subst ha;refine⟨_,_,h,Yv.of (v:=.pointer (some ⟨g,o+j.toNat*n,none⟩)) ⟨g,o,pn,pc,h6,by simp[hsz]⟩ (fun w'=>qL h1 h2 h7 hi h3 (by have e9:pn=xs.length:=h9.1;omega))⟩
   grind
  grind
 grind
def NU(P:Program)(own:List (Nat×Ent))(t:TypeId)(s:SV)(K:SV->List Nat->Option R):Option R :=
 match s with
 | .prw i j sz o=>match get own i,tyc P t with
  | some (.que t0 _ xs),some fy=>if sz=t0.size then (at? xs j).bind fun y=>match prj t0 o fy y with
   | some z=>K (.d fy z) [i]
   | none=>none
   else none
  | _,_=>none
 | _=>none
theorem adg{own:List (Nat×Ent)}(he:EntsD pl L w own){t:TypeId}{x:Operand}{s:SV}{K:SV->List Nat->Option R}(h:NU P own t s K=some r)(hx:Den pl L w s (ev l x)) :
  ∃s' rd,K s' rd=some r∧Yv P pl L w l ⟨d,.load t x,ty,pos,af,gd⟩ s' rd:=by
 unfold NU at h;split at h
 ·rename_i i j sz o
  split at h
  ·rename_i t0 e xs fy hg hy
   have hty:=oH hy;split at h
   ·rename_i hsz
    subst hsz;obtain⟨y,hy1,h⟩:=iD h;split at h
    ·rename_i z hp
     obtain⟨a,b0,n,c,h1,h2⟩:=hx;obtain⟨p,h3,h4⟩:=he.get hg;rw[h1]at h3;cases h3;obtain⟨h5,h6,h7⟩:=kJ hy1;obtain⟨g,o2,cells,ha,hrows,hcl⟩:=Oq.cell h4 (by rintro rfl;simp at h7);cases ha;obtain⟨pre0,cs,post0,rfl,h8,h9,_⟩:=hrows.at h6;obtain⟨pre,c1,post,rfl,h10,h11⟩:=oL hp h9;refine⟨_,_,h,(rp _).val c1,⟨c1,h11,rfl⟩,fun w' hF hrd=>ru h2 ?_⟩;refine qo hty ((rp _).len h11) (fun k v hk=>?_)
     have:=hcl (j.toNat*t0.size+o+k) v (by
      rw[jc]at h8;rw[<- h8,<- h10,List.append_assoc,List.append_assoc,List.append_assoc,List.getElem?_append_right (by omega),List.getElem?_append_right (by omega)];rw[show pre0.length+pre.length+k - pre0.length - pre.length=k by omega,List.getElem?_append_left (List.getElem?_eq_some_iff.1 hk).1]
      exact hk) w' (hrd i (by simp) a (by rw[iF h1];rfl))
     rwa[show b0+(j.toNat*t0.size+o+k)=b0+j.toNat*t0.size+o+k by omega]at this
    grind
   grind
  grind
 grind
def IL(P:Program)(S:St)(t:TypeId)(s:SV)(lo hi:Option Operand)(K:SV->List Nat->Option R):Option R :=
 match s with
 | .row q=>match lX P t,get S.own q with
  | some (_,n),some (.que t0 _ xs)=>if t0.size=n then match jQ S lo 0,jQ S hi xs.length with
   | some i,some j=>need (ge i 0) (need (le i j) (need (le j xs.length) (K (.sub q n i (j - i)) [])))
   | _,_=>none else none
  | _,_=>none
 | _=>none
theorem Oq.exact{α:Type}{R:Rp α}{e:TypeId}{p:Place}{xs:List α}{sz:Nat}(h:Oq R e L w p.a p.n p.c xs):(p.c≠0->(0:Int).toNat+p.c≤p.c∧∃g o,p.a=some ⟨g,o,none⟩∧p.a=some ⟨g,o+(0:Int).toNat*sz,none⟩)∧(p.c≠0->blk p.a=blk p.a) :=
 ⟨fun hne=>by
  obtain⟨g,o,cur,cells,e1,_⟩:=h.2.2.2.2 hne
  exact⟨by simp,g,o,e1,by simp[e1]⟩,fun _=>rfl⟩
theorem Vt(hf:FrD pl L w S.fr l)(he:EntsD pl L w S.own){t:TypeId}{x:Operand}{s:SV}{lo hi:Option Operand}{K:SV->List Nat->Option R}(h:IL P S t s lo hi K=some r)(hx:Den pl L w s (ev l x)) :
  ∃s' rd,K s' rd=some r∧Yv P pl L w l ⟨d,.slice t x lo hi none,ty,pos,af,gd⟩ s' rd:=by
 unfold IL at h;split at h
 ·rename_i q
  split at h
  ·rename_i e n t0 e0 xs hel hg
   obtain⟨h1,h2⟩:=jD hel;split at h
   ·split at h
    ·rename_i i j hi' hj'
     obtain⟨k1,h⟩:=iZ h;obtain⟨k2,h⟩:=iZ h;obtain⟨k3,h⟩:=iZ h;have k1:0≤i:=of_decide_eq_true k1;have k2:i≤j:=of_decide_eq_true k2;have k3:j≤(xs.length:Int):=of_decide_eq_true k3;obtain⟨p,h3,h4⟩:=hx;obtain⟨p',h5,h6⟩:=he.get hg;rw[h3]at h5;cases h5;have hlen:=h6.1;have hcap:=h6.2.1;have hrun:=uN (P:=P) (d:=d) (ty:=ty) (pos:=pos) (af:=af) (g:=gd) h1 h2 h4 (mI hf hi') (by rw[hlen];exact mI hf hj') k1 k2 (by omega) (by omega);refine⟨_,_,h,Yv.of ?_ hrun⟩;have:=Dy (L:=L) (w:=w) (sz:=n) (lo0:=0) (m:=xs.length) (a:=p.a) (c:=p.c) h3 k1 k2 k3 (by omega) (by omega) (by omega) h6.exact;simp_all
    grind
   grind
  grind
 grind
def Vu(P:Program)(S:St)(t:TypeId)(s:SV)(lo hi:Option Operand)(mx:Operand)(K:SV->List Nat->Option R):Option R :=
 match s with
 | .row q=>if Ig hi=true∧lo=none then match lX P t,get S.own q,jQ S hi 0,jQ S (some mx) 0 with
   | some (_,n),some (.que t0 _ xs),some j,some m=>if t0.size=n then need (ge j 0) (need (eqi j m) (need (le j (zF xs.length)) (K (.sub q n 0 j) []))) else none
   | _,_,_,_=>none
  else none
 | _=>none
theorem afs(hf:FrD pl L w S.fr l)(he:EntsD pl L w S.own){t:TypeId}{x:Operand}{s:SV}{lo hi:Option Operand}{mx:Operand}{K:SV->List Nat->Option R}(hv:Vu P S t s lo hi mx K=some r)(hx:Den pl L w s (Sx.ev l x)) :
  ∃s' rd,K s' rd=some r∧Yv P pl L w l ⟨d,.slice t x lo hi (some mx),ty,pos,af,gd⟩ s' rd:=by
 unfold Vu at hv;split at hv
 ·rename_i q
  split at hv
  ·rename_i hz
   obtain⟨hz,rfl⟩:=hz;split at hv
   ·rename_i e n t0 e0 xs j m hel hg hhi hmx
    split at hv
    ·obtain⟨hj0,hv⟩:=iZ hv
     obtain⟨hjm,hv⟩:=iZ hv;obtain⟨hm,hv2⟩:=iZ hv;have hj0:0≤j:=of_decide_eq_true hj0;have hjm:j=m:=by simpa [eqi]using hjm
     subst hjm;have hm:j≤(xs.length:Int):=of_decide_eq_true hm;obtain⟨h1,h2⟩:=jD hel;obtain⟨p,h3,h4⟩:=hx;obtain⟨p',h5,h6⟩:=he.get hg;rw[h3]at h5;cases h5;have hlen:=h6.1;have hcap:=h6.2.1
     have hh:∃o k,hi=some o∧Sx.ev l o = .int k j:=by
      rcases mI hf hhi with ⟨e1,_⟩ | e1
      ·simp_all[Ig]
      ·exact e1
     have hmm:∃k,Sx.ev l mx = .int k j:=by
      rcases mI hf hmx with ⟨e1,_⟩ | ⟨o,k,e1,e2⟩
      ·cases e1
      ·cases e1;exact⟨k,e2⟩
     obtain⟨oh,kh,rfl,e2⟩:=hh;obtain⟨km,e3⟩:=hmm;obtain⟨j,rfl⟩:=Int.eq_ofNat_of_zero_le hj0
     have hrun:∀w,(execOp (Sx.ev l) ⟨d,.slice t x none (some oh) (some mx),ty,pos,af,gd⟩).run P w = .ok (.value (.slice (if j=0 then p.a else p.a.map (·.add (0*n))) j j)) w:=by
      intro w;have hb:(Instr.sliceBounds true p.n p.c none (some (Sx.ev l oh)) (some (.int km j))).run P w = .ok (0,j,j) w:=by unfold Instr.sliceBounds;simp[Instr.sliceBound,asIntOf,e2];omega
      have hsl:(Instr.sliceAt t (Sx.ev l x) none (some (Sx.ev l oh)) ((some mx:Option Operand).map (Sx.ev l))).run P w = .ok (.slice (if j=0 then p.a else p.a.map (·.add (0*n))) j j) w:=by unfold Instr.sliceAt;simp only[Sem.run_bind,run_underlying h1,zL];unfold Instr.slice;simp only[Sem.run_bind,run_underlying h1,zL,h4,Option.map_some,e3,hb,mH h2,Sem.run_pure];rfl
      grind[execOp,Sem.run_bind,Instr.sliceAt,ev,mx,zL,Sem.run_pure]
     refine⟨.sub q n 0 (j:Int),[],hv2,Yv.of ⟨p,_,j,h3,Int.le_refl 0,by omega,by omega,rfl,by simp,fun hne=>?_,fun hne=>?_⟩ (fun w'=>hrun w')⟩
     ·obtain⟨_,g,o,e4,e5⟩:=(h6.exact (sz:=n)).1 (by omega)
      refine⟨by simp;omega,g,o,e4,?_⟩;rw[if_neg (by omega),e4];simp[Addr.add_lit']
     ·split
      ·rfl
      ·cases p.a with
       | none=>rfl
       | some b=>simp[blk,Addr.add]
    grind
   grind
  grind
 grind
def Vv(P:Program)(S:St)(t:TypeId)(s:SV)(lo hi:Option Operand)(mx:Operand)(K:St->SV->Option R):Option R:=none
theorem aft(h:Rel B F w0 wr pl S l ls w){t:TypeId}{x:Operand}{s:SV}{lo hi:Option Operand}{mx:Operand}(hv:Vv P S t s lo hi mx K=some r)(hx:Den pl (lx pl S.own++F) w s (Sx.ev l x))(hk:Hand B F w0 wr S.nt l ls d K r KK) :
  OW P ⟨d,.slice t x lo hi (some mx),ty,pos,af,gd⟩ l w KK Q:=by
 unfold Vv at hv;cases hv
theorem Oq.sub{α:Type}{R:Rp α}{e:TypeId}{a a':Option Addr}{n c c':Nat}{xs:List α}{lo m:Int}(h:Oq R e L w a n c xs)(h0:0≤lo)(h1:0≤m)(h2:lo+m≤n)(h3:m.toNat≤c')
  (hc:c'≠0->lo.toNat+c'≤c∧∃g o,a=some ⟨g,o,none⟩∧a'=some ⟨g,o+lo.toNat*R.size,none⟩) (hb:blk a'=blk a):Oq R e L w a' m.toNat c' (prt xs lo m):=by
 obtain⟨rfl,q2,q3,q4,q5⟩:=h;have hle:lo.toNat+m.toNat≤xs.length:=by clear q5 hc;omega
 have hpl:m.toNat=(prt xs lo m).length:=by unfold prt;rw[kB,List.length_drop];clear q5 hc;omega
 refine⟨hpl,h3,?_,fun k hk=>q4 k (by rw[<- hb];exact hk),fun hne=>?_⟩
 ·by_cases hz:c'=0
  ·omega
  ·have:=(hc hz).1;omega
 ·obtain⟨k1,g,o,k2,rfl⟩:=hc hne
  obtain⟨g2,o2,cur,cells,e1,e2,e3,e4,e5⟩:=q5 (by omega);rw[k2]at e1;cases e1;have hl:=e4.len;clear q5 hc;have hle:(lo.toNat+m.toNat)*R.size≤xs.length*R.size:=Nat.mul_le_mul_right _ hle;have hle2:(lo.toNat+c')*R.size≤c*R.size:=Nat.mul_le_mul_right _ k1;rw[Nat.add_mul]at hle hle2;refine⟨g,_,cur,(cells.drop (lo.toNat*R.size)).take (m.toNat*R.size),rfl,e2,by omega,RowsOf.take m.toNat (RowsOf.drop lo.toNat e4),?_⟩;have hl2:((cells.drop (lo.toNat*R.size)).take (m.toNat*R.size)).length=m.toNat*R.size:=by rw[kB,List.length_drop];omega
  rw[hl2]
  have e6:cells.drop (lo.toNat*R.size)=(cur.toList.drop (o+lo.toNat*R.size)).take (cells.length - lo.toNat*R.size):=by
   conv=>lhs;rw[<- e5]
   rw[List.drop_take,List.drop_drop]
  rw[e6,List.take_take,Nat.min_eq_left (by omega)]
def adQ(S:St)(i sz:Nat)(lo n:Int)(K:St->Option R):Option R:=match get S.own i with
 | some (.que t e xs)=>if sz=t.size then need (lt 0 (zF xs.length)) (K { S with own:=nX i S.nx (.que t e (prt xs lo n)) S.own,nx:=S.nx+1,log:=i::S.log }) else none
 | _=>none
theorem atA(h:Rel B F w0 wr pl S l ls w){i sz:Nat}{lo n:Int}{K:St->Option R}{u:Value}(hv:adQ S i sz lo n K=some r)(hx:Den pl (lx pl S.own++F) w (.sub i sz lo n) u) :
  ∃pl' S',Rel B F w0 wr pl' S' l ls w∧S'.nt=S.nt∧S'.fr=S.fr∧Den pl' (lx pl' S'.own++F) w (.row S.nx) u∧K S'=some r:=by
 unfold adQ at hv;split at hv
 ·rename_i t e xs ho
  split at hv
  ·rename_i hsz
   subst hsz;obtain⟨hp0,hv⟩:=iZ hv;obtain⟨pre,post,h1,h2⟩:=lu ho;obtain⟨p,hp,hO⟩:=h.ent (i,_) (iI ho);obtain⟨p',a,c,hp',q1,q2,q3,rfl,q5,q6,q7⟩:=hx;rw[hp]at hp';cases hp';have hpos:0<xs.length:=by have:(0:Int)<(zF xs.length):=of_decide_eq_true hp0;exact Int.ofNat_lt.1 this
   have hb:=q7 (by have:=hO.1;have:=hO.2.1;omega);have e0:blk a=plb pl i:=by rw[hb,iF hp]
   have e3:lx pl S.own=lx pl pre++plb pl i::lx pl post:=by rw[h1,lY]
   have hL:=h.hL;have hs:Stp B (lx pl pre++plb pl i::lx pl post) (lx pl pre++blk a::lx pl post) F [plb pl i] w w:=by rw[e0,<- e3];exact⟨(Fz.refl _ _),fun k hk=>by simp_all,Sub.refl _ _,hL⟩
   have hO2:=hO.sub (a':=a) (c':=c) q1 q2 q3 q5 (by rw[jc];exact q6) hb
   have h3:=h.rep (p:=⟨a,n.toNat,c⟩) (e':=.que t e (prt xs lo n)) h1 h2 hs ⟨_,jF _,by
    show Oq (rp t) e ((lx pl pre++blk a::lx pl post)++F) w a n.toNat c (prt xs lo n);rw[e0,<- e3]
    exact hO2⟩
   exact⟨_,_,h3,rfl,rfl,⟨_,by rw[h.nx];exact jF _,rfl⟩,hv⟩
  grind
 grind
def ao0(P:Program)(S:St)(t:TypeId)(a:Operand)(i sz:Nat)(lo n:Int)(K:St->SV->Option R):Option R :=
 adQ S i sz lo n fun S1=>match opv S1 a with
  | some a'=>yS P S1 t a' (.row S.nx) K
  | none=>none
theorem afu(h:Rel B F w0 wr pl S l ls w){t:TypeId}{x y:Operand}{i sz:Nat}{lo n:Int}(hv:ao0 P S t x i sz lo n K=some r)(hy:Den pl (lx pl S.own++F) w (.sub i sz lo n) (ev l y))(hk:Hand B F w0 wr S.nt l ls d K r KK) :
  OW P ⟨d,.store t x y,ty,pos,af,gd⟩ l w KK Q:=by
 obtain⟨pl',S',h1,h2,h3,h4,h5⟩:=atA h hv hy;split at h5
 ·rename_i a' ha
  exact Ad h1 h5 (gz h1.fr ha) h4 (by rw[h2];exact hk)
 ·cases h5
def Vw(own:List (Nat×Ent))(i:Nat):Option ((t:Ty)×TypeId×List (Vl t)):=match get own i with
 | some (.que t e xs)=>some ⟨t,e,xs⟩
 | some (.row t e xs)=>some ⟨t,e,xs⟩
 | _=>none
theorem TD{own:List (Nat×Ent)}(he:EntsD pl L w own){i:Nat}{t:Ty}{e:TypeId}{xs:List (Vl t)}(h:Vw own i=some ⟨t,e,xs⟩):(∃en,get own i=some en)∧∃p,pl[i]? = some p∧Oq (rp t) e L w p.a p.n p.c xs:=by
 unfold Vw at h;split at h
 ·rename_i hg
  cases h
  exact⟨⟨_,hg⟩,he.get hg⟩
 ·rename_i hg
  cases h
  obtain⟨p,h1,h2⟩:=he.get hg;exact⟨⟨_,hg⟩,p,h1,Oq.of_ow h2⟩
 ·cases h
def afv(S:St)(i:Nat)(t:Ty)(e:TypeId)(xs:List (Vl t)):St:={ S with own:=nX i S.nx (.que t e xs) S.own,nx:=S.nx+1,log:=i::S.log }
theorem DW(h:Rel B F w0 wr pl S l ls w){i:Nat}{t e:TypeId}{n0:Nat}{t0:Ty}{z:Vl t0}{x y:Operand}{vs ys:List (Vl t0)}{p:Place}{a a2:Option Addr}{n c n2 c2:Nat}{news:List Value}(hel:lX P t=some (e,n0))(hr:TyRow P e (rp t0) z)
  (hg:∃en,get S.own i=some en) (hp:pl[i]? = some p) (hq:Oq (rp t0) e (lx pl S.own++F) w a n c vs) (hb:blk a=blk p.a) (hx:ev l x = .slice a n c) (hy:ev l y = .slice a2 n2 c2) (hn2:n2=ys.length)
  (hrow:RowsOf (rp t0) (lx pl S.own++F) w news ys) (hcell:ys ≠ []->∃b o,a2=some ⟨b,o,none⟩∧∀j u,news[j]? = some u->w.cell? ((⟨b,o,none⟩:Addr).add j)=some u) (hsm:small (vs.length+ys.length)=true)
  (hv:K (afv S i t0 e (vs++ys)) (.row S.nx)=some r) (hk:Hand B F w0 wr S.nt l ls d K r KK):OW P ⟨d,.call ⟨.builtin .append,#[x,y],#[t,t]⟩,ty,pos,af,gd⟩ l w KK Q:=by
 obtain⟨en,hg⟩:=hg;obtain⟨pre,post,a1,a3⟩:=lu hg;have e3:lx pl S.own=lx pl pre++plb pl i::lx pl post:=by rw[a1,lY]
 have hLd:LOk B (lx pl S.own) F w:=h.hL;rw[e3]at hLd hq hrow;refine ar3 (jD hel).1 hr hx hy hLd hq (by rw[hb,iF hp]) hn2 hrow hcell hsm (fun a' n' c' w' hS hO=>?_);have hr2:=h.rep (p:=⟨a',n',c'⟩) (e':=.que t0 e (vs++ys)) a1 a3 hS ⟨_,jF _,hO⟩;exact hk _ _ (.row S.nx) _ w' hr2 rfl ⟨⟨a',n',c'⟩,by rw[h.nx];simp,rfl⟩ hv
def Vx(P:Program)(S:St)(e:TypeId)(s1 s2:SV)(K:St->SV->Option R):Option R :=
 match s1 with
 | .row i=>match Vw S.own i,ny P e with
  | some ⟨t0,e0,xs⟩,some ⟨t1,_⟩=>if e0=e∧t1=t0 then match leaf (.sl t0) s2 with
   | some ys=>need (small (xs.length+ys.length)) (K (afv S i t0 e (xs++ys)) (.row S.nx))
   | none=>none else none
  | _,_=>none
 | .sub i sz lo n=>match Vw S.own i,ny P e,s2 with
  | some ⟨t0,e0,xs⟩,some ⟨t1,_⟩,.sub i2 sz2 lo2 n2=>if e0=e∧t1=t0∧sz=t0.size∧sz2=t0.size∧i2=i then
    need (ge lo2 1) (need (small ((prt xs lo n).length+(prt xs lo2 n2).length)) (K (afv S i t0 e (prt xs lo n++prt xs lo2 n2)) (.row S.nx))) else none
  | _,_,_=>none
 | _=>none
theorem TF(h:Rel B F w0 wr pl S l ls w){t e:TypeId}{n0:Nat}{x y:Operand}{s1 s2:SV}(hel:lX P t=some (e,n0))(hv:Vx P S e s1 s2 K=some r)(hx:Den pl (lx pl S.own++F) w s1 (ev l x))
  (hy:Den pl (lx pl S.own++F) w s2 (ev l y)) (hk:Hand B F w0 wr S.nt l ls d K r KK):OW P ⟨d,.call ⟨.builtin .append,#[x,y],#[t,t]⟩,ty,pos,af,gd⟩ l w KK Q:=by
 unfold Vx at hv;split at hv
 ·rename_i i
  split at hv
  ·rename_i t0 e0 xs t1 z hen hr
   split at hv
   ·rename_i he
    obtain⟨rfl,rfl⟩:=he;split at hv
    ·rename_i ys hys
     obtain⟨hsm,hv⟩:=iZ hv;obtain⟨hg,p,hp,hq⟩:=TD h.ent hen;obtain⟨p',hp',hxv⟩:=hx;rw[hp]at hp';cases hp';have hy':=vX (t:=.sl t1) rfl hys hy;obtain⟨a2,n2,c2,e2,hy'⟩:=Bw hy';have hn2:=Bi hy';by_cases hne:ys=[]
     ·subst hne
      exact DW h hel (pP hr) hg hp hq rfl hxv e2 hn2 (news:=[]) rfl (fun hn=>absurd rfl hn) hsm hv hk
     ·obtain⟨b,o,cells,ha2,_,h3,h4⟩:=uY hy' hne
      exact DW h hel (pP hr) hg hp hq rfl hxv e2 hn2 h3 (fun _=>⟨b,o,ha2,h4⟩) hsm hv hk
    ·cases hv
   ·cases hv
  ·cases hv
 ·rename_i i sz lo n
  split at hv
  ·rename_i t0 e0 xs t1 z i2 sz2 lo2 n2 hen hr
   split at hv
   ·rename_i he
    obtain⟨rfl,rfl,rfl,rfl,rfl⟩:=he;obtain⟨hlo,hv⟩:=iZ hv;obtain⟨hsm,hv⟩:=iZ hv;have hlo:1≤lo2:=of_decide_eq_true hlo;obtain⟨hg,p,hp,hq⟩:=TD h.ent hen;obtain⟨p',a,c,hp',q1,q2,q3,hxv,q5,q6,q7⟩:=hx;rw[hp]at hp';cases hp';obtain⟨p',a2,c2,hp',k1,k2,k3,hyv,k5,k6,k7⟩:=hy;rw[hp]at hp';cases hp';have hpc:p.c≠0:=by have:=hq.2.1;omega
    have hb:=q7 hpc;have hq1:=hq.sub (a':=a) (c':=c) q1 q2 q3 q5 (by rw[jc];exact q6) hb;have hq2:=hq.sub (a':=a2) (c':=c2) k1 k2 k3 k5 (by rw[jc];exact k6) (k7 hpc);by_cases hne:prt xs lo2 n2=[]
    ·exact DW h hel (pP hr) hg hp hq1 hb hxv hyv hq2.1 (news:=[]) (by rw[hne];rfl) (fun hn=>absurd hne hn) hsm hv hk
    ·obtain⟨g,o,cells,ha2,h3,h4⟩:=Oq.cell hq2 hne
     exact DW h hel (pP hr) hg hp hq1 hb hxv hyv hq2.1 h3 (fun _=>⟨g,o,ha2,fun j u hj=>by rw[Addr.add_lit'];exact h4 j u hj w rfl⟩) hsm hv hk
   ·cases hv
  ·cases hv
 ·cases hv
def Vy(P:Program)(S:St)(t:TypeId)(s1 s2:SV)(K:St->SV->Option R):Option R :=
 match lX P t with
 | some (e,_)=>match s1 with
  | .k (.slice none 0 0)=>match ny P e with
   | some ⟨t0,_⟩=>Vx P { S with own:=(S.nx,.que t0 e [])::S.own,nx:=S.nx+1 } e (.row S.nx) s2 K
   | none=>none
  | s1=>Vx P S e s1 s2 K
 | none=>none
theorem afw(h:Rel B F w0 wr pl S l ls w){t:TypeId}{x y:Operand}{s1 s2:SV}(hv:Vy P S t s1 s2 K=some r)(hx:Den pl (lx pl S.own++F) w s1 (ev l x))
  (hy:Den pl (lx pl S.own++F) w s2 (ev l y)) (hk:Hand B F w0 wr S.nt l ls d K r KK):OW P ⟨d,.call ⟨.builtin .append,#[x,y],#[t,t]⟩,ty,pos,af,gd⟩ l w KK Q:=by
 unfold Vy at hv;split at hv
 ·rename_i e n0 hel
  split at hv
  ·split at hv
   ·rename_i t0 z hr
    have hS:Stp B (lx pl S.own) (blk (none:Option Addr)::lx pl S.own) F [] w w:=Stp.none h.hL rfl;have h':=h.push ⟨none,0,0⟩ (.que t0 e []) hS ⟨_,jF _,Oq.of_ow (Ow.nil _ _ _ _)⟩;have hE:=Ext.of_stp (pl:=pl) (pl':=pl++[⟨none,0,0⟩]) hS (mK _);have elx:lx (pl++[⟨none,0,0⟩]) ((S.nx,Ent.que t0 e [])::S.own)=blk (none:Option Addr)::lx pl S.own:=by have:=Dw (mK (⟨none,0,0⟩:Place)) h.ent;unfold lx at this ⊢;rw[List.map_cons,this,h.nx,vY]
    have hxv:ev l x = .slice none 0 0:=hx;refine TF h' hel hv ⟨⟨none,0,0⟩,by rw[h.nx];exact jF _,hxv⟩ ?_ hk;show Den _ (lx (pl++[⟨none,0,0⟩]) ((S.nx,Ent.que t0 e [])::S.own)++F) w s2 _;rw[elx];exact hy.ext hE
   ·cases hv
  ·exact TF h hel hv hx hy hk
 ·cases hv
theorem DenL.setv{L:Lx}:∀{cs:List SV} {us:List Value} {j:Nat} {s:SV} {u:Value},DenL pl L w cs us->us[j]? = some u->Den pl L w s u->DenL pl L w (cs.set j s) us
 | [],us,j,s,u,h,hj,hs=>by simp_all
 | c::q,us,0,s,u,⟨v,vs,h1,h2,h3⟩,hj,hs=>by subst h1;simp at hj;subst hj;exact⟨v,vs,rfl,hs,h3⟩
 | c::q,us,j+1,s,u,⟨v,vs,h1,h2,h3⟩,hj,hs=>by subst h1;exact⟨v,vs,rfl,h2,DenL.setv h3 (by simp_all) hs⟩
def Vz(P:Program)(i j:Nat)(e:TypeId)(S:St):St:=match ny P e with
 | some ⟨t0,_⟩=>match get ((S.nx,Ent.que t0 e [])::S.own) i with
  | some (.box T cs)=>match cs[j]? with
   | some (.k (.slice none 0 0))=>{ S with own:=kK i (.box T (cs.set j (.row S.nx))) ((S.nx,.que t0 e [])::S.own),nx:=S.nx+1,log:=i::S.log }
   | _=>S
  | _=>S
 | none=>S
theorem ar4(h:Rel B F w0 wr pl S l ls w){i j:Nat}{e:TypeId}:∃pl',Rel B F w0 wr pl' (Vz P i j e S) l ls w∧(Vz P i j e S).nt=S.nt:=by
 unfold Vz;split
 ·rename_i t0 z hr
  split
  ·rename_i T cs ho
   split
   ·rename_i hc
    have hS:Stp B (lx pl S.own) (blk (none:Option Addr)::lx pl S.own) F [] w w:=Stp.none h.hL rfl;have a:=h.push ⟨none,0,0⟩ (.que t0 e []) hS ⟨_,jF _,Oq.of_ow (Ow.nil _ _ _ _)⟩;have ho':get ({ S with own:=(S.nx,Ent.que t0 e [])::S.own,nx:=S.nx+1 }:St).own i=some (.box T cs):=ho;obtain⟨g,n,c,us,h1,h2,h3,h4⟩:=a.ent (i,.box T cs) (iI ho');obtain⟨u,q1,q2⟩:=h3.at hc;have q2:u = .slice none 0 0:=q2;subst q2;have m:=a.told (e':=.box T (cs.set j (.row S.nx))) ho' ⟨g,n,c,us,h1,h2,h3.setv q1 (s:=.row S.nx) ⟨⟨none,0,0⟩,by rw[h.nx];simp,rfl⟩,h4⟩;exact⟨_,m,rfl⟩
   ·exact⟨_,h,rfl⟩
  ·exact⟨_,h,rfl⟩
 ·exact⟨_,h,rfl⟩
def afx(P:Program):Nat->TypeId->List TypeId
 | 0,t=>[t]
 | n+1,t=>match P.underlying t with
  | some (.struct fs)=>fs.toList.flatMap fun f=>afx P n f.type
  | some (.array m e)=>(List.range m).flatMap fun _=>afx P n e
  | _=>[t]
def NV(P:Program)(q:TypeId->Bool)(i:Nat):Nat->List TypeId->St->St
 | _,[],S=>S
 | j,t::r,S=>NV P q i (j+1) r (if q t=true then match lX P t with
  | some (e,_)=>Vz P i j e S
  | none=>S else S)
theorem DX{q:TypeId->Bool}{i:Nat}:∀{r:List TypeId} {j:Nat} {pl:List Place} {S:St},Rel B F w0 wr pl S l ls w->∃pl',Rel B F w0 wr pl' (NV P q i j r S) l ls w∧(NV P q i j r S).nt=S.nt
 | [],j,pl,S,h=>⟨pl,h,rfl⟩
 | t::r,j,pl,S,h=>by
  unfold NV;split
  ·split
   ·rename_i e n _
    obtain⟨pl1,h1,h2⟩:=ar4 (P:=P) (i:=i) (j:=j) (e:=e) h;obtain⟨pl2,h3,h4⟩:=DX (r:=r) (j:=j+1) h1;exact⟨pl2,h3,h4.trans h2⟩
   ·exact DX h
  ·exact DX h
def NW(P:Program)(q:TypeId->Bool):List Operand->St->St
 | [],S=>S
 | x::r,S=>NW P q r (match opv S x with
  | some (.pb i 0)=>match get S.own i with
   | some (.box T _)=>NV P q i 0 (afx P 6 T) S
   | _=>S
  | _=>S)
theorem DY{q:TypeId->Bool}:∀{r:List Operand} {pl:List Place} {S:St},Rel B F w0 wr pl S l ls w->∃pl',Rel B F w0 wr pl' (NW P q r S) l ls w∧(NW P q r S).nt=S.nt
 | [],pl,S,h=>⟨pl,h,rfl⟩
 | x::r,pl,S,h=>by
  unfold NW;split
  ·split
   ·obtain⟨pl1,h1,h2⟩:=DX (P:=P) (q:=q) (i:=_) (j:=0) (r:=_) h
    obtain⟨pl2,h3,h4⟩:=DY (r:=r) h1;exact⟨pl2,h3,h4.trans h2⟩
   ·exact DY h
  ·exact DY h
end
end Ev
end
noncomputable section
namespace Ev
open Go Go.RowKit Sx
def rowsOf:SV->List Nat
 | .row i=>[i]
 | .rowz i=>[i]
 | .sub i _ _ _=>[i]
 | .agg l=>l.filterMap fun
  | .row i=>some i
  | .rowz i=>some i
  | .sub i _ _ _=>some i
  | _=>none
 | _=>[]
def adh(S:St):List Operand->List Nat
 | []=>[]
 | x::q=>(match opv S x with
  | some s=>rowsOf s
  | none=>[])++adh S q
section
variable {R:Type}{B:Nat->Prop}{F:Lx}{w0:Bs}{wr:Wr}{pl pl':List Place}{S S':St}{l l':List Value}{ls:List (List Value)}{w w':World}{L L' M:Lx}{P:Program}{d:Option Tmp}{ty:TypeId}{pos:String}{af:Array Edge}{gd:Option (Nat×Bool)}
 {Q:Exit->Act->World->Prop} {KK:List Value->World->Prop} {K:St->SV->Option R} {r:R}
def ao1(P:Program)(t:TypeId):Bool:=match P.underlying t with
 | some (.interface _)=>true
 | some _=>false
 | none=>true
def aE2:SV->Bool
 | .pb _ _=>true
 | _=>false
def qv2(P:Program)(S:St)(op:Op)(K:SV->List Nat->Option R):Option R :=
 match op with
 | .build t q=>Nn P S t q.toList K
 | .makeFunc fn a b=>match Bz S a.toList,Bz S b.toList with
  | some x,some y=>K (.fn fn x y) []
  | _,_=>none
 | .makeInterface t x=>if ao1 P t=false then (match opv S x with
  | some s=>K (.ifc t s) []
  | none=>none) else none
 | .binOp op t x y u=>match opv S x with
  | some a=>match aE0 P t y a with
   | some _=>aeV P op t y a K
   | none=>match opv S y with
    | some b=>if aE2 a=true then aeW P op t a b K else if atv a=true then qEq P op t a b K else qv P S (.binOp op t x y u) K
    | none=>none
  | none=>none
 | .lookup t x y ok=>match opv S x,opv S y with
  | some m,some k=>Ve P S.own t m k ok K
  | _,_=>none
 | .entry x=>match opv S x with
  | some it=>IJ S.own it K
  | none=>none
 | .call ⟨.builtin .len,⟨[x]⟩,⟨[t]⟩⟩=>match opv S x with
  | some (.mp i)=>DU P S.own t (.mp i) K
  | some (.d (.mp a b) xs)=>DU P S.own t (.d (.mp a b) xs) K
  | some (.row i)=>if NQ S.own i=true then Vg P S.own t (.row i) K else if E8 S.own i=true then Vr P S.own t (.row i) K else qv P S (.call ⟨.builtin .len,⟨[x]⟩,⟨[t]⟩⟩) K
  | _=>qv P S (.call ⟨.builtin .len,⟨[x]⟩,⟨[t]⟩⟩) K
 | .load t x=>match opv S x with
  | some (.prw i j sz o)=>if NQ S.own i=true then NR P S.own t (.prw i j sz o) K else if atz S.own i=true then NS P S.own t (.prw i j sz o) K else if E8 S.own i=true then NU P S.own t (.prw i j sz o) K else qv P S (.load t x) K
  | _=>qv P S (.load t x) K
 | .indexAddr t x y=>match opv S x,opv S y with
  | some (.row i),some j=>if NQ S.own i=true then IC P S.own t (.row i) j K else if atz S.own i=true then IG P S.own t (.row i) j K else if E8 S.own i=true then IK P S.own t (.row i) j K else qv P S (.indexAddr t x y) K
  | _,_=>qv P S (.indexAddr t x y) K
 | .slice t x lo hi none=>match opv S x with
  | some (.row i)=>if E8 S.own i=true then IL P S t (.row i) lo hi K else qv P S (.slice t x lo hi none) K
  | _=>qv P S (.slice t x lo hi none) K
 | .slice t x lo hi (some m)=>match opv S x with
  | some (.row i)=>if E8 S.own i=true then Vu P S t (.row i) lo hi m K else qv P S (.slice t x lo hi (some m)) K
  | _=>qv P S (.slice t x lo hi (some m)) K
 | op=>qv P S op K
theorem GR(hf:FrD pl L w S.fr l)(he:EntsD pl L w S.own){op:Op}{K:SV->List Nat->Option R}{r:R}(h:qv2 P S op K=some r) :
  ∃s rd,K s rd=some r∧Yv P pl L w l ⟨d,op,ty,pos,af,gd⟩ s rd:=by
 unfold qv2 at h;split at h
 ·exact acY hf h
 ·split at h
  ·rename_i fn a b _ _ x y h1 h2
   refine⟨_,_,h,Yv.of (v:=.func fn (a.map (ev l)) (b.map (ev l))) ⟨_,_,wo hf h1,wo hf h2,by rw[show a.map (ev l)=(a.toList.map (ev l)).toArray from Array.ext' (by simp),show b.map (ev l)=(b.toList.map (ev l)).toArray from Array.ext' (by simp)]⟩ (fun w'=>?_)⟩;rfl
  grind
 ·split at h
  ·rename_i hi
   split at h
   ·rename_i t x _ s hs
    refine⟨_,_,h,Yv.of (v:=.iface t (ev l x)) ⟨_,gz hf hs,rfl⟩ (fun w'=>?_)⟩;unfold ao1 at hi;split at hi
    ·cases hi
    ·simp_all[Instr.makeInterface,ev,Sem.run_bind,run_underlying,zL,execOp,Sem.run_pure]
    grind
   grind
  grind
 ·split at h
  ·rename_i a h1
   split at h
   ·exact arS h (gz hf h1)
   ·split at h
    ·rename_i h2
     split at h
     ·exact arT h (gz hf h1) (gz hf h2)
     ·split at h
      ·exact atw h (gz hf h1) (gz hf h2)
      ·exact qM hf he h
    grind
  grind
 ·split at h
  ·rename_i h1 h2
   exact afl he h (gz hf h1) (gz hf h2)
  grind
 ·split at h
  ·rename_i h1
   exact Vq he h (gz hf h1)
  grind
 ·split at h
  ·rename_i h1
   exact GQ he h (gz hf h1)
  ·rename_i h1
   exact GQ he h (gz hf h1)
  ·rename_i h1
   split at h
   ·exact afm he h (gz hf h1)
   ·split at h
    ·exact afr he h (gz hf h1)
    ·exact qM hf he h
  ·exact qM hf he h
 ·split at h
  ·rename_i h1
   split at h
   ·exact adb he h (gz hf h1)
   ·split at h
    ·exact ade he h (gz hf h1)
    ·split at h
     ·exact adg he h (gz hf h1)
     ·exact qM hf he h
  ·exact qM hf he h
 ·split at h
  ·rename_i h1 h2
   split at h
   ·exact Vh he h (gz hf h1) (gz hf h2)
   ·split at h
    ·exact Vo he h (gz hf h1) (gz hf h2)
    ·split at h
     ·exact Vs he h (gz hf h1) (gz hf h2)
     ·exact qM hf he h
  ·exact qM hf he h
 ·split at h
  ·rename_i h1
   split at h
   ·exact Vt hf he h (gz hf h1)
   ·exact qM hf he h
  ·exact qM hf he h
 ·split at h
  ·rename_i h1
   split at h
   ·exact afs hf he h (gz hf h1)
   ·exact qM hf he h
  ·exact qM hf he h
 ·exact qM hf he h
def VA(P:Program)(S:St)(eq:R->R->Bool)(o:BinOp)(t:TypeId)(x:Operand)(u:TypeId)(K:St->SV->Option R):Option R :=
 match opv S x,P.underlying t with
 | some (.d (.sl _) xs),some (.slice _)=>if eqi (zF xs.length) 0=true then amb eq [K S (.d .bool true),K S (.d .bool false)] else K S (.d .bool (if o = .eql then false else true))
 | _,_=>qv2 P S (.binOp o t x (.const (.slice none 0 0)) u) (fun s _=>K S s)
theorem TG{eq:R->R->Bool}(heq:∀a b,eq a b=true->a=b)(h:Rel B F w0 wr pl S l ls w){o:BinOp}(ho:o = .eql∨o = .neq){t:TypeId}{x:Operand}{u:TypeId}(hv:VA P S eq o t x u K=some r)(hk:Hand B F w0 wr S.nt l ls d K r KK) :
  OW P ⟨d,.binOp o t x (.const (.slice none 0 0)) u,ty,pos,af,gd⟩ l w KK Q:=by
 unfold VA at hv;split at hv
 ·rename_i y xs e hx he
  obtain⟨cs,⟨a,cap,hcs,hcap,hel⟩,hval⟩:=gz h.fr hx;subst hcs;have hxv:Sx.ev l x = .slice a xs.length cap:=by simp_all[Rp.val,iQ,Ty.agg]
  obtain⟨b,hb,hnb⟩:∃b,NilPair P t (Sx.ev l x) (.slice none 0 0) b∧(xs ≠ []->b=false):=by
   rw[hxv]
   cases a with
   | none=>exact⟨true,.sv he,fun hne=>by simp_all⟩
   | some a=>exact⟨false,.sa he,fun _=>rfl⟩
  have hrun:=hb.run (d:=d) (ty:=ty) (pos:=pos) (af:=af) (g:=gd) (u:=u) (w:=w) ho;refine kZ hrun (hk pl S (.d .bool (if o = .eql then b else !b)) _ w h rfl (nV _) ?_);split at hv
  ·have hall:=ada heq hv
   cases (if o = .eql then b else !b)
   ·exact hall _ (by simp)
   ·exact hall _ (by simp)
  ·rename_i hl
   have hne:xs ≠ []:=fun e=>hl (by subst e;rfl);grind
 ·obtain⟨s,rd,h1,v,h2,h3⟩:=GR h.fr h.ent hv
  exact kZ (h3 w (Fz.refl _ _) (fun _ _ _ _=>rfl)) (hk pl S s v w h rfl h2 h1)
def jY(S:St)(q:List Operand):St:=pQ (adh S q) S
def bxT(env:Env)(t:TypeId):Bool:=match env (1000000+t) with
 | []=>false
 | _=>true
def fzT(env:Env)(t:TypeId):Bool:=match env (2000000+t) with
 | []=>false
 | _=>true
def opT(env:Env)(t:TypeId):Bool:=match env (3000000+t) with
 | []=>false
 | _=>true
def opX(env:Env)(t:TypeId):Bool:=match env (5000000+t) with
 | []=>false
 | _=>true
def quT(env:Env)(t:TypeId):Bool:=match env (9000000+t) with
 | []=>false
 | _=>true
def GU(P:Program)(env:Env)(q:List Operand)(S:St):St:=match env 9999999 with
 | []=>S
 | _=>NW P (quT env) q S
theorem NY{env:Env}{q:List Operand}(h:Rel B F w0 wr pl S l ls w):∃pl',Rel B F w0 wr pl' (GU P env q S) l ls w∧(GU P env q S).nt=S.nt:=by
 unfold GU;split
 ·exact⟨_,h,rfl⟩
 ·exact DY h
def afy(P:Program)(env:Env)(a:Operand)(K:St->SV->Option R)(S:St)(s:SV):Option R:=match env 9999999 with
 | []=>K S s
 | _=>match s with
  | .k u=>K (GU P env [a] S) (.k u)
  | _=>none
theorem ar5{env:Env}{a:Operand}{n:Nat}(hk:Hand B F w0 wr n l ls d K r KK):Hand B F w0 wr n l ls d (afy P env a K) r KK:=fun pl' S' s v w' h1 h2 h3 h4=>by
 unfold afy at h4;split at h4
 ·exact hk pl' S' s v w' h1 h2 h3 h4
 ·split at h4
  ·obtain⟨pl2,h5,h6⟩:=NY (P:=P) (env:=env) (q:=[a]) h1
   exact hk pl2 _ (.k _) v w' h5 (by rw[h6];exact h2) h3 h4
  ·cases h4
def avI(S:St)(x:Operand):Bool:=match opv S x with
 | some (.row i)=>E8 S.own i
 | _=>false
def aE3(S:St)(x:Operand):Bool:=match opv S x with
 | some (.dx _ _)=>true
 | _=>false
def isOp(S:St)(y:Operand):Bool:=match opv S y with
 | some s=>isO S.own s
 | none=>false
def opL(P:Program)(env:Env)(cl:Cl R)(S:St)(op:Op)(ty:TypeId)(K:St->SV->Option R):Option R :=
 match op with
 | .alloc t=>if bxT env t=true then Bu P S t K else Iy P S t K
 | .box t x=>match opv S x with
  | some s=>if bxT env t=true then Ng S t s K else if fzT env t=true then (match opv (jY S [x]) x with
   | some s=>U6 P (jY S [x]) t s K
   | none=>none) else U8 P S t s K
  | none=>none
 | .store t a x=>match opv S a with
  | some (.prw i j sz o)=>if NQ S.own i=true then (match opv S x with
   | some s=>IE P S t (.prw i j sz o) s K
   | none=>none) else match opv (jY S [x]) a,opv (jY S [x]) x with
   | some a',some s=>yP P (jY S [x]) t a' s K
   | _,_=>none
  | some (.pra _ _ _ _ _ _ _ _)=>match opv (jY S [x]) a,opv (jY S [x]) x with
   | some a',some s=>yP P (jY S [x]) t a' s K
   | _,_=>none
  | some a'=>match opv S x with
   | some (.sub i sz lo n)=>if E8 S.own i=true then ao0 P S t a i sz lo n K else yS P S t a' (.sub i sz lo n) K
   | some s=>yS P S t a' s (afy P env a K)
   | none=>none
  | none=>none
 | .makeSlice t a b=>match opv S a,opv S b with
  | some x,some y=>UT P S t x y K
  | _,_=>none
 | .buildSlice t n q=>if opT env t=true then Vj P S t n q.toList K else ae7 P (jY S (q.toList.map (·.2))) t n q.toList K
 | .slice t x lo hi (some m)=>match opv S x with
  | some s=>if avI S x=true then Vv P S t s lo hi m K else if opX env t=true then Vm P S t s lo hi m K else ae3 P S t s lo hi m K
  | none=>none
 | .convert t u x=>match opv S x,yN P u with
  | some (.d .str b),some _=>NI P S t u (.d .str b) K
  | _,_=>qv2 P S (.convert t u x) (fun s _=>K S s)
 | .call ⟨.builtin .append,⟨[x,y]⟩,⟨[t,t']⟩⟩=>if isOp S y=true then (match opv S x,opv S y with
  | some s1,some s2=>if t=t' then Vk P S t s1 s2 K else none
  | _,_=>none) else match opv (jY S [y]) x,opv (jY S [y]) y with
  | some s1,some s2=>if t=t' then (if quT env t=true then Vy P (jY S [y]) t s1 s2 K else if aE3 (jY S [y]) x=true then Vn P (jY S [y]) t s1 s2 K else Ii P (jY S [y]) t s1 s2 K) else EU P (jY S [y]) t t' s1 s2 K
  | _,_=>none
 | .call ⟨.builtin .copy,⟨[x,y]⟩,⟨[t,_]⟩⟩=>match opv (jY S [y]) x,opv (jY S [y]) y with
  | some s1,some s2=>Va P (jY S [y]) t s1 s2 K
  | _,_=>none
 | .call ⟨.builtin .delete,⟨[x,i]⟩,⟨[t,_]⟩⟩=>match opv S x,opv S i with
  | some m,some k=>IB P S t m k K
  | _,_=>none
 | .call ⟨.builtin .unsafeSliceData,⟨[x]⟩,_⟩=>match opv S x with
  | some s=>lSD P S ty s K
  | none=>none
 | .call ⟨.builtin .unsafeString,⟨[x,y]⟩,⟨[pt,_]⟩⟩=>match opv S x,opv S y with
  | some s,some n=>lUS P S pt s n K
  | _,_=>none
 | .call ⟨.value x,args,_⟩=>match x with
  | .func f=>match xk P f,Bz S args.toList with
   | some k,some ss=>afh k S ss K
   | _,_=>GI env cl (Mb P x args.toList) (GU P env args.toList S) K
  | _=>GI env cl (Mb P x args.toList) S K
 | .call ⟨.invoke x name,args,_⟩=>GI env cl (afi P x name args.toList) S K
 | .makeMap t none=>E5 P S t K
 | .mapUpdate t x i y=>match opv (jY S [y]) x,opv (jY S [y]) i,opv (jY S [y]) y with
  | some m,some k,some v=>DT P (jY S [y]) t m k v K
  | _,_,_=>none
 | .insert t x i y=>match opv (jY S [y]) x,opv (jY S [y]) i,opv (jY S [y]) y with
  | some m,some k,some v=>DT P (jY S [y]) t m k v K
  | _,_,_=>none
 | .range t x=>match opv S x with
  | some m=>II P S t m K
  | none=>none
 | .next x false=>match opv S x with
  | some it=>NT cl.eq S it K
  | none=>none
 | .binOp .eql t x (.const (.slice none 0 0)) u=>VA P S cl.eq .eql t x u K
 | .binOp .neq t x (.const (.slice none 0 0)) u=>VA P S cl.eq .neq t x u K
 | op=>qv2 P S op (fun s _=>K S s)
theorem NZ{env:Env}{cl:Cl R}(henv:o9 P w0.I env)(hcl:Ab P w0.I cl)(h:Rel B F w0 wr pl S l ls w){op:Op}(hv:opL P env cl S op ty K=some r)(hk:Hand B F w0 wr S.nt l ls d K r KK) :
  OW P ⟨d,op,ty,pos,af,gd⟩ l w KK Q:=by
 have hq:∀op,qv2 P S op (fun s _=>K S s)=some r->OW P ⟨d,op,ty,pos,af,gd⟩ l w KK Q:=fun op hv=>by obtain⟨s,rd,h1,v,h2,h3⟩:=GR h.fr h.ent hv;exact kZ (h3 w (Fz.refl _ _) (fun _ _ _ _=>rfl)) (hk pl S s v w h rfl h2 h1)
 have hz:∀q,Rel B F w0 wr pl (jY S q) l ls w∧(jY S q).nt=S.nt:=fun q=>vL h;unfold opL at hv;split at hv
 ·grind[Bv,U7]
 ·rename_i t x
  split at hv
  ·rename_i s hs
   split at hv
   ·exact Ij h hv (gz h.fr hs) hk
   ·split at hv
    ·obtain⟨h1,h2⟩:=hz [x]
     split at hv
     ·rename_i s' hs'
      exact afd h1 hv (gz h1.fr hs') (by simp_all)
     grind
    ·exact afe h hv (gz h.fr hs) hk
  grind
 ·split at hv
  ·rename_i t a x _ _ _ _ _ ha0
   split at hv
   ·split at hv
    ·rename_i s hs
     exact Vi h hv (gz h.fr ha0) (gz h.fr hs) hk
    grind
   ·obtain⟨h1,h2⟩:=hz [x]
    split at hv
    ·rename_i a' s ha hs
     exact xB h1 hv (gz h1.fr ha) (gz h1.fr hs) (by simp_all)
    grind
  ·rename_i t a x _ _ _ _ _ _ _ _ _ _
   obtain⟨h1,h2⟩:=hz [x];split at hv
   ·rename_i a' s ha hs
    exact xB h1 hv (gz h1.fr ha) (gz h1.fr hs) (by simp_all)
   grind
  ·rename_i a' _ ha
   split at hv
   ·rename_i hs
    split at hv
    ·exact afu h hv (gz h.fr hs) hk
    ·exact Ad h hv (gz h.fr ha) (gz h.fr hs) hk
   ·rename_i hs
    exact Ad h hv (gz h.fr ha) (gz h.fr hs) (ar5 hk)
   grind
  grind
 ·split at hv
  ·rename_i h1 h2
   exact ae4 h hv (gz h.fr h1) (gz h.fr h2) hk
  grind
 ·grind[afn,arZ]
 ·split at hv
  ·rename_i hs
   split at hv
   ·exact aft h hv (gz h.fr hs) hk
   ·split at hv
    ·exact afp h hv (gz h.fr hs) hk
    ·exact arY h hv (gz h.fr hs) hk
  grind
 ·split at hv
  ·rename_i hs _
   exact ac6 h hv (gz h.fr hs) hk
  simp_all
 ·split at hv
  ·split at hv
   ·rename_i h3 h4
    split at hv
    ·rename_i ht
     have hv2:=hv;subst ht;exact afo h hv2 (gz h.fr h3) (gz h.fr h4) hk
    grind
   grind
  ·split at hv
   ·rename_i h3 h4
    obtain⟨h1,h2⟩:=hz [_];split at hv
    ·rename_i ht
     have hv2:=hv;subst ht;split at hv2
     ·exact afw h1 hv2 (gz h1.fr h3) (gz h1.fr h4) (by simp_all)
     ·split at hv2
      ·exact afq h1 hv2 (gz h1.fr h3) (gz h1.fr h4) (by simp_all)
      ·exact UU h1 hv2 (gz h1.fr h3) (gz h1.fr h4) (by simp_all)
    ·exact SF h1 hv (gz h1.fr h3) (gz h1.fr h4) (by simp_all)
   grind
 ·split at hv
  ·rename_i h3 h4
   obtain⟨h1,h2⟩:=hz [_];exact afg h1 hv (gz h1.fr h3) (gz h1.fr h4) (by simp_all)
  grind
 ·split at hv
  ·rename_i h3 h4
   exact Vf h hv (gz h.fr h3) (gz h.fr h4) hk
  grind
 ·split at hv
  ·rename_i h3
   exact atx h hv (gz h.fr h3) hk
  grind
 ·split at hv
  ·rename_i h3 h4
   exact aty h hv (gz h.fr h3) (gz h.fr h4) hk
  grind
 ·split at hv
  ·split at hv
   ·grind[ar1]
   ·obtain⟨pl1,h1,h2⟩:=NY (P:=P) (env:=env) (q:=_) h
    exact EW henv hcl h1 ND hv (by rw[h2];exact hk)
  ·exact EW henv hcl h ND hv hk
 ·exact EW henv hcl h ar2 hv hk
 ·grind[SH]
 ·split at hv
  ·rename_i h3 h4 h5
   obtain⟨h1,h2⟩:=hz [_];exact GN h1 (.inl rfl) hv (gz h1.fr h3) (gz h1.fr h4) (gz h1.fr h5) (by simp_all)
  grind
 ·split at hv
  ·rename_i h3 h4 h5
   obtain⟨h1,h2⟩:=hz [_];exact GN h1 (.inr rfl) hv (gz h1.fr h3) (gz h1.fr h4) (gz h1.fr h5) (by simp_all)
  grind
 ·split at hv
  ·rename_i h3
   exact Vp h hv (gz h.fr h3) hk
  grind
 ·split at hv
  ·rename_i h3
   exact adf hcl.1 h hv (gz h.fr h3) hk
  grind
 ·exact TG hcl.1 h (.inl rfl) hv hk
 ·exact TG hcl.1 h (.inr rfl) hv hk
 simp_all
def qD(S:St)(d:Option Tmp)(s:SV)(k:St->Option R):Option R :=
 match d with
 | none=>k S
 | some t=>if t<S.nt then k { S with fr:=(t,s)::S.fr } else none
theorem TH(h:Rel B F w0 wr pl S l ls w){d:Option Tmp}{s:SV}{v:Value}(hd:Den pl (lx pl S.own++F) w s v){k:St->Option R}(hv:qD S d s k=some r):∃S',Rel B F w0 wr pl S' (st l d v) ls w∧k S'=some r:=by
 unfold qD at hv;split at hv
 ·exact⟨S,h,hv⟩
 ·split at hv
  ·rename_i t ht
   exact⟨_,h.set ht hd,hv⟩
  grind
def grd(ops:List Oper)(S:St)(o:Oper)(run skip:St->Option R):Option R :=
 match o.guard with
 | none=>run S
 | some (j,want)=>match (ops[j]?).bind (·.dst) with
  | some t=>if t<S.nt then match get S.fr t with
   | some (.d .bool b)=>if b=true then (if want=true then run { S with fr:=(t,.d .bool true)::S.fr } else skip { S with fr:=(t,.d .bool true)::S.fr })
    else (if want=true then skip { S with fr:=(t,.d .bool false)::S.fr } else run { S with fr:=(t,.d .bool false)::S.fr })
   | some (.k (.tuple ⟨[]⟩))=>skip S
   | _=>none else none
  | none=>none
theorem BH(h:Rel B F w0 wr pl S l ls w){ops:List Oper}{o:Oper}{run skip:St->Option R}(hv:grd ops S o run skip=some r) :
  ∃S',Rel B F w0 wr pl S' l ls w∧S'.log=S.log∧S'.own=S.own∧S'.nx=S.nx∧((wtd ops.toArray o l=true∧run S'=some r)∨(wtd ops.toArray o l=false∧skip S'=some r)):=by
 unfold grd at hv;split at hv
 ·rename_i hg
  exact⟨S,h,rfl,rfl,rfl,.inl ⟨by simp_all[wtd,Region.wanted],hv⟩⟩
 ·rename_i j want hg
  split at hv
  ·rename_i t ht
   split at hv
   ·rename_i hlt
    have hlen:=h.nt;have hat:(mk l).tmps[t]? = some (l.getD t undef):=by simp_all[mk]
    have key:∀b:Bool,get S.fr t=some (.d .bool b)->Rel B F w0 wr pl { S with fr:=(t,.d .bool b)::S.fr } l ls w∧wtd ops.toArray o l=(some b == some want):=fun b hb=>by
     have hd:=mZ (h.fr t _ hb);constructor
     ·have h2:=h.set hlt (h.fr t _ hb)
      have e:l.set t (l.getD t undef)=l:=by
       have:t<l.length:=by simp_all
       rw[zX,zV this];simp
      simp_all
     simp_all[wtd,Region.wanted,yielded,mk,zD]
    split at hv
    ·grind
    ·rename_i hu
     refine⟨S,h,rfl,rfl,rfl,.inr ⟨?_,hv⟩⟩;have hd:l.getD t undef = .tuple ⟨[]⟩:=h.fr t _ hu;simp_all[wtd,Region.wanted,yielded,mk,zD]
    grind
   grind
  grind
def rg(P:Program)(env:Env)(cl:Cl R)(ops:List Oper):List Oper->St->(St->Option R)->Option R
 | [],S,k=>k S
 | o::q,S,k=>grd ops S o (fun S1=>opL P env cl S1 o.op o.type fun S2 s=>qD S2 o.dst s fun S3=>rg P env cl ops q S3 k) (fun S1=>qD S1 o.dst (.k undef) fun S3=>rg P env cl ops q S3 k)
theorem VB{env:Env}{cl:Cl R}(henv:o9 P w0.I env)(hcl:Ab P w0.I cl){ops:List Oper}:∀{q:List Oper} {pl:List Place} {S:St} {l:List Value} {w:World} {k:St->Option R},Rel B F w0 wr pl S l ls w->rg P env cl ops q S k=some r ->
  (∀pl' S' l' w',Rel B F w0 wr pl' S' l' ls w'->k S'=some r->Q .normal (mk l') w')->WL P ops.toArray Q q l w
 | [],pl,S,l,w,k,h,hv,hk=>as7 (hk _ _ _ _ h hv)
 | o::q,pl,S,l,w,k,h,hv,hk=>by
  unfold rg at hv;obtain⟨S1,h1,_,_,_,h2⟩:=BH h hv;rcases h2 with ⟨hw,hv⟩ | ⟨hw,hv⟩
  ·obtain⟨d,op,ty,pos,af,gd⟩:=o
   refine avD hw (NZ henv hcl h1 hv (fun pl' S' s v w' a1 a2 a3 a4=>?_));obtain⟨S3,b1,b2⟩:=TH a1 a3 a4;exact VB henv hcl b1 b2 hk
  ·obtain⟨S3,b1,b2⟩:=TH (s:=.k undef) (v:=undef) h1 rfl hv
   exact as8 hw (VB henv hcl b1 b2 hk)
end
end Ev
end
noncomputable section
namespace Ev
open Go Go.RowKit Sx
def msk(acc:List Nat)(s:Nat)(e:Edge):Nat:=if Region.binds .any e=true then s ||| 2 ^ e.on ||| acc.getD e.on 0 else s
def dps:List Oper->List Nat->List Nat
 | [],acc=>acc
 | o::q,acc=>dps q (acc++[o.after.toList.foldl (msk acc) 0])
section
variable {ops:Array Oper}
def yU(ops:Array Oper)(acc:List Nat):Prop:=∀(j m p:Nat),acc[j]? = some m->m.testBit p=true->Dep ops j p
theorem K8{acc:List Nat}(h:yU ops acc){j:Nat}{o:Oper}(ho:ops[j]? = some o):∀(es:List Edge) (s:Nat),(∀e∈es,e∈o.after.toList)->(∀p,s.testBit p=true->Dep ops j p) ->
  ∀p,(es.foldl (msk acc) s).testBit p=true->Dep ops j p
 | [],s,_,hs,p,hp=>hs p hp
 | e::es,s,he,hs,p,hp=>by
  refine K8 h ho es (msk acc s e) (fun e' h'=>he e' (zT _ h')) (fun q hq=>?_) p hp;unfold msk at hq;split at hq
  ·rename_i hb
   have hmem:e∈o.after:=by simp_all
   rw[Nat.testBit_or,Nat.testBit_or,Bool.or_eq_true,Bool.or_eq_true]at hq;rcases hq with (hq | hq) | hq
   ·simp_all
   ·rw[Nat.testBit_two_pow]at hq
    exact .one ho hmem hb (of_decide_eq_true hq)
   ·rw[zX]at hq
    cases ha:acc[e.on]? with
    | none=>simp_all
    | some m =>
     rw[ha]at hq;exact .step ho hmem hb rfl (h _ _ _ ha hq)
  simp_all
theorem N5:∀(q:List Oper) (pre:List Oper) (acc:List Nat),ops=(pre++q).toArray->acc.length=pre.length->yU ops acc->yU ops (dps q acc)
 | [],_,_,_,_,h=>h
 | o::q,pre,acc,ho,hl,h=>by
  have hat:ops[pre.length]? = some o:=by simp_all
  refine N5 q (pre++[o]) _ (by simp_all) (by grind) (fun j m p hj hp=>?_);rcases Nat.lt_or_ge j acc.length with hlt | hge
  ·rw[List.getElem?_append_left hlt]at hj
   exact h j m p hj hp
  ·rw[List.getElem?_append_right hge]at hj
   have:j=acc.length:=by grind
   subst this;rw[Nat.sub_self]at hj;grind[msk,K8]
end
abbrev Tl:=List (Nat×List Nat×Bool)
def chk(ds:List Nat)(i:Nat)(log:List Nat)(own:List (Nat×Ent)):Tl->Option Tl
 | []=>some []
 | (p,rd,al)::q=>(chk ds i log own q).bind fun q' =>
  if al=true∧rd.all (fun x=>!log.contains x && (get own x).isSome)=true then some ((p,rd,true)::q')
  else if (ds.getD i 0).testBit p=true then some ((p,rd,false)::q') else none
section
variable {R:Type}{B:Nat->Prop}{F:Lx}{w0:Bs}{wr:Wr}{pl pl':List Place}{S S':St}{l l':List Value}{ls:List (List Value)}{w w':World}{L L' M:Lx}{P:Program}{d:Option Tmp}{ty:TypeId}{pos:String}{af:Array Edge}{gd:Option (Nat×Bool)}
 {Q:Exit->Act->World->Prop} {KK:List Value->World->Prop} {K:St->SV->Option R} {r:R}
structure Asks(F:Lx) (pl:List Place) (own:List (Nat×Ent)) (w:World) (rd:List Nat) (Y:World->Prop):Prop where
 out:∃(plp:List Place) (Lp:Lx) (wp:World),(∀w',Y w'↔(Fz Lp wp w'∧∀i∈rd,∀k,plb plp i=some k->w'.heap[k]? = wp.heap[k]?))∧Y w∧Sub wp (lx pl own++F) Lp∧(∀(i:Nat) (p:Place),plp[i]? = some p->pl[i]? = some p)
def TOk(F:Lx)(pl:List Place)(own:List (Nat×Ent))(w:World):Tl->Tk->Prop
 | [],T=>T=[]
 | (p,rd,al)::q,T=>∃Y r,T=(p,Y)::r∧(al=true->Asks F pl own w rd Y)∧TOk F pl own w q r
theorem N6{opl:List Oper}{ds:List Nat}(hds:yU opl.toArray ds){i:Nat}{pl1 pl2:List Place}{S1 S2:St}{l1 l2:List Value}{ls1 ls2:List (List Value)}{w1 w2:World}(h1:Rel B F w0 wr pl1 S1 l1 ls1 w1)(h2:Rel B F w0 (here F pl1 S1 w1) pl2 S2 l2 ls2 w2) :
  ∀{T T':Tl} {Tk:Tk},chk ds i S2.log S2.own T=some T'->TOk F pl1 S1.own w1 T Tk->TOk F pl2 S2.own w2 T' Tk∧ST opl.toArray Tk i w2
 | [],T',Tk,h,ht=>by cases h;cases ht;exact⟨rfl,fun x hx=>by cases hx⟩
 | (p,rd,al)::q,T',Tk,h,⟨Y,r,hT,ha,hr⟩=>by
  subst hT;obtain⟨q',hq,h⟩:=iD h;obtain⟨i1,i2⟩:=N6 hds h1 h2 hq hr
  have dead:(ds.getD i 0).testBit p=true->Dep opl.toArray i p:=fun hb=>by
   rw[zX]at hb
   cases hd:ds[i]? with
   | none=>simp_all
   | some m=>rw[hd]at hb;exact hds i m p hd hb
  split at h
  ·rename_i hcond
   cases h
   obtain⟨plp,Lp,wp,k1,k2,k3,k4⟩:=(ha hcond.1).out;have k2':=(k1 w1).1 k2;have hsz:=k2'.1.size;have hf:=h2.tn.fz
   have hY:Y w2:=by
    refine (k1 w2).2 ⟨⟨hf.os.trans k2'.1.os,hf.tape.trans k2'.1.tape,hf.output.trans k2'.1.output,Nat.le_trans hsz hf.size,fun k hk hn=>?_⟩,fun x hx k hk=>?_⟩
    ·rw[hf.block k (Nat.lt_of_lt_of_le hk hsz) (fun hm=>?_)]
     ·exact k2'.1.block k hk hn
     ·rcases k3 k hm with h3 | h3
      ·grind
      ·omega
    ·have hall:=List.all_eq_true.1 hcond.2 x hx
     simp only[zO,Bool.not_eq_true',Option.isSome_iff_exists]at hall;obtain⟨hnl,e,hg⟩:=hall;have hpl1:plb pl1 x=some k:=Td k4 hk;have hlt:x<S1.nx:=by unfold plb at hpl1;obtain⟨pp,hp1,_⟩:=Option.bind_eq_some_iff.1 hpl1;rw[h1.nx];grind
     rw[h2.tn.keep (x,e) (iI hg) hlt (by simp_all) k (Td h2.tn.pls hpl1)];exact k2'.2 x hx k hk
   refine⟨⟨Y,r,rfl,fun _=>⟨plp,Lp,wp,k1,hY,fun k hk=>?_,fun j p hj=>h2.tn.pls j p (k4 j p hj)⟩,i1⟩,fun x hx=>?_⟩
   ·rcases h2.tn.sb k hk with h3 | h3
    ·exact k3 k h3
    ·exact .inr (Nat.le_trans hsz h3)
   ·rcases List.mem_cons.1 hx with hx | hx
    ·subst hx;grind
    ·exact i2 x hx
  ·split at h
   ·rename_i hb
    cases h
    refine⟨⟨Y,r,rfl,fun h=>(by cases h),i1⟩,fun x hx=>?_⟩;rcases List.mem_cons.1 hx with hx | hx
    ·simp_all
    ·exact i2 x hx
   grind
theorem TOk.same:∀{T:Tl} {Tk:Tk} {own own':List (Nat×Ent)},TOk F pl own w T Tk->lx pl own'=lx pl own->TOk F pl own' w T Tk
 | [],_,_,_,h,_=>h
 | (p,rd,al)::q,_,own,own',⟨Y,r,hT,ha,hr⟩,he=>⟨Y,r,hT,fun hal=>by
   obtain⟨plp,Lp,wp,h1,h2,h3,h4⟩:=(ha hal).out
   exact⟨plp,Lp,wp,h1,h2,by simp_all,h4⟩,TOk.same hr he⟩
def rdw(P:Program)(env:Env)(cl:Cl R)(ops:List Oper)(ds:List Nat):List (Nat×Bool×Oper)->Tl->St->(St->Option R)->Option R
 | [],_,S,k=>k S
 | (i,true,o)::q,T,S,k=>grd ops S o (fun S1=>qv2 P S1 o.op fun s rd=>qD S1 o.dst s fun S3=>rdw P env cl ops ds q ((i,rd,true)::T) S3 k)
   (fun S1=>qD S1 o.dst (.k undef) fun S3=>rdw P env cl ops ds q ((i,[],true)::T) S3 k)
 | (i,false,o)::q,T,S,k=>grd ops S o (fun S1=>opL P env cl { S1 with log:=[] } o.op o.type fun S2 s=>match chk ds i S2.log S2.own T with
    | some T'=>qD { S2 with log:=S1.log++S2.log } o.dst s fun S3=>rdw P env cl ops ds q T' S3 k
    | none=>none)
   (fun S1=>qD S1 o.dst (.k undef) fun S3=>rdw P env cl ops ds q T S3 k)
theorem pR(h:Rel B F w0 wr pl S l ls w){d:Option Tmp}{s:SV}{v:Value}(hd:Den pl (lx pl S.own++F) w s v){k:St->Option R}(hv:qD S d s k=some r):∃S',Rel B F w0 wr pl S' (st l d v) ls w∧k S'=some r∧S'.own=S.own:=by
 unfold qD at hv;split at hv
 ·exact⟨S,h,hv,rfl⟩
 ·split at hv
  ·rename_i t ht
   exact⟨_,h.set ht hd,hv,rfl⟩
  grind
theorem BI{env:Env}{cl:Cl R}(henv:o9 P w0.I env)(hcl:Ab P w0.I cl){ops:List Oper}{ds:List Nat}(hds:yU ops.toArray ds):∀{q:List (Nat×Bool×Oper)} {T:Tl} {Tk:Tk} {pl:List Place} {S:St} {l:List Value} {w:World} {k:St->Option R},
  Rel B F w0 wr pl S l ls w->TOk F pl S.own w T Tk->rdw P env cl ops ds q T S k=some r ->
  (∀pl' S' l' w',Rel B F w0 wr pl' S' l' ls w'->k S'=some r->Q .normal (mk l') w')->WY P ops.toArray Q q Tk l w
 | [],T,Tk,pl,S,l,w,k,h,ht,hv,hk=>hk _ _ _ _ h hv
 | (i,true,o)::q,T,Tk,pl,S,l,w,k,h,ht,hv,hk=>by
  unfold rdw at hv;obtain⟨S1,h1,_,e2,_,h2⟩:=BH h hv;have ht1:TOk F pl S1.own w T Tk:=ht.same (by rw[e2]);rcases h2 with ⟨hw,hv⟩ | ⟨hw,hv⟩
  ·obtain⟨d,op,ty,pos,af,gd⟩:=o
   obtain⟨s,rd,hv,v,hd,hy⟩:=GR (d:=d) (ty:=ty) (pos:=pos) (af:=af) (gd:=gd) h1.fr h1.ent hv;obtain⟨S3,b1,b2,b3⟩:=pR h1 hd hv;refine⟨v,fun w'=>Fz (lx pl S1.own++F) w w'∧∀x∈rd,∀k,plb pl x=some k->w'.heap[k]? = w.heap[k]?,.inl ⟨hw,fun w' hY=>by rw[sK];exact hy w' hY.1 hY.2⟩,⟨Fz.refl _ _,fun _ _ _ _=>rfl⟩,?_⟩;refine BI (T:=(i,rd,true)::T) henv hcl hds b1 ⟨_,_,rfl,fun _=>⟨pl,lx pl S1.own++F,w,fun w'=>Iff.rfl,⟨Fz.refl _ _,fun _ _ _ _=>rfl⟩,by rw[b3];exact Sub.refl _ _,fun _ _ h=>h⟩,ht1.same (by rw[b3])⟩ b2 hk
  ·obtain⟨S3,b1,b2,b3⟩:=pR (s:=.k undef) (v:=undef) h1 rfl hv
   refine⟨undef,fun w'=>Fz (lx pl S1.own++F) w w'∧∀x∈([]:List Nat),∀k,plb pl x=some k->w'.heap[k]? = w.heap[k]?,.inr ⟨hw,rfl⟩,⟨Fz.refl _ _,fun _ h=>by cases h⟩,?_⟩;refine BI (T:=(i,[],true)::T) henv hcl hds b1 ⟨_,_,rfl,fun _=>⟨pl,lx pl S1.own++F,w,fun w'=>Iff.rfl,⟨Fz.refl _ _,fun _ h=>by cases h⟩,by rw[b3];exact Sub.refl _ _,fun _ _ h=>h⟩,ht1.same (by rw[b3])⟩ b2 hk
 | (i,false,o)::q,T,Tk,pl,S,l,w,k,h,ht,hv,hk=>by
  unfold rdw at hv;obtain⟨S1,h1,_,e2,_,h2⟩:=BH h hv;have ht1:TOk F pl S1.own w T Tk:=ht.same (by rw[e2]);rcases h2 with ⟨hw,hv⟩ | ⟨hw,hv⟩
  ·obtain⟨d,op,ty,pos,af,gd⟩:=o
   show if wtd ops.toArray _ l=true then _ else _;rw[if_pos hw];refine NZ henv hcl h1.base hv (fun pl' S' s v w' a1 a2 a3 a4=>?_);split at a4
   ·rename_i T' hT'
    have hb:=h1.back a1;obtain⟨t1,t2⟩:=N6 hds h1 a1 hT' ht1;obtain⟨S3,b1,b2,b3⟩:=pR hb a3 a4;exact⟨t2,BI henv hcl hds b1 (t1.same (by rw[b3])) b2 hk⟩
   ·cases a4
  ·obtain⟨S3,b1,b2,b3⟩:=pR (s:=.k undef) (v:=undef) h1 rfl hv
   show if wtd ops.toArray _ l=true then _ else _;rw[if_neg (by rw[hw];decide)];exact BI henv hcl hds b1 (ht1.same (by rw[b3])) b2 hk
end
end Ev
end
noncomputable section
namespace Ev
open Go Go.RowKit Sx
inductive Sg where
 | nil
 | tk (i:Nat) (q:Sg)
 | alt (i:Nat) (q r:Sg)
 | stop
def Sg.sz:Sg->Nat
 | .nil=>1
 | .tk _ q=>q.sz+1
 | .alt _ q r=>q.sz+r.sz+1
 | .stop=>1
def Sg.isStop:Sg->Bool
 | .stop=>true
 | _=>false
def Sg.idx:Sg->List Nat
 | .alt i _ r=>i::r.idx
 | _=>[]
def sV(ops:Array Oper):Bool->Sg->Array Bool->Bool
 | c,.nil,listed=>!c && (Region.ready .any ops listed).isEmpty
 | c,.tk i q,listed=>!c && Region.free .any ops listed i && (Region.ready .any ops listed).contains i && decide (i<ops.size) && sV ops false q (listed.setIfInBounds i true)
 | c,.alt i q r,listed=>(c || ((Region.ready .any ops listed).all (fun j=>(Sg.alt i q r).idx.contains j) && !(Region.ready .any ops listed).isEmpty)) && decide (i<ops.size) && sV ops false q (listed.setIfInBounds i true) && sV ops true r listed
 | c,.stop,_=>c
section
variable {P:Program}{ops:Array Oper}{Q:Exit->Act->World->Prop}
def afz(P:Program)(opl:List Oper)(Q:Exit->Act->World->Prop)(i:Nat)(T:Tk)(l:List Value)(w:World)(C:List Value->World->Prop):Prop :=
 ∃o,opl[i]? = some o∧(if wtd opl.toArray o l=true then OW P o l w (fun l' w'=>ST opl.toArray T i w'∧C l' w') Q else C (st l o.dst undef) w)
def WYT(P:Program)(opl:List Oper)(Q:Exit->Act->World->Prop):Sg->Tk->List Value->World->Prop
 | .nil,_,l,w=>Q .normal (mk l) w
 | .tk i q,T,l,w=>∃o,opl[i]? = some o∧∃v Y,YieldsIf P opl.toArray Y o v (mk l)∧Y w∧WYT P opl Q q ((i,Y)::T) (st l o.dst v) w
 | .alt i q r,T,l,w=>afz P opl Q i T l w (fun l' w'=>WYT P opl Q q T l' w')∧WYT P opl Q r T l w
 | .stop,_,_,_=>True
theorem TI{opl:List Oper}{T:Tk}{l:List Value}{w:World}{listed:Array Bool}:∀{s:Sg} {c:Bool},sV opl.toArray c s listed=true->WYT P opl Q s T l w->∀j∈s.idx,∃q:Sg,q.sz<s.sz∧sV opl.toArray false q (listed.setIfInBounds j true)=true∧afz P opl Q j T l w (fun l' w'=>WYT P opl Q q T l' w')
 | .alt i q r,c,hk,⟨h1,h2⟩,j,hj=>by
  simp only[sV,zO]at hk;rcases List.mem_cons.1 hj with rfl | hj
  ·exact⟨q,by simp[Sg.sz];omega,hk.1.2,h1⟩
  ·obtain⟨q',h3,h4,h5⟩:=TI hk.2 h2 j hj
   exact⟨q',by simp[Sg.sz];omega,h4,h5⟩
 | .nil,_,_,_,j,hj=>by cases hj
 | .tk _ _,_,_,_,j,hj=>by cases hj
 | .stop,_,_,_,j,hj=>by cases hj
theorem ar6{rd:Option Nat}{opl:List Oper}(hs:Region.noSelect opl.toArray=true)(hQ:∀c a a' w,Q (.panic c) a w->Q (.panic c) a' w) :
  ∀(n:Nat) (s:Sg) (fuel:Nat) (listed:Array Bool) (T:Tk) (l:List Value) (w:World),s.sz≤n->sV opl.toArray false s listed=true->(listed.toList.filter (fun b=>!b)).length≤fuel->listed.size=opl.length->Closed opl.toArray listed ->
   WYT P opl Q s T l w->wpAnyG rd P opl.toArray Q (ST opl.toArray T) fuel listed (mk l) w:=by
 have dec:∀{listed:Array Bool} {i:Nat},listed.size=opl.length->i∈Region.ready .any opl.toArray listed->i<opl.length->((listed.setIfInBounds i true).toList.filter (fun b=>!b)).length+1≤(listed.toList.filter (fun b=>!b)).length:=by
  intro listed i hsz hi hlt;have hun:=(mem_ready.1 hi).1;obtain⟨L⟩:=listed;simp at hsz hun ⊢;have hil:i<L.length:=by omega
  have hg:L[i]? = some false:=by simp_all
  clear hun hi
  have:∀(L:List Bool) (i:Nat),L[i]? = some false->((L.set i true).filter (fun b=>!b)).length+1≤(L.filter (fun b=>!b)).length:=by
   intro L
   induction L with
   | nil=>simp
   | cons a L ih =>
    intro i h
    cases i with
    | zero=>simp_all
    | succ i =>
     grind
  simp_all
 intro n
 induction n with
 | zero=>intro s _ _ _ _ _ h;cases s<;>simp[Sg.sz]at h
 | succ n ih =>
  intro s fuel listed T l w hn hB hf hsz hc h
  cases s with
  | stop=>grind[sV]
  | nil =>
   have hr:Region.ready .any opl.toArray listed=[]:=by simp_all[sV]
   cases fuel with
   | zero=>exact⟨hr,h⟩
   | succ m=>exact⟨fun _=>h,by simp_all⟩
  | tk i q =>
   simp only[sV,zO,decide_eq_true_eq]at hB;obtain⟨⟨⟨⟨_,h1⟩,h2⟩,h3⟩,h4⟩:=hB;obtain⟨o,ho,v,Y,hy,hY,hr⟩:=h;have hrd:i∈Region.ready .any opl.toArray listed:=by simp_all
   have hd:=dec hsz hrd (by omega)
   cases fuel with
   | zero=>omega
   | succ m =>
    refine Bl (by simp_all) (Region.noSelect_spec hs) (fun c a w=>hQ c _ _ w) m listed (mk l) w hc (Region.free_spec (by simp_all) h1) hrd hy hY ?_;rw[uz];have:=ih q m _ ((i,Y)::T) _ w (by simp_all[Sg.sz]) h4 (by omega) (by simp_all) (hc.push hrd) hr;exact wpAnyG.weak (fun j w h=>⟨fun x hx=>h x (zT _ hx),h (i,Y) (List.mem_cons_self ..)⟩) _ _ _ _ this
  | alt i q r =>
   have hB0:=hB;simp only[sV,zO,decide_eq_true_eq,Bool.false_or]at hB;obtain⟨⟨⟨⟨hall,hne⟩,h3⟩,h4⟩,h5⟩:=hB;have hne':Region.ready .any opl.toArray listed ≠ []:=by simp_all
   have hfu:∃m,fuel=m+1:=by
    cases fuel with
    | zero =>
     grind[List.exists_mem_of_ne_nil,mem_ready,Array.getElem?_eq_some_iff]
    | succ m=>simp
   obtain⟨m,rfl⟩:=hfu;refine⟨fun h0=>absurd h0 hne',fun j hj=>?_⟩;have hji:j∈(Sg.alt i q r).idx:=by simp_all
   obtain⟨q',g1,g2,o,ho,g3⟩:=TI hB0 h j hji;have hjl:j<opl.length:=(List.getElem?_eq_some_iff.1 ho).1;have hd:=dec hsz hj hjl;unfold wpOpIn;have ho':opl.toArray[j]? = some o:=by simp_all
   simp only[ho'];by_cases hw:wtd opl.toArray o l=true
   ·rw[if_pos hw]at g3
    unfold wtd at hw;rw[if_pos hw];refine Oper.wpIn_mono (fun a w' hk=>?_) (g3 rd);obtain⟨l',rfl,hS',hk⟩:=hk;exact⟨.inr hS',ih q' m _ T _ w' (by omega) g2 (by omega) (by simp_all) (hc.push hj) hk⟩
   ·rw[if_neg hw]at g3
    unfold wtd at hw;rw[if_neg hw,uz];exact⟨fun _ _=>trivial,by simp,ih q' m _ T _ w (by omega) g2 (by omega) (by simp_all) (hc.push hj) g3⟩
theorem IP{id:Nat}{opl:List Oper}{l:List Value}{w:World}(s:Sg)(hm:P.follows .mixedOrders=true)
  (hB:(Region.noSelect opl.toArray && sV opl.toArray false s (Array.replicate opl.toArray.size false))=true)
  (hQ:∀c a a' w,Q (.panic c) a w->Q (.panic c) a' w)
  (h:WYT P opl Q s [] l w.drew):CW P (.region id opl.toArray true) Q l w:=by
 simp only[zO]at hB;obtain⟨h1,h2⟩:=hB;refine fun rd=>wpIn_region_any hm (zk _ _ _ _ (ar6 h1 hQ _ s _ _ _ _ _ (Nat.le_refl _) h2 ?_ (by simp) (Closed.start _) h));simp
end
section
variable {R:Type}
def two(eq:R->R->Bool)(one:Bool)(x y:Option R):Option R:=if one=true then x else amb eq [x,y]
def rdt(P:Program)(env:Env)(cl:Cl R)(ops:List Oper)(ds:List Nat):Sg->Tl->St->(St->Option R)->Option R
 | .nil,_,S,k=>k S
 | .tk i q,T,S,k=>match ops[i]? with
  | none=>none
  | some o=>grd ops S o (fun S1=>qv2 P S1 o.op fun s rd=>qD S1 o.dst s fun S3=>rdt P env cl ops ds q ((i,rd,true)::T) S3 k)
   (fun S1=>qD S1 o.dst (.k undef) fun S3=>rdt P env cl ops ds q ((i,[],true)::T) S3 k)
 | .alt i q r,T,S,k =>
  two cl.eq r.isStop (match ops[i]? with
   | none=>none
   | some o=>grd ops S o (fun S1=>opL P env cl { S1 with log:=[] } o.op o.type fun S2 s=>match chk ds i S2.log S2.own T with
     | some T'=>qD { S2 with log:=S1.log++S2.log } o.dst s fun S3=>rdt P env cl ops ds q T' S3 k
     | none=>none)
    (fun S1=>qD S1 o.dst (.k undef) fun S3=>rdt P env cl ops ds q T S3 k)) (rdt P env cl ops ds r T S k)
 | .stop,_,_,_=>none
end
section
variable {R:Type}{B:Nat->Prop}{F:Lx}{w0:Bs}{wr:Wr}{ls:List (List Value)}{P:Program}{Q:Exit->Act->World->Prop}{r:R}
theorem yV{env:Env}{cl:Cl R}(henv:o9 P w0.I env)(hcl:Ab P w0.I cl){ops:List Oper}{ds:List Nat}(hds:yU ops.toArray ds):∀{s:Sg} {T:Tl} {Tk:Tk} {pl:List Place} {S:St} {l:List Value} {w:World} {k:St->Option R},
  Rel B F w0 wr pl S l ls w->TOk F pl S.own w T Tk->rdt P env cl ops ds s T S k=some r ->
  (∀pl' S' l' w',Rel B F w0 wr pl' S' l' ls w'->k S'=some r->Q .normal (mk l') w')->WYT P ops Q s Tk l w
 | .nil,T,Tk,pl,S,l,w,k,h,ht,hv,hk=>hk _ _ _ _ h hv
 | .stop,T,Tk,pl,S,l,w,k,h,ht,hv,hk=>trivial
 | .tk i q,T,Tk,pl,S,l,w,k,h,ht,hv,hk=>by
  unfold rdt at hv;split at hv
  ·cases hv
  ·rename_i o ho
   obtain⟨S1,h1,_,e2,_,h2⟩:=BH h hv;have ht1:TOk F pl S1.own w T Tk:=ht.same (by rw[e2]);refine⟨o,ho,?_⟩;rcases h2 with ⟨hw,hv⟩ | ⟨hw,hv⟩
   ·obtain⟨d,op,ty,pos,af,gd⟩:=o
    obtain⟨s,rd,hv,v,hd,hy⟩:=GR (d:=d) (ty:=ty) (pos:=pos) (af:=af) (gd:=gd) h1.fr h1.ent hv;obtain⟨S3,b1,b2,b3⟩:=pR h1 hd hv;refine⟨v,fun w'=>Fz (lx pl S1.own++F) w w'∧∀x∈rd,∀k,plb pl x=some k->w'.heap[k]? = w.heap[k]?,.inl ⟨hw,fun w' hY=>by rw[sK];exact hy w' hY.1 hY.2⟩,⟨Fz.refl _ _,fun _ _ _ _=>rfl⟩,?_⟩;refine yV (T:=(i,rd,true)::T) henv hcl hds b1 ⟨_,_,rfl,fun _=>⟨pl,lx pl S1.own++F,w,fun w'=>Iff.rfl,⟨Fz.refl _ _,fun _ _ _ _=>rfl⟩,by rw[b3];exact Sub.refl _ _,fun _ _ h=>h⟩,ht1.same (by rw[b3])⟩ b2 hk
   ·obtain⟨S3,b1,b2,b3⟩:=pR (s:=.k undef) (v:=undef) h1 rfl hv
    refine⟨undef,fun w'=>Fz (lx pl S1.own++F) w w'∧∀x∈([]:List Nat),∀k,plb pl x=some k->w'.heap[k]? = w.heap[k]?,.inr ⟨hw,rfl⟩,⟨Fz.refl _ _,fun _ h=>by cases h⟩,?_⟩;refine yV (T:=(i,[],true)::T) henv hcl hds b1 ⟨_,_,rfl,fun _=>⟨pl,lx pl S1.own++F,w,fun w'=>Iff.rfl,⟨Fz.refl _ _,fun _ h=>by cases h⟩,by rw[b3];exact Sub.refl _ _,fun _ _ h=>h⟩,ht1.same (by rw[b3])⟩ b2 hk
 | .alt i q rr,T,Tk,pl,S,l,w,k,h,ht,hv,hk=>by
  have one:∀{x:Option R},x=(match ops[i]? with
   | none=>none
   | some o=>grd ops S o (fun S1=>opL P env cl { S1 with log:=[] } o.op o.type fun S2 s=>match chk ds i S2.log S2.own T with
     | some T'=>qD { S2 with log:=S1.log++S2.log } o.dst s fun S3=>rdt P env cl ops ds q T' S3 k
     | none=>none)
    (fun S1=>qD S1 o.dst (.k undef) fun S3=>rdt P env cl ops ds q T S3 k))->x=some r->afz P ops Q i Tk l w (fun l' w'=>WYT P ops Q q Tk l' w'):=fun {x} hx hv=>by
   rw[hx]at hv;split at hv
   ·cases hv
   ·rename_i o ho
    refine⟨o,ho,?_⟩;obtain⟨S1,h1,_,e2,_,h2⟩:=BH h hv;have ht1:TOk F pl S1.own w T Tk:=ht.same (by rw[e2]);rcases h2 with ⟨hw,hv⟩ | ⟨hw,hv⟩
    ·obtain⟨d,op,ty,pos,af,gd⟩:=o
     rw[if_pos hw];refine NZ henv hcl h1.base hv (fun pl' S' s v w' a1 a2 a3 a4=>?_);split at a4
     ·rename_i T' hT'
      have hb:=h1.back a1;obtain⟨t1,t2⟩:=N6 hds h1 a1 hT' ht1;obtain⟨S3,b1,b2,b3⟩:=pR hb a3 a4;exact⟨t2,yV henv hcl hds b1 (t1.same (by rw[b3])) b2 hk⟩
     ·cases a4
    ·obtain⟨S3,b1,b2,b3⟩:=pR (s:=.k undef) (v:=undef) h1 rfl hv
     rw[if_neg (by rw[hw];decide)];exact yV henv hcl hds b1 (ht1.same (by rw[b3])) b2 hk
  unfold rdt two at hv;split at hv
  ·rename_i hst
   have hst:rr = .stop:=by cases rr<;>simp[Sg.isStop]at hst ⊢
   subst hst;exact⟨one rfl hv,trivial⟩
  ·have:=ada hcl.1 hv
   exact⟨one rfl (this _ (by simp)),yV henv hcl hds h ht (this _ (by simp)) hk⟩
end
end Ev
end
noncomputable section
namespace Ev
open Go Go.RowKit Sx
def idF:Fr->List Nat
 | []=>[]
 | (_,s)::q=>idS s++idF q
def Ai(fr:Fr):List Nat->Fr
 | []=>[]
 | t::q=>match get fr t with
  | some s=>(t,s)::Ai fr q
  | none=>Ai fr q
def reach(own:List (Nat×Ent)):Nat->List Nat->List Nat->List Nat
 | 0,_,d=>d
 | _,[],d=>d
 | n+1,i::q,d=>if d.contains i then reach own n q d else match get own i with
  | some e=>reach own n (idE e++q) (d++[i])
  | none=>reach own n q d
def pos:List Nat->Nat->Nat
 | [],_=>0
 | j::q,i=>if j=i then 0 else pos q i+1
def okF(ds:List Nat):Fr->Fr
 | []=>[]
 | (t,s)::q=>if (idS s).all (fun i=>ds.contains i)=true then (t,s)::okF ds q else okF ds q
def N7(f:Nat->Nat):Fr->Fr
 | []=>[]
 | (t,s)::q=>(t,lZ f s)::N7 f q
def VC(own:List (Nat×Ent))(f:Nat->Nat)(all:List Nat):List Nat->Option (List (Nat×Ent))
 | []=>some []
 | i::q=>match get own i with
  | some e=>if (idE e).all (fun j=>all.contains j)=true then (VC own f all q).map fun r=>(f i,Im f e)::r else none
  | none=>none
inductive Co where
 | row (t:Nat) (e:TypeId)
 | frz (t:Nat)
 | unl (t:Nat)
 | frb (t:Nat)
 | agd (t:Nat) (ty:Ty)
 | rwb (t j:Nat) (e:TypeId)
 | slf (t j:Nat)
 | opn (t:Nat) (c:List (Nat×TypeId))
 | opc (t j:Nat) (c:List (Nat×TypeId))
 | quw (t j:Nat) (e:TypeId)
structure Hint where
 co:List Co
 keep:List Nat
def DZ:Ty->List Ty
 | .pr a b=>DZ a++DZ b
 | .wr a=>DZ a
 | .un=>[]
 | t=>[t]
def dcl:SV->Ty->SV
 | .k (.slice none 0 0),.sl t=>.d (.sl t) []
 | s,_=>s
def VD:List SV->List Ty->List SV
 | s::q,t::r=>dcl s t::VD q r
 | q,_=>q
def wu:List Nat->St->St
 | [],S=>S
 | j::q,S=>match frz S j with
  | some S'=>wu q S'
  | none=>wu q S
def VE(P:Program)(t:Nat)(S:St):St:=match get S.fr t with
 | some (.pb i _)=>match get S.own i with
  | some (.box _ cs)=>let S1:=wu (rJ cs) S
   match get S1.own i with
   | some (.box T cs1)=>match tyc P T with
    | some y=>{ S1 with own:=kK i (.box T (VD cs1 (DZ y))) S1.own,log:=i::S1.log }
    | none=>S1
   | _=>S1
  | _=>S
 | _=>S
def VF(t:Nat)(ty:Ty)(S:St):St:=match get S.fr t with
 | some s=>match toD ty s with
  | some x=>if t<S.nt then { S with fr:=(t,.d ty x)::S.fr } else S
  | none=>S
 | none=>S
def VG(P:Program)(t j:Nat)(e:TypeId)(S:St):St:=match get S.fr t,ny P e with
 | some (.pb i _),some ⟨t0,_⟩=>match get ((S.nx,Ent.row t0 e [])::S.own) i with
  | some (.box T cs)=>match cs[j]? with
   | some (.k (.slice none 0 0))=>{ S with own:=kK i (.box T (cs.set j (.row S.nx))) ((S.nx,.row t0 e [])::S.own),nx:=S.nx+1,log:=i::S.log }
   | _=>S
  | _=>S
 | _,_=>S
def VH(P:Program)(t j:Nat)(e:TypeId)(S:St):St:=match get S.fr t,ny P e with
 | some (.pb i _),some ⟨t0,_⟩=>match get ((S.nx,Ent.que t0 e [])::S.own) i with
  | some (.box T cs)=>match cs[j]? with
   | some (.k (.slice none 0 0))=>{ S with own:=kK i (.box T (cs.set j (.row S.nx))) ((S.nx,.que t0 e [])::S.own),nx:=S.nx+1,log:=i::S.log }
   | some (.row k)=>match get S.own k with
    | some (.row t1 e1 xs)=>{ S with own:=kK k (.que t1 e1 xs) S.own,log:=k::S.log }
    | some (.que t1 e1 xs)=>if k<S.ln then match get (nX k S.nx (.que t1 e1 xs) S.own) i with
      | some (.box T cs)=>match cs[j]? with
       | some (.row k')=>if k'=k then { S with own:=kK i (.box T (cs.set j (.row S.nx))) (nX k S.nx (.que t1 e1 xs) S.own),nx:=S.nx+1,log:=i::k::S.log } else S
       | _=>S
      | _=>S
     else S
    | _=>S
   | _=>S
  | _=>S
 | _,_=>S
def VI(t j:Nat)(S:St):St:=match get S.fr t with
 | some (.pb i _)=>match get S.own i with
  | some (.box T cs)=>match cs[j]? with
   | some (.k (.pointer none))=>{ S with own:=kK i (.box T (cs.set j (.opb false i 0))) S.own,log:=i::S.log }
   | some (.pb i' o')=>{ S with own:=kK i (.box T (cs.set j (.opb true i' o'))) S.own,log:=i::S.log }
   | _=>S
  | _=>S
 | _=>S
def afA(c:List (Nat×TypeId)):Nat->List Ty->List SV
 | _,[]=>[]
 | n,t::q=>(match get c n with
  | some _=>.k (.slice none 0 0)
  | none=>.d t (dfl t))::afA c (n+1) q
def IQ(P:Program)(i:Nat):List (Nat×TypeId)->St->St
 | [],S=>S
 | (j,e)::q,S=>IQ P i q (match ny P e with
  | some ⟨t0,_⟩=>match get ((S.nx,Ent.row t0 e [])::S.own) i with
   | some (.rowo t e0 b xs cs)=>match cs[j]? with
    | some (.k (.slice none 0 0))=>{ S with own:=kK i (.rowo t e0 b xs (cs.set j (.row S.nx))) ((S.nx,.row t0 e [])::S.own),nx:=S.nx+1,log:=i::S.log }
    | _=>S
   | _=>S
  | none=>S)
def N8(P:Program)(i:Nat)(c:List (Nat×TypeId))(S:St):St:=match get S.own i with
 | some (.row t e xs)=>IQ P i c { S with own:=kK i (.rowo t e false xs (afA c 0 (DZ t))) S.own,log:=i::S.log }
 | some (.rowo _ _ _ _ _)=>IQ P i c S
 | _=>S
def VJ(P:Program)(t:Nat)(c:List (Nat×TypeId))(S:St):St:=match get S.fr t with
 | some (.row i)=>N8 P i c S
 | _=>S
def VK(P:Program)(t j:Nat)(c:List (Nat×TypeId))(S:St):St:=match get S.fr t with
 | some (.pb b _)=>match get S.own b with
  | some (.box _ cs)=>match cs[j]? with
   | some (.row i)=>N8 P i c S
   | _=>S
  | _=>S
 | _=>S
def jG(P:Program):List Co->St->St
 | [],S=>S
 | .row t e::q,S=>match get S.fr t,ny P e with
  | some (.k (.slice none 0 0)),some ⟨t0,_⟩=>if t<S.nt then jG P q { S with own:=(S.nx,.row t0 e [])::S.own,nx:=S.nx+1,fr:=(t,.row S.nx)::S.fr } else jG P q S
  | _,_=>jG P q S
 | .frz t::q,S=>match get S.fr t with
  | some (.row i)=>match frz S i with
   | some S'=>jG P q S'
   | none=>jG P q S
  | some (.k (.slice none 0 0))=>jG P q S
  | _=>jG P q S
 | .unl t::q,S=>match get S.fr t with
  | some (.row i)=>match get S.own i with
   | some (.row t0 e xs)=>if i<S.ln∧t<S.nt then jG P q { S with own:=nX i S.nx (.row t0 e xs) S.own,nx:=S.nx+1,log:=i::S.log,fr:=(t,.row S.nx)::S.fr } else jG P q S
   | _=>jG P q S
  | _=>jG P q S
 | .frb t::q,S=>jG P q (VE P t S)
 | .agd t ty::q,S=>jG P q (VF t ty S)
 | .rwb t j e::q,S=>jG P q (VG P t j e S)
 | .slf t j::q,S=>jG P q (VI t j S)
 | .opn t c::q,S=>jG P q (VJ P t c S)
 | .opc t j c::q,S=>jG P q (VK P t j c S)
 | .quw t j e::q,S=>jG P q (VH P t j e S)
def Md(n:Nat):List (Nat×Ent)->List Nat
 | []=>[]
 | (i,_)::q=>if i<n then i::Md n q else Md n q
def wz(n:Nat):List Nat->List Nat
 | []=>[]
 | i::q=>if i<n then wz n q else i::wz n q
def nmb(n:Nat)(ds:List Nat)(i:Nat):Nat:=if i<n then i else n+pos (wz n ds) i
def nrm(P:Program)(h:Hint)(S0:St):Option St :=
 match S0.up with
 | [] =>
  let S:=jG P h.co S0
  let fr:=Ai S.fr h.keep
  let ds:=reach S.own 1000 (Md S.ln S.own++idF fr) []
  if nodup ds=true then
   match VC S.own (nmb S.ln ds) ds ds with
   | some own=>some { fr:=N7 (nmb S.ln ds) (okF ds fr),nt:=S.nt,up:=[],own:=own,nx:=S.ln+(wz S.ln ds).length,log:=[],ln:=S.ln }
   | none=>none
  else none
 | _=>none
section
variable {B:Nat->Prop}{F:Lx}{w0:Bs}{wr:Wr}{pl pl':List Place}{S S':St}{l l':List Value}{ls:List (List Value)}{w w':World}{L L' M:Lx}{P:Program}
theorem atB(h:Rel B F w0 wr pl S l ls w){t i:Nat}{t0:Ty}{e:TypeId}{xs:List (Vl t0)}(hg:get S.fr t=some (.row i))(ho:get S.own i=some (.row t0 e xs))(hlt:t<S.nt) :
  ∃pl',Rel B F w0 wr pl' { S with own:=nX i S.nx (.row t0 e xs) S.own,nx:=S.nx+1,log:=i::S.log,fr:=(t,.row S.nx)::S.fr } l ls w:=by
 obtain⟨pre,post,h1,h2⟩:=lu ho;obtain⟨p,hp,how⟩:=h.ent (i,.row t0 e xs) (iI ho);have e0:blk p.a=plb pl i:=by simp_all[plb]
 have e3:lx pl S.own=lx pl pre++plb pl i::lx pl post:=by rw[h1,lY]
 have hL:=h.hL;have hs:Stp B (lx pl pre++plb pl i::lx pl post) (lx pl pre++blk p.a::lx pl post) F [plb pl i] w w:=by rw[e0,<- e3];exact⟨(Fz.refl _ _),fun k hk=>by simp_all,Sub.refl _ _,hL⟩
 have h3:=h.rep h1 h2 hs (e':=.row t0 e xs) ⟨p,jF _,by simp_all⟩;obtain⟨p',hp',hv⟩:=h.fr t _ hg;rw[hp]at hp';cases hp';have h4:=h3.set (d:=t) (s:=.row S.nx) (v:=.slice p.a p.n p.c) hlt ⟨p,by rw[h.nx];simp,rfl⟩
 have e1:l.set t (.slice p.a p.n p.c)=l:=by
  have:t<l.length:=by rw[h.nt];omega
  rw[<- hv,zX,zV this];simp
 grind
theorem N9{L:Lx}:∀{cs:List SV} {ts:List Ty} {us:List Value},DenL pl L w cs us->DenL pl L w (VD cs ts) us
 | [],ts,us,h=>by cases ts<;>exact h
 | s::q,[],us,h=>h
 | s::q,t::r,us,⟨v,vs,h1,h2,h3⟩=>by
  refine⟨v,vs,h1,?_,N9 h3⟩;unfold dcl;split
  ·cases h2
   exact zl (t:=.sl _) rfl (xu _ _ _ _ _)
  omega
theorem BJ:∀{q:List Nat} {S:St},Rel B F w0 wr pl S l ls w->Rel B F w0 wr pl (wu q S) l ls w∧(wu q S).nt=S.nt
 | [],S,h=>⟨h,rfl⟩
 | j::q,S,h=>by
  unfold wu;split
  ·rename_i S' hf
   obtain⟨a,b⟩:=BJ (q:=q) (Nb h hf);exact⟨a,by rw[b,Nc hf]⟩
  ·exact BJ h
theorem ar7(h:Rel B F w0 wr pl S l ls w){t:Nat}:Rel B F w0 wr pl (VE P t S) l ls w∧(VE P t S).nt=S.nt:=by
 unfold VE;split
 ·rename_i i o hg
  split
  ·rename_i T0 cs ho
   obtain⟨a,b⟩:=BJ (q:=rJ cs) h;dsimp only;split
   ·rename_i T cs1 ho1
    split
    ·rename_i y hy
     have he:=a.ent (i,.box T cs1) (iI ho1);obtain⟨g,n,c,us,h1,h2,h3,h4⟩:=he;have hmem:∀k,some k ∈ [plb pl i]->some k∈lx pl (wu (rJ cs) S).own:=fun k hk=>by simp at hk;rw[hk];exact List.mem_map_of_mem (f:=fun e:Nat×Ent=>plb pl e.1) (iI ho1)
     exact⟨a.mod ho1 ⟨Fz.refl _ _,hmem,Sub.refl _ _,a.hL⟩ ⟨g,n,c,us,h1,h2,N9 h3,h4⟩,b⟩
    simp_all
   simp_all
  simp_all
 simp_all
theorem ar8(h:Rel B F w0 wr pl S l ls w){t:Nat}{ty:Ty}:Rel B F w0 wr pl (VF t ty S) l ls w∧(VF t ty S).nt=S.nt:=by
 unfold VF;split
 ·rename_i s hg
  split
  ·rename_i x hx
   split
   ·rename_i hlt
    obtain⟨cs,h1,h2⟩:=ql hx (h.fr t s hg);have h3:=h.set (d:=t) (s:=.d ty x) (v:=l.getD t undef) hlt ⟨cs,h1,h2⟩
    have e1:l.set t (l.getD t undef)=l:=by
     have:t<l.length:=by rw[h.nt];omega
     rw[zX,zV this];simp
    simp_all
   simp_all
  simp_all
 simp_all
theorem ar9(h:Rel B F w0 wr pl S l ls w){t j:Nat}:Rel B F w0 wr pl (VI t j S) l ls w∧(VI t j S).nt=S.nt:=by
 unfold VI;split
 ·rename_i i o hg
  split
  ·rename_i T cs ho
   have hmem:∀k,some k ∈ [plb pl i]->some k∈lx pl S.own:=fun k hk=>by simp only[List.mem_singleton]at hk;rw[hk];exact List.mem_map_of_mem (f:=fun e:Nat×Ent=>plb pl e.1) (iI ho)
   obtain⟨g,n,c,us,h1,h2,h3,h4⟩:=h.ent (i,.box T cs) (iI ho);split
   ·rename_i hc
    obtain⟨u,q1,q2⟩:=h3.at hc;have q2:u = .pointer none:=q2;subst q2;exact⟨h.mod (e':=.box T (cs.set j (.opb false i 0))) ho ⟨Fz.refl _ _,hmem,Sub.refl _ _,h.hL⟩ ⟨g,n,c,us,h1,h2,h3.setv q1 (s:=.opb false i 0) ⟨(fun e=>nomatch e),fun _=>rfl⟩,h4⟩,rfl⟩
   ·rename_i i' o' hc
    obtain⟨u,q1,q2⟩:=h3.at hc;exact⟨h.mod (e':=.box T (cs.set j (.opb true i' o'))) ho ⟨Fz.refl _ _,hmem,Sub.refl _ _,h.hL⟩ ⟨g,n,c,us,h1,h2,h3.setv q1 (s:=.opb true i' o') ⟨fun _=>q2,(fun e=>nomatch e)⟩,h4⟩,rfl⟩
   simp_all
  simp_all
 simp_all
theorem asa(h:Rel B F w0 wr pl S l ls w){t j:Nat}{e:TypeId}:∃pl',Rel B F w0 wr pl' (VG P t j e S) l ls w∧(VG P t j e S).nt=S.nt:=by
 unfold VG;split
 ·rename_i i o t0 z hg hr
  split
  ·rename_i T cs ho
   split
   ·rename_i hc
    have hS:Stp B (lx pl S.own) (blk (none:Option Addr)::lx pl S.own) F [] w w:=Stp.none h.hL rfl;have a:=h.push ⟨none,0,0⟩ (.row t0 e []) hS ⟨_,jF _,Ow.nil _ _ _ _⟩;have ho':get ({ S with own:=(S.nx,Ent.row t0 e [])::S.own,nx:=S.nx+1 }:St).own i=some (.box T cs):=ho;obtain⟨g,n,c,us,h1,h2,h3,h4⟩:=a.ent (i,.box T cs) (iI ho');obtain⟨u,q1,q2⟩:=h3.at hc;have q2:u = .slice none 0 0:=q2;subst q2;have hmem:∀k,some k ∈ [plb (pl++[⟨none,0,0⟩]) i]->some k∈lx (pl++[⟨none,0,0⟩]) ({ S with own:=(S.nx,Ent.row t0 e [])::S.own,nx:=S.nx+1 }:St).own:=fun k hk=>by simp only[List.mem_singleton]at hk;rw[hk];exact List.mem_map_of_mem (f:=fun e:Nat×Ent=>plb (pl++[⟨none,0,0⟩]) e.1) (iI ho')
    have m:=a.mod (e':=.box T (cs.set j (.row S.nx))) ho' ⟨Fz.refl _ _,hmem,Sub.refl _ _,a.hL⟩ ⟨g,n,c,us,h1,h2,h3.setv q1 (s:=.row S.nx) ⟨⟨none,0,0⟩,by rw[h.nx];simp,rfl⟩,h4⟩;grind
   grind
  grind
 grind
theorem asb(h:Rel B F w0 wr pl S l ls w){t j:Nat}{e:TypeId}:∃pl',Rel B F w0 wr pl' (VH P t j e S) l ls w∧(VH P t j e S).nt=S.nt:=by
 unfold VH;split
 ·rename_i i o t0 z hg hr
  split
  ·rename_i T cs ho
   split
   ·rename_i hc
    have hS:Stp B (lx pl S.own) (blk (none:Option Addr)::lx pl S.own) F [] w w:=Stp.none h.hL rfl;have a:=h.push ⟨none,0,0⟩ (.que t0 e []) hS ⟨_,jF _,Oq.of_ow (Ow.nil _ _ _ _)⟩;have ho':get ({ S with own:=(S.nx,Ent.que t0 e [])::S.own,nx:=S.nx+1 }:St).own i=some (.box T cs):=ho;obtain⟨g,n,c,us,h1,h2,h3,h4⟩:=a.ent (i,.box T cs) (iI ho');obtain⟨u,q1,q2⟩:=h3.at hc;have q2:u = .slice none 0 0:=q2;subst q2;have m:=a.told (e':=.box T (cs.set j (.row S.nx))) ho' ⟨g,n,c,us,h1,h2,h3.setv q1 (s:=.row S.nx) ⟨⟨none,0,0⟩,by rw[h.nx];simp,rfl⟩,h4⟩;exact⟨_,m,rfl⟩
   ·split
    ·rename_i k _ t1 e1 xs hk
     obtain⟨p,h1,h2⟩:=h.ent _ (iI hk);exact⟨_,h.told hk (e':=.que t1 e1 xs) ⟨p,h1,Oq.of_ow h2⟩,rfl⟩
    ·rename_i k _ t1 e1 xs hk
     split
     ·split
      ·rename_i T1 cs1 ho1
       split
       ·rename_i k' hc1
        split
        ·rename_i e
         subst e;obtain⟨p,hp,hO⟩:=h.ent _ (iI hk);obtain⟨pre,post,h1,h2⟩:=lu hk;have e0:blk p.a=plb pl k':=by simp_all[plb]
         have e3:lx pl S.own=lx pl pre++plb pl k'::lx pl post:=by rw[h1,lY]
         have hL:=h.hL;have hs:Stp B (lx pl pre++plb pl k'::lx pl post) (lx pl pre++blk p.a::lx pl post) F [plb pl k'] w w:=by rw[e0,<- e3];exact⟨(Fz.refl _ _),fun k hk=>by simp_all,Sub.refl _ _,hL⟩
         have h3:=h.rep h1 h2 hs (p:=p) (e':=.que t1 e1 xs) ⟨p,jF _,by
          rw[e0,<- e3]
          exact hO⟩
         obtain⟨g,n,c,us,q1,q2,q3,q4⟩:=h3.ent (i,.box T1 cs1) (iI ho1);obtain⟨u,r1,p',r2,r3⟩:=q3.at hc1;rw[mK p _ _ hp]at r2;cases r2;exact⟨_,h3.told ho1 (e':=.box T1 (cs1.set j (.row S.nx))) ⟨g,n,c,us,q1,q2,q3.setv r1 (s:=.row S.nx) ⟨p,by rw[h.nx];exact jF _,r3⟩,q4⟩,rfl⟩
        ·exact⟨_,h,rfl⟩
       ·exact⟨_,h,rfl⟩
      ·exact⟨_,h,rfl⟩
     ·exact⟨_,h,rfl⟩
    ·exact⟨_,h,rfl⟩
   ·exact⟨_,h,rfl⟩
  ·exact⟨_,h,rfl⟩
 ·exact⟨_,h,rfl⟩
theorem vN:∀{c:List (Nat×TypeId)} {pl:List Place} {S:St} {i:Nat},Rel B F w0 wr pl S l ls w->∃pl',Rel B F w0 wr pl' (IQ P i c S) l ls w∧(IQ P i c S).nt=S.nt
 | [],pl,S,i,h=>⟨pl,h,rfl⟩
 | (j,e)::q,pl,S,i,h=>by
  unfold IQ;split
  ·rename_i t0 z hr
   split
   ·rename_i t e0 b xs cs ho
    split
    ·rename_i hc
     have hS:Stp B (lx pl S.own) (blk (none:Option Addr)::lx pl S.own) F [] w w:=Stp.none h.hL rfl;have a:=h.push ⟨none,0,0⟩ (.row t0 e []) hS ⟨_,jF _,Ow.nil _ _ _ _⟩;have ho':get ({ S with own:=(S.nx,Ent.row t0 e [])::S.own,nx:=S.nx+1 }:St).own i=some (.rowo t e0 b xs cs):=ho;obtain⟨p,ro,us,h1,h2,h3,h4⟩:=a.ent (i,.rowo t e0 b xs cs) (iI ho')
     have m:=a.told (e':=.rowo t e0 b xs (cs.set j (.row S.nx))) ho' ⟨p,ro,us,h1,h2,h3,fun hb=>by
      have h4:=h4 hb;obtain⟨u,q1,q2⟩:=h4.at hc;have q2:u = .slice none 0 0:=q2;subst q2
      exact h4.setv q1 (s:=.row S.nx) ⟨⟨none,0,0⟩,by rw[h.nx];exact jF _,rfl⟩⟩
     obtain⟨pl',r1,r2⟩:=vN (c:=q) (i:=i) m;exact⟨pl',r1,r2⟩
    ·exact vN h
   ·exact vN h
  ·exact vN h
theorem TJ(h:Rel B F w0 wr pl S l ls w){i:Nat}{c:List (Nat×TypeId)}:∃pl',Rel B F w0 wr pl' (N8 P i c S) l ls w∧(N8 P i c S).nt=S.nt:=by
 unfold N8;split
 ·rename_i t e xs ho
  obtain⟨p,h1,h2⟩:=h.ent _ (iI ho);obtain⟨rs,h3,h4⟩:=ati h2
  have m:=h.told (e':=.rowo t e false xs (afA c 0 (DZ t))) ho ⟨p,rs,[],h1,by
   show Ow _ _ _ _ _ _ _ (rs++[])
   simp_all,h4,fun hb=>by cases hb⟩
  grind[vN]
 ·exact vN h
 grind
theorem asc(h:Rel B F w0 wr pl S l ls w){t:Nat}{c:List (Nat×TypeId)}:∃pl',Rel B F w0 wr pl' (VJ P t c S) l ls w∧(VJ P t c S).nt=S.nt:=by
 unfold VJ;split
 ·exact TJ h
 grind
theorem ase(h:Rel B F w0 wr pl S l ls w){t j:Nat}{c:List (Nat×TypeId)}:∃pl',Rel B F w0 wr pl' (VK P t j c S) l ls w∧(VK P t j c S).nt=S.nt:=by
 unfold VK;split
 ·split
  ·split
   ·exact TJ h
   grind
  grind
 grind
theorem jq:∀{q:List Co} {pl:List Place} {S:St},Rel B F w0 wr pl S l ls w->∃pl',Rel B F w0 wr pl' (jG P q S) l ls w∧(jG P q S).nt=S.nt
 | [],pl,S,h=>⟨pl,h,rfl⟩
 | .row t e::q,pl,S,h=>by
  unfold jG;split
  ·rename_i t0 z hg hr
   split
   ·rename_i hlt
    have hS:Stp B (lx pl S.own) (blk (none:Option Addr)::lx pl S.own) F [] w w:=Stp.none h.hL rfl;have h':=h.push ⟨none,0,0⟩ (.row t0 e []) hS ⟨_,jF _,Ow.nil _ _ _ _⟩;have hv:l.getD t undef = .slice none 0 0:=h.fr t _ hg;have h2:=h'.set (d:=t) (s:=.row S.nx) (v:=.slice none 0 0) hlt ⟨⟨none,0,0⟩,by rw[h.nx];exact jF _,rfl⟩
    have e1:l.set t (.slice none 0 0)=l:=by
     have:t<l.length:=by rw[h.nt];exact hlt
     rw[<- hv,zX,zV this];simp
    rw[e1]at h2;obtain⟨pl',a1,a2⟩:=jq (q:=q) h2;exact⟨pl',a1,a2⟩
   ·exact jq h
  ·exact jq h
 | .frz t::q,pl,S,h=>by
  unfold jG;split
  ·split
   ·rename_i S' hf
    obtain⟨pl',a1,a2⟩:=jq (q:=q) (Nb h hf);exact⟨pl',a1,by rw[a2,Nc hf]⟩
   ·exact jq h
  ·exact jq h
  ·exact jq h
 | .unl t::q,pl,S,h=>by
  unfold jG;split
  ·rename_i i hg
   split
   ·rename_i t0 e xs ho
    split
    ·rename_i hc
     obtain⟨pl1,h1⟩:=atB h hg ho hc.2;obtain⟨pl',a1,a2⟩:=jq (q:=q) h1;exact⟨pl',a1,a2⟩
    ·exact jq h
   ·exact jq h
  ·exact jq h
 | .frb t::q,pl,S,h=>by unfold jG;obtain⟨a,b⟩:=ar7 (P:=P) (t:=t) h;obtain⟨pl',a1,a2⟩:=jq (q:=q) a;exact⟨pl',a1,by rw[a2,b]⟩
 | .agd t ty::q,pl,S,h=>by unfold jG;obtain⟨a,b⟩:=ar8 (t:=t) (ty:=ty) h;obtain⟨pl',a1,a2⟩:=jq (q:=q) a;exact⟨pl',a1,by rw[a2,b]⟩
 | .slf t j::q,pl,S,h=>by unfold jG;obtain⟨a,b⟩:=ar9 (t:=t) (j:=j) h;obtain⟨pl',a1,a2⟩:=jq (q:=q) a;exact⟨pl',a1,by rw[a2,b]⟩
 | .rwb t j e::q,pl,S,h=>by unfold jG;obtain⟨pl1,a,b⟩:=asa (P:=P) (t:=t) (j:=j) (e:=e) h;obtain⟨pl',a1,a2⟩:=jq (q:=q) a;exact⟨pl',a1,by rw[a2,b]⟩
 | .opn t c::q,pl,S,h=>by unfold jG;obtain⟨pl1,a,b⟩:=asc (P:=P) (t:=t) (c:=c) h;obtain⟨pl',a1,a2⟩:=jq (q:=q) a;exact⟨pl',a1,by rw[a2,b]⟩
 | .opc t j c::q,pl,S,h=>by unfold jG;obtain⟨pl1,a,b⟩:=ase (P:=P) (t:=t) (j:=j) (c:=c) h;obtain⟨pl',a1,a2⟩:=jq (q:=q) a;exact⟨pl',a1,by rw[a2,b]⟩
 | .quw t j e::q,pl,S,h=>by unfold jG;obtain⟨pl1,a,b⟩:=asb (P:=P) (t:=t) (j:=j) (e:=e) h;obtain⟨pl',a1,a2⟩:=jq (q:=q) a;exact⟨pl',a1,by rw[a2,b]⟩
theorem IU{ds:List Nat}:∀{fr:Fr} {x:Nat×SV},x∈okF ds fr->x∈fr∧∀i∈idS x.2,i∈ds
 | (t,s)::q,x,h=>by
  unfold okF at h;split at h
  ·rename_i hall
   rcases List.mem_cons.1 h with h | h
   ·subst h
    exact⟨List.mem_cons_self ..,fun i hi=>by simpa using List.all_eq_true.1 hall i hi⟩
   ·obtain⟨a,b⟩:=IU h
    exact⟨zT _ a,b⟩
  ·obtain⟨a,b⟩:=IU h
   exact⟨zT _ a,b⟩
theorem BK{fr:Fr}:∀{q:List Nat} {x:Nat×SV},x∈Ai fr q->get fr x.1=some x.2
 | t::q,x,h=>by
  unfold Ai at h;split at h
  ·rename_i s hs
   rcases List.mem_cons.1 h with h | h
   ·subst h;exact hs
   ·exact BK h
  ·exact BK h
theorem Oa{f:Nat->Nat}:∀{fr:Fr} {t:Nat} {s:SV},get (N7 f fr) t=some s->∃s',(t,s')∈fr∧s=lZ f s'
 | (j,q)::fr,t,s,h=>by
  unfold N7 get at h;split at h
  ·rename_i e;cases h;subst e;exact⟨q,List.mem_cons_self ..,rfl⟩
  ·obtain⟨s',h1,h2⟩:=Oa h
   exact⟨s',zT _ h1,h2⟩
theorem pos_at:∀{ds:List Nat} {i:Nat},i∈ds->ds[pos ds i]? = some i
 | j::q,i,h=>by
  unfold pos;split
  ·rename_i e;subst e;rfl
  ·rename_i hne
   rcases List.mem_cons.1 h with h | h
   ·exact absurd h.symm hne
   ·simpa using pos_at h
theorem E9{n:Nat}:∀{ds:List Nat} {i:Nat},i∈wz n ds↔i∈ds∧¬ i<n
 | [],i=>by simp[wz]
 | j::q,i=>by
  unfold wz;split
  ·rename_i hj
   rw[E9,List.mem_cons];constructor
   ·rintro⟨h1,h2⟩;exact⟨.inr h1,h2⟩
   ·rintro⟨h1 | h1,h2⟩
    ·subst h1;exact absurd hj h2
    ·exact⟨h1,h2⟩
  ·rename_i hj
   rw[List.mem_cons,E9,List.mem_cons];constructor
   ·rintro (h | ⟨h1,h2⟩)
    ·subst h;exact⟨.inl rfl,hj⟩
    ·exact⟨.inr h1,h2⟩
   ·rintro⟨h1 | h1,h2⟩
    ·exact .inl h1
    ·exact .inr ⟨h1,h2⟩
def npl(pl:List Place)(n:Nat)(ds:List Nat):List Place:=pl.take n++(wz n ds).map fun i=>(pl[i]?).getD ⟨none,0,0⟩
theorem atC{n:Nat}(hn:n≤pl.length){ds:List Nat}{i:Nat}(hi:i∈ds){p:Place}(hp:pl[i]? = some p):(npl pl n ds)[nmb n ds i]? = some p:=by unfold npl nmb;grind[List.getElem?_append_left,kB,List.getElem?_take_of_lt,List.getElem?_append_right,pos,wz,pos_at,E9]
theorem asf{n:Nat}{ds:List Nat}{i:Nat}{p:Place}(hi:i<n)(hp:pl[i]? = some p):(npl pl n ds)[i]? = some p:=by grind[npl,zW,List.getElem?_append_left,kB,List.getElem?_take_of_lt]
theorem TK{own:List (Nat×Ent)}{f:Nat->Nat}{all:List Nat}:∀{q:List Nat} {r:List (Nat×Ent)},VC own f all q=some r ->
  (∀x∈r,∃i e,i∈q∧get own i=some e∧(∀j∈idE e,j∈all)∧x=(f i,Im f e))∧r.map (·.1)=q.map f∧∀i∈q,∃e,get own i=some e
 | [],r,h=>by cases h;exact⟨by simp,rfl,by simp⟩
 | i::q,r,h=>by
  unfold VC at h;split at h
  ·rename_i e hg
   split at h
   ·rename_i hall
    obtain⟨r',h1,rfl⟩:=Option.map_eq_some_iff.1 h;obtain⟨a1,a2,a3⟩:=TK h1;refine⟨fun x hx=>?_,by simp[a2],fun j hj=>?_⟩
    ·rcases List.mem_cons.1 hx with hx | hx
     ·exact⟨i,e,List.mem_cons_self ..,hg,fun j hj=>by simpa using List.all_eq_true.1 hall j hj,hx⟩
     ·obtain⟨i',e',b1,b2⟩:=a1 x hx
      exact⟨i',e',zT _ b1,b2⟩
    ·rcases List.mem_cons.1 hj with hj | hj
     ·subst hj;exact⟨e,hg⟩
     ·exact a3 j hj
   ·cases h
  ·cases h
theorem Ob{hi:Hint}{S0:St}(h:Rel B F w0 wr pl S0 l ls w)(hn:nrm P hi S0=some S'):∃wr' pl',Rel B F w0 wr' pl' S' l ls w:=by
 unfold nrm at hn;split at hn
 ·rename_i hup
  obtain⟨pl1,h1,hnt⟩:=jq (P:=P) (q:=hi.co) h;have hls:ls=[]:=by have:=h.up;rw[hup]at this;exact this
  generalize jG P hi.co S0=S at hn h1 hnt;simp only at hn;generalize hds:reach S.own 1000 (Md S.ln S.own++idF (Ai S.fr hi.keep)) []=ds at hn
  have hln:S.ln≤pl1.length:=by
   rw[h1.hln];rcases Nat.eq_zero_or_pos w0.pl.length with h0 | h0
   ·omega
   ·have:=(List.getElem?_eq_some_iff.1 (h1.pre (w0.pl.length - 1) _ (zV (by omega)))).1
    omega
  split at hn
  ·rename_i hnd
   have hnd:=zU hnd;split at hn
   ·rename_i own hown
    cases hn
    obtain⟨r1,r2,r3⟩:=TK hown;have hplace:∀i∈ds,∃p,pl1[i]? = some p:=fun i hi=>by obtain⟨e,he⟩:=r3 i hi;exact (h1.ent _ (iI he)).place
    have hren:∀i∈ds,(npl pl1 S.ln ds)[nmb S.ln ds i]? = pl1[i]?:=fun i hi=>by grind[atC]
    have hplb:∀i∈ds,plb (npl pl1 S.ln ds) (nmb S.ln ds i)=plb pl1 i:=fun i hi=>by simp_all[plb]
    have hlx:lx (npl pl1 S.ln ds) own=ds.map (plb pl1):=by
     have:lx (npl pl1 S.ln ds) own=(own.map (·.1)).map (plb (npl pl1 S.ln ds)):=by unfold lx;simp
     simp_all
    have hin:∀k,some k∈ds.map (plb pl1)->some k∈lx pl1 S.own:=fun k hk=>by obtain⟨i,hi,hk⟩:=List.mem_map.1 hk;obtain⟨e,he⟩:=r3 i hi;rw[<- hk];exact List.mem_map_of_mem (f:=fun e:Nat×Ent=>plb pl1 e.1) (iI he)
    have hL:LOk B (ds.map (plb pl1)) F w:=by refine⟨?_,fun k hk=>h1.hL.lo k (hin k hk),fun k hk=>h1.hL.hi k (hin k hk),h1.hL.base,h1.hL.far⟩;rw[List.pairwise_map];rw[List.pairwise_iff_getElem];intro i j hi hj hij k hk hk';obtain⟨e,he⟩:=r3 ds[i] (List.getElem_mem hi);obtain⟨e',he'⟩:=r3 ds[j] (List.getElem_mem hj);have hne:ds[i]≠ds[j]:=fun e=>(List.pairwise_iff_getElem.1 hnd) i j hi hj hij e;exact LOk.apart2 h1.hL he he' hne hk hk'
    have hs:Sub w (ds.map (plb pl1)++F) (lx pl1 S.own++F):=fun k hk=>by grind
    have hx:Ext pl1 (lx pl1 S.own++F) w pl1 (ds.map (plb pl1)++F) w:=⟨fun _ _ h=>h,by intro α R cs x h;exact R.grow h hs,by intro α R b o x h;exact h.grow hs⟩
    have hrel:Rel B F w0 ⟨w,lx (npl pl1 S.ln ds) own++F,S.ln+(wz S.ln ds).length,npl pl1 S.ln ds,ids own⟩ (npl pl1 S.ln ds) { fr:=N7 (nmb S.ln ds) (okF ds (Ai S.fr hi.keep)),nt:=S.nt,up:=[],own:=own,nx:=S.ln+(wz S.ln ds).length,log:=[],ln:=S.ln } l [] w:=by
     refine⟨by simp_all,h1.hB,fun i p hi=>asf (by rw[h1.hln];grind) (h1.pre i p hi),h1.hI,h1.hln,by grind[npl],h1.nt,fun x hx'=>?_,fun t s hs'=>?_,rfl,⟨Fz.refl _ _,Sub.refl _ _,Nat.le_refl _,fun _ _ h=>h,fun e he _=>List.mem_map_of_mem (f:=fun e:Nat×Ent=>e.1) he,fun _ _ _ _ _ _=>rfl⟩⟩
     ·obtain⟨i,e,b1,b2,b3,rfl⟩:=r1 x hx'
      have hE:=h1.ent _ (iI b2);show EntD (npl pl1 S.ln ds) (lx (npl pl1 S.ln ds) own++F) w (nmb S.ln ds i) (Im (nmb S.ln ds) e);rw[hlx];exact Nq (fun j hj=>hren j (b3 j hj)) (hren i b1) (hE.ext hx (fun k _=>rfl) (fun _ _ _ _ _ h=>h.grow hs))
     ·obtain⟨s',h2,rfl⟩:=Oa hs'
      obtain⟨h3,h4⟩:=IU h2;have h5:=h1.fr t s' (BK h3);show Den (npl pl1 S.ln ds) (lx (npl pl1 S.ln ds) own++F) w _ _;rw[hlx];exact zy (fun j hj=>hren j (h4 j hj)) (h5.ext hx)
    grind
   grind
  grind
 grind
end
end Ev
end
noncomputable section
namespace Ev
open Go Go.RowKit Sx
inductive Ex where
 | n
 | r
 | x (id:Nat)
abbrev Kt(R:Type):=Ex->St->Option R
section
variable {R:Type}
def jZ(P:Program)(h:Option Hint)(g:St->Option R)(k:Kt R):Kt R:=fun e S=>match e with
 | .n=>match h with
  | some h=>(nrm P h S).bind g
  | none=>g S
 | .r=>k .r S
 | .x i=>k (.x i) S
def BL(id:Nat)(k:Kt R):Kt R:=fun e S=>match e with
 | .n=>k .n S
 | .r=>k .r S
 | .x i=>if i=id then k .n S else k (.x i) S
def TL:Op->Bool
 | .move _ | .assign _ | .pick .. | .binOp .. | .unOp .. | .convert .. | .indexAddr .. | .index .. | .fieldAddr .. | .field .. | .load .. | .extract .. | .build .. | .slice .. | .makeFunc .. | .makeInterface .. | .lookup .. | .entry .. | .nilCheck ..=>true
 | .call ⟨.builtin .len,_,_⟩ | .call ⟨.builtin .min,_,_⟩ | .call ⟨.builtin .max,_,_⟩=>true
 | _=>false
def sched(ops:Array Oper):Nat->Array Bool->List (Nat×Bool)
 | 0,_=>[]
 | n+1,listed =>
  let rs:=Region.ready .any ops listed
  match rs.find? (fun i=>((ops[i]?).map fun o=>TL o.op).getD false && Region.free .any ops listed i) with
  | some i=>(i,true)::sched ops n (listed.setIfInBounds i true)
  | none=>match rs with
   | i::_=>(i,false)::sched ops n (listed.setIfInBounds i true)
   | []=>[]
def sch(ops:List Oper):List (Nat×Bool):=sched ops.toArray ops.length (Array.replicate ops.length false)
def ao2(P:Program)(ops:List Oper):Bool :=
 P.follows .mixedOrders && (Region.noSelect ops.toArray && qg ops.toArray (sch ops) (Array.replicate ops.toArray.size false) && decide ((sch ops).length≤ops.toArray.size))
def afB(ops:Array Oper):Nat->Array Bool->Sg
 | 0,_=>.nil
 | n+1,listed =>
  let rs:=Region.ready .any ops listed
  match rs.find? (fun i=>((ops[i]?).map fun o=>TL o.op).getD false && Region.free .any ops listed i) with
  | some i=>.tk i (afB ops n (listed.setIfInBounds i true))
  | none=>match rs with
   | []=>.nil
   | _::_=>rs.foldr (fun i r=>.alt i (afB ops n (listed.setIfInBounds i true)) r) .stop
def sgT(ops:List Oper):Sg:=afB ops.toArray ops.length (Array.replicate ops.length false)
def adi(P:Program)(ops:List Oper):Bool :=
 P.follows .mixedOrders && (Region.noSelect ops.toArray && sV ops.toArray false (sgT ops) (Array.replicate ops.toArray.size false))
def Sg.cnt:Sg->Nat
 | .nil=>1
 | .tk _ q=>q.cnt
 | .alt _ q r=>q.cnt+r.cnt
 | .stop=>0
def VL(P:Program)(env:Env)(cl:Cl R)(ops:List Oper)(draw:Bool)(S:St)(k:St->Option R):Option R :=
 if draw=true then (if ao2 P ops=true then rdw P env cl ops (dps ops []) (vI ops (sch ops)) [] S k else if adi P ops=true then rdt P env cl ops (dps ops []) (sgT ops) [] S k else none) else rg P env cl ops ops S k
def ev(P:Program)(env:Env)(cl:Cl R)(fuel:Nat)(hs:Nat->Option Hint):Nat->Code->St->Kt R->Option R
 | _,.skip,S,k=>k .n S
 | _,.label _,S,k=>k .n S
 | _,.ret,S,k=>k .r S
 | _,.exit id,S,k=>k (.x id) S
 | p,.seq x y,S,k=>ev P env cl fuel hs (2*p) x S (jZ P (hs p) (fun S'=>ev P env cl fuel hs (2*p+1) y S' k) k)
 | p,.block id c,S,k=>ev P env cl fuel hs (2*p) c S (BL id k)
 | p,.cond c x y,S,k=>match c with
  | .tmp t=>if t<S.nt then match get S.fr t with
   | some (.d .bool b)=>if b=true then ev P env cl fuel hs (2*p) x { S with fr:=(t,.d .bool true)::S.fr } k else ev P env cl fuel hs (2*p+1) y { S with fr:=(t,.d .bool false)::S.fr } k
   | _=>none else none
  | .const (.bool b)=>if b=true then ev P env cl fuel hs (2*p) x S k else ev P env cl fuel hs (2*p+1) y S k
  | _=>none
 | _,.region _ ⟨ops⟩ draw,S,k=>VL P env cl ops draw S (k .n)
 | p,.loop c,S,k=>match hs p with
  | some h=>(nrm P h S).bind fun S0=>cu (fun self S=>ev P env cl fuel hs (2*p) c S (jZ P (hs p) self k)) fuel S0
  | none=>cu (fun self S=>ev P env cl fuel hs (2*p) c S (jZ P (hs p) self k)) fuel S
 | _,.rangeFunc _ _ _ _,_,_=>none
 | _,.scope _,_,_=>none
 | _,.goto _,_,_=>none
 | _,.refuse _,_,_=>none
end
def VM:Ex->Exit
 | .n=>.normal
 | .r=>.ret
 | .x i=>.exit i
section
variable {R:Type}{B:Nat->Prop}{F:Lx}{w0:Bs}{P:Program}{env:Env}{cl:Cl R}{fuel:Nat}{hs:Nat->Option Hint}{r:R}{ls:List (List Value)}
def KOk(B:Nat->Prop)(F:Lx)(w0:Bs)(ls:List (List Value))(wr:Wr)(Hn:Prop)(k:Kt R)(r:R)(Q:Exit->Act->World->Prop):Prop :=
 ∀e wr' pl S l w,Rel B F w0 wr' pl S l ls w->(Hn->wr'=wr)->k e S=some r->Q (VM e) (mk l) w
theorem asg(henv:o9 P w0.I env)(hcl:Ab P w0.I cl){ops:List Oper}{draw:Bool}{id:Nat}{wr:Wr}{pl:List Place}{S:St}{l:List Value}{w:World}{k:St->Option R}{Q:Exit->Act->World->Prop}(hQ:PF Q)
  (h:Rel B F w0 wr pl S l ls w) (hv:VL P env cl ops draw S k=some r)
  (hk:∀pl' S' l' w',Rel B F w0 wr pl' S' l' ls w'->k S'=some r->Q .normal (mk l') w'):CW P (.region id ⟨ops⟩ draw) Q l w:=by
 unfold VL at hv;split at hv
 ·rename_i hd
  subst hd;split at hv
  ·rename_i hr
   simp only[ao2,zO]at hr;have hB:(Region.noSelect ops.toArray && qg ops.toArray (sch ops) (Array.replicate ops.toArray.size false) && decide ((sch ops).length≤ops.toArray.size))=true:=by simp_all
   refine Ib (sch ops) hr.1 hB hQ ?_;exact BI (T:=[]) henv hcl (N5 ops [] [] (by simp) rfl (fun j m p hj=>by grind)) (h.call (Fz.drew _ _)) rfl hv hk
  ·split at hv
   ·rename_i hr
    simp only[adi,zO]at hr;refine IP (sgT ops) hr.1 (by simp_all) hQ ?_;exact yV (T:=[]) henv hcl (N5 ops [] [] (by simp) rfl (fun j m p hj=>by grind)) (h.call (Fz.drew _ _)) rfl hv hk
   grind
 grind[acH,VB]
theorem rR(henv:o9 P w0.I env)(hcl:Ab P w0.I cl){Hn:Prop}(hHn:Hn->∀p,hs p=none):∀(c:Code) (p:Nat) (wr:Wr) (pl:List Place) (S:St) (l:List Value) (w:World) (k:Kt R) (Q:Exit->Act->World->Prop),PF Q ->
  Rel B F w0 wr pl S l ls w->ev P env cl fuel hs p c S k=some r->KOk B F w0 ls wr Hn k r Q->CW P c Q l w
 | .skip,p,wr,pl,S,l,w,k,Q,hQ,h,hv,hk=>arw (hk .n wr pl S l w h (fun _=>rfl) (by simpa [ev]using hv))
 | .label _,p,wr,pl,S,l,w,k,Q,hQ,h,hv,hk=>aeE (hk .n wr pl S l w h (fun _=>rfl) (by simpa [ev]using hv))
 | .ret,p,wr,pl,S,l,w,k,Q,hQ,h,hv,hk=>as4 (hk .r wr pl S l w h (fun _=>rfl) (by simpa [ev]using hv))
 | .exit id,p,wr,pl,S,l,w,k,Q,hQ,h,hv,hk=>arx (hk (.x id) wr pl S l w h (fun _=>rfl) (by simpa [ev]using hv))
 | .seq x y,p,wr,pl,S,l,w,k,Q,hQ,h,hv,hk=>by
  rw[ev]at hv;refine as5 (rR henv hcl hHn x (2*p) wr pl S l w _ _ hQ.then h hv (fun e wr' pl' S' l' w' h' hw hv'=>?_))
  cases e with
  | n =>
   unfold jZ at hv';simp only at hv';refine as6 ?_;split at hv'
   ·rename_i hn hpn
    obtain⟨S1,h1,hv'⟩:=iD hv';obtain⟨wr2,pl2,h2⟩:=Ob h' h1;exact rR henv hcl hHn y (2*p+1) wr2 pl2 S1 l' w' k Q hQ h2 hv' (fun e wr3 pl3 S3 l3 w3 a1 a2 a3=>hk e wr3 pl3 S3 l3 w3 a1 (fun hn=>by have:=hHn hn p;rw[hpn]at this;cases this) a3)
   ·exact rR henv hcl hHn y (2*p+1) wr' pl' S' l' w' k Q hQ h' hv' (fun e wr3 pl3 S3 l3 w3 a1 a2 a3=>hk e wr3 pl3 S3 l3 w3 a1 (fun hn=>(a2 hn).trans (hw hn)) a3)
  | r=>exact MB (hk .r wr' pl' S' l' w' h' hw hv')
  | x i=>exact KR (hk (.x i) wr' pl' S' l' w' h' hw hv')
 | .block id c,p,wr,pl,S,l,w,k,Q,hQ,h,hv,hk=>by
  rw[ev]at hv;refine aeF (rR henv hcl hHn c (2*p) wr pl S l w _ _ hQ.inBlock h hv (fun e wr' pl' S' l' w' h' hw hv'=>?_))
  cases e with
  | n=>exact acG (hk .n wr' pl' S' l' w' h' hw hv')
  | r=>exact Sz (hk .r wr' pl' S' l' w' h' hw hv')
  | x i =>
   unfold BL at hv';simp only at hv';split at hv'
   ·rename_i hi
    subst hi;exact MC (hk .n wr' pl' S' l' w' h' hw hv')
   ·rename_i hi
    exact LU (by simpa using hi) (hk (.x i) wr' pl' S' l' w' h' hw hv')
 | .cond c x y,p,wr,pl,S,l,w,k,Q,hQ,h,hv,hk=>by
  unfold ev at hv;split at hv
  ·rename_i t
   split at hv
   ·rename_i hlt
    split at hv
    ·rename_i b hb
     have hd:=mZ (h.fr t _ hb)
     have hs2:∀b',b'=b->Rel B F w0 wr pl { S with fr:=(t,.d .bool b')::S.fr } l ls w:=fun b' e=>by
      subst e;have h2:=h.set hlt (h.fr t _ hb)
      have e:l.set t (l.getD t undef)=l:=by
       have:t<l.length:=by rw[h.nt];exact hlt
       rw[zX,zV this];simp
      rw[e]at h2;exact h2
     refine S7 (t:=b) hd (fun hb1=>?_) (fun hb1=>?_)
     ·rw[if_pos hb1]at hv
      exact rR henv hcl hHn x (2*p) wr pl _ l w k Q hQ (hs2 true hb1.symm) hv hk
     ·rw[if_neg (by rw[hb1];decide)]at hv
      exact rR henv hcl hHn y (2*p+1) wr pl _ l w k Q hQ (hs2 false hb1.symm) hv hk
    ·cases hv
   ·cases hv
  ·rename_i b
   refine S7 (t:=b) rfl (fun hb1=>?_) (fun hb1=>?_)
   ·rw[if_pos hb1]at hv
    exact rR henv hcl hHn x (2*p) wr pl _ l w k Q hQ h hv hk
   ·rw[if_neg (by rw[hb1];decide)]at hv
    exact rR henv hcl hHn y (2*p+1) wr pl _ l w k Q hQ h hv hk
  ·cases hv
 | .region id ⟨ops⟩ draw,p,wr,pl,S,l,w,k,Q,hQ,h,hv,hk=>by rw[ev]at hv;exact asg henv hcl hQ h hv (fun pl' S' l' w' a1 a2=>hk .n wr pl' S' l' w' a1 (fun _=>rfl) a2)
 | .loop c,p,wr,pl,S,l,w,k,Q,hQ,h,hv,hk=>by
  have body:∀(self:St->Option R) (s:St) (l:List Value) (w:World),(∃wr' pl',Rel B F w0 wr' pl' s l ls w∧(Hn->wr'=wr))->ev P env cl fuel hs (2*p) c s (jZ P (hs p) self k)=some r ->
    CW P c (Exit.then (fun a w=>∃l',a=mk l'∧∃s',(∃wr' pl',Rel B F w0 wr' pl' s' l' ls w∧(Hn->wr'=wr))∧self s'=some r) Q) l w:=by
   rintro self s l w ⟨wr1,pl1,h1,hw1⟩ hv;refine rR henv hcl hHn c (2*p) wr1 pl1 s l w _ _ hQ.then h1 hv (fun e wr' pl' S' l' w' h' hw hv'=>?_)
   cases e with
   | n =>
    unfold jZ at hv';simp only at hv';show ∃l'',mk l'=mk l''∧_;split at hv'
    ·rename_i hn hpn
     obtain⟨S1,h1,hv'⟩:=iD hv';obtain⟨wr2,pl2,h2⟩:=Ob h' h1;exact⟨l',rfl,S1,⟨wr2,pl2,h2,fun hn=>by have:=hHn hn p;rw[hpn]at this;cases this⟩,hv'⟩
    ·exact⟨l',rfl,S',⟨wr',pl',h',fun hn=>(hw hn).trans (hw1 hn)⟩,hv'⟩
   | r=>exact MB (hk .r wr' pl' S' l' w' h' (fun hn=>(hw hn).trans (hw1 hn)) hv')
   | x i=>exact KR (hk (.x i) wr' pl' S' l' w' h' (fun hn=>(hw hn).trans (hw1 hn)) hv')
  rw[ev]at hv;split at hv
  ·rename_i hn hpn
   obtain⟨S1,h1,hv⟩:=iD hv;obtain⟨wr2,pl2,h2⟩:=Ob h h1;exact S8 _ r (fun s l w=>∃wr' pl',Rel B F w0 wr' pl' s l ls w∧(Hn->wr'=wr)) body ⟨wr2,pl2,h2,fun hn=>by have:=hHn hn p;rw[hpn]at this;cases this⟩ hv
  ·exact S8 _ r (fun s l w=>∃wr' pl',Rel B F w0 wr' pl' s l ls w∧(Hn->wr'=wr)) body ⟨wr,pl,h,fun _=>rfl⟩ hv
 | .rangeFunc _ _ _ _,p,wr,pl,S,l,w,k,Q,hQ,h,hv,hk=>by rw[ev]at hv;cases hv
 | .scope _,p,wr,pl,S,l,w,k,Q,hQ,h,hv,hk=>by rw[ev]at hv;cases hv
 | .goto _,p,wr,pl,S,l,w,k,Q,hQ,h,hv,hk=>by rw[ev]at hv;cases hv
 | .refuse _,p,wr,pl,S,l,w,k,Q,hQ,h,hv,hk=>by rw[ev]at hv;cases hv
end
end Ev
end
noncomputable section
namespace Ev
open Go Go.RowKit Sx
section
variable {R:Type}
def BM:Nat->List SV->Fr
 | _,[]=>[]
 | n,s::q=>(n,s)::BM (n+1) q
def VN(S:St)(v:ResultVar)(P:Program)(K:SV->Option R):Option R :=
 match v with
 | .tmp t=>if t<S.nt then (match get S.fr t with
  | some s=>K s
  | none=>none) else none
 | .cell a t=>match get S.fr a with
  | some (.pb i o)=>match get S.own i with
   | some (.box _ cs)=>match MX P t o cs with
    | some s=>K s
    | none=>none
   | some (.row t0 _ xs)=>match sN P t with
    | some (m,_,n)=>if t0.size=n∧o=0 then need (eqi (xs.length:Int) (m:Int)) (match tyc P t with
     | some (.ar m' t1)=>if m'=m then (match ji (.sl t0) (.sl t1) xs with
      | some ys=>K (.d (.ar m' t1) ys)
      | none=>none) else none
     | _=>none) else none
    | none=>none
   | _=>none
  | some (.prw i j sz o)=>match get S.own i,tyc P t with
   | some (.row t0 _ xs),some fy=>if sz=t0.size then (at? xs j).bind fun y=>match prj t0 o fy y with
    | some z=>K (.d fy z)
    | none=>none
    else none
   | _,_=>none
  | _=>none
def BN(P:Program)(S:St):List ResultVar->(List SV->Option R)->Option R
 | [],K=>K []
 | v::q,K=>VN S v P fun s=>BN P S q fun r=>K (s::r)
def aE4(P:Program)(fn:Func)(K:St->SV->Option R):Kt R:=fun e S=>match e with
 | .x _=>none
 | _=>match S.up with
  | (n,fr)::up=>BN P S fn.results.toList fun ss=>K { S with fr:=fr,nt:=n,up:=up } (Nt ss)
  | []=>none
def evC(P:Program)(env:Env)(fuel:Nat)(eq:R->R->Bool):Nat->Cl R
 | 0=>⟨fun _ _ _ _=>none,eq⟩
 | d+1=>⟨fun f ss S K=>match P.funcs[f]? with
  | some fn=>match fn.body with
   | some c=>if ss.length≤fn.ntmps∧fn.results.size≤5 then ev P env (evC P env fuel eq d) fuel (fun _=>none) 1 c { S with fr:=BM 0 ss,nt:=fn.ntmps,up:=(S.nt,S.fr)::S.up } (aE4 P fn K) else none
   | none=>none
  | none=>none,eq⟩
end
section
variable {R:Type}{B:Nat->Prop}{F:Lx}{w0:Bs}{wr:Wr}{pl pl':List Place}{S S':St}{l l':List Value}{ls:List (List Value)}{w w':World}{L L' M:Lx}{P:Program}{env:Env}{fuel:Nat}{r:R}
theorem Oc{pre:List Value}:∀{ss:List SV} {vs:List Value} {post:List Value},DenL pl L w ss vs->FrD pl L w (BM pre.length ss) (pre++vs++post):=by
 intro ss
 induction ss generalizing pre with
 | nil=>intro vs post _ t s h;cases h
 | cons a q ih =>
  rintro vs post ⟨v,us,rfl,h2,h3⟩ t s h;unfold BM get at h;split at h
  ·simp_all
  ·have:=ih (pre:=pre++[v]) (post:=post) h3 t s (by simp_all)
   simp_all
theorem afC(h:Rel B F w0 wr pl S l ls w){v:ResultVar}{R:Type}{K:SV->Option R}{r:R}(hs:VN S v P K=some r):∃s u,K s=some r∧resv P l w v u∧Den pl (lx pl S.own++F) w s u:=by
 unfold VN at hs;split at hs
 ·split at hs
  ·split at hs
   ·rename_i s hg
    exact⟨s,_,hs,aeI rfl,h.fr _ s hg⟩
   grind
  grind
 ·rename_i a t
  split at hs
  ·rename_i i o hg
   split at hs
   ·rename_i T cs hb
    split at hs
    ·rename_i s hc
     obtain⟨g,n,c,h1,h2⟩:=h.fr a _ hg;obtain⟨g',n',c',us,h3,h4,h5,h6⟩:=h.ent _ (iI hb);rw[h1]at h3;cases h3;obtain⟨ag,sz,h7,h8,h9⟩:=Ie hc h5 h6;refine⟨s,_,hs,Bj h2 ?_,h9⟩
     exact EB (P:=P) (w:=w) (b:=g) (o:=o) (cs:=(us.drop o).take sz) h7 (by grind) (fun j v hj=>by
      refine h4.cell ?_
      grind)
    grind
   ·rename_i t0 e0 xs hb
    split at hs
    ·rename_i m e n har
     split at hs
     ·rename_i hc
      obtain⟨hsz,rfl⟩:=hc;obtain⟨hm,hq⟩:=iZ hs;clear hs;have hm:(xs.length:Int)=(m:Int):=by simp_all[eqi]
      split at hq
      ·rename_i m' t1 hty
       split at hq
       ·rename_i hmm
        subst hmm;split at hq
        ·rename_i ys hys
         obtain⟨e1,hys⟩:=qC hys;cases e1;subst hys;obtain⟨g',n',c',h1,h2⟩:=h.fr a _ hg;obtain⟨p',h3,h4⟩:=h.ent _ (iI hb);rw[h1]at h3;cases h3;obtain⟨hn,cells,h5,h6⟩:=h4;have hxl:xs.length=m':=by omega
         refine⟨_,.agg cells.toArray,hq,Bj h2 ?_,cells,⟨hxl,h6⟩,by rfl⟩;have hty':=oH hty
         have:=qo (P:=P) (w:=w) (b:=g') (o:=0) (cs:=cells) hty' (by rw[h6.len,jc,jc];show _=m'*t0.size;rw[hxl]) (fun j v hj=>by
          have:=h5.cells (g:=g') rfl j v hj
          simp_all[Addr.add_lit'])
         simp_all[Rp.val,iQ,Ty.agg]
        grind
       grind
      grind
     grind
    grind
   grind
  ·rename_i i j sz o hgx
   split at hs
   ·rename_i t0 e xs fy hg hy
    have hty:=oH hy;split at hs
    ·rename_i hsz
     obtain⟨y,hy1,hs⟩:=iD hs;split at hs
     ·rename_i z hp
      obtain⟨g,b0,n,c,h1,h2⟩:=h.fr a _ hgx;obtain⟨p,h3,h4⟩:=h.ent _ (iI hg);rw[h1]at h3;cases h3;obtain⟨h5,h6,h7⟩:=kJ hy1;obtain⟨_,hb0⟩:=h4.addr h7;cases hb0;obtain⟨cs,h8,h9⟩:=uF h4 h6;obtain⟨pre,c1,post,rfl,h10,h11⟩:=oL hp h8;refine⟨_,_,hs,Bj h2 ?_,⟨c1,h11,rfl⟩⟩;refine qo hty ((rp _).len h11) (fun k v hk=>?_);grind[List.append_assoc,List.getElem?_append_right,Nat.add_sub_cancel_left,List.getElem?_append_left,zW,jc,Nat.add_assoc]
     grind
    grind
   grind
  grind
def VO(P:Program)(l:List Value)(w:World):List ResultVar->List Value->Prop
 | [],us=>us=[]
 | v::q,us=>∃u r,us=u::r∧resv P l w v u∧VO P l w q r
theorem D3(h:Rel B F w0 wr pl S l ls w){R:Type}{r:R}:∀{q:List ResultVar} {K:List SV->Option R},BN P S q K=some r->∃ss us,K ss=some r∧VO P l w q us∧DenL pl (lx pl S.own++F) w ss us
 | [],K,hs=>⟨[],[],hs,rfl,rfl⟩
 | v::q,K,hs=>by obtain⟨s,u,h1,h3,h4⟩:=afC h hs;obtain⟨ss,us,h2,h5,h6⟩:=D3 h h1;exact⟨s::ss,u::us,h2,⟨u,us,rfl,h3,h5⟩,⟨u,us,rfl,h4,h6⟩⟩
theorem aE5{fn:Func}{Rr:Ending->World->Prop}{r1 r2 r3 r4:ResultVar}{v1 v2 v3 v4:Value}(hr:fn.results = #[r1,r2,r3,r4])(h1:resv P l w r1 v1)(h2:resv P l w r2 v2)(h3:resv P l w r3 v3)(h4:resv P l w r4 v4)
  (h:Rr (.returned (.tuple #[v1,v2,v3,v4])) w):bodyPost P fn Rr .ret (mk l) w:=by
 have h1:=qQ h1;have h2:=qQ h2;have h3:=qQ h3;have h4:=qQ h4;exact⟨rfl,_,by simp_all[pK],h⟩
theorem aE6{fn:Func}{Rr:Ending->World->Prop}{r1 r2 r3 r4 r5:ResultVar}{v1 v2 v3 v4 v5:Value}(hr:fn.results = #[r1,r2,r3,r4,r5])(h1:resv P l w r1 v1)(h2:resv P l w r2 v2)(h3:resv P l w r3 v3)(h4:resv P l w r4 v4)(h5:resv P l w r5 v5)
  (h:Rr (.returned (.tuple #[v1,v2,v3,v4,v5])) w):bodyPost P fn Rr .ret (mk l) w:=by
 have h1:=qQ h1;have h2:=qQ h2;have h3:=qQ h3;have h4:=qQ h4;have h5:=qQ h5;exact⟨rfl,_,by simp_all[pK],h⟩
theorem Od{fn:Func}{Rr:Ending->World->Prop}{us:List Value}(hn:fn.results.size≤5)(hr:VO P l w fn.results.toList us)(h:Rr (.returned (Ns us)) w):bodyPost P fn Rr .ret (mk l) w:=by
 have hsz:fn.results.size=fn.results.toList.length:=by simp
 match hq:fn.results.toList,hr with
 | [],hr =>
  cases hr
  exact aEV (by simp_all) h
 | [a],⟨u,q,h1,h2,h3⟩ =>
  cases h3
  subst h1;exact aES (by grind) h2 h
 | [a,b],⟨u,q,h1,h2,u',q',h1',h2',h3⟩ =>
  cases h3
  subst h1 h1';exact aET (by grind) h2 h2' h
 | [a,b,c],⟨u,q,h1,h2,u',q',h1',h2',u'',q'',h1'',h2'',h3⟩ =>
  cases h3
  subst h1 h1' h1'';exact aEU (by grind) h2 h2' h2'' h
 | [a,b,c,d],⟨u,q,h1,h2,u',q',h1',h2',u2,q2,h12,h22,u3,q3,h13,h23,h3⟩ =>
  cases h3
  subst h1 h1' h12 h13;exact aE5 (by grind) h2 h2' h22 h23 h
 | [a,b,c,d,e],⟨u,q,h1,h2,u',q',h1',h2',u2,q2,h12,h22,u3,q3,h13,h23,u4,q4,h14,h24,h3⟩ =>
  cases h3
  subst h1 h1' h12 h13 h14;exact aE6 (by grind) h2 h2' h22 h23 h24 h
 | a::b::c::d::e::f::q,_=>simp_all
theorem ED{fn:Func}{Rr:Ending->World->Prop}{a:Act}(h:bodyPost P fn Rr .ret a w):∀e:Ex,(∀i,e ≠ .x i)->bodyPost P fn Rr (VM e) a w:=fun e he=>by
 cases e with
 | n=>exact h
 | r=>exact h
 | x i=>simp_all
theorem adj{I:World->Prop}(henv:o9 P I env){eq:R->R->Bool}(heq:∀a b,eq a b=true->a=b):∀d,Ab P I (evC (R:=R) P env fuel eq d)
 | 0=>by refine⟨heq,?_⟩;intro B F w0 wr pl S l ls w f ss vs K r KV _ _ _ hv _;cases hv
 | d+1=>by
  refine⟨heq,?_⟩;intro B F w0 wr pl S l ls w f ss vs K r KV hI h hd hv hk;subst hI;simp only[evC]at hv;split at hv
  ·rename_i fn hf
   split at hv
   ·rename_i c hb
    split at hv
    ·rename_i hcond
     have hlen:=hd.len;have hfr:=Oc (pre:=[]) (post:=zE (fn.ntmps - vs.length) undef) hd;simp only[List.length_nil,List.nil_append]at hfr;have hR:Rel B F w0 wr pl { S with fr:=BM 0 ss,nt:=fn.ntmps,up:=(S.nt,S.fr)::S.up } (vs++zE (fn.ntmps - vs.length) undef) (l::ls) w:=by refine⟨h.hL,h.hB,h.pre,h.hI,h.hln,h.nx,?_,h.ent,hfr,⟨l,ls,rfl,h.nt,h.fr,h.up⟩,h.tn⟩;simp_all
     refine enter hf hb rfl rfl ?_;refine rR henv (adj henv heq d) (Hn:=True) (fun _ _=>rfl) c 1 wr pl _ _ w _ _ (PF.body (fun c w h=>by simp_all)) hR hv (fun e wr' pl' S' l' w' h' hw hv'=>?_);obtain rfl:=hw trivial
     have key:(∀i,e ≠ .x i)->(match S'.up with
       | (n,fr)::up=>BN P S' fn.results.toList fun ss=>K { S' with fr:=fr,nt:=n,up:=up } (Nt ss)
       | []=>none)=some r->bodyPost P fn (fun e w'=>∃v,e = .returned v∧KV v w') (VM e) (mk l') w':=fun he hv'=>by
      split at hv'
      ·rename_i n fr up hup
       obtain⟨ss',us,hv',h2,h3⟩:=D3 h' hv';have hu:=h'.up;rw[hup]at hu;obtain⟨l0,q0,e1,e2,e3,e4⟩:=hu;cases e1;refine ED (Od hcond.2 h2 ⟨_,rfl,?_⟩) e he;refine hk pl' { S' with fr:=fr,nt:=n,up:=up } (Nt ss') (Ns us) w' ⟨h'.hL,h'.hB,h'.pre,h'.hI,h'.hln,h'.nx,e2,h'.ent,e3,e4,h'.tn⟩ ?_ (Nv h3) hv';show n=S.nt;rw[<- h.nt];omega
      simp_all
     cases e with
     | n=>exact key (fun _ e=>by cases e) hv'
     | r=>exact key (fun _ e=>by cases e) hv'
     | x i=>cases hv'
    grind
   grind
  grind
end
def ay:(rs:List Ty)->As rs->As rs->Bool
 | [],_,_=>true
 | t::r,x,y=>eqV t x.1 y.1 && ay r x.2 y.2
theorem TM:∀(rs:List Ty) (x y:As rs),ay rs x y=true->x=y
 | [],_,_,_=>rfl
 | t::r,x,y,h=>by simp only[ay,zO]at h;exact Prod.ext (rP t _ _ h.1) (TM r _ _ h.2)
def idb(k:Nat):Nat->List (Nat×Option Nat)
 | 0=>[]
 | n+1=>(k,some k)::idb (k+1) n
def idw(k:Nat):Nat->List (Nat×Nat)
 | 0=>[]
 | n+1=>(k,k)::idw (k+1) n
def VP:List (Nat×TE)->Nat->Bool
 | [],_=>false
 | (j,_)::q,i=>if j=i then true else VP q i
def GV(n nn:Nat)(eo:List (Nat×TE)):List (Nat×Option Nat)->Bool
 | []=>true
 | (i,_)::q=>(decide (i<n) || (decide (i<n+nn) && VP eo i)) && GV n nn eo q
def Aj(P:Program)(fn:Func)(sh:Sh):Kt (As sh.rs):=fun e S=>match e with
 | .x _=>none
 | _=>BN P S fn.results.toList fun ss=>BN P (pQ (wnt sh.ro sh.eo ss S.own (idw 0 sh.es.length)) S) fn.results.toList fun ss' =>
  (mA sh.ro sh.eo ss' (pQ (wnt sh.ro sh.eo ss S.own (idw 0 sh.es.length)) S).own (idb 0 sh.es.length)).bind fun mt =>
   if GV sh.es.length sh.nn sh.eo mt.bd=true then Nr sh.rs mt.ds else none
def evT(P:Program)(env:Env)(d fuel:Nat)(hs:Nat->Option Hint)(f:FuncId)(sh:Sh)(x:As sh.ps):Option (As sh.rs) :=
 match P.funcs[f]? with
 | some fn=>match fn.body with
  | some c=>match fA sh.as (en 0 sh.es) (sP sh.ps x) with
   | some (ss,own)=>if ss.length≤fn.ntmps∧fn.results.size≤5 then ev P env (evC P env fuel (ay sh.rs) d) fuel hs 1 c { fr:=BM 0 ss,nt:=fn.ntmps,up:=[],own:=own,nx:=sh.es.length,log:=[],ln:=sh.es.length } (Aj P fn sh) else none
   | none=>none
  | none=>none
 | none=>none
section
variable {B:Nat->Prop}{F:Lx}{w0:Bs}{wr:Wr}{pl pl':List Place}{S S':St}{l l':List Value}{ls:List (List Value)}{w w':World}{L L' M:Lx}{P:Program}{env:Env}{fuel:Nat}
theorem TN:∀{n k:Nat} {x:Nat×Option Nat},x∈idb k n↔k≤x.1∧x.1<k+n∧x.2=some x.1
 | 0,k,x=>by grind[idb]
 | n+1,k,x=>by rw[idb,List.mem_cons,TN];grind
theorem TQ:∀{eo:List (Nat×TE)} {i:Nat},VP eo i=true->∃x∈eo,x.1=i
 | (j,t)::q,i,h=>by
  unfold VP at h;split at h
  ·rename_i e;exact⟨_,List.mem_cons_self ..,e⟩
  ·obtain⟨x,hx,e⟩:=TQ h
   exact⟨x,zT _ hx,e⟩
theorem Oe{n nn:Nat}{eo:List (Nat×TE)}:∀{bd:List (Nat×Option Nat)},GV n nn eo bd=true->∀x∈bd,x.1<n∨(x.1<n+nn∧∃y∈eo,y.1=x.1)
 | [],_,x,hx=>by cases hx
 | (i,b)::q,h,x,hx=>by
  simp only[GV,zO,Bool.or_eq_true,decide_eq_true_eq]at h;rcases List.mem_cons.1 hx with hx | hx
  ·grind[TQ]
  ·exact Oe h.2 x hx
theorem q8_{I:World->Prop}(henv:o9 P I env){d:Nat}{hs:Nat->Option Hint}{f:FuncId}{sh:Sh}{m:As sh.ps->Option (As sh.rs)}(hm:∀x,evT P env d fuel hs f sh x=m x):au P I f ⟨sh,m⟩:=by
 intro F w0 pl x y ss own vs hx hfA hpl hI hL hE hD;have hx:m x=some y:=hx;have hfA:fA sh.as (en 0 sh.es) (sP sh.ps x)=some (ss,own):=hfA;have hpl:pl.length=sh.es.length:=hpl;rw[<- hm x]at hx;unfold evT at hx;split at hx
 ·rename_i fn hf
  split at hx
  ·rename_i c hb
   rw[hfA]at hx;simp only at hx;split at hx
   ·rename_i hcond
    have hlen:=hD.len;have hfr:=Oc (pre:=[]) (post:=zE (fn.ntmps - vs.length) undef) hD;simp only[List.length_nil,List.nil_append]at hfr;have hR:Rel (Bo pl own w0) F ⟨w0,pl,I⟩ ⟨w0,lx pl own++F,sh.es.length,pl,ids own⟩ pl { fr:=BM 0 ss,nt:=fn.ntmps,up:=[],own:=own,nx:=sh.es.length,log:=[],ln:=sh.es.length } (vs++zE (fn.ntmps - vs.length) undef) [] w0:=by refine⟨hL,Blw.refl _ _,fun _ _ h=>h,hI,hpl.symm,hpl.symm,?_,hE,hfr,rfl,⟨Fz.refl _ _,Sub.refl _ _,Nat.le_refl _,fun _ _ h=>h,fun e he _=>List.mem_map_of_mem (f:=fun e:Nat×Ent=>e.1) he,fun _ _ _ _ _ _=>rfl⟩⟩;simp_all
    refine enter hf hb rfl rfl ?_;refine rR henv (adj henv (TM sh.rs) d) (Hn:=False) (fun h=>h.elim) c 1 _ pl _ _ w0 _ _ (PF.body (fun c w h=>by simp_all)) hR hx (fun e wr' pl' S' l' w' h' hw hv'=>?_)
    have key:(∀i,e ≠ .x i)->(BN P S' fn.results.toList fun ss=>BN P (pQ (wnt sh.ro sh.eo ss S'.own (idw 0 sh.es.length)) S') fn.results.toList fun ss' =>
      (mA sh.ro sh.eo ss' (pQ (wnt sh.ro sh.eo ss S'.own (idw 0 sh.es.length)) S').own (idb 0 sh.es.length)).bind fun mt =>
      if GV sh.es.length sh.nn sh.eo mt.bd=true then Nr sh.rs mt.ds else none)=some y ->
      bodyPost P fn (fun e w'=>∃us,e = .returned (Ns us)∧After sh y F w0 pl own w' us) (VM e) (mk l') w':=fun he hv'=>by
     obtain⟨ss0,_,hv',_,_⟩:=D3 h' hv';have hz:=(vL (q:=wnt sh.ro sh.eo ss0 S'.own (idw 0 sh.es.length)) h').1;generalize pQ (wnt sh.ro sh.eo ss0 S'.own (idw 0 sh.es.length)) S'=S1 at hv' hz;obtain⟨ss1,us,hv',h3,h4⟩:=D3 hz hv';obtain⟨mt,hmt,hv'⟩:=iD hv';split at hv'
     ·rename_i hout
      have hout:=Oe hout;obtain⟨rr,own',hfo,mo⟩:=aoY (w:=w') (L:=lx pl' S1.own++F) (pl:=pl') hz.ent hmt;rw[<- Io hv']at hfo
      let gp (i:Nat):Place:=match get mt.bd (sh.es.length+i) with
       | some (some j)=>(pl'[j]?).getD ⟨none,0,0⟩
       | _=>⟨none,0,0⟩
      let plo:List Place:=pl++(List.range sh.nn).map gp
      have hpre:∀i p,pl[i]? = some p->pl'[i]? = some p:=hz.pre
      have hb:BdOk pl' plo mt.bd:=fun z hz'=>by
       have hfn:=mo.fn z hz';obtain⟨i,b⟩:=z;simp only at hfn ⊢;rcases Nat.lt_or_ge i sh.es.length with hi | hi
       ·have h0:(i,some i)∈mt.bd:=mo.old _ (TN.2 ⟨Nat.zero_le _,by omega,rfl⟩)
        have:=mo.fn _ h0;grind
       ·rcases hout _ hz' with h5 | ⟨h5,q,hq,hq1⟩
        ·omega
        ·simp only at h5 hq1
         have hat:plo[i]? = some (gp (i - sh.es.length)):=by grind
         have hgp:gp (i - sh.es.length)=match (some b:Option (Option Nat)) with
           | some (some j)=>(pl'[j]?).getD ⟨none,0,0⟩
           | _=>⟨none,0,0⟩:=by
          grind
         cases b with
         | none=>simp_all
         | some j =>
          obtain⟨b',hb1,hb2⟩:=mo.has q hq;rw[hq1]at hb1;have:=mo.fn _ hb1;simp only at this;rw[hfn]at this;cases this;obtain⟨e,he⟩:=hb2 j rfl;obtain⟨p,hp⟩:=(hz.ent _ (iI he)).place;simp_all
      obtain⟨hd',he'⟩:=mo.den plo hb;obtain⟨hpair,hmem⟩:=mo.pair hz.hL hb;have hsub:∀k,some k∈lx plo own'++F->some k∈lx pl' S1.own++F:=fun k hk=>by grind
      refine ED (Od hcond.2 h3 ⟨us,rfl,plo,rr,own',hfo,Nu _,by grind,hz.hB,?_,he'.sub hsub,(hd' us h4).ext (Ext.sub hsub)⟩) e he;have hin:∀k,some k∈lx plo own'->some k∈lx pl' S1.own:=fun k hk=>by grind
      exact⟨hpair,fun k hk=>hz.hL.lo k (hin k hk),fun k hk=>hz.hL.hi k (hin k hk),hz.hL.base,hz.hL.far⟩
     simp_all
    cases e with
    | n=>exact key (fun _ e=>by cases e) hv'
    | r=>exact key (fun _ e=>by cases e) hv'
    | x i=>cases hv'
   grind
  grind
 grind
end
end Ev
end
noncomputable section
namespace Ev
open Go Go.RowKit Sx
abbrev Us(R:Type):=List (St->Option R)
abbrev Orc(R:Type):=Nat->Us R->St->Option R
section
variable {R:Type}
def evJ(P:Program)(env:Env)(cl:Cl R)(fuel:Nat)(hs:Nat->Option Hint)(J:Orc R):Us R->Nat->Code->St->Kt R->Option R
 | _,_,.skip,S,k=>k .n S
 | _,_,.label _,S,k=>k .n S
 | _,_,.ret,S,k=>k .r S
 | _,_,.exit id,S,k=>k (.x id) S
 | us,p,.seq x y,S,k=>match hs p with
  | some h=>evJ P env cl fuel hs J us (2*p) x S (jZ P (some h) (J p us) k)
  | none=>evJ P env cl fuel hs J us (2*p) x S (jZ P none (fun S'=>evJ P env cl fuel hs J us (2*p+1) y S' k) k)
 | us,p,.block id c,S,k=>evJ P env cl fuel hs J us (2*p) c S (BL id k)
 | us,p,.cond c x y,S,k=>match c with
  | .tmp t=>if t<S.nt then match get S.fr t with
   | some (.d .bool b)=>if b=true then evJ P env cl fuel hs J us (2*p) x { S with fr:=(t,.d .bool true)::S.fr } k else evJ P env cl fuel hs J us (2*p+1) y { S with fr:=(t,.d .bool false)::S.fr } k
   | _=>none else none
  | .const (.bool b)=>if b=true then evJ P env cl fuel hs J us (2*p) x S k else evJ P env cl fuel hs J us (2*p+1) y S k
  | _=>none
 | _,_,.region _ ⟨ops⟩ draw,S,k=>VL P env cl ops draw S (k .n)
 | us,p,.loop c,S,k=>match hs p with
  | some h=>(nrm P h S).bind (J p us)
  | none=>cu (fun self S=>evJ P env cl fuel hs J (us++[self]) (2*p) c S (jZ P none self k)) fuel S
 | _,_,.rangeFunc _ _ _ _,_,_=>none
 | _,_,.scope _,_,_=>none
 | _,_,.goto _,_,_=>none
 | _,_,.refuse _,_,_=>none
def lft(q p:Nat):Bool:=q / 2 ^ (q.log2 - p.log2 - 1)%2 == 0
def In(q p:Nat):Prop:=∃n r,q=p*2 ^ n+r∧r<2 ^ n
theorem In.self(p:Nat):In p p:=⟨0,0,by simp,by simp⟩
theorem In.l{q p:Nat}:In q (2*p)->In q p:=fun ⟨n,r,h1,h2⟩=>⟨n+1,r,by grind,by omega⟩
theorem In.r{q p:Nat}:In q (2*p+1)->In q p:=fun ⟨n,r,h1,h2⟩=>⟨n+1,2 ^ n+r,by grind,by omega⟩
theorem In.cases{q p:Nat}:In q p->q=p∨In q (2*p)∨In q (2*p+1):=fun ⟨n,r,h1,h2⟩=>by
 cases n with
 | zero=>omega
 | succ n =>
  right;have e:p*2 ^ (n+1)=2*p*2 ^ n:=by grind
  have e2:2 ^ (n+1)=2 ^ n+2 ^ n:=by omega
  have e3:(2*p+1)*2 ^ n=2*p*2 ^ n+2 ^ n:=by grind
  by_cases h:r<2 ^ n
  ·exact .inl ⟨n,r,by omega,h⟩
  ·exact .inr ⟨n,r - 2 ^ n,by omega,by omega⟩
theorem D4{p n r:Nat}(hp:0<p)(hr:r<2 ^ n):(p*2 ^ n+r).log2=p.log2+n:=by
 have h2:0<2 ^ n:=Nat.pow_pos (by decide);have hne:p*2 ^ n+r≠0:=by have:=Nat.mul_pos hp h2;omega
 apply Nat.le_antisymm
 ·apply Nat.le_of_lt_succ
  rw[Nat.log2_lt hne,Nat.succ_eq_add_one,show p.log2+n+1=(p.log2+1)+n from by omega,Nat.pow_add];have h1:p<2 ^ (p.log2+1):=(Nat.log2_lt (by omega)).1 (Nat.lt_succ_self _)
  calc p*2 ^ n+r<p*2 ^ n+2 ^ n:=by omega
   _=(p+1)*2 ^ n:=by grind
   _≤_:=Nat.mul_le_mul_right _ h1
 ·rw[Nat.le_log2 hne,Nat.pow_add]
  have h1:2 ^ p.log2≤p:=(Nat.le_log2 (by omega)).1 (Nat.le_refl _);have:=Nat.mul_le_mul_right (2 ^ n) h1;omega
theorem nC{q p:Nat}(hp:0<p):In q (2*p)->lft q p=true:=fun ⟨n,r,h1,h2⟩=>by
 unfold lft;have hl:q.log2=(2*p).log2+n:=by simp_all[D4]
 have hl2:(2*p).log2=p.log2+1:=by have:=D4 (p:=p) (n:=1) (r:=0) hp (by decide);grind
 grind[Nat.mul_comm,Nat.mul_add_div,Nat.pow_pos,Nat.div_eq_of_lt]
theorem qO{q p:Nat}(hp:0<p):In q (2*p+1)->lft q p=false:=fun ⟨n,r,h1,h2⟩=>by
 unfold lft;have hl:q.log2=(2*p+1).log2+n:=by simp_all[D4]
 have hl2:(2*p+1).log2=p.log2+1:=by have:=D4 (p:=p) (n:=1) (r:=1) hp (by decide);grind
 have e:q.log2 - p.log2 - 1=n:=by omega
 rw[e,h1];have:((2*p+1)*2 ^ n+r) / 2 ^ n=2*p+1:=by rw[Nat.mul_comm (2*p+1),Nat.mul_add_div (Nat.pow_pos (by decide)),Nat.div_eq_of_lt h2,Nat.add_zero]
 simp_all
theorem In.pos{q p:Nat}(hp:0<p):In q p->p≤q:=fun ⟨n,r,h1,_⟩=>by have h2:0<2 ^ n:=Nat.pow_pos (by decide);have:=Nat.mul_le_mul_left p h2;omega
def fnd(P:Program)(env:Env)(cl:Cl R)(fuel:Nat)(hs:Nat->Option Hint)(q:Nat):Code->Nat->Kt R->Us R->St->Option R
 | .seq x y,p,k,us=>if q=p then fun S=>ev P env cl fuel hs (2*p+1) y S k
  else if lft q p=true then fnd P env cl fuel hs q x (2*p) (jZ P (hs p) (fun S'=>ev P env cl fuel hs (2*p+1) y S' k) k) us else fnd P env cl fuel hs q y (2*p+1) k us
 | .block id c,p,k,us=>if q=p then fun _=>none else if lft q p=true then fnd P env cl fuel hs q c (2*p) (BL id k) us else fun _=>none
 | .cond _ x y,p,k,us=>if q=p then fun _=>none else if lft q p=true then fnd P env cl fuel hs q x (2*p) k us else fnd P env cl fuel hs q y (2*p+1) k us
 | .loop c,p,k,us=>match us with
  | []=>if q=p then fun S=>cu (fun self S=>ev P env cl fuel hs (2*p) c S (jZ P (hs p) self k)) fuel S else fun _=>none
  | u::us=>if q=p then fun S=>ev P env cl fuel hs (2*p) c S (jZ P (hs p) u k) else if lft q p=true then fnd P env cl fuel hs q c (2*p) (jZ P (hs p) u k) us else fun _=>none
 | _,_,_,_=>fun _=>none
def pce(P:Program)(env:Env)(cl:Cl R)(fuel:Nat)(hs:Nat->Option Hint)(J:Orc R)(q:Nat):Code->Nat->Kt R->Us R->Us R->St->Option R
 | .seq x y,p,k,u0,us=>if q=p then fun S=>evJ P env cl fuel hs J u0 (2*p+1) y S k
  else if lft q p=true then pce P env cl fuel hs J q x (2*p) (match hs p with
   | some h=>jZ P (some h) (J p u0) k
   | none=>jZ P none (fun S'=>evJ P env cl fuel hs J u0 (2*p+1) y S' k) k) u0 us else pce P env cl fuel hs J q y (2*p+1) k u0 us
 | .block id c,p,k,u0,us=>if q=p then fun _=>none else if lft q p=true then pce P env cl fuel hs J q c (2*p) (BL id k) u0 us else fun _=>none
 | .cond _ x y,p,k,u0,us=>if q=p then fun _=>none else if lft q p=true then pce P env cl fuel hs J q x (2*p) k u0 us else pce P env cl fuel hs J q y (2*p+1) k u0 us
 | .loop c,p,k,u0,us=>match us with
  | []=>if q=p then fun S=>cu (fun self S=>evJ P env cl fuel hs J (u0++[self]) (2*p) c S (jZ P (hs p) self k)) fuel S else fun _=>none
  | u::us=>if q=p then fun S=>evJ P env cl fuel hs J (u0++[u]) (2*p) c S (jZ P (hs p) u k) else if lft q p=true then pce P env cl fuel hs J q c (2*p) (jZ P (hs p) u k) (u0++[u]) us else fun _=>none
 | _,_,_,_,_=>fun _=>none
end
section
variable {R:Type}{P:Program}{env:Env}{cl:Cl R}{fuel:Nat}{hs:Nat->Option Hint}{J:Orc R}
theorem Og:∀{c:Code} {p:Nat} {us:Us R} {S:St} {k:Kt R},0<p->(∀q us',In q p->J q (us++us')=fnd P env cl fuel hs q c p k us')->evJ P env cl fuel hs J us p c S k=ev P env cl fuel hs p c S k:=by
 intro c
 induction c with
 | skip=>intros;rfl
 | label _=>intros;rfl
 | ret=>intros;rfl
 | exit _=>intros;rfl
 | rangeFunc=>intros;rfl
 | scope=>intros;rfl
 | goto=>intros;rfl
 | refuse=>intros;rfl
 | region id ops draw=>intros;rfl
 | seq x y ihx ihy =>
  intro p us S k hp H;have hx:∀q us',In q (2*p)->J q (us++us')=fnd P env cl fuel hs q x (2*p) (jZ P (hs p) (fun S'=>ev P env cl fuel hs (2*p+1) y S' k) k) us':=fun q us' hq=>by rw[H q us' hq.l,fnd,if_neg (by have:=In.pos (by omega) hq;omega),if_pos (nC hp hq)]
  have hy:∀q us',In q (2*p+1)->J q (us++us')=fnd P env cl fuel hs q y (2*p+1) k us':=fun q us' hq=>by rw[H q us' hq.r,fnd,if_neg (by have:=In.pos (by omega) hq;omega),if_neg (by rw[qO hp hq];decide)]
  have hJ:J p us=fun S=>ev P env cl fuel hs (2*p+1) y S k:=by have:=H p [] (In.self p);rw[List.append_nil]at this;rw[this,fnd,if_pos rfl]
  rw[evJ,ev];split
  ·rename_i h hh
   rw[hJ,<- hh];exact ihx (by omega) hx
  ·rename_i hh
   have:(fun S'=>evJ P env cl fuel hs J us (2*p+1) y S' k)=(fun S'=>ev P env cl fuel hs (2*p+1) y S' k):=funext fun S'=>ihy (by omega) hy;rw[this,<- hh];exact ihx (by omega) hx
 | block id c ih =>
  intro p us S k hp H;rw[evJ,ev];exact ih (by omega) (fun q us' hq=>by rw[H q us' hq.l,fnd,if_neg (by have:=In.pos (by omega) hq;omega),if_pos (nC hp hq)])
 | cond c x y ihx ihy =>
  intro p us S k hp H;have hx:∀q us',In q (2*p)->J q (us++us')=fnd P env cl fuel hs q x (2*p) k us':=fun q us' hq=>by rw[H q us' hq.l,fnd,if_neg (by have:=In.pos (by omega) hq;omega),if_pos (nC hp hq)]
  have hy:∀q us',In q (2*p+1)->J q (us++us')=fnd P env cl fuel hs q y (2*p+1) k us':=fun q us' hq=>by rw[H q us' hq.r,fnd,if_neg (by have:=In.pos (by omega) hq;omega),if_neg (by rw[qO hp hq];decide)]
  have e1:∀S,evJ P env cl fuel hs J us (2*p) x S k=ev P env cl fuel hs (2*p) x S k:=fun S=>ihx (by omega) hx;have e2:∀S,evJ P env cl fuel hs J us (2*p+1) y S k=ev P env cl fuel hs (2*p+1) y S k:=fun S=>ihy (by omega) hy;unfold evJ ev;simp only[e1,e2]
  all_goals rfl
 | loop c ih =>
  intro p us S k hp H;have hJ:J p us=fun S=>cu (fun self S=>ev P env cl fuel hs (2*p) c S (jZ P (hs p) self k)) fuel S:=by have:=H p [] (In.self p);rw[List.append_nil]at this;rw[this,fnd,if_pos rfl]
  rw[evJ,ev];split
  ·rename_i h hh
   rw[hJ,hh]
  ·rename_i hh
   have:(fun self S=>evJ P env cl fuel hs J (us++[self]) (2*p) c S (jZ P none self k))=(fun self S=>ev P env cl fuel hs (2*p) c S (jZ P (hs p) self k)):=by funext self S;rw[hh];refine ih (by omega) (fun q us' hq=>?_);rw[List.append_assoc,H q _ hq.l,List.singleton_append,fnd,if_neg (by have:=In.pos (by omega) hq;omega),if_pos (nC hp hq),hh]
   rw[this,hh]
theorem atD{q:Nat}:∀{c:Code} {p:Nat} {u0:Us R} {k:Kt R} {us:Us R},0<p->In q p->(∀q us',In q p->J q (u0++us')=fnd P env cl fuel hs q c p k us')->pce P env cl fuel hs J q c p k u0 us=fnd P env cl fuel hs q c p k us:=by
 intro c
 induction c with
 | skip=>intros;rfl
 | label _=>intros;rfl
 | ret=>intros;rfl
 | exit _=>intros;rfl
 | rangeFunc=>intros;rfl
 | scope=>intros;rfl
 | goto=>intros;rfl
 | refuse=>intros;rfl
 | region id ops draw=>intros;rfl
 | seq x y ihx ihy =>
  intro p us k us2 hp hq H;have hx:∀q us',In q (2*p)->J q (us++us')=fnd P env cl fuel hs q x (2*p) (jZ P (hs p) (fun S'=>ev P env cl fuel hs (2*p+1) y S' k) k) us':=fun q us' hq=>by rw[H q us' hq.l,fnd,if_neg (by have:=In.pos (by omega) hq;omega),if_pos (nC hp hq)]
  have hy:∀q us',In q (2*p+1)->J q (us++us')=fnd P env cl fuel hs q y (2*p+1) k us':=fun q us' hq=>by rw[H q us' hq.r,fnd,if_neg (by have:=In.pos (by omega) hq;omega),if_neg (by rw[qO hp hq];decide)]
  have hJ:J p us=fun S=>ev P env cl fuel hs (2*p+1) y S k:=by have:=H p [] (In.self p);rw[List.append_nil]at this;rw[this,fnd,if_pos rfl]
  have he:(fun S'=>evJ P env cl fuel hs J us (2*p+1) y S' k)=(fun S'=>ev P env cl fuel hs (2*p+1) y S' k):=funext fun S'=>Og (by omega) hy;rw[pce,fnd];rcases hq.cases with h | h | h
  ·rw[if_pos h,if_pos h];exact he
  ·have hne:q≠p:=by have:=In.pos (by omega) h;omega
   rw[if_neg hne,if_neg hne,if_pos (nC hp h),if_pos (nC hp h)]
   have hk:(match hs p with
    | some h=>jZ P (some h) (J p us) k
    | none=>jZ P none (fun S'=>evJ P env cl fuel hs J us (2*p+1) y S' k) k)=jZ P (hs p) (fun S'=>ev P env cl fuel hs (2*p+1) y S' k) k:=by
    split
    ·rename_i hn hh;rw[hJ,hh]
    ·rename_i hh;rw[he,hh]
   rw[hk];exact ihx (by omega) h hx
  ·have hne:q≠p:=by have:=In.pos (by omega) h;omega
   rw[if_neg hne,if_neg hne,if_neg (by rw[qO hp h];decide),if_neg (by rw[qO hp h];decide)];exact ihy (by omega) h hy
 | block id c ih =>
  intro p us k us2 hp hq H;rw[pce,fnd];rcases hq.cases with h | h | h
  ·rw[if_pos h,if_pos h]
  ·have hne:q≠p:=by have:=In.pos (by omega) h;omega
   rw[if_neg hne,if_neg hne,if_pos (nC hp h),if_pos (nC hp h)];exact ih (by omega) h (fun q us' hq=>by rw[H q us' hq.l,fnd,if_neg (by have:=In.pos (by omega) hq;omega),if_pos (nC hp hq)])
  ·have hne:q≠p:=by have:=In.pos (by omega) h;omega
   rw[if_neg hne,if_neg hne,if_neg (by rw[qO hp h];decide),if_neg (by rw[qO hp h];decide)]
 | cond c x y ihx ihy =>
  intro p us k us2 hp hq H;have hx:∀q us',In q (2*p)->J q (us++us')=fnd P env cl fuel hs q x (2*p) k us':=fun q us' hq=>by rw[H q us' hq.l,fnd,if_neg (by have:=In.pos (by omega) hq;omega),if_pos (nC hp hq)]
  have hy:∀q us',In q (2*p+1)->J q (us++us')=fnd P env cl fuel hs q y (2*p+1) k us':=fun q us' hq=>by rw[H q us' hq.r,fnd,if_neg (by have:=In.pos (by omega) hq;omega),if_neg (by rw[qO hp hq];decide)]
  rw[pce,fnd];rcases hq.cases with h | h | h
  ·rw[if_pos h,if_pos h]
  ·have hne:q≠p:=by have:=In.pos (by omega) h;omega
   rw[if_neg hne,if_neg hne,if_pos (nC hp h),if_pos (nC hp h)];exact ihx (by omega) h hx
  ·have hne:q≠p:=by have:=In.pos (by omega) h;omega
   rw[if_neg hne,if_neg hne,if_neg (by rw[qO hp h];decide),if_neg (by rw[qO hp h];decide)];exact ihy (by omega) h hy
 | loop c ih =>
  intro p us k us2 hp hq H;have hb:∀(u:St->Option R) q us',In q (2*p)->J q ((us++[u])++us')=fnd P env cl fuel hs q c (2*p) (jZ P (hs p) u k) us':=fun u q us' hq=>by rw[List.append_assoc,H q _ hq.l,List.singleton_append,fnd,if_neg (by have:=In.pos (by omega) hq;omega),if_pos (nC hp hq)]
  have he:∀u S,evJ P env cl fuel hs J (us++[u]) (2*p) c S (jZ P (hs p) u k)=ev P env cl fuel hs (2*p) c S (jZ P (hs p) u k):=fun u S=>Og (by omega) (hb u)
  cases us2 with
  | nil =>
   rw[pce,fnd];split
   ·simp only[he]
   ·rfl
  | cons u us2 =>
   rw[pce,fnd];rcases hq.cases with h | h | h
   ·rw[if_pos h,if_pos h]
    simp only[he]
   ·have hne:q≠p:=by have:=In.pos (by omega) h;omega
    rw[if_neg hne,if_neg hne,if_pos (nC hp h),if_pos (nC hp h)];exact ih (by omega) h (hb u)
   ·have hne:q≠p:=by have:=In.pos (by omega) h;omega
    rw[if_neg hne,if_neg hne,if_neg (by rw[qO hp h];decide),if_neg (by rw[qO hp h];decide)]
theorem BP{σ:Type}{mk:σ->St}{F:(St->Option R)->St->Option R}{G:(σ->Option R)->σ->Option R}(h:∀g s,F g (mk s)=G (fun t=>g (mk t)) s):∀n s,cu F n (mk s)=cu G n s
 | 0,s=>rfl
 | n+1,s=>by
  have ih:=BP h n;show F (cu F n) (mk s)=G (cu G n) s;rw[h]
  congr 1
  funext t;exact ih t
theorem In.one:∀{q:Nat},0<q->In q 1:=fun {q} h=>⟨q.log2,q - 2 ^ q.log2,by
  have:=(Nat.le_log2 (n:=q) (k:=q.log2) (by omega)).1 (Nat.le_refl _)
  omega,by
  have h1:q<2 ^ (q.log2+1):=(Nat.log2_lt (by omega)).1 (Nat.lt_succ_self _)
  omega⟩
def jfn(P:Program)(env:Env)(d fuel:Nat)(hs:Nat->Option Hint)(f:FuncId)(sh:Sh):Orc (As sh.rs):=fun q us =>
 match P.funcs[f]? with
 | some fn=>match fn.body with
  | some c=>fnd P env (evC P env fuel (ay sh.rs) d) fuel hs q c 1 (Aj P fn sh) us
  | none=>fun _=>none
 | none=>fun _=>none
def pfn(P:Program)(env:Env)(d fuel:Nat)(hs:Nat->Option Hint)(f:FuncId)(sh:Sh)(J:Orc (As sh.rs)):Orc (As sh.rs):=fun q us =>
 match P.funcs[f]? with
 | some fn=>match fn.body with
  | some c=>pce P env (evC P env fuel (ay sh.rs) d) fuel hs J q c 1 (Aj P fn sh) [] us
  | none=>fun _=>none
 | none=>fun _=>none
def rfn(P:Program)(env:Env)(d fuel:Nat)(hs:Nat->Option Hint)(f:FuncId)(sh:Sh)(J:Orc (As sh.rs))(x:As sh.ps):Option (As sh.rs) :=
 match P.funcs[f]? with
 | some fn=>match fn.body with
  | some c=>match fA sh.as (en 0 sh.es) (sP sh.ps x) with
   | some (ss,own)=>if ss.length≤fn.ntmps∧fn.results.size≤5 then evJ P env (evC P env fuel (ay sh.rs) d) fuel hs J [] 1 c { fr:=BM 0 ss,nt:=fn.ntmps,up:=[],own:=own,nx:=sh.es.length,log:=[],ln:=sh.es.length } (Aj P fn sh) else none
   | none=>none
  | none=>none
 | none=>none
theorem GX{d:Nat}{f:FuncId}{sh:Sh}{q:Nat}{us:Us (As sh.rs)}(hq:0<q):jfn P env d fuel hs f sh q us=pfn P env d fuel hs f sh (jfn P env d fuel hs f sh) q us:=by
 show _=(match P.funcs[f]? with
  | some fn=>match fn.body with
   | some c=>pce P env (evC P env fuel (ay sh.rs) d) fuel hs (jfn P env d fuel hs f sh) q c 1 (Aj P fn sh) [] us
   | none=>fun _=>none
  | none=>fun _=>none)
 grind[jfn,fnd,evC,ay,Aj,atD,In.one]
theorem qc_{d:Nat}{f:FuncId}{sh:Sh}{x:As sh.ps}:evT P env d fuel hs f sh x=rfn P env d fuel hs f sh (jfn P env d fuel hs f sh) x:=by
 cases hf:P.funcs[f]? with
 | none=>unfold evT rfn;rw[hf]
 | some fn =>
  cases hb:fn.body with
  | none=>unfold evT rfn;rw[hf];simp only[hb]
  | some c =>
   have e:∀q us,jfn P env d fuel hs f sh q us=fnd P env (evC P env fuel (ay sh.rs) d) fuel hs q c 1 (Aj P fn sh) us:=fun q us=>by unfold jfn;rw[hf];simp only[hb]
   unfold evT rfn;rw[hf];simp only[hb];have e2:∀S,evJ P env (evC P env fuel (ay sh.rs) d) fuel hs (jfn P env d fuel hs f sh) [] 1 c S (Aj P fn sh)=ev P env (evC P env fuel (ay sh.rs) d) fuel hs 1 c S (Aj P fn sh):=fun S=>Og (by decide) (fun q us _=>by rw[List.nil_append];exact e q us)
   first
   | (simp only[e2];done)
   | (simp only[e2];rfl)
theorem zcc{P:Program}{I:World->Prop}{env:Env}{d:Nat}{hs:Nat->Option Hint}{f:FuncId}{sh:Sh}{m:As sh.ps->Option (As sh.rs)}(he:o9 P I env)(R:Orc (As sh.rs)->As sh.ps->Option (As sh.rs))(hc:∀J x,rfn P env d 18446744073709551616 hs f sh J x=R J x)(ht:∀x,R (jfn P env d 18446744073709551616 hs f sh) x=m x):au P I f ⟨sh,m⟩:=q8_ he fun x=>qc_.trans ((hc _ x).trans (ht x))
theorem ctn{P:Program}{I:World->Prop}{env:Env}{f:FuncId}{sh:Sh}{m:As sh.ps->Option (As sh.rs)}(he:o9 P I env)(d:Nat)(hm:∀J x,rfn P env d 18446744073709551616 (Ev.get []) f sh J x=m x):au P I f ⟨sh,m⟩:=q8_ he fun x=>qc_.trans (hm _ x)
def uP(q:Nat):Code->Nat->Nat->Bool
 | .seq x y,p,n=>if q=p then false else if lft q p=true then uP q x (2*p) n else uP q y (2*p+1) n
 | .block _ c,p,n=>if q=p then false else if lft q p=true then uP q c (2*p) n else false
 | .cond _ x y,p,n=>if q=p then false else if lft q p=true then uP q x (2*p) n else uP q y (2*p+1) n
 | .loop c,p,n=>match n with
  | 0=>decide (q=p)
  | n+1=>if q=p then false else if lft q p=true then uP q c (2*p) n else false
 | _,_,_=>false
def lpf(P:Program)(f:FuncId)(q n:Nat):Bool:=match P.funcs[f]? with
 | some fn=>match fn.body with
  | some c=>uP q c 1 n
  | none=>false
 | none=>false
theorem afD{q:Nat}:∀{c:Code} {p:Nat} {u0 us:Us R} {k:Kt R} {S:St},uP q c p us.length=true ->
  pce P env cl fuel hs J q c p k u0 us S=cu (fun self S=>pce P env cl fuel hs J q c p k u0 (us++[self]) S) fuel S:=by
 intro c
 induction c with
 | skip | label _ | ret | exit _ | rangeFunc | scope | goto | refuse | region _ _ _=>intro p u0 us k S h;cases h
 | seq x y ihx ihy =>
  intro p u0 us k S h;unfold uP at h;split at h
  ·cases h
  ·rename_i hne
   split at h
   ·simp_all[pce,if_neg,if_pos]
   simp_all[pce,if_neg]
 | block id c ih =>
  simp_all[uP,pce,if_neg,if_pos]
 | cond c x y ihx ihy =>
  intro p u0 us k S h;unfold uP at h;split at h
  ·cases h
  ·rename_i hne
   split at h
   ·simp_all[pce,if_neg,if_pos]
   simp_all[pce,if_neg]
 | loop c ih =>
  intro p u0 us k S h
  cases us with
  | nil =>
   have h:decide (q=p)=true:=h;simp_all[of_decide_eq_true,pce,List.nil_append,if_pos]
  | cons u us =>
   simp_all[lft,uP,pce,List.cons_append,if_neg,if_pos]
theorem Oh{d:Nat}{f:FuncId}{sh:Sh}{J:Orc (As sh.rs)}{q:Nat}{us:Us (As sh.rs)}(h:lpf P f q us.length=true)(S:St) :
  pfn P env d fuel hs f sh J q us S=cu (fun self S=>pfn P env d fuel hs f sh J q (us++[self]) S) fuel S:=by
 cases hf:P.funcs[f]? with
 | none=>simp_all[lpf]
 | some fn =>
  cases hb:fn.body with
  | none=>simp_all[lpf]
  | some c =>
   simp_all[lpf,pfn,afD]
class CU(K R:Type) (G T:outParam Type) where
 cc:(St->R)->K->G
 tu:K->T->St
 un:G->T->R
 law:∀f k s,un (cc f k) s=f (tu k s)
 ext:∀g h,(∀s,un g s=un h s)->g=h
instance CU0 {A R:Type}:CU (A->St) R (A->R) A:=⟨fun f k a=>f (k a),fun k=>k,fun g=>g,fun _ _ _=>rfl,fun _ _ h=>funext h⟩
instance CU1 {A B K R G T:Type}[c:CU (B->K) R G T]:CU (A->B->K) R (A->G) (A×T):=⟨fun f k a=>c.cc f (k a),fun k s=>c.tu (k s.1) s.2,fun g s=>c.un (g s.1) s.2,fun f k s=>c.law f (k s.1) s.2,fun _ _ h=>funext fun a=>c.ext _ _ fun s=>h (a,s)⟩
def C{K R G T:Type}[c:CU K R G T](f:St->R)(k:K):G:=c.cc f k
theorem gNC{d:Nat}{f:FuncId}{sh:Sh}{q:Nat}{us:Us (As sh.rs)}{K G T:Type}[c:CU K (Option (As sh.rs)) G T]{k:K}{M:G}(hq:0<q)(h:∀s,pfn P env d fuel hs f sh (jfn P env d fuel hs f sh) q us (c.tu k s)=c.un M s):C (jfn P env d fuel hs f sh q us) k=M :=
 c.ext _ _ fun s=>(c.law _ _ s).trans (by rw[GX hq];exact h s)
theorem gLC{d:Nat}{f:FuncId}{sh:Sh}{q:Nat}{us:Us (As sh.rs)}{K G T:Type}[c:CU K (Option (As sh.rs)) G T]{k:K}{M:G}{F:(T->Option (As sh.rs))->T->Option (As sh.rs)}(hq:0<q)(hl:lpf P f q us.length=true)(hM:∀s,c.un M s=cu F fuel s)
  (h:∀w s,pfn P env d fuel hs f sh (jfn P env d fuel hs f sh) q (us++[w]) (c.tu k s)=F (fun t=>w (c.tu k t)) s):C (jfn P env d fuel hs f sh q us) k=M :=
 c.ext _ _ fun s=>(c.law _ _ s).trans (by rw[GX hq,Oh hl,hM];exact BP h _ s)
theorem gN{d:Nat}{f:FuncId}{sh:Sh}{q:Nat}{us:Us (As sh.rs)}{S:St}{r:Option (As sh.rs)}(hq:0<q)(h:pfn P env d fuel hs f sh (jfn P env d fuel hs f sh) q us S=r):jfn P env d fuel hs f sh q us S=r:=by rw[GX hq];exact h
theorem gL{d:Nat}{f:FuncId}{sh:Sh}{q:Nat}{us:Us (As sh.rs)}{σ:Type}{mk:σ->St}{G:(σ->Option (As sh.rs))->σ->Option (As sh.rs)}(hq:0<q)(hl:lpf P f q us.length=true)
  (h:∀w s,pfn P env d fuel hs f sh (jfn P env d fuel hs f sh) q (us++[w]) (mk s)=G (fun t=>w (mk t)) s) (s:σ):jfn P env d fuel hs f sh q us (mk s)=cu G fuel s:=by
 rw[GX hq,Oh hl];exact BP h _ s
end
def aE7:Sh:=⟨[],[],[],[],[],0,[]⟩
def iw:Ct:=⟨aE7,fun _=>none⟩
theorem gJ{P:Program}{I:World->Prop}{f:FuncId}:au P I f iw:=fun _ _ _ _ _ _ _ _ h=>by cases h
end Ev
end
