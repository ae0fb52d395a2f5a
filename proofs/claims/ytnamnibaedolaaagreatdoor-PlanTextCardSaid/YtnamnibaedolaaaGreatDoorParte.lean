/- Proved in the last of these 15 parts (this is part 5): PlanText. Conditions: those of the given statement, and no others. -/
import Derived.Test.YtnamnibaedolaaaGreatDoorPartd
import Derived.Test.YtnamnibaedolaaaGreatDoorPartc
import Derived.Test.YtnamnibaedolaaaGreatDoorParta
import Derived.OpenShut
set_option linter.unusedVariables false
set_option linter.unusedSimpArgs false
set_option linter.unusedSectionVars false
open Option renaming bind_some → zB
open List renaming replicate → zC, mem_cons_of_mem → zO, getElem?_eq_getElem → zQ, getElem?_eq_some_iff → zR, getD_eq_getElem?_getD → zS, length_take → zW
open Go.Result renaming andThen_ok → zJ
open Bool renaming and_eq_true → zL
noncomputable section
namespace Ev
open Go Go.RowKit Sx
section
variable {R:Type}{B:Nat->Prop}{F:Lx}{w0:Bs}{wr:Wr}{pl pl':List Place}{S S':St}{l l':List Value}{ls:List (List Value)}{w w':World}{L L' M:Lx}{P:Program}{d:Option Tmp}{ty:TypeId}{pos:String}{af:Array Edge}{gd:Option (Nat×Bool)}
 {Q:Exit->Act->World->Prop} {KK:List Value->World->Prop} {K:St->SV->Option R} {r:R}
def UC(own:List (Nat×Ent))(i:Nat):Bool:=match get own i with
 | some (.row (.cl _) _ _)=>true
 | _=>false
def clB:Value->Bool
 | .slice _ 0 0=>true
 | .slice _ _ _=>false
 | _=>true
theorem aiL{v:Value}(h:clB v=true):ClV v:=by intro a c e;grind[clB]
def clS:SV->Bool
 | .k v=>clB v
 | .d t _=>t.flat
 | _=>false
theorem GJ:∀{cs:List SV} {us:List Value},cs.all clS=true->DenL pl L w cs us->(∀v∈us,v.oneCell'=true)->∀v∈us,ClV v
 | [],us,_,h,_,v,hv=>by cases h;cases hv
 | s::q,us,hc,⟨u,vs,e,h1,h2⟩,h1c,v,hv=>by
  subst e;simp only[List.all_cons,zL]at hc;rcases List.mem_cons.1 hv with rfl | hv
  ·obtain⟨hc,_⟩:=hc
   unfold clS at hc;split at hc
   ·cases h1;exact aiL hc
   ·rename_i t x
    obtain⟨cs,h3,h4⟩:=h1;have hv1:=h1c v (by simp);have h5:=uM hc h3
    cases ha:t.agg with
    | true =>
     simp only[Rp.val,gI,ha,if_true]at h4;intro a c e;rw[h4]at e;cases e
    | false =>
     have hl:=(rp t).len h3;rw[kC t ha]at hl;obtain⟨z,rfl⟩:=List.length_eq_one_iff.1 hl;simp[Rp.val,gI,ha]at h4;subst h4;exact h5 v (by simp)
   ·cases hc
  ·exact GJ hc.2 h2 (fun z hz=>h1c z (zO _ hz)) v hv
def IP(P:Program)(S:St)(t:TypeId)(K:St->SV->Option R):Option R :=
 match tyc P t,(P.info? t).bind (·.zero) with
 | some ty,some (.agg ⟨cs⟩)=>if cs.all Value.oneCell'=true∧(cs.map ofV).all clS=true then (match toD ty (.agg (cs.map ofV)) with
  | some x=>Dv S t (.cl ty) x K
  | none=>none) else none
 | _,_=>none
theorem UD(h:Rel B F w0 wr pl S l ls w){t:TypeId}(hv:IP P S t K=some r)(hk:Hand B F w0 wr S.nt l ls d K r KK):OW P ⟨d,.alloc t,ty,pos,af,gd⟩ l w KK Q:=by
 unfold IP at hv;split at hv
 ·rename_i cs _ hz
  split at hv
  ·rename_i hone
   split at hv
   ·rename_i x hx
    have hone1:=List.all_eq_true.1 hone.1;have hden:=jX (pl:=pl) (L:=lx pl S.own++F) (w:=w) cs;have h1:=q9 (pl:=pl) (L:=lx pl S.own++F) (w:=w) (u:=.agg cs.toArray) hx ⟨cs,hden,hone1,rfl⟩;exact qY hz rfl h.hL (fun g w' hS hb=>pJ h hv hk hS hb ⟨h1,fun v hv=>GJ hone.2 hden hone1 v hv⟩)
   grind
  grind
 grind
theorem ZE{ty:Ty}{x:Vl ty}{u:Value}(hd:Den pl L w (.d ty x) u):(rp ty).rel L w u.cells.toList x:=by
 obtain⟨c,h8,h9⟩:=hd
 have:u.cells.toList=c:=by
  rw[h9]
  cases ha:ty.agg with
  | true=>simp[Rp.val,gI,ha,Value.cells]
  | false =>
   have hl:=(rp ty).len h8;rw[kC ty ha]at hl;obtain⟨v,rfl⟩:=List.length_eq_one_iff.1 hl;simp only[Rp.val,gI,ha,Bool.false_eq_true,if_false,List.headD_cons];exact oO ((rp ty).one h8 v (by simp))
 simp_all
def amC:SV->Bool
 | .agg cs=>cs.all clS
 | .d (.cl _) _=>true
 | _=>false
def UE(P:Program)(S:St)(t:TypeId)(s:SV)(K:St->SV->Option R):Option R :=
 match tyc P t,s with
 | some ty,.agg cs=>if cs.all clS=true then (match toD ty (.agg cs) with
  | some x=>Dv S t (.cl ty) x K
  | none=>none) else none
 | some ty,.d (.cl t') x=>if t'=ty then Dv S t (.cl t') x K else none
 | _,_=>none
theorem abH(h:Rel B F w0 wr pl S l ls w){t:TypeId}{x:Operand}{s:SV}(hv:UE P S t s K=some r)(hx:Den pl (lx pl S.own++F) w s (ev l x))(hk:Hand B F w0 wr S.nt l ls d K r KK):OW P ⟨d,.box t x,ty,pos,af,gd⟩ l w KK Q:=by
 unfold UE at hv;split at hv
 ·rename_i cs _
  split at hv
  ·rename_i hc
   split at hv
   ·rename_i z hz
    obtain⟨us,h1,h2,h3⟩:=hx;refine uK rfl rfl h.hL (fun g w' hS hb=>pJ h hv hk hS hb ⟨q9 hz ⟨us,h1,h2,h3⟩,?_⟩);grind[Value.cells,GJ]
   grind
  grind
 ·rename_i t' x' _
  split at hv
  ·exact uK rfl rfl h.hL (fun g w' hS hb=>pJ h hv hk hS hb (ZE hx))
  grind
 grind
def GK(P:Program)(own:List (Nat×Ent))(t:TypeId)(s:SV)(K:SV->List Nat->Option R):Option R :=
 match s with
 | .prw i j sz o=>match get own i,tyc P t with
  | some (.row (.cl t0) _ xs),some fy=>if sz=t0.size∧o=0∧t0=fy then (at? xs j).bind fun y=>K (.d (.cl t0) y) [i] else Mx P own t (.prw i j sz o) K
  | _,_=>none
 | .pra i j sz o m ft k o2=>match get own i,tyc P t with
  | some (.row (.cl t0) _ xs),some (.sl u)=>if sz=t0.size then (at? xs j).bind fun y=>match prj t0 o (.ar m ft) y with
   | some ys=>(at? (show List (Vl ft) from ys) k).bind fun z=>match prj ft o2 (.sl u) z with
    | some v=>K (.d (.cl (.sl u)) v) [i]
    | none=>none
   | none=>none
   else none
  | some (.row (.cl t0) _ xs),some fy=>if sz=t0.size then (at? xs j).bind fun y=>match prj t0 o (.ar m ft) y with
   | some ys=>(at? (show List (Vl ft) from ys) k).bind fun z=>match prj ft o2 fy z with
    | some v=>K (.d fy v) [i]
    | none=>none
   | none=>none
   else none
  | _,_=>none
 | _=>none
theorem agy{own:List (Nat×Ent)}(he:EntsD pl L w own){t:TypeId}{x:Operand}{i:Nat}{j:Int}{sz o m:Nat}{ft:Ty}{q:Int}{o2:Nat}{t0:Ty}{e:TypeId}{xs:List (Vl t0)}{fy:Ty}{y:Vl t0}{ys:Vl (.ar m ft)}{z:Vl ft}{v:Vl fy}
  (hg:get own i=some (.row (.cl t0) e xs)) (hy:tyc P t=some fy) (hsz:sz=t0.size) (hy1:at? xs j=some y) (hp:prj t0 o (.ar m ft) y=some ys) (hz1:at? (show List (Vl ft) from ys) q=some z) (hp2:prj ft o2 fy z=some v)
  (hx:Den pl L w (.pra i j sz o m ft q o2) (ev l x)) :
  ∃c1,(rp fy).rel L w c1 v∧(∀u∈c1,ClV u)∧∀w',Fz L w w'->(∀a ∈ [i],∀k,plb pl a=some k->w'.heap[k]? = w.heap[k]?)->(execOp (ev l) ⟨d,.load t x,ty,pos,af,gd⟩).run P w' = .ok (.value ((rp fy).val c1)) w':=by
 have hty:=gU hy;obtain⟨a,b0,n,c,h1,h2⟩:=hx;obtain⟨p,h3,h4⟩:=he.get hg;rw[h1]at h3;cases h3;obtain⟨h5,h6,h7⟩:=gY hy1;obtain⟨_,hb0⟩:=h4.addr h7;cases hb0;obtain⟨_,hz6,_⟩:=gY hz1;obtain⟨cs,h8,h9⟩:=jv h4 h6;obtain⟨pre,c1,post,rfl,h10,h11⟩:=Y7 hp hz6 hp2 h8.1;refine⟨c1,h11,fun u hu=>h8.2 u (by grind),fun w' hF hrd=>jr h2 ?_⟩;refine iQ hty ((rp _).len h11) (fun k v hk=>?_);rw[World.cell?_of_block (w:=w) (hrd i (by simp) a (by rw[fo h1];rfl))];have:=h9 (o+q.toNat*ft.size+o2+k) v (by grind);have e:(rp (Ty.cl t0)).size=t0.size:=bV (.cl t0);grind
theorem Ld{own:List (Nat×Ent)}(he:EntsD pl L w own){t:TypeId}{x:Operand}{s:SV}{K:SV->List Nat->Option R}{r:R}(h:GK P own t s K=some r)(hx:Den pl L w s (ev l x)) :
  ∃s' rd,K s' rd=some r∧Yv P pl L w l ⟨d,.load t x,ty,pos,af,gd⟩ s' rd:=by
 unfold GK at h;split at h
 ·rename_i i j sz o
  split at h
  ·rename_i t0 e xs fy hg hy
   split at h
   ·rename_i hc
    obtain⟨hsz,rfl,rfl⟩:=hc;have hty:=gU hy;obtain⟨y,hy1,h⟩:=bK h;obtain⟨a,b0,n,c,h1,h2⟩:=hx;obtain⟨p,h3,h4⟩:=he.get hg;rw[h1]at h3;cases h3;obtain⟨h5,h6,h7⟩:=gY hy1;obtain⟨_,hb0⟩:=h4.addr h7;cases hb0;obtain⟨cs,h8,h9⟩:=jv h4 h6;refine⟨_,_,h,(rp (.cl t0)).val cs,⟨cs,h8,rfl⟩,fun w' hF hrd=>jr h2 ?_⟩;have e0:(rp (Ty.cl t0)).val cs=(rp t0).val cs:=rfl;rw[e0];refine iQ hty ((rp _).len h8.1) (fun k v hk=>?_);rw[World.cell?_of_block (w:=w) (hrd i (by simp) a (by rw[fo h1];rfl))];have:=h9 k v hk;have e:(rp (Ty.cl t0)).size=t0.size:=bV (.cl t0);simp_all
   ·exact Na he h hx
  grind
 ·split at h
  ·rename_i t0 e xs u hg hy
   split at h
   ·rename_i hsz
    obtain⟨y,hy1,h⟩:=bK h;split at h
    ·rename_i ys hp
     obtain⟨z,hz1,h⟩:=bK h;split at h
     ·rename_i v hp2
      obtain⟨c1,h1,h2,h3⟩:=agy (d:=d) (ty:=ty) (pos:=pos) (af:=af) (gd:=gd) he hg hy hsz hy1 hp hz1 hp2 hx;exact⟨_,_,h,_,⟨c1,⟨h1,h2⟩,rfl⟩,h3⟩
     grind
    grind
   grind
  ·rename_i t0 e xs fy _ hg hy
   split at h
   ·rename_i hsz
    obtain⟨y,hy1,h⟩:=bK h;split at h
    ·rename_i ys hp
     obtain⟨z,hz1,h⟩:=bK h;split at h
     ·rename_i v hp2
      obtain⟨c1,h1,h2,h3⟩:=agy (d:=d) (ty:=ty) (pos:=pos) (af:=af) (gd:=gd) he hg hy hsz hy1 hp hz1 hp2 hx;exact⟨_,_,h,_,⟨c1,h1,rfl⟩,h3⟩
     grind
    grind
   grind
  grind
 grind
def UF(fy:Ty)(s:SV):Option (Vl fy):=if fy.flat=true then toD fy s else match s with
 | .d (.cl t') y=>fK t' fy y
 | .agg l=>if l.all clS=true then toD fy (.agg l) else none
 | _=>none
theorem RY{fy:Ty}{s:SV}{z:Vl fy}{u:Value}(hz:UF fy s=some z)(hy:Den pl L w s u):∃c,(rp fy).rel L w c z∧u=(rp fy).val c∧(∀v∈c,ClV v)∧u.cells.toList=c:=by
 obtain⟨c,h8,h9,h10⟩:∃c,(rp fy).rel L w c z∧u=(rp fy).val c∧∀v∈c,ClV v:=by
  unfold UF at hz;split at hz
  ·grind[jo,uM]
  ·split at hz
   ·rename_i t' y'
    obtain⟨e',hz⟩:=oM hz;subst e';subst hz;obtain⟨c,⟨h8,h8c⟩,h9⟩:=hy;exact⟨c,h8,h9,h8c⟩
   ·rename_i l
    split at hz
    ·rename_i hc
     have hy0:=hy;obtain⟨us,k1,k2,k3⟩:=hy0;grind[jo,toD,leaf,Rp.val,gI,GJ]
    grind
   grind
 refine⟨c,h8,h9,h10,?_⟩;rw[h9]
 cases ha:fy.agg with
 | true=>simp[Rp.val,gI,ha,Value.cells]
 | false =>
  have hl:=(rp fy).len h8;rw[kC fy ha]at hl;obtain⟨v,rfl⟩:=List.length_eq_one_iff.1 hl;simp only[Rp.val,gI,ha,Bool.false_eq_true,if_false,List.headD_cons];exact oO ((rp fy).one h8 v (by simp))
theorem ZF{cs c:List Value}{a b:Nat}(h1:∀v∈cs,ClV v)(h2:∀v∈c,ClV v):∀v∈cs.take a++c++cs.drop b,ClV v:=fun v hv=>by grind
def DK(P:Program)(S:St)(t:TypeId)(a s:SV)(K:St->SV->Option R):Option R :=
 match a with
 | .prw i j sz o=>match get S.own i,tyc P t with
  | some (.row (.cl t0) e xs),some fy=>if sz=t0.size then match UF fy s with
   | some y=>(at? xs j).bind fun x=>match upd t0 o fy y x with
    | some z=>K { S with own:=dP i (.row (.cl t0) e ((show List (Vl (.cl t0)) from xs).set j.toNat z)) S.own,log:=i::S.log } (.k undef)
    | none=>none
   | none=>none
   else none
  | _,_=>none
 | .pra i j sz o m ft k o2=>match get S.own i,tyc P t with
  | some (.row (.cl t0) e xs),some fy=>if sz=t0.size then match UF fy s with
   | some y=>(at? xs j).bind fun x=>match prj t0 o (.ar m ft) x with
    | some ys=>(at? (show List (Vl ft) from ys) k).bind fun z=>match upd ft o2 fy y z with
     | some z'=>match upd t0 o (.ar m ft) (show Vl (.ar m ft) from (show List (Vl ft) from ys).set k.toNat z') x with
      | some x'=>K { S with own:=dP i (.row (.cl t0) e ((show List (Vl (.cl t0)) from xs).set j.toNat x')) S.own,log:=i::S.log } (.k undef)
      | none=>none
     | none=>none
    | none=>none
   | none=>none
   else none
  | _,_=>none
 | _=>none
theorem GL(h:Rel B F w0 wr pl S l ls w){t:TypeId}{x y:Operand}{a s:SV}(hv:DK P S t a s K=some r)(hx:Den pl (lx pl S.own++F) w a (ev l x))(hy:Den pl (lx pl S.own++F) w s (ev l y))(hk:Hand B F w0 wr S.nt l ls d K r KK):OW P ⟨d,.store t x y,ty,pos,af,gd⟩ l w KK Q:=by
 unfold DK at hv;split at hv
 ·rename_i i j sz o
  split at hv
  ·rename_i t0 e xs fy hg hfy
   split at hv
   ·rename_i hsz
    split at hv
    ·rename_i z hz
     obtain⟨y0,hy0,hv⟩:=bK hv;split at hv
     ·rename_i z' hu
      obtain⟨g,b0,n1,c1,h1,h2⟩:=hx;obtain⟨p,h3,h4⟩:=h.ent _ (get_mem hg);rw[h1]at h3;cases h3;obtain⟨h5,h6,h7⟩:=gY hy0;obtain⟨_,hb0⟩:=h4.addr h7;cases hb0;obtain⟨c,h8,h9,h10,hcells⟩:=RY hz hy;have hpl:plb pl i=some g:=fo h1;have esz:(rp (Ty.cl t0)).size=t0.size:=bV (.cl t0);refine kF (R:=rp (.cl t0)) (vs:=c) (b:=g) (i:=j.toNat) (off:=o) (u:=y0) (u':=z') ?_ (by simp_all) rfl hcells h.hL h4 h6 ((rp fy).one h8) (fun cs hcs=>?_) (by rw[<- hpl];exact List.mem_map_of_mem (f:=fun e:Nat×Ent=>plb pl e.1) (get_mem hg)) (fun w' hS hO=>?_)
      ·rw[(rp fy).len h8];exact (gU hfy).size
      ·obtain⟨k1,k2⟩:=oN hu hcs.1 h8
       exact⟨k1,k2,ZF hcs.2 h10⟩
      ·have hr:=h.mod (e':=.row (.cl t0) e ((show List (Vl (.cl t0)) from xs).set j.toNat z')) hg (by simp_all) ⟨_,h1,hO⟩
       exact hk pl _ (.k undef) undef w' hr rfl rfl hv
     grind
    grind
   grind
  grind
 ·rename_i i j sz o m ft q o2
  split at hv
  ·rename_i t0 e xs fy hg hfy
   split at hv
   ·rename_i hsz
    split at hv
    ·rename_i z hz
     obtain⟨y0,hy0,hv⟩:=bK hv;split at hv
     ·rename_i ys hpr
      obtain⟨z0,hz0,hv⟩:=bK hv;split at hv
      ·rename_i z1 hu1
       split at hv
       ·rename_i z' hu
        obtain⟨g,b0,n1,c1,h1,h2⟩:=hx;obtain⟨p,h3,h4⟩:=h.ent _ (get_mem hg);rw[h1]at h3;cases h3;obtain⟨h5,h6,h7⟩:=gY hy0;obtain⟨_,hb0⟩:=h4.addr h7;cases hb0;obtain⟨_,hz6,_⟩:=gY hz0;obtain⟨c,h8,h9,h10,hcells⟩:=RY hz hy;have hpl:plb pl i=some g:=fo h1;have esz:(rp (Ty.cl t0)).size=t0.size:=bV (.cl t0);refine kF (R:=rp (.cl t0)) (vs:=c) (b:=g) (i:=j.toNat) (off:=o+q.toNat*ft.size+o2) (u:=y0) (u':=z') ?_ (by simp_all) rfl hcells h.hL h4 h6 ((rp fy).one h8) (fun cs hcs=>?_) (by rw[<- hpl];exact List.mem_map_of_mem (f:=fun e:Nat×Ent=>plb pl e.1) (get_mem hg)) (fun w' hS hO=>?_)
        ·rw[(rp fy).len h8];exact (gU hfy).size
        ·obtain⟨k1,k2⟩:=Y8 hpr hz6 hu1 hu hcs.1 h8
         exact⟨k1,k2,ZF hcs.2 h10⟩
        ·have hr:=h.mod (e':=.row (.cl t0) e ((show List (Vl (.cl t0)) from xs).set j.toNat z')) hg (by simp_all) ⟨_,h1,hO⟩
         exact hk pl _ (.k undef) undef w' hr rfl rfl hv
       grind
      grind
     grind
    grind
   grind
  grind
 grind
theorem app0{α:Type}{Rr:Rp α}{e:TypeId}{z:α}{t:TypeId}(hr:TyRow P e Rr z)(ht:P.underlying t=some (.slice e))(a a2:Option Addr)(c2:Nat) :
  (Builtin.append_ #[t,t] ty #[.slice a 0 0,.slice a2 0 c2]).run P w = .ok (.slice a 0 0) w:=by
 obtain⟨i,zv,hi,hz,hsz,hby,hzs,hzr⟩:=hr.info
 cases a2 with
 | none=>cases a<;>simp[Builtin.append_,run_underlying ht,Go.sizeOf,typeInfo,hi,Builtin.lenOf,Builtin.firstCells,storeCells]
 | some ad=>cases a<;>simp[Builtin.append_,run_underlying ht,Go.sizeOf,typeInfo,hi,Builtin.lenOf,Builtin.firstCells,loadCells,loadCellsFrom,storeCells]
def UG(P:Program)(S:St)(t:TypeId)(s1 s2:SV)(K:St->SV->Option R):Option R :=
 match s1,fq P t with
 | .d (.cl (.sl t1)) xs,some (e,_)=>match iD P e with
  | some ⟨t0,_⟩=>if t1=t0 then need (eqi ((show List (Vl t1) from xs).length:Int) 0) (match leaf (.sl t0) s2 with
   | some ys=>need (small (show List (Vl t0) from ys).length) (K S (.d (.cl (.sl t0)) ys))
   | none=>none) else none
  | none=>none
 | _,_=>none
theorem abI(h:Rel B F w0 wr pl S l ls w){t:TypeId}{x y:Operand}{s1 s2:SV}(hv:UG P S t s1 s2 K=some r)(hx:Den pl (lx pl S.own++F) w s1 (ev l x))
  (hy:Den pl (lx pl S.own++F) w s2 (ev l y)) (hk:Hand B F w0 wr S.nt l ls d K r KK):OW P ⟨d,.call ⟨.builtin .append,#[x,y],#[t,t]⟩,ty,pos,af,gd⟩ l w KK Q:=by
 unfold UG at hv;split at hv
 ·rename_i t1 xs e n hel
  split at hv
  ·rename_i t0 z hr
   split at hv
   ·rename_i ht
    subst ht;obtain⟨hl0,hv⟩:=bS hv;split at hv
    ·rename_i ys hys
     obtain⟨hsm,hv⟩:=bS hv;obtain⟨cs,⟨⟨a,c,hcs,_⟩,hcl⟩,hxv⟩:=hx;have hxs:(show List (Vl t1) from xs).length=0:=by simp_all[eqi]
     subst hcs;have hc0:c=0:=hcl (.slice a (show List (Vl t1) from xs).length c) (by simp) a c (by rw[hxs]);have hxv:ev l x = .slice a (List.length (show List (Vl t1) from xs)) c:=hxv;rw[hc0,hxs]at hxv;have hy':=og (t:=.sl t1) rfl hys hy;have hrow:=gy hr;obtain⟨a2,n2,c2,e2,hy'⟩:=q8 hy';by_cases hne:ys=[]
     ·subst hne
      have hn2:n2=0:=wY hy';subst hn2;have hrun:=app0 (w:=w) (ty:=ty) hrow (jE hel).1 a a2 c2;refine iG (v:=.slice a 0 0) (w':=w) ?_ (hk pl S (.d (.cl (.sl t1)) []) _ w h rfl ⟨[.slice a 0 0],⟨qW _ _ _ a 0,fun u hu b k hb=>?_⟩,rfl⟩ hv)
      ·grind[execOp,resolve,invoke,builtin,Sem.run_bind,Sem.run_pure,zJ]
      grind
     have hL0:LOk B ([]++blk (none:Option Addr)::lx pl S.own) F w:=(Stp.none h.hL rfl).hL;have hsub:Sub w (([]++blk (none:Option Addr)::lx pl S.own)++F) (lx pl S.own++F):=(Stp.none (B:=B) h.hL rfl).hs;refine Gm (pre:=[]) (post:=lx pl S.own) (F:=F) (B:=B) (xs:=([]:List (Vl t1))) (jE hel).1 hrow (.inr ⟨rfl,rfl,rfl,a,hxv⟩) e2 hL0 (Ow.nil _ _ _ _) (Rp.grow _ hy' hsub) (by grind) (fun v a' n' c' w' hv' hS hO=>?_);have hfz:Fz [] w w':=⟨hS.hf.os,hS.hf.tape,hS.hf.output,hS.hf.size,fun k hk hn=>hS.hf.block k hk (by simp[blk])⟩;have hlen:=hO.len;have hpos:0<ys.length:=List.length_pos_iff.2 hne;rw[List.nil_append]at hlen;refine hk pl S (.d (.cl (.sl t1)) ys) v w' (h.call hfz) rfl ?_ hv;rcases hv' with rfl | ⟨_,h7,_⟩
     ·have hf:=hO.freeze (L':=lx pl S.own++F) (u7 w' [] (lx pl S.own) F (blk a')) (fun k hk=>hS.hL.gone k hk)
      refine⟨[.slice a' n' c'],⟨(show (Rp.slice (rp t1)).rel (lx pl S.own++F) w' [.slice a' n' c'] ys from by grind),fun u hu b k hb=>?_⟩,rfl⟩;grind
     ·omega
    grind
   grind
  grind
 grind
end
end Ev
end
noncomputable section
namespace Ev
open Go Go.RowKit Sx
def rowsOf:SV->List Nat
 | .row i=>[i]
 | .rowz i=>[i]
 | .sub i _ _ _=>[i]
 | .agg l=>l.filterMap fun
  | .row i=>some i
  | .rowz i=>some i
  | .sub i _ _ _=>some i
  | _=>none
 | _=>[]
def ZG(S:St):List Operand->List Nat
 | []=>[]
 | x::q=>(match opv S x with
  | some s=>rowsOf s
  | none=>[])++ZG S q
section
variable {R:Type}{B:Nat->Prop}{F:Lx}{w0:Bs}{wr:Wr}{pl pl':List Place}{S S':St}{l l':List Value}{ls:List (List Value)}{w w':World}{L L' M:Lx}{P:Program}{d:Option Tmp}{ty:TypeId}{pos:String}{af:Array Edge}{gd:Option (Nat×Bool)}
 {Q:Exit->Act->World->Prop} {KK:List Value->World->Prop} {K:St->SV->Option R} {r:R}
def agz(P:Program)(t:TypeId):Bool:=match P.underlying t with
 | some (.interface _)=>true
 | some _=>false
 | none=>true
def amD:SV->Bool
 | .pb _ _=>true
 | _=>false
def qv2(P:Program)(S:St)(op:Op)(K:SV->List Nat->Option R):Option R :=
 match op with
 | .build t q=>Nw P S t q.toList K
 | .makeFunc fn a b=>match BS S a.toList,BS S b.toList with
  | some x,some y=>K (.fn fn x y) []
  | _,_=>none
 | .makeInterface t x=>if agz P t=false then (match opv S x with
  | some s=>K (.ifc t s) []
  | none=>none) else none
 | .binOp op t x y u=>match opv S x with
  | some a=>match TG P t y a with
   | some _=>aaU P op t y a K
   | none=>match opv S y with
    | some b=>if amD a=true then aaV P op t a b K else if aiB a=true then qEq P op t a b K else qv P S (.binOp op t x y u) K
    | none=>none
  | none=>none
 | .lookup t x y ok=>match opv S x,opv S y with
  | some m,some k=>Uf P S.own t m k ok K
  | _,_=>none
 | .entry x=>match opv S x with
  | some it=>IJ S.own it K
  | none=>none
 | .call ⟨.builtin .len,⟨[x]⟩,⟨[t]⟩⟩=>match opv S x with
  | some (.mp i)=>Dz P S.own t (.mp i) K
  | some (.d (.mp a b) xs)=>Dz P S.own t (.d (.mp a b) xs) K
  | some (.row i)=>if Oa S.own i=true then Ui P S.own t (.row i) K else if EY S.own i=true then Uv P S.own t (.row i) K else qv P S (.call ⟨.builtin .len,⟨[x]⟩,⟨[t]⟩⟩) K
  | _=>qv P S (.call ⟨.builtin .len,⟨[x]⟩,⟨[t]⟩⟩) K
 | .load t x=>match opv S x with
  | some (.prw i j sz o)=>if UC S.own i=true then GK P S.own t (.prw i j sz o) K else if Oa S.own i=true then Ob P S.own t (.prw i j sz o) K else if aiJ S.own i=true then Oc P S.own t (.prw i j sz o) K else if EY S.own i=true then Oe P S.own t (.prw i j sz o) K else qv P S (.load t x) K
  | some (.pra i j sz o m ft k o2)=>if UC S.own i=true then GK P S.own t (.pra i j sz o m ft k o2) K else qv P S (.load t x) K
  | _=>qv P S (.load t x) K
 | .indexAddr t x y=>match opv S x,opv S y with
  | some (.row i),some j=>if Oa S.own i=true then Iy P S.own t (.row i) j K else if aiJ S.own i=true then IG P S.own t (.row i) j K else if EY S.own i=true then IK P S.own t (.row i) j K else qv P S (.indexAddr t x y) K
  | _,_=>qv P S (.indexAddr t x y) K
 | .slice t x lo hi none=>match opv S x with
  | some (.row i)=>if EY S.own i=true then IL P S t (.row i) lo hi K else qv P S (.slice t x lo hi none) K
  | _=>qv P S (.slice t x lo hi none) K
 | .slice t x lo hi (some m)=>match opv S x with
  | some (.row i)=>if EY S.own i=true then MH P S t (.row i) lo hi m K else qv P S (.slice t x lo hi (some m)) K
  | _=>qv P S (.slice t x lo hi (some m)) K
 | op=>qv P S op K
theorem GM(hf:FrD pl L w S.fr l)(he:EntsD pl L w S.own){op:Op}{K:SV->List Nat->Option R}{r:R}(h:qv2 P S op K=some r) :
  ∃s rd,K s rd=some r∧Yv P pl L w l ⟨d,op,ty,pos,af,gd⟩ s rd:=by
 unfold qv2 at h;split at h
 ·exact Zl hf h
 ·split at h
  ·rename_i fn a b _ _ x y h1 h2
   refine⟨_,_,h,Yv.of (v:=.func fn (a.map (ev l)) (b.map (ev l))) ⟨_,_,qH hf h1,qH hf h2,by rw[show a.map (ev l)=(a.toList.map (ev l)).toArray from Array.ext' (by simp),show b.map (ev l)=(b.toList.map (ev l)).toArray from Array.ext' (by simp)]⟩ (fun w'=>?_)⟩;rfl
  grind
 ·split at h
  ·rename_i hi
   split at h
   ·rename_i t x _ s hs
    refine⟨_,_,h,Yv.of (v:=.iface t (ev l x)) ⟨_,bf hf hs,rfl⟩ (fun w'=>?_)⟩;unfold agz at hi;split at hi
    ·cases hi
    ·simp_all[Instr.makeInterface,ev,Sem.run_bind,run_underlying,zJ,execOp,Sem.run_pure]
    grind
   grind
  grind
 ·split at h
  ·rename_i a h1
   split at h
   ·exact ag9 h (bf hf h1)
   ·split at h
    ·rename_i h2
     split at h
     ·exact aha h (bf hf h1) (bf hf h2)
     ·split at h
      ·exact aiC h (bf hf h1) (bf hf h2)
      ·exact lT hf he h
    grind
  grind
 ·split at h
  ·rename_i h1 h2
   exact abr he h (bf hf h1) (bf hf h2)
  grind
 ·split at h
  ·rename_i h1
   exact Uu he h (bf hf h1)
  grind
 ·split at h
  ·rename_i h1
   exact GG he h (bf hf h1)
  ·rename_i h1
   exact GG he h (bf hf h1)
  ·rename_i h1
   split at h
   ·exact abu he h (bf hf h1)
   ·split at h
    ·exact abC he h (bf hf h1)
    ·exact lT hf he h
  ·exact lT hf he h
 ·split at h
  ·rename_i h1
   split at h
   ·exact Ld he h (bf hf h1)
   split at h
   ·exact ZA he h (bf hf h1)
   ·split at h
    ·exact ZB he h (bf hf h1)
    ·split at h
     ·exact ZD he h (bf hf h1)
     ·exact lT hf he h
  ·rename_i h1
   split at h
   ·exact Ld he h (bf hf h1)
   ·exact lT hf he h
  ·exact lT hf he h
 ·split at h
  ·rename_i h1 h2
   split at h
   ·exact Uj he h (bf hf h1) (bf hf h2)
   ·split at h
    ·exact Uq he h (bf hf h1) (bf hf h2)
    ·split at h
     ·exact Uw he h (bf hf h1) (bf hf h2)
     ·exact lT hf he h
  ·exact lT hf he h
 ·split at h
  ·rename_i h1
   split at h
   ·exact Ux hf he h (bf hf h1)
   ·exact lT hf he h
  ·exact lT hf he h
 ·split at h
  ·rename_i h1
   split at h
   ·exact Og hf he h (bf hf h1)
   ·exact lT hf he h
  ·exact lT hf he h
 ·exact lT hf he h
def UH(P:Program)(S:St)(eq:R->R->Bool)(o:BinOp)(t:TypeId)(x:Operand)(u:TypeId)(K:St->SV->Option R):Option R :=
 match opv S x,P.underlying t with
 | some (.d (.sl _) xs),some (.slice _)=>if eqi (Int.ofNat xs.length) 0=true then amb eq [K S (.d .bool true),K S (.d .bool false)] else K S (.d .bool (if o = .eql then false else true))
 | _,_=>qv2 P S (.binOp o t x (.const (.slice none 0 0)) u) (fun s _=>K S s)
theorem RZ{eq:R->R->Bool}(heq:∀a b,eq a b=true->a=b)(h:Rel B F w0 wr pl S l ls w){o:BinOp}(ho:o = .eql∨o = .neq){t:TypeId}{x:Operand}{u:TypeId}(hv:UH P S eq o t x u K=some r)(hk:Hand B F w0 wr S.nt l ls d K r KK) :
  OW P ⟨d,.binOp o t x (.const (.slice none 0 0)) u,ty,pos,af,gd⟩ l w KK Q:=by
 unfold UH at hv;split at hv
 ·rename_i y xs e hx he
  obtain⟨cs,⟨a,cap,hcs,hcap,hel⟩,hval⟩:=bf h.fr hx;subst hcs;have hxv:Sx.ev l x = .slice a xs.length cap:=by simp_all[Rp.val,gI,Ty.agg]
  obtain⟨b,hb,hnb⟩:∃b,NilPair P t (Sx.ev l x) (.slice none 0 0) b∧(xs ≠ []->b=false):=by
   rw[hxv]
   cases a with
   | none=>exact⟨true,.sv he,fun hne=>by simp_all⟩
   | some a=>exact⟨false,.sa he,fun _=>rfl⟩
  have hrun:=hb.run (d:=d) (ty:=ty) (pos:=pos) (af:=af) (g:=gd) (u:=u) (w:=w) ho;refine iG hrun (hk pl S (.d .bool (if o = .eql then b else !b)) _ w h rfl (gq _) ?_);split at hv
  ·have hall:=GH heq hv
   cases (if o = .eql then b else !b)
   ·exact hall _ (by simp)
   ·exact hall _ (by simp)
  ·rename_i hl
   have hne:xs ≠ []:=fun e=>hl (by subst e;rfl);grind
 ·obtain⟨s,rd,h1,v,h2,h3⟩:=GM h.fr h.ent hv
  exact iG (h3 w (Fz.refl _ _) (fun _ _ _ _=>rfl)) (hk pl S s v w h rfl h2 h1)
def fu(S:St)(q:List Operand):St:=kX (ZG S q) S
def bxT(env:Env)(t:TypeId):Bool:=match env (1000000+t) with
 | []=>false
 | _=>true
def fzT(env:Env)(t:TypeId):Bool:=match env (2000000+t) with
 | []=>false
 | _=>true
def opT(env:Env)(t:TypeId):Bool:=match env (3000000+t) with
 | []=>false
 | _=>true
def nxT(env:Env)(t:TypeId):Bool:=match env (6000000+t) with
 | []=>false
 | _=>true
def clT(env:Env)(t:TypeId):Bool:=match env (4000000+t) with
 | []=>false
 | _=>true
def opX(env:Env)(t:TypeId):Bool:=match env (5000000+t) with
 | []=>false
 | _=>true
def quT(env:Env)(t:TypeId):Bool:=match env (9000000+t) with
 | []=>false
 | _=>true
def GN(P:Program)(env:Env)(q:List Operand)(S:St):St:=match env 9999999 with
 | []=>S
 | _=>Oj P (quT env) q S
theorem Ol{env:Env}{q:List Operand}(h:Rel B F w0 wr pl S l ls w):∃pl',Rel B F w0 wr pl' (GN P env q S) l ls w∧(GN P env q S).nt=S.nt:=by
 unfold GN;split
 ·exact⟨_,h,rfl⟩
 ·exact DJ h
def abJ(P:Program)(env:Env)(a:Operand)(K:St->SV->Option R)(S:St)(s:SV):Option R:=match env 9999999 with
 | []=>K S s
 | _=>match s with
  | .k u=>K (GN P env [a] S) (.k u)
  | _=>none
theorem aho{env:Env}{a:Operand}{n:Nat}(hk:Hand B F w0 wr n l ls d K r KK):Hand B F w0 wr n l ls d (abJ P env a K) r KK:=fun pl' S' s v w' h1 h2 h3 h4=>by
 unfold abJ at h4;split at h4
 ·exact hk pl' S' s v w' h1 h2 h3 h4
 ·split at h4
  ·obtain⟨pl2,h5,h6⟩:=Ol (P:=P) (env:=env) (q:=[a]) h1
   exact hk pl2 _ (.k _) v w' h5 (by rw[h6];exact h2) h3 h4
  ·cases h4
def alY(S:St)(x:Operand):Bool:=match opv S x with
 | some (.row i)=>EY S.own i
 | _=>false
def amE(S:St)(x:Operand):Bool:=match opv S x with
 | some (.dx _ _)=>true
 | _=>false
def amF(S:St)(x:Operand):Bool:=match opv S x with
 | some (.d (.cl _) _)=>true
 | _=>false
def isOp(S:St)(y:Operand):Bool:=match opv S y with
 | some s=>isO S.own s
 | none=>false
def opL(P:Program)(env:Env)(cl:Cl R)(S:St)(op:Op)(ty:TypeId)(K:St->SV->Option R):Option R :=
 match op with
 | .alloc t=>if bxT env t=true∧nxT env t=false then BQ P S t K else if clT env t=true then IP P S t K else Ir P S t K
 | .box t x=>match opv S x with
  | some s=>if bxT env t=true then Np S t s K else if clT env t=true∧amC s=true then UE P S t s K else if fzT env t=true then (match opv (fu S [x]) x with
   | some s=>T8 P (fu S [x]) t s K
   | none=>none) else Ua P S t s K
  | none=>none
 | .store t a x=>match opv S a with
  | some (.prw i j sz o)=>if UC S.own i=true then (match opv S x with
   | some s=>DK P S t (.prw i j sz o) s K
   | none=>none) else if Oa S.own i=true then (match opv S x with
   | some s=>IB P S t (.prw i j sz o) s K
   | none=>none) else match opv (fu S [x]) a,opv (fu S [x]) x with
   | some a',some s=>yU P (fu S [x]) t a' s K
   | _,_=>none
  | some (.pra i j sz o m ft k o2)=>if UC S.own i=true then (match opv S x with
   | some s=>DK P S t (.pra i j sz o m ft k o2) s K
   | none=>none) else match opv (fu S [x]) a,opv (fu S [x]) x with
   | some a',some s=>yU P (fu S [x]) t a' s K
   | _,_=>none
  | some a'=>match opv S x with
   | some (.sub i sz lo n)=>if EY S.own i=true then agx P S t a i sz lo n K else yZ P S t a' (.sub i sz lo n) K
   | some s=>yZ P S t a' s (abJ P env a K)
   | none=>none
  | none=>none
 | .makeSlice t a b=>match opv S a,opv S b with
  | some x,some y=>TT P S t x y K
  | _,_=>none
 | .buildSlice t n q=>if opT env t=true then Ul P S t n q.toList K else aa9 P (fu S (q.toList.map (·.2))) t n q.toList K
 | .slice t x lo hi (some m)=>match opv S x with
  | some s=>if alY S x=true then agw P S t s lo hi m K else if opX env t=true then Uo P S t s lo hi m K else aa5 P S t s lo hi m K
  | none=>none
 | .convert t u x=>match opv S x,vC P u with
  | some (.d .str b),some _=>NQ P S t u (.d .str b) K
  | _,_=>qv2 P S (.convert t u x) (fun s _=>K S s)
 | .call ⟨.builtin .append,⟨[x,y]⟩,⟨[t,t']⟩⟩=>if amF S x=true then (match opv (fu S [y]) x,opv (fu S [y]) y with
  | some s1,some s2=>if t=t' then UG P (fu S [y]) t s1 s2 K else none
  | _,_=>none) else if isOp S y=true then (match opv S x,opv S y with
  | some s1,some s2=>if t=t' then Un P S t s1 s2 K else none
  | _,_=>none) else match opv (fu S [y]) x,opv (fu S [y]) y with
  | some s1,some s2=>if t=t' then (if quT env t=true then UA P (fu S [y]) t s1 s2 K else if amE (fu S [y]) x=true then Up P (fu S [y]) t s1 s2 K else Ie P (fu S [y]) t s1 s2 K) else EL P (fu S [y]) t t' s1 s2 K
  | _,_=>none
 | .call ⟨.builtin .copy,⟨[x,y]⟩,⟨[t,_]⟩⟩=>match opv (fu S [y]) x,opv (fu S [y]) y with
  | some s1,some s2=>Uc P (fu S [y]) t s1 s2 K
  | _,_=>none
 | .call ⟨.builtin .delete,⟨[x,i]⟩,⟨[t,_]⟩⟩=>match opv S x,opv S i with
  | some m,some k=>Iv P S t m k K
  | _,_=>none
 | .call ⟨.builtin .unsafeSliceData,⟨[x]⟩,_⟩=>match opv S x with
  | some s=>lSD P S ty s K
  | none=>none
 | .call ⟨.builtin .unsafeString,⟨[x,y]⟩,⟨[pt,_]⟩⟩=>match opv S x,opv S y with
  | some s,some n=>lUS P S pt s n K
  | _,_=>none
 | .call ⟨.value x,args,_⟩=>match x with
  | .func f=>match xk P f,BS S args.toList with
   | some k,some ss=>NT k S ss K
   | _,_=>Gx env cl (MC P x args.toList) (GN P env args.toList S) K
  | _=>Gx env cl (MC P x args.toList) S K
 | .call ⟨.invoke x name,args,_⟩=>Gx env cl (abo P x name args.toList) S K
 | .makeMap t none=>EU P S t K
 | .mapUpdate t x i y=>match opv (fu S [y]) x,opv (fu S [y]) i,opv (fu S [y]) y with
  | some m,some k,some v=>Dy P (fu S [y]) t m k v K
  | _,_,_=>none
 | .insert t x i y=>match opv (fu S [y]) x,opv (fu S [y]) i,opv (fu S [y]) y with
  | some m,some k,some v=>Dy P (fu S [y]) t m k v K
  | _,_,_=>none
 | .range t x=>match opv S x with
  | some m=>II P S t m K
  | none=>none
 | .next x false=>match opv S x with
  | some it=>Od cl.eq S it K
  | none=>none
 | .binOp .eql t x (.const (.slice none 0 0)) u=>UH P S cl.eq .eql t x u K
 | .binOp .neq t x (.const (.slice none 0 0)) u=>UH P S cl.eq .neq t x u K
 | op=>qv2 P S op (fun s _=>K S s)
theorem Om{env:Env}{cl:Cl R}(henv:iK P w0.I env)(hcl:Ak P w0.I cl)(h:Rel B F w0 wr pl S l ls w){op:Op}(hv:opL P env cl S op ty K=some r)(hk:Hand B F w0 wr S.nt l ls d K r KK) :
  OW P ⟨d,op,ty,pos,af,gd⟩ l w KK Q:=by
 have hq:∀op,qv2 P S op (fun s _=>K S s)=some r->OW P ⟨d,op,ty,pos,af,gd⟩ l w KK Q:=fun op hv=>by obtain⟨s,rd,h1,v,h2,h3⟩:=GM h.fr h.ent hv;exact iG (h3 w (Fz.refl _ _) (fun _ _ _ _=>rfl)) (hk pl S s v w h rfl h2 h1)
 have hz:∀q,Rel B F w0 wr pl (fu S q) l ls w∧(fu S q).nt=S.nt:=fun q=>uP h;unfold opL at hv;split at hv
 ·grind[BR,UD,T9]
 ·rename_i t x
  split at hv
  ·rename_i s hs
   split at hv
   ·exact Ig h hv (bf h.fr hs) hk
   ·split at hv
    ·exact abH h hv (bf h.fr hs) hk
    ·split at hv
     ·obtain⟨h1,h2⟩:=hz [x]
      split at hv
      ·rename_i s' hs'
       exact abg h1 hv (bf h1.fr hs') (by simp_all)
      grind
     ·exact abh h hv (bf h.fr hs) hk
  grind
 ·split at hv
  ·rename_i t a x _ _ _ _ _ ha0
   split at hv
   ·split at hv
    ·rename_i s hs
     exact GL h hv (bf h.fr ha0) (bf h.fr hs) hk
    grind
   split at hv
   ·split at hv
    ·rename_i s hs
     exact Uk h hv (bf h.fr ha0) (bf h.fr hs) hk
    grind
   ·obtain⟨h1,h2⟩:=hz [x]
    split at hv
    ·rename_i a' s ha hs
     exact xx h1 hv (bf h1.fr ha) (bf h1.fr hs) (by simp_all)
    grind
  ·rename_i t a x _ _ _ _ _ _ _ _ _ ha0
   split at hv
   ·split at hv
    ·rename_i s hs
     exact GL h hv (bf h.fr ha0) (bf h.fr hs) hk
    grind
   ·obtain⟨h1,h2⟩:=hz [x]
    split at hv
    ·rename_i a' s ha hs
     exact xx h1 hv (bf h1.fr ha) (bf h1.fr hs) (by simp_all)
    grind
  ·rename_i a' _ ha
   split at hv
   ·rename_i hs
    split at hv
    ·exact abE h hv (bf h.fr hs) hk
    ·exact Am h hv (bf h.fr ha) (bf h.fr hs) hk
   ·rename_i hs
    exact Am h hv (bf h.fr ha) (bf h.fr hs) (aho hk)
   grind
  grind
 ·split at hv
  ·rename_i h1 h2
   exact aa6 h hv (bf h.fr h1) (bf h.fr h2) hk
  grind
 ·grind[abw,ahg]
 ·split at hv
  ·rename_i hs
   split at hv
   ·exact abD h hv (bf h.fr hs) hk
   ·split at hv
    ·exact abz h hv (bf h.fr hs) hk
    ·exact ahf h hv (bf h.fr hs) hk
  grind
 ·split at hv
  ·rename_i hs _
   exact Zs h hv (bf h.fr hs) hk
  simp_all
 ·split at hv
  ·split at hv
   ·rename_i h3 h4
    obtain⟨h1,h2⟩:=hz [_];split at hv
    ·rename_i ht
     have hv2:=hv;subst ht;exact abI h1 hv2 (bf h1.fr h3) (bf h1.fr h4) (by simp_all)
    grind
   grind
  ·split at hv
   ·split at hv
    ·rename_i h3 h4
     split at hv
     ·rename_i ht
      have hv2:=hv;subst ht;exact aby h hv2 (bf h.fr h3) (bf h.fr h4) hk
     grind
    grind
   ·split at hv
    ·rename_i h3 h4
     obtain⟨h1,h2⟩:=hz [_];split at hv
     ·rename_i ht
      have hv2:=hv;subst ht;split at hv2
      ·exact abF h1 hv2 (bf h1.fr h3) (bf h1.fr h4) (by simp_all)
      ·split at hv2
       ·exact abA h1 hv2 (bf h1.fr h3) (bf h1.fr h4) (by simp_all)
       ·exact TU h1 hv2 (bf h1.fr h3) (bf h1.fr h4) (by simp_all)
     ·exact Rk h1 hv (bf h1.fr h3) (bf h1.fr h4) (by simp_all)
    grind
 ·split at hv
  ·rename_i h3 h4
   obtain⟨h1,h2⟩:=hz [_];exact abk h1 hv (bf h1.fr h3) (bf h1.fr h4) (by simp_all)
  grind
 ·split at hv
  ·rename_i h3 h4
   exact Ug h hv (bf h.fr h3) (bf h.fr h4) hk
  grind
 ·split at hv
  ·rename_i h3
   exact aiD h hv (bf h.fr h3) hk
  grind
 ·split at hv
  ·rename_i h3 h4
   exact aiE h hv (bf h.fr h3) (bf h.fr h4) hk
  grind
 ·split at hv
  ·split at hv
   ·grind[ahi]
   ·obtain⟨pl1,h1,h2⟩:=Ol (P:=P) (env:=env) (q:=_) h
    exact EM henv hcl h1 NM hv (by rw[h2];exact hk)
  ·exact EM henv hcl h NM hv hk
 ·exact EM henv hcl h ahj hv hk
 ·grind[Rl]
 ·split at hv
  ·rename_i h3 h4 h5
   obtain⟨h1,h2⟩:=hz [_];exact GD h1 (.inl rfl) hv (bf h1.fr h3) (bf h1.fr h4) (bf h1.fr h5) (by simp_all)
  grind
 ·split at hv
  ·rename_i h3 h4 h5
   obtain⟨h1,h2⟩:=hz [_];exact GD h1 (.inr rfl) hv (bf h1.fr h3) (bf h1.fr h4) (bf h1.fr h5) (by simp_all)
  grind
 ·split at hv
  ·rename_i h3
   exact Ut h hv (bf h.fr h3) hk
  grind
 ·split at hv
  ·rename_i h3
   exact ZC hcl.1 h hv (bf h.fr h3) hk
  grind
 ·exact RZ hcl.1 h (.inl rfl) hv hk
 ·exact RZ hcl.1 h (.inr rfl) hv hk
 simp_all
def mY(S:St)(d:Option Tmp)(s:SV)(k:St->Option R):Option R :=
 match d with
 | none=>k S
 | some t=>if t<S.nt then k { S with fr:=(t,s)::S.fr } else none
theorem R3(h:Rel B F w0 wr pl S l ls w){d:Option Tmp}{s:SV}{v:Value}(hd:Den pl (lx pl S.own++F) w s v){k:St->Option R}(hv:mY S d s k=some r):∃S',Rel B F w0 wr pl S' (st l d v) ls w∧k S'=some r:=by
 unfold mY at hv;split at hv
 ·exact⟨S,h,hv⟩
 ·split at hv
  ·rename_i t ht
   exact⟨_,h.set ht hd,hv⟩
  grind
def grd(ops:List Oper)(S:St)(o:Oper)(run skip:St->Option R):Option R :=
 match o.guard with
 | none=>run S
 | some (j,want)=>match (ops[j]?).bind (·.dst) with
  | some t=>if t<S.nt then match get S.fr t with
   | some (.d .bool b)=>if b=true then (if want=true then run { S with fr:=(t,.d .bool true)::S.fr } else skip { S with fr:=(t,.d .bool true)::S.fr })
    else (if want=true then skip { S with fr:=(t,.d .bool false)::S.fr } else run { S with fr:=(t,.d .bool false)::S.fr })
   | some (.k (.tuple ⟨[]⟩))=>skip S
   | _=>none else none
  | none=>none
theorem B6(h:Rel B F w0 wr pl S l ls w){ops:List Oper}{o:Oper}{run skip:St->Option R}(hv:grd ops S o run skip=some r) :
  ∃S',Rel B F w0 wr pl S' l ls w∧S'.log=S.log∧S'.own=S.own∧S'.nx=S.nx∧((wtd ops.toArray o l=true∧run S'=some r)∨(wtd ops.toArray o l=false∧skip S'=some r)):=by
 unfold grd at hv;split at hv
 ·rename_i hg
  exact⟨S,h,rfl,rfl,rfl,.inl ⟨by simp_all[wtd,Region.wanted],hv⟩⟩
 ·rename_i j want hg
  split at hv
  ·rename_i t ht
   split at hv
   ·rename_i hlt
    have hlen:=h.nt;have hat:(mk l).tmps[t]? = some (l.getD t undef):=by simp_all[mk]
    have key:∀b:Bool,get S.fr t=some (.d .bool b)->Rel B F w0 wr pl { S with fr:=(t,.d .bool b)::S.fr } l ls w∧wtd ops.toArray o l=(some b == some want):=fun b hb=>by
     have hd:=jC (h.fr t _ hb);constructor
     ·have h2:=h.set hlt (h.fr t _ hb)
      have e:l.set t (l.getD t undef)=l:=by
       have:t<l.length:=by simp_all
       rw[zS,zQ this];simp
      simp_all
     simp_all[wtd,Region.wanted,yielded,mk,zB]
    split at hv
    ·grind
    ·rename_i hu
     refine⟨S,h,rfl,rfl,rfl,.inr ⟨?_,hv⟩⟩;have hd:l.getD t undef = .tuple ⟨[]⟩:=h.fr t _ hu;simp_all[wtd,Region.wanted,yielded,mk,zB]
    grind
   grind
  grind
def rg(a:Program)(e:Env)(d:Cl R)(f:List Oper):List Oper->St->(St->Option R)->Option R
 | [],S,k=>k S
 | o::q,S,k=>grd f S o (fun b=>opL a e d b o.op o.type fun g h=>mY g o.dst h fun c=>rg a e d f q c k) (fun b=>mY b o.dst (.k undef) fun c=>rg a e d f q c k)
theorem UI{env:Env}{cl:Cl R}(henv:iK P w0.I env)(hcl:Ak P w0.I cl){ops:List Oper}:∀{q:List Oper} {pl:List Place} {S:St} {l:List Value} {w:World} {k:St->Option R},Rel B F w0 wr pl S l ls w->rg P env cl ops q S k=some r ->
  (∀pl' S' l' w',Rel B F w0 wr pl' S' l' ls w'->k S'=some r->Q .normal (mk l') w')->WL P ops.toArray Q q l w
 | [],pl,S,l,w,k,h,hv,hk=>yL (hk _ _ _ _ h hv)
 | o::q,pl,S,l,w,k,h,hv,hk=>by
  unfold rg at hv;obtain⟨S1,h1,_,_,_,h2⟩:=B6 h hv;rcases h2 with ⟨hw,hv⟩ | ⟨hw,hv⟩
  ·obtain⟨d,op,ty,pos,af,gd⟩:=o
   refine alT hw (Om henv hcl h1 hv (fun pl' S' s v w' a1 a2 a3 a4=>?_));obtain⟨S3,b1,b2⟩:=R3 a1 a3 a4;exact UI henv hcl b1 b2 hk
  ·obtain⟨S3,b1,b2⟩:=R3 (s:=.k undef) (v:=undef) h1 rfl hv
   exact ail hw (UI henv hcl b1 b2 hk)
end
end Ev
end
noncomputable section
namespace Ev
open Go Go.RowKit Sx
def msk(c:List Nat)(b:Nat)(a:Edge):Nat:=if Region.binds .any a=true then b ||| 2 ^ a.on ||| c.getD a.on 0 else b
def dps:List Oper->List Nat->List Nat
 | [],acc=>acc
 | o::q,acc=>dps q (acc++[o.after.toList.foldl (msk acc) 0])
section
variable {ops:Array Oper}
def y8(b:Array Oper)(a:List Nat):Prop:=∀(j m p:Nat),a[j]? = some m->m.testBit p=true->Dep b j p
theorem Le{acc:List Nat}(h:y8 ops acc){j:Nat}{o:Oper}(ho:ops[j]? = some o):∀(es:List Edge) (s:Nat),(∀e∈es,e∈o.after.toList)->(∀p,s.testBit p=true->Dep ops j p) ->
  ∀p,(es.foldl (msk acc) s).testBit p=true->Dep ops j p
 | [],s,_,hs,p,hp=>hs p hp
 | e::es,s,he,hs,p,hp=>by
  refine Le h ho es (msk acc s e) (fun e' h'=>he e' (zO _ h')) (fun q hq=>?_) p hp;unfold msk at hq;split at hq
  ·rename_i hb
   have hmem:e∈o.after:=by simp_all
   rw[Nat.testBit_or,Nat.testBit_or,Bool.or_eq_true,Bool.or_eq_true]at hq;rcases hq with (hq | hq) | hq
   ·simp_all
   ·rw[Nat.testBit_two_pow]at hq
    exact .one ho hmem hb (of_decide_eq_true hq)
   ·rw[zS]at hq
    cases ha:acc[e.on]? with
    | none=>simp_all
    | some m =>
     rw[ha]at hq;exact .step ho hmem hb rfl (h _ _ _ ha hq)
  simp_all
theorem Oo:∀(q:List Oper) (pre:List Oper) (acc:List Nat),ops=(pre++q).toArray->acc.length=pre.length->y8 ops acc->y8 ops (dps q acc)
 | [],_,_,_,_,h=>h
 | o::q,pre,acc,ho,hl,h=>by
  have hat:ops[pre.length]? = some o:=by simp_all
  refine Oo q (pre++[o]) _ (by simp_all) (by grind) (fun j m p hj hp=>?_);rcases Nat.lt_or_ge j acc.length with hlt | hge
  ·rw[List.getElem?_append_left hlt]at hj
   exact h j m p hj hp
  ·rw[List.getElem?_append_right hge]at hj
   have:j=acc.length:=by grind
   subst this;rw[Nat.sub_self]at hj;grind[msk,Le]
end
abbrev Tl:=List (Nat×List Nat×Bool)
def chk(a:List Nat)(b:Nat)(c:List Nat)(d:List (Nat×Ent)):Tl->Option Tl
 | []=>some []
 | (p,rd,al)::q=>(chk a b c d q).bind fun e =>
  if al=true∧rd.all (fun f=>!c.contains f && (get d f).isSome)=true then some ((p,rd,true)::e)
  else if (a.getD b 0).testBit p=true then some ((p,rd,false)::e) else none
section
variable {R:Type}{B:Nat->Prop}{F:Lx}{w0:Bs}{wr:Wr}{pl pl':List Place}{S S':St}{l l':List Value}{ls:List (List Value)}{w w':World}{L L' M:Lx}{P:Program}{d:Option Tmp}{ty:TypeId}{pos:String}{af:Array Edge}{gd:Option (Nat×Bool)}
 {Q:Exit->Act->World->Prop} {KK:List Value->World->Prop} {K:St->SV->Option R} {r:R}
structure Asks(F:Lx) (pl:List Place) (own:List (Nat×Ent)) (w:World) (rd:List Nat) (Y:World->Prop):Prop where
 out:∃(plp:List Place) (Lp:Lx) (wp:World),(∀w',Y w'↔(Fz Lp wp w'∧∀i∈rd,∀k,plb plp i=some k->w'.heap[k]? = wp.heap[k]?))∧Y w∧Sub wp (lx pl own++F) Lp∧(∀(i:Nat) (p:Place),plp[i]? = some p->pl[i]? = some p)
def TOk(a:Lx)(c:List Place)(b:List (Nat×Ent))(d:World):Tl->Tk->Prop
 | [],T=>T=[]
 | (p,rd,al)::q,T=>∃Y r,T=(p,Y)::r∧(al=true->Asks a c b d rd Y)∧TOk a c b d q r
theorem Ot{opl:List Oper}{ds:List Nat}(hds:y8 opl.toArray ds){i:Nat}{pl1 pl2:List Place}{S1 S2:St}{l1 l2:List Value}{ls1 ls2:List (List Value)}{w1 w2:World}(h1:Rel B F w0 wr pl1 S1 l1 ls1 w1)(h2:Rel B F w0 (here F pl1 S1 w1) pl2 S2 l2 ls2 w2) :
  ∀{T T':Tl} {Tk:Tk},chk ds i S2.log S2.own T=some T'->TOk F pl1 S1.own w1 T Tk->TOk F pl2 S2.own w2 T' Tk∧ST opl.toArray Tk i w2
 | [],T',Tk,h,ht=>by cases h;cases ht;exact⟨rfl,fun x hx=>by cases hx⟩
 | (p,rd,al)::q,T',Tk,h,⟨Y,r,hT,ha,hr⟩=>by
  subst hT;obtain⟨q',hq,h⟩:=bK h;obtain⟨i1,i2⟩:=Ot hds h1 h2 hq hr
  have dead:(ds.getD i 0).testBit p=true->Dep opl.toArray i p:=fun hb=>by
   rw[zS]at hb
   cases hd:ds[i]? with
   | none=>simp_all
   | some m=>rw[hd]at hb;exact hds i m p hd hb
  split at h
  ·rename_i hcond
   cases h
   obtain⟨plp,Lp,wp,k1,k2,k3,k4⟩:=(ha hcond.1).out;have k2':=(k1 w1).1 k2;have hsz:=k2'.1.size;have hf:=h2.tn.fz
   have hY:Y w2:=by
    refine (k1 w2).2 ⟨⟨hf.os.trans k2'.1.os,hf.tape.trans k2'.1.tape,hf.output.trans k2'.1.output,Nat.le_trans hsz hf.size,fun k hk hn=>?_⟩,fun x hx k hk=>?_⟩
    ·rw[hf.block k (Nat.lt_of_lt_of_le hk hsz) (fun hm=>?_)]
     ·exact k2'.1.block k hk hn
     ·rcases k3 k hm with h3 | h3
      ·grind
      ·omega
    ·have hall:=List.all_eq_true.1 hcond.2 x hx
     simp only[zL,Bool.not_eq_true',Option.isSome_iff_exists]at hall;obtain⟨hnl,e,hg⟩:=hall;have hpl1:plb pl1 x=some k:=Rz k4 hk;have hlt:x<S1.nx:=by unfold plb at hpl1;obtain⟨pp,hp1,_⟩:=Option.bind_eq_some_iff.1 hpl1;rw[h1.nx];grind
     rw[h2.tn.keep (x,e) (get_mem hg) hlt (by simp_all) k (Rz h2.tn.pls hpl1)];exact k2'.2 x hx k hk
   refine⟨⟨Y,r,rfl,fun _=>⟨plp,Lp,wp,k1,hY,fun k hk=>?_,fun j p hj=>h2.tn.pls j p (k4 j p hj)⟩,i1⟩,fun x hx=>?_⟩
   ·rcases h2.tn.sb k hk with h3 | h3
    ·exact k3 k h3
    ·exact .inr (Nat.le_trans hsz h3)
   ·rcases List.mem_cons.1 hx with hx | hx
    ·subst hx;grind
    ·exact i2 x hx
  ·split at h
   ·rename_i hb
    cases h
    refine⟨⟨Y,r,rfl,fun h=>(by cases h),i1⟩,fun x hx=>?_⟩;rcases List.mem_cons.1 hx with hx | hx
    ·simp_all
    ·exact i2 x hx
   grind
theorem TOk.same:∀{T:Tl} {Tk:Tk} {own own':List (Nat×Ent)},TOk F pl own w T Tk->lx pl own'=lx pl own->TOk F pl own' w T Tk
 | [],_,_,_,h,_=>h
 | (p,rd,al)::q,_,own,own',⟨Y,r,hT,ha,hr⟩,he=>⟨Y,r,hT,fun hal=>by
   obtain⟨plp,Lp,wp,h1,h2,h3,h4⟩:=(ha hal).out
   exact⟨plp,Lp,wp,h1,h2,by simp_all,h4⟩,TOk.same hr he⟩
def rdw(P:Program)(env:Env)(cl:Cl R)(ops:List Oper)(ds:List Nat):List (Nat×Bool×Oper)->Tl->St->(St->Option R)->Option R
 | [],_,S,k=>k S
 | (i,true,o)::q,T,S,k=>grd ops S o (fun S1=>qv2 P S1 o.op fun s rd=>mY S1 o.dst s fun S3=>rdw P env cl ops ds q ((i,rd,true)::T) S3 k)
   (fun S1=>mY S1 o.dst (.k undef) fun S3=>rdw P env cl ops ds q ((i,[],true)::T) S3 k)
 | (i,false,o)::q,T,S,k=>grd ops S o (fun S1=>opL P env cl { S1 with log:=[] } o.op o.type fun S2 s=>match chk ds i S2.log S2.own T with
    | some T'=>mY { S2 with log:=S1.log++S2.log } o.dst s fun S3=>rdw P env cl ops ds q T' S3 k
    | none=>none)
   (fun S1=>mY S1 o.dst (.k undef) fun S3=>rdw P env cl ops ds q T S3 k)
theorem kZ(h:Rel B F w0 wr pl S l ls w){d:Option Tmp}{s:SV}{v:Value}(hd:Den pl (lx pl S.own++F) w s v){k:St->Option R}(hv:mY S d s k=some r):∃S',Rel B F w0 wr pl S' (st l d v) ls w∧k S'=some r∧S'.own=S.own:=by
 unfold mY at hv;split at hv
 ·exact⟨S,h,hv,rfl⟩
 ·split at hv
  ·rename_i t ht
   exact⟨_,h.set ht hd,hv,rfl⟩
  grind
theorem Ca{env:Env}{cl:Cl R}(henv:iK P w0.I env)(hcl:Ak P w0.I cl){ops:List Oper}{ds:List Nat}(hds:y8 ops.toArray ds):∀{q:List (Nat×Bool×Oper)} {T:Tl} {Tk:Tk} {pl:List Place} {S:St} {l:List Value} {w:World} {k:St->Option R},
  Rel B F w0 wr pl S l ls w->TOk F pl S.own w T Tk->rdw P env cl ops ds q T S k=some r ->
  (∀pl' S' l' w',Rel B F w0 wr pl' S' l' ls w'->k S'=some r->Q .normal (mk l') w')->WY P ops.toArray Q q Tk l w
 | [],T,Tk,pl,S,l,w,k,h,ht,hv,hk=>hk _ _ _ _ h hv
 | (i,true,o)::q,T,Tk,pl,S,l,w,k,h,ht,hv,hk=>by
  unfold rdw at hv;obtain⟨S1,h1,_,e2,_,h2⟩:=B6 h hv;have ht1:TOk F pl S1.own w T Tk:=ht.same (by rw[e2]);rcases h2 with ⟨hw,hv⟩ | ⟨hw,hv⟩
  ·obtain⟨d,op,ty,pos,af,gd⟩:=o
   obtain⟨s,rd,hv,v,hd,hy⟩:=GM (d:=d) (ty:=ty) (pos:=pos) (af:=af) (gd:=gd) h1.fr h1.ent hv;obtain⟨S3,b1,b2,b3⟩:=kZ h1 hd hv;refine⟨v,fun w'=>Fz (lx pl S1.own++F) w w'∧∀x∈rd,∀k,plb pl x=some k->w'.heap[k]? = w.heap[k]?,.inl ⟨hw,fun w' hY=>by rw[jk];exact hy w' hY.1 hY.2⟩,⟨Fz.refl _ _,fun _ _ _ _=>rfl⟩,?_⟩;refine Ca (T:=(i,rd,true)::T) henv hcl hds b1 ⟨_,_,rfl,fun _=>⟨pl,lx pl S1.own++F,w,fun w'=>Iff.rfl,⟨Fz.refl _ _,fun _ _ _ _=>rfl⟩,by rw[b3];exact Sub.refl _ _,fun _ _ h=>h⟩,ht1.same (by rw[b3])⟩ b2 hk
  ·obtain⟨S3,b1,b2,b3⟩:=kZ (s:=.k undef) (v:=undef) h1 rfl hv
   refine⟨undef,fun w'=>Fz (lx pl S1.own++F) w w'∧∀x∈([]:List Nat),∀k,plb pl x=some k->w'.heap[k]? = w.heap[k]?,.inr ⟨hw,rfl⟩,⟨Fz.refl _ _,fun _ h=>by cases h⟩,?_⟩;refine Ca (T:=(i,[],true)::T) henv hcl hds b1 ⟨_,_,rfl,fun _=>⟨pl,lx pl S1.own++F,w,fun w'=>Iff.rfl,⟨Fz.refl _ _,fun _ h=>by cases h⟩,by rw[b3];exact Sub.refl _ _,fun _ _ h=>h⟩,ht1.same (by rw[b3])⟩ b2 hk
 | (i,false,o)::q,T,Tk,pl,S,l,w,k,h,ht,hv,hk=>by
  unfold rdw at hv;obtain⟨S1,h1,_,e2,_,h2⟩:=B6 h hv;have ht1:TOk F pl S1.own w T Tk:=ht.same (by rw[e2]);rcases h2 with ⟨hw,hv⟩ | ⟨hw,hv⟩
  ·obtain⟨d,op,ty,pos,af,gd⟩:=o
   show if wtd ops.toArray _ l=true then _ else _;rw[if_pos hw];refine Om henv hcl h1.base hv (fun pl' S' s v w' a1 a2 a3 a4=>?_);split at a4
   ·rename_i T' hT'
    have hb:=h1.back a1;obtain⟨t1,t2⟩:=Ot hds h1 a1 hT' ht1;obtain⟨S3,b1,b2,b3⟩:=kZ hb a3 a4;exact⟨t2,Ca henv hcl hds b1 (t1.same (by rw[b3])) b2 hk⟩
   ·cases a4
  ·obtain⟨S3,b1,b2,b3⟩:=kZ (s:=.k undef) (v:=undef) h1 rfl hv
   show if wtd ops.toArray _ l=true then _ else _;rw[if_neg (by rw[hw];decide)];exact Ca henv hcl hds b1 (ht1.same (by rw[b3])) b2 hk
end
end Ev
end
noncomputable section
namespace Ev
open Go Go.RowKit Sx
inductive Sg where
 | nil
 | tk (i:Nat) (q:Sg)
 | alt (i:Nat) (q r:Sg)
 | stop
def Sg.sz:Sg->Nat
 | .nil=>1
 | .tk _ q=>q.sz+1
 | .alt _ q r=>q.sz+r.sz+1
 | .stop=>1
def Sg.isStop:Sg->Bool
 | .stop=>true
 | _=>false
def Sg.idx:Sg->List Nat
 | .alt i _ r=>i::r.idx
 | _=>[]
def qK(a:Array Oper):Bool->Sg->Array Bool->Bool
 | c,.nil,listed=>!c && (Region.ready .any a listed).isEmpty
 | c,.tk i q,listed=>!c && Region.free .any a listed i && (Region.ready .any a listed).contains i && decide (i<a.size) && qK a false q (listed.setIfInBounds i true)
 | c,.alt i q r,listed=>(c || ((Region.ready .any a listed).all (fun b=>(Sg.alt i q r).idx.contains b) && !(Region.ready .any a listed).isEmpty)) && decide (i<a.size) && qK a false q (listed.setIfInBounds i true) && qK a true r listed
 | c,.stop,_=>c
section
variable {P:Program}{ops:Array Oper}{Q:Exit->Act->World->Prop}
def abK(g:Program)(b:List Oper)(h:Exit->Act->World->Prop)(d:Nat)(i:Tk)(a:List Value)(e:World)(c:List Value->World->Prop):Prop :=
 ∃o,b[d]? = some o∧(if wtd b.toArray o a=true then OW g o a e (fun j f=>ST b.toArray i d f∧c j f) h else c (st a o.dst undef) e)
def WYT(b:Program)(a:List Oper)(c:Exit->Act->World->Prop):Sg->Tk->List Value->World->Prop
 | .nil,_,l,w=>c .normal (mk l) w
 | .tk i q,T,l,w=>∃o,a[i]? = some o∧∃v Y,YieldsIf b a.toArray Y o v (mk l)∧Y w∧WYT b a c q ((i,Y)::T) (st l o.dst v) w
 | .alt i q r,T,l,w=>abK b a c i T l w (fun d e=>WYT b a c q T d e)∧WYT b a c r T l w
 | .stop,_,_,_=>True
theorem R4{opl:List Oper}{T:Tk}{l:List Value}{w:World}{listed:Array Bool}:∀{s:Sg} {c:Bool},qK opl.toArray c s listed=true->WYT P opl Q s T l w->∀j∈s.idx,∃q:Sg,q.sz<s.sz∧qK opl.toArray false q (listed.setIfInBounds j true)=true∧abK P opl Q j T l w (fun l' w'=>WYT P opl Q q T l' w')
 | .alt i q r,c,hk,⟨h1,h2⟩,j,hj=>by
  simp only[qK,zL]at hk;rcases List.mem_cons.1 hj with rfl | hj
  ·exact⟨q,by simp[Sg.sz];omega,hk.1.2,h1⟩
  ·obtain⟨q',h3,h4,h5⟩:=R4 hk.2 h2 j hj
   exact⟨q',by simp[Sg.sz];omega,h4,h5⟩
 | .nil,_,_,_,j,hj=>by cases hj
 | .tk _ _,_,_,_,j,hj=>by cases hj
 | .stop,_,_,_,j,hj=>by cases hj
theorem ahp{rd:Option Nat}{opl:List Oper}(hs:Region.noSelect opl.toArray=true)(hQ:∀c a a' w,Q (.panic c) a w->Q (.panic c) a' w) :
  ∀(n:Nat) (s:Sg) (fuel:Nat) (listed:Array Bool) (T:Tk) (l:List Value) (w:World),s.sz≤n->qK opl.toArray false s listed=true->(listed.toList.filter (fun b=>!b)).length≤fuel->listed.size=opl.length->Closed opl.toArray listed ->
   WYT P opl Q s T l w->wpAnyG rd P opl.toArray Q (ST opl.toArray T) fuel listed (mk l) w:=by
 have dec:∀{listed:Array Bool} {i:Nat},listed.size=opl.length->i∈Region.ready .any opl.toArray listed->i<opl.length->((listed.setIfInBounds i true).toList.filter (fun b=>!b)).length+1≤(listed.toList.filter (fun b=>!b)).length:=by
  intro listed i hsz hi hlt;have hun:=(mem_ready.1 hi).1;obtain⟨L⟩:=listed;simp at hsz hun ⊢;have hil:i<L.length:=by omega
  have hg:L[i]? = some false:=by simp_all
  clear hun hi
  have:∀(L:List Bool) (i:Nat),L[i]? = some false->((L.set i true).filter (fun b=>!b)).length+1≤(L.filter (fun b=>!b)).length:=by
   intro L
   induction L with
   | nil=>simp
   | cons a L ih =>
    intro i h
    cases i with
    | zero=>simp_all
    | succ i =>
     grind
  simp_all
 intro n
 induction n with
 | zero=>intro s _ _ _ _ _ h;cases s<;>simp[Sg.sz]at h
 | succ n ih =>
  intro s fuel listed T l w hn hB hf hsz hc h
  cases s with
  | stop=>grind[qK]
  | nil =>
   have hr:Region.ready .any opl.toArray listed=[]:=by simp_all[qK]
   cases fuel with
   | zero=>exact⟨hr,h⟩
   | succ m=>exact⟨fun _=>h,by simp_all⟩
  | tk i q =>
   simp only[qK,zL,decide_eq_true_eq]at hB;obtain⟨⟨⟨⟨_,h1⟩,h2⟩,h3⟩,h4⟩:=hB;obtain⟨o,ho,v,Y,hy,hY,hr⟩:=h;have hrd:i∈Region.ready .any opl.toArray listed:=by simp_all
   have hd:=dec hsz hrd (by omega)
   cases fuel with
   | zero=>omega
   | succ m =>
    refine BH (by simp_all) (Region.noSelect_spec hs) (fun c a w=>hQ c _ _ w) m listed (mk l) w hc (Region.free_spec (by simp_all) h1) hrd hy hY ?_;rw[nK];have:=ih q m _ ((i,Y)::T) _ w (by simp_all[Sg.sz]) h4 (by omega) (by simp_all) (hc.push hrd) hr;exact wpAnyG.weak (fun j w h=>⟨fun x hx=>h x (zO _ hx),h (i,Y) (List.mem_cons_self ..)⟩) _ _ _ _ this
  | alt i q r =>
   have hB0:=hB;simp only[qK,zL,decide_eq_true_eq,Bool.false_or]at hB;obtain⟨⟨⟨⟨hall,hne⟩,h3⟩,h4⟩,h5⟩:=hB;have hne':Region.ready .any opl.toArray listed ≠ []:=by simp_all
   have hfu:∃m,fuel=m+1:=by
    cases fuel with
    | zero =>
     grind[List.exists_mem_of_ne_nil,mem_ready,Array.getElem?_eq_some_iff]
    | succ m=>simp
   obtain⟨m,rfl⟩:=hfu;refine⟨fun h0=>absurd h0 hne',fun j hj=>?_⟩;have hji:j∈(Sg.alt i q r).idx:=by simp_all
   obtain⟨q',g1,g2,o,ho,g3⟩:=R4 hB0 h j hji;have hjl:j<opl.length:=(List.getElem?_eq_some_iff.1 ho).1;have hd:=dec hsz hj hjl;unfold wpOpIn;have ho':opl.toArray[j]? = some o:=by simp_all
   simp only[ho'];by_cases hw:wtd opl.toArray o l=true
   ·rw[if_pos hw]at g3
    unfold wtd at hw;rw[if_pos hw];refine Oper.wpIn_mono (fun a w' hk=>?_) (g3 rd);obtain⟨l',rfl,hS',hk⟩:=hk;exact⟨.inr hS',ih q' m _ T _ w' (by omega) g2 (by omega) (by simp_all) (hc.push hj) hk⟩
   ·rw[if_neg hw]at g3
    unfold wtd at hw;rw[if_neg hw,nK];exact⟨fun _ _=>trivial,by simp,ih q' m _ T _ w (by omega) g2 (by omega) (by simp_all) (hc.push hj) g3⟩
theorem IQ{id:Nat}{opl:List Oper}{l:List Value}{w:World}(s:Sg)(hm:P.follows .mixedOrders=true)
  (hB:(Region.noSelect opl.toArray && qK opl.toArray false s (Array.replicate opl.toArray.size false))=true)
  (hQ:∀c a a' w,Q (.panic c) a w->Q (.panic c) a' w)
  (h:WYT P opl Q s [] l w.drew):CW P (.region id opl.toArray true) Q l w:=by
 simp only[zL]at hB;obtain⟨h1,h2⟩:=hB;refine fun rd=>wpIn_region_any hm (zP _ _ _ _ (ahp h1 hQ _ s _ _ _ _ _ (Nat.le_refl _) h2 ?_ (by simp) (Closed.start _) h));simp
end
section
variable {R:Type}
def two(b:R->R->Bool)(c:Bool)(a d:Option R):Option R:=if c=true then a else amb b [a,d]
def rdt(P:Program)(env:Env)(cl:Cl R)(ops:List Oper)(ds:List Nat):Sg->Tl->St->(St->Option R)->Option R
 | .nil,_,S,k=>k S
 | .tk i q,T,S,k=>match ops[i]? with
  | none=>none
  | some o=>grd ops S o (fun S1=>qv2 P S1 o.op fun s rd=>mY S1 o.dst s fun S3=>rdt P env cl ops ds q ((i,rd,true)::T) S3 k)
   (fun S1=>mY S1 o.dst (.k undef) fun S3=>rdt P env cl ops ds q ((i,[],true)::T) S3 k)
 | .alt i q r,T,S,k =>
  two cl.eq r.isStop (match ops[i]? with
   | none=>none
   | some o=>grd ops S o (fun S1=>opL P env cl { S1 with log:=[] } o.op o.type fun S2 s=>match chk ds i S2.log S2.own T with
     | some T'=>mY { S2 with log:=S1.log++S2.log } o.dst s fun S3=>rdt P env cl ops ds q T' S3 k
     | none=>none)
    (fun S1=>mY S1 o.dst (.k undef) fun S3=>rdt P env cl ops ds q T S3 k)) (rdt P env cl ops ds r T S k)
 | .stop,_,_,_=>none
end
section
variable {R:Type}{B:Nat->Prop}{F:Lx}{w0:Bs}{wr:Wr}{ls:List (List Value)}{P:Program}{Q:Exit->Act->World->Prop}{r:R}
theorem y9{env:Env}{cl:Cl R}(henv:iK P w0.I env)(hcl:Ak P w0.I cl){ops:List Oper}{ds:List Nat}(hds:y8 ops.toArray ds):∀{s:Sg} {T:Tl} {Tk:Tk} {pl:List Place} {S:St} {l:List Value} {w:World} {k:St->Option R},
  Rel B F w0 wr pl S l ls w->TOk F pl S.own w T Tk->rdt P env cl ops ds s T S k=some r ->
  (∀pl' S' l' w',Rel B F w0 wr pl' S' l' ls w'->k S'=some r->Q .normal (mk l') w')->WYT P ops Q s Tk l w
 | .nil,T,Tk,pl,S,l,w,k,h,ht,hv,hk=>hk _ _ _ _ h hv
 | .stop,T,Tk,pl,S,l,w,k,h,ht,hv,hk=>trivial
 | .tk i q,T,Tk,pl,S,l,w,k,h,ht,hv,hk=>by
  unfold rdt at hv;split at hv
  ·cases hv
  ·rename_i o ho
   obtain⟨S1,h1,_,e2,_,h2⟩:=B6 h hv;have ht1:TOk F pl S1.own w T Tk:=ht.same (by rw[e2]);refine⟨o,ho,?_⟩;rcases h2 with ⟨hw,hv⟩ | ⟨hw,hv⟩
   ·obtain⟨d,op,ty,pos,af,gd⟩:=o
    obtain⟨s,rd,hv,v,hd,hy⟩:=GM (d:=d) (ty:=ty) (pos:=pos) (af:=af) (gd:=gd) h1.fr h1.ent hv;obtain⟨S3,b1,b2,b3⟩:=kZ h1 hd hv;refine⟨v,fun w'=>Fz (lx pl S1.own++F) w w'∧∀x∈rd,∀k,plb pl x=some k->w'.heap[k]? = w.heap[k]?,.inl ⟨hw,fun w' hY=>by rw[jk];exact hy w' hY.1 hY.2⟩,⟨Fz.refl _ _,fun _ _ _ _=>rfl⟩,?_⟩;refine y9 (T:=(i,rd,true)::T) henv hcl hds b1 ⟨_,_,rfl,fun _=>⟨pl,lx pl S1.own++F,w,fun w'=>Iff.rfl,⟨Fz.refl _ _,fun _ _ _ _=>rfl⟩,by rw[b3];exact Sub.refl _ _,fun _ _ h=>h⟩,ht1.same (by rw[b3])⟩ b2 hk
   ·obtain⟨S3,b1,b2,b3⟩:=kZ (s:=.k undef) (v:=undef) h1 rfl hv
    refine⟨undef,fun w'=>Fz (lx pl S1.own++F) w w'∧∀x∈([]:List Nat),∀k,plb pl x=some k->w'.heap[k]? = w.heap[k]?,.inr ⟨hw,rfl⟩,⟨Fz.refl _ _,fun _ h=>by cases h⟩,?_⟩;refine y9 (T:=(i,[],true)::T) henv hcl hds b1 ⟨_,_,rfl,fun _=>⟨pl,lx pl S1.own++F,w,fun w'=>Iff.rfl,⟨Fz.refl _ _,fun _ h=>by cases h⟩,by rw[b3];exact Sub.refl _ _,fun _ _ h=>h⟩,ht1.same (by rw[b3])⟩ b2 hk
 | .alt i q rr,T,Tk,pl,S,l,w,k,h,ht,hv,hk=>by
  have one:∀{x:Option R},x=(match ops[i]? with
   | none=>none
   | some o=>grd ops S o (fun S1=>opL P env cl { S1 with log:=[] } o.op o.type fun S2 s=>match chk ds i S2.log S2.own T with
     | some T'=>mY { S2 with log:=S1.log++S2.log } o.dst s fun S3=>rdt P env cl ops ds q T' S3 k
     | none=>none)
    (fun S1=>mY S1 o.dst (.k undef) fun S3=>rdt P env cl ops ds q T S3 k))->x=some r->abK P ops Q i Tk l w (fun l' w'=>WYT P ops Q q Tk l' w'):=fun {x} hx hv=>by
   rw[hx]at hv;split at hv
   ·cases hv
   ·rename_i o ho
    refine⟨o,ho,?_⟩;obtain⟨S1,h1,_,e2,_,h2⟩:=B6 h hv;have ht1:TOk F pl S1.own w T Tk:=ht.same (by rw[e2]);rcases h2 with ⟨hw,hv⟩ | ⟨hw,hv⟩
    ·obtain⟨d,op,ty,pos,af,gd⟩:=o
     rw[if_pos hw];refine Om henv hcl h1.base hv (fun pl' S' s v w' a1 a2 a3 a4=>?_);split at a4
     ·rename_i T' hT'
      have hb:=h1.back a1;obtain⟨t1,t2⟩:=Ot hds h1 a1 hT' ht1;obtain⟨S3,b1,b2,b3⟩:=kZ hb a3 a4;exact⟨t2,y9 henv hcl hds b1 (t1.same (by rw[b3])) b2 hk⟩
     ·cases a4
    ·obtain⟨S3,b1,b2,b3⟩:=kZ (s:=.k undef) (v:=undef) h1 rfl hv
     rw[if_neg (by rw[hw];decide)];exact y9 henv hcl hds b1 (ht1.same (by rw[b3])) b2 hk
  unfold rdt two at hv;split at hv
  ·rename_i hst
   have hst:rr = .stop:=by cases rr<;>simp[Sg.isStop]at hst ⊢
   subst hst;exact⟨one rfl hv,trivial⟩
  ·have:=GH hcl.1 hv
   exact⟨one rfl (this _ (by simp)),y9 henv hcl hds h ht (this _ (by simp)) hk⟩
end
end Ev
end
noncomputable section
namespace Ev
open Go Go.RowKit Sx
def idF:Fr->List Nat
 | []=>[]
 | (_,s)::q=>idS s++idF q
def Av(fr:Fr):List Nat->Fr
 | []=>[]
 | t::q=>match get fr t with
  | some s=>(t,s)::Av fr q
  | none=>Av fr q
def reach(own:List (Nat×Ent)):Nat->List Nat->List Nat->List Nat
 | 0,_,d=>d
 | _,[],d=>d
 | n+1,i::q,d=>if d.contains i then reach own n q d else match get own i with
  | some e=>reach own n (idE e++q) (d++[i])
  | none=>reach own n q d
def pos:List Nat->Nat->Nat
 | [],_=>0
 | j::q,i=>if j=i then 0 else pos q i+1
def okF(a:List Nat):Fr->Fr
 | []=>[]
 | (t,s)::q=>if (idS s).all (fun b=>a.contains b)=true then (t,s)::okF a q else okF a q
def Ou(f:Nat->Nat):Fr->Fr
 | []=>[]
 | (t,s)::q=>(t,iY f s)::Ou f q
def UJ(own:List (Nat×Ent))(f:Nat->Nat)(all:List Nat):List Nat->Option (List (Nat×Ent))
 | []=>some []
 | i::q=>match get own i with
  | some e=>if (idE e).all (fun j=>all.contains j)=true then (UJ own f all q).map fun r=>(f i,Ii f e)::r else none
  | none=>none
inductive Co where
 | row (t:Nat) (e:TypeId)
 | frz (t:Nat)
 | unl (t:Nat)
 | frb (t:Nat)
 | agd (t:Nat) (ty:Ty)
 | rwb (t j:Nat) (e:TypeId)
 | slf (t j:Nat)
 | opn (t:Nat) (c:List (Nat×TypeId))
 | opc (t j:Nat) (c:List (Nat×TypeId))
 | quw (t j:Nat) (e:TypeId)
structure Hint where
 co:List Co
 keep:List Nat
def DL:Ty->List Ty
 | .pr a b=>DL a++DL b
 | .wr a=>DL a
 | .un=>[]
 | t=>[t]
def dcl:SV->Ty->SV
 | .k (.slice none 0 0),.sl t=>.d (.sl t) []
 | s,_=>s
def UK:List SV->List Ty->List SV
 | s::q,t::r=>dcl s t::UK q r
 | q,_=>q
def vF:List Nat->St->St
 | [],S=>S
 | j::q,S=>match frz S j with
  | some S'=>vF q S'
  | none=>vF q S
def UL(P:Program)(t:Nat)(S:St):St:=match get S.fr t with
 | some (.pb i _)=>match get S.own i with
  | some (.box _ cs)=>let S1:=vF (pF cs) S
   match get S1.own i with
   | some (.box T cs1)=>match tyc P T with
    | some y=>{ S1 with own:=dP i (.box T (UK cs1 (DL y))) S1.own,log:=i::S1.log }
    | none=>S1
   | _=>S1
  | _=>S
 | _=>S
def UM(t:Nat)(ty:Ty)(S:St):St:=match get S.fr t with
 | some s=>match toD ty s with
  | some x=>if t<S.nt then { S with fr:=(t,.d ty x)::S.fr } else S
  | none=>S
 | none=>S
def UN(P:Program)(t j:Nat)(e:TypeId)(S:St):St:=match get S.fr t,iD P e with
 | some (.pb i _),some ⟨t0,_⟩=>match get ((S.nx,Ent.row t0 e [])::S.own) i with
  | some (.box T cs)=>match cs[j]? with
   | some (.k (.slice none 0 0))=>{ S with own:=dP i (.box T (cs.set j (.row S.nx))) ((S.nx,.row t0 e [])::S.own),nx:=S.nx+1,log:=i::S.log }
   | _=>S
  | _=>S
 | _,_=>S
def UO(P:Program)(t j:Nat)(e:TypeId)(S:St):St:=match get S.fr t,iD P e with
 | some (.pb i _),some ⟨t0,_⟩=>match get ((S.nx,Ent.que t0 e [])::S.own) i with
  | some (.box T cs)=>match cs[j]? with
   | some (.k (.slice none 0 0))=>{ S with own:=dP i (.box T (cs.set j (.row S.nx))) ((S.nx,.que t0 e [])::S.own),nx:=S.nx+1,log:=i::S.log }
   | some (.row k)=>match get S.own k with
    | some (.row t1 e1 xs)=>{ S with own:=dP k (.que t1 e1 xs) S.own,log:=k::S.log }
    | some (.que t1 e1 xs)=>if k<S.ln then match get (jK k S.nx (.que t1 e1 xs) S.own) i with
      | some (.box T cs)=>match cs[j]? with
       | some (.row k')=>if k'=k then { S with own:=dP i (.box T (cs.set j (.row S.nx))) (jK k S.nx (.que t1 e1 xs) S.own),nx:=S.nx+1,log:=i::k::S.log } else S
       | _=>S
      | _=>S
     else S
    | _=>S
   | _=>S
  | _=>S
 | _,_=>S
def UQ(t j:Nat)(S:St):St:=match get S.fr t with
 | some (.pb i _)=>match get S.own i with
  | some (.box T cs)=>match cs[j]? with
   | some (.k (.pointer none))=>{ S with own:=dP i (.box T (cs.set j (.opb false i 0))) S.own,log:=i::S.log }
   | some (.pb i' o')=>{ S with own:=dP i (.box T (cs.set j (.opb true i' o'))) S.own,log:=i::S.log }
   | _=>S
  | _=>S
 | _=>S
def abL(c:List (Nat×TypeId)):Nat->List Ty->List SV
 | _,[]=>[]
 | n,t::q=>(match get c n with
  | some _=>.k (.slice none 0 0)
  | none=>.d t (dfl t))::abL c (n+1) q
def IU(P:Program)(i:Nat):List (Nat×TypeId)->St->St
 | [],S=>S
 | (j,e)::q,S=>IU P i q (match iD P e with
  | some ⟨t0,_⟩=>match get ((S.nx,Ent.row t0 e [])::S.own) i with
   | some (.rowo t e0 b xs cs)=>match cs[j]? with
    | some (.k (.slice none 0 0))=>{ S with own:=dP i (.rowo t e0 b xs (cs.set j (.row S.nx))) ((S.nx,.row t0 e [])::S.own),nx:=S.nx+1,log:=i::S.log }
    | _=>S
   | _=>S
  | none=>S)
def Ov(P:Program)(i:Nat)(c:List (Nat×TypeId))(S:St):St:=match get S.own i with
 | some (.row t e xs)=>IU P i c { S with own:=dP i (.rowo t e false xs (abL c 0 (DL t))) S.own,log:=i::S.log }
 | some (.rowo _ _ _ _ _)=>IU P i c S
 | _=>S
def UR(P:Program)(t:Nat)(c:List (Nat×TypeId))(S:St):St:=match get S.fr t with
 | some (.row i)=>Ov P i c S
 | _=>S
def US(P:Program)(t j:Nat)(c:List (Nat×TypeId))(S:St):St:=match get S.fr t with
 | some (.pb b _)=>match get S.own b with
  | some (.box _ cs)=>match cs[j]? with
   | some (.row i)=>Ov P i c S
   | _=>S
  | _=>S
 | _=>S
def fB(P:Program):List Co->St->St
 | [],S=>S
 | .row t e::q,S=>match get S.fr t,iD P e with
  | some (.k (.slice none 0 0)),some ⟨t0,_⟩=>if t<S.nt then fB P q { S with own:=(S.nx,.row t0 e [])::S.own,nx:=S.nx+1,fr:=(t,.row S.nx)::S.fr } else fB P q S
  | _,_=>fB P q S
 | .frz t::q,S=>match get S.fr t with
  | some (.row i)=>match frz S i with
   | some S'=>fB P q S'
   | none=>fB P q S
  | some (.k (.slice none 0 0))=>fB P q S
  | _=>fB P q S
 | .unl t::q,S=>match get S.fr t with
  | some (.row i)=>match get S.own i with
   | some (.row t0 e xs)=>if i<S.ln∧t<S.nt then fB P q { S with own:=jK i S.nx (.row t0 e xs) S.own,nx:=S.nx+1,log:=i::S.log,fr:=(t,.row S.nx)::S.fr } else fB P q S
   | _=>fB P q S
  | _=>fB P q S
 | .frb t::q,S=>fB P q (UL P t S)
 | .agd t ty::q,S=>fB P q (UM t ty S)
 | .rwb t j e::q,S=>fB P q (UN P t j e S)
 | .slf t j::q,S=>fB P q (UQ t j S)
 | .opn t c::q,S=>fB P q (UR P t c S)
 | .opc t j c::q,S=>fB P q (US P t j c S)
 | .quw t j e::q,S=>fB P q (UO P t j e S)
def MI(n:Nat):List (Nat×Ent)->List Nat
 | []=>[]
 | (i,_)::q=>if i<n then i::MI n q else MI n q
def vG(n:Nat):List Nat->List Nat
 | []=>[]
 | i::q=>if i<n then vG n q else i::vG n q
def nmb(b:Nat)(c:List Nat)(a:Nat):Nat:=if a<b then a else b+pos (vG b c) a
def nrm(P:Program)(h:Hint)(S0:St):Option St :=
 match S0.up with
 | [] =>
  let S:=fB P h.co S0
  let fr:=Av S.fr h.keep
  let ds:=reach S.own 1000 (MI S.ln S.own++idF fr) []
  if nodup ds=true then
   match UJ S.own (nmb S.ln ds) ds ds with
   | some own=>some { fr:=Ou (nmb S.ln ds) (okF ds fr),nt:=S.nt,up:=[],own:=own,nx:=S.ln+(vG S.ln ds).length,log:=[],ln:=S.ln }
   | none=>none
  else none
 | _=>none
section
variable {B:Nat->Prop}{F:Lx}{w0:Bs}{wr:Wr}{pl pl':List Place}{S S':St}{l l':List Value}{ls:List (List Value)}{w w':World}{L L' M:Lx}{P:Program}
theorem aiM(h:Rel B F w0 wr pl S l ls w){t i:Nat}{t0:Ty}{e:TypeId}{xs:List (Vl t0)}(hg:get S.fr t=some (.row i))(ho:get S.own i=some (.row t0 e xs))(hlt:t<S.nt) :
  ∃pl',Rel B F w0 wr pl' { S with own:=jK i S.nx (.row t0 e xs) S.own,nx:=S.nx+1,log:=i::S.log,fr:=(t,.row S.nx)::S.fr } l ls w:=by
 obtain⟨pre,post,h1,h2⟩:=qF ho;obtain⟨p,hp,how⟩:=h.ent (i,.row t0 e xs) (get_mem ho);have e0:blk p.a=plb pl i:=by simp_all[plb]
 have e3:lx pl S.own=lx pl pre++plb pl i::lx pl post:=by rw[h1,iq]
 have hL:=h.hL;have hs:Stp B (lx pl pre++plb pl i::lx pl post) (lx pl pre++blk p.a::lx pl post) F [plb pl i] w w:=by rw[e0,<- e3];exact⟨(Fz.refl _ _),fun k hk=>by simp_all,Sub.refl _ _,hL⟩
 have h3:=h.rep h1 h2 hs (e':=.row t0 e xs) ⟨p,gJ _,by simp_all⟩;obtain⟨p',hp',hv⟩:=h.fr t _ hg;rw[hp]at hp';cases hp';have h4:=h3.set (d:=t) (s:=.row S.nx) (v:=.slice p.a p.n p.c) hlt ⟨p,by rw[h.nx];simp,rfl⟩
 have e1:l.set t (.slice p.a p.n p.c)=l:=by
  have:t<l.length:=by rw[h.nt];omega
  rw[<- hv,zS,zQ this];simp
 grind
theorem Ox{L:Lx}:∀{cs:List SV} {ts:List Ty} {us:List Value},DenL pl L w cs us->DenL pl L w (UK cs ts) us
 | [],ts,us,h=>by cases ts<;>exact h
 | s::q,[],us,h=>h
 | s::q,t::r,us,⟨v,vs,h1,h2,h3⟩=>by
  refine⟨v,vs,h1,?_,Ox h3⟩;unfold dcl;split
  ·cases h2
   exact uq (t:=.sl _) rfl (qW _ _ _ _ _)
  omega
theorem Cb:∀{q:List Nat} {S:St},Rel B F w0 wr pl S l ls w->Rel B F w0 wr pl (vF q S) l ls w∧(vF q S).nt=S.nt
 | [],S,h=>⟨h,rfl⟩
 | j::q,S,h=>by
  unfold vF;split
  ·rename_i S' hf
   obtain⟨a,b⟩:=Cb (q:=q) (Nk h hf);exact⟨a,by rw[b,Nl hf]⟩
  ·exact Cb h
theorem ahq(h:Rel B F w0 wr pl S l ls w){t:Nat}:Rel B F w0 wr pl (UL P t S) l ls w∧(UL P t S).nt=S.nt:=by
 unfold UL;split
 ·rename_i i o hg
  split
  ·rename_i T0 cs ho
   obtain⟨a,b⟩:=Cb (q:=pF cs) h;dsimp only;split
   ·rename_i T cs1 ho1
    split
    ·rename_i y hy
     have he:=a.ent (i,.box T cs1) (get_mem ho1);obtain⟨g,n,c,us,h1,h2,h3,h4⟩:=he;have hmem:∀k,some k ∈ [plb pl i]->some k∈lx pl (vF (pF cs) S).own:=fun k hk=>by simp at hk;rw[hk];exact List.mem_map_of_mem (f:=fun e:Nat×Ent=>plb pl e.1) (get_mem ho1)
     exact⟨a.mod ho1 ⟨Fz.refl _ _,hmem,Sub.refl _ _,a.hL⟩ ⟨g,n,c,us,h1,h2,Ox h3,h4⟩,b⟩
    simp_all
   simp_all
  simp_all
 simp_all
theorem ahr(h:Rel B F w0 wr pl S l ls w){t:Nat}{ty:Ty}:Rel B F w0 wr pl (UM t ty S) l ls w∧(UM t ty S).nt=S.nt:=by
 unfold UM;split
 ·rename_i s hg
  split
  ·rename_i x hx
   split
   ·rename_i hlt
    obtain⟨cs,h1,h2⟩:=jo hx (h.fr t s hg);have h3:=h.set (d:=t) (s:=.d ty x) (v:=l.getD t undef) hlt ⟨cs,h1,h2⟩
    have e1:l.set t (l.getD t undef)=l:=by
     have:t<l.length:=by rw[h.nt];omega
     rw[zS,zQ this];simp
    simp_all
   simp_all
  simp_all
 simp_all
theorem ahs(h:Rel B F w0 wr pl S l ls w){t j:Nat}:Rel B F w0 wr pl (UQ t j S) l ls w∧(UQ t j S).nt=S.nt:=by
 unfold UQ;split
 ·rename_i i o hg
  split
  ·rename_i T cs ho
   have hmem:∀k,some k ∈ [plb pl i]->some k∈lx pl S.own:=fun k hk=>by simp only[List.mem_singleton]at hk;rw[hk];exact List.mem_map_of_mem (f:=fun e:Nat×Ent=>plb pl e.1) (get_mem ho)
   obtain⟨g,n,c,us,h1,h2,h3,h4⟩:=h.ent (i,.box T cs) (get_mem ho);split
   ·rename_i hc
    obtain⟨u,q1,q2⟩:=h3.at hc;have q2:u = .pointer none:=q2;subst q2;exact⟨h.mod (e':=.box T (cs.set j (.opb false i 0))) ho ⟨Fz.refl _ _,hmem,Sub.refl _ _,h.hL⟩ ⟨g,n,c,us,h1,h2,h3.setv q1 (s:=.opb false i 0) ⟨(fun e=>nomatch e),fun _=>rfl⟩,h4⟩,rfl⟩
   ·rename_i i' o' hc
    obtain⟨u,q1,q2⟩:=h3.at hc;exact⟨h.mod (e':=.box T (cs.set j (.opb true i' o'))) ho ⟨Fz.refl _ _,hmem,Sub.refl _ _,h.hL⟩ ⟨g,n,c,us,h1,h2,h3.setv q1 (s:=.opb true i' o') ⟨fun _=>q2,(fun e=>nomatch e)⟩,h4⟩,rfl⟩
   simp_all
  simp_all
 simp_all
theorem aht(h:Rel B F w0 wr pl S l ls w){t j:Nat}{e:TypeId}:∃pl',Rel B F w0 wr pl' (UN P t j e S) l ls w∧(UN P t j e S).nt=S.nt:=by
 unfold UN;split
 ·rename_i i o t0 z hg hr
  split
  ·rename_i T cs ho
   split
   ·rename_i hc
    have hS:Stp B (lx pl S.own) (blk (none:Option Addr)::lx pl S.own) F [] w w:=Stp.none h.hL rfl;have a:=h.push ⟨none,0,0⟩ (.row t0 e []) hS ⟨_,gJ _,Ow.nil _ _ _ _⟩;have ho':get ({ S with own:=(S.nx,Ent.row t0 e [])::S.own,nx:=S.nx+1 }:St).own i=some (.box T cs):=ho;obtain⟨g,n,c,us,h1,h2,h3,h4⟩:=a.ent (i,.box T cs) (get_mem ho');obtain⟨u,q1,q2⟩:=h3.at hc;have q2:u = .slice none 0 0:=q2;subst q2;have hmem:∀k,some k ∈ [plb (pl++[⟨none,0,0⟩]) i]->some k∈lx (pl++[⟨none,0,0⟩]) ({ S with own:=(S.nx,Ent.row t0 e [])::S.own,nx:=S.nx+1 }:St).own:=fun k hk=>by simp only[List.mem_singleton]at hk;rw[hk];exact List.mem_map_of_mem (f:=fun e:Nat×Ent=>plb (pl++[⟨none,0,0⟩]) e.1) (get_mem ho')
    have m:=a.mod (e':=.box T (cs.set j (.row S.nx))) ho' ⟨Fz.refl _ _,hmem,Sub.refl _ _,a.hL⟩ ⟨g,n,c,us,h1,h2,h3.setv q1 (s:=.row S.nx) ⟨⟨none,0,0⟩,by rw[h.nx];simp,rfl⟩,h4⟩;grind
   grind
  grind
 grind
theorem ahu(h:Rel B F w0 wr pl S l ls w){t j:Nat}{e:TypeId}:∃pl',Rel B F w0 wr pl' (UO P t j e S) l ls w∧(UO P t j e S).nt=S.nt:=by
 unfold UO;split
 ·rename_i i o t0 z hg hr
  split
  ·rename_i T cs ho
   split
   ·rename_i hc
    have hS:Stp B (lx pl S.own) (blk (none:Option Addr)::lx pl S.own) F [] w w:=Stp.none h.hL rfl;have a:=h.push ⟨none,0,0⟩ (.que t0 e []) hS ⟨_,gJ _,Oq.of_ow (Ow.nil _ _ _ _)⟩;have ho':get ({ S with own:=(S.nx,Ent.que t0 e [])::S.own,nx:=S.nx+1 }:St).own i=some (.box T cs):=ho;obtain⟨g,n,c,us,h1,h2,h3,h4⟩:=a.ent (i,.box T cs) (get_mem ho');obtain⟨u,q1,q2⟩:=h3.at hc;have q2:u = .slice none 0 0:=q2;subst q2;have m:=a.told (e':=.box T (cs.set j (.row S.nx))) ho' ⟨g,n,c,us,h1,h2,h3.setv q1 (s:=.row S.nx) ⟨⟨none,0,0⟩,by rw[h.nx];simp,rfl⟩,h4⟩;exact⟨_,m,rfl⟩
   ·split
    ·rename_i k _ t1 e1 xs hk
     obtain⟨p,h1,h2⟩:=h.ent _ (get_mem hk);exact⟨_,h.told hk (e':=.que t1 e1 xs) ⟨p,h1,Oq.of_ow h2⟩,rfl⟩
    ·rename_i k _ t1 e1 xs hk
     split
     ·split
      ·rename_i T1 cs1 ho1
       split
       ·rename_i k' hc1
        split
        ·rename_i e
         subst e;obtain⟨p,hp,hO⟩:=h.ent _ (get_mem hk);obtain⟨pre,post,h1,h2⟩:=qF hk;have e0:blk p.a=plb pl k':=by simp_all[plb]
         have e3:lx pl S.own=lx pl pre++plb pl k'::lx pl post:=by rw[h1,iq]
         have hL:=h.hL;have hs:Stp B (lx pl pre++plb pl k'::lx pl post) (lx pl pre++blk p.a::lx pl post) F [plb pl k'] w w:=by rw[e0,<- e3];exact⟨(Fz.refl _ _),fun k hk=>by simp_all,Sub.refl _ _,hL⟩
         have h3:=h.rep h1 h2 hs (p:=p) (e':=.que t1 e1 xs) ⟨p,gJ _,by
          rw[e0,<- e3]
          exact hO⟩
         obtain⟨g,n,c,us,q1,q2,q3,q4⟩:=h3.ent (i,.box T1 cs1) (get_mem ho1);obtain⟨u,r1,p',r2,r3⟩:=q3.at hc1;rw[gZ p _ _ hp]at r2;cases r2;exact⟨_,h3.told ho1 (e':=.box T1 (cs1.set j (.row S.nx))) ⟨g,n,c,us,q1,q2,q3.setv r1 (s:=.row S.nx) ⟨p,by rw[h.nx];exact gJ _,r3⟩,q4⟩,rfl⟩
        ·exact⟨_,h,rfl⟩
       ·exact⟨_,h,rfl⟩
      ·exact⟨_,h,rfl⟩
     ·exact⟨_,h,rfl⟩
    ·exact⟨_,h,rfl⟩
   ·exact⟨_,h,rfl⟩
  ·exact⟨_,h,rfl⟩
 ·exact⟨_,h,rfl⟩
theorem uS:∀{c:List (Nat×TypeId)} {pl:List Place} {S:St} {i:Nat},Rel B F w0 wr pl S l ls w->∃pl',Rel B F w0 wr pl' (IU P i c S) l ls w∧(IU P i c S).nt=S.nt
 | [],pl,S,i,h=>⟨pl,h,rfl⟩
 | (j,e)::q,pl,S,i,h=>by
  unfold IU;split
  ·rename_i t0 z hr
   split
   ·rename_i t e0 b xs cs ho
    split
    ·rename_i hc
     have hS:Stp B (lx pl S.own) (blk (none:Option Addr)::lx pl S.own) F [] w w:=Stp.none h.hL rfl;have a:=h.push ⟨none,0,0⟩ (.row t0 e []) hS ⟨_,gJ _,Ow.nil _ _ _ _⟩;have ho':get ({ S with own:=(S.nx,Ent.row t0 e [])::S.own,nx:=S.nx+1 }:St).own i=some (.rowo t e0 b xs cs):=ho;obtain⟨p,ro,us,h1,h2,h3,h4⟩:=a.ent (i,.rowo t e0 b xs cs) (get_mem ho')
     have m:=a.told (e':=.rowo t e0 b xs (cs.set j (.row S.nx))) ho' ⟨p,ro,us,h1,h2,h3,fun hb=>by
      have h4:=h4 hb;obtain⟨u,q1,q2⟩:=h4.at hc;have q2:u = .slice none 0 0:=q2;subst q2
      exact h4.setv q1 (s:=.row S.nx) ⟨⟨none,0,0⟩,by rw[h.nx];exact gJ _,rfl⟩⟩
     obtain⟨pl',r1,r2⟩:=uS (c:=q) (i:=i) m;exact⟨pl',r1,r2⟩
    ·exact uS h
   ·exact uS h
  ·exact uS h
theorem R5(h:Rel B F w0 wr pl S l ls w){i:Nat}{c:List (Nat×TypeId)}:∃pl',Rel B F w0 wr pl' (Ov P i c S) l ls w∧(Ov P i c S).nt=S.nt:=by
 unfold Ov;split
 ·rename_i t e xs ho
  obtain⟨p,h1,h2⟩:=h.ent _ (get_mem ho);obtain⟨rs,h3,h4⟩:=Za h2
  have m:=h.told (e':=.rowo t e false xs (abL c 0 (DL t))) ho ⟨p,rs,[],h1,by
   show Ow _ _ _ _ _ _ _ (rs++[])
   simp_all,h4,fun hb=>by cases hb⟩
  grind[uS]
 ·exact uS h
 grind
theorem ahv(h:Rel B F w0 wr pl S l ls w){t:Nat}{c:List (Nat×TypeId)}:∃pl',Rel B F w0 wr pl' (UR P t c S) l ls w∧(UR P t c S).nt=S.nt:=by
 unfold UR;split
 ·exact R5 h
 grind
theorem ahw(h:Rel B F w0 wr pl S l ls w){t j:Nat}{c:List (Nat×TypeId)}:∃pl',Rel B F w0 wr pl' (US P t j c S) l ls w∧(US P t j c S).nt=S.nt:=by
 unfold US;split
 ·split
  ·split
   ·exact R5 h
   grind
  grind
 grind
theorem eH:∀{q:List Co} {pl:List Place} {S:St},Rel B F w0 wr pl S l ls w->∃pl',Rel B F w0 wr pl' (fB P q S) l ls w∧(fB P q S).nt=S.nt
 | [],pl,S,h=>⟨pl,h,rfl⟩
 | .row t e::q,pl,S,h=>by
  unfold fB;split
  ·rename_i t0 z hg hr
   split
   ·rename_i hlt
    have hS:Stp B (lx pl S.own) (blk (none:Option Addr)::lx pl S.own) F [] w w:=Stp.none h.hL rfl;have h':=h.push ⟨none,0,0⟩ (.row t0 e []) hS ⟨_,gJ _,Ow.nil _ _ _ _⟩;have hv:l.getD t undef = .slice none 0 0:=h.fr t _ hg;have h2:=h'.set (d:=t) (s:=.row S.nx) (v:=.slice none 0 0) hlt ⟨⟨none,0,0⟩,by rw[h.nx];exact gJ _,rfl⟩
    have e1:l.set t (.slice none 0 0)=l:=by
     have:t<l.length:=by rw[h.nt];exact hlt
     rw[<- hv,zS,zQ this];simp
    rw[e1]at h2;obtain⟨pl',a1,a2⟩:=eH (q:=q) h2;exact⟨pl',a1,a2⟩
   ·exact eH h
  ·exact eH h
 | .frz t::q,pl,S,h=>by
  unfold fB;split
  ·split
   ·rename_i S' hf
    obtain⟨pl',a1,a2⟩:=eH (q:=q) (Nk h hf);exact⟨pl',a1,by rw[a2,Nl hf]⟩
   ·exact eH h
  ·exact eH h
  ·exact eH h
 | .unl t::q,pl,S,h=>by
  unfold fB;split
  ·rename_i i hg
   split
   ·rename_i t0 e xs ho
    split
    ·rename_i hc
     obtain⟨pl1,h1⟩:=aiM h hg ho hc.2;obtain⟨pl',a1,a2⟩:=eH (q:=q) h1;exact⟨pl',a1,a2⟩
    ·exact eH h
   ·exact eH h
  ·exact eH h
 | .frb t::q,pl,S,h=>by unfold fB;obtain⟨a,b⟩:=ahq (P:=P) (t:=t) h;obtain⟨pl',a1,a2⟩:=eH (q:=q) a;exact⟨pl',a1,by rw[a2,b]⟩
 | .agd t ty::q,pl,S,h=>by unfold fB;obtain⟨a,b⟩:=ahr (t:=t) (ty:=ty) h;obtain⟨pl',a1,a2⟩:=eH (q:=q) a;exact⟨pl',a1,by rw[a2,b]⟩
 | .slf t j::q,pl,S,h=>by unfold fB;obtain⟨a,b⟩:=ahs (t:=t) (j:=j) h;obtain⟨pl',a1,a2⟩:=eH (q:=q) a;exact⟨pl',a1,by rw[a2,b]⟩
 | .rwb t j e::q,pl,S,h=>by unfold fB;obtain⟨pl1,a,b⟩:=aht (P:=P) (t:=t) (j:=j) (e:=e) h;obtain⟨pl',a1,a2⟩:=eH (q:=q) a;exact⟨pl',a1,by rw[a2,b]⟩
 | .opn t c::q,pl,S,h=>by unfold fB;obtain⟨pl1,a,b⟩:=ahv (P:=P) (t:=t) (c:=c) h;obtain⟨pl',a1,a2⟩:=eH (q:=q) a;exact⟨pl',a1,by rw[a2,b]⟩
 | .opc t j c::q,pl,S,h=>by unfold fB;obtain⟨pl1,a,b⟩:=ahw (P:=P) (t:=t) (j:=j) (c:=c) h;obtain⟨pl',a1,a2⟩:=eH (q:=q) a;exact⟨pl',a1,by rw[a2,b]⟩
 | .quw t j e::q,pl,S,h=>by unfold fB;obtain⟨pl1,a,b⟩:=ahu (P:=P) (t:=t) (j:=j) (e:=e) h;obtain⟨pl',a1,a2⟩:=eH (q:=q) a;exact⟨pl',a1,by rw[a2,b]⟩
theorem IV{ds:List Nat}:∀{fr:Fr} {x:Nat×SV},x∈okF ds fr->x∈fr∧∀i∈idS x.2,i∈ds
 | (t,s)::q,x,h=>by
  unfold okF at h;split at h
  ·rename_i hall
   rcases List.mem_cons.1 h with h | h
   ·subst h
    exact⟨List.mem_cons_self ..,fun i hi=>by simpa using List.all_eq_true.1 hall i hi⟩
   ·obtain⟨a,b⟩:=IV h
    exact⟨zO _ a,b⟩
  ·obtain⟨a,b⟩:=IV h
   exact⟨zO _ a,b⟩
theorem Cc{fr:Fr}:∀{q:List Nat} {x:Nat×SV},x∈Av fr q->get fr x.1=some x.2
 | t::q,x,h=>by
  unfold Av at h;split at h
  ·rename_i s hs
   rcases List.mem_cons.1 h with h | h
   ·subst h;exact hs
   ·exact Cc h
  ·exact Cc h
theorem Oy{f:Nat->Nat}:∀{fr:Fr} {t:Nat} {s:SV},get (Ou f fr) t=some s->∃s',(t,s')∈fr∧s=iY f s'
 | (j,q)::fr,t,s,h=>by
  unfold Ou get at h;split at h
  ·rename_i e;cases h;subst e;exact⟨q,List.mem_cons_self ..,rfl⟩
  ·obtain⟨s',h1,h2⟩:=Oy h
   exact⟨s',zO _ h1,h2⟩
theorem pos_at:∀{ds:List Nat} {i:Nat},i∈ds->ds[pos ds i]? = some i
 | j::q,i,h=>by
  unfold pos;split
  ·rename_i e;subst e;rfl
  ·rename_i hne
   rcases List.mem_cons.1 h with h | h
   ·exact absurd h.symm hne
   ·simpa using pos_at h
theorem EZ{n:Nat}:∀{ds:List Nat} {i:Nat},i∈vG n ds↔i∈ds∧¬ i<n
 | [],i=>by simp[vG]
 | j::q,i=>by
  unfold vG;split
  ·rename_i hj
   rw[EZ,List.mem_cons];constructor
   ·rintro⟨h1,h2⟩;exact⟨.inr h1,h2⟩
   ·rintro⟨h1 | h1,h2⟩
    ·subst h1;exact absurd hj h2
    ·exact⟨h1,h2⟩
  ·rename_i hj
   rw[List.mem_cons,EZ,List.mem_cons];constructor
   ·rintro (h | ⟨h1,h2⟩)
    ·subst h;exact⟨.inl rfl,hj⟩
    ·exact⟨.inr h1,h2⟩
   ·rintro⟨h1 | h1,h2⟩
    ·exact .inl h1
    ·exact .inr ⟨h1,h2⟩
def npl(b:List Place)(a:Nat)(c:List Nat):List Place:=b.take a++(vG a c).map fun d=>(b[d]?).getD ⟨none,0,0⟩
theorem aiN{n:Nat}(hn:n≤pl.length){ds:List Nat}{i:Nat}(hi:i∈ds){p:Place}(hp:pl[i]? = some p):(npl pl n ds)[nmb n ds i]? = some p:=by unfold npl nmb;grind[List.getElem?_append_left,zW,List.getElem?_take_of_lt,List.getElem?_append_right,pos,vG,pos_at,EZ]
theorem ahx{n:Nat}{ds:List Nat}{i:Nat}{p:Place}(hi:i<n)(hp:pl[i]? = some p):(npl pl n ds)[i]? = some p:=by grind[npl,zR,List.getElem?_append_left,zW,List.getElem?_take_of_lt]
theorem R6{own:List (Nat×Ent)}{f:Nat->Nat}{all:List Nat}:∀{q:List Nat} {r:List (Nat×Ent)},UJ own f all q=some r ->
  (∀x∈r,∃i e,i∈q∧get own i=some e∧(∀j∈idE e,j∈all)∧x=(f i,Ii f e))∧r.map (·.1)=q.map f∧∀i∈q,∃e,get own i=some e
 | [],r,h=>by cases h;exact⟨by simp,rfl,by simp⟩
 | i::q,r,h=>by
  unfold UJ at h;split at h
  ·rename_i e hg
   split at h
   ·rename_i hall
    obtain⟨r',h1,rfl⟩:=Option.map_eq_some_iff.1 h;obtain⟨a1,a2,a3⟩:=R6 h1;refine⟨fun x hx=>?_,by simp[a2],fun j hj=>?_⟩
    ·rcases List.mem_cons.1 hx with hx | hx
     ·exact⟨i,e,List.mem_cons_self ..,hg,fun j hj=>by simpa using List.all_eq_true.1 hall j hj,hx⟩
     ·obtain⟨i',e',b1,b2⟩:=a1 x hx
      exact⟨i',e',zO _ b1,b2⟩
    ·rcases List.mem_cons.1 hj with hj | hj
     ·subst hj;exact⟨e,hg⟩
     ·exact a3 j hj
   ·cases h
  ·cases h
theorem vH{hi:Hint}{S0:St}(h:Rel B F w0 wr pl S0 l ls w)(hn:nrm P hi S0=some S'):∃wr' pl',Rel B F w0 wr' pl' S' l ls w:=by
 unfold nrm at hn;split at hn
 ·rename_i hup
  obtain⟨pl1,h1,hnt⟩:=eH (P:=P) (q:=hi.co) h;have hls:ls=[]:=by have:=h.up;rw[hup]at this;exact this
  generalize fB P hi.co S0=S at hn h1 hnt;simp only at hn;generalize hds:reach S.own 1000 (MI S.ln S.own++idF (Av S.fr hi.keep)) []=ds at hn
  have hln:S.ln≤pl1.length:=by
   rw[h1.hln];rcases Nat.eq_zero_or_pos w0.pl.length with h0 | h0
   ·omega
   ·have:=(List.getElem?_eq_some_iff.1 (h1.pre (w0.pl.length - 1) _ (zQ (by omega)))).1
    omega
  split at hn
  ·rename_i hnd
   have hnd:=Ah hnd;split at hn
   ·rename_i own hown
    cases hn
    obtain⟨r1,r2,r3⟩:=R6 hown;have hplace:∀i∈ds,∃p,pl1[i]? = some p:=fun i hi=>by obtain⟨e,he⟩:=r3 i hi;exact (h1.ent _ (get_mem he)).place
    have hren:∀i∈ds,(npl pl1 S.ln ds)[nmb S.ln ds i]? = pl1[i]?:=fun i hi=>by grind[aiN]
    have hplb:∀i∈ds,plb (npl pl1 S.ln ds) (nmb S.ln ds i)=plb pl1 i:=fun i hi=>by simp_all[plb]
    have hlx:lx (npl pl1 S.ln ds) own=ds.map (plb pl1):=by
     have:lx (npl pl1 S.ln ds) own=(own.map (·.1)).map (plb (npl pl1 S.ln ds)):=by unfold lx;simp
     simp_all
    have hin:∀k,some k∈ds.map (plb pl1)->some k∈lx pl1 S.own:=fun k hk=>by obtain⟨i,hi,hk⟩:=List.mem_map.1 hk;obtain⟨e,he⟩:=r3 i hi;rw[<- hk];exact List.mem_map_of_mem (f:=fun e:Nat×Ent=>plb pl1 e.1) (get_mem he)
    have hL:LOk B (ds.map (plb pl1)) F w:=by refine⟨?_,fun k hk=>h1.hL.lo k (hin k hk),fun k hk=>h1.hL.hi k (hin k hk),h1.hL.base,h1.hL.far⟩;rw[List.pairwise_map];rw[List.pairwise_iff_getElem];intro i j hi hj hij k hk hk';obtain⟨e,he⟩:=r3 ds[i] (List.getElem_mem hi);obtain⟨e',he'⟩:=r3 ds[j] (List.getElem_mem hj);have hne:ds[i]≠ds[j]:=fun e=>(List.pairwise_iff_getElem.1 hnd) i j hi hj hij e;exact LOk.apart2 h1.hL he he' hne hk hk'
    have hs:Sub w (ds.map (plb pl1)++F) (lx pl1 S.own++F):=fun k hk=>by grind
    have hx:Ext pl1 (lx pl1 S.own++F) w pl1 (ds.map (plb pl1)++F) w:=⟨fun _ _ h=>h,by intro α R cs x h;exact R.grow h hs,by intro α R b o x h;exact h.grow hs⟩
    have hrel:Rel B F w0 ⟨w,lx (npl pl1 S.ln ds) own++F,S.ln+(vG S.ln ds).length,npl pl1 S.ln ds,ids own⟩ (npl pl1 S.ln ds) { fr:=Ou (nmb S.ln ds) (okF ds (Av S.fr hi.keep)),nt:=S.nt,up:=[],own:=own,nx:=S.ln+(vG S.ln ds).length,log:=[],ln:=S.ln } l [] w:=by
     refine⟨by simp_all,h1.hB,fun i p hi=>ahx (by rw[h1.hln];grind) (h1.pre i p hi),h1.hI,h1.hln,by grind[npl],h1.nt,fun x hx'=>?_,fun t s hs'=>?_,rfl,⟨Fz.refl _ _,Sub.refl _ _,Nat.le_refl _,fun _ _ h=>h,fun e he _=>List.mem_map_of_mem (f:=fun e:Nat×Ent=>e.1) he,fun _ _ _ _ _ _=>rfl⟩⟩
     ·obtain⟨i,e,b1,b2,b3,rfl⟩:=r1 x hx'
      have hE:=h1.ent _ (get_mem b2);show EntD (npl pl1 S.ln ds) (lx (npl pl1 S.ln ds) own++F) w (nmb S.ln ds i) (Ii (nmb S.ln ds) e);rw[hlx];exact NA (fun j hj=>hren j (b3 j hj)) (hren i b1) (hE.ext hx (fun k _=>rfl) (fun _ _ _ _ _ h=>h.grow hs))
     ·obtain⟨s',h2,rfl⟩:=Oy hs'
      obtain⟨h3,h4⟩:=IV h2;have h5:=h1.fr t s' (Cc h3);show Den (npl pl1 S.ln ds) (lx (npl pl1 S.ln ds) own++F) w _ _;rw[hlx];exact Ag (fun j hj=>hren j (h4 j hj)) (h5.ext hx)
    grind
   grind
  grind
 grind
end
end Ev
end
noncomputable section
namespace Ev
open Go Go.RowKit Sx
inductive Ex where
 | n
 | r
 | x (id:Nat)
abbrev Kt(R:Type):=Ex->St->Option R
section
variable {R:Type}
def gz(P:Program)(h:Option Hint)(g:St->Option R)(k:Kt R):Kt R:=fun e S=>match e with
 | .n=>match h with
  | some h=>(nrm P h S).bind g
  | none=>g S
 | .r=>k .r S
 | .x i=>k (.x i) S
def Ce(id:Nat)(k:Kt R):Kt R:=fun e S=>match e with
 | .n=>k .n S
 | .r=>k .r S
 | .x i=>if i=id then k .n S else k (.x i) S
def R7:Op->Bool
 | .move _ | .assign _ | .pick .. | .binOp .. | .unOp .. | .convert .. | .indexAddr .. | .index .. | .fieldAddr .. | .field .. | .load .. | .extract .. | .build .. | .slice .. | .makeFunc .. | .makeInterface .. | .lookup .. | .entry .. | .nilCheck ..=>true
 | .call ⟨.builtin .len,_,_⟩ | .call ⟨.builtin .min,_,_⟩ | .call ⟨.builtin .max,_,_⟩=>true
 | _=>false
def sched(ops:Array Oper):Nat->Array Bool->List (Nat×Bool)
 | 0,_=>[]
 | n+1,listed =>
  let rs:=Region.ready .any ops listed
  match rs.find? (fun i=>((ops[i]?).map fun o=>R7 o.op).getD false && Region.free .any ops listed i) with
  | some i=>(i,true)::sched ops n (listed.setIfInBounds i true)
  | none=>match rs with
   | i::_=>(i,false)::sched ops n (listed.setIfInBounds i true)
   | []=>[]
def sch(a:List Oper):List (Nat×Bool):=sched a.toArray a.length (Array.replicate a.length false)
def agA(b:Program)(a:List Oper):Bool :=
 b.follows .mixedOrders && (Region.noSelect a.toArray && lQ a.toArray (sch a) (Array.replicate a.toArray.size false) && decide ((sch a).length≤a.toArray.size))
def abM(ops:Array Oper):Nat->Array Bool->Sg
 | 0,_=>.nil
 | n+1,listed =>
  let rs:=Region.ready .any ops listed
  match rs.find? (fun i=>((ops[i]?).map fun o=>R7 o.op).getD false && Region.free .any ops listed i) with
  | some i=>.tk i (abM ops n (listed.setIfInBounds i true))
  | none=>match rs with
   | []=>.nil
   | _::_=>rs.foldr (fun i r=>.alt i (abM ops n (listed.setIfInBounds i true)) r) .stop
def sgT(a:List Oper):Sg:=abM a.toArray a.length (Array.replicate a.length false)
def ZH(b:Program)(a:List Oper):Bool :=
 b.follows .mixedOrders && (Region.noSelect a.toArray && qK a.toArray false (sgT a) (Array.replicate a.toArray.size false))
def Sg.cnt:Sg->Nat
 | .nil=>1
 | .tk _ q=>q.cnt
 | .alt _ q r=>q.cnt+r.cnt
 | .stop=>0
def UT(b:Program)(e:Env)(d:Cl R)(a:List Oper)(g:Bool)(c:St)(f:St->Option R):Option R :=
 if g=true then (if agA b a=true then rdw b e d a (dps a []) (uL a (sch a)) [] c f else if ZH b a=true then rdt b e d a (dps a []) (sgT a) [] c f else none) else rg b e d a a c f
def ev(P:Program)(env:Env)(cl:Cl R)(fuel:Nat)(hs:Nat->Option Hint):Nat->Code->St->Kt R->Option R
 | _,.skip,S,k=>k .n S
 | _,.label _,S,k=>k .n S
 | _,.ret,S,k=>k .r S
 | _,.exit id,S,k=>k (.x id) S
 | p,.seq x y,S,k=>ev P env cl fuel hs (2*p) x S (gz P (hs p) (fun S'=>ev P env cl fuel hs (2*p+1) y S' k) k)
 | p,.block id c,S,k=>ev P env cl fuel hs (2*p) c S (Ce id k)
 | p,.cond c x y,S,k=>match c with
  | .tmp t=>if t<S.nt then match get S.fr t with
   | some (.d .bool b)=>if b=true then ev P env cl fuel hs (2*p) x { S with fr:=(t,.d .bool true)::S.fr } k else ev P env cl fuel hs (2*p+1) y { S with fr:=(t,.d .bool false)::S.fr } k
   | _=>none else none
  | .const (.bool b)=>if b=true then ev P env cl fuel hs (2*p) x S k else ev P env cl fuel hs (2*p+1) y S k
  | _=>none
 | _,.region _ ⟨ops⟩ draw,S,k=>UT P env cl ops draw S (k .n)
 | p,.loop c,S,k=>match hs p with
  | some h=>(nrm P h S).bind fun S0=>aj (fun self S=>ev P env cl fuel hs (2*p) c S (gz P (hs p) self k)) fuel S0
  | none=>aj (fun self S=>ev P env cl fuel hs (2*p) c S (gz P (hs p) self k)) fuel S
 | _,.rangeFunc _ _ _ _,_,_=>none
 | _,.scope _,_,_=>none
 | _,.goto _,_,_=>none
 | _,.refuse _,_,_=>none
end
def E4:Ex->Exit
 | .n=>.normal
 | .r=>.ret
 | .x i=>.exit i
section
variable {R:Type}{B:Nat->Prop}{F:Lx}{w0:Bs}{P:Program}{env:Env}{cl:Cl R}{fuel:Nat}{hs:Nat->Option Hint}{r:R}{ls:List (List Value)}
def KOk(a:Nat->Prop)(b:Lx)(i:Bs)(g:List (List Value))(j:Wr)(c:Prop)(f:Kt R)(h:R)(d:Exit->Act->World->Prop):Prop :=
 ∀e wr' pl S l w,Rel a b i wr' pl S l g w->(c->wr'=j)->f e S=some h->d (E4 e) (mk l) w
theorem ahy(henv:iK P w0.I env)(hcl:Ak P w0.I cl){ops:List Oper}{draw:Bool}{id:Nat}{wr:Wr}{pl:List Place}{S:St}{l:List Value}{w:World}{k:St->Option R}{Q:Exit->Act->World->Prop}(hQ:PF Q)
  (h:Rel B F w0 wr pl S l ls w) (hv:UT P env cl ops draw S k=some r)
  (hk:∀pl' S' l' w',Rel B F w0 wr pl' S' l' ls w'->k S'=some r->Q .normal (mk l') w'):CW P (.region id ⟨ops⟩ draw) Q l w:=by
 unfold UT at hv;split at hv
 ·rename_i hd
  subst hd;split at hv
  ·rename_i hr
   simp only[agA,zL]at hr;have hB:(Region.noSelect ops.toArray && lQ ops.toArray (sch ops) (Array.replicate ops.toArray.size false) && decide ((sch ops).length≤ops.toArray.size))=true:=by simp_all
   refine Ia (sch ops) hr.1 hB hQ ?_;exact Ca (T:=[]) henv hcl (Oo ops [] [] (by simp) rfl (fun j m p hj=>by grind)) (h.call (Fz.drew _ _)) rfl hv hk
  ·split at hv
   ·rename_i hr
    simp only[ZH,zL]at hr;refine IQ (sgT ops) hr.1 (by simp_all) hQ ?_;exact y9 (T:=[]) henv hcl (Oo ops [] [] (by simp) rfl (fun j m p hj=>by grind)) (h.call (Fz.drew _ _)) rfl hv hk
   grind
 grind[oK,UI]
theorem lW(henv:iK P w0.I env)(hcl:Ak P w0.I cl){Hn:Prop}(hHn:Hn->∀p,hs p=none):∀(c:Code) (p:Nat) (wr:Wr) (pl:List Place) (S:St) (l:List Value) (w:World) (k:Kt R) (Q:Exit->Act->World->Prop),PF Q ->
  Rel B F w0 wr pl S l ls w->ev P env cl fuel hs p c S k=some r->KOk B F w0 ls wr Hn k r Q->CW P c Q l w
 | .skip,p,wr,pl,S,l,w,k,Q,hQ,h,hv,hk=>agL (hk .n wr pl S l w h (fun _=>rfl) (by simpa [ev]using hv))
 | .label _,p,wr,pl,S,l,w,k,Q,hQ,h,hv,hk=>aaF (hk .n wr pl S l w h (fun _=>rfl) (by simpa [ev]using hv))
 | .ret,p,wr,pl,S,l,w,k,Q,hQ,h,hv,hk=>aij (hk .r wr pl S l w h (fun _=>rfl) (by simpa [ev]using hv))
 | .exit id,p,wr,pl,S,l,w,k,Q,hQ,h,hv,hk=>agM (hk (.x id) wr pl S l w h (fun _=>rfl) (by simpa [ev]using hv))
 | .seq x y,p,wr,pl,S,l,w,k,Q,hQ,h,hv,hk=>by
  rw[ev]at hv;refine gT (lW henv hcl hHn x (2*p) wr pl S l w _ _ hQ.then h hv (fun e wr' pl' S' l' w' h' hw hv'=>?_))
  cases e with
  | n =>
   unfold gz at hv';simp only at hv';refine aik ?_;split at hv'
   ·rename_i hn hpn
    obtain⟨S1,h1,hv'⟩:=bK hv';obtain⟨wr2,pl2,h2⟩:=vH h' h1;exact lW henv hcl hHn y (2*p+1) wr2 pl2 S1 l' w' k Q hQ h2 hv' (fun e wr3 pl3 S3 l3 w3 a1 a2 a3=>hk e wr3 pl3 S3 l3 w3 a1 (fun hn=>by have:=hHn hn p;rw[hpn]at this;cases this) a3)
   ·exact lW henv hcl hHn y (2*p+1) wr' pl' S' l' w' k Q hQ h' hv' (fun e wr3 pl3 S3 l3 w3 a1 a2 a3=>hk e wr3 pl3 S3 l3 w3 a1 (fun hn=>(a2 hn).trans (hw hn)) a3)
  | r=>exact MO (hk .r wr' pl' S' l' w' h' hw hv')
  | x i=>exact KT (hk (.x i) wr' pl' S' l' w' h' hw hv')
 | .block id c,p,wr,pl,S,l,w,k,Q,hQ,h,hv,hk=>by
  rw[ev]at hv;refine uZ (lW henv hcl hHn c (2*p) wr pl S l w _ _ hQ.inBlock h hv (fun e wr' pl' S' l' w' h' hw hv'=>?_))
  cases e with
  | n=>exact YZ (hk .n wr' pl' S' l' w' h' hw hv')
  | r=>exact Rc (hk .r wr' pl' S' l' w' h' hw hv')
  | x i =>
   unfold Ce at hv';simp only at hv';split at hv'
   ·rename_i hi
    subst hi;exact MP (hk .n wr' pl' S' l' w' h' hw hv')
   ·rename_i hi
    exact LQ (by simpa using hi) (hk (.x i) wr' pl' S' l' w' h' hw hv')
 | .cond c x y,p,wr,pl,S,l,w,k,Q,hQ,h,hv,hk=>by
  unfold ev at hv;split at hv
  ·rename_i t
   split at hv
   ·rename_i hlt
    split at hv
    ·rename_i b hb
     have hd:=jC (h.fr t _ hb)
     have hs2:∀b',b'=b->Rel B F w0 wr pl { S with fr:=(t,.d .bool b')::S.fr } l ls w:=fun b' e=>by
      subst e;have h2:=h.set hlt (h.fr t _ hb)
      have e:l.set t (l.getD t undef)=l:=by
       have:t<l.length:=by rw[h.nt];exact hlt
       rw[zS,zQ this];simp
      rw[e]at h2;exact h2
     refine Ru (t:=b) hd (fun hb1=>?_) (fun hb1=>?_)
     ·rw[if_pos hb1]at hv
      exact lW henv hcl hHn x (2*p) wr pl _ l w k Q hQ (hs2 true hb1.symm) hv hk
     ·rw[if_neg (by rw[hb1];decide)]at hv
      exact lW henv hcl hHn y (2*p+1) wr pl _ l w k Q hQ (hs2 false hb1.symm) hv hk
    ·cases hv
   ·cases hv
  ·rename_i b
   refine Ru (t:=b) rfl (fun hb1=>?_) (fun hb1=>?_)
   ·rw[if_pos hb1]at hv
    exact lW henv hcl hHn x (2*p) wr pl _ l w k Q hQ h hv hk
   ·rw[if_neg (by rw[hb1];decide)]at hv
    exact lW henv hcl hHn y (2*p+1) wr pl _ l w k Q hQ h hv hk
  ·cases hv
 | .region id ⟨ops⟩ draw,p,wr,pl,S,l,w,k,Q,hQ,h,hv,hk=>by rw[ev]at hv;exact ahy henv hcl hQ h hv (fun pl' S' l' w' a1 a2=>hk .n wr pl' S' l' w' a1 (fun _=>rfl) a2)
 | .loop c,p,wr,pl,S,l,w,k,Q,hQ,h,hv,hk=>by
  have body:∀(self:St->Option R) (s:St) (l:List Value) (w:World),(∃wr' pl',Rel B F w0 wr' pl' s l ls w∧(Hn->wr'=wr))->ev P env cl fuel hs (2*p) c s (gz P (hs p) self k)=some r ->
    CW P c (Exit.then (fun a w=>∃l',a=mk l'∧∃s',(∃wr' pl',Rel B F w0 wr' pl' s' l' ls w∧(Hn->wr'=wr))∧self s'=some r) Q) l w:=by
   rintro self s l w ⟨wr1,pl1,h1,hw1⟩ hv;refine lW henv hcl hHn c (2*p) wr1 pl1 s l w _ _ hQ.then h1 hv (fun e wr' pl' S' l' w' h' hw hv'=>?_)
   cases e with
   | n =>
    unfold gz at hv';simp only at hv';show ∃l'',mk l'=mk l''∧_;split at hv'
    ·rename_i hn hpn
     obtain⟨S1,h1,hv'⟩:=bK hv';obtain⟨wr2,pl2,h2⟩:=vH h' h1;exact⟨l',rfl,S1,⟨wr2,pl2,h2,fun hn=>by have:=hHn hn p;rw[hpn]at this;cases this⟩,hv'⟩
    ·exact⟨l',rfl,S',⟨wr',pl',h',fun hn=>(hw hn).trans (hw1 hn)⟩,hv'⟩
   | r=>exact MO (hk .r wr' pl' S' l' w' h' (fun hn=>(hw hn).trans (hw1 hn)) hv')
   | x i=>exact KT (hk (.x i) wr' pl' S' l' w' h' (fun hn=>(hw hn).trans (hw1 hn)) hv')
  rw[ev]at hv;split at hv
  ·rename_i hn hpn
   obtain⟨S1,h1,hv⟩:=bK hv;obtain⟨wr2,pl2,h2⟩:=vH h h1;exact Dl _ r (fun s l w=>∃wr' pl',Rel B F w0 wr' pl' s l ls w∧(Hn->wr'=wr)) body ⟨wr2,pl2,h2,fun hn=>by have:=hHn hn p;rw[hpn]at this;cases this⟩ hv
  ·exact Dl _ r (fun s l w=>∃wr' pl',Rel B F w0 wr' pl' s l ls w∧(Hn->wr'=wr)) body ⟨wr,pl,h,fun _=>rfl⟩ hv
 | .rangeFunc _ _ _ _,p,wr,pl,S,l,w,k,Q,hQ,h,hv,hk=>by rw[ev]at hv;cases hv
 | .scope _,p,wr,pl,S,l,w,k,Q,hQ,h,hv,hk=>by rw[ev]at hv;cases hv
 | .goto _,p,wr,pl,S,l,w,k,Q,hQ,h,hv,hk=>by rw[ev]at hv;cases hv
 | .refuse _,p,wr,pl,S,l,w,k,Q,hQ,h,hv,hk=>by rw[ev]at hv;cases hv
end
end Ev
end
noncomputable section
namespace Ev
open Go Go.RowKit Sx
section
variable {R:Type}
def Cf:Nat->List SV->Fr
 | _,[]=>[]
 | n,s::q=>(n,s)::Cf (n+1) q
def UU(S:St)(v:ResultVar)(P:Program)(K:SV->Option R):Option R :=
 match v with
 | .tmp t=>if t<S.nt then (match get S.fr t with
  | some s=>K s
  | none=>none) else none
 | .cell a t=>match get S.fr a with
  | some (.pb i o)=>match get S.own i with
   | some (.box _ cs)=>match EG P t o cs with
    | some s=>K s
    | none=>none
   | some (.row t0 _ xs)=>match qD P t with
    | some (m,_,n)=>if t0.size=n∧o=0 then need (eqi (xs.length:Int) (m:Int)) (match tyc P t with
     | some (.ar m' t1)=>if m'=m then (match fK (.sl t0) (.sl t1) xs with
      | some ys=>K (.d (.ar m' t1) ys)
      | none=>none) else none
     | _=>none) else none
    | none=>none
   | _=>none
  | some (.prw i j sz o)=>match get S.own i,tyc P t with
   | some (.row (.cl t0) _ xs),some fy=>if sz=t0.size∧o=0∧t0=fy then (at? xs j).bind fun y=>K (.d (.cl t0) y) else none
   | some (.row t0 _ xs),some fy=>if sz=t0.size then (at? xs j).bind fun y=>match prj t0 o fy y with
    | some z=>K (.d fy z)
    | none=>none
    else none
   | _,_=>none
  | _=>none
def jL(P:Program)(S:St):List ResultVar->(List SV->Option R)->Option R
 | [],K=>K []
 | v::q,K=>UU S v P fun s=>jL P S q fun r=>K (s::r)
def amG(P:Program)(fn:Func)(K:St->SV->Option R):Kt R:=fun e S=>match e with
 | .x _=>none
 | _=>match S.up with
  | (n,fr)::up=>jL P S fn.results.toList fun ss=>K { S with fr:=fr,nt:=n,up:=up } (NC ss)
  | []=>none
def evC(P:Program)(env:Env)(fuel:Nat)(eq:R->R->Bool):Nat->Cl R
 | 0=>⟨fun _ _ _ _=>none,eq⟩
 | d+1=>⟨fun f ss S K=>match P.funcs[f]? with
  | some fn=>match fn.body with
   | some c=>if ss.length≤fn.ntmps∧fn.results.size≤5 then ev P env (evC P env fuel eq d) fuel (fun _=>none) 1 c { S with fr:=Cf 0 ss,nt:=fn.ntmps,up:=(S.nt,S.fr)::S.up } (amG P fn K) else none
   | none=>none
  | none=>none,eq⟩
end
section
variable {R:Type}{B:Nat->Prop}{F:Lx}{w0:Bs}{wr:Wr}{pl pl':List Place}{S S':St}{l l':List Value}{ls:List (List Value)}{w w':World}{L L' M:Lx}{P:Program}{env:Env}{fuel:Nat}{r:R}
theorem Oz{pre:List Value}:∀{ss:List SV} {vs:List Value} {post:List Value},DenL pl L w ss vs->FrD pl L w (Cf pre.length ss) (pre++vs++post):=by
 intro ss
 induction ss generalizing pre with
 | nil=>intro vs post _ t s h;cases h
 | cons a q ih =>
  rintro vs post ⟨v,us,rfl,h2,h3⟩ t s h;unfold Cf get at h;split at h
  ·simp_all
  ·have:=ih (pre:=pre++[v]) (post:=post) h3 t s (by simp_all)
   simp_all
theorem abN(h:Rel B F w0 wr pl S l ls w){v:ResultVar}{R:Type}{K:SV->Option R}{r:R}(hs:UU S v P K=some r):∃s u,K s=some r∧resv P l w v u∧Den pl (lx pl S.own++F) w s u:=by
 unfold UU at hs;split at hs
 ·split at hs
  ·split at hs
   ·rename_i s hg
    exact⟨s,_,hs,aaI rfl,h.fr _ s hg⟩
   grind
  grind
 ·rename_i a t
  split at hs
  ·rename_i i o hg
   split at hs
   ·rename_i T cs hb
    split at hs
    ·rename_i s hc
     obtain⟨g,n,c,h1,h2⟩:=h.fr a _ hg;obtain⟨g',n',c',us,h3,h4,h5,h6⟩:=h.ent _ (get_mem hb);rw[h1]at h3;cases h3;obtain⟨ag,sz,h7,h8,h9⟩:=yQ hc h5 h6;refine⟨s,_,hs,wZ h2 ?_,h9⟩
     exact xW (P:=P) (w:=w) (b:=g) (o:=o) (cs:=(us.drop o).take sz) h7 (by grind) (fun j v hj=>by
      refine h4.cell ?_
      grind)
    grind
   ·rename_i t0 e0 xs hb
    split at hs
    ·rename_i m e n har
     split at hs
     ·rename_i hc
      obtain⟨hsz,rfl⟩:=hc;obtain⟨hm,hq⟩:=bS hs;clear hs;have hm:(xs.length:Int)=(m:Int):=by simp_all[eqi]
      split at hq
      ·rename_i m' t1 hty
       split at hq
       ·rename_i hmm
        subst hmm;split at hq
        ·rename_i ys hys
         obtain⟨e1,hys⟩:=oM hys;cases e1;subst hys;obtain⟨g',n',c',h1,h2⟩:=h.fr a _ hg;obtain⟨p',h3,h4⟩:=h.ent _ (get_mem hb);rw[h1]at h3;cases h3;obtain⟨hn,cells,h5,h6⟩:=h4;have hxl:xs.length=m':=by omega
         refine⟨_,.agg cells.toArray,hq,wZ h2 ?_,cells,⟨hxl,h6⟩,by rfl⟩;have hty':=gU hty
         have:=iQ (P:=P) (w:=w) (b:=g') (o:=0) (cs:=cells) hty' (by rw[h6.len,bV,bV];show _=m'*t0.size;rw[hxl]) (fun j v hj=>by
          have:=h5.cells (g:=g') rfl j v hj
          simp_all[Addr.add_lit'])
         simp_all[Rp.val,gI,Ty.agg]
        grind
       grind
      grind
     grind
    grind
   grind
  ·rename_i i j sz o hgx
   split at hs
   ·rename_i t0 e xs fy hg hy
    have hty:=gU hy;split at hs
    ·rename_i hc
     obtain⟨hsz,rfl,rfl⟩:=hc;obtain⟨y,hy1,hs⟩:=bK hs;obtain⟨g,b0,n,c,h1,h2⟩:=h.fr a _ hgx;obtain⟨p,h3,h4⟩:=h.ent _ (get_mem hg);rw[h1]at h3;cases h3;obtain⟨h5,h6,h7⟩:=gY hy1;obtain⟨_,hb0⟩:=h4.addr h7;cases hb0;obtain⟨cs,h8,h9⟩:=jv h4 h6;refine⟨_,(rp (.cl t0)).val cs,hs,wZ h2 ?_,⟨cs,h8,rfl⟩⟩;have e0:(rp (Ty.cl t0)).val cs=(rp t0).val cs:=rfl;rw[e0];refine iQ hty ((rp _).len h8.1) (fun k v hk=>?_);have:=h9 k v hk;have e:(rp (Ty.cl t0)).size=t0.size:=bV (.cl t0);simp_all[bV,Nat.add_assoc]
    grind
   ·rename_i t0 e xs fy hnc hg hy
    have hty:=gU hy;split at hs
    ·rename_i hsz
     obtain⟨y,hy1,hs⟩:=bK hs;split at hs
     ·rename_i z hp
      obtain⟨g,b0,n,c,h1,h2⟩:=h.fr a _ hgx;obtain⟨p,h3,h4⟩:=h.ent _ (get_mem hg);rw[h1]at h3;cases h3;obtain⟨h5,h6,h7⟩:=gY hy1;obtain⟨_,hb0⟩:=h4.addr h7;cases hb0;obtain⟨cs,h8,h9⟩:=jv h4 h6;obtain⟨pre,c1,post,rfl,h10,h11⟩:=jm hp h8;refine⟨_,_,hs,wZ h2 ?_,⟨c1,h11,rfl⟩⟩;refine iQ hty ((rp _).len h11) (fun k v hk=>?_);grind[List.append_assoc,List.getElem?_append_right,Nat.add_sub_cancel_left,List.getElem?_append_left,zR,bV,Nat.add_assoc]
     grind
    grind
   grind
  grind
def UW(P:Program)(l:List Value)(w:World):List ResultVar->List Value->Prop
 | [],us=>us=[]
 | v::q,us=>∃u r,us=u::r∧resv P l w v u∧UW P l w q r
theorem uU(h:Rel B F w0 wr pl S l ls w){R:Type}{r:R}:∀{q:List ResultVar} {K:List SV->Option R},jL P S q K=some r->∃ss us,K ss=some r∧UW P l w q us∧DenL pl (lx pl S.own++F) w ss us
 | [],K,hs=>⟨[],[],hs,rfl,rfl⟩
 | v::q,K,hs=>by obtain⟨s,u,h1,h3,h4⟩:=abN h hs;obtain⟨ss,us,h2,h5,h6⟩:=uU h h1;exact⟨s::ss,u::us,h2,⟨u,us,rfl,h3,h5⟩,⟨u,us,rfl,h4,h6⟩⟩
theorem amH{fn:Func}{Rr:Ending->World->Prop}{r1 r2 r3 r4:ResultVar}{v1 v2 v3 v4:Value}(hr:fn.results = #[r1,r2,r3,r4])(h1:resv P l w r1 v1)(h2:resv P l w r2 v2)(h3:resv P l w r3 v3)(h4:resv P l w r4 v4)
  (h:Rr (.returned (.tuple #[v1,v2,v3,v4])) w):bodyPost P fn Rr .ret (mk l) w:=by
 have h1:=nX h1;have h2:=nX h2;have h3:=nX h3;have h4:=nX h4;exact⟨rfl,_,by simp_all[kU],h⟩
theorem amI{fn:Func}{Rr:Ending->World->Prop}{r1 r2 r3 r4 r5:ResultVar}{v1 v2 v3 v4 v5:Value}(hr:fn.results = #[r1,r2,r3,r4,r5])(h1:resv P l w r1 v1)(h2:resv P l w r2 v2)(h3:resv P l w r3 v3)(h4:resv P l w r4 v4)(h5:resv P l w r5 v5)
  (h:Rr (.returned (.tuple #[v1,v2,v3,v4,v5])) w):bodyPost P fn Rr .ret (mk l) w:=by
 have h1:=nX h1;have h2:=nX h2;have h3:=nX h3;have h4:=nX h4;have h5:=nX h5;exact⟨rfl,_,by simp_all[kU],h⟩
theorem Aw{fn:Func}{Rr:Ending->World->Prop}{us:List Value}(hn:fn.results.size≤5)(hr:UW P l w fn.results.toList us)(h:Rr (.returned (pI us)) w):bodyPost P fn Rr .ret (mk l) w:=by
 have hsz:fn.results.size=fn.results.toList.length:=by simp
 match hq:fn.results.toList,hr with
 | [],hr =>
  cases hr
  exact amx (by simp_all) h
 | [a],⟨u,q,h1,h2,h3⟩ =>
  cases h3
  subst h1;exact amu (by grind) h2 h
 | [a,b],⟨u,q,h1,h2,u',q',h1',h2',h3⟩ =>
  cases h3
  subst h1 h1';exact amv (by grind) h2 h2' h
 | [a,b,c],⟨u,q,h1,h2,u',q',h1',h2',u'',q'',h1'',h2'',h3⟩ =>
  cases h3
  subst h1 h1' h1'';exact amw (by grind) h2 h2' h2'' h
 | [a,b,c,d],⟨u,q,h1,h2,u',q',h1',h2',u2,q2,h12,h22,u3,q3,h13,h23,h3⟩ =>
  cases h3
  subst h1 h1' h12 h13;exact amH (by grind) h2 h2' h22 h23 h
 | [a,b,c,d,e],⟨u,q,h1,h2,u',q',h1',h2',u2,q2,h12,h22,u3,q3,h13,h23,u4,q4,h14,h24,h3⟩ =>
  cases h3
  subst h1 h1' h12 h13 h14;exact amI (by grind) h2 h2' h22 h23 h24 h
 | a::b::c::d::e::f::q,_=>simp_all
theorem Et{fn:Func}{Rr:Ending->World->Prop}{a:Act}(h:bodyPost P fn Rr .ret a w):∀e:Ex,(∀i,e ≠ .x i)->bodyPost P fn Rr (E4 e) a w:=fun e he=>by
 cases e with
 | n=>exact h
 | r=>exact h
 | x i=>simp_all
theorem GQ{I:World->Prop}(henv:iK P I env){eq:R->R->Bool}(heq:∀a b,eq a b=true->a=b):∀d,Ak P I (evC (R:=R) P env fuel eq d)
 | 0=>by refine⟨heq,?_⟩;intro B F w0 wr pl S l ls w f ss vs K r KV _ _ _ hv _;cases hv
 | d+1=>by
  refine⟨heq,?_⟩;intro B F w0 wr pl S l ls w f ss vs K r KV hI h hd hv hk;subst hI;simp only[evC]at hv;split at hv
  ·rename_i fn hf
   split at hv
   ·rename_i c hb
    split at hv
    ·rename_i hcond
     have hlen:=hd.len;have hfr:=Oz (pre:=[]) (post:=zC (fn.ntmps - vs.length) undef) hd;simp only[List.length_nil,List.nil_append]at hfr;have hR:Rel B F w0 wr pl { S with fr:=Cf 0 ss,nt:=fn.ntmps,up:=(S.nt,S.fr)::S.up } (vs++zC (fn.ntmps - vs.length) undef) (l::ls) w:=by refine⟨h.hL,h.hB,h.pre,h.hI,h.hln,h.nx,?_,h.ent,hfr,⟨l,ls,rfl,h.nt,h.fr,h.up⟩,h.tn⟩;simp_all
     refine enter hf hb rfl rfl ?_;refine lW henv (GQ henv heq d) (Hn:=True) (fun _ _=>rfl) c 1 wr pl _ _ w _ _ (PF.body (fun c w h=>by simp_all)) hR hv (fun e wr' pl' S' l' w' h' hw hv'=>?_);obtain rfl:=hw trivial
     have key:(∀i,e ≠ .x i)->(match S'.up with
       | (n,fr)::up=>jL P S' fn.results.toList fun ss=>K { S' with fr:=fr,nt:=n,up:=up } (NC ss)
       | []=>none)=some r->bodyPost P fn (fun e w'=>∃v,e = .returned v∧KV v w') (E4 e) (mk l') w':=fun he hv'=>by
      split at hv'
      ·rename_i n fr up hup
       obtain⟨ss',us,hv',h2,h3⟩:=uU h' hv';have hu:=h'.up;rw[hup]at hu;obtain⟨l0,q0,e1,e2,e3,e4⟩:=hu;cases e1;refine Et (Aw hcond.2 h2 ⟨_,rfl,?_⟩) e he;refine hk pl' { S' with fr:=fr,nt:=n,up:=up } (NC ss') (pI us) w' ⟨h'.hL,h'.hB,h'.pre,h'.hI,h'.hln,h'.nx,e2,h'.ent,e3,e4,h'.tn⟩ ?_ (NF h3) hv';show n=S.nt;rw[<- h.nt];omega
      simp_all
     cases e with
     | n=>exact key (fun _ e=>by cases e) hv'
     | r=>exact key (fun _ e=>by cases e) hv'
     | x i=>cases hv'
    grind
   grind
  grind
end
def iw:(a:List Ty)->As a->As a->Bool
 | [],_,_=>true
 | t::r,x,y=>eqV t x.1 y.1 && iw r x.2 y.2
theorem R8:∀(rs:List Ty) (x y:As rs),iw rs x y=true->x=y
 | [],_,_,_=>rfl
 | t::r,x,y,h=>by simp only[iw,zL]at h;exact Prod.ext (nM t _ _ h.1) (R8 r _ _ h.2)
def idb(k:Nat):Nat->List (Nat×Option Nat)
 | 0=>[]
 | n+1=>(k,some k)::idb (k+1) n
def idw(k:Nat):Nat->List (Nat×Nat)
 | 0=>[]
 | n+1=>(k,k)::idw (k+1) n
def UX:List (Nat×TE)->Nat->Bool
 | [],_=>false
 | (j,_)::q,i=>if j=i then true else UX q i
def GR(a c:Nat)(b:List (Nat×TE)):List (Nat×Option Nat)->Bool
 | []=>true
 | (i,_)::q=>(decide (i<a) || (decide (i<a+c) && UX b i)) && GR a c b q
def Ay(P:Program)(fn:Func)(sh:Sh):Kt (As sh.rs):=fun e S=>match e with
 | .x _=>none
 | _=>jL P S fn.results.toList fun ss=>jL P (kX (wnt sh.ro sh.eo ss S.own (idw 0 sh.es.length)) S) fn.results.toList fun ss' =>
  (mA sh.ro sh.eo ss' (kX (wnt sh.ro sh.eo ss S.own (idw 0 sh.es.length)) S).own (idb 0 sh.es.length)).bind fun mt =>
   if GR sh.es.length sh.nn sh.eo mt.bd=true then NB sh.rs mt.ds else none
def evT(P:Program)(env:Env)(d fuel:Nat)(hs:Nat->Option Hint)(f:FuncId)(sh:Sh)(x:As sh.ps):Option (As sh.rs) :=
 match P.funcs[f]? with
 | some fn=>match fn.body with
  | some c=>match fA sh.as (en 0 sh.es) (qG sh.ps x) with
   | some (ss,own)=>if ss.length≤fn.ntmps∧fn.results.size≤5 then ev P env (evC P env fuel (iw sh.rs) d) fuel hs 1 c { fr:=Cf 0 ss,nt:=fn.ntmps,up:=[],own:=own,nx:=sh.es.length,log:=[],ln:=sh.es.length } (Ay P fn sh) else none
   | none=>none
  | none=>none
 | none=>none
section
variable {B:Nat->Prop}{F:Lx}{w0:Bs}{wr:Wr}{pl pl':List Place}{S S':St}{l l':List Value}{ls:List (List Value)}{w w':World}{L L' M:Lx}{P:Program}{env:Env}{fuel:Nat}
theorem R9:∀{n k:Nat} {x:Nat×Option Nat},x∈idb k n↔k≤x.1∧x.1<k+n∧x.2=some x.1
 | 0,k,x=>by grind[idb]
 | n+1,k,x=>by rw[idb,List.mem_cons,R9];grind
theorem Sc:∀{eo:List (Nat×TE)} {i:Nat},UX eo i=true->∃x∈eo,x.1=i
 | (j,t)::q,i,h=>by
  unfold UX at h;split at h
  ·rename_i e;exact⟨_,List.mem_cons_self ..,e⟩
  ·obtain⟨x,hx,e⟩:=Sc h
   exact⟨x,zO _ hx,e⟩
theorem OA{n nn:Nat}{eo:List (Nat×TE)}:∀{bd:List (Nat×Option Nat)},GR n nn eo bd=true->∀x∈bd,x.1<n∨(x.1<n+nn∧∃y∈eo,y.1=x.1)
 | [],_,x,hx=>by cases hx
 | (i,b)::q,h,x,hx=>by
  simp only[GR,zL,Bool.or_eq_true,decide_eq_true_eq]at h;rcases List.mem_cons.1 hx with hx | hx
  ·grind[Sc]
  ·exact OA h.2 x hx
theorem Cg{I:World->Prop}(henv:iK P I env){d:Nat}{hs:Nat->Option Hint}{f:FuncId}{sh:Sh}{m:As sh.ps->Option (As sh.rs)}(hm:∀x,evT P env d fuel hs f sh x=m x):au P I f ⟨sh,m⟩:=by
 intro F w0 pl x y ss own vs hx hfA hpl hI hL hE hD;have hx:m x=some y:=hx;have hfA:fA sh.as (en 0 sh.es) (qG sh.ps x)=some (ss,own):=hfA;have hpl:pl.length=sh.es.length:=hpl;rw[<- hm x]at hx;unfold evT at hx;split at hx
 ·rename_i fn hf
  split at hx
  ·rename_i c hb
   rw[hfA]at hx;simp only at hx;split at hx
   ·rename_i hcond
    have hlen:=hD.len;have hfr:=Oz (pre:=[]) (post:=zC (fn.ntmps - vs.length) undef) hD;simp only[List.length_nil,List.nil_append]at hfr;have hR:Rel (Bo pl own w0) F ⟨w0,pl,I⟩ ⟨w0,lx pl own++F,sh.es.length,pl,ids own⟩ pl { fr:=Cf 0 ss,nt:=fn.ntmps,up:=[],own:=own,nx:=sh.es.length,log:=[],ln:=sh.es.length } (vs++zC (fn.ntmps - vs.length) undef) [] w0:=by refine⟨hL,Blw.refl _ _,fun _ _ h=>h,hI,hpl.symm,hpl.symm,?_,hE,hfr,rfl,⟨Fz.refl _ _,Sub.refl _ _,Nat.le_refl _,fun _ _ h=>h,fun e he _=>List.mem_map_of_mem (f:=fun e:Nat×Ent=>e.1) he,fun _ _ _ _ _ _=>rfl⟩⟩;simp_all
    refine enter hf hb rfl rfl ?_;refine lW henv (GQ henv (R8 sh.rs) d) (Hn:=False) (fun h=>h.elim) c 1 _ pl _ _ w0 _ _ (PF.body (fun c w h=>by simp_all)) hR hx (fun e wr' pl' S' l' w' h' hw hv'=>?_)
    have key:(∀i,e ≠ .x i)->(jL P S' fn.results.toList fun ss=>jL P (kX (wnt sh.ro sh.eo ss S'.own (idw 0 sh.es.length)) S') fn.results.toList fun ss' =>
      (mA sh.ro sh.eo ss' (kX (wnt sh.ro sh.eo ss S'.own (idw 0 sh.es.length)) S').own (idb 0 sh.es.length)).bind fun mt =>
      if GR sh.es.length sh.nn sh.eo mt.bd=true then NB sh.rs mt.ds else none)=some y ->
      bodyPost P fn (fun e w'=>∃us,e = .returned (pI us)∧After sh y F w0 pl own w' us) (E4 e) (mk l') w':=fun he hv'=>by
     obtain⟨ss0,_,hv',_,_⟩:=uU h' hv';have hz:=(uP (q:=wnt sh.ro sh.eo ss0 S'.own (idw 0 sh.es.length)) h').1;generalize kX (wnt sh.ro sh.eo ss0 S'.own (idw 0 sh.es.length)) S'=S1 at hv' hz;obtain⟨ss1,us,hv',h3,h4⟩:=uU hz hv';obtain⟨mt,hmt,hv'⟩:=bK hv';split at hv'
     ·rename_i hout
      have hout:=OA hout;obtain⟨rr,own',hfo,mo⟩:=agv (w:=w') (L:=lx pl' S1.own++F) (pl:=pl') hz.ent hmt;rw[<- Ij hv']at hfo
      let gp (i:Nat):Place:=match get mt.bd (sh.es.length+i) with
       | some (some j)=>(pl'[j]?).getD ⟨none,0,0⟩
       | _=>⟨none,0,0⟩
      let plo:List Place:=pl++(List.range sh.nn).map gp
      have hpre:∀i p,pl[i]? = some p->pl'[i]? = some p:=hz.pre
      have hb:BdOk pl' plo mt.bd:=fun z hz'=>by
       have hfn:=mo.fn z hz';obtain⟨i,b⟩:=z;simp only at hfn ⊢;rcases Nat.lt_or_ge i sh.es.length with hi | hi
       ·have h0:(i,some i)∈mt.bd:=mo.old _ (R9.2 ⟨Nat.zero_le _,by omega,rfl⟩)
        have:=mo.fn _ h0;grind
       ·rcases hout _ hz' with h5 | ⟨h5,q,hq,hq1⟩
        ·omega
        ·simp only at h5 hq1
         have hat:plo[i]? = some (gp (i - sh.es.length)):=by grind
         have hgp:gp (i - sh.es.length)=match (some b:Option (Option Nat)) with
           | some (some j)=>(pl'[j]?).getD ⟨none,0,0⟩
           | _=>⟨none,0,0⟩:=by
          grind
         cases b with
         | none=>simp_all
         | some j =>
          obtain⟨b',hb1,hb2⟩:=mo.has q hq;rw[hq1]at hb1;have:=mo.fn _ hb1;simp only at this;rw[hfn]at this;cases this;obtain⟨e,he⟩:=hb2 j rfl;obtain⟨p,hp⟩:=(hz.ent _ (get_mem he)).place;simp_all
      obtain⟨hd',he'⟩:=mo.den plo hb;obtain⟨hpair,hmem⟩:=mo.pair hz.hL hb;have hsub:∀k,some k∈lx plo own'++F->some k∈lx pl' S1.own++F:=fun k hk=>by grind
      refine Et (Aw hcond.2 h3 ⟨us,rfl,plo,rr,own',hfo,ND _,by grind,hz.hB,?_,he'.sub hsub,(hd' us h4).ext (Ext.sub hsub)⟩) e he;have hin:∀k,some k∈lx plo own'->some k∈lx pl' S1.own:=fun k hk=>by grind
      exact⟨hpair,fun k hk=>hz.hL.lo k (hin k hk),fun k hk=>hz.hL.hi k (hin k hk),hz.hL.base,hz.hL.far⟩
     simp_all
    cases e with
    | n=>exact key (fun _ e=>by cases e) hv'
    | r=>exact key (fun _ e=>by cases e) hv'
    | x i=>cases hv'
   grind
  grind
 grind
end
end Ev
end
noncomputable section
namespace Ev
open Go Go.RowKit Sx
abbrev Us(R:Type):=List (St->Option R)
abbrev Orc(R:Type):=Nat->Us R->St->Option R
section
variable {R:Type}
def evJ(P:Program)(env:Env)(cl:Cl R)(fuel:Nat)(hs:Nat->Option Hint)(J:Orc R):Us R->Nat->Code->St->Kt R->Option R
 | _,_,.skip,S,k=>k .n S
 | _,_,.label _,S,k=>k .n S
 | _,_,.ret,S,k=>k .r S
 | _,_,.exit id,S,k=>k (.x id) S
 | us,p,.seq x y,S,k=>match hs p with
  | some h=>evJ P env cl fuel hs J us (2*p) x S (gz P (some h) (J p us) k)
  | none=>evJ P env cl fuel hs J us (2*p) x S (gz P none (fun S'=>evJ P env cl fuel hs J us (2*p+1) y S' k) k)
 | us,p,.block id c,S,k=>evJ P env cl fuel hs J us (2*p) c S (Ce id k)
 | us,p,.cond c x y,S,k=>match c with
  | .tmp t=>if t<S.nt then match get S.fr t with
   | some (.d .bool b)=>if b=true then evJ P env cl fuel hs J us (2*p) x { S with fr:=(t,.d .bool true)::S.fr } k else evJ P env cl fuel hs J us (2*p+1) y { S with fr:=(t,.d .bool false)::S.fr } k
   | _=>none else none
  | .const (.bool b)=>if b=true then evJ P env cl fuel hs J us (2*p) x S k else evJ P env cl fuel hs J us (2*p+1) y S k
  | _=>none
 | _,_,.region _ ⟨ops⟩ draw,S,k=>UT P env cl ops draw S (k .n)
 | us,p,.loop c,S,k=>match hs p with
  | some h=>(nrm P h S).bind (J p us)
  | none=>aj (fun self S=>evJ P env cl fuel hs J (us++[self]) (2*p) c S (gz P none self k)) fuel S
 | _,_,.rangeFunc _ _ _ _,_,_=>none
 | _,_,.scope _,_,_=>none
 | _,_,.goto _,_,_=>none
 | _,_,.refuse _,_,_=>none
def lft(q p:Nat):Bool:=q / 2 ^ (q.log2 - p.log2 - 1)%2 == 0
def In(q p:Nat):Prop:=∃n r,q=p*2 ^ n+r∧r<2 ^ n
theorem In.self(p:Nat):In p p:=⟨0,0,by simp,by simp⟩
theorem In.l{q p:Nat}:In q (2*p)->In q p:=fun ⟨n,r,h1,h2⟩=>⟨n+1,r,by grind,by omega⟩
theorem In.r{q p:Nat}:In q (2*p+1)->In q p:=fun ⟨n,r,h1,h2⟩=>⟨n+1,2 ^ n+r,by grind,by omega⟩
theorem In.cases{q p:Nat}:In q p->q=p∨In q (2*p)∨In q (2*p+1):=fun ⟨n,r,h1,h2⟩=>by
 cases n with
 | zero=>omega
 | succ n =>
  right;have e:p*2 ^ (n+1)=2*p*2 ^ n:=by grind
  have e2:2 ^ (n+1)=2 ^ n+2 ^ n:=by omega
  have e3:(2*p+1)*2 ^ n=2*p*2 ^ n+2 ^ n:=by grind
  by_cases h:r<2 ^ n
  ·exact .inl ⟨n,r,by omega,h⟩
  ·exact .inr ⟨n,r - 2 ^ n,by omega,by omega⟩
theorem DN{p n r:Nat}(hp:0<p)(hr:r<2 ^ n):(p*2 ^ n+r).log2=p.log2+n:=by
 have h2:0<2 ^ n:=Nat.pow_pos (by decide);have hne:p*2 ^ n+r≠0:=by have:=Nat.mul_pos hp h2;omega
 apply Nat.le_antisymm
 ·apply Nat.le_of_lt_succ
  rw[Nat.log2_lt hne,Nat.succ_eq_add_one,show p.log2+n+1=(p.log2+1)+n from by omega,Nat.pow_add];have h1:p<2 ^ (p.log2+1):=(Nat.log2_lt (by omega)).1 (Nat.lt_succ_self _)
  calc p*2 ^ n+r<p*2 ^ n+2 ^ n:=by omega
   _=(p+1)*2 ^ n:=by grind
   _≤_:=Nat.mul_le_mul_right _ h1
 ·rw[Nat.le_log2 hne,Nat.pow_add]
  have h1:2 ^ p.log2≤p:=(Nat.le_log2 (by omega)).1 (Nat.le_refl _);have:=Nat.mul_le_mul_right (2 ^ n) h1;omega
theorem jG{q p:Nat}(hp:0<p):In q (2*p)->lft q p=true:=fun ⟨n,r,h1,h2⟩=>by
 unfold lft;have hl:q.log2=(2*p).log2+n:=by simp_all[DN]
 have hl2:(2*p).log2=p.log2+1:=by have:=DN (p:=p) (n:=1) (r:=0) hp (by decide);grind
 grind[Nat.mul_comm,Nat.mul_add_div,Nat.pow_pos,Nat.div_eq_of_lt]
theorem nS{q p:Nat}(hp:0<p):In q (2*p+1)->lft q p=false:=fun ⟨n,r,h1,h2⟩=>by
 unfold lft;have hl:q.log2=(2*p+1).log2+n:=by simp_all[DN]
 have hl2:(2*p+1).log2=p.log2+1:=by have:=DN (p:=p) (n:=1) (r:=1) hp (by decide);grind
 have e:q.log2 - p.log2 - 1=n:=by omega
 rw[e,h1];have:((2*p+1)*2 ^ n+r) / 2 ^ n=2*p+1:=by rw[Nat.mul_comm (2*p+1),Nat.mul_add_div (Nat.pow_pos (by decide)),Nat.div_eq_of_lt h2,Nat.add_zero]
 simp_all
theorem In.pos{q p:Nat}(hp:0<p):In q p->p≤q:=fun ⟨n,r,h1,_⟩=>by have h2:0<2 ^ n:=Nat.pow_pos (by decide);have:=Nat.mul_le_mul_left p h2;omega
def fnd(P:Program)(env:Env)(cl:Cl R)(fuel:Nat)(hs:Nat->Option Hint)(q:Nat):Code->Nat->Kt R->Us R->St->Option R
 | .seq x y,p,k,us=>if q=p then fun S=>ev P env cl fuel hs (2*p+1) y S k
  else if lft q p=true then fnd P env cl fuel hs q x (2*p) (gz P (hs p) (fun S'=>ev P env cl fuel hs (2*p+1) y S' k) k) us else fnd P env cl fuel hs q y (2*p+1) k us
 | .block id c,p,k,us=>if q=p then fun _=>none else if lft q p=true then fnd P env cl fuel hs q c (2*p) (Ce id k) us else fun _=>none
 | .cond _ x y,p,k,us=>if q=p then fun _=>none else if lft q p=true then fnd P env cl fuel hs q x (2*p) k us else fnd P env cl fuel hs q y (2*p+1) k us
 | .loop c,p,k,us=>match us with
  | []=>if q=p then fun S=>aj (fun self S=>ev P env cl fuel hs (2*p) c S (gz P (hs p) self k)) fuel S else fun _=>none
  | u::us=>if q=p then fun S=>ev P env cl fuel hs (2*p) c S (gz P (hs p) u k) else if lft q p=true then fnd P env cl fuel hs q c (2*p) (gz P (hs p) u k) us else fun _=>none
 | _,_,_,_=>fun _=>none
def pce(P:Program)(env:Env)(cl:Cl R)(fuel:Nat)(hs:Nat->Option Hint)(J:Orc R)(q:Nat):Code->Nat->Kt R->Us R->Us R->St->Option R
 | .seq x y,p,k,u0,us=>if q=p then fun S=>evJ P env cl fuel hs J u0 (2*p+1) y S k
  else if lft q p=true then pce P env cl fuel hs J q x (2*p) (match hs p with
   | some h=>gz P (some h) (J p u0) k
   | none=>gz P none (fun S'=>evJ P env cl fuel hs J u0 (2*p+1) y S' k) k) u0 us else pce P env cl fuel hs J q y (2*p+1) k u0 us
 | .block id c,p,k,u0,us=>if q=p then fun _=>none else if lft q p=true then pce P env cl fuel hs J q c (2*p) (Ce id k) u0 us else fun _=>none
 | .cond _ x y,p,k,u0,us=>if q=p then fun _=>none else if lft q p=true then pce P env cl fuel hs J q x (2*p) k u0 us else pce P env cl fuel hs J q y (2*p+1) k u0 us
 | .loop c,p,k,u0,us=>match us with
  | []=>if q=p then fun S=>aj (fun self S=>evJ P env cl fuel hs J (u0++[self]) (2*p) c S (gz P (hs p) self k)) fuel S else fun _=>none
  | u::us=>if q=p then fun S=>evJ P env cl fuel hs J (u0++[u]) (2*p) c S (gz P (hs p) u k) else if lft q p=true then pce P env cl fuel hs J q c (2*p) (gz P (hs p) u k) (u0++[u]) us else fun _=>none
 | _,_,_,_,_=>fun _=>none
end
section
variable {R:Type}{P:Program}{env:Env}{cl:Cl R}{fuel:Nat}{hs:Nat->Option Hint}{J:Orc R}
theorem GU:∀{c:Code} {p:Nat} {us:Us R} {S:St} {k:Kt R},0<p->(∀q us',In q p->J q (us++us')=fnd P env cl fuel hs q c p k us')->evJ P env cl fuel hs J us p c S k=ev P env cl fuel hs p c S k:=by
 intro c
 induction c with
 | skip=>intros;rfl
 | label _=>intros;rfl
 | ret=>intros;rfl
 | exit _=>intros;rfl
 | rangeFunc=>intros;rfl
 | scope=>intros;rfl
 | goto=>intros;rfl
 | refuse=>intros;rfl
 | region id ops draw=>intros;rfl
 | seq x y ihx ihy =>
  intro p us S k hp H;have hx:∀q us',In q (2*p)->J q (us++us')=fnd P env cl fuel hs q x (2*p) (gz P (hs p) (fun S'=>ev P env cl fuel hs (2*p+1) y S' k) k) us':=fun q us' hq=>by rw[H q us' hq.l,fnd,if_neg (by have:=In.pos (by omega) hq;omega),if_pos (jG hp hq)]
  have hy:∀q us',In q (2*p+1)->J q (us++us')=fnd P env cl fuel hs q y (2*p+1) k us':=fun q us' hq=>by rw[H q us' hq.r,fnd,if_neg (by have:=In.pos (by omega) hq;omega),if_neg (by rw[nS hp hq];decide)]
  have hJ:J p us=fun S=>ev P env cl fuel hs (2*p+1) y S k:=by have:=H p [] (In.self p);rw[List.append_nil]at this;rw[this,fnd,if_pos rfl]
  rw[evJ,ev];split
  ·rename_i h hh
   rw[hJ,<- hh];exact ihx (by omega) hx
  ·rename_i hh
   have:(fun S'=>evJ P env cl fuel hs J us (2*p+1) y S' k)=(fun S'=>ev P env cl fuel hs (2*p+1) y S' k):=funext fun S'=>ihy (by omega) hy;rw[this,<- hh];exact ihx (by omega) hx
 | block id c ih =>
  intro p us S k hp H;rw[evJ,ev];exact ih (by omega) (fun q us' hq=>by rw[H q us' hq.l,fnd,if_neg (by have:=In.pos (by omega) hq;omega),if_pos (jG hp hq)])
 | cond c x y ihx ihy =>
  intro p us S k hp H;have hx:∀q us',In q (2*p)->J q (us++us')=fnd P env cl fuel hs q x (2*p) k us':=fun q us' hq=>by rw[H q us' hq.l,fnd,if_neg (by have:=In.pos (by omega) hq;omega),if_pos (jG hp hq)]
  have hy:∀q us',In q (2*p+1)->J q (us++us')=fnd P env cl fuel hs q y (2*p+1) k us':=fun q us' hq=>by rw[H q us' hq.r,fnd,if_neg (by have:=In.pos (by omega) hq;omega),if_neg (by rw[nS hp hq];decide)]
  have e1:∀S,evJ P env cl fuel hs J us (2*p) x S k=ev P env cl fuel hs (2*p) x S k:=fun S=>ihx (by omega) hx;have e2:∀S,evJ P env cl fuel hs J us (2*p+1) y S k=ev P env cl fuel hs (2*p+1) y S k:=fun S=>ihy (by omega) hy;unfold evJ ev;simp only[e1,e2]
  all_goals rfl
 | loop c ih =>
  intro p us S k hp H;have hJ:J p us=fun S=>aj (fun self S=>ev P env cl fuel hs (2*p) c S (gz P (hs p) self k)) fuel S:=by have:=H p [] (In.self p);rw[List.append_nil]at this;rw[this,fnd,if_pos rfl]
  rw[evJ,ev];split
  ·rename_i h hh
   rw[hJ,hh]
  ·rename_i hh
   have:(fun self S=>evJ P env cl fuel hs J (us++[self]) (2*p) c S (gz P none self k))=(fun self S=>ev P env cl fuel hs (2*p) c S (gz P (hs p) self k)):=by funext self S;rw[hh];refine ih (by omega) (fun q us' hq=>?_);rw[List.append_assoc,H q _ hq.l,List.singleton_append,fnd,if_neg (by have:=In.pos (by omega) hq;omega),if_pos (jG hp hq),hh]
   rw[this,hh]
theorem ZI{q:Nat}:∀{c:Code} {p:Nat} {u0:Us R} {k:Kt R} {us:Us R},0<p->In q p->(∀q us',In q p->J q (u0++us')=fnd P env cl fuel hs q c p k us')->pce P env cl fuel hs J q c p k u0 us=fnd P env cl fuel hs q c p k us:=by
 intro c
 induction c with
 | skip=>intros;rfl
 | label _=>intros;rfl
 | ret=>intros;rfl
 | exit _=>intros;rfl
 | rangeFunc=>intros;rfl
 | scope=>intros;rfl
 | goto=>intros;rfl
 | refuse=>intros;rfl
 | region id ops draw=>intros;rfl
 | seq x y ihx ihy =>
  intro p us k us2 hp hq H;have hx:∀q us',In q (2*p)->J q (us++us')=fnd P env cl fuel hs q x (2*p) (gz P (hs p) (fun S'=>ev P env cl fuel hs (2*p+1) y S' k) k) us':=fun q us' hq=>by rw[H q us' hq.l,fnd,if_neg (by have:=In.pos (by omega) hq;omega),if_pos (jG hp hq)]
  have hy:∀q us',In q (2*p+1)->J q (us++us')=fnd P env cl fuel hs q y (2*p+1) k us':=fun q us' hq=>by rw[H q us' hq.r,fnd,if_neg (by have:=In.pos (by omega) hq;omega),if_neg (by rw[nS hp hq];decide)]
  have hJ:J p us=fun S=>ev P env cl fuel hs (2*p+1) y S k:=by have:=H p [] (In.self p);rw[List.append_nil]at this;rw[this,fnd,if_pos rfl]
  have he:(fun S'=>evJ P env cl fuel hs J us (2*p+1) y S' k)=(fun S'=>ev P env cl fuel hs (2*p+1) y S' k):=funext fun S'=>GU (by omega) hy;rw[pce,fnd];rcases hq.cases with h | h | h
  ·rw[if_pos h,if_pos h];exact he
  ·have hne:q≠p:=by have:=In.pos (by omega) h;omega
   rw[if_neg hne,if_neg hne,if_pos (jG hp h),if_pos (jG hp h)]
   have hk:(match hs p with
    | some h=>gz P (some h) (J p us) k
    | none=>gz P none (fun S'=>evJ P env cl fuel hs J us (2*p+1) y S' k) k)=gz P (hs p) (fun S'=>ev P env cl fuel hs (2*p+1) y S' k) k:=by
    split
    ·rename_i hn hh;rw[hJ,hh]
    ·rename_i hh;rw[he,hh]
   rw[hk];exact ihx (by omega) h hx
  ·have hne:q≠p:=by have:=In.pos (by omega) h;omega
   rw[if_neg hne,if_neg hne,if_neg (by rw[nS hp h];decide),if_neg (by rw[nS hp h];decide)];exact ihy (by omega) h hy
 | block id c ih =>
  intro p us k us2 hp hq H;rw[pce,fnd];rcases hq.cases with h | h | h
  ·rw[if_pos h,if_pos h]
  ·have hne:q≠p:=by have:=In.pos (by omega) h;omega
   rw[if_neg hne,if_neg hne,if_pos (jG hp h),if_pos (jG hp h)];exact ih (by omega) h (fun q us' hq=>by rw[H q us' hq.l,fnd,if_neg (by have:=In.pos (by omega) hq;omega),if_pos (jG hp hq)])
  ·have hne:q≠p:=by have:=In.pos (by omega) h;omega
   rw[if_neg hne,if_neg hne,if_neg (by rw[nS hp h];decide),if_neg (by rw[nS hp h];decide)]
 | cond c x y ihx ihy =>
  intro p us k us2 hp hq H;have hx:∀q us',In q (2*p)->J q (us++us')=fnd P env cl fuel hs q x (2*p) k us':=fun q us' hq=>by rw[H q us' hq.l,fnd,if_neg (by have:=In.pos (by omega) hq;omega),if_pos (jG hp hq)]
  have hy:∀q us',In q (2*p+1)->J q (us++us')=fnd P env cl fuel hs q y (2*p+1) k us':=fun q us' hq=>by rw[H q us' hq.r,fnd,if_neg (by have:=In.pos (by omega) hq;omega),if_neg (by rw[nS hp hq];decide)]
  rw[pce,fnd];rcases hq.cases with h | h | h
  ·rw[if_pos h,if_pos h]
  ·have hne:q≠p:=by have:=In.pos (by omega) h;omega
   rw[if_neg hne,if_neg hne,if_pos (jG hp h),if_pos (jG hp h)];exact ihx (by omega) h hx
  ·have hne:q≠p:=by have:=In.pos (by omega) h;omega
   rw[if_neg hne,if_neg hne,if_neg (by rw[nS hp h];decide),if_neg (by rw[nS hp h];decide)];exact ihy (by omega) h hy
 | loop c ih =>
  intro p us k us2 hp hq H;have hb:∀(u:St->Option R) q us',In q (2*p)->J q ((us++[u])++us')=fnd P env cl fuel hs q c (2*p) (gz P (hs p) u k) us':=fun u q us' hq=>by rw[List.append_assoc,H q _ hq.l,List.singleton_append,fnd,if_neg (by have:=In.pos (by omega) hq;omega),if_pos (jG hp hq)]
  have he:∀u S,evJ P env cl fuel hs J (us++[u]) (2*p) c S (gz P (hs p) u k)=ev P env cl fuel hs (2*p) c S (gz P (hs p) u k):=fun u S=>GU (by omega) (hb u)
  cases us2 with
  | nil =>
   rw[pce,fnd];split
   ·simp only[he]
   ·rfl
  | cons u us2 =>
   rw[pce,fnd];rcases hq.cases with h | h | h
   ·rw[if_pos h,if_pos h]
    simp only[he]
   ·have hne:q≠p:=by have:=In.pos (by omega) h;omega
    rw[if_neg hne,if_neg hne,if_pos (jG hp h),if_pos (jG hp h)];exact ih (by omega) h (hb u)
   ·have hne:q≠p:=by have:=In.pos (by omega) h;omega
    rw[if_neg hne,if_neg hne,if_neg (by rw[nS hp h];decide),if_neg (by rw[nS hp h];decide)]
theorem ru{σ:Type}{mk:σ->St}{F:(St->Option R)->St->Option R}{G:(σ->Option R)->σ->Option R}(h:∀g s,F g (mk s)=G (fun t=>g (mk t)) s):∀n s,aj F n (mk s)=aj G n s
 | 0,s=>rfl
 | n+1,s=>by
  have ih:=ru h n;show F (aj F n) (mk s)=G (aj G n) s;rw[h]
  congr 1
  funext t;exact ih t
theorem In.one:∀{q:Nat},0<q->In q 1:=fun {q} h=>⟨q.log2,q - 2 ^ q.log2,by
  have:=(Nat.le_log2 (n:=q) (k:=q.log2) (by omega)).1 (Nat.le_refl _)
  omega,by
  have h1:q<2 ^ (q.log2+1):=(Nat.log2_lt (by omega)).1 (Nat.lt_succ_self _)
  omega⟩
def jfn(P:Program)(env:Env)(d fuel:Nat)(hs:Nat->Option Hint)(f:FuncId)(sh:Sh):Orc (As sh.rs):=fun q us =>
 match P.funcs[f]? with
 | some fn=>match fn.body with
  | some c=>fnd P env (evC P env fuel (iw sh.rs) d) fuel hs q c 1 (Ay P fn sh) us
  | none=>fun _=>none
 | none=>fun _=>none
def pfn(P:Program)(env:Env)(d fuel:Nat)(hs:Nat->Option Hint)(f:FuncId)(sh:Sh)(J:Orc (As sh.rs)):Orc (As sh.rs):=fun q us =>
 match P.funcs[f]? with
 | some fn=>match fn.body with
  | some c=>pce P env (evC P env fuel (iw sh.rs) d) fuel hs J q c 1 (Ay P fn sh) [] us
  | none=>fun _=>none
 | none=>fun _=>none
def rfn(P:Program)(env:Env)(d fuel:Nat)(hs:Nat->Option Hint)(f:FuncId)(sh:Sh)(J:Orc (As sh.rs))(x:As sh.ps):Option (As sh.rs) :=
 match P.funcs[f]? with
 | some fn=>match fn.body with
  | some c=>match fA sh.as (en 0 sh.es) (qG sh.ps x) with
   | some (ss,own)=>if ss.length≤fn.ntmps∧fn.results.size≤5 then evJ P env (evC P env fuel (iw sh.rs) d) fuel hs J [] 1 c { fr:=Cf 0 ss,nt:=fn.ntmps,up:=[],own:=own,nx:=sh.es.length,log:=[],ln:=sh.es.length } (Ay P fn sh) else none
   | none=>none
  | none=>none
 | none=>none
theorem GV{d:Nat}{f:FuncId}{sh:Sh}{q:Nat}{us:Us (As sh.rs)}(hq:0<q):jfn P env d fuel hs f sh q us=pfn P env d fuel hs f sh (jfn P env d fuel hs f sh) q us:=by
 show _=(match P.funcs[f]? with
  | some fn=>match fn.body with
   | some c=>pce P env (evC P env fuel (iw sh.rs) d) fuel hs (jfn P env d fuel hs f sh) q c 1 (Ay P fn sh) [] us
   | none=>fun _=>none
  | none=>fun _=>none)
 grind[jfn,fnd,evC,iw,Ay,ZI,In.one]
theorem Ch{d:Nat}{f:FuncId}{sh:Sh}{x:As sh.ps}:evT P env d fuel hs f sh x=rfn P env d fuel hs f sh (jfn P env d fuel hs f sh) x:=by
 cases hf:P.funcs[f]? with
 | none=>unfold evT rfn;rw[hf]
 | some fn =>
  cases hb:fn.body with
  | none=>unfold evT rfn;rw[hf];simp only[hb]
  | some c =>
   have e:∀q us,jfn P env d fuel hs f sh q us=fnd P env (evC P env fuel (iw sh.rs) d) fuel hs q c 1 (Ay P fn sh) us:=fun q us=>by unfold jfn;rw[hf];simp only[hb]
   unfold evT rfn;rw[hf];simp only[hb];have e2:∀S,evJ P env (evC P env fuel (iw sh.rs) d) fuel hs (jfn P env d fuel hs f sh) [] 1 c S (Ay P fn sh)=ev P env (evC P env fuel (iw sh.rs) d) fuel hs 1 c S (Ay P fn sh):=fun S=>GU (by decide) (fun q us _=>by rw[List.nil_append];exact e q us)
   first
   | (simp only[e2];done)
   | (simp only[e2];rfl)
theorem zcc{P:Program}{I:World->Prop}{env:Env}{d:Nat}{hs:Nat->Option Hint}{f:FuncId}{sh:Sh}{m:As sh.ps->Option (As sh.rs)}(he:iK P I env)(R:Orc (As sh.rs)->As sh.ps->Option (As sh.rs))(hc:∀J x,rfn P env d 18446744073709551616 hs f sh J x=R J x)(ht:∀x,R (jfn P env d 18446744073709551616 hs f sh) x=m x):au P I f ⟨sh,m⟩:=Cg he fun x=>Ch.trans ((hc _ x).trans (ht x))
theorem ctn{P:Program}{I:World->Prop}{env:Env}{f:FuncId}{sh:Sh}{m:As sh.ps->Option (As sh.rs)}(he:iK P I env)(d:Nat)(hm:∀J x,rfn P env d 18446744073709551616 (Ev.get []) f sh J x=m x):au P I f ⟨sh,m⟩:=Cg he fun x=>Ch.trans (hm _ x)
def pN(q:Nat):Code->Nat->Nat->Bool
 | .seq x y,p,n=>if q=p then false else if lft q p=true then pN q x (2*p) n else pN q y (2*p+1) n
 | .block _ c,p,n=>if q=p then false else if lft q p=true then pN q c (2*p) n else false
 | .cond _ x y,p,n=>if q=p then false else if lft q p=true then pN q x (2*p) n else pN q y (2*p+1) n
 | .loop c,p,n=>match n with
  | 0=>decide (q=p)
  | n+1=>if q=p then false else if lft q p=true then pN q c (2*p) n else false
 | _,_,_=>false
def lpf(P:Program)(f:FuncId)(q n:Nat):Bool:=match P.funcs[f]? with
 | some fn=>match fn.body with
  | some c=>pN q c 1 n
  | none=>false
 | none=>false
theorem E5{q:Nat}:∀{c:Code} {p:Nat} {u0 us:Us R} {k:Kt R} {S:St},pN q c p us.length=true ->
  pce P env cl fuel hs J q c p k u0 us S=aj (fun self S=>pce P env cl fuel hs J q c p k u0 (us++[self]) S) fuel S:=by
 intro c
 induction c with
 | skip | label _ | ret | exit _ | rangeFunc | scope | goto | refuse | region _ _ _=>intro p u0 us k S h;cases h
 | seq x y ihx ihy =>
  intro p u0 us k S h;unfold pN at h;split at h
  ·cases h
  ·rename_i hne
   split at h
   ·simp_all[pce,if_neg,if_pos]
   simp_all[pce,if_neg]
 | block id c ih =>
  simp_all[pN,pce,if_neg,if_pos]
 | cond c x y ihx ihy =>
  intro p u0 us k S h;unfold pN at h;split at h
  ·cases h
  ·rename_i hne
   split at h
   ·simp_all[pce,if_neg,if_pos]
   simp_all[pce,if_neg]
 | loop c ih =>
  intro p u0 us k S h
  cases us with
  | nil =>
   have h:decide (q=p)=true:=h;simp_all[of_decide_eq_true,pce,List.nil_append,if_pos]
  | cons u us =>
   simp_all[lft,pN,pce,List.cons_append,if_neg,if_pos]
theorem OB{d:Nat}{f:FuncId}{sh:Sh}{J:Orc (As sh.rs)}{q:Nat}{us:Us (As sh.rs)}(h:lpf P f q us.length=true)(S:St) :
  pfn P env d fuel hs f sh J q us S=aj (fun self S=>pfn P env d fuel hs f sh J q (us++[self]) S) fuel S:=by
 cases hf:P.funcs[f]? with
 | none=>simp_all[lpf]
 | some fn =>
  cases hb:fn.body with
  | none=>simp_all[lpf]
  | some c =>
   simp_all[lpf,pfn,E5]
class CU(K R:Type) (G T:outParam Type) where
 cc:(St->R)->K->G
 tu:K->T->St
 un:G->T->R
 law:∀f k s,un (cc f k) s=f (tu k s)
 ext:∀g h,(∀s,un g s=un h s)->g=h
instance CU0 {A R:Type}:CU (A->St) R (A->R) A:=⟨fun f k a=>f (k a),fun k=>k,fun g=>g,fun _ _ _=>rfl,fun _ _ h=>funext h⟩
instance CU1 {A B K R G T:Type}[c:CU (B->K) R G T]:CU (A->B->K) R (A->G) (A×T):=⟨fun f k a=>c.cc f (k a),fun k s=>c.tu (k s.1) s.2,fun g s=>c.un (g s.1) s.2,fun f k s=>c.law f (k s.1) s.2,fun _ _ h=>funext fun a=>c.ext _ _ fun s=>h (a,s)⟩
def C{K R G T:Type}[c:CU K R G T](f:St->R)(k:K):G:=c.cc f k
theorem gNC{d:Nat}{f:FuncId}{sh:Sh}{q:Nat}{us:Us (As sh.rs)}{K G T:Type}[c:CU K (Option (As sh.rs)) G T]{k:K}{M:G}(hq:0<q)(h:∀s,pfn P env d fuel hs f sh (jfn P env d fuel hs f sh) q us (c.tu k s)=c.un M s):C (jfn P env d fuel hs f sh q us) k=M :=
 c.ext _ _ fun s=>(c.law _ _ s).trans (by rw[GV hq];exact h s)
theorem gLC{d:Nat}{f:FuncId}{sh:Sh}{q:Nat}{us:Us (As sh.rs)}{K G T:Type}[c:CU K (Option (As sh.rs)) G T]{k:K}{M:G}{F:(T->Option (As sh.rs))->T->Option (As sh.rs)}(hq:0<q)(hl:lpf P f q us.length=true)(hM:∀s,c.un M s=aj F fuel s)
  (h:∀w s,pfn P env d fuel hs f sh (jfn P env d fuel hs f sh) q (us++[w]) (c.tu k s)=F (fun t=>w (c.tu k t)) s):C (jfn P env d fuel hs f sh q us) k=M :=
 c.ext _ _ fun s=>(c.law _ _ s).trans (by rw[GV hq,OB hl,hM];exact ru h _ s)
theorem gN{d:Nat}{f:FuncId}{sh:Sh}{q:Nat}{us:Us (As sh.rs)}{S:St}{r:Option (As sh.rs)}(hq:0<q)(h:pfn P env d fuel hs f sh (jfn P env d fuel hs f sh) q us S=r):jfn P env d fuel hs f sh q us S=r:=by rw[GV hq];exact h
theorem gL{d:Nat}{f:FuncId}{sh:Sh}{q:Nat}{us:Us (As sh.rs)}{σ:Type}{mk:σ->St}{G:(σ->Option (As sh.rs))->σ->Option (As sh.rs)}(hq:0<q)(hl:lpf P f q us.length=true)
  (h:∀w s,pfn P env d fuel hs f sh (jfn P env d fuel hs f sh) q (us++[w]) (mk s)=G (fun t=>w (mk t)) s) (s:σ):jfn P env d fuel hs f sh q us (mk s)=aj G fuel s:=by
 rw[GV hq,OB hl];exact ru h _ s
end
def amJ:Sh:=⟨[],[],[],[],[],0,[]⟩
def UY:Ct:=⟨amJ,fun _=>none⟩
theorem UZ{P:Program}{I:World->Prop}{f:FuncId}:au P I f UY:=fun _ _ _ _ _ _ _ _ h=>by cases h
end Ev
end
noncomputable section
namespace Rw
open Go Ev Sx Go.RowKit
def dgo(g:TypeId->Option Ty)(P:Program):Nat->List Field->Option (List Ty)
 | _,[]=>some []
 | off,f::r=>(g f.type).bind fun a=>if f.offset=off∧P.cellsOf f.type=a.size then (dgo g P (off+a.size) r).map fun q=>a::q else none
def Ci:List Ty->Nat
 | []=>0
 | a::r=>a.size+Ci r
def dty(P:Program):Nat->TypeId->Option Ty
 | 0,_=>none
 | n+1,t=>match P.underlying t with
  | some (.int k)=>some (.int k)
  | some .bool=>some .bool
  | some .string=>some .str
  | some (.slice e)=>(dty P n e).bind fun y=>if P.cellsOf e=y.size∧y.size≠0 then some (.sl y) else none
  | some (.struct fs)=>(dgo (dty P n) P 0 fs.toList).bind fun l=>if P.cellsOf t=Ci l then some (uo l) else none
  | some (.array k e)=>(dty P n e).bind fun y=>if P.cellsOf e=y.size∧P.cellsOf t=k*y.size then some (.ar k y) else none
  | _=>none
def okV:(t:Ty)->Vl t->Prop
 | .int k,x=>(Lit.int k x).wf=true
 | .bool,_=>True
 | .str,x=>x.length≤maxLen
 | .sl t,xs=>xs.length≤maxLen∧∀x∈xs,okV t x
 | .pr a b,x=>okV a x.1∧okV b x.2
 | .wr a,x=>okV a x
 | .un,_=>True
 | .ar n t,xs=>xs.length=n∧∀x∈xs,okV t x
 | .mp _ _,_=>True
 | .cl _,_=>True
section
variable {H:Type}{enc:TypeId×Value->H}{P:Program}{w:World}{base:Nat}{sp:Nat->Bool}{held:Bool}
theorem aiO{t:Ty}{L:Lx}{cs:List Value}{x:Vl t}(h:(rp t).rel L w cs x):cs.length=t.size:=by rw[(rp t).len h,bV]
def ahz(d:World)(b:List Value)(c:Nat)(a:Ty):Prop:=∃v:Vl a,(rp a).rel [] d ((b.drop c).take a.size) v∧okV a v
def Az(c:World)(b:List Value):Nat->List Ty->Prop
 | _,[]=>True
 | off,a::r=>ahz c b off a∧Az c b (off+a.size) r
theorem ZJ{cs:List Value}:∀(r:List Ty) (a:Ty) (off:Nat),Az w cs off (a::r)->off+a.size+Ci r=cs.length->∃v:Vl (uo.prs a r),(rp (uo.prs a r)).rel [] w (cs.drop off) v∧okV (uo.prs a r) v
 | [],a,off,⟨⟨v,h1,h2⟩,_⟩,hl=>by have:(cs.drop off).take a.size=cs.drop off:=List.take_of_length_le (by grind[Ci]);rw[this]at h1;exact⟨v,h1,h2⟩
 | b::r,a,off,⟨⟨v,h1,h2⟩,h3⟩,hl=>by obtain⟨u,h4,h5⟩:=ZJ r b (off+a.size) h3 (by grind[Ci]);refine⟨(v,u),⟨(cs.drop off).take a.size,cs.drop (off+a.size),?_,h1,h4⟩,h2,h5⟩;grind[List.drop_drop,List.take_append_drop]
theorem aiP{cs:List Value}:∀(l:List Ty),Az w cs 0 l->Ci l=cs.length->∃v:Vl (uo l),(rp (uo l)).rel [] w cs v∧okV (uo l) v
 | [],_,hl=>⟨(),(by show cs=[];exact List.eq_nil_of_length_eq_zero hl.symm),trivial⟩
 | [a],⟨⟨v,h1,h2⟩,_⟩,hl=>by
  have:(cs.drop 0).take a.size=cs:=by simp_all[List.drop_zero,List.take_of_length_le,Ci]
  rw[this]at h1;exact⟨v,h1,h2⟩
 | a::b::r,h,hl=>ZJ (b::r) a 0 h (by simp_all[Ci])
theorem ZK{g:TypeId->Option Ty}{cs:List Value}(ih:∀t y n c x,g t=some y->DataW.trod enc P w base sp held n t c=some x->∃v:Vl y,(rp y).rel [] w c v∧okV y v)(n:Nat) :
  ∀(fs:List Field) (off:Nat) (l:List Ty),dgo g P off fs=some l->(∀f∈fs,∃x,DataW.trod enc P w base sp held n f.type ((cs.drop f.offset).take (P.cellsOf f.type))=some x)->Az w cs off l
 | [],off,l,h,_=>by cases h;trivial
 | f::r,off,l,h,hx=>by
  obtain⟨a,h1,h⟩:=Option.bind_eq_some_iff.1 h;split at h
  ·rename_i hc
   obtain⟨q,h2,rfl⟩:=Option.map_eq_some_iff.1 h;obtain⟨x,h3⟩:=hx f (List.mem_cons_self ..);obtain⟨v,h4,h5⟩:=ih _ _ _ _ _ h1 h3;rw[hc.1,hc.2]at h4;exact⟨⟨v,h4,h5⟩,ZK ih n r _ _ h2 fun f hf=>hx f (zO _ hf)⟩
  grind
theorem abO{a:Addr}{n:Nat}{cs:List Value}(h:w.cells? base a n=some cs):cs.length=n∧∀j v,cs[j]? = some v->w.cell? (a.add j)=some v:=by
 unfold World.cells? at h;split at h
 ·have hl:cs.length=n:=by simpa using mapM_some_length h
  refine⟨hl,fun j v hj=>?_⟩;have hjl:j<n:=by grind
  have:=mapM_some_get h j j (by grind);simp_all
 grind
theorem U0{a:Addr}{v:Value}(h:w.cell? a=some v):a.spot=none∧a.block<w.heap.size:=by
 unfold World.cell? at h;split at h
 ·rename_i hb
  split at h
  ·cases h
  ·rename_i hs
   exact⟨by simp_all,(Array.getElem?_eq_some_iff.1 hb).1⟩
 grind
theorem add_plain(b o n:Nat):(⟨b,o,none⟩:Addr).add n=⟨b,o+n,none⟩:=by simp_all[Addr.add]
theorem add_zero(a:Addr):a.add 0=a:=by rfl
theorem rows_ok{y:Ty}:∀(n:Nat) (cs:List Value),cs.length=n*y.size->(∀i,i<n->∃v:Vl y,(rp y).rel [] w ((cs.drop (i*y.size)).take y.size) v∧okV y v) ->
  ∃vs:List (Vl y),vs.length=n∧RowsOf (rp y) [] w cs vs∧∀v∈vs,okV y v
 | 0,cs,hl,_=>⟨[],rfl,List.eq_nil_of_length_eq_zero (by rw[hl,Nat.zero_mul]),fun v hv=>by cases hv⟩
 | n+1,cs,hl,h=>by
  rw[Nat.succ_mul]at hl;obtain⟨v,h1,h2⟩:=h 0 (Nat.succ_pos n);rw[Nat.zero_mul,List.drop_zero]at h1
  obtain⟨vs,h3,h4,h5⟩:=rows_ok (y:=y) n (cs.drop y.size) (by rw[List.length_drop,hl];omega) (fun i hi=>by
   obtain⟨u,h6,h7⟩:=h (i+1) (by omega);refine⟨u,?_,h7⟩;rw[List.drop_drop,show y.size+i*y.size=(i+1)*y.size by rw[Nat.succ_mul,Nat.add_comm]]
   exact h6)
  exact⟨v::vs,by rw[List.length_cons,h3],⟨cs.take y.size,cs.drop y.size,(List.take_append_drop _ _).symm,h1,h4⟩,fun u hu=>by
   rcases List.mem_cons.1 hu with rfl | hu
   ·exact h2
   ·exact h5 u hu⟩
theorem DR:∀(m:Nat) (t:TypeId) (y:Ty) (n:Nat) (cs:List Value) (x:DataW H×List MemPlace),dty P m t=some y->DataW.trod enc P w base sp held n t cs=some x->∃v:Vl y,(rp y).rel [] w cs v∧okV y v
 | 0,_,_,_,_,_,h,_=>by cases h
 | m+1,t,y,n,cs,x,h,hx=>by
  unfold dty at h;split at h
  ·rename_i k ht
   cases h
   obtain⟨z,rfl,_,hw⟩:=DataW.trod_int ht hx;exact⟨z,rfl,hw⟩
  ·rename_i ht
   cases h
   obtain⟨b,rfl,_⟩:=DataW.trod_bool ht hx;exact⟨b,rfl,trivial⟩
  ·rename_i ht
   cases h
   obtain⟨⟨⟨s⟩⟩,rfl,_,hs⟩:=DataW.trod_string ht hx;exact⟨s,rfl,hs⟩
  ·rename_i e ht
   obtain⟨y',h1,h⟩:=Option.bind_eq_some_iff.1 h;split at h
   ·rename_i hc
    cases h
    rcases DataW.trod_slice ht hx with ⟨rfl,_⟩ | ⟨a,len,cap,elems,rest,n',_,rfl,_,_,hlc,hcm,hel,hat,_⟩
    ·exact⟨[],qW _ _ _ _ _,by simp,fun x hx=>by cases hx⟩
    ·have each:∀i:Fin len,∃v:Vl y',(∃c,(rp y').rel [] w c v∧c.length=y'.size∧∀j u,c[j]? = some u->w.cell? ((a.add (i.1*P.cellsOf e)).add j)=some u)∧okV y' v:=fun i=>by have hi:=hat i.1 i.2;have:∃z,elems[i.1]? = some z:=⟨_,zQ (by rw[hel];exact i.2)⟩;obtain⟨z,hz⟩:=this;rw[hz]at hi;obtain⟨c,hc1,hc2⟩:=Option.bind_eq_some_iff.1 hi;obtain⟨v,hv1,hv2⟩:=DR m e y' n' c z h1 hc2;exact⟨v,⟨c,hv1,aiO hv1,(abO hc1).2⟩,hv2⟩
     refine⟨List.ofFn fun i=>Classical.choose (each i),⟨some a,cap,by simp,by simp;omega,fun hne=>?_⟩,by simp;omega,fun v hv=>?_⟩
     ·have hlen:0<len:=by
       rcases Nat.eq_zero_or_pos len with h0 | h0
       ·subst h0;simp at hne
       ·exact h0
      obtain⟨⟨c,_,hcl,hcc⟩,_⟩:=Classical.choose_spec (each ⟨0,hlen⟩);have hpos:0<c.length:=by have:=hc.2;omega
      have h0:=U0 (hcc 0 c[0] (zQ hpos));rw[show (⟨0,hlen⟩:Fin len).1*P.cellsOf e=0 from Nat.zero_mul _,add_zero,add_zero]at h0;obtain⟨b,o,s⟩:=a;obtain⟨hs,hb⟩:=h0;have hs:s=none:=hs;subst hs;refine⟨b,o,rfl,fun i x hi=>?_⟩;have hil:i<len:=by have:=(List.getElem?_eq_some_iff.1 hi).1;simpa using this
      have hxe:x=Classical.choose (each ⟨i,hil⟩):=by rw[List.getElem?_ofFn,dif_pos hil]at hi;exact (Option.some.inj hi).symm
      obtain⟨⟨c,hc1,_,hc3⟩,_⟩:=Classical.choose_spec (each ⟨i,hil⟩);subst hxe;refine⟨hb,by simp,c,hc1,fun j v hj=>?_⟩;have:=hc3 j v hj;rw[bV,<- hc.1];rw[add_plain,add_plain]at this;exact this
     ·obtain⟨i,rfl⟩:=List.mem_ofFn.1 hv
      exact (Classical.choose_spec (each i)).2
   ·cases h
  ·rename_i fs ht
   obtain⟨l,h1,h⟩:=Option.bind_eq_some_iff.1 h;split at h
   ·rename_i hc
    cases h
    obtain⟨xs,n',_,_,hl,hxl,hf⟩:=DataW.trod_struct ht hx;refine aiP l ?_ (by rw[hl,hc]);refine ZK (fun t y n c x h1 h2=>DR m t y n c x h1 h2) n' fs.toList 0 l h1 fun f hfm=>?_;obtain⟨i,hi,rfl⟩:=List.getElem_of_mem hfm;have hi':i<fs.size:=by simpa using hi
    have:=hf i fs[i] (Array.getElem?_eq_getElem hi');rw[zQ (by omega)]at this;exact⟨_,this⟩
   ·cases h
  ·rename_i k e ht
   obtain⟨y',h1,h⟩:=Option.bind_eq_some_iff.1 h;split at h
   ·rename_i hc
    cases h
    obtain⟨xs,n',_,_,hl,hxl,hf⟩:=DataW.trod_array ht hx
    obtain⟨vs,h2,h3,h4⟩:=rows_ok (w:=w) (y:=y') k cs (by rw[hl,hc.2]) (fun i hi=>by
     have:=hf i hi;rw[zQ (by omega),hc.1]at this
     exact DR m e y' n' _ _ h1 this)
    exact⟨vs,⟨h2,h3⟩,h2,h4⟩
   ·cases h
  ·cases h
theorem aiQ{t:TypeId}{y:Ty}{m:Nat}{v:Value}{d:DataW H}{ps:List MemPlace}{r:Reach}{b':Nat}{w':World}(hd:dty P (m+1) t=some y)(ho:Value.okWide P w' r b' t v)(h:DataW.Trod enc P w base sp held t v d ps):∃x:Vl y,Den [] [] w (.d y x) v∧okV y x:=by
 obtain⟨n,hn⟩:=h;obtain⟨x,h1,h2⟩:=DR (m+1) t y n _ _ hd hn;refine⟨x,⟨v.cells.toList,h1,?_⟩,h2⟩;have one:∀u:Value,v=u->u.cells = #[u]->y.agg=false->v=(rp y).val v.cells.toList:=fun u e hc ha=>by simp_all[Rp.val,gI]
 unfold dty at hd;split at hd
 ·rename_i k ht
  cases hd
  obtain⟨z,rfl⟩:=Go.WideShapes.okWide_int ht ho;rfl
 ·rename_i ht
  cases hd
  obtain⟨b,hb,_⟩:=DataW.trod_bool ht hn;have:∃b,v = .bool b:=by simp only[Value.okWide,ht,Cell.okWide]at ho;cases v<;>simp_all[Cell.ok]
  obtain⟨b,rfl⟩:=this;rfl
 ·rename_i ht
  cases hd
  obtain⟨s,rfl⟩:=Go.WideShapes.okWide_string ht ho;rfl
 ·rename_i e ht
  obtain⟨y',h3,hd⟩:=Option.bind_eq_some_iff.1 hd;split at hd
  ·cases hd
   obtain⟨a,len,cap,rfl⟩:=Go.WideShapes.okWide_slice ht ho;rfl
  grind
 ·rename_i fs ht
  obtain⟨l,h3,hd⟩:=Option.bind_eq_some_iff.1 hd;split at hd
  ·cases hd
   simp only[Value.okWide,ht]at ho;obtain⟨cs,rfl,_,_⟩:=ho
   have ha:(uo l).agg=true:=by
    match l with
    | []=>rfl
    | [a]=>rfl
    | a::b::q=>rfl
   simp[Rp.val,gI,ha,Value.cells]
  grind
 ·rename_i k e ht
  obtain⟨y',h3,hd⟩:=Option.bind_eq_some_iff.1 hd;split at hd
  ·cases hd
   simp only[Value.okWide,ht]at ho;obtain⟨cs,rfl,_,_⟩:=ho;rfl
  grind
 grind
end
end Rw
end
noncomputable section
namespace Rw
open Go Ev Sx Go.RowKit
theorem OC{W W':World}(h:Blw (Bo [] [] W) W W'):Below W.heap.size W W' :=
 ⟨h.os,h.tape,h.output,h.size,fun k hk=>h.block k hk (by
  rintro (h | h)
  ·cases h
  ·omega)⟩
theorem amK(W:World):LOk (Bo [] [] W) (lx [] []) [] W:=⟨.nil,fun k h=>(by cases h),fun k h=>(by cases h),fun k h=>.inr h,fun k h=>(by cases h)⟩
def okA:(b:List Ty)->As b->Prop
 | [],_=>True
 | a::r,x=>okV a x.1∧okA r x.2
def dS:(b:List Ty)->As b->List SV
 | [],_=>[]
 | a::r,x=>.d a x.1::dS r x.2
theorem aiR:∀(ps:List Ty) (x:As ps),fL (ps.map TS.d) (qG ps x)=some (dS ps x,[])
 | [],_=>rfl
 | a::r,x=>by show (fS (.d a) (⟨a,x.1⟩::qG r x.2)).bind _=_;unfold fS;simp only[oq,Option.map_some,zB];rw[aiR r x.2];rfl
theorem amL(ps:List Ty)(x:As ps):fA (ps.map TS.d) [] (qG ps x)=some (dS ps x,[]):=by unfold fA;rw[aiR,zB];rfl
def abP(P:Program):List TypeId->Option (List Ty)
 | []=>some []
 | t::r=>(dty P 13 t).bind fun y=>(abP P r).map fun q=>y::q
theorem Sd{P:Program}{H:Type}{enc:TypeId×Value->H}{W:World}{b0:Nat}{sp:Nat->Bool}{held:Bool}:∀{ts:List TypeId} {ps:List Ty} {vs:List Value} {ds:List (DataW H)} {p:List MemPlace},abP P ts=some ps ->
  (∀(j:Nat) t v,ts[j]? = some t->vs[j]? = some v->∃r b w',Value.okWide P w' r b t v)->DataW.TrodAll enc P W b0 sp held ts vs ds p->∃x:As ps,okA ps x∧DenL [] [] W (dS ps x) vs
 | [],ps,vs,ds,p,h,_,hA=>by
  cases h
  cases vs with
  | nil=>exact⟨(),trivial,rfl⟩
  | cons v vs=>cases ds<;>exact absurd hA (by simp[DataW.TrodAll])
 | t::ts,ps,vs,ds,p,h,ho,hA=>by
  obtain⟨y,h1,h⟩:=Option.bind_eq_some_iff.1 h;obtain⟨q,h2,rfl⟩:=Option.map_eq_some_iff.1 h
  match vs,ds,hA with
  | v::vs,d::ds,hA =>
   obtain⟨p1,p2,h3,h4,_⟩:=hA;obtain⟨r,b,w',h5⟩:=ho 0 t v rfl rfl;obtain⟨x,hx1,hx2⟩:=aiQ h1 h5 h3;obtain⟨xs,hy1,hy2⟩:=Sd h2 (fun j t v ht hv=>ho (j+1) t v ht hv) h4;exact⟨(x,xs),⟨hx2,hy1⟩,v,vs,rfl,hx1,hy2⟩
  | [],_,hA=>exact absurd hA (by simp[DataW.TrodAll])
  | _::_,[],hA=>exact absurd hA (by simp[DataW.TrodAll])
end Rw
end
noncomputable section
namespace Rw
open Go Ev Sx Go.RowKit
theorem U1{P:Program}{I:World->Prop}{f:FuncId}{ts:List TS}{ps:List Ty}{m:As ps->Option (Bool×Unit)}(h:au P I f ⟨⟨ts,[],ps,[.d .bool],[],0,[.bool]⟩,m⟩){x:As ps}(hm:m x=some (true,())){ss:List SV}(hA:fA ts [] (qG ps x)=some (ss,[])){vs:List Value}{W:World}(hI:∀W',Below W.heap.size W W'->I W')(hd:DenL [] [] W ss vs) :
  Calls P f vs.toArray W (fun e W'=>∃v,e = .returned v∧v = .bool true∧Below W.heap.size W W'):=by
 refine (h [] W [] x (true,()) ss [] vs hm hA rfl (fun w' hw=>hI w' (OC hw)) (amK W) (fun e he=>by cases he) hd).mono fun e w' he=>?_;obtain⟨us,rfl,pl',rr,own',h1,_,_,h4,_,_,h7⟩:=he;have h1:some ([SV.d .bool true],([]:List (Nat×Ent)))=some (rr,own'):=h1;cases h1;obtain⟨v,q,rfl,h8,h9⟩:=h7;cases h9;exact⟨_,rfl,jC h8,OC h4⟩
theorem abQ{P:Program}{I:World->Prop}{f:FuncId}{ps:List Ty}{m:As ps->Option (Bool×Unit)}(h:au P I f ⟨⟨ps.map TS.d,[],ps,[.d .bool],[],0,[.bool]⟩,m⟩)(law:∀x,okA ps x->m x=some (true,()))
  {ts:Array TypeId} (ht:abP P ts.toList=some ps) {H:Type} {enc:TypeId×Value->H} {W:World} (hI:∀W',Below W.heap.size W W'->I W') {b0:Nat} {sp:Nat->Bool} {held:Bool} {args:Array Value} {ds:List (DataW H)} {p:List MemPlace}
  (hval:∀(j:Nat) t v,ts[j]? = some t->args[j]? = some v->∃r b w',Value.okWide P w' r b t v) (hA:DataW.TrodAll enc P W b0 sp held ts.toList args.toList ds p) :
  Calls P f args W (fun e W'=>∃v,e = .returned v∧v = .bool true∧Below W.heap.size W W'):=by
 obtain⟨x,h1,h2⟩:=Sd ht (fun j t v h3 h4=>hval j t v (by simpa using h3) (by simpa using h4)) hA;have:=U1 h (law x h1) (amL ps x) hI h2;simpa using this
end Rw
end
