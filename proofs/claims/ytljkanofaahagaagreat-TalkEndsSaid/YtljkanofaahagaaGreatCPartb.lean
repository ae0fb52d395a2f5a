/- Proved in the last of these 15 parts (this is part 2): TalkEnds. Conditions: those of the given statement, and no others. -/
import Derived.Test.YtljkanofaahagaaGreatCParta
import Derived.KernelRfl
import Derived.Laws.BytesArg
import Derived.Lib.ConvBytes
import Derived.Lib.Builder
import Derived.Lib.AppendStr
import Derived.Lib.AppendZerosOnto
import Derived.Maps.AppendAt
set_option linter.unusedVariables false
set_option linter.unusedSimpArgs false
set_option linter.unusedSectionVars false
open List renaming replicate → zE, mem_cons_of_mem → zT, getElem?_eq_some_iff → zW, length_take → kB
open Int renaming ofNat → zF, eq_ofNat_of_zero_le → zN, toNat_natCast → zQ
open Go.Result renaming andThen_ok → zL
open Option renaming map_eq_some_iff → zS
noncomputable section
namespace Ev
open Go Go.RowKit Sx
def rZ:List Ty->Ty
 | []=>.un
 | a::r=>match r with
  | []=>.wr a
  | b::r'=>.pr a (prs b r')
where prs:Ty->List Ty->Ty
 | a,[]=>a
 | a,b::r=>.pr a (prs b r)
def aoX(g:TypeId->Option Ty):List Field->Option (List Ty)
 | []=>some []
 | f::r=>(g f.type).bind fun a=>(aoX g r).map fun q=>a::q
def QZ(P:Program):Nat->TypeId->Option Ty
 | 0,_=>none
 | n+1,t=>match P.underlying t with
  | some (.int k)=>some (.int k)
  | some .bool=>some .bool
  | some .string=>some .str
  | some (.slice e)=>(QZ P n e).map .sl
  | some (.struct fs)=>(aoX (QZ P n) fs.toList).map rZ
  | some (.array m e)=>(QZ P n e).map (.ar m)
  | some (.map k e)=>match P.underlying k,P.underlying e with
   | some (.int a),some (.int b)=>some (.mp (.int a) (.int b))
   | _,_=>none
  | _=>none
def tyc(P:Program)(t:TypeId):Option Ty:=(QZ P 12 t).bind fun y =>
 match P.underlying t with
 | some dd=>if tq dd=y.agg∧jc P t=some y.size then some y else none
 | none=>none
theorem mH{P:Program}{t:TypeId}{y:Ty}(h:tyc P t=some y):TyOk P t (rp y):=by
 unfold tyc at h;obtain⟨y',_,h⟩:=Option.bind_eq_some_iff.1 h;split at h
 ·rename_i dd hd
  split at h
  ·rename_i h2
   cases h
   exact⟨⟨dd,hd,by simp_all[gH]⟩,by simp_all[gX],fun ha=>tF _ (by simp_all[gH])⟩
  grind
 grind
def ofV:Value->SV
 | .int k n=>.d (.int k) n
 | .bool b=>.d .bool b
 | .string ⟨⟨l⟩⟩=>.d .str l
 | v=>.k v
def opv(S:St):Operand->Option SV
 | .tmp t=>get S.fr t
 | .const v=>some (ofV v)
 | .func f=>some (.fn (.func f) [] [])
 | .global _=>none
section
variable {pl:List Place}{L:Lx}{w:World}{l:List Value}{P:Program}{S:St}
theorem iJ{k:IntKind}{n:Int}{u:Value}(h:Den pl L w (.d (.int k) n) u):u = .int k n:=by obtain⟨cs,h1,h2⟩:=h;cases h1;exact h2
theorem lq{b:Bool}{u:Value}(h:Den pl L w (.d .bool b) u):u = .bool b:=by obtain⟨cs,h1,h2⟩:=h;cases h1;exact h2
theorem nU{s:List UInt8}{u:Value}(h:Den pl L w (.d .str s) u):u = .string ⟨⟨s⟩⟩:=by obtain⟨cs,h1,h2⟩:=h;cases h1;exact h2
theorem qV{t:Ty}{xs:List (Vl t)}{u:Value}(h:Den pl L w (.d (.sl t) xs) u):(Rp.slice (rp t)).rel L w [u] xs:=by obtain⟨cs,h1,h2⟩:=h;obtain⟨a,c,rfl,h3⟩:=QW h1;have h2:u = .slice a xs.length c:=h2;grind
theorem E6(v:Value):Den pl L w (ofV v) v:=by
 unfold ofV;split
 ·exact⟨_,rfl,rfl⟩
 ·exact⟨_,rfl,rfl⟩
 ·exact⟨_,rfl,rfl⟩
 ·rfl
theorem eT(hf:FrD pl L w S.fr l){x:Operand}{s:SV}(h:opv S x=some s):Den pl L w s (ev l x):=by
 cases x with
 | tmp t=>exact hf t s h
 | const v=>cases h;exact E6 v
 | func f=>cases h;exact⟨[],[],rfl,rfl,rfl⟩
 | global g=>cases h
def Yv(P:Program)(pl:List Place)(L:Lx)(w:World)(l:List Value)(o:Oper)(s:SV)(rd:List Nat):Prop :=
 ∃v,Den pl L w s v∧∀w',Fz L w w'->(∀i∈rd,∀k,plb pl i=some k->w'.heap[k]? = w.heap[k]?)->(execOp (ev l) o).run P w' = .ok (.value v) w'
theorem Yv.of{o:Oper}{s:SV}{v:Value}(h:Den pl L w s v)(hr:∀w',(execOp (ev l) o).run P w' = .ok (.value v) w'):Yv P pl L w l o s [] :=
 ⟨v,h,fun w' _ _=>hr w'⟩
theorem wY{t:Ty}(ht:t.agg=false){x:Vl t}{u:Value}(h:(rp t).rel L w [u] x):Den pl L w (.d t x) u:=⟨[u],h,by simp[Rp.val,gH,ht]⟩
theorem iH(k:IntKind)(n:Int):Den pl L w (.d (.int k) n) (.int k n):=⟨_,rfl,rfl⟩
theorem lY(b:Bool):Den pl L w (.d .bool b) (.bool b):=⟨_,rfl,rfl⟩
theorem Bq(s:List UInt8):Den pl L w (.d .str s) (.string ⟨⟨s⟩⟩):=⟨_,rfl,rfl⟩
section
variable {R:Type}
def abg(op:BinOp)(k:IntKind)(m n:Int)(K:SV->Option R):Option R :=
 match op with
 | .lss=>K (.d .bool (lt m n))
 | .leq=>K (.d .bool (le m n))
 | .gtr=>K (.d .bool (gt m n))
 | .geq=>K (.d .bool (ge m n))
 | .eql=>K (.d .bool (eqi m n))
 | .neq=>K (.d .bool (nei m n))
 | .add=>K (.d (.int k) (add k m n))
 | .sub=>K (.d (.int k) (sub k m n))
 | .mul=>K (.d (.int k) (mul k m n))
 | .quo=>need (nei n 0) (K (.d (.int k) (quo k m n)))
 | .rem=>need (nei n 0) (K (.d (.int k) (rem m n)))
 | .and=>K (.d (.int k) (lJ k m n))
 | .or=>K (.d (.int k) (bor k m n))
 | .xor=>K (.d (.int k) (iE k m n))
 | .andNot=>K (.d (.int k) (aa9 k m n))
 | .shl=>need (ge n 0) (K (.d (.int k) (shl k m n)))
 | .shr=>need (ge n 0) (K (.d (.int k) (shr k m n)))
def PT:BinOp->Bool
 | .shl | .shr=>true
 | _=>false
theorem aoY{n:Int}(h:nei n 0=true):n≠0:=by simp_all[nei]
theorem anB{op:BinOp}{k k':IntKind}{m n:Int}{K:SV->Option R}{r:R}(h:abg op k m n K=some r)(hk:PT op=true∨k=k'){d:Option Tmp}{ty t u:TypeId}{pos:String}{af:Array Edge}{g:Option (Nat×Bool)}{x y:Operand}
  (hx:ev l x = .int k m) (hy:ev l y = .int k' n):∃s,K s=some r∧Yv P pl L w l ⟨d,.binOp op t x y u,ty,pos,af,g⟩ s []:=by
 unfold abg at h;cases op<;>simp only at h
 case quo =>
  obtain⟨h0,h⟩:=gW h;rcases hk with hk | rfl
  ·cases hk
  exact⟨_,h,Yv.of (iH _ _) (fun w'=>anl hx hy (aoY h0))⟩
 case rem =>
  obtain⟨h0,h⟩:=gW h;rcases hk with hk | rfl
  ·cases hk
  exact⟨_,h,Yv.of (iH _ _) (fun w'=>anm hx hy (aoY h0))⟩
 case shl =>
  obtain⟨h0,h⟩:=gW h;exact⟨_,h,Yv.of (iH _ _) (fun w'=>anz hx hy h0)⟩
 case shr =>
  obtain⟨h0,h⟩:=gW h;exact⟨_,h,Yv.of (iH _ _) (fun w'=>anA hx hy h0)⟩
 case lss =>
  rcases hk with hk | rfl
  ·cases hk
  exact⟨_,h,Yv.of (lY _) (fun w'=>aoN hx hy)⟩
 case leq =>
  rcases hk with hk | rfl
  ·cases hk
  exact⟨_,h,Yv.of (lY _) (fun w'=>aoO hx hy)⟩
 case gtr =>
  rcases hk with hk | rfl
  ·cases hk
  exact⟨_,h,Yv.of (lY _) (fun w'=>aoP hx hy)⟩
 case geq =>
  rcases hk with hk | rfl
  ·cases hk
  exact⟨_,h,Yv.of (lY _) (fun w'=>aoQ hx hy)⟩
 case eql =>
  rcases hk with hk | rfl
  ·cases hk
  exact⟨_,h,Yv.of (lY _) (fun w'=>ang hx hy)⟩
 case neq =>
  rcases hk with hk | rfl
  ·cases hk
  exact⟨_,h,Yv.of (lY _) (fun w'=>anh hx hy)⟩
 case add =>
  rcases hk with hk | rfl
  ·cases hk
  exact⟨_,h,Yv.of (iH _ _) (fun w'=>ani hx hy)⟩
 case sub =>
  rcases hk with hk | rfl
  ·cases hk
  exact⟨_,h,Yv.of (iH _ _) (fun w'=>anj hx hy)⟩
 case mul =>
  rcases hk with hk | rfl
  ·cases hk
  exact⟨_,h,Yv.of (iH _ _) (fun w'=>ank hx hy)⟩
 case and =>
  rcases hk with hk | rfl
  ·cases hk
  exact⟨_,h,Yv.of (iH _ _) (fun w'=>aba hx hy)⟩
 case or =>
  rcases hk with hk | rfl
  ·cases hk
  exact⟨_,h,Yv.of (iH _ _) (fun w'=>anx hx hy)⟩
 case xor =>
  rcases hk with hk | rfl
  ·cases hk
  exact⟨_,h,Yv.of (iH _ _) (fun w'=>abb hx hy)⟩
 case andNot =>
  rcases hk with hk | rfl
  ·cases hk
  exact⟨_,h,Yv.of (iH _ _) (fun w'=>abd hx hy)⟩
def isBool(P:Program)(t:TypeId):Bool:=match P.underlying t with
 | some .bool=>true
 | _=>false
def isStr(P:Program)(t:TypeId):Bool:=match P.underlying t with
 | some .string=>true
 | _=>false
theorem yU{t:TypeId}(h:isBool P t=true):P.underlying t=some .bool:=by grind[isBool]
theorem jB{t:TypeId}(h:isStr P t=true):P.underlying t=some .string:=by grind[isStr]
def bin(P:Program)(op:BinOp)(t:TypeId)(a b:SV)(K:SV->Option R):Option R :=
 match a,b with
 | .d (.int k) m,.d (.int k') n=>if PT op=true∨k=k' then abg op k m n K else none
 | .d .str s,.d .str q=>match op with
  | .eql=>K (.d .bool (eqs s q))
  | .neq=>K (.d .bool (nes s q))
  | .add=>need (small (s.length+q.length)) (K (.d .str (s++q)))
  | _=>none
 | .d .bool p,.d .bool q=>if isBool P t then match op with
  | .eql=>K (.d .bool (eqb p q))
  | .neq=>K (.d .bool (neb p q))
  | _=>none else none
 | _,_=>none
theorem aoZ{op:BinOp}{t:TypeId}{a b:SV}{K:SV->Option R}{r:R}(h:bin P op t a b K=some r){d:Option Tmp}{ty u:TypeId}{pos:String}{af:Array Edge}{g:Option (Nat×Bool)}{x y:Operand}
  (hx:Den pl L w a (ev l x)) (hy:Den pl L w b (ev l y)):∃s,K s=some r∧Yv P pl L w l ⟨d,.binOp op t x y u,ty,pos,af,g⟩ s []:=by
 unfold bin at h;split at h
 ·split at h
  ·rename_i hk
   exact anB h hk (iJ hx) (iJ hy)
  grind
 ·have hx:=nU hx
  have hy:=nU hy;split at h
  ·exact⟨_,h,Yv.of (lY _) (fun w'=>anr hx hy)⟩
  ·exact⟨_,h,Yv.of (lY _) (fun w'=>ant hx hy)⟩
  ·obtain⟨h0,h⟩:=gW h
   exact⟨_,h,Yv.of (Bq _) (fun w'=>QV hx hy h0)⟩
  grind
 ·have hx:=lq hx
  have hy:=lq hy;split at h
  ·rename_i hb
   have hb:=yU hb;split at h
   ·exact⟨_,h,Yv.of (lY _) (fun w'=>anv hb hx hy)⟩
   ·exact⟨_,h,Yv.of (lY _) (fun w'=>anw hb hx hy)⟩
   grind
  grind
 grind
end
end
end Ev
end
noncomputable section
namespace Ev
open Go Go.RowKit Sx
section
variable {pl:List Place}{L:Lx}{w w':World}{l:List Value}{P:Program}{S:St}{d:Option Tmp}{ty:TypeId}{pos:String}{af:Array Edge}{g:Option (Nat×Bool)}{R:Type}
def arv(P:Program)(t:TypeId)(f:Nat):Option (Nat×TypeId):=match P.underlying t with
 | some (.struct fs)=>(fs[f]?).map fun fd=>(fd.offset,fd.type)
 | _=>none
def uP(P:Program)(t:TypeId):Option (Bool×Nat):=match P.underlying t,jc P t with
 | some dd,some n=>if tq dd=true∨n=1 then some (tq dd,n) else none
 | _,_=>none
theorem wZ{t:TypeId}{ag:Bool}{n:Nat}(h:uP P t=some (ag,n)):(∃dd,P.underlying t=some dd∧tq dd=ag)∧jc P t=some n∧(ag=false->n=1):=by unfold uP at h;grind
def valOf(ag:Bool)(c:List Value):Value:=if ag then .agg c.toArray else c.headD undef
def J8(P:Program)(t:TypeId)(off:Nat)(cs:List SV):Option SV :=
 match uP P t with
 | some (ag,n)=>if decide (off+n≤cs.length)=true then
   if ag=true then (match tyc P t with
    | some fy=>(match pk fy ((cs.drop off).take n) with
     | some (x,[])=>some (.d fy x)
     | _=>some (.agg ((cs.drop off).take n)))
    | none=>some (.agg ((cs.drop off).take n)))
   else cs[off]?
  else none
 | none=>none
theorem E7{t:TypeId}{off:Nat}{cs:List SV}{us:List Value}{s:SV}(h:J8 P t off cs=some s)(hd:DenL pl L w cs us)(h1:∀v∈us,v.oneCell'=true) :
  ∃ag n,uP P t=some (ag,n)∧off+n≤us.length∧Den pl L w s (valOf ag ((us.drop off).take n)):=by
 unfold J8 at h;have hl:=hd.len;split at h
 ·rename_i ag n hs
  split at h
  ·rename_i hle
   have hle:=of_decide_eq_true hle;refine⟨ag,n,hs,by omega,?_⟩;have hdd:DenL pl L w ((cs.drop off).take n) ((us.drop off).take n):=(hd.drop off).take _;have hone:∀v∈(us.drop off).take n,v.oneCell'=true:=fun v hv=>h1 v (List.mem_of_mem_drop (List.mem_of_mem_take hv));split at h
   ·rename_i ha
    subst ha;have hplain:Den pl L w (.agg ((cs.drop off).take n)) (valOf true ((us.drop off).take n)):=⟨_,hdd,hone,rfl⟩;split at h
    ·rename_i fy hfy
     split at h
     ·rename_i x hpk
      cases h
      obtain⟨c,v,e,h3,h4⟩:=mF hpk hdd;cases h4;rw[List.append_nil]at e;rw[e];obtain⟨⟨dd,q1,q2⟩,_⟩:=wZ hs;obtain⟨⟨dd',q3,q4⟩,_⟩:=mH hfy;rw[q1]at q3;cases q3;rw[q2,gH]at q4;exact⟨c,h3,by simp_all[Rp.val,gH,valOf]⟩
     simp_all
    simp_all
   ·rename_i ha
    have ha:ag=false:=by simp_all
    subst ha;have hn:=(wZ hs).2.2 rfl;subst hn;obtain⟨u,h5,h6⟩:=hd.at h;have e:((us.drop off).take 1).headD undef=u:=by grind[zW,List.drop_eq_getElem_cons]
    show Den pl L w s (((us.drop off).take 1).headD undef);simp_all
  grind
 grind
theorem IC{t:TypeId}{ag:Bool}{n:Nat}{us:List Value}{off:Nat}(hs:uP P t=some (ag,n))(hle:off+n≤us.length):(part t us.toArray off).run P w = .ok (valOf ag ((us.drop off).take n)) w:=by
 obtain⟨⟨dd,h3,h4⟩,h5,h6⟩:=wZ hs;unfold part;rw[Sem.run_bind,oW h3,zL,h4]
 cases ag with
 | true =>
  have e:us.toArray.extract off (off+n)=((us.drop off).take n).toArray:=by simp
  simp only[if_true,Sem.run_bind,kL h5,zL,Sem.run_pure,e,valOf]
 | false =>
  have h7:=h6 rfl;subst h7;have hlt:off<us.length:=by omega
  have e:us[off]? = some us[off]:=List.getElem?_eq_getElem hlt;have e2:((us.drop off).take 1).headD undef=us[off]:=by grind[List.drop_eq_getElem_cons]
  simp_all[valOf]
def J9(P:Program)(t:TypeId)(s:SV)(f:Nat)(K:SV->List Nat->Option R):Option R:=none
theorem Zn{t:TypeId}{f:Nat}{x:Operand}{s:SV}{K:SV->List Nat->Option R}{r:R}(h:J9 P t s f K=some r)(hx:Den pl L w s (ev l x)) :
  ∃s' rd,K s' rd=some r∧Yv P pl L w l ⟨d,.field t x f,ty,pos,af,g⟩ s' rd:=by
 unfold J9 at h;cases h
end
end Ev
end
noncomputable section
namespace Ev
open Go Go.RowKit Sx
section
variable {pl:List Place}{L:Lx}{w w':World}{l:List Value}{P:Program}{S:St}{d:Option Tmp}{ty:TypeId}{pos:String}{af:Array Edge}{g:Option (Nat×Bool)}{R:Type}
def EntsD(pl:List Place)(L:Lx)(w:World)(own:List (Nat×Ent)):Prop:=∀e∈own,EntD pl L w e.1 e.2
theorem EntsD.get{own:List (Nat×Ent)}(h:EntsD pl L w own){i:Nat}{e:Ent}(hg:Ev.get own i=some e):EntD pl L w i e:=h _ (gy hg)
def w9(P:Program)(t:TypeId)(s:SV)(f:Nat)(K:SV->List Nat->Option R):Option R :=
 match Cr P t f with
 | some off=>match s with
  | .pb i o=>K (.pb i (o+off)) []
  | .prw i j sz o=>K (.prw i j sz (o+off)) []
  | .pra i j sz o m ft k o2=>K (.pra i j sz o m ft k (o2+off)) []
  | .pe t0 x=>match arv P t f with
   | some (off',ft)=>if off'=off then (match tyc P ft with
    | some fy=>(match prj t0 off fy x with
     | some y=>K (.pe fy y) []
     | none=>none)
    | none=>none) else none
   | none=>none
  | _=>none
 | none=>none
theorem Jq{t:TypeId}{f:Nat}{x:Operand}{s:SV}{K:SV->List Nat->Option R}{r:R}(h:w9 P t s f K=some r)(hx:Den pl L w s (ev l x)) :
  ∃s' rd,K s' rd=some r∧Yv P pl L w l ⟨d,.fieldAddr t x f,ty,pos,af,g⟩ s' rd:=by
 unfold w9 at h;split at h
 ·rename_i off ho
  split at h
  ·obtain⟨g,n,c,h1,h2⟩:=hx
   exact⟨_,_,h,Yv.of (v:=.pointer (some ⟨g,_,none⟩)) ⟨g,n,c,h1,rfl⟩ (fun w'=>oC ho h2)⟩
  ·obtain⟨g,b,n,c,h1,h2⟩:=hx
   exact⟨_,_,h,Yv.of (v:=.pointer (some ⟨g,_,none⟩)) ⟨g,b,n,c,h1,by simp[Nat.add_assoc]⟩ (fun w'=>oC ho h2)⟩
  ·obtain⟨g,b,n,c,h1,h2⟩:=hx
   exact⟨_,_,h,Yv.of (v:=.pointer (some ⟨g,_,none⟩)) ⟨g,b,n,c,h1,by simp[Nat.add_assoc]⟩ (fun w'=>oC ho h2)⟩
  ·split at h
   ·split at h
    ·split at h
     ·split at h
      ·rename_i y hp
       obtain⟨b,o,h1,h2⟩:=hx;exact⟨_,_,h,Yv.of (v:=.pointer (some ⟨b,o+off,none⟩)) ⟨b,o+off,rfl,aoT hp h2⟩ (fun w'=>oC ho h1)⟩
      grind
     grind
    grind
   grind
  grind
 grind
theorem qW{α:Type}{R:Rp α}{e:TypeId}{a:Nat}{n c:Nat}{xs:List α}{i:Nat}{x:α}(h:Ow R e L w (some ⟨a,0,none⟩) n c xs)(hi:xs[i]? = some x) :
  ∃cs,R.rel L w cs x∧∀j v,cs[j]? = some v->w.cell? ⟨a,0+i*R.size+j,none⟩=some v:=by
 obtain⟨rfl,cells,h1,h2⟩:=h;obtain⟨pre,d,post,e2,h3,h4,_⟩:=h2.at hi;refine⟨d,h4,fun j v hj=>?_⟩;have:=h1.cells (g:=a) rfl (i*R.size+j) v (by grind);simp_all[Addr.add_lit',Nat.add_assoc]
theorem nV{α:Type}{R:Rp α}{t:TypeId}{b o:Nat}{cs:List Value}(ht:TyOk P t R)(hl:cs.length=R.size)(h:∀j v,cs[j]? = some v->w.cell? ⟨b,o+j,none⟩=some v) :
  (loadVar t ⟨b,o,none⟩).run P w = .ok (R.val cs) w:=by
 obtain⟨dd,hd,ha⟩:=ht.desc;unfold loadVar;rw[Sem.run_bind,oW hd,zL,ha]
 cases hA:R.agg with
 | true =>
  have hc:=run_loadCells_list (P:=P) (w:=w) ⟨b,o,none⟩ cs (fun j v hj=>by simp_all[Addr.add_lit']);rw[hl]at hc;simp only[if_true,Sem.run_bind,kL ht.size,zL,hc,Rp.val,hA,Sem.run_pure]
 | false =>
  have:=ht.one hA;rw[this]at hl;obtain⟨v,rfl⟩:=List.length_eq_one_iff.1 hl;have:=h 0 v rfl;simp_all[Nat.add_zero,Go.load,Sem.run,Rp.val]
def ql(P:Program)(t:TypeId):Option (Nat×TypeId×Nat):=match P.underlying t with
 | some (.array m e)=>(jc P e).map fun n=>(m,e,n)
 | _=>none
theorem qm{t e:TypeId}{m n:Nat}(h:ql P t=some (m,e,n)):P.underlying t=some (.array m e)∧jc P e=some n:=by grind[ql,zS]
theorem Ci{t:TypeId}{ag:Bool}{n b o:Nat}{cs:List Value}(ht:uP P t=some (ag,n))(hl:cs.length=n)(h:∀j v,cs[j]? = some v->w.cell? ⟨b,o+j,none⟩=some v) :
  (loadVar t ⟨b,o,none⟩).run P w = .ok (valOf ag cs) w:=by
 obtain⟨⟨dd,hd,ha⟩,hs,h1⟩:=wZ ht;unfold loadVar;rw[Sem.run_bind,oW hd,zL,ha]
 cases ag with
 | true =>
  have hc:=run_loadCells_list (P:=P) (w:=w) ⟨b,o,none⟩ cs (fun j v hj=>by simp_all[Addr.add_lit']);rw[hl]at hc;simp only[if_true,Sem.run_bind,kL hs,zL,hc,valOf,Sem.run_pure]
 | false =>
  have:=h1 rfl;rw[this]at hl;obtain⟨v,rfl⟩:=List.length_eq_one_iff.1 hl;have:=h 0 v rfl;simp_all[Nat.add_zero,Go.load,Sem.run,valOf]
def Ka(s:SV)(K:SV->Option R):Option R:=match s with
 | .opb b i o=>if b=true then K (.pb i o) else K (.k (.pointer none))
 | s=>K s
theorem Zo{s:SV}{K:SV->Option R}{r:R}(h:Ka s K=some r):∃s',K s'=some r∧∀u,Den pl L w s u->Den pl L w s' u:=by
 unfold Ka at h;split at h
 ·rename_i b i o
  split at h
  ·rename_i hb
   exact⟨_,h,fun u hu=>hu.1 hb⟩
  ·rename_i hb
   exact⟨_,h,fun u hu=>hu.2 (by simp_all)⟩
 grind
def Q0(P:Program)(own:List (Nat×Ent))(t:TypeId)(s:SV)(K:SV->List Nat->Option R):Option R :=
 match s with
  | .pb i o=>match get own i with
   | some (.box _ cs)=>match J8 P t o cs with
    | some y=>Ka y fun y=>K y [i]
    | none=>none
   | some (.row t0 _ xs)=>match ql P t with
    | some (m,_,n)=>if t0.size=n∧o=0 then need (eqi (xs.length:Int) (m:Int)) (match tyc P t with
     | some (.ar m' t1)=>if m'=m then (match gZ (.sl t0) (.sl t1) xs with
      | some ys=>K (.d (.ar m' t1) ys) [i]
      | none=>none) else none
     | _=>none) else none
    | none=>none
   | _=>none
  | .pe t0 x=>match tyc P t with
   | some fy=>match gZ t0 fy x with
    | some y=>K (.d fy y) []
    | none=>none
   | none=>none
  | .prw i j sz o=>match get own i,tyc P t with
   | some (.row t0 _ xs),some fy=>if sz=t0.size then (at? xs j).bind fun y=>match prj t0 o fy y with
    | some z=>K (.d fy z) [i]
    | none=>none
    else none
   | _,_=>none
  | .pra i j sz o m ft k o2=>match get own i,tyc P t with
   | some (.row t0 _ xs),some fy=>if sz=t0.size then (at? xs j).bind fun y=>match prj t0 o (.ar m ft) y with
    | some ys=>(at? (show List (Vl ft) from ys) k).bind fun z=>match prj ft o2 fy z with
     | some v=>K (.d fy v) [i]
     | none=>none
    | none=>none
    else none
   | _,_=>none
  | _=>none
theorem fZ{i:Nat}{p:Place}(h:pl[i]? = some p):plb pl i=blk p.a:=by simp_all[plb]
theorem abh{own:List (Nat×Ent)}(he:EntsD pl L w own){t:TypeId}{x:Operand}{s:SV}{K:SV->List Nat->Option R}{r:R}(h:Q0 P own t s K=some r)(hx:Den pl L w s (ev l x)) :
  ∃s' rd,K s' rd=some r∧Yv P pl L w l ⟨d,.load t x,ty,pos,af,g⟩ s' rd:=by
 unfold Q0 at h;split at h
 ·rename_i i o
  split at h
  ·rename_i T cs hg
   split at h
   ·rename_i y hc
    obtain⟨a,n,c,h1,h2⟩:=hx;obtain⟨a',n',c',us,h3,h4,h5,h6⟩:=he.get hg;rw[h1]at h3;cases h3;obtain⟨ag,sz,h7,h8,h9⟩:=E7 hc h5 h6;obtain⟨y',h,h10⟩:=Zo (pl:=pl) (L:=L) (w:=w) h;refine⟨_,_,h,_,h10 _ h9,fun w' hF hrd=>?_⟩;have hb:Bx w' a us T:=by unfold Bx;rw[hrd i (by simp) a (by rw[fZ h1];rfl)];exact h4
    refine oZ h2 ?_
    exact Ci (P:=P) (w:=w') (b:=a) (o:=o) (cs:=(us.drop o).take sz) h7 (by grind) (fun j v hj=>by
     refine hb.cell ?_
     grind)
   grind
  ·rename_i t0 e0 xs hg
   split at h
   ·rename_i m e n har
    split at h
    ·rename_i hc
     obtain⟨hsz,rfl⟩:=hc;obtain⟨hm,hq⟩:=gW h;clear h;have hm:(xs.length:Int)=(m:Int):=by simp_all[eqi]
     split at hq
     ·rename_i m' t1 hty
      split at hq
      ·rename_i hmm
       subst hmm;split at hq
       ·rename_i ys hys
        obtain⟨e1,hys⟩:=og hys;cases e1;subst hys;obtain⟨g',n',c',h1,h2⟩:=hx;obtain⟨p',h3,h4⟩:=he.get hg;rw[h1]at h3;cases h3;obtain⟨hn,cells,h5,h6⟩:=h4;have hxl:xs.length=m':=by omega
        refine⟨_,_,hq,.agg cells.toArray,⟨cells,⟨hxl,h6⟩,by rfl⟩,fun w' hF hrd=>oZ h2 ?_⟩;have hty':=mH hty
        have:=nV (P:=P) (w:=w') (b:=g') (o:=0) (cs:=cells) hty' (by rw[h6.len,gX,gX];show _=m'*t0.size;rw[hxl]) (fun j v hj=>by
         rw[World.cell?_of_block (w:=w) (hrd i (by simp) g' (by rw[fZ h1];rfl))];have:=h5.cells (g:=g') rfl j v hj
         simp_all[Addr.add_lit'])
        simp_all[Rp.val,gH,Ty.agg]
       grind
      grind
     grind
    grind
   grind
  grind
 ·split at h
  ·rename_i fy hy
   have hty:=mH hy;split at h
   ·rename_i hc
    obtain⟨b,o,h1,h2⟩:=hx;obtain⟨e,hc⟩:=og hc;subst e;subst hc;obtain⟨cs,h3,h4⟩:=El.load hty h2;exact⟨_,_,h,(rp _).val cs,⟨cs,h3,rfl⟩,fun w' hF _=>oZ h1 (h4 w' L hF (fun k hk=>hk))⟩
   grind
  grind
 ·rename_i i j sz o
  split at h
  ·rename_i t0 e xs fy hg hy
   have hty:=mH hy;split at h
   ·rename_i hsz
    obtain⟨y,hy1,h⟩:=fT h;split at h
    ·rename_i z hp
     obtain⟨a,b0,n,c,h1,h2⟩:=hx;obtain⟨p,h3,h4⟩:=he.get hg;rw[h1]at h3;cases h3;obtain⟨h5,h6,h7⟩:=jm hy1;obtain⟨_,hb0⟩:=h4.addr h7;cases hb0;obtain⟨cs,h8,h9⟩:=qW h4 h6;obtain⟨pre,c1,post,rfl,h10,h11⟩:=mO hp h8;refine⟨_,_,h,(rp _).val c1,⟨c1,h11,rfl⟩,fun w' hF hrd=>oZ h2 ?_⟩;refine nV hty ((rp _).len h11) (fun k v hk=>?_);rw[World.cell?_of_block (w:=w) (hrd i (by simp) a (by rw[fZ h1];rfl))];grind[List.append_assoc,List.getElem?_append_right,Nat.add_sub_cancel_left,List.getElem?_append_left,zW,gX,Nat.add_assoc]
    grind
   grind
  grind
 ·rename_i i j sz o m ft q o2
  split at h
  ·rename_i t0 e xs fy hg hy
   have hty:=mH hy;split at h
   ·rename_i hsz
    obtain⟨y,hy1,h⟩:=fT h;split at h
    ·rename_i ys hp
     obtain⟨z,hz1,h⟩:=fT h;split at h
     ·rename_i v hp2
      obtain⟨a,b0,n,c,h1,h2⟩:=hx;obtain⟨p,h3,h4⟩:=he.get hg;rw[h1]at h3;cases h3;obtain⟨h5,h6,h7⟩:=jm hy1;obtain⟨_,hb0⟩:=h4.addr h7;cases hb0;obtain⟨_,hz6,_⟩:=jm hz1;obtain⟨cs,h8,h9⟩:=qW h4 h6;obtain⟨pre,c1,post,rfl,h10,h11⟩:=aoU hp hz6 hp2 h8;refine⟨_,_,h,(rp _).val c1,⟨c1,h11,rfl⟩,fun w' hF hrd=>oZ h2 ?_⟩;refine nV hty ((rp _).len h11) (fun k v hk=>?_);rw[World.cell?_of_block (w:=w) (hrd i (by simp) a (by rw[fZ h1];rfl))];have:=h9 (o+q.toNat*ft.size+o2+k) v (by grind);simp_all[gX,Nat.add_assoc]
     grind
    grind
   grind
  grind
 grind
def jZ(P:Program)(t:TypeId):Option (TypeId×Nat):=match P.underlying t with
 | some (.slice e)=>(jc P e).map fun n=>(e,n)
 | _=>none
theorem iK{t e:TypeId}{n:Nat}(h:jZ P t=some (e,n)):P.underlying t=some (.slice e)∧jc P e=some n:=by grind[jZ,zS]
theorem RowV.some{a:Addr}{n c:Nat}{u:Value}(h:RowV ⟨some a,n,c⟩ u):u = .slice (some a) n c:=by
 rcases h with h | ⟨h,_⟩
 ·exact h
 grind
theorem lZ{t e:TypeId}{x y:Operand}{b o m n:Nat}{k:IntKind}{j:Int}(h1:P.underlying t=some (.array m e))(h2:jc P e=some n)(hx:ev l x = .pointer (some ⟨b,o,none⟩))(hy:ev l y = .int k j)(h3:0≤j)(h4:j<m) :
  (execOp (ev l) ⟨d,.indexAddr t x y,ty,pos,af,g⟩).run P w = .ok (.value (.pointer (some ⟨b,o+j.toNat*n,none⟩))) w:=by
 have hi:(Instr.indexAt t (ev l x) (ev l y)).run P w = .ok (.pointer (some ⟨b,o+j.toNat*n,none⟩)) w:=by unfold Instr.indexAt;rw[hx,hy];simp only[asIntOf,Sem.run_bind,Sem.run_pure,zL,run_underlying h1,Instr.sureAddr,kL h2,Addr.add_lit'];rw[if_pos ⟨h3,h4⟩];simp only[Sem.run_bind,kL h2,zL,Sem.run_pure,Addr.add_lit']
 simp_all[execOp,Sem.run_bind,zL,Sem.run_pure]
def ixC(j:Int)(K:Nat->Option R):Nat->Option R
 | 0=>none
 | m+1=>if eqi j (m:Int)=true then K m else ixC j K m
theorem Kb{j:Int}{K:Nat->Option R}{r:R}:∀{m:Nat},ixC j K m=some r->∃i,i<m∧j=(i:Int)∧K i=some r
 | 0,h=>by cases h
 | m+1,h=>by
  unfold ixC at h;split at h
  ·rename_i e
   exact⟨m,by omega,by simpa [eqi]using e,h⟩
  ·obtain⟨i,h1,h2⟩:=Kb h
   exact⟨i,by omega,h2⟩
def xg(P:Program)(own:List (Nat×Ent))(t:TypeId)(s i:SV)(K:SV->List Nat->Option R):Option R :=
 match i with
 | .d (.int _) j=>match jZ P t with
  | some (_,n)=>match nz s with
   | .d (.sl t0) xs=>if t0.size=n then (at? xs j).bind fun y=>K (.pe t0 y) [] else none
   | .rowz i=>match get own i with
    | some (.row t0 _ xs)=>if t0.size=n then (at? xs j).bind fun _=>K (.prw i j t0.size 0) [] else none
    | _=>none
   | .sub i sz lo m=>match get own i with
    | some (.row t0 _ xs)=>if t0.size=n∧sz=n then need (ge j 0) (need (lt j m) ((at? xs (lo+j)).bind fun _=>K (.prw i (lo+j) t0.size 0) [])) else none
    | _=>none
   | _=>none
  | none=>match ql P t with
   | some (m,_,n)=>match s with
    | .pb i o=>match get own i with
     | some (.row t0 _ xs)=>if t0.size=n∧o=0 then need (lt j m) ((at? xs j).bind fun _=>K (.prw i j t0.size 0) []) else none
     | some (.box _ _)=>ixC j (fun q=>K (.pb i (o+q*n)) []) m
     | _=>none
    | .prw i' j' sz o=>match tyc P t with
     | some (.ar m' ft)=>if ft.size=n∧m'=m then need (ge j 0) (need (lt j m) (K (.pra i' j' sz o m ft j 0) [])) else none
     | _=>none
    | .pe (.ar m' t0) ys=>if t0.size=n∧m'=m then (at? (show List (Vl t0) from ys) j).bind fun y=>K (.pe t0 y) [] else none
    | _=>none
   | none=>none
 | _=>none
theorem Jr{own:List (Nat×Ent)}(he:EntsD pl L w own){t:TypeId}{x y:Operand}{s i:SV}{K:SV->List Nat->Option R}{r:R}(h:xg P own t s i K=some r)(hx:Den pl L w s (ev l x))(hi:Den pl L w i (ev l y)) :
  ∃s' rd,K s' rd=some r∧Yv P pl L w l ⟨d,.indexAddr t x y,ty,pos,af,g⟩ s' rd:=by
 have hx0:=hx
 replace hx:=vZ hx
 unfold xg at h;split at h
 ·rename_i k j
  have hi:=iJ hi;split at h
  ·rename_i e n hel
   obtain⟨h1,h2⟩:=iK hel;clear hx0;generalize nz s=s at h hx;split at h
   ·rename_i t0 xs
    split at h
    ·rename_i hsz
     obtain⟨z,hz,h⟩:=fT h;obtain⟨h3,h4,h5⟩:=jm hz;have hr:=qV hx;have hr0:=hr;obtain⟨a,c,hsh,_⟩:=hr0;simp at hsh;rw[hsh]at hr;obtain⟨b,o,rfl,h6⟩:=Cu hr h4;refine⟨_,_,h,Yv.of (v:=.pointer (some ⟨b,o+j.toNat*n,none⟩)) ⟨b,_,rfl,by simp_all[gX]⟩ (fun w'=>oD h1 h2 hsh hi h3 h5)⟩
    grind
   ·rename_i i
    split at h
    ·rename_i t0 e' xs hg
     split at h
     ·rename_i hsz
      obtain⟨z,hz,h⟩:=fT h;obtain⟨h3,h4,h5⟩:=jm hz;obtain⟨p,h6,h7⟩:=hx;obtain⟨p',h8,h9⟩:=he.get hg;rw[h6]at h8;cases h8;obtain⟨a,ha⟩:=h9.addr h5;obtain⟨pa,pn,pc⟩:=p;simp only at ha h7 h9;subst ha;have h7:=h7.some;refine⟨_,_,h,Yv.of (v:=.pointer (some ⟨a,0+j.toNat*n,none⟩)) ⟨a,0,pn,pc,h6,by simp_all⟩ (fun w'=>oD h1 h2 h7 hi h3 (by rw[h9.len];exact h5))⟩
     grind
    grind
   ·rename_i i sz lo m
    split at h
    ·rename_i t0 e' xs hg
     split at h
     ·rename_i hsz
      obtain⟨hsz,rfl⟩:=hsz;obtain⟨hj0,h⟩:=gW h;obtain⟨hjm,h⟩:=gW h;obtain⟨z,hz,h⟩:=fT h;have hj0:(0:Int)≤j:=of_decide_eq_true hj0;have hjm:(j:Int)<(m:Int):=of_decide_eq_true hjm;obtain⟨h3,h4,h5⟩:=jm hz;obtain⟨p,a,c,h6,q1,q2,q3,hu,q5,q6⟩:=hx;obtain⟨p',h8,h9⟩:=he.get hg;rw[h6]at h8;cases h8;have aux:∀lo j m:Int,0≤lo->0≤j->j<m->m≠0∧j.toNat<m.toNat∧(lo+j).toNat=lo.toNat+j.toNat:=by omega
      obtain⟨aux1,aux2,hnat⟩:=aux lo j m q1 hj0 hjm;obtain⟨_,g',o',q7,rfl⟩:=q6.1 (by omega);obtain⟨pa,pn,pc⟩:=p;simp only at q7;subst q7;refine⟨_,_,h,Yv.of (v:=.pointer (some ⟨g',o'+lo.toNat*sz+j.toNat*sz,none⟩)) ⟨g',o',pn,pc,h6,by grind⟩ (fun w'=>oD h1 h2 hu hi hj0 aux2)⟩
     grind
    grind
   grind
  ·split at h
   ·rename_i m e n har
    obtain⟨h1,h2⟩:=qm har;split at h
    ·rename_i i o
     split at h
     ·rename_i t0 e' xs hg
      split at h
      ·rename_i hc
       obtain⟨hsz,rfl⟩:=hc;obtain⟨hjm,h⟩:=gW h;obtain⟨z,hz,h⟩:=fT h;obtain⟨h3,h4,h5⟩:=jm hz;obtain⟨g',n',c',h6,hu⟩:=hx0;exact⟨_,_,h,Yv.of (v:=.pointer (some ⟨g',0+j.toNat*n,none⟩)) ⟨g',0,n',c',h6,by simp_all⟩ (fun w'=>lZ h1 h2 hu hi h3 (of_decide_eq_true hjm))⟩
      grind
     ·obtain⟨q,h3,rfl,hq⟩:=Kb h
      obtain⟨g',n',c',h6,hu⟩:=hx0;exact⟨_,_,hq,Yv.of (v:=.pointer (some ⟨g',o+q*n,none⟩)) ⟨g',n',c',h6,rfl⟩ (fun w'=>by simpa using lZ h1 h2 hu hi (by omega) (by omega))⟩
     grind
    ·rename_i i' j' sz o
     split at h
     ·rename_i m' ft hty
      split at h
      ·rename_i hc
       obtain⟨hfs,rfl⟩:=hc;obtain⟨hj0,h⟩:=gW h;obtain⟨hjm,h⟩:=gW h;obtain⟨g',b',n',c',h6,hu⟩:=hx0;exact⟨_,_,h,Yv.of (v:=.pointer (some ⟨g',_,none⟩)) ⟨g',b',n',c',h6,by simp_all⟩ (fun w'=>lZ h1 h2 hu hi (of_decide_eq_true hj0) (of_decide_eq_true hjm))⟩
      grind
     grind
    ·rename_i m' t0 ys
     split at h
     ·rename_i hc
      obtain⟨hsz,rfl⟩:=hc;obtain⟨z,hz,h⟩:=fT h;obtain⟨h3,h4,h5⟩:=jm hz;obtain⟨b,o,hu,hb,hbL,cs,⟨hlen,hrow⟩,hcl⟩:=hx0;obtain⟨p2,c2,q2,e2,e3,r2,_⟩:=hrow.at h4;have hjm:j<(m':Int):=(Int.toNat_lt h3).1 (Nat.lt_of_lt_of_eq h5 hlen);refine⟨_,_,h,Yv.of (v:=.pointer (some ⟨b,o+j.toNat*n,none⟩)) ⟨b,_,rfl,hb,hbL,c2,r2,fun q v hq=>?_⟩ (fun w'=>lZ h1 h2 hu hi h3 hjm)⟩;have:=hcl (p2.length+q) v (by grind);simp_all[gX,Nat.add_assoc]
     grind
    grind
   grind
 grind
end
end Ev
end
noncomputable section
namespace Ev
open Go Go.RowKit Sx
section
variable {pl:List Place}{L:Lx}{w w':World}{l:List Value}{P:Program}{S:St}{d:Option Tmp}{ty:TypeId}{pos:String}{af:Array Edge}{g:Option (Nat×Bool)}{R:Type}
def mQ(l:List Value)(x:Option Operand)(i z:Int):Prop:=(x=none∧i=z)∨∃o k,x=some o∧ev l o = .int k i
theorem Kc{α:Type}{R:Rp α}{t e:TypeId}{x:Operand}{lo hi:Option Operand}{a:Option Addr}{n c:Nat}{xs y:List α}{i j:Int}(ht:P.underlying t=some (.slice e))(hs:jc P e=some R.size)
  (hx:ev l x = .slice a n c) (hr:(Rp.slice R).rel L w [.slice a n c] xs) (hlo:mQ l lo i 0) (hhi:mQ l hi j xs.length) (h:cut xs i j=some y) :
  ∃a' c',(Rp.slice R).rel L w [.slice a' y.length c'] y∧∀w',(execOp (ev l) ⟨d,.slice t x lo hi none,ty,pos,af,g⟩).run P w' = .ok (.value (.slice a' y.length c')) w':=by
 obtain⟨h0,h1,h2,hy⟩:=qj h;obtain⟨a0,c0,e1,hcap,h3⟩:=hr;simp at e1;obtain⟨rfl,rfl,rfl⟩:=e1;obtain⟨i,rfl⟩:=zN h0;obtain⟨j,rfl⟩:=zN (Int.le_trans h0 h1);have hij:i≤j:=by omega
 have hj:j≤xs.length:=by omega
 simp only[zQ]at hy;have hyl:y.length=j - i:=by simp_all
 refine⟨if c=i then a else a.map (·.add (i*R.size)),c - i,⟨_,c - i,rfl,by omega,fun hne=>?_⟩,fun w'=>?_⟩
 ·have hlt:i<j:=by simp_all
  obtain⟨b,o,rfl,h4⟩:=h3 (by grind);rw[if_neg (by omega)];grind[Addr.add_lit',zW,kB,List.getElem?_take_of_lt,Nat.add_mul,Nat.add_assoc]
 ·have hb:(Instr.sliceBounds true xs.length c (lo.map (ev l)) (hi.map (ev l)) none).run P w' = .ok (i,j,c) w':=by
   unfold Instr.sliceBounds;rcases hhi with ⟨rfl,e2⟩ | ⟨oh,kh,rfl,e2⟩
   ·have e2:j=xs.length:=by omega
    subst e2;rcases hlo with ⟨rfl,e3⟩ | ⟨ol,kl,rfl,e3⟩
    ·simp_all
    simp_all[Instr.sliceBound,asIntOf]
   ·rcases hlo with ⟨rfl,e3⟩ | ⟨ol,kl,rfl,e3⟩
    ·have e3:i=0:=by omega
     subst e3;simp[Instr.sliceBound,asIntOf,e2];omega
    ·have hjc:(j:Int)≤c:=by omega
     simp_all[Int,Instr.sliceBound,asIntOf,if_pos]
  have hsl:(Instr.sliceAt t (ev l x) (lo.map (ev l)) (hi.map (ev l)) ((none:Option Operand).map (ev l))).run P w' = .ok (.slice (if c=i then a else a.map (·.add (i*R.size))) (j - i) (c - i)) w':=by unfold Instr.sliceAt;simp only[Sem.run_bind,run_underlying ht,zL];unfold Instr.slice;simp only[Sem.run_bind,run_underlying ht,zL,hx,Option.map_none,hb,kL hs,Sem.run_pure]
  simp_all[execOp,Sem.run_bind,zL,Sem.run_pure]
theorem rE{t e:TypeId}{sz:Nat}{x:Operand}{lo hi:Option Operand}{a:Option Addr}{n c:Nat}{i j:Int}(ht:P.underlying t=some (.slice e))(hs:jc P e=some sz)
  (hx:ev l x = .slice a n c) (hlo:mQ l lo i 0) (hhi:mQ l hi j n) (h0:0≤i) (h1:i≤j) (h2:j≤n) (hc:n≤c) :
  ∀w',(execOp (ev l) ⟨d,.slice t x lo hi none,ty,pos,af,g⟩).run P w' = .ok (.value (.slice (if c=i.toNat then a else a.map (·.add (i.toNat*sz))) (j - i).toNat (c - i.toNat))) w':=by
 intro w';obtain⟨i,rfl⟩:=zN h0;obtain⟨j,rfl⟩:=zN (Int.le_trans h0 h1);have hij:i≤j:=by omega
 have hj:j≤n:=by omega
 have hb:(Instr.sliceBounds true n c (lo.map (ev l)) (hi.map (ev l)) none).run P w' = .ok (i,j,c) w':=by
  unfold Instr.sliceBounds;rcases hhi with ⟨rfl,e2⟩ | ⟨oh,kh,rfl,e2⟩
  ·have e2:j=n:=by omega
   subst e2;rcases hlo with ⟨rfl,e3⟩ | ⟨ol,kl,rfl,e3⟩
   ·simp_all
   simp_all[Instr.sliceBound,asIntOf]
  ·rcases hlo with ⟨rfl,e3⟩ | ⟨ol,kl,rfl,e3⟩
   ·have e3:i=0:=by omega
    subst e3;simp[Instr.sliceBound,asIntOf,e2];omega
   ·have hjc:(j:Int)≤c:=by omega
    simp_all[Int,Instr.sliceBound,asIntOf,if_pos]
 have hsl:(Instr.sliceAt t (ev l x) (lo.map (ev l)) (hi.map (ev l)) ((none:Option Operand).map (ev l))).run P w' = .ok (.slice (if c=i then a else a.map (·.add (i*sz))) (j - i) (c - i)) w':=by unfold Instr.sliceAt;simp only[Sem.run_bind,run_underlying ht,zL];unfold Instr.slice;simp only[Sem.run_bind,run_underlying ht,zL,hx,Option.map_none,hb,kL hs,Sem.run_pure]
 simp_all[Int,zQ,execOp,Sem.run_bind,zL,Sem.run_pure]
theorem yV{t e:TypeId}{sz m:Nat}{x:Operand}{lo hi:Option Operand}{b o:Nat}{i j:Int}(ht:P.underlying t=some (.array m e))(hs:jc P e=some sz)
  (hx:ev l x = .pointer (some ⟨b,o,none⟩)) (hlo:mQ l lo i 0) (hhi:mQ l hi j m) (h0:0≤i) (h1:i≤j) (h2:j≤m) :
  ∀w',(execOp (ev l) ⟨d,.slice t x lo hi none,ty,pos,af,g⟩).run P w' = .ok (.value (.slice (some (if m=i.toNat then ⟨b,o,none⟩ else ⟨b,o+i.toNat*sz,none⟩)) (j - i).toNat (m - i.toNat))) w':=by
 intro w';obtain⟨i,rfl⟩:=zN h0;obtain⟨j,rfl⟩:=zN (Int.le_trans h0 h1);have hij:i≤j:=by omega
 have hj:j≤m:=by omega
 have hb:(Instr.sliceBounds false m m (lo.map (ev l)) (hi.map (ev l)) none).run P w' = .ok (i,j,m) w':=by
  unfold Instr.sliceBounds;rcases hhi with ⟨rfl,e2⟩ | ⟨oh,kh,rfl,e2⟩
  ·have e2:j=m:=by omega
   subst e2;rcases hlo with ⟨rfl,e3⟩ | ⟨ol,kl,rfl,e3⟩
   ·simp_all
   simp_all[Instr.sliceBound,asIntOf]
  ·rcases hlo with ⟨rfl,e3⟩ | ⟨ol,kl,rfl,e3⟩
   ·simp_all[Instr.sliceBound,asIntOf]
   simp_all[Int,Instr.sliceBound,asIntOf,if_pos]
 have hsl:(Instr.sliceAt t (ev l x) (lo.map (ev l)) (hi.map (ev l)) ((none:Option Operand).map (ev l))).run P w' = .ok (.slice (some (if m=i then ⟨b,o,none⟩ else ⟨b,o+i*sz,none⟩)) (j - i) (m - i)) w':=by unfold Instr.sliceAt;simp only[Sem.run_bind,run_underlying ht,zL,hx,Instr.sureAddr,Sem.run_pure,Option.map_none,hb,kL hs,Addr.add_lit']
 simp_all[Int,zQ,execOp,Sem.run_bind,zL,Sem.run_pure]
def iW(S:St)(x:Option Operand)(z:Int):Option Int:=match x with
 | none=>some z
 | some o=>match opv S o with
  | some (.d (.int _) i)=>some i
  | _=>none
theorem kM(hf:FrD pl L w S.fr l){x:Option Operand}{i z:Int}(h:iW S x z=some i):mQ l x i z:=by
 unfold iW at h;split at h
 ·cases h;exact .inl ⟨rfl,rfl⟩
 ·split at h
  ·rename_i o k n ho
   cases h
   exact .inr ⟨_,_,rfl,iJ (eT hf ho)⟩
  grind
theorem Js{t:TypeId}{x:Operand}{lo hi:Option Operand}{s y:List UInt8}{i j:Int}(ht:P.underlying t=some .string)
  (hx:ev l x = .string ⟨⟨s⟩⟩) (hlo:mQ l lo i 0) (hhi:mQ l hi j s.length) (h:cut s i j=some y) :
  ∀w',(execOp (ev l) ⟨d,.slice t x lo hi none,ty,pos,af,g⟩).run P w' = .ok (.value (.string ⟨⟨y⟩⟩)) w':=by
 intro w';rcases hlo with ⟨rfl,e1⟩ | ⟨ol,kl,rfl,e1⟩
 ·subst e1
  rcases hhi with ⟨rfl,e2⟩ | ⟨oh,kh,rfl,e2⟩
  ·subst e2
   obtain⟨h0,h1,h2,rfl⟩:=qj h;have e:(⟨⟨s⟩⟩:ByteArray).size=s.length:=rfl;simp[execOp,Instr.sliceAt,hx,run_underlying ht,Instr.slice,Instr.sliceBounds,e,qN]
  ·exact Ea ht hx e2 h
 ·rcases hhi with ⟨rfl,e2⟩ | ⟨oh,kh,rfl,e2⟩
  ·subst e2
   exact D9 ht hx e1 h
  ·exact Cv ht hx e1 e2 h
def prt{α:Type}(xs:List α)(lo n:Int):List α:=(xs.drop lo.toNat).take n.toNat
def Ke(P:Program)(S:St)(t:TypeId)(s:SV)(lo hi:Option Operand)(K:SV->List Nat->Option R):Option R :=
 match nz s with
 | .d .str b=>if isStr P t then match iW S lo 0,iW S hi b.length with
  | some i,some j=>(cut b i j).bind fun y=>K (.d .str y) []
  | _,_=>none else none
 | .d (.sl t0) xs=>match jZ P t with
  | some (_,n)=>if t0.size=n then match iW S lo 0,iW S hi xs.length with
   | some i,some j=>(cut xs i j).bind fun y=>K (.d (.sl t0) y) []
   | _,_=>none else none
  | none=>none
 | .rowz q=>match jZ P t,get S.own q with
  | some (_,n),some (.row t0 _ xs)=>if t0.size=n then match iW S lo 0,iW S hi xs.length with
   | some i,some j=>need (ge i 0) (need (le i j) (need (le j xs.length) (K (.sub q n i (j - i)) [])))
   | _,_=>none else none
  | _,_=>none
 | .sub q sz lo0 m=>match jZ P t with
  | some (_,n)=>if sz=n then match iW S lo 0,iW S hi m with
   | some i,some j=>need (ge i 0) (need (le i j) (need (le j m) (K (.sub q n (lo0+i) (j - i)) [])))
   | _,_=>none else none
  | none=>none
 | .pb q o=>match ql P t,get S.own q with
  | some (m,_,n),some (.row t0 _ xs)=>if t0.size=n∧o=0 then match iW S lo 0,iW S hi m with
   | some i,some j=>need (ge i 0) (need (le i j) (need (le j m) (need (le m xs.length) (K (.sub q n i (j - i)) []))))
   | _,_=>none else none
  | _,_=>none
 | .pe (.ar m' t0) ys=>match ql P t with
  | some (m,_,n)=>if t0.size=n∧m'=m then match iW S lo 0,iW S hi m with
   | some i,some j=>need (ge i 0) (need (le i j) (need (le j m) (K (.d (.sl t0) (prt (show List (Vl t0) from ys) i (j - i))) [])))
   | _,_=>none else none
  | none=>none
 | _=>none
theorem Br{p:Place}{q sz:Nat}{i j lo0 m:Int}{a:Option Addr}{c:Nat}(hp:pl[q]? = some p)(h0:0≤i)(h1:i≤j)(h2:j≤m)(hl:0≤lo0)(hm:lo0+m≤p.n)(hc:m.toNat≤c)(ha:(c≠0->lo0.toNat+c≤p.c∧∃g o,p.a=some ⟨g,o,none⟩∧a=some ⟨g,o+lo0.toNat*sz,none⟩)∧(p.c≠0->blk a=blk p.a)) :
  Den pl L w (.sub q sz (lo0+i) (j - i)) (.slice (if c=i.toNat then a else a.map (·.add (i.toNat*sz))) (j - i).toNat (c - i.toNat)):=by
 refine⟨p,_,_,hp,by omega,by omega,by omega,rfl,by omega,fun hne=>?_,fun hne=>?_⟩
 ·obtain⟨h5,g,o,h3,h4⟩:=ha.1 (by omega)
  refine⟨by omega,g,o,h3,?_⟩;rw[if_neg (by omega),h4];simp only[Option.map_some,Addr.add_lit']
  congr 2
  rw[show (lo0+i).toNat=lo0.toNat+i.toNat by omega,Nat.add_mul,Nat.add_assoc]
 ·rw[<- ha.2 hne]
  split
  ·rfl
  ·cases a with
   | none=>rfl
   | some b=>simp[blk,Addr.add];split<;>rfl
theorem Zp(hf:FrD pl L w S.fr l)(he:EntsD pl L w S.own){t:TypeId}{x:Operand}{s:SV}{lo hi:Option Operand}{K:SV->List Nat->Option R}{r:R}(h:Ke P S t s lo hi K=some r)(hx:Den pl L w s (ev l x)) :
  ∃s' rd,K s' rd=some r∧Yv P pl L w l ⟨d,.slice t x lo hi none,ty,pos,af,g⟩ s' rd:=by
 replace hx:=vZ hx
 unfold Ke at h;generalize nz s=s at h hx;split at h
 ·split at h
  ·rename_i ht
   split at h
   ·rename_i i j hi' hj'
    obtain⟨y,hy,h⟩:=fT h;exact⟨_,_,h,Yv.of (Bq _) (Js (jB ht) (nU hx) (kM hf hi') (kM hf hj') hy)⟩
   grind
  grind
 ·split at h
  ·rename_i e n hel
   obtain⟨h1,h2⟩:=iK hel;split at h
   ·rename_i hsz
    split at h
    ·rename_i i j hi' hj'
     obtain⟨y,hy,h⟩:=fT h;have hr:=qV hx;have hr0:=hr;obtain⟨a,c,hsh,_⟩:=hr0;simp at hsh;rw[hsh]at hr;obtain⟨a',c',h3,h4⟩:=Kc (d:=d) (ty:=ty) (pos:=pos) (af:=af) (g:=g) h1 (by simp_all[gX]) hsh hr (kM hf hi') (kM hf hj') hy;exact⟨_,_,h,Yv.of (wY (t:=.sl _) rfl h3) h4⟩
    grind
   grind
  grind
 ·rename_i q
  split at h
  ·rename_i e n t0 e0 xs hel hg
   obtain⟨h1,h2⟩:=iK hel;split at h
   ·rename_i hsz
    split at h
    ·rename_i i j hi' hj'
     obtain⟨k1,h⟩:=gW h;obtain⟨k2,h⟩:=gW h;obtain⟨k3,h⟩:=gW h;have k1:0≤i:=of_decide_eq_true k1;have k2:i≤j:=of_decide_eq_true k2;have k3:j≤(xs.length:Int):=of_decide_eq_true k3;obtain⟨p,h3,h4⟩:=hx;obtain⟨p',h5,h6⟩:=he.get hg;rw[h3]at h5;cases h5;have hlen:=h6.len;have hcap:=h6.2.cap_le
     have hsh:∃a,ev l x = .slice a p.n p.c∧((p.c≠0->(0:Int).toNat+p.c≤p.c∧∃g o,p.a=some ⟨g,o,none⟩∧a=some ⟨g,o+(0:Int).toNat*n,none⟩)∧(p.c≠0->blk a=blk p.a)):=by
      rcases h4 with h4 | ⟨q1,q2,q3,a,h4⟩
      ·exact⟨p.a,h4,fun hne=>by
        obtain⟨g,hg⟩:=h6.2.addr_cap hne
        exact⟨by simp,g,0,hg,by simp[hg]⟩,fun _=>rfl⟩
      ·exact⟨a,by simp_all,fun hne=>absurd q3 hne,fun hne=>absurd q3 hne⟩
     obtain⟨a,hu,ha⟩:=hsh;have hrun:=rE (P:=P) (d:=d) (ty:=ty) (pos:=pos) (af:=af) (g:=g) h1 h2 hu (kM hf hi') (by rw[hlen];exact kM hf hj') k1 k2 (by omega) (by omega);refine⟨_,_,h,Yv.of ?_ hrun⟩;have:=Br (L:=L) (w:=w) (sz:=n) (lo0:=0) (m:=xs.length) (a:=a) (c:=p.c) h3 k1 k2 k3 (by omega) (by omega) (by omega) ha;simp_all
    grind
   grind
  grind
 ·rename_i q sz lo0 m
  split at h
  ·rename_i e n hel
   obtain⟨h1,h2⟩:=iK hel;split at h
   ·rename_i hsz
    subst hsz;split at h
    ·rename_i i j hi' hj'
     obtain⟨k1,h⟩:=gW h;obtain⟨k2,h⟩:=gW h;obtain⟨k3,h⟩:=gW h;have k1:0≤i:=of_decide_eq_true k1;have k2:i≤j:=of_decide_eq_true k2;have k3:j≤m:=of_decide_eq_true k3;obtain⟨p,a,c,h3,q1,q2,q3,hu,q5,q6⟩:=hx;have hrun:=rE (P:=P) (d:=d) (ty:=ty) (pos:=pos) (af:=af) (g:=g) h1 h2 hu (kM hf hi') (by rw[Int.toNat_of_nonneg q2];exact kM hf hj') k1 k2 (by omega) q5;exact⟨_,_,h,Yv.of (Br h3 k1 k2 k3 q1 q3 q5 q6) hrun⟩
    grind
   grind
  grind
 ·rename_i q o
  split at h
  ·rename_i m e n t0 e0 xs har hg
   obtain⟨h1,h2⟩:=qm har;split at h
   ·rename_i hsz
    obtain⟨hsz,rfl⟩:=hsz;split at h
    ·rename_i i j hi' hj'
     obtain⟨k1,h⟩:=gW h;obtain⟨k2,h⟩:=gW h;obtain⟨k3,h⟩:=gW h;obtain⟨k4,h⟩:=gW h;have k1:0≤i:=of_decide_eq_true k1;have k2:i≤j:=of_decide_eq_true k2;have k3:j≤(m:Int):=of_decide_eq_true k3;have k4:(m:Int)≤(xs.length:Int):=of_decide_eq_true k4;obtain⟨g',n',c',h3,hu⟩:=hx;obtain⟨p',h5,h6⟩:=he.get hg;rw[h3]at h5;cases h5;have hlen:=h6.len;have hrun:=yV (P:=P) (d:=d) (ty:=ty) (pos:=pos) (af:=af) (g:=g) h1 h2 hu (kM hf hi') (kM hf hj') k1 k2 k3;have hcap:=h6.2.cap_le;have hlen:n'=xs.length:=hlen;have hcap:xs.length≤c':=hcap;have hmn:m≤n'∧m≤c':=by omega
     refine⟨_,_,h,Yv.of ?_ hrun⟩;have:=Br (L:=L) (w:=w) (sz:=n) (lo0:=0) (m:=m) (a:=some ⟨g',0,none⟩) (c:=m) h3 k1 k2 k3 (Int.le_refl 0) (by show (0:Int)+m≤(n':Nat);omega) (by omega) ⟨fun _=>⟨by show (0:Int).toNat+m≤c';omega,g',0,rfl,by simp⟩,fun _=>rfl⟩;split<;>simp_all[Addr.add_lit']
    grind
   grind
  grind
 ·rename_i m' t0 ys
  split at h
  ·rename_i m e n har
   obtain⟨h1,h2⟩:=qm har;split at h
   ·rename_i hsz
    obtain⟨hsz,rfl⟩:=hsz;split at h
    ·rename_i i j hi' hj'
     obtain⟨k1,h⟩:=gW h;obtain⟨k2,h⟩:=gW h;obtain⟨k3,h⟩:=gW h;have k1:0≤i:=of_decide_eq_true k1;have k2:i≤j:=of_decide_eq_true k2;have k3:j≤(m':Int):=of_decide_eq_true k3;obtain⟨b,o,hu,hb,hbL,cs,⟨hlen,hrow⟩,hc⟩:=hx;have hrun:=yV (P:=P) (d:=d) (ty:=ty) (pos:=pos) (af:=af) (g:=g) h1 h2 hu (kM hf hi') (kM hf hj') k1 k2 k3;obtain⟨i,rfl⟩:=zN k1;obtain⟨j,rfl⟩:=zN (Int.le_trans k1 k2);have hle:i≤j:=by omega
     have hjm:j≤m':=by omega
     have e0:((j:Int) - i).toNat=j - i:=by omega
     have hpl:(prt (show List (Vl t0) from ys) (i:Int) ((j:Int) - i)).length=j - i:=by unfold prt;grind
     refine⟨_,_,h,Yv.of (wY (t:=.sl t0) rfl ⟨_,_,by rw[hpl,e0],?_,fun hne=>⟨b,o+i*n,?_,fun k y hk=>?_⟩⟩) hrun⟩
     ·omega
     ·have hij:j≠i:=fun e=>hne (List.eq_nil_of_length_eq_zero (by omega))
      grind
     ·unfold prt at hk
      rw[e0,zQ]at hk;have hkn:k<j - i:=by grind
      rw[List.getElem?_take_of_lt hkn,List.getElem?_drop]at hk;obtain⟨p2,c2,q2,e2,e3,r2,_⟩:=hrow.at hk;refine⟨hb,hbL,c2,r2,fun q v hq=>?_⟩;have:=hc (p2.length+q) v (by grind);grind[gX,Nat.add_mul]
    grind
   grind
  grind
 grind
def Cx(P:Program)(t:TypeId):Bool:=match P.underlying t with
 | some (.slice _)=>true
 | _=>false
theorem wm{t:TypeId}(h:Cx P t=true):∃e,P.underlying t=some (.slice e):=by grind[Cx]
def abj(P:Program)(own:List (Nat×Ent))(t:TypeId)(s:SV)(K:SV->List Nat->Option R):Option R :=
 match nz s with
 | .d .str b=>if isStr P t then K (.d (.int .i64) (b.length:Int)) [] else none
 | .d (.sl _) xs=>if Cx P t then K (.d (.int .i64) (xs.length:Int)) [] else none
 | .rowz i=>if Cx P t then match get own i with
  | some (.row _ _ xs)=>K (.d (.int .i64) (xs.length:Int)) []
  | _=>none else none
 | .k (.slice none 0 0)=>if Cx P t then K (.d (.int .i64) 0) [] else none
 | .sub _ _ _ n=>if Cx P t then K (.d (.int .i64) n) [] else none
 | _=>none
theorem anC{own:List (Nat×Ent)}(he:EntsD pl L w own){t:TypeId}{x:Operand}{s:SV}{K:SV->List Nat->Option R}{r:R}(h:abj P own t s K=some r)(hx:Den pl L w s (ev l x)) :
  ∃s' rd,K s' rd=some r∧Yv P pl L w l ⟨d,.call { callee:=.builtin .len,args:=#[x],argTypes:=#[t] },ty,pos,af,g⟩ s' rd:=by
 replace hx:=vZ hx
 unfold abj at h;generalize nz s=s at h hx;split at h
 ·split at h
  ·rename_i ht
   exact⟨_,_,h,Yv.of (iH _ _) (fun w'=>Pm (jB ht) (nU hx))⟩
  grind
 ·split at h
  ·rename_i ht
   obtain⟨e,ht⟩:=wm ht;have hr:=qV hx;obtain⟨a,c,hsh,_⟩:=hr;simp at hsh;exact⟨_,_,h,Yv.of (iH _ _) (fun w'=>nS ht hsh rfl)⟩
  grind
 ·split at h
  ·rename_i ht
   obtain⟨e,ht⟩:=wm ht;split at h
   ·rename_i t0 e' xs hg
    obtain⟨p,h6,h7⟩:=hx;obtain⟨p',h8,h9⟩:=he.get hg;rw[h6]at h8;cases h8;have hn:=h9.len;rcases h7 with h7 | ⟨_,q2,_,a,h7⟩
    ·exact⟨_,_,h,Yv.of (iH _ _) (fun w'=>nS ht h7 hn)⟩
    ·exact⟨_,_,h,Yv.of (iH _ _) (fun w'=>nS ht h7 (by omega))⟩
   grind
  grind
 ·split at h
  ·rename_i ht
   obtain⟨e,ht⟩:=wm ht;exact⟨_,_,h,Yv.of (iH _ _) (fun w'=>nS ht hx rfl)⟩
  grind
 ·split at h
  ·rename_i ht
   obtain⟨e,ht⟩:=wm ht;obtain⟨p,a,c,_,_,q2,_,hu,_,_⟩:=hx;refine⟨_,_,h,Yv.of (iH _ _) (fun w'=>?_)⟩;have:=nS (P:=P) (w:=w') (d:=d) (ty:=ty) (pos:=pos) (af:=af) (gd:=g) ht hu rfl;grind
  grind
 grind
def abk(k:IntKind)(n:Int):Int:=iE k (if k.signed then -1 else k.max) n
theorem abl{t:TypeId}{x:Operand}{k:IntKind}{a:Int}(hx:ev l x = .int k a) :
  (execOp (ev l) ⟨d,.unOp .xor t x,ty,pos,af,g⟩).run P w = .ok (.value (.int k (abk k a))) w:=by simp[execOp,hx,Op.unary,Op.intBits,abk,iE]
def qUn(op:UnOp)(s:SV)(K:SV->List Nat->Option R):Option R :=
 match op,s with
 | .not,.d .bool b=>K (.d .bool (!b)) []
 | .neg,.d (.int k) n=>K (.d (.int k) (neg k n)) []
 | .xor,.d (.int k) n=>K (.d (.int k) (abk k n)) []
 | _,_=>none
theorem ao0{op:UnOp}{t:TypeId}{x:Operand}{s:SV}{K:SV->List Nat->Option R}{r:R}(h:qUn op s K=some r)(hx:Den pl L w s (ev l x)) :
  ∃s' rd,K s' rd=some r∧Yv P pl L w l ⟨d,.unOp op t x,ty,pos,af,g⟩ s' rd:=by
 unfold qUn at h;split at h
 ·exact⟨_,_,h,Yv.of (lY _) (fun w'=>ano (lq hx))⟩
 ·exact⟨_,_,h,Yv.of (iH _ _) (fun w'=>anp (iJ hx))⟩
 ·exact⟨_,_,h,Yv.of (iH _ _) (fun w'=>abl (iJ hx))⟩
 grind
def wo(P:Program)(t:TypeId):Option TypeId:=match P.underlying t with
 | some (.slice e)=>match P.underlying e with
  | some (.int .u8)=>some e
  | _=>none
 | _=>none
theorem yX{t e:TypeId}(h:wo P t=some e):P.underlying t=some (.slice e)∧P.underlying e=some (.int .u8):=by grind[wo]
def Q5(P:Program)(t:TypeId):Bool:=match P.underlying t with
 | some .unsafePointer=>true
 | _=>false
def ale(P:Program)(e:TypeId):Bool:=match P.info? e with
 | some j=>j.size != 0
 | none=>false
def Jt(P:Program)(t:TypeId):Option TypeId:=match P.underlying t with
 | some (.pointer e)=>if ale P e=true then some e else none
 | _=>none
theorem Kg{t e:TypeId}(h:Jt P t=some e):P.underlying t=some (.pointer e)∧∃j,P.info? e=some j∧j.size≠0:=by grind[Jt,ale]
theorem PU{t:TypeId}(h:Q5 P t=true):P.underlying t=some .unsafePointer:=by grind[Q5]
def Q6(P:Program)(own:List (Nat×Ent))(t u:TypeId)(s:SV)(K:SV->List Nat->Option R):Option R :=
 match nz s with
 | .d (.int _) n=>match P.underlying t,P.underlying u with
  | some _,some (.int k')=>K (.d (.int k') (cvt k' n)) []
  | _,_=>none
 | .d .str b=>if isStr P t=true∧isStr P u=true then K (.d .str b) [] else none
 | .d (.sl (.int .u8)) xs=>match wo P t with
  | some _=>if isStr P u=true then K (.d .str (toS xs)) [] else none
  | none=>none
 | .rowz i=>match wo P t,get own i with
  | some _,some (.row (.int .u8) _ xs)=>if isStr P u=true then K (.d .str (toS xs)) [i] else none
  | _,_=>none
 | .sub i sz lo n=>match wo P t,get own i with
  | some _,some (.row (.int .u8) _ xs)=>if isStr P u=true∧sz=1 then K (.d .str (toS (prt xs lo n))) [i] else none
  | _,_=>none
 | .pb i o=>match get own i with
  | some (.box T cs)=>if decide (o<cs.length)=true then match Jt P t with
    | some _=>if Q5 P u=true then K (.pb i o) [i] else none
    | none=>match Jt P u with
     | some e=>if Q5 P t=true∧liesAt P P.depth T (cs.length / P.cellsOf T) o e 1=true then K (.pb i o) [i] else none
     | none=>none
   else none
  | _=>none
 | _=>none
theorem xq{t u:TypeId}{x:Operand}{v:Value}(h:(convert t u (ev l x)).run P w = .ok v w):(execOp (ev l) ⟨d,.convert t u x,ty,pos,af,g⟩).run P w = .ok (.value v) w:=by simp_all[execOp,Sem.run_bind,zL,Sem.run_pure]
theorem Q7{t u e:TypeId}{x:Operand}{a:Option Addr}{n c:Nat}{xs:List Int}(ht:P.underlying t=some (.slice e))(he:P.underlying e=some (.int .u8))(hu:P.underlying u=some .string)
  (hx:ev l x = .slice a n c) (hn:xs.length=n) (ha:n≠0->∃b o,a=some ⟨b,o,none⟩∧∀i y,xs[i]? = some y->w.cell? ⟨b,o+i,none⟩=some (.int .u8 y)) :
  (execOp (ev l) ⟨d,.convert t u x,ty,pos,af,g⟩).run P w = .ok (.value (.string ⟨⟨toS xs⟩⟩)) w:=by
 refine xq ?_;rw[hx];by_cases h0:n=0
 ·subst h0
  have hxs:xs=[]:=List.eq_nil_of_length_eq_zero hn;subst hxs;rw[run_convert_bytes_string w t u e a 0 c ht he hu]
  cases a with
  | none=>rfl
  | some a =>
   rfl
 ·obtain⟨b,o,rfl,hc⟩:=ha h0
  have:=run_convert_bytes_arg (P:=P) w t e ht he b o n c xs hn (fun i hi=>by simp_all) u hu;rw[this];rfl
theorem abm{own:List (Nat×Ent)}(he:EntsD pl L w own){t u:TypeId}{x:Operand}{s:SV}{K:SV->List Nat->Option R}{r:R}(h:Q6 P own t u s K=some r)(hx:Den pl L w s (ev l x)) :
  ∃s' rd,K s' rd=some r∧Yv P pl L w l ⟨d,.convert t u x,ty,pos,af,g⟩ s' rd:=by
 replace hx:=vZ hx
 unfold Q6 at h;generalize nz s=s at h hx;split at h
 ·split at h
  ·rename_i h1 h2
   exact⟨_,_,h,Yv.of (iH _ _) (fun w'=>anq h1 h2 (iJ hx))⟩
  grind
 ·split at h
  ·rename_i hc
   have h1:=jB hc.1;have h2:=jB hc.2;refine⟨_,_,h,Yv.of (Bq _) (fun w'=>xq ?_)⟩;rw[nU hx];simp_all[convert,run_underlying]
  grind
 ·rename_i xs
  split at h
  ·rename_i e hu8
   obtain⟨h1,h2⟩:=yX hu8;split at h
   ·rename_i hst
    have hr:=qV hx;have hr0:=hr;obtain⟨a,c,hsh,_⟩:=hr0;simp at hsh;refine⟨_,_,h,_,Bq _,fun w' hF _=>Q7 h1 h2 (jB hst) hsh rfl (fun hne=>?_)⟩;rw[hsh]at hr;have hr':=(rp (.sl (.int .u8))).mono hr hF;obtain⟨a',c',e1,_,e2⟩:=hr';simp at e1;obtain⟨rfl,rfl⟩:=e1;obtain⟨b,o,rfl,e3⟩:=e2 (by simp_all);refine⟨b,o,rfl,fun i y hy=>?_⟩;obtain⟨_,_,cs,e4,e5⟩:=e3 i y hy;have e4:cs=[.int .u8 y]:=e4;subst e4;have:=e5 0 _ rfl;simp_all[gX,Ty.size]
   grind
  grind
 ·rename_i i
  split at h
  ·rename_i e e0 xs hu8 hg
   obtain⟨h1,h2⟩:=yX hu8;split at h
   ·rename_i hst
    obtain⟨p,h3,h4⟩:=hx;obtain⟨p',h5,h6⟩:=he.get hg;rw[h3]at h5;cases h5;have hlen:=h6.len;refine⟨_,_,h,_,Bq _,fun w' hF hrd=>?_⟩;rcases h4 with h4 | ⟨_,q2,_,a,h4⟩
    ·refine Q7 h1 h2 (jB hst) h4 hlen.symm (fun hne=>?_)
     obtain⟨gg,hga⟩:=h6.addr (i:=0) (by omega);refine⟨gg,0,hga,fun j y hy=>?_⟩;obtain⟨pa,pn,pc⟩:=p;simp only at hga h6;subst hga;obtain⟨cs,e4,e5⟩:=qW h6 hy;have e4:cs=[.int .u8 y]:=e4;subst e4;have:=e5 0 _ rfl;rw[World.cell?_of_block (w:=w) (hrd i (by simp) gg (by rw[fZ h3];rfl))];simp_all[gX,Ty.size]
    ·exact Q7 h1 h2 (jB hst) h4 (by omega) (fun hne=>absurd rfl hne)
   grind
  grind
 ·rename_i i sz lo n
  split at h
  ·rename_i e e0 xs hu8 hg
   obtain⟨h1,h2⟩:=yX hu8;split at h
   ·rename_i hst
    obtain⟨hst,rfl⟩:=hst;obtain⟨p,a,c,h3,q1,q2,q3,hu,q5,q6⟩:=hx;obtain⟨p',h5,h6⟩:=he.get hg;rw[h3]at h5;cases h5;have hlen:=h6.len;refine⟨_,_,h,_,Bq _,fun w' hF hrd=>?_⟩;refine Q7 h1 h2 (jB hst) hu (by grind[prt]) (fun hne=>?_);obtain⟨_,gg,oo,hga,rfl⟩:=q6.1 (by omega);obtain⟨_,hb0⟩:=h6.2.addr_cap (c:=p.c) (by have:=h6.2.cap_le;omega);rw[hga]at hb0;cases hb0;refine⟨gg,_,rfl,fun j y hy=>?_⟩;obtain⟨pa,pn,pc⟩:=p;simp only at hga h6;subst hga;unfold prt at hy;have hjn:j<n.toNat:=by grind
    rw[List.getElem?_take_of_lt hjn,List.getElem?_drop]at hy;obtain⟨cs,e4,e5⟩:=qW h6 hy;have e4:cs=[.int .u8 y]:=e4;subst e4;have:=e5 0 _ rfl;rw[World.cell?_of_block (w:=w) (hrd i (by simp) gg (by rw[fZ h3];rfl))];simp_all[gX,Ty.size]
   grind
  grind
 ·rename_i i o
  split at h
  ·rename_i T cs hg
   obtain⟨gg,n,c,us,h3,h4,h5,_⟩:=he.get hg;obtain⟨g',n',c',h6,hu⟩:=hx;rw[h3]at h6;cases h6;have hl:=h5.len;have hshape:∀w':World,(∀k,plb pl i=some k->w'.heap[k]? = w.heap[k]?)->w'.shape? gg=some (T,cs.length):=fun w' hrd=>by have:=hrd gg (by rw[fZ h3];rfl);simp_all[Bx,World.shape?]
   split at h
   ·rename_i ho
    have ho:=of_decide_eq_true ho;split at h
    ·rename_i e hp
     obtain⟨p1,j,p2,p3⟩:=Kg hp;split at h
     ·rename_i hup
      refine⟨_,_,h,.pointer (some ⟨gg,o,none⟩),⟨gg,n,c,h3,rfl⟩,fun w' hF hrd=>xq ?_⟩;rw[hu];exact Lib.run_to_unsafe w' _ p1 (PU hup) p2 p3 (hshape w' (hrd i (by simp))) ho
     grind
    ·split at h
     ·rename_i e hp
      obtain⟨p1,j,p2,p3⟩:=Kg hp;split at h
      ·rename_i hc
       refine⟨_,_,h,.pointer (some ⟨gg,o,none⟩),⟨gg,n,c,h3,rfl⟩,fun w' hF hrd=>xq ?_⟩;rw[hu];exact Lib.run_from_unsafe w' _ (PU hc.1) p1 p2 (hshape w' (hrd i (by simp))) hc.2
      grind
     grind
   grind
  grind
 grind
def Kh(P:Program)(t:TypeId)(s i:SV)(K:SV->List Nat->Option R):Option R :=
 match i with
 | .d (.int _) j=>match s with
  | .d .str b=>if isStr P t then (at? b j).bind fun c=>K (.d (.int .u8) (c.toNat:Int)) [] else none
  | .d (.ar _ t0) xs=>match ql P t with
   | some (m,e,n)=>match tyc P e with
    | some fy=>if n=t0.size then need (lt j m) ((at? xs j).bind fun y=>match gZ t0 fy y with
     | some z=>K (.d fy z) []
     | none=>none) else none
    | none=>none
   | none=>none
  | .agg cs=>match ql P t with
   | some (m,e,n)=>ixC j (fun q=>match J8 P e (q*n) cs with
    | some y=>K y []
    | none=>none) m
   | none=>none
  | _=>none
 | _=>none
theorem Ki{t e:TypeId}{m n:Nat}{x y:Operand}{k:IntKind}{j:Int}{us:List Value}{v:Value}(h1:P.underlying t=some (.array m e))(h2:jc P e=some n)(hx:ev l x = .agg us.toArray)(hy:ev l y = .int k j)(h3:0≤j)(h4:j<m)
  (hp:(part e us.toArray (j.toNat*n)).run P w = .ok v w):(execOp (ev l) ⟨d,.index t x y,ty,pos,af,g⟩).run P w = .ok (.value v) w:=by
 have hi:(Instr.index t (ev l x) (ev l y)).run P w = .ok v w:=by unfold Instr.index;rw[hx,hy];simp only[asIntOf,Sem.run_bind,Sem.run_pure,zL,run_underlying h1];rw[if_pos ⟨h3,h4⟩];simp only[Sem.run_bind,kL h2,zL,hp]
 simp_all[execOp,Sem.run_bind,zL,Sem.run_pure]
theorem Zq{t:TypeId}{x y:Operand}{s i:SV}{K:SV->List Nat->Option R}{r:R}(h:Kh P t s i K=some r)(hx:Den pl L w s (ev l x))(hi:Den pl L w i (ev l y)) :
  ∃s' rd,K s' rd=some r∧Yv P pl L w l ⟨d,.index t x y,ty,pos,af,g⟩ s' rd:=by
 unfold Kh at h;split at h
 ·rename_i k j
  split at h
  ·split at h
   ·rename_i ht
    obtain⟨z,hz,h⟩:=fT h;obtain⟨h3,h4,h5⟩:=jm hz;exact⟨_,_,h,Yv.of (iH _ _) (fun w'=>Jn (jB ht) (nU hx) (iJ hi) h3 h4)⟩
   ·cases h
  ·rename_i N t0 xs
   split at h
   ·rename_i m e n har
    obtain⟨h1,h2⟩:=qm har;split at h
    ·rename_i fy hfy
     split at h
     ·rename_i hn
      obtain⟨hjm,h⟩:=gW h;have hjm:(j:Int)<(m:Int):=of_decide_eq_true hjm;obtain⟨z,hz,h⟩:=fT h;obtain⟨h3,h4,h5⟩:=jm hz;split at h
      ·rename_i z' hz'
       obtain⟨e1,hz'⟩:=og hz';subst e1;subst hz';obtain⟨cs,⟨h6,h7⟩,h8⟩:=hx;obtain⟨pre,c,post,e2,h9,h10,_⟩:=h7.at h4;have hval:ev l x = .agg cs.toArray:=by rw[h8];simp[Rp.val,gH,Ty.agg]
       refine⟨_,_,h,Yv.of (v:=(rp t0).val c) ⟨c,h10,rfl⟩ (fun w'=>Ki h1 h2 hval (iJ hi) h3 hjm ?_)⟩;obtain⟨⟨dd,q1,q2⟩,q3,q4⟩:=mH hfy
       have hsh:uP P e=some ((rp t0).agg,t0.size):=by
        unfold uP;rw[q1,q3];simp only[q2,gX];rw[if_pos]
        cases ha:(rp t0).agg with
        | true=>exact .inl rfl
        | false=>exact .inr (by have:=q4 ha;rwa[gX]at this)
       have hlen:c.length=t0.size:=by rw[(rp t0).len h10,gX]
       have hoff:j.toNat*n=pre.length:=by rw[h9,hn,gX]
       rw[hoff];have hpart:=IC (P:=P) (w:=w') (us:=cs) (off:=pre.length) hsh (by rw[e2];simp;omega);rw[hpart,e2]
       congr 1
       have:((pre++c++post).drop pre.length).take t0.size=c:=by rw[List.append_assoc,List.drop_left,<- hlen,List.take_left]
       rw[this];rfl
      ·cases h
     ·cases h
    ·cases h
   ·cases h
  ·rename_i cs
   split at h
   ·rename_i m e n har
    obtain⟨h1,h2⟩:=qm har;obtain⟨q,h3,hj,hq⟩:=Kb h;split at hq
    ·rename_i y' hc
     obtain⟨us,h4,h5,h6⟩:=hx;obtain⟨ag,sz,h7,h8,h9⟩:=E7 hc h4 h5;have hi:=iJ hi;rw[hj]at hi;exact⟨_,_,hq,Yv.of h9 (fun w'=>Ki h1 h2 h6 hi (by omega) (by omega) (by rw[zQ];exact IC h7 h8))⟩
    ·cases hq
   ·cases h
  ·cases h
 ·cases h
def aAa(P:Program)(t:TypeId)(y:Operand)(s:SV):Option Bool :=
 match P.underlying t with
 | some (.pointer _)=>match y with
  | .const (.pointer none)=>match s with
   | .k (.pointer none)=>some true
   | .pb _ _=>some false
   | .prw _ _ _ _=>some false
   | .pra i _ _ _ _ _ _ _=>some false
   | .pe _ _=>some false
   | .opb b _ _=>some (!b)
   | _=>none
  | _=>none
 | some (.slice _)=>match y with
  | .const (.slice none 0 0)=>match s with
   | .k (.slice none 0 0)=>some true
   | _=>none
  | _=>none
 | some (.map _ _)=>match y with
  | .const (.map none)=>match s with
   | .k (.map none)=>some true
   | .mp _=>some false
   | _=>none
  | _=>none
 | some (.interface _)=>match y with
  | .const .nilIface=>match s with
   | .k .nilIface=>some true
   | .ifc _ _=>some false
   | _=>none
  | _=>none
 | some (.func _ _ _)=>match y with
  | .const .nilFunc=>match s with
   | .k .nilFunc=>some true
   | .fn _ _ _=>some false
   | _=>none
  | _=>none
 | _=>none
inductive NilPair(P:Program) (t:TypeId):Value->Value->Bool->Prop
 | pn {e:TypeId} (h:P.underlying t=some (.pointer e)):NilPair P t (.pointer none) (.pointer none) true
 | pp {e:TypeId} {a:Addr} (h:P.underlying t=some (.pointer e)):NilPair P t (.pointer (some a)) (.pointer none) false
 | sn {e:TypeId} (h:P.underlying t=some (.slice e)):NilPair P t (.slice none 0 0) (.slice none 0 0) true
 | sv {e:TypeId} {n c:Nat} (h:P.underlying t=some (.slice e)):NilPair P t (.slice none n c) (.slice none 0 0) true
 | sa {e:TypeId} {a:Addr} {n c:Nat} (h:P.underlying t=some (.slice e)):NilPair P t (.slice (some a) n c) (.slice none 0 0) false
 | mn {k e:TypeId} (h:P.underlying t=some (.map k e)):NilPair P t (.map none) (.map none) true
 | mm {k e:TypeId} {g:Nat} (h:P.underlying t=some (.map k e)):NilPair P t (.map (some g)) (.map none) false
 | inn {ms:Array (String×TypeId)} (h:P.underlying t=some (.interface ms)):NilPair P t .nilIface .nilIface true
 | ii {ms:Array (String×TypeId)} {t':TypeId} {v:Value} (h:P.underlying t=some (.interface ms)):NilPair P t (.iface t' v) .nilIface false
 | fn {a b:Array TypeId} {c:Bool} (h:P.underlying t=some (.func a b c)):NilPair P t .nilFunc .nilFunc true
 | ff {a b:Array TypeId} {c:Bool} {f:Fn} {x y:Array Value} (h:P.underlying t=some (.func a b c)):NilPair P t (.func f x y) .nilFunc false
theorem NilPair.eq{t:TypeId}{u c:Value}{b:Bool}(h:NilPair P t u c b):(Op.equal t u c).run P w = .ok b w:=by
 have key:∀d:Nat,(Op.equalIn (d+1) t u c).run P w = .ok b w:=fun d=>by
  cases h with
  | pn h=>simp[Op.equalIn,run_underlying h]
  | pp h=>simp[Op.equalIn,run_underlying h]
  | sn h=>simp[Op.equalIn,run_underlying h]
  | sv h=>simp[Op.equalIn,run_underlying h]
  | sa h=>simp[Op.equalIn,run_underlying h]
  | mn h=>simp[Op.equalIn,run_underlying h]
  | mm h=>simp[Op.equalIn,run_underlying h]
  | inn h=>simp[Op.equalIn,run_underlying h]
  | ii h=>simp[Op.equalIn,run_underlying h]
  | fn h=>simp[Op.equalIn,run_underlying h]
  | ff h=>simp[Op.equalIn,run_underlying h]
 exact key 9999
theorem NilPair.run{op:BinOp}{t u:TypeId}{x:Operand}{c:Value}{b:Bool}(h:NilPair P t (ev l x) c b)(ho:op = .eql∨op = .neq) :
  (execOp (ev l) ⟨d,.binOp op t x (.const c) u,ty,pos,af,g⟩).run P w = .ok (.value (.bool (if op = .eql then b else !b))) w:=by
 have he:=h.eq (w:=w);have hc:ev l (.const c)=c:=rfl;have hb:(do eqGuard op t x (.const c) (ev l x) (ev l (.const c));binOp op t (ev l x) (ev l (.const c)):Sem Value).run P w = .ok (.bool (if op = .eql then b else !b)) w:=by rw[hc];generalize ev l x=v at h he;rcases ho with rfl | rfl<;>cases h<;>simp[eqGuard,binOp,he]
 grind[execOp,Sem.run_bind,zL,Sem.run_pure]
def abn(P:Program)(op:BinOp)(t:TypeId)(y:Operand)(s:SV)(K:SV->List Nat->Option R):Option R:=none
theorem anD{op:BinOp}{t u:TypeId}{x y:Operand}{s:SV}{K:SV->List Nat->Option R}{r:R}(h:abn P op t y s K=some r)(hx:Den pl L w s (ev l x)) :
  ∃s' rd,K s' rd=some r∧Yv P pl L w l ⟨d,.binOp op t x y u,ty,pos,af,g⟩ s' rd:=by
 unfold abn at h;cases h
def abo(P:Program)(op:BinOp)(t:TypeId)(a b:SV)(K:SV->List Nat->Option R):Option R:=none
theorem anE{op:BinOp}{t u:TypeId}{x y:Operand}{a b:SV}{K:SV->List Nat->Option R}{r:R}(h:abo P op t a b K=some r)(hx:Den pl L w a (ev l x))(hy:Den pl L w b (ev l y)) :
  ∃s' rd,K s' rd=some r∧Yv P pl L w l ⟨d,.binOp op t x y u,ty,pos,af,g⟩ s' rd:=by
 unfold abo at h;cases h
def mn(a b:Int):Int:=if lt b a=true then b else a
def mx(a b:Int):Int:=if gt b a=true then b else a
def Q8(S:St)(k:IntKind):List Operand->Option (List Int)
 | []=>some []
 | x::q=>match opv S x with
  | some (.d (.int k') n)=>if k'=k then (Q8 S k q).map fun r=>n::r else none
  | _=>none
def ints(S:St):List Operand->Option (IntKind×Int×List Int)
 | []=>none
 | x::q=>match opv S x with
  | some (.d (.int k) n)=>(Q8 S k q).map fun r=>(k,n,r)
  | _=>none
theorem PV(hf:FrD pl L w S.fr l){k:IntKind}:∀{q:List Operand} {ns:List Int},Q8 S k q=some ns->q.map (ev l)=ns.map (Value.int k)
 | [],ns,h=>by cases h;rfl
 | x::q,ns,h=>by
  unfold Q8 at h;split at h
  ·rename_i k' n hx
   split at h
   ·rename_i hk
    subst hk;obtain⟨r,h1,rfl⟩:=Option.map_eq_some_iff.1 h;rw[List.map_cons,List.map_cons,iJ (eT hf hx),PV hf h1]
   grind
  grind
theorem PW(hf:FrD pl L w S.fr l){q:List Operand}{k:IntKind}{n:Int}{ns:List Int}(h:ints S q=some (k,n,ns)):q.map (ev l) = .int k n::ns.map (Value.int k):=by
 cases q with
 | nil=>cases h
 | cons x q =>
  simp only[ints]at h;split at h
  ·rename_i k' n' hx
   obtain⟨r,h1,h2⟩:=Option.map_eq_some_iff.1 h;cases h2;rw[List.map_cons,iJ (eT hf hx),PV hf h1]
  grind
theorem IE{k:IntKind}:∀(ns:List Int) (n:Int),((ns.map (Value.int k)).foldlM Builtin.min2 (.int k n)).run P w = .ok (.int k (ns.foldl mn n)) w
 | [],n=>rfl
 | a::ns,n=>by simp_all[List.map_cons,List.foldlM_cons,List.foldl_cons,Builtin.min2,mn,lt,Sem.run_pure,Sem.run_bind,zL,IE]
theorem IG{k:IntKind}:∀(ns:List Int) (n:Int),((ns.map (Value.int k)).foldlM Builtin.max2 (.int k n)).run P w = .ok (.int k (ns.foldl mx n)) w
 | [],n=>rfl
 | a::ns,n=>by simp_all[List.map_cons,List.foldlM_cons,List.foldl_cons,Builtin.max2,mx,gt,Sem.run_pure,Sem.run_bind,zL,IG]
theorem anF{xs:List Operand}{ts:Array TypeId}{k:IntKind}{n:Int}{ns:List Int}(h:xs.map (ev l) = .int k n::ns.map (Value.int k)) :
  (execOp (ev l) ⟨d,.call ⟨.builtin .min,⟨xs⟩,ts⟩,ty,pos,af,g⟩).run P w = .ok (.value (.int k (ns.foldl mn n))) w:=by
 have hb:(Builtin.min_ ts ty ((⟨xs⟩:Array Operand).map (ev l))).run P w = .ok (.int k (ns.foldl mn n)) w:=by simp_all[Builtin.min_,Array,Operand,ev,Value.int,IE]
 simp_all[execOp,resolve,invoke,builtin,Sem.run_bind,Sem.run_pure,zL]
theorem anG{xs:List Operand}{ts:Array TypeId}{k:IntKind}{n:Int}{ns:List Int}(h:xs.map (ev l) = .int k n::ns.map (Value.int k)) :
  (execOp (ev l) ⟨d,.call ⟨.builtin .max,⟨xs⟩,ts⟩,ty,pos,af,g⟩).run P w = .ok (.value (.int k (ns.foldl mx n))) w:=by
 have hb:(Builtin.max_ ts ty ((⟨xs⟩:Array Operand).map (ev l))).run P w = .ok (.int k (ns.foldl mx n)) w:=by simp_all[Builtin.max_,Array,Operand,ev,Value.int,IG]
 simp_all[execOp,resolve,invoke,builtin,Sem.run_bind,Sem.run_pure,zL]
theorem yP{α:Type}{R:Rp α}{L:Lx}{t e:TypeId}{x mx:Operand}{lo hi:Option Operand}{a:Option Addr}{n c:Nat}{xs y:List α}{i j m:Int}(ht:P.underlying t=some (.slice e))(hs:jc P e=some R.size)
  (hx:ev l x = .slice a n c) (hr:(Rp.slice R).rel L w [.slice a n c] xs) (hlo:mQ l lo i 0) (hhi:∃o k,hi=some o∧ev l o = .int k j) (hmx:∃k,ev l mx = .int k m) (h:cut xs i j=some y) (hjm:j≤m) (hm:m≤xs.length) :
  ∃a' c',(Rp.slice R).rel L w [.slice a' y.length c'] y∧∀w',(execOp (ev l) ⟨d,.slice t x lo hi (some mx),ty,pos,af,g⟩).run P w' = .ok (.value (.slice a' y.length c')) w':=by
 obtain⟨h0,h1,h2,hy⟩:=qj h;obtain⟨a0,c0,e1,hcap,h3⟩:=hr;simp at e1;obtain⟨rfl,rfl,rfl⟩:=e1;obtain⟨km,hmx⟩:=hmx;obtain⟨i,rfl⟩:=zN h0;obtain⟨j,rfl⟩:=zN (Int.le_trans h0 h1);obtain⟨m,rfl⟩:=zN (Int.le_trans (Int.le_trans h0 h1) hjm);have hij:i≤j:=by omega
 have hj:j≤xs.length:=by omega
 simp only[zQ]at hy;have hyl:y.length=j - i:=by simp_all
 refine⟨if m=i then a else a.map (·.add (i*R.size)),m - i,⟨_,m - i,rfl,by omega,fun hne=>?_⟩,fun w'=>?_⟩
 ·have hlt:i<j:=by simp_all
  obtain⟨b,o,rfl,h4⟩:=h3 (by grind);rw[if_neg (by omega)];grind[Addr.add_lit',zW,kB,List.getElem?_take_of_lt,Nat.add_mul,Nat.add_assoc]
 ·have hb:(Instr.sliceBounds true xs.length c (lo.map (ev l)) (hi.map (ev l)) (some (.int km m))).run P w' = .ok (i,j,m) w':=by
   unfold Instr.sliceBounds;obtain⟨oh,kh,rfl,e2⟩:=hhi;rcases hlo with ⟨rfl,e3⟩ | ⟨ol,kl,rfl,e3⟩
   ·have e3:i=0:=by omega
    subst e3;simp[Instr.sliceBound,asIntOf,e2];grind
   ·simp[Instr.sliceBound,asIntOf,e2,e3]
    grind
  have hsl:(Instr.sliceAt t (ev l x) (lo.map (ev l)) (hi.map (ev l)) ((some mx:Option Operand).map (ev l))).run P w' = .ok (.slice (if m=i then a else a.map (·.add (i*R.size))) (j - i) (m - i)) w':=by unfold Instr.sliceAt;simp only[Sem.run_bind,run_underlying ht,zL];unfold Instr.slice;simp only[Sem.run_bind,run_underlying ht,zL,hx,Option.map_some,hmx,hb,kL hs,Sem.run_pure]
  simp_all[execOp,Sem.run_bind,zL,Sem.run_pure]
def E8:Option Operand->Bool
 | some (.const (.int _ 0))=>false
 | some _=>true
 | none=>false
def abp(P:Program)(S:St)(t:TypeId)(s:SV)(lo hi:Option Operand)(mx:Operand)(K:SV->List Nat->Option R):Option R :=
 match s with
 | .d (.sl t0) xs=>if E8 hi=true then match jZ P t,iW S lo 0,iW S hi 0,iW S (some mx) 0 with
   | some (_,n),some i,some j,some m=>if t0.size=n then (cut xs i j).bind fun y=>need (le j m) (need (le m (zF xs.length)) (K (.d (.sl t0) y) [])) else none
   | _,_,_,_=>none
  else none
 | _=>none
theorem anH(hf:FrD pl L w S.fr l){t:TypeId}{x:Operand}{s:SV}{lo hi:Option Operand}{mx:Operand}{K:SV->List Nat->Option R}{r:R}(h:abp P S t s lo hi mx K=some r)(hx:Den pl L w s (ev l x)) :
  ∃s' rd,K s' rd=some r∧Yv P pl L w l ⟨d,.slice t x lo hi (some mx),ty,pos,af,g⟩ s' rd:=by
 unfold abp at h;split at h
 ·rename_i t0 xs
  split at h
  ·rename_i hz
   split at h
   ·rename_i e n i j m hel hlo hhi hmx
    split at h
    ·rename_i hsz
     obtain⟨y,hy,h⟩:=fT h;obtain⟨hjm,h⟩:=gW h;obtain⟨hm,h⟩:=gW h;have hjm:j≤m:=by simp_all[le]
     have hm:m≤xs.length:=by simp_all[le]
     obtain⟨h1,h2⟩:=iK hel;have hr:=qV hx;obtain⟨a,c,hsh,hr2⟩:=hr;simp at hsh;have hr:=qV hx;rw[hsh]at hr
     have hh:∃o k,hi=some o∧ev l o = .int k j:=by
      rcases kM hf hhi with ⟨e1,_⟩ | e1
      ·simp_all[E8]
      omega
     have hmm:∃k,ev l mx = .int k m:=by
      rcases kM hf hmx with ⟨e1,_⟩ | ⟨o,k,e1,e2⟩
      ·cases e1
      simp_all
     obtain⟨a',c',h3,h4⟩:=yP (d:=d) (ty:=ty) (pos:=pos) (af:=af) (g:=g) h1 (by simp_all[gX]) hsh hr (kM hf hlo) hh hmm hy hjm hm;exact⟨_,_,h,Yv.of (wY (t:=.sl _) rfl h3) h4⟩
    grind
   grind
  grind
 grind
def qv(P:Program)(S:St)(op:Op)(K:SV->List Nat->Option R):Option R :=
 match op with
 | .move x=>(opv S x).bind fun s=>K s []
 | .assign x=>(opv S x).bind fun s=>K s []
 | .pick c a b=>match opv S c,opv S a,opv S b with
  | some (.d .bool c),some a,some b=>if c=true then K a [] else K b []
  | _,_,_=>none
 | .binOp op t x y _=>match opv S x,opv S y with
  | some a,some b=>bin P op t a b (fun s=>K s [])
  | _,_=>none
 | .unOp op _ x=>(opv S x).bind fun s=>qUn op s K
 | .convert t u x=>(opv S x).bind fun s=>Q6 P S.own t u s K
 | .extract x i=>match opv S x with
  | some (.tup l)=>match l[i]? with
   | some s=>K s []
   | none=>none
  | _=>none
 | .field t x f=>(opv S x).bind fun s=>J9 P t s f K
 | .fieldAddr t x f=>(opv S x).bind fun s=>w9 P t s f K
 | .indexAddr t x i=>match opv S x,opv S i with
  | some s,some j=>xg P S.own t s j K
  | _,_=>none
 | .index t x i=>match opv S x,opv S i with
  | some s,some j=>Kh P t s j K
  | _,_=>none
 | .load t x=>(opv S x).bind fun s=>Q0 P S.own t s K
 | .slice t x lo hi none=>(opv S x).bind fun s=>Ke P S t s lo hi K
 | .slice t x lo hi (some m)=>(opv S x).bind fun s=>abp P S t s lo hi m K
 | .call ⟨.builtin .len,⟨[x]⟩,⟨[t]⟩⟩=>(opv S x).bind fun s=>abj P S.own t s K
 | .call ⟨.builtin .min,⟨xs⟩,_⟩=>(ints S xs).bind fun p=>K (.d (.int p.1) (p.2.2.foldl mn p.2.1)) []
 | .call ⟨.builtin .max,⟨xs⟩,_⟩=>(ints S xs).bind fun p=>K (.d (.int p.1) (p.2.2.foldl mx p.2.1)) []
 | .nilCheck x=>(opv S x).bind fun s=>match s with
  | .pb i o=>K (.pb i o) []
  | .prw i j sz o=>K (.prw i j sz o) []
  | .pra i j sz o m ft k o2=>K (.pra i j sz o m ft k o2) []
  | .pe t x=>K (.pe t x) []
  | .ifc t v=>K (.ifc t v) []
  | _=>none
 | _=>none
theorem oF(hf:FrD pl L w S.fr l)(he:EntsD pl L w S.own){op:Op}{K:SV->List Nat->Option R}{r:R}(h:qv P S op K=some r) :
  ∃s rd,K s rd=some r∧Yv P pl L w l ⟨d,op,ty,pos,af,g⟩ s rd:=by
 unfold qv at h;split at h
 ·obtain⟨s,hs,h⟩:=fT h
  exact⟨_,_,h,Yv.of (eT hf hs) (fun w'=>run_move rfl)⟩
 ·obtain⟨s,hs,h⟩:=fT h
  exact⟨_,_,h,Yv.of (eT hf hs) (fun w'=>run_assign rfl)⟩
 ·split at h
  ·rename_i c a b c' a' b' h1 h2 h3
   split at h
   ·rename_i hc
    subst hc;exact⟨_,_,h,Yv.of (eT hf h2) (fun w'=>QT (lq (eT hf h1)) rfl)⟩
   ·rename_i hc
    have hc:c'=false:=by simp_all
    subst hc;exact⟨_,_,h,Yv.of (eT hf h3) (fun w'=>QU (lq (eT hf h1)) rfl)⟩
  grind
 ·split at h
  ·rename_i h1 h2
   obtain⟨s,hs,hy⟩:=aoZ h (eT hf h1) (eT hf h2);exact⟨s,_,hs,hy⟩
  grind
 ·obtain⟨s,hs,h⟩:=fT h
  exact ao0 h (eT hf hs)
 ·obtain⟨s,hs,h⟩:=fT h
  exact abm he h (eT hf hs)
 ·split at h
  ·rename_i l' h1
   split at h
   ·rename_i s hs
    obtain⟨us,h2,h3⟩:=eT hf h1;obtain⟨u,h4,h5⟩:=h2.at hs;grind[Yv.of,Pn]
   grind
  grind
 ·obtain⟨s,hs,h⟩:=fT h
  exact Zn h (eT hf hs)
 ·obtain⟨s,hs,h⟩:=fT h
  exact Jq h (eT hf hs)
 ·split at h
  ·rename_i h1 h2
   exact Jr he h (eT hf h1) (eT hf h2)
  grind
 ·split at h
  ·rename_i h1 h2
   exact Zq h (eT hf h1) (eT hf h2)
  grind
 ·obtain⟨s,hs,h⟩:=fT h
  exact abh he h (eT hf hs)
 ·obtain⟨s,hs,h⟩:=fT h
  exact Zp hf he h (eT hf hs)
 ·obtain⟨s,hs,h⟩:=fT h
  exact anH hf h (eT hf hs)
 ·obtain⟨s,hs,h⟩:=fT h
  exact anC he h (eT hf hs)
 ·obtain⟨p,hp,h⟩:=fT h
  exact⟨_,_,h,Yv.of (iH _ _) (fun w'=>anF (PW hf hp))⟩
 ·obtain⟨p,hp,h⟩:=fT h
  exact⟨_,_,h,Yv.of (iH _ _) (fun w'=>anG (PW hf hp))⟩
 ·obtain⟨s,hs,h⟩:=fT h
  have hd:=eT hf hs;split at h
  ·obtain⟨g,n,c,h1,h2⟩:=hd
   exact⟨_,_,h,Yv.of (v:=.pointer (some ⟨g,_,none⟩)) ⟨g,n,c,h1,rfl⟩ (fun w'=>by simp[execOp,h2])⟩
  ·obtain⟨g,b,n,c,h1,h2⟩:=hd
   exact⟨_,_,h,Yv.of (v:=.pointer (some ⟨g,_,none⟩)) ⟨g,b,n,c,h1,rfl⟩ (fun w'=>by simp[execOp,h2])⟩
  ·obtain⟨g,b,n,c,h1,h2⟩:=hd
   exact⟨_,_,h,Yv.of (v:=.pointer (some ⟨g,_,none⟩)) ⟨g,b,n,c,h1,rfl⟩ (fun w'=>by simp[execOp,h2])⟩
  ·obtain⟨b,o,h1,h2⟩:=hd
   exact⟨_,_,h,Yv.of (v:=.pointer (some ⟨b,o,none⟩)) ⟨b,o,rfl,h2⟩ (fun w'=>by simp[execOp,h1])⟩
  ·obtain⟨u',h1,h2⟩:=hd
   exact⟨_,_,h,Yv.of (v:=.iface _ u') ⟨u',h1,rfl⟩ (fun w'=>by simp[execOp,h2])⟩
  grind
 grind
end
end Ev
end
noncomputable section
namespace Ev
open Go Go.RowKit Sx
structure Sb where
 r:SV
 s:Nat->Int->Int->SV
mutual
def sbs(i:Nat)(r:Sb):SV->SV
 | .row j=>if j=i then r.r else .row j
 | .rowz j=>if j=i then r.r else .rowz j
 | .sub j sz lo n=>if j=i then r.s sz lo n else .sub j sz lo n
 | .agg l=>.agg (xu i r l)
 | .tup l=>.tup (xu i r l)
 | .fn f a b=>.fn f (xu i r a) (xu i r b)
 | .ifc t v=>.ifc t (sbs i r v)
 | .k v=>.k v
 | .d t x=>.d t x
 | .dx t x=>.dx t x
 | .pb a b=>.pb a b
 | .prw a b c e=>.prw a b c e
 | .pra i b c e m ft k o2=>.pra i b c e m ft k o2
 | .pe t x=>.pe t x
 | .mp a=>.mp a
 | .opb a b c=>.opb a b c
 | .sd a=>.sd a
def xu(i:Nat)(r:Sb):List SV->List SV
 | []=>[]
 | s::q=>sbs i r s::xu i r q
end
def yY(pl:List Place)(L:Lx)(w:World)(i:Nat)(r:Sb):Prop:=(∀u,Den pl L w (.rowz i) u->Den pl L w r.r u)∧∀sz lo n u,Den pl L w (.sub i sz lo n) u->Den pl L w (r.s sz lo n) u
section
variable {pl pl':List Place}{L L':Lx}{w w':World}
mutual
theorem Bt{i:Nat}{r:Sb}(hr:yY pl L w i r):∀{s:SV} {u:Value},Den pl L w s u->Den pl L w (sbs i r s) u
 | .k v,u,h=>by simp_all[sbs]
 | .d t x,u,h=>by simp_all[sbs]
 | .dx t x,u,h=>by simp_all[sbs]
 | .row j,u,h=>by
  simp only[sbs];split
  ·rename_i e;subst e;exact hr.1 u (vZ (s:=.row _) h)
  omega
 | .rowz j,u,h=>by
  simp only[sbs];split
  ·rename_i e;subst e;exact hr.1 u h
  omega
 | .sub j sz lo n,u,h=>by
  simp only[sbs];split
  ·rename_i e;subst e;exact hr.2 sz lo n u h
  omega
 | .pb i o,u,h=>by simp_all[sbs]
 | .prw i j sz o,u,h=>by simp_all[sbs]
 | .pra i j sz o m ft k o2,u,h=>by simp_all[sbs]
 | .pe t x,u,h=>by simp_all[sbs]
 | .mp i,u,h=>by simp_all[sbs]
 | .opb b i o,u,h=>by simp_all[sbs]
 | .sd i,u,h=>by simp_all[sbs]
 | .agg l,u,⟨us,h1,h2⟩=>by simp only[sbs];exact⟨us,nC hr h1,h2⟩
 | .tup l,u,⟨us,h1,h2⟩=>by simp only[sbs];exact⟨us,nC hr h1,h2⟩
 | .fn f a b,u,⟨us,vs,h1,h2,h3⟩=>by simp only[sbs];exact⟨us,vs,nC hr h1,nC hr h2,h3⟩
 | .ifc t v,u,⟨u',h1,h2⟩=>by simp only[sbs];exact⟨u',Bt hr h1,h2⟩
theorem nC{i:Nat}{r:Sb}(hr:yY pl L w i r):∀{s:List SV} {us:List Value},DenL pl L w s us->DenL pl L w (xu i r s) us
 | [],us,h=>h
 | s::q,us,⟨v,vs,h1,h2,h3⟩=>⟨v,vs,h1,Bt hr h2,nC hr h3⟩
end
end
def Cy(i:Nat)(r:Sb):Fr->Fr
 | []=>[]
 | (t,s)::q=>(t,sbs i r s)::Cy i r q
def Q9(i:Nat)(r:Sb):List (Nat×Fr)->List (Nat×Fr)
 | []=>[]
 | (n,f)::q=>(n,Cy i r f)::Q9 i r q
def abq{α:Type}(i:Nat)(r:Sb):List (Nat×α×SV)->List (Nat×α×SV)
 | []=>[]
 | (a,b,s)::q=>(a,b,sbs i r s)::abq i r q
def abr(i:Nat)(r:Sb):Ent->Ent
 | .box T cs=>.box T (xu i r cs)
 | .row t e xs=>.row t e xs
 | .dm kt vt xs=>.dm kt vt xs
 | .sm kt cl es=>.sm kt cl (abq i r es)
 | .it m cl seen=>.it m cl seen
 | .itd kt vt cur rest=>.itd kt vt cur rest
 | .que t e xs=>.que t e xs
 | .rowo t e b xs cs=>.rowo t e b xs (xu i r cs)
 | .rowq e us k cs=>.rowq e us k (xu i r cs)
def rid(i:Nat):List (Nat×Ent)->List (Nat×Ent)
 | []=>[]
 | (j,e)::q=>if j=i then q else (j,e)::rid i q
def rF(i:Nat)(r:Sb):List (Nat×Ent)->List (Nat×Ent)
 | []=>[]
 | (j,e)::q=>(j,abr i r e)::rF i r q
section
variable {B:Nat->Prop}{F:Lx}{w0:Bs}{wr:Wr}{pl pl':List Place}{S S':St}{l l':List Value}{ls:List (List Value)}{w w':World}{L L' M:Lx}
theorem Kj{i:Nat}{r:Sb}:∀{fr:Fr} {t:Nat} {s:SV},get (Cy i r fr) t=some s->∃s',get fr t=some s'∧s=sbs i r s'
 | (j,q)::fr,t,s,h=>by
  unfold Cy get at h;unfold get;split at h
  ·simp_all
  simp_all[if_neg,Kj]
theorem FrD.sbs{i:Nat}{r:Sb}(hr:yY pl L w i r){fr:Fr}(h:FrD pl L w fr l):FrD pl L w (Cy i r fr) l:=fun t s hs=>by obtain⟨s',h1,rfl⟩:=Kj hs;exact Bt hr (h t s' h1)
theorem UpD.sbs{i:Nat}{r:Sb}(hr:yY pl L w i r):∀{up:List (Nat×Fr)} {ls:List (List Value)},UpD pl L w up ls->UpD pl L w (Q9 i r up) ls
 | [],_,h=>h
 | _::_,_,⟨l,q,h1,h2,h3,h4⟩=>⟨l,q,h1,h2,h3.sbs hr,UpD.sbs hr h4⟩
theorem sS(i:Nat)(r:Sb):∀own,lx pl (rF i r own)=lx pl own
 | []=>rfl
 | (j,e)::q=>by show plb pl j::lx pl (rF i r q)=plb pl j::lx pl q;rw[sS i r q]
theorem xw{i:Nat}{r:Sb}:∀{own:List (Nat×Ent)} {x:Nat×Ent},x∈rF i r own->∃e,(x.1,e)∈own∧x.2=abr i r e
 | (j,e)::q,x,h=>by
  unfold rF at h;rcases List.mem_cons.1 h with h | h
  ·subst h;exact⟨e,List.mem_cons_self ..,rfl⟩
  ·obtain⟨e',h1,h2⟩:=xw h
   exact⟨e',zT _ h1,h2⟩
theorem SmD.sbs{i:Nat}{r:Sb}(hr:yY pl L w i r){kt:Ty}:∀{vs:List MapEntry} {xs:List (Nat×Vl kt×SV)},SmD pl L w vs xs->SmD pl L w vs (abq i r xs)
 | [],_,h=>by have h:_=_:=h;subst h;rfl
 | _::_,_,⟨b,q,h1,h2,h3,h4,h5⟩=>by subst h1;exact⟨_,_,rfl,h2,h3,Bt hr h4,SmD.sbs hr h5⟩
theorem EntD.sbs{i j:Nat}{r:Sb}(hr:yY pl L w i r){e:Ent}(h:EntD pl L w j e):EntD pl L w j (abr i r e):=by
 cases e with
 | row t e xs=>exact h
 | box T cs =>
  obtain⟨g,n,c,us,h1,h2,h3,h4⟩:=h;exact⟨g,n,c,us,h1,h2,nC hr h3,h4⟩
 | dm kt vt xs=>exact h
 | it m cl seen=>exact h
 | itd kt vt cur rest=>exact h
 | que t e xs=>exact h
 | rowo t e b xs cs =>
  obtain⟨p,ro,us,h1,h2,h3,h4⟩:=h;exact⟨p,ro,us,h1,h2,h3,fun hb=>nC hr (h4 hb)⟩
 | rowq e us k cs =>
  obtain⟨g,n,c,u,h1,h2,h3,h4,h5,h6⟩:=h;exact⟨g,n,c,u,h1,h2,h3,h4,h5,nC hr h6⟩
 | sm kt cl es =>
  obtain⟨g,n,c,vs,h1,h2,h3⟩:=h;refine⟨g,n,c,vs,h1,h2,SmD.sbs hr h3⟩
theorem Rel.sbs{i:Nat}{r:Sb}(h:Rel B F w0 wr pl S l ls w)(hr:yY pl (lx pl S.own++F) w i r) :
  Rel B F w0 wr pl { S with fr:=Cy i r S.fr,up:=Q9 i r S.up,own:=rF i r S.own } l ls w where
 hL:=by show LOk B (lx pl (rF i r S.own)) F w;rw[sS];exact h.hL
 hB:=h.hB
 pre:=h.pre
 hI:=h.hI
 hln:=h.hln
 nx:=h.nx
 nt:=h.nt
 ent:=fun e he=>by show EntD pl (lx pl (rF i r S.own)++F) w e.1 e.2;rw[sS];obtain⟨e',h1,h2⟩:=xw he;rw[h2];exact (h.ent _ h1).sbs hr
 fr:=by show FrD pl (lx pl (rF i r S.own)++F) w _ l;rw[sS];exact h.fr.sbs hr
 up:=by show UpD pl (lx pl (rF i r S.own)++F) w _ ls;rw[sS];exact h.up.sbs hr
 tn:=by
  refine⟨h.tn.fz,?_,h.tn.nr,h.tn.pls,fun e he hlt=>?_,fun e he hlt hnl k hk=>?_⟩
  ·show Sub wr.w (lx pl (rF i r S.own)++F) wr.L
   rw[sS];exact h.tn.sb
  ·obtain⟨e',h1,_⟩:=xw he
   exact h.tn.old (e.1,e') h1 hlt
  ·obtain⟨e',h1,_⟩:=xw he
   exact h.tn.keep _ h1 hlt hnl k hk
theorem PX(i:Nat):∀own,List.Sublist (rid i own) own
 | []=>.slnil
 | (j,e)::q=>by
  unfold rid;split
  ·exact .cons _ (List.Sublist.refl q)
  ·exact .cons_cons _ (PX i q)
theorem II:∀{own:List (Nat×Ent)} {i:Nat} {e:Ent},get own i=some e->∃pre post,own=pre++(i,e)::post∧rid i own=pre++post
 | (j,q)::own,i,e,h=>by
  unfold get at h;split at h
  ·rename_i hj
   cases h
   subst hj;exact⟨[],own,rfl,by simp[rid]⟩
  ·rename_i hj
   obtain⟨pre,post,h1,h2⟩:=II h;exact⟨(j,q)::pre,post,by simp_all,by simp_all[rid,if_neg]⟩
theorem Kk{own own':List (Nat×Ent)}(h:List.Sublist own' own):List.Sublist (lx pl own') (lx pl own):=h.map _
theorem Rel.drop(h:Rel B F w0 wr pl S l ls w){own':List (Nat×Ent)}(hs:List.Sublist own' S.own):Rel B F w0 wr pl { S with own:=own' } l ls w :=
 h.go (M:=[]) (S':={ S with own:=own' }) (Stp.drop h.hL (Kk hs)) (fun _ _ h=>h) h.nx (Nat.le_refl _) rfl rfl rfl (fun _ hi=>hi) (fun e he=>.inl ⟨hs.subset he,fun _ _ hk=>by cases hk⟩)
def sbR(t:Ty)(xs:List (Vl t))(i:Nat):Sb:=⟨.d (.sl t) xs,fun sz lo n=>if sz=t.size then .d (.sl t) (prt xs lo n) else .sub i sz lo n⟩
def Cz(S:St)(i:Nat):Option St:=match get S.own i with
 | some (.row t _ xs)=>some { S with fr:=Cy i (sbR t xs i) S.fr,up:=Q9 i (sbR t xs i) S.up,own:=rF i (sbR t xs i) (rid i S.own) }
 | _=>none
theorem ao1{t:Ty}{e:TypeId}{xs:List (Vl t)}{i:Nat}{p:Place}{L L':Lx}(h3:pl[i]? = some p)(h4:Ow (rp t) e L w p.a p.n p.c xs)(hs:Sub w L' L)(hn:∀k,blk p.a=some k->some k ∉ L'):yY pl L' w i (sbR t xs i):=by
 have hfz:=h4.freeze hs hn;refine⟨fun u hu=>?_,fun sz lo n u hu=>?_⟩
 ·obtain⟨p',h5,h6⟩:=hu
  rw[h3]at h5;cases h5;refine wY (t:=.sl t) rfl ?_;rcases h6 with rfl | ⟨h6,h7,h8,a,rfl⟩
  ·exact hfz
  ·have:=h4.len
   have hx:xs=[]:=List.eq_nil_of_length_eq_zero (by omega);subst hx;exact uN _ _ _ a 0
 ·show Den pl L' w (if sz=t.size then .d (.sl t) (prt xs lo n) else .sub i sz lo n) u
  split
  ·rename_i hsz
   obtain⟨p',a,c,h5,h6,h7,h8,rfl,h10,h11⟩:=hu;rw[h3]at h5;cases h5;have hlen:=h4.len;refine wY (t:=.sl t) rfl ?_;obtain⟨lo,rfl⟩:=zN h6;obtain⟨n,rfl⟩:=zN h7;have hpl:(prt xs (lo:Int) (n:Int)).length=n:=by grind[prt]
   refine⟨a,c,by simp_all,by omega,fun hne=>?_⟩;have hn0:(n:Int)≠0:=fun e=>by simp_all
   obtain⟨_,g,o,h12,h13⟩:=h11.1 (by simp only[zQ]at h10;omega);obtain⟨_,hb0⟩:=h4.2.addr_cap (c:=p.c) (by have:=h4.2.cap_le;omega);rw[h12]at hb0;cases hb0;refine⟨g,lo*sz,by simp_all,fun j y hj=>?_⟩;grind[prt,zQ,zW,kB,List.getElem?_take_of_lt,Cu,rp,gX,Nat.add_mul]
  omega
theorem E9(h:Rel B F w0 wr pl S l ls w){i:Nat}(hf:Cz S i=some S'):Rel B F w0 wr pl S' l ls w:=by
 unfold Cz at hf;split at hf
 ·rename_i t e xs hg
  cases hf
  obtain⟨pre,post,h1,h2⟩:=II hg;obtain⟨p,h3,h4⟩:=h.ent _ (gy hg);have hd:=h.drop (PX i S.own);refine hd.sbs ?_;have e1:lx pl S.own=lx pl pre++blk p.a::lx pl post:=by simp_all[lx,List.map_append,List.map_cons,fZ]
  have e2:lx pl (rid i S.own)=lx pl pre++lx pl post:=by simp_all[lx,List.map_append]
  have hL:=h.hL;rw[e1]at hL;refine ao1 (L:=lx pl S.own++F) h3 h4 ?_ (fun k hk=>?_)
  ·show Sub w (lx pl (rid i S.own)++F) _
   grind[JV]
  ·show some k ∉ lx pl (rid i S.own)++F
   rw[e2];exact hL.gone k hk
 grind
end
end Ev
end
noncomputable section
namespace Ev
open Go Go.RowKit Sx
section
variable {P:Program}{l:List Value}{w:World}{d:Option Tmp}{ty:TypeId}{pos:String}{af:Array Edge}{gd:Option (Nat×Bool)}
 {Q:Exit->Act->World->Prop} {K:List Value->World->Prop} {α:Type} {R:Rp α} {L:Lx}
theorem Ra{pre c0 post:List Value}{off:Nat}(h:off≤c0.length):(pre++c0++post).take (pre.length+off)=pre++c0.take off:=by simp_all[List.append_assoc,List.take_append,Nat.add_sub_cancel_left,List.take_of_length_le,List.take_append_of_le_length]
theorem Rb{pre c0 post:List Value}{off:Nat}(h:off≤c0.length):(pre++c0++post).drop (pre.length+off)=c0.drop off++post:=by simp_all[List.append_assoc,List.drop_append,Nat.add_sub_cancel_left,List.drop_of_length_le,List.nil_append,List.drop_append_of_le_length]
theorem yQ{B:Nat->Prop}{own F:Lx}{t e:TypeId}{x y:Operand}{v:Value}{vs:List Value}{b i n c off:Nat}{xs:List α}{u u':α}(hs:jc P t=some vs.length)
  (hx:ev l x = .pointer (some ⟨b,0+i*R.size+off,none⟩)) (hy:ev l y=v) (hv:v.cells.toList=vs) (hL:LOk B own F w) (hown:Ow R e (own++F) w (some ⟨b,0,none⟩) n c xs) (hi:xs[i]? = some u)
  (h1:∀z∈vs,z.oneCell'=true)
  (hu:∀cs,R.rel (own++F) w cs u->off+vs.length≤cs.length∧R.rel (own++F) w (cs.take off++vs++cs.drop (off+vs.length)) u') (hLa:some b∈own)
  (h:∀w',Stp B own own F [some b] w w'->Ow R e (own++F) w' (some ⟨b,0,none⟩) n c (xs.set i u')->K (st l d undef) w') :
  OW P ⟨d,.store t x y,ty,pos,af,gd⟩ l w K Q:=by
 obtain⟨rfl,cells,hr1,hr2⟩:=hown;obtain⟨pre,c0,post,e2,h3,h4,h5⟩:=hr2.at hi;obtain⟨hfit,hnew⟩:=hu c0 h4;have hi':i<xs.length:=(List.getElem?_eq_some_iff.1 hi).1;rcases hr1.2 with ⟨hv',_⟩ | ⟨g,cap,cur,hv',_,hg,hnc,hcm,hcs,htk⟩
 ·omega
 ·simp at hv'
  obtain⟨rfl,rfl⟩:=hv';have hc0:=R.len h4;have hsize:v.cells.size=vs.length:=by grind
  have hcl:cells.length=xs.length*R.size:=hr1.1;have hcur:xs.length*R.size≤cur.size:=by grind
  have hp:i*R.size+off=pre.length+off:=by rw[h3]
  have hle:i*R.size+off+vs.length≤cur.size:=by grind
  have hst:=run_storeCells_at P b (i*R.size+off) e vs 0 cur w hg (by omega) h1;simp only[Nat.add_zero]at hst;have hcurl:cur.toList=(pre++c0++post)++cur.toList.drop (xs.length*R.size):=by grind[List.take_append_drop]
  have hf:Fz [some b] w (w.setRow b (cur.toList.take (i*R.size+off)++vs++cur.toList.drop (i*R.size+off+vs.length)).toArray) :=
   ⟨rfl,rfl,rfl,by simp,fun k hk hn=>setRow_other w b k _ (fun e=>hn (by simp[e]))⟩
  have S:Stp B own own F [some b] w (w.setRow b (cur.toList.take (i*R.size+off)++vs++cur.toList.drop (i*R.size+off+vs.length)).toArray):=Stp.store hL hLa hf;have hrow:=h5 u' _ hnew;refine vX (w':=w.setRow b (cur.toList.take (i*R.size+off)++vs++cur.toList.drop (i*R.size+off+vs.length)).toArray) ?_ (h _ S ⟨by simp,_,⟨?_,.inr ⟨b,c,_,by simp,Nat.zero_le _,setRow_heap w b cur _ e (0,0) hg,by grind,hcm,?_,?_⟩⟩,hrow.step hf (fun k hk=>List.mem_append_left _ (S.hM k hk)) S.hs⟩)
  ·rw[Nat.zero_add]at hx
   simp only[execOp,hx,hy,Instr.storeAt,Instr.sureAddr,storeVar,Sem.run_bind,Sem.run_pure,zL,kL hs,hsize,ne_eq,not_true_eq_false,if_false,hv,hst]
  ·have:=hrow.len
   omega
  ·grind
  ·have hlen:=hrow.len
   rw[<- hlen];have e4:cur.toList.take (i*R.size+off)=pre++c0.take off:=by grind[List.append_assoc,Ra]
   have e5:cur.toList.drop (i*R.size+off+vs.length)=c0.drop (off+vs.length)++(post++cur.toList.drop (xs.length*R.size)):=by grind[Nat.add_assoc,List.append_assoc,Rb]
   grind
end
def lD(P:Program)(e:TypeId):Option ((t:Ty)×Vl t) :=
 match tyc P e,P.info? e with
 | some t,some i=>match i.zero with
  | some zv=>match pk t (zv.cells.toList.map ofV) with
   | some (z,[])=>if i.bytes≤131072∧0<t.size then some ⟨t,z⟩ else none
   | _=>none
  | none=>none
 | _,_=>none
theorem nD{pl:List Place}{L:Lx}{w:World}:∀l:List Value,DenL pl L w (l.map ofV) l
 | []=>rfl
 | v::r=>⟨v,r,rfl,E6 v,nD r⟩
theorem nE{P:Program}{e:TypeId}{t:Ty}{z:Vl t}(h:lD P e=some ⟨t,z⟩):TyRow P e (rp t) z:=by
 unfold lD at h;split at h
 ·rename_i t' i ht hi
  split at h
  ·rename_i zv hz
   split at h
   ·rename_i z' hpk
    split at h
    ·rename_i hb
     cases h
     obtain⟨ti,h1,h2⟩:=qU (mH ht).size;rw[hi]at h1;cases h1;have hrel:∀(L:Lx) (w:World),(rp t).rel L w zv.cells.toList z:=fun L w=>by obtain⟨cs,vs,e1,e2,e3⟩:=mF (pl:=[]) (L:=L) (w:=w) hpk (nD _);cases e3;simp_all
     refine⟨⟨i,zv,hi,hz,h2,hb.1,?_,hrel⟩,by simp_all[gX]⟩;rw[<- Array.length_toList];exact (rp t).len (hrel [] default)
    grind
   grind
  grind
 grind
end Ev
end
noncomputable section
namespace Sx
open Go Go.RowKit
section
variable {P:Program}{o:Oper}{l:List Value}{w:World}{Q:Exit->Act->World->Prop}{K:List Value->World->Prop}{d:Option Tmp}{ty:TypeId}{pos:String}{af:Array Edge}{gd:Option (Nat×Bool)}{α:Type}{R:Rp α}{L:Lx}
theorem Zr{r:Result Value}{v:Value}{w':World}(h:r = .ok v w'):∃v2 w2,(r.andThen fun a w=>Result.ok (Next.value a) w) = .ok (.value v2) w2:=by simp_all
theorem Kl{o':Oper}(hd:o'.dst=o.dst)(hr:(execOp (ev l) o).run P w=(execOp (ev l) o').run P w)(hv:∃v w',(execOp (ev l) o').run P w = .ok (.value v) w')(h:OW P o' l w K Q):OW P o l w K Q:=by obtain⟨v,w',hv⟩:=hv;intro r;have h:=(h r).2;refine⟨fun _ _=>trivial,?_⟩;rw[qg]at h ⊢;rw[oV hv (by simp),Oper.uponIn_value]at h;rw[oV (hr.trans hv) (by simp),Oper.uponIn_value,<- hd];exact h
theorem abt{t ty e:TypeId}{i:TypeInfo}(ht:P.underlying t=some (.slice e))(hi:P.info? e=some i)(a:Addr)(b:Addr)(n c:Nat)(h0:0<n) :
  (Builtin.append_ #[t,t] ty #[.slice (some a) 0 0,.slice (some b) n c]).run P w=(Builtin.append_ #[t,t] ty #[.slice none 0 0,.slice (some b) n c]).run P w ∨
  ¬ Builtin.nextslicecap n 0*i.bytes≤281474976710656:=by
 by_cases hc:Builtin.nextslicecap n 0*i.bytes≤281474976710656
 ·left
  have hn:n≠0:=by omega
  have hc':¬ (281474976710656<Builtin.nextslicecap n 0*i.bytes):=by omega
  simp[Builtin.append_,run_underlying ht,Go.sizeOf,typeInfo,hi,Builtin.lenOf,hn,hc',Builtin.firstCells,loadCells,loadCellsFrom]
 omega
theorem Rc{B:Nat->Prop}{pre post F:Lx}{s x:Operand}{t e:TypeId}{z:α}{a a2:Option Addr}{n c c2 n2:Nat}{xs ys:List α}(ht:P.underlying t=some (.slice e))(hr:TyRow P e R z)
  (hs:ev l s = .slice a n c∨(a=none∧n=0∧c=0∧∃a',ev l s = .slice a' 0 0)) (hx:ev l x = .slice a2 n2 c2) (hL:LOk B (pre++blk a::post) F w) (hown:Ow R e ((pre++blk a::post)++F) w a n c xs)
  (hy:(Rp.slice R).rel ((pre++blk a::post)++F) w [.slice a2 n2 c2] ys) (hsm:small (xs.length+ys.length)=true)
  (h:∀v a' n' c' w',(v = .slice a' n' c'∨(a'=none∧n'=0∧c'=0∧∃a,v = .slice a 0 0))->Stp B (pre++blk a::post) (pre++blk a'::post) F [blk a] w w'->Ow R e ((pre++blk a'::post)++F) w' a' n' c' (xs++ys)->K (st l d v) w') :
  OW P ⟨d,.call { callee:=.builtin .append,args:=#[s,x],argTypes:=#[t,t] },ty,pos,af,gd⟩ l w K Q:=by
 rcases hs with hs | ⟨rfl,rfl,rfl,a0,hs⟩
 ·exact rY ht hr hs hx hL hown hy hsm (fun a' n' c' w' S O=>h _ a' n' c' w' (.inl rfl) S O)
 ·cases a0 with
  | none=>exact rY ht hr hs hx hL hown hy hsm (fun a' n' c' w' S O=>h _ a' n' c' w' (.inl rfl) S O)
  | some a0 =>
   obtain⟨i,zv,hi,hz,hsz,hby,hzs,hzr⟩:=hr.info;have hxs:xs=[]:=List.eq_nil_of_length_eq_zero hown.1.symm;subst hxs;by_cases hne:ys=[]
   ·subst hne
    have hn2:n2=0:=yR hy;subst hn2
    have hrun:(Builtin.append_ #[t,t] ty #[.slice (some a0) 0 0,.slice a2 0 c2]).run P w = .ok (.slice (some a0) 0 0) w:=by
     cases a2 with
     | none=>simp_all[pE,Nat.le_refl]
     | some ad=>simp[Builtin.append_,run_underlying ht,Go.sizeOf,typeInfo,hi,Builtin.lenOf,Builtin.firstCells,loadCells,loadCellsFrom,storeCells]
    refine jF (v:=.slice (some a0) 0 0) (w':=w) ?_ (h _ none 0 0 w (.inr ⟨rfl,rfl,rfl,_,rfl⟩) ⟨Fz.refl _ _,fun k hk=>by simp_all,Sub.refl _ _,hL⟩ hown);simp_all[execOp,resolve,invoke,builtin,Sem.run_bind,Sem.run_pure,zL,List.map_toArray,List.map_cons,List.map_nil]
   ·obtain⟨b,o,news,rfl,rfl,h3,h4⟩:=rX hy hne
    have hpos:0<ys.length:=List.length_pos_iff.2 hne;have hsm':=nA hsm;simp only[List.length_nil,Nat.zero_add]at hsm';have hbytes:ys.length*i.bytes≤140737488355328:=by have:ys.length*i.bytes≤1073741824*131072:=Nat.mul_le_mul hsm' hby;omega
    have hcapz:Builtin.nextslicecap ys.length 0*i.bytes≤281474976710656:=by
     have e1:Builtin.nextslicecap ys.length 0=ys.length:=by simp_all[Builtin.nextslicecap,if_pos]
     grind
    have heq:=(abt (P:=P) (w:=w) (ty:=ty) ht hi a0 ⟨b,o,none⟩ ys.length c2 hpos).resolve_right (fun hc=>hc hcapz);have hnil:=run_append_nil (P:=P) w t ty e i zv ht hi hz ⟨b,o,none⟩ ys.length c2 news (by rw[hsz];exact h3.len) h4 hpos (by omega) (by omega)
    refine Kl (o':=⟨d,.call { callee:=.builtin .append,args:=#[.const (.slice none 0 0),x],argTypes:=#[t,t] },ty,pos,af,gd⟩) rfl ?_ ?_
     (rY ht hr rfl hx hL hown hy hsm (fun a' n' c' w' S O=>h _ a' n' c' w' (.inl rfl) S O))
    ·simp only[execOp,resolve,invoke,builtin,Sem.run_bind,Sem.run_pure,zL,List.map_toArray,List.map_cons,List.map_nil,hs,hx,heq]
     rfl
    ·simp only[execOp,resolve,invoke,builtin,Sem.run_bind,Sem.run_pure,zL,List.map_toArray,List.map_cons,List.map_nil,hx]
     exact Zr hnil
theorem Ec(L:Lx)(w:World):∀s:List UInt8,RowsOf (Rp.int .u8) L w (s.map fun b=>Value.int .u8 b.toNat) (s.map fun b=>(b.toNat:Int))
 | []=>rfl
 | b::s=>⟨[.int .u8 b.toNat],_,rfl,rfl,Ec L w s⟩
theorem r9{B:Nat->Prop}{pre post F:Lx}{s x:Operand}{t u e:TypeId}{i:TypeInfo}{a:Option Addr}{n c:Nat}{xs:List Int}{b:List UInt8}(ht:P.underlying t=some (.slice e))(hu:P.underlying u=some .string)
  (hi:P.info? e=some i) (hz:i.zero=some (.int .u8 0)) (hsz:i.size=1) (hby:i.bytes=1)
  (hs:ev l s = .slice a n c) (hx:ev l x = .string ⟨⟨b⟩⟩) (hL:LOk B (pre++blk a::post) F w) (hown:Ow (Rp.int .u8) e ((pre++blk a::post)++F) w a n c xs)
  (hsm:small (xs.length+b.length)=true)
  (h:∀a' n' c' w',Stp B (pre++blk a::post) (pre++blk a'::post) F [blk a] w w'->Ow (Rp.int .u8) e ((pre++blk a'::post)++F) w' a' n' c' (xs++b.map fun b=>(b.toNat:Int))->K (st l d (.slice a' n' c')) w') :
  OW P ⟨d,.call { callee:=.builtin .append,args:=#[s,x],argTypes:=#[t,u] },ty,pos,af,gd⟩ l w K Q:=by
 obtain⟨rfl,cells,h1,h2⟩:=hown;have hsm':=nA hsm;have hbs:(⟨⟨b⟩⟩:ByteArray).size=b.length:=rfl;have hcells:Lib.strCells ⟨⟨b⟩⟩=b.map fun b=>Value.int .u8 b.toNat:=rfl;obtain⟨v',w',hrun,h5,h6,h7⟩:=Lib.run_append_own_string (P:=P) w 0 t u ty e i ht hu hi hz hsz hby (.slice a xs.length c) xs.length cells h1 ⟨⟨b⟩⟩ (by grind[maxLen]) (by omega) (Nat.zero_le _);rw[hbs]at h5 h7
 have hshape:∃a' c',v' = .slice a' (xs.length+b.length) c':=by
  rcases h5.2 with ⟨hv,hn⟩ | ⟨g,cap,cur,hv,_⟩
  ·simp_all
  simp_all
 obtain⟨a',c',rfl⟩:=hshape
 have hb:∀k,blk a'=some k->blk a=some k∨(w.heap.size≤k∧k<w'.heap.size):=by
  intro k hk;by_cases hlt:w.heap.size≤k
  ·exact .inr ⟨hlt,(h5.lt k (by simp_all[wV])).2⟩
  ·refine .inl ?_
   rcases h1.2 with ⟨hv,hn⟩ | ⟨g,cap,cur,hv,_,hg,hnc,_,hcs,_⟩
   ·simp at hv
    obtain⟨rfl,hx0,rfl⟩:=hv;by_cases hb0:b=[]
    ·simp_all
    ·have hpos:0<b.length:=List.length_pos_iff.2 hb0
     rw[hx0]at hrun;simp only[List.length_nil,Nat.zero_add]at hrun;rw[run_append_nil_string (P:=P) w t u ty e i _ ht hu hi hz ⟨⟨b⟩⟩ (by omega) (by omega) (by grind)]at hrun;grind[Result.ok.injEq,Value.slice.injEq,blk]
   ·simp at hv
    obtain⟨rfl,rfl⟩:=hv;have hcs':cur.size=c:=by simp_all[Rp.int]
    by_cases hroom:xs.length+b.length≤c
    ·grind[Lib.run_append_room_string,Result.ok.injEq,Value.slice.injEq]
    ·rw[Lib.run_append_grow_string (P:=P) w t u ty e i _ ht hu hi hz ⟨g,0,none⟩ xs.length c cells (by rw[hsz];exact h2.len) (h1.cells (g:=g) rfl) ⟨⟨b⟩⟩
      (by omega) (by omega) (by rw[hbs,hby];exact growslice_fits (by omega) (by omega))]at hrun
     grind[Result.ok.injEq,Value.slice.injEq,blk]
 have hf:Fz [blk a] w w':=by simp_all[Fz.of_grown,wV]
 have S:=Stp.turn hL hf hb;refine jF (v:=.slice a' (xs.length+b.length) c') (w':=w') ?_ (h a' _ c' w' S ⟨by simp,cells++Lib.strCells ⟨⟨b⟩⟩,?_,?_⟩)
 ·simp_all[execOp,resolve,invoke,builtin,Sem.run_bind,Sem.run_pure,zL,List.map_toArray,List.map_cons,List.map_nil]
 ·have e1:(xs++b.map fun b=>(b.toNat:Int)).length=xs.length+b.length:=by simp
  rw[e1];exact h5
 ·rw[hcells]
  exact (h2.step hf (fun k hk=>by simp_all) S.hs).append (Ec _ _ b)
theorem Pp{B:Nat->Prop}{pre post F:Lx}{s x:Operand}{t u e:TypeId}{i:TypeInfo}{a:Option Addr}{n c:Nat}{xs:List Int}{b:List UInt8}(ht:P.underlying t=some (.slice e))(hu:P.underlying u=some .string)
  (hi:P.info? e=some i) (hz:i.zero=some (.int .u8 0)) (hsz:i.size=1) (hby:i.bytes=1)
  (hs:ev l s = .slice a n c∨(a=none∧n=0∧c=0∧∃a',ev l s = .slice a' 0 0)) (hx:ev l x = .string ⟨⟨b⟩⟩) (hL:LOk B (pre++blk a::post) F w) (hown:Ow (Rp.int .u8) e ((pre++blk a::post)++F) w a n c xs)
  (hsm:small (xs.length+b.length)=true)
  (h:∀v a' n' c' w',(v = .slice a' n' c'∨(a'=none∧n'=0∧c'=0∧∃a,v = .slice a 0 0))->Stp B (pre++blk a::post) (pre++blk a'::post) F [blk a] w w'->Ow (Rp.int .u8) e ((pre++blk a'::post)++F) w' a' n' c' (xs++b.map fun b=>(b.toNat:Int))->K (st l d v) w') :
  OW P ⟨d,.call { callee:=.builtin .append,args:=#[s,x],argTypes:=#[t,u] },ty,pos,af,gd⟩ l w K Q:=by
 rcases hs with hs | ⟨rfl,rfl,rfl,a0,hs⟩
 ·exact r9 ht hu hi hz hsz hby hs hx hL hown hsm (fun a' n' c' w' S O=>h _ a' n' c' w' (.inl rfl) S O)
 ·cases a0 with
  | none=>exact r9 ht hu hi hz hsz hby hs hx hL hown hsm (fun a' n' c' w' S O=>h _ a' n' c' w' (.inl rfl) S O)
  | some a0 =>
   have hxs:xs=[]:=List.eq_nil_of_length_eq_zero hown.1.symm;subst hxs;have hbs:(⟨⟨b⟩⟩:ByteArray).size=b.length:=rfl;have hsm':=nA hsm;simp only[List.length_nil,Nat.zero_add]at hsm';by_cases hne:b=[]
   ·subst hne
    have hrun:(Builtin.append_ #[t,u] ty #[.slice (some a0) 0 0,.string ⟨⟨[]⟩⟩]).run P w = .ok (.slice (some a0) 0 0) w:=by have e0:(⟨⟨[]⟩⟩:ByteArray).size=0:=rfl;simp[Builtin.append_,run_underlying ht,run_underlying hu,Go.sizeOf,typeInfo,hi,Builtin.lenOf,Builtin.firstCells,storeCells,e0]
    refine jF (v:=.slice (some a0) 0 0) (w':=w) ?_ (h _ none 0 0 w (.inr ⟨rfl,rfl,rfl,_,rfl⟩) ⟨Fz.refl _ _,fun k hk=>by simp_all,Sub.refl _ _,hL⟩ hown);simp_all[execOp,resolve,invoke,builtin,Sem.run_bind,Sem.run_pure,zL,List.map_toArray,List.map_cons,List.map_nil]
   ·have hpos:0<b.length:=List.length_pos_iff.2 hne
    have hnil:=run_append_nil_string (P:=P) w t u ty e i _ ht hu hi hz ⟨⟨b⟩⟩ (by omega) (by omega) (by grind)
    have heq:(Builtin.append_ #[t,u] ty #[.slice (some a0) 0 0,.string ⟨⟨b⟩⟩]).run P w=(Builtin.append_ #[t,u] ty #[.slice none 0 0,.string ⟨⟨b⟩⟩]).run P w:=by
     have hn:b.length≠0:=by omega
     have hc':¬ (281474976710656<Builtin.nextslicecap b.length 0*i.bytes):=by
      have e1:Builtin.nextslicecap b.length 0=b.length:=by simp_all[Builtin.nextslicecap,if_pos]
      grind
     have h63':¬ (9223372036854775807<(b.length:Int)):=by omega
     simp[Builtin.append_,run_underlying ht,run_underlying hu,Go.sizeOf,typeInfo,hi,Builtin.lenOf,hbs,hn,hc',h63',Builtin.firstCells,loadCells,loadCellsFrom]
    refine Kl (o':=⟨d,.call { callee:=.builtin .append,args:=#[.const (.slice none 0 0),x],argTypes:=#[t,u] },ty,pos,af,gd⟩) rfl ?_ ?_
     (r9 ht hu hi hz hsz hby rfl hx hL hown hsm (fun a' n' c' w' S O=>h _ a' n' c' w' (.inl rfl) S O))
    ·simp only[execOp,resolve,invoke,builtin,Sem.run_bind,Sem.run_pure,zL,List.map_toArray,List.map_cons,List.map_nil,hs,hx,heq]
     rfl
    ·simp only[execOp,resolve,invoke,builtin,Sem.run_bind,Sem.run_pure,zL,List.map_toArray,List.map_cons,List.map_nil,hx]
     exact Zr hnil
end
def u8(c:Int):UInt8:=c.toNat.toUInt8
end Sx
end
noncomputable section
namespace Sx
open Go Go.RowKit
section
variable {P:Program}(w:World)
theorem wu(t tn ty e:TypeId)(i:TypeInfo)(z:Value)(kq kn:IntKind)(ht:P.underlying t=some (.slice e))(htn:P.underlying tn=some (.int kn))(hi:P.info? e=some i)(hz:i.zero=some z)
  (g sLen sCap:Nat) (cur:Array Value) (hg:w.heap[g]? = some (.cells cur e (0,0))) (m:Nat) (h0:0<m) (hs:0<i.size) (hzs:z.cells.size=i.size) (h1:∀v∈(Builtin.zeroCells z.cells m).toList,v.oneCell'=true)
  (h63:(m:Int)≤9223372036854775807) (h48:m*i.bytes≤281474976710656) (hroom:sLen+m≤sCap) (hfit:sLen*i.size+m*i.size≤cur.size) :
  (Builtin.append_ #[t,tn] ty #[.slice (some ⟨g,0,none⟩) sLen sCap,.int kq m]).run P w =
   .ok (.slice (some ⟨g,0,none⟩) (sLen+m) sCap) (w.setRow g (cur.toList.take (sLen*i.size)++(Builtin.zeroCells z.cells m).toList++cur.toList.drop (sLen*i.size+m*i.size)).toArray):=by
 have hk:m≠0:=by omega
 have hw:IntKind.i64.wrap (m:Int)=m:=by grind[IntKind.wrap_i64]
 have h48i:¬ (281474976710656<(m:Int)*(i.bytes:Int)):=by omega
 have hneg:¬ ((m:Int)<0):=by omega
 have hns:¬ (m*i.size=0):=Nat.mul_ne_zero hk (by omega);have hzl:(Builtin.zeroCells z.cells m).toList.length=m*i.size:=by rw[Array.length_toList,size_zeroCells,hzs]
 have hst:=run_storeCells_at P g (sLen*i.size) e (Builtin.zeroCells z.cells m).toList 0 cur w hg (by omega) h1;rw[hzl]at hst;simp only[Nat.add_zero]at hst;simp[Builtin.append_,run_underlying ht,run_underlying htn,Go.sizeOf,typeInfo,zeroValue,hi,hz,asInt,asIntOf,hw,hneg,hns,h48i,hroom,Addr.add_lit,hst]
theorem xx(base:Nat)(t tn ty e:TypeId)(i:TypeInfo)(z:Value)(kq kn:IntKind)(size bytes:Nat)(ht:P.underlying t=some (.slice e))(htn:P.underlying tn=some (.int kn))(hi:P.info? e=some i)(hz:i.zero=some z)
  (hsize:i.size=size) (hby:i.bytes=bytes) (hzs:z.cells.size=size) (hsz:0<size)
  (v:Value) (n:Nat) (xs:List Value) (hown:w.ownsRow base e size v n xs) (m:Nat) (hm:0<m) (h1:∀v∈(Builtin.zeroCells z.cells m).toList,v.oneCell'=true)
  (h63:n+m≤maxLen) (hbytes:(n+m)*bytes≤140737488355328) (hbase:base≤w.heap.size) :
  ∃v' w',(Builtin.append_ #[t,tn] ty #[v,.int kq m]).run P w = .ok v' w'∧w'.ownsRow base e size v' (n+m) (xs++(Builtin.zeroCells z.cells m).toList)∧w.grownBy w' v.ownBlock ∧
   (v'.ownBlock=v.ownBlock∨v'.ownBlock=some w.heap.size):=by
 subst hsize;subst hby;have hsmall:n+m≤9223372036854775807:=by simp_all[maxLen]
 have hl:(Builtin.zeroCells z.cells m).toList.length=m*i.size:=by rw[Array.length_toList,size_zeroCells,hzs]
 have hmb:m*i.bytes≤140737488355328:=Nat.le_trans (Nat.mul_le_mul_right _ (Nat.le_add_left m n)) hbytes;have hlen:(xs++(Builtin.zeroCells z.cells m).toList).length=(n+m)*i.size:=by rw[List.length_append,hown.1,hl,Nat.add_mul]
 have grown:∀(old:Nat),old<n+m->∀(row:Option Nat),
   (w.drew.alloc (.cells (xs.toArray++Builtin.zeroCells z.cells m++Builtin.zeroCells z.cells (grownCap w (n+m) old e - (n+m))) e)).ownsRow base e i.size
    (.slice (some ⟨w.heap.size,0,none⟩) (n+m) (grownCap w (n+m) old e)) (n+m) (xs++(Builtin.zeroCells z.cells m).toList) ∧
   w.grownBy (w.drew.alloc (.cells (xs.toArray++Builtin.zeroCells z.cells m++Builtin.zeroCells z.cells (grownCap w (n+m) old e - (n+m))) e)) row:=by
  intro old ho row;have hge:=grownCap_ge w (n+m) old e;have hcm:grownCap w (n+m) old e≤maxLen:=grownCap_le_maxLen w (n+m) old e h63;refine⟨⟨hlen,.inr ⟨w.heap.size,_,_,rfl,hbase,heap_alloc_new w.drew _,hge,hcm,?_,?_⟩⟩,⟨rfl,rfl,rfl,by simp,fun k hk _=>by first | exact Go.heap_alloc_old w.drew _ k hk | exact heap_alloc_old w.drew _ hk⟩⟩
  ·simp only[Array.size_append,List.size_toArray,size_zeroCells,hzs,hown.1,<- Nat.add_mul]
   simp_all
  grind
 rcases hown.2 with ⟨rfl,rfl⟩ | ⟨g,cap,cur,rfl,hbg,hg,hnc,hcm,hcs,htake⟩
 ·have hx:xs=[]:=List.eq_nil_of_length_eq_zero (by simp_all)
  subst hx;have hr:=Lib.run_append_nil_zeros (P:=P) w t tn ty e i z kq kn ht htn hi hz m hm hsz (by omega) (by omega);have hgr:=grown 0 (by omega) (Value.ownBlock (.slice none 0 0));simp only[Nat.zero_add,List.nil_append,Array.empty_append]at hgr ⊢;exact⟨_,_,hr,hgr.1,hgr.2,Or.inr rfl⟩
 ·by_cases hroom:n+m≤cap
  ·have hfit:n*i.size+m*i.size≤cur.size:=by rw[hcs,<- Nat.add_mul];exact Nat.mul_le_mul_right _ hroom
   have hr:=wu (P:=P) w t tn ty e i z kq kn ht htn hi hz g n cap cur hg m hm hsz hzs h1 (by omega) (by omega) hroom hfit;refine⟨_,_,hr,⟨hlen,.inr ⟨g,cap,_,rfl,hbg,setRow_heap w g cur _ e _ hg,hroom,hcm,?_,?_⟩⟩,⟨rfl,rfl,rfl,by simp,fun k _ hk=>setRow_other w g k _ (fun e=>hk (by simp[Value.ownBlock,e]))⟩,Or.inl rfl⟩
   ·grind
   grind
  ·have holds:∀j u,xs[j]? = some u->w.cell? ((⟨g,0,none⟩:Addr).add j)=some u:=hown.cells (g:=g) rfl
   have hfo:=run_firstCells_some (P:=P) w.drew i.size n ⟨g,0,none⟩ n cap xs hown.1 (by simp_all);have hr:=Lib.run_append_grow_zeros (P:=P) w t tn ty e i z kq kn ht htn hi hz (some ⟨g,0,none⟩) n cap xs hfo m hm hsz (by omega) (by omega) (by omega) (growslice_fits (by omega) hbytes);have hgr:=grown cap (by omega) (Value.ownBlock (.slice (some ⟨g,0,none⟩) n cap));exact⟨_,_,hr,hgr.1,hgr.2,Or.inr rfl⟩
end
section
variable {P:Program}{l:List Value}{w:World}{d:Option Tmp}{ty:TypeId}{pos:String}{af:Array Edge}{gd:Option (Nat×Bool)}
 {Q:Exit->Act->World->Prop} {K:List Value->World->Prop} {α:Type} {R:Rp α} {L:Lx}
theorem Rf{B:Nat->Prop}{pre post F:Lx}{s x:Operand}{t tn e:TypeId}{z:α}{kq kn:IntKind}{a:Option Addr}{n c:Nat}{m:Int}{xs:List α}(ht:P.underlying t=some (.slice e))(htn:P.underlying tn=some (.int kn))(hr:TyRow P e R z)
  (hs:ev l s = .slice a n c) (hx:ev l x = .int kq m) (hm:1≤m) (hL:LOk B (pre++blk a::post) F w) (hown:Ow R e ((pre++blk a::post)++F) w a n c xs)
  (hsm:small (xs.length+m.toNat)=true)
  (h:∀a' n' c' w',Stp B (pre++blk a::post) (pre++blk a'::post) F [blk a] w w'->Ow R e ((pre++blk a'::post)++F) w' a' n' c' (xs++zE m.toNat z)->K (st l d (.slice a' n' c')) w') :
  OW P ⟨d,.call { callee:=.builtin .append,args:=#[s,x],argTypes:=#[t,tn] },ty,pos,af,gd⟩ l w K Q:=by
 obtain⟨rfl,cells,h1,h2⟩:=hown;obtain⟨i,zv,hi,hz,hsz,hby,hzs,hzr⟩:=hr.info;have hsm:=nA hsm;obtain⟨M,rfl⟩:=zN (Int.le_trans (by decide) hm);simp only[zQ]at *;have hM:0<M:=by omega
 have hfl:(Builtin.zeroCells zv.cells M).toList=(zE M zv.cells.toList).flatten:=rW zv.cells M;have hrows:∀(L':Lx) (w':World),RowsOf R L' w' (Builtin.zeroCells zv.cells M).toList (zE M z):=fun L' w'=>by simp_all[RowsOf.replicate]
 obtain⟨v',w',hrun,h5,h6,h7⟩:=xx (P:=P) w 0 t tn ty e i zv kq kn R.size i.bytes ht htn hi hz hsz rfl hzs hr.pos (.slice a xs.length c) xs.length cells h1 M hM ((hrows ((pre++blk a::post)++F) w).one)
  (by grind[maxLen]) (by
   have:(xs.length+M)*i.bytes≤1073741824*131072:=Nat.mul_le_mul hsm hby
   omega) (Nat.zero_le _)
 have hshape:∃a' c',v' = .slice a' (xs.length+M) c':=by
  rcases h5.2 with ⟨hv,hn⟩ | ⟨g,cap,cur,hv,_⟩
  ·omega
  simp_all
 obtain⟨a',c',rfl⟩:=hshape
 have hb:∀k,blk a'=some k->blk a=some k∨(w.heap.size≤k∧k<w'.heap.size):=by
  intro k hk;rcases h7 with h7 | h7
  ·simp_all[wV]
  ·refine .inr ?_
   rw[wV,hk]at h7;cases h7;exact⟨Nat.le_refl _,(h5.lt w.heap.size (by simp_all[wV])).2⟩
 have hf:Fz [blk a] w w':=by simp_all[Fz.of_grown,wV]
 have S:=Stp.turn hL hf hb;refine jF (v:=.slice a' (xs.length+M) c') (w':=w') ?_ (h a' _ c' w' S ⟨by simp,cells++(Builtin.zeroCells zv.cells M).toList,?_,?_⟩)
 ·simp_all[execOp,resolve,invoke,builtin,Sem.run_bind,Sem.run_pure,zL,List.map_toArray,List.map_cons,List.map_nil]
 ·simp_all
 ·exact (h2.step hf (fun k hk=>by simp_all) S.hs).append (hrows _ _)
end
end Sx
end
noncomputable section
namespace Ev
open Go Go.RowKit Sx
def Ed:SV->Option (List SV)
 | .agg l=>some l
 | .d t x=>if t.agg then unp t x else some [.d t x]
 | .tup _=>none
 | .k v=>if v.oneCell'=true then some [.k v] else none
 | s=>some [s]
def jo(i:Nat)(e:Ent):List (Nat×Ent)->List (Nat×Ent)
 | []=>[]
 | (j,q)::r=>if j=i then (j,e)::r else (j,q)::jo i e r
def l5(i n:Nat)(e:Ent):List (Nat×Ent)->List (Nat×Ent)
 | []=>[]
 | (j,q)::r=>if j=i then (n,e)::r else (j,q)::l5 i n e r
section
variable {B:Nat->Prop}{F:Lx}{w0:Bs}{wr:Wr}{pl pl':List Place}{S S':St}{l l':List Value}{ls:List (List Value)}{w w':World}{L L' M:Lx}
theorem uQ{u:Value}(h:u.oneCell'=true):u.cells.toList=[u]:=by cases u<;>first | rfl | grind[Value.oneCell']
theorem yZ{s:SV}{u:Value}{cs:List SV}(hd:Den pl L w s u)(h:Ed s=some cs):DenL pl L w cs u.cells.toList∧∀v∈u.cells.toList,v.oneCell'=true:=by
 have key:u.oneCell'=true->DenL pl L w [s] u.cells.toList∧∀v∈u.cells.toList,v.oneCell'=true:=fun h1=>by rw[uQ h1];exact⟨⟨u,[],rfl,hd,rfl⟩,fun v hv=>by simp_all⟩
 cases s with
 | agg l=>cases h;obtain⟨us,h1,h2,rfl⟩:=hd;exact⟨h1,h2⟩
 | d t x =>
  have h:(if t.agg then unp t x else some [.d t x])=some cs:=h;split at h
  ·rename_i ht
   obtain⟨cs',h1,rfl⟩:=hd;have e:((rp t).val cs').cells.toList=cs':=by simp[Rp.val,gH,ht,Value.cells]
   rw[e];exact⟨o7 h h1,(rp t).one h1⟩
  ·rename_i ht
   cases h
   exact key (pF hd (fun _ e=>by cases e) (fun _ e=>by cases e) (fun _ e=>by cases e) (fun _ _ e=>by simp_all))
 | tup l=>cases h
 | k v =>
  have h:(if v.oneCell'=true then some [SV.k v] else none)=some cs:=h;split at h
  ·rename_i h1
   cases h
   have hd':u=v:=hd;simp_all
  grind
 | dx t x=>cases h;exact key (pF hd (fun _ e=>by cases e) (fun _ e=>by cases e) (fun _ e=>by cases e) (fun _ _ e=>by cases e))
 | row i=>cases h;exact key (pF hd (fun _ e=>by cases e) (fun _ e=>by cases e) (fun _ e=>by cases e) (fun _ _ e=>by cases e))
 | pb i o=>cases h;exact key (pF hd (fun _ e=>by cases e) (fun _ e=>by cases e) (fun _ e=>by cases e) (fun _ _ e=>by cases e))
 | pra i j sz o m ft k o2=>cases h;exact key (pF hd (fun _ e=>by cases e) (fun _ e=>by cases e) (fun _ e=>by cases e) (fun _ _ e=>by cases e))
 | prw i j sz o=>cases h;exact key (pF hd (fun _ e=>by cases e) (fun _ e=>by cases e) (fun _ e=>by cases e) (fun _ _ e=>by cases e))
 | pe t x=>cases h;exact key (pF hd (fun _ e=>by cases e) (fun _ e=>by cases e) (fun _ e=>by cases e) (fun _ _ e=>by cases e))
 | sd i=>cases h;exact key (pF hd (fun _ e=>by cases e) (fun _ e=>by cases e) (fun _ e=>by cases e) (fun _ _ e=>by cases e))
 | rowz i=>cases h;exact key (pF hd (fun _ e=>by cases e) (fun _ e=>by cases e) (fun _ e=>by cases e) (fun _ _ e=>by cases e))
 | sub i sz lo n=>cases h;exact key (pF hd (fun _ e=>by cases e) (fun _ e=>by cases e) (fun _ e=>by cases e) (fun _ _ e=>by cases e))
 | opb b i o=>cases h;exact key (pF hd (fun _ e=>by cases e) (fun _ e=>by cases e) (fun _ e=>by cases e) (fun _ _ e=>by cases e))
 | mp i=>cases h;exact key (pF hd (fun _ e=>by cases e) (fun _ e=>by cases e) (fun _ e=>by cases e) (fun _ _ e=>by cases e))
 | fn f a b=>cases h;exact key (pF hd (fun _ e=>by cases e) (fun _ e=>by cases e) (fun _ e=>by cases e) (fun _ _ e=>by cases e))
 | ifc t v=>cases h;exact key (pF hd (fun _ e=>by cases e) (fun _ e=>by cases e) (fun _ e=>by cases e) (fun _ _ e=>by cases e))
theorem jG{α:Type}:∀{own:List (Nat×α)} {i:Nat} {e:α},get own i=some e->∃pre post,own=pre++(i,e)::post∧∀x∈pre,x.1≠i
 | (j,q)::own,i,e,h=>by
  unfold get at h;split at h
  ·rename_i hj
   cases h
   subst hj;exact⟨[],own,rfl,by simp⟩
  ·rename_i hj
   obtain⟨pre,post,h1,h2⟩:=jG h;grind
theorem Ee{i:Nat}{e e':Ent}:∀{pre post:List (Nat×Ent)},(∀x∈pre,x.1≠i)->jo i e' (pre++(i,e)::post)=pre++(i,e')::post
 | [],post,_=>by simp[jo]
 | (j,q)::pre,post,h=>by have hj:j≠i:=h _ (List.mem_cons_self ..);show (if j=i then (j,e')::(pre++(i,e)::post) else (j,q)::jo i e' (pre++(i,e)::post))=_;rw[if_neg hj,Ee (fun x hx=>h x (zT _ hx))];rfl
theorem Ef{i n:Nat}{e e':Ent}:∀{pre post:List (Nat×Ent)},(∀x∈pre,x.1≠i)->l5 i n e' (pre++(i,e)::post)=pre++(n,e')::post
 | [],post,_=>by simp[l5]
 | (j,q)::pre,post,h=>by have hj:j≠i:=h _ (List.mem_cons_self ..);show (if j=i then (n,e')::(pre++(i,e)::post) else (j,q)::l5 i n e' (pre++(i,e)::post))=_;rw[if_neg hj,Ef (fun x hx=>h x (zT _ hx))];rfl
theorem kg{i:Nat}{e:Ent}{pre post:List (Nat×Ent)}:lx pl (pre++(i,e)::post)=lx pl pre++plb pl i::lx pl post:=by grind[lx]
theorem others{pre post:List (Nat×Ent)}{i:Nat}{e:Ent}(hL:LOk B (lx pl (pre++(i,e)::post)) F w){x:Nat×Ent}(hx:x∈pre∨x∈post):∀k,plb pl x.1=some k->some k ∉ [plb pl i]:=fun k hk hm=>by
 simp at hm;have hp:=hL.pair;rw[kg,List.pairwise_append,List.pairwise_cons]at hp;obtain⟨_,⟨h2,_⟩,h4⟩:=hp;rcases hx with hx | hx
 ·have hmem:some k∈lx pl pre:=by rw[<- hk];exact List.mem_map_of_mem (f:=fun e:Nat×Ent=>plb pl e.1) hx
  grind
 ·have hmem:some k∈lx pl post:=by rw[<- hk];exact List.mem_map_of_mem (f:=fun e:Nat×Ent=>plb pl e.1) hx
  grind
theorem Rel.mod(h:Rel B F w0 wr pl S l ls w){i:Nat}{e e':Ent}(hg:get S.own i=some e)(hs:Stp B (lx pl S.own) (lx pl S.own) F [plb pl i] w w')(he:EntD pl (lx pl S.own++F) w' i e') :
  Rel B F w0 wr pl { S with own:=jo i e' S.own,log:=i::S.log } l ls w':=by
 obtain⟨pre,post,h1,h2⟩:=jG hg;have e1:jo i e' S.own=pre++(i,e')::post:=by grind[Ee]
 have e2:lx pl (jo i e' S.own)=lx pl S.own:=by simp_all[kg]
 have hL:=h.hL;rw[h1]at hL;refine h.go (M:=[plb pl i]) (S':={ S with own:=jo i e' S.own,log:=i::S.log }) (by simp_all) (fun _ _ h=>h) h.nx (Nat.le_refl _) rfl rfl rfl (fun j hj=>zT _ hj) (fun x hx=>?_);have hx:x∈jo i e' S.own:=hx;rw[e1]at hx;have key:x∈pre∨x∈post->(x∈S.own∧∀k,plb pl x.1=some k->some k ∉ [plb pl i]):=fun hx=>⟨by grind,others hL hx⟩;rcases List.mem_append.1 hx with hx | hx
 ·simp_all
 ·rcases List.mem_cons.1 hx with hx | hx
  ·subst hx
   refine .inr ⟨.inr ⟨List.mem_cons_self ..,_,gy hg,rfl⟩,?_⟩;simp_all
  simp_all
theorem Rel.rep(h:Rel B F w0 wr pl S l ls w){i:Nat}{e e':Ent}{p:Place}{pre post:List (Nat×Ent)}(h1:S.own=pre++(i,e)::post)(h2:∀x∈pre,x.1≠i)
  (hs:Stp B (lx pl pre++plb pl i::lx pl post) (lx pl pre++blk p.a::lx pl post) F [plb pl i] w w')
  (he:EntD (pl++[p]) ((lx pl pre++blk p.a::lx pl post)++F) w' pl.length e') :
  Rel B F w0 wr (pl++[p]) { S with own:=l5 i S.nx e' S.own,nx:=S.nx+1,log:=i::S.log } l ls w':=by
 have e1:l5 i S.nx e' S.own=pre++(S.nx,e')::post:=by grind[Ef]
 have e2:lx (pl++[p]) (l5 i S.nx e' S.own)=lx pl pre++blk p.a::lx pl post:=by
  have a1:∀q:List (Nat×Ent),(∀x∈q,x∈S.own)->lx (pl++[p]) q=lx pl q:=fun q hq=>by unfold lx;exact List.map_congr_left fun x hx=>(h.ent x (hq x hx)).plb (kQ p)
  rw[e1,kg,a1 pre (fun x hx=>by simp_all),a1 post (fun x hx=>by simp_all),h.nx,tK]
 have hL:=h.hL;rw[h1]at hL;have e3:lx pl S.own=lx pl pre++plb pl i::lx pl post:=by rw[h1,kg]
 have hi:Ev.plb (pl++[p]) i=Ev.plb pl i:=(h.ent (i,e) (by simp_all)).plb (kQ p);refine h.go (M:=[plb pl i]) (S':={ S with own:=l5 i S.nx e' S.own,nx:=S.nx+1,log:=i::S.log }) (by simp_all) (kQ p) (by simp[h.nx]) (Nat.le_succ _) rfl rfl rfl (fun j hj=>zT _ hj) (fun x hx=>?_);have hx:x∈l5 i S.nx e' S.own:=hx;rw[e1]at hx;have key:x∈pre∨x∈post->(x∈S.own∧∀k,plb pl x.1=some k->some k ∉ [plb pl i]):=fun hx=>⟨by grind,others hL hx⟩;rcases List.mem_append.1 hx with hx | hx
 ·simp_all
 ·rcases List.mem_cons.1 hx with hx | hx
  ·subst hx
   refine .inr ⟨.inl (Nat.le_refl _),?_⟩;show EntD (pl++[p]) (lx (pl++[p]) (l5 i S.nx e' S.own)++F) w' S.nx e';rw[e2,h.nx];exact he
  simp_all
def pG:List SV->List Nat
 | []=>[]
 | .row j::q=>j::pG q
 | _::q=>pG q
def oG:List Nat->St->St
 | [],S=>S
 | j::q,S=>match Cz S j with
  | some S'=>oG q S'
  | none=>oG q S
theorem Bu{i:Nat}(h:Cz S i=some S'):S'.nt=S.nt:=by grind[Cz]
theorem CB:∀{q:List Nat} {S:St},Rel B F w0 wr pl S l ls w->Rel B F w0 wr pl (oG q S) l ls w∧(oG q S).nt=S.nt
 | [],S,h=>⟨h,rfl⟩
 | j::q,S,h=>by
  unfold oG;split
  ·rename_i S' hf
   obtain⟨a,b⟩:=CB (q:=q) (E9 h hf);exact⟨a,by rw[b,Bu hf]⟩
  ·exact CB h
theorem Rel.told(h:Rel B F w0 wr pl S l ls w){i:Nat}{e e':Ent}(hg:get S.own i=some e)(he:EntD pl (lx pl S.own++F) w i e') :
  Rel B F w0 wr pl { S with own:=jo i e' S.own,log:=i::S.log } l ls w:=by
 have hmem:∀k,some k ∈ [plb pl i]->some k∈lx pl S.own:=fun k hk=>by simp only[List.mem_singleton]at hk;rw[hk];exact List.mem_map_of_mem (f:=fun e:Nat×Ent=>plb pl e.1) (gy hg)
 exact h.mod hg ⟨Fz.refl _ _,hmem,Sub.refl _ _,h.hL⟩ he
def clo(S:St)(i:Nat):Option St:=match get S.own i with
 | some (.rowo _ _ _ _ cs0)=>match get (oG (pG cs0) S).own i with
  | some (.rowo t e b xs cs)=>match pk t cs with
   | some (x,[])=>some { oG (pG cs0) S with own:=jo i (.row t e (if b=true then xs++[x] else xs)) (oG (pG cs0) S).own,log:=i::(oG (pG cs0) S).log }
   | _=>none
  | _=>none
 | _=>none
theorem ao2(h:Rel B F w0 wr pl S l ls w){i:Nat}(hf:clo S i=some S'):Rel B F w0 wr pl S' l ls w∧S'.nt=S.nt:=by
 unfold clo at hf;split at hf
 ·rename_i t0 e0 b0 xs0 cs0 hg0
  obtain⟨a,hn⟩:=CB (q:=pG cs0) h;generalize oG (pG cs0) S=S1 at hf a hn;split at hf
  ·rename_i t e b xs cs hg
   split at hf
   ·rename_i x hpk
    cases hf
    refine⟨a.told hg ?_,hn⟩;obtain⟨p,ro,us,h1,h2,h3,h4⟩:=a.ent _ (gy hg);refine⟨p,h1,?_⟩
    cases b with
    | false =>
     rw[if_neg Bool.false_ne_true];have h2:Ow (Bn t.size) e (lx pl S1.own++F) w p.a p.n p.c (ro++[]):=h2;grind[Zm]
    | true =>
     rw[if_pos rfl];obtain⟨c,v,e1,h5,h6⟩:=mF hpk (h4 rfl);cases h6;rw[List.append_nil]at e1;subst e1;exact Zm (rs:=ro++[us]) h2 (h3.append ⟨x,[],rfl,h5,rfl⟩)
   grind
  grind
 grind
def frz(S:St)(i:Nat):Option St:=match clo S i with
 | some S'=>Cz S' i
 | none=>Cz S i
theorem Km(h:Rel B F w0 wr pl S l ls w){i:Nat}(hf:frz S i=some S'):Rel B F w0 wr pl S' l ls w:=by
 unfold frz at hf;split at hf
 ·rename_i S1 h1
  exact E9 (ao2 h h1).1 hf
 grind[E9]
theorem ao3{i:Nat}(h:clo S i=some S'):S'.nt=S.nt:=by
 unfold clo at h;split at h
 ·rename_i cs0 _
  have key:∀(q:List Nat) (S:St),(oG q S).nt=S.nt:=fun q=>by
   induction q with
   | nil=>intro S;rfl
   | cons j q ih =>
    grind[oG,Bu]
  grind
 grind
theorem Kn{i:Nat}(h:frz S i=some S'):S'.nt=S.nt:=by
 unfold frz at h;split at h
 ·rename_i S1 h1
  rw[Bu h,ao3 h1]
 ·exact Bu h
end
section
variable {R:Type}
def Ko(S:St)(t:TypeId)(cs:List SV)(K:St->SV->Option R):Option R :=
 K { S with own:=(S.nx,.box t cs)::S.own,nx:=S.nx+1 } (.pb S.nx 0)
def y5(P:Program)(S:St)(t:TypeId)(K:St->SV->Option R):Option R :=
 match (P.info? t).bind (·.zero) with
 | some z=>if z.cells.toList.all Value.oneCell'=true then Ko S t (z.cells.toList.map ofV) K else none
 | none=>none
def Kq(S:St)(t:TypeId)(s:SV)(K:St->SV->Option R):Option R :=
 match Ed s with
 | some cs=>Ko S t cs K
 | none=>none
def wz(P:Program)(S:St)(t:TypeId)(a s:SV)(K:St->SV->Option R):Option R :=
 match a with
 | .pb i o=>match get S.own i,jc P t,Ed s with
  | some (.box T cs),some n,some vs=>if vs.length=n∧o+n≤cs.length then K { S with own:=jo i (.box T (cs.take o++vs++cs.drop (o+n))) S.own,log:=i::S.log } (.k undef) else none
  | _,_,_=>none
 | .prw i j sz o=>match get S.own i,tyc P t with
  | some (.row t0 e xs),some fy=>if sz=t0.size then match toD fy s with
   | some y=>(at? xs j).bind fun x=>match upd t0 o fy y x with
    | some z=>K { S with own:=jo i (.row t0 e (xs.set j.toNat z)) S.own,log:=i::S.log } (.k undef)
    | none=>none
   | none=>none
   else none
  | _,_=>none
 | .pra i j sz o m ft k o2=>match get S.own i,tyc P t with
  | some (.row t0 e xs),some fy=>if sz=t0.size then match toD fy s with
   | some y=>(at? xs j).bind fun x=>match prj t0 o (.ar m ft) x with
    | some ys=>(at? (show List (Vl ft) from ys) k).bind fun z=>match upd ft o2 fy y z with
     | some z'=>match upd t0 o (.ar m ft) (show Vl (.ar m ft) from (show List (Vl ft) from ys).set k.toNat z') x with
      | some x'=>K { S with own:=jo i (.row t0 e (xs.set j.toNat x')) S.own,log:=i::S.log } (.k undef)
      | none=>none
     | none=>none
    | none=>none
   | none=>none
   else none
  | _,_=>none
 | _=>none
def Rh{t:Ty}(h:t = .int .u8)(xs:List (Vl t)):List Int:=(h ▸ xs:List (Vl (.int .u8)))
def rz(z:Bool)(i:Nat):SV:=if z=true then .rowz i else .row i
def Kr(P:Program)(S:St)(e:TypeId)(z:Bool)(i:Nat)(s:SV)(K:St->SV->Option R):Option R :=
 match get S.own i,lD P e with
 | some (.row t0 e0 xs),some ⟨t1,_⟩=>if e0=e∧t1=t0 then match leaf (.sl t0) s with
  | some ys=>need (small (xs.length+ys.length)) (K { S with own:=l5 i S.nx (.row t0 e (xs++ys)) S.own,nx:=S.nx+1,log:=i::S.log } (rz z S.nx))
  | none=>none
  else none
 | _,_=>none
def Ks(P:Program)(S:St)(e:TypeId)(z:Bool)(i:Nat)(b:List UInt8)(K:St->SV->Option R):Option R :=
 match get S.own i,P.info? e with
 | some (.row t0 e0 xs),some j=>if h:e0=e∧t0 = .int .u8∧j.size=1∧j.bytes=1 then match j.zero with
  | some (.int .u8 0)=>need (small ((Rh h.2.1 xs).length+b.length)) (K { S with own:=l5 i S.nx (.row (.int .u8) e (Rh h.2.1 xs++b.map fun b=>(b.toNat:Int))) S.own,nx:=S.nx+1,log:=i::S.log } (rz z S.nx))
  | _=>none
  else none
 | _,_=>none
def Eg(P:Program)(S:St)(e:TypeId)(s1:SV)(K:St->Bool->Nat->Option R):Option R :=
 match s1 with
 | .row i=>K S false i
 | .rowz i=>K S true i
 | .k (.slice none 0 0)=>match lD P e with
  | some ⟨t0,_⟩=>K { S with own:=(S.nx,.row t0 e [])::S.own,nx:=S.nx+1 } false S.nx
  | none=>none
 | _=>none
def Fa(P:Program)(S:St)(t:TypeId)(s1 s2:SV)(K:St->SV->Option R):Option R :=
 match jZ P t with
 | some (e,_)=>Eg P S e s1 fun S1 z i=>Kr P S1 e z i s2 K
 | none=>none
def Ku(P:Program)(t:TypeId):Option IntKind:=match P.underlying t with
 | some (.int k)=>some k
 | _=>none
theorem Zs{P:Program}{t:TypeId}{k:IntKind}(h:Ku P t=some k):P.underlying t=some (.int k):=by grind[Ku]
def abu(P:Program)(S:St)(e:TypeId)(z:Bool)(i:Nat)(m:Int)(K:St->SV->Option R):Option R :=
 match get S.own i,lD P e with
 | some (.row t0 e0 xs),some ⟨t1,zz⟩=>if h:e0=e∧t1=t0∧z=false then need (ge m 1) (need (small (xs.length+m.toNat)) (K { S with own:=l5 i S.nx (.row t0 e (xs++zE m.toNat (h.2.1 ▸ zz))) S.own,nx:=S.nx+1,log:=i::S.log } (.row S.nx)))
  else none
 | _,_=>none
def CF(P:Program)(S:St)(t u:TypeId)(s1 s2:SV)(K:St->SV->Option R):Option R :=
 match jZ P t,s2 with
 | some (e,_),.d .str b=>if isStr P u=true then Eg P S e s1 fun S1 z i=>Ks P S1 e z i b K else none
 | some (e,_),.d (.int _) m=>match Ku P u with
  | some _=>Eg P S e s1 fun S1 z i=>abu P S1 e z i m K
  | none=>none
 | _,_=>none
def Ju(P:Program)(S:St)(t:TypeId)(s:SV)(lo hi mx:Option Operand)(K:St->SV->Option R):Option R:=none
def iX(n m:Int):Bool:=if n=m then true else decide (n≤m)
theorem abv{n m:Int}(h:iX n m=true):n≤m:=by unfold iX at h;grind
def Ri(P:Program)(S:St)(t:TypeId)(s1 s2:SV)(K:St->SV->Option R):Option R :=
 match jZ P t,s1,s2 with
 | some (e,_),.d (.int _) n,.d (.int _) m=>match lD P e with
  | some ⟨t0,z⟩=>need (ge n 0) (need (iX n m) (need (small m.toNat) (K { S with own:=(S.nx,.row t0 e (zE n.toNat z))::S.own,nx:=S.nx+1 } (.row S.nx))))
  | none=>none
 | _,_,_=>none
end
section
variable {R:Type}{B:Nat->Prop}{F:Lx}{w0:Bs}{wr:Wr}{pl pl':List Place}{S S':St}{l l':List Value}{ls:List (List Value)}{w w':World}{L L' M:Lx}{P:Program}{d:Option Tmp}{ty:TypeId}{pos:String}{af:Array Edge}{gd:Option (Nat×Bool)}
 {Q:Exit->Act->World->Prop} {KK:List Value->World->Prop} {K:St->SV->Option R} {r:R}
def Hand(B:Nat->Prop)(F:Lx)(w0:Bs)(wr:Wr)(n:Nat)(l:List Value)(ls:List (List Value))(d:Option Tmp)(K:St->SV->Option R)(r:R)(KK:List Value->World->Prop):Prop :=
 ∀pl' S' s v w',Rel B F w0 wr pl' S' l ls w'->S'.nt=n->Den pl' (lx pl' S'.own++F) w' s v->K S' s=some r->KK (st l d v) w'
theorem Cj(h:Rel B F w0 wr pl S l ls w){t:TypeId}{cs:List SV}(hv:Ko S t cs K=some r)(hk:Hand B F w0 wr S.nt l ls d K r KK){g:Nat}{us:List Value}(hs:Stp B (lx pl S.own) (some g::lx pl S.own) F [] w w')(hb:Bx w' g us t)
  (hd:DenL pl (lx pl S.own++F) w cs us) (h1:∀v∈us,v.oneCell'=true):KK (st l d (.pointer (some ⟨g,0,none⟩))) w':=by
 have hd':DenL (pl++[⟨some ⟨g,0,none⟩,0,0⟩]) ((some g::lx pl S.own)++F) w' cs us:=hd.ext (Ext.of_stp hs (kQ _));have hr:=h.push ⟨some ⟨g,0,none⟩,0,0⟩ (.box t cs) hs ⟨g,0,0,us,iN _,hb,hd',h1⟩;refine hk _ _ _ _ w' hr rfl ?_ hv;exact⟨g,0,0,by rw[h.nx];simp,rfl⟩
theorem y7(h:Rel B F w0 wr pl S l ls w){t:TypeId}(hv:y5 P S t K=some r)(hk:Hand B F w0 wr S.nt l ls d K r KK):OW P ⟨d,.alloc t,ty,pos,af,gd⟩ l w KK Q:=by
 unfold y5 at hv;split at hv
 ·rename_i z hz
  split at hv
  ·rename_i h1
   exact uO hz rfl h.hL (fun g w' hS hb=>Cj h hv hk hS hb (nD _) (List.all_eq_true.1 h1))
  grind
 grind
theorem Fb(h:Rel B F w0 wr pl S l ls w){t:TypeId}{x:Operand}{s:SV}(hv:Kq S t s K=some r)(hx:Den pl (lx pl S.own++F) w s (ev l x))(hk:Hand B F w0 wr S.nt l ls d K r KK):OW P ⟨d,.box t x,ty,pos,af,gd⟩ l w KK Q:=by
 unfold Kq at hv;split at hv
 ·rename_i cs hc
  obtain⟨h1,h2⟩:=yZ hx hc;exact Bl rfl rfl h.hL (fun g w' hS hb=>Cj h hv hk hS hb h1 h2)
 grind
theorem uR(h:Rel B F w0 wr pl S l ls w){t:TypeId}{x y:Operand}{a s:SV}(hv:wz P S t a s K=some r)(hx:Den pl (lx pl S.own++F) w a (ev l x))(hy:Den pl (lx pl S.own++F) w s (ev l y))(hk:Hand B F w0 wr S.nt l ls d K r KK):OW P ⟨d,.store t x y,ty,pos,af,gd⟩ l w KK Q:=by
 unfold wz at hv;split at hv
 ·rename_i i o
  split at hv
  ·rename_i T cs n vs hg hn hc
   split at hv
   ·rename_i hb
    obtain⟨g,n1,c1,h1,h2⟩:=hx;obtain⟨g',n',c',us,h3,h4,h5,h6⟩:=h.ent _ (gy hg);rw[h1]at h3;cases h3;obtain⟨h7,h8⟩:=yZ hy hc;have hpl:plb pl i=some g:=fZ h1;have hl1:=h5.len;have hl2:=h7.len;refine Jo (vs:=(ev l y).cells.toList) hn h2 rfl rfl (by omega) (List.all_eq_true.2 h8) h.hL h4 (decide_eq_true (by omega)) (by rw[<- hpl];exact List.mem_map_of_mem (f:=fun e:Nat×Ent=>plb pl e.1) (gy hg)) rfl (fun w' hS hb'=>?_);have hE:=Ext.of_stp (pl:=pl) (pl':=pl) hS (fun _ _ h=>h);have hr:=h.mod (e':=.box T (cs.take o++vs++cs.drop (o+n))) hg (by simp_all) ⟨g,n1,c1,_,h1,hb',(((h5.ext hE).take o).append (h7.ext hE)).append ((h5.ext hE).drop _),fun v hv=>?_⟩
    ·exact hk pl _ (.k undef) undef w' hr rfl rfl hv
    grind
   grind
  grind
 ·rename_i i j sz o
  split at hv
  ·rename_i t0 e xs fy hg hfy
   split at hv
   ·rename_i hsz
    split at hv
    ·rename_i z hz
     obtain⟨y0,hy0,hv⟩:=fT hv;split at hv
     ·rename_i z' hu
      obtain⟨g,b0,n1,c1,h1,h2⟩:=hx;obtain⟨p,h3,h4⟩:=h.ent _ (gy hg);rw[h1]at h3;cases h3;obtain⟨h5,h6,h7⟩:=jm hy0;obtain⟨_,hb0⟩:=h4.addr h7;cases hb0;obtain⟨c,h8,h9⟩:=nT hz hy;have hpl:plb pl i=some g:=fZ h1
      have hcells:(ev l y).cells.toList=c:=by
       rw[h9]
       cases ha:fy.agg with
       | true=>simp[Rp.val,gH,ha,Value.cells]
       | false =>
        have hl:=(rp fy).len h8;rw[tF fy ha]at hl;obtain⟨v,rfl⟩:=List.length_eq_one_iff.1 hl;simp only[Rp.val,gH,ha,Bool.false_eq_true,if_false,List.headD_cons];exact uQ ((rp fy).one h8 v (by simp))
      refine yQ (R:=rp t0) (vs:=c) (b:=g) (i:=j.toNat) (off:=o) (u:=y0) (u':=z') ?_ (by grind[gX]) rfl hcells h.hL h4 h6 ((rp fy).one h8) (fun cs hcs=>sQ hu hcs h8) (by rw[<- hpl];exact List.mem_map_of_mem (f:=fun e:Nat×Ent=>plb pl e.1) (gy hg)) (fun w' hS hO=>?_)
      ·rw[(rp fy).len h8];exact (mH hfy).size
      ·have hr:=h.mod (e':=.row t0 e (xs.set j.toNat z')) hg (by simp_all) ⟨_,h1,hO⟩
       exact hk pl _ (.k undef) undef w' hr rfl rfl hv
     grind
    grind
   grind
  grind
 ·rename_i i j sz o m ft q o2
  split at hv
  ·rename_i t0 e xs fy hg hfy
   split at hv
   ·rename_i hsz
    split at hv
    ·rename_i z hz
     obtain⟨y0,hy0,hv⟩:=fT hv;split at hv
     ·rename_i ys hpr
      obtain⟨z0,hz0,hv⟩:=fT hv;split at hv
      ·rename_i z1 hu1
       split at hv
       ·rename_i z' hu
        obtain⟨g,b0,n1,c1,h1,h2⟩:=hx;obtain⟨p,h3,h4⟩:=h.ent _ (gy hg);rw[h1]at h3;cases h3;obtain⟨h5,h6,h7⟩:=jm hy0;obtain⟨_,hb0⟩:=h4.addr h7;cases hb0;obtain⟨_,hz6,_⟩:=jm hz0;obtain⟨c,h8,h9⟩:=nT hz hy;have hpl:plb pl i=some g:=fZ h1
        have hcells:(ev l y).cells.toList=c:=by
         rw[h9]
         cases ha:fy.agg with
         | true=>simp[Rp.val,gH,ha,Value.cells]
         | false =>
          have hl:=(rp fy).len h8;rw[tF fy ha]at hl;obtain⟨v,rfl⟩:=List.length_eq_one_iff.1 hl;simp only[Rp.val,gH,ha,Bool.false_eq_true,if_false,List.headD_cons];exact uQ ((rp fy).one h8 v (by simp))
        refine yQ (R:=rp t0) (vs:=c) (b:=g) (i:=j.toNat) (off:=o+q.toNat*ft.size+o2) (u:=y0) (u':=z') ?_ (by simp_all[gX,Nat.add_assoc]) rfl hcells h.hL h4 h6 ((rp fy).one h8) (fun cs hcs=>aoV hpr hz6 hu1 hu hcs h8) (by rw[<- hpl];exact List.mem_map_of_mem (f:=fun e:Nat×Ent=>plb pl e.1) (gy hg)) (fun w' hS hO=>?_)
        ·rw[(rp fy).len h8];exact (mH hfy).size
        ·have hr:=h.mod (e':=.row t0 e (xs.set j.toNat z')) hg (by simp_all) ⟨_,h1,hO⟩
         exact hk pl _ (.k undef) undef w' hr rfl rfl hv
       grind
      grind
     grind
    grind
   grind
  grind
 grind
end
end Ev
end
noncomputable section
namespace Ev
open Go Go.RowKit Sx
section
variable {R:Type}{B:Nat->Prop}{F:Lx}{w0:Bs}{wr:Wr}{pl pl':List Place}{S S':St}{l l':List Value}{ls:List (List Value)}{w w':World}{L L' M:Lx}{P:Program}{d:Option Tmp}{ty:TypeId}{pos:String}{af:Array Edge}{gd:Option (Nat×Bool)}
 {Q:Exit->Act->World->Prop} {KK:List Value->World->Prop} {K:St->SV->Option R} {r:R}
theorem y8{t:Ty}{L:Lx}{w:World}{v:Value}{ys:List (Vl t)}(hy:(rp (.sl t)).rel L w [v] ys):∃a n c,v = .slice a n c∧(Rp.slice (rp t)).rel L w [.slice a n c] ys:=by have hy0:=hy;obtain⟨a2,c2,e2,_⟩:=hy0;simp at e2;subst e2;exact⟨_,_,_,rfl,hy⟩
theorem Zt(h:Rel B F w0 wr pl S l ls w){t e:TypeId}{n i:Nat}{p:Place}{x y:Operand}{s:SV}(hel:jZ P t=some (e,n)){z0:Bool}(hv:Kr P S e z0 i s K=some r)(hp:pl[i]? = some p)(hx:if z0=true then RowV p (ev l x) else ev l x = .slice p.a p.n p.c)
  (hy:Den pl (lx pl S.own++F) w s (ev l y)) (hk:Hand B F w0 wr S.nt l ls d K r KK):OW P ⟨d,.call ⟨.builtin .append,#[x,y],#[t,t]⟩,ty,pos,af,gd⟩ l w KK Q:=by
 unfold Kr at hv;split at hv
 ·rename_i t0 e0 xs t1 z hg hr
  split at hv
  ·rename_i he
   obtain⟨rfl,rfl⟩:=he;split at hv
   ·rename_i ys hys
    obtain⟨hsm,hv⟩:=gW hv;obtain⟨pre,post,h1,h2⟩:=jG hg;obtain⟨p',h3,h4⟩:=h.ent _ (gy hg);rw[hp]at h3;cases h3;have e1:lx pl S.own=lx pl pre++blk p.a::lx pl post:=by grind[kg,fZ]
    have hL:=h.hL;have hy':=tJ (t:=.sl t1) rfl hys hy;rw[e1]at hL h4 hy';have hrow:=nE hr;obtain⟨a2,n2,c2,e2,hy'⟩:=y8 hy'
    cases z0 with
    | true =>
     refine Rc (iK hel).1 hrow hx e2 hL h4 hy' hsm (fun v a' n' c' w' hv' hS hO=>?_);have hpb:=fZ hp;have hr2:=h.rep (p:=⟨a',n',c'⟩) (e':=.row t1 e0 (xs++ys)) h1 h2 (by simp_all) ⟨_,iN _,hO⟩;exact hk _ _ (.rowz S.nx) _ w' hr2 rfl ⟨⟨a',n',c'⟩,by rw[h.nx];simp,hv'⟩ hv
    | false =>
     refine rY (iK hel).1 hrow hx e2 hL h4 hy' hsm (fun a' n' c' w' hS hO=>?_);have hpb:=fZ hp;have hr2:=h.rep (p:=⟨a',n',c'⟩) (e':=.row t1 e0 (xs++ys)) h1 h2 (by simp_all) ⟨_,iN _,hO⟩;exact hk _ _ (.row S.nx) _ w' hr2 rfl ⟨⟨a',n',c'⟩,by rw[h.nx];simp,rfl⟩ hv
   grind
  grind
 grind
theorem Zu(h:Rel B F w0 wr pl S l ls w){t u e:TypeId}{n i:Nat}{p:Place}{x y:Operand}{b:List UInt8}(hel:jZ P t=some (e,n))(hu:isStr P u=true){z0:Bool}(hv:Ks P S e z0 i b K=some r)(hp:pl[i]? = some p)(hx:if z0=true then RowV p (ev l x) else ev l x = .slice p.a p.n p.c)
  (hy:ev l y = .string ⟨⟨b⟩⟩) (hk:Hand B F w0 wr S.nt l ls d K r KK):OW P ⟨d,.call ⟨.builtin .append,#[x,y],#[t,u]⟩,ty,pos,af,gd⟩ l w KK Q:=by
 unfold Ks at hv;split at hv
 ·rename_i t0 e0 xs j hg hi
  split at hv
  ·rename_i hc
   split at hv
   ·rename_i hz
    obtain⟨rfl,rfl,hsz,hby⟩:=hc;have hcb:Rh (t:=.int .u8) rfl xs=xs:=rfl;rw[hcb]at hv;obtain⟨hsm,hv⟩:=gW hv;obtain⟨pre,post,h1,h2⟩:=jG hg;obtain⟨p',h3,h4⟩:=h.ent _ (gy hg);rw[hp]at h3;cases h3;have e1:lx pl S.own=lx pl pre++blk p.a::lx pl post:=by grind[kg,fZ]
    have hL:=h.hL;rw[e1]at hL h4
    cases z0 with
    | true =>
     refine Pp (iK hel).1 (jB hu) hi hz hsz hby hx hy hL h4 hsm (fun v a' n' c' w' hv' hS hO=>?_);have hpb:=fZ hp;have hr2:=h.rep (p:=⟨a',n',c'⟩) (e':=.row (.int .u8) e0 (xs++b.map fun b=>(b.toNat:Int))) h1 h2 (by simp_all) ⟨_,iN _,hO⟩;exact hk _ _ (.rowz S.nx) _ w' hr2 rfl ⟨⟨a',n',c'⟩,by rw[h.nx];simp,hv'⟩ hv
    | false =>
     refine r9 (iK hel).1 (jB hu) hi hz hsz hby hx hy hL h4 hsm (fun a' n' c' w' hS hO=>?_);have hpb:=fZ hp;have hr2:=h.rep (p:=⟨a',n',c'⟩) (e':=.row (.int .u8) e0 (xs++b.map fun b=>(b.toNat:Int))) h1 h2 (by simp_all) ⟨_,iN _,hO⟩;exact hk _ _ (.row S.nx) _ w' hr2 rfl ⟨⟨a',n',c'⟩,by rw[h.nx];simp,rfl⟩ hv
   grind
  grind
 grind
theorem Rel.nilRow(h:Rel B F w0 wr pl S l ls w)(t0:Ty)(e:TypeId):Rel B F w0 wr (pl++[⟨none,0,0⟩]) { S with own:=(S.nx,.row t0 e [])::S.own,nx:=S.nx+1 } l ls w ∧
  Ext pl (lx pl S.own++F) w (pl++[⟨none,0,0⟩]) (lx (pl++[⟨none,0,0⟩]) ((S.nx,Ent.row t0 e [])::S.own)++F) w:=by
 have hS:Stp B (lx pl S.own) (blk (none:Option Addr)::lx pl S.own) F [] w w:=Stp.none h.hL rfl;have e1:lx (pl++[⟨none,0,0⟩]) ((S.nx,Ent.row t0 e [])::S.own)=blk none::lx pl S.own:=by have:=Bp (kQ ⟨none,0,0⟩) h.ent;unfold lx at this ⊢;rw[List.map_cons,this,h.nx,tK]
 refine⟨h.push ⟨none,0,0⟩ (.row t0 e []) hS ⟨_,iN _,Ow.nil _ _ _ _⟩,?_⟩;grind[Ext.of_stp,kQ]
theorem CG{K':St->Bool->Nat->Option R}(h:Rel B F w0 wr pl S l ls w){e:TypeId}{x:Operand}{s1:SV}(hv:Eg P S e s1 K'=some r)(hx:Den pl (lx pl S.own++F) w s1 (ev l x)) :
  ∃pl' S1 z i p,Rel B F w0 wr pl' S1 l ls w∧S1.nt=S.nt∧pl'[i]? = some p∧(if z=true then RowV p (ev l x) else ev l x = .slice p.a p.n p.c)∧K' S1 z i=some r∧∀s u,Den pl (lx pl S.own++F) w s u->Den pl' (lx pl' S1.own++F) w s u:=by
 unfold Eg at hv;split at hv
 ·obtain⟨p,h1,h2⟩:=hx
  grind
 ·obtain⟨p,h1,h2⟩:=hx
  grind
 ·split at hv
  ·rename_i t0 z hr
   obtain⟨h1,h2⟩:=h.nilRow t0 e;have hx:ev l x = .slice none 0 0:=hx;exact⟨_,_,false,S.nx,⟨none,0,0⟩,h1,rfl,by rw[h.nx];simp,hx,hv,fun _ _ hd=>hd.ext h2⟩
  grind
 grind
theorem Rj(h:Rel B F w0 wr pl S l ls w){t:TypeId}{x y:Operand}{s1 s2:SV}(hv:Fa P S t s1 s2 K=some r)(hx:Den pl (lx pl S.own++F) w s1 (ev l x))
  (hy:Den pl (lx pl S.own++F) w s2 (ev l y)) (hk:Hand B F w0 wr S.nt l ls d K r KK):OW P ⟨d,.call ⟨.builtin .append,#[x,y],#[t,t]⟩,ty,pos,af,gd⟩ l w KK Q:=by
 grind[Fa,CG,Zt]
theorem anI(h:Rel B F w0 wr pl S l ls w){t u e:TypeId}{n i:Nat}{k kn:IntKind}{p:Place}{x y:Operand}{m:Int}(hel:jZ P t=some (e,n))(hu:P.underlying u=some (.int kn)){z0:Bool}(hv:abu P S e z0 i m K=some r)(hp:pl[i]? = some p)(hx:if z0=true then RowV p (ev l x) else ev l x = .slice p.a p.n p.c)
  (hy:ev l y = .int k m) (hk:Hand B F w0 wr S.nt l ls d K r KK):OW P ⟨d,.call ⟨.builtin .append,#[x,y],#[t,u]⟩,ty,pos,af,gd⟩ l w KK Q:=by
 unfold abu at hv;split at hv
 ·rename_i t0 e0 xs t1 z hg hr
  split at hv
  ·rename_i he
   obtain⟨rfl,rfl,rfl⟩:=he;obtain⟨hm,hv⟩:=gW hv;obtain⟨hsm,hv⟩:=gW hv;obtain⟨pre,post,h1,h2⟩:=jG hg;obtain⟨p',h3,h4⟩:=h.ent _ (gy hg);rw[hp]at h3;cases h3;have e1:lx pl S.own=lx pl pre++blk p.a::lx pl post:=by grind[kg,fZ]
   have hL:=h.hL;rw[e1]at hL h4;have hrow:=nE hr;refine Rf (iK hel).1 hu hrow hx hy (by simp_all[ge]) hL h4 hsm (fun a' n' c' w' hS hO=>?_);have hpb:=fZ hp;have hr2:=h.rep (p:=⟨a',n',c'⟩) (e':=.row t1 e0 (xs++zE m.toNat z)) h1 h2 (by simp_all) ⟨_,iN _,hO⟩;exact hk _ _ (.row S.nx) _ w' hr2 rfl ⟨⟨a',n',c'⟩,by rw[h.nx];simp,rfl⟩ hv
  grind
 grind
theorem Pq(h:Rel B F w0 wr pl S l ls w){t u:TypeId}{x y:Operand}{s1 s2:SV}(hv:CF P S t u s1 s2 K=some r)(hx:Den pl (lx pl S.own++F) w s1 (ev l x))
  (hy:Den pl (lx pl S.own++F) w s2 (ev l y)) (hk:Hand B F w0 wr S.nt l ls d K r KK):OW P ⟨d,.call ⟨.builtin .append,#[x,y],#[t,u]⟩,ty,pos,af,gd⟩ l w KK Q:=by
 unfold CF at hv;split at hv
 ·grind[CG,Zu,nU]
 ·rename_i e n k m hel
  split at hv
  ·rename_i kn hu
   obtain⟨pl',S1,z,i,p,h1,h2,h3,h4,h5,h6⟩:=CG h hv hx;exact anI h1 hel (Zs hu) h5 h3 h4 (iJ hy) (by simp_all)
  grind
 grind
theorem Kv(h:Rel B F w0 wr pl S l ls w){t:TypeId}{x:Operand}{s:SV}{lo hi mx:Option Operand}(hv:Ju P S t s lo hi mx K=some r)(hx:Den pl (lx pl S.own++F) w s (ev l x))(hk:Hand B F w0 wr S.nt l ls d K r KK) :
  OW P ⟨d,.slice t x lo hi mx,ty,pos,af,gd⟩ l w KK Q:=by
 unfold Ju at hv;cases hv
def abw(P:Program)(S:St)(t:TypeId)(s:SV)(lo hi:Option Operand)(mx:Operand)(K:St->SV->Option R):Option R :=
 match s with
 | .d (.sl t0) xs=>if E8 hi=true then match jZ P t,iW S lo 0,iW S hi 0,iW S (some mx) 0 with
   | some (_,n),some i,some j,some m=>if t0.size=n then (cut xs i j).bind fun y=>need (le j m) (need (le m (zF xs.length)) (K S (.d (.sl t0) y))) else none
   | _,_,_,_=>none
  else Ju P S t s lo hi (some mx) K
 | s=>Ju P S t s lo hi (some mx) K
theorem anJ(h:Rel B F w0 wr pl S l ls w){t:TypeId}{x:Operand}{s:SV}{lo hi:Option Operand}{mx:Operand}(hv:abw P S t s lo hi mx K=some r)(hx:Den pl (lx pl S.own++F) w s (Sx.ev l x))(hk:Hand B F w0 wr S.nt l ls d K r KK) :
  OW P ⟨d,.slice t x lo hi (some mx),ty,pos,af,gd⟩ l w KK Q:=by
 unfold abw at hv;split at hv
 ·rename_i t0 xs
  split at hv
  ·rename_i hz
   split at hv
   ·rename_i e n i j m hel hlo hhi hmx
    split at hv
    ·rename_i hsz
     obtain⟨y,hy,hv⟩:=fT hv;obtain⟨hjm,hv⟩:=gW hv;obtain⟨hm,hv⟩:=gW hv;have hjm:j≤m:=by simp_all[le]
     have hm:m≤xs.length:=by simp_all[le]
     obtain⟨h1,h2⟩:=iK hel;have hr:=qV hx;obtain⟨a,c,hsh,hr2⟩:=hr;simp at hsh;have hr:=qV hx;rw[hsh]at hr
     have hh:∃o k,hi=some o∧Sx.ev l o = .int k j:=by
      rcases kM h.fr hhi with ⟨e1,_⟩ | e1
      ·simp_all[E8]
      omega
     have hmm:∃k,Sx.ev l mx = .int k m:=by
      rcases kM h.fr hmx with ⟨e1,_⟩ | ⟨o,k,e1,e2⟩
      ·cases e1
      simp_all
     obtain⟨a',c',h3,h4⟩:=yP (d:=d) (ty:=ty) (pos:=pos) (af:=af) (g:=gd) h1 (by simp_all[gX]) hsh hr (kM h.fr hlo) hh hmm hy hjm hm;exact jF (h4 w) (hk pl S _ _ w h rfl (wY (t:=.sl _) rfl h3) hv)
    grind
   grind
  grind[Kv]
 grind[Kv]
theorem abx(h:Rel B F w0 wr pl S l ls w){t:TypeId}{x y:Operand}{s1 s2:SV}(hv:Ri P S t s1 s2 K=some r)(hx:Den pl (lx pl S.own++F) w s1 (ev l x))
  (hy:Den pl (lx pl S.own++F) w s2 (ev l y)) (hk:Hand B F w0 wr S.nt l ls d K r KK):OW P ⟨d,.makeSlice t x y,ty,pos,af,gd⟩ l w KK Q:=by
 unfold Ri at hv;split at hv
 ·rename_i e _ k n k' m hel
  split at hv
  ·rename_i t0 z hr
   obtain⟨h0,hv⟩:=gW hv;obtain⟨hnm,hv⟩:=gW hv;obtain⟨hsm,hv⟩:=gW hv;refine JW (iK hel).1 (nE hr) (iJ hx) (iJ hy) h.hL (of_decide_eq_true h0) (abv hnm) hsm (fun a n' c w' hS hO=>?_);have hr2:=h.push ⟨a,n',c⟩ (.row t0 e (zE n.toNat z)) hS ⟨_,iN _,hO⟩;exact hk _ _ (.row S.nx) _ w' hr2 rfl ⟨⟨a,n',c⟩,by rw[h.nx];simp,rfl⟩ hv
  grind
 grind
def Bv(place:Nat->Option (Nat×Nat))(cells:List SV):List (Nat×List SV)->Option (List SV)
 | []=>some cells
 | (i,v)::rest=>match place i with
  | none=>none
  | some (off,size)=>if v.length=size∧off+v.length≤cells.length then Bv place (cells.take off++v++cells.drop (off+v.length)) rest else none
theorem foldl_set:∀(vs cs:List Value) (off k:Nat),off+k+vs.length≤cs.length ->
  (vs.zipIdx k).foldl (fun (a:Array Value) (x:Value×Nat)=>a.setIfInBounds (off+x.2) x.1) cs.toArray=(cs.take (off+k)++vs++cs.drop (off+k+vs.length)).toArray
 | [],cs,off,k,h=>by simp
 | v::vs,cs,off,k,h=>by
  simp only[List.zipIdx_cons,List.foldl_cons];simp only[List.length_cons]at h;rw[List.setIfInBounds_toArray,foldl_set vs (cs.set (off+k) v) off (k+1) (by rw[List.length_set];omega)]
  congr 1
  rw[List.drop_set_of_lt (by omega)];have e1:(cs.set (off+k) v).take (off+(k+1))=cs.take (off+k)++[v]:=by rw[<- Nat.add_assoc,List.take_add_one,List.take_set_of_le (Nat.le_refl _),List.getElem?_set_self (by omega)];rfl
  rw[e1,List.length_cons];have e2:off+(k+1)+vs.length=off+k+(vs.length+1):=by omega
  rw[e2];simp
def Kw(pl:List Place)(L:Lx)(w:World):List (Nat×List SV)->List (Nat×Value)->Prop
 | [],vs=>vs=[]
 | a::q,vs=>∃b r,vs=b::r∧a.1=b.1∧DenL pl L w a.2 b.2.cells.toList∧(∀v∈b.2.cells.toList,v.oneCell'=true)∧Kw pl L w q r
theorem Bw{place:Nat->Option (Nat×Nat)}:∀{parts:List (Nat×List SV)} {vals:List (Nat×Value)} {cs cs':List SV} {us:List Value},Bv place cs parts=some cs'->DenL pl L w cs us->(∀v∈us,v.oneCell'=true) ->
  Kw pl L w parts vals ->
  ∃us',Instr.fill place us.toArray vals=some us'.toArray∧DenL pl L w cs' us'∧(∀v∈us',v.oneCell'=true)
 | [],_,cs,cs',us,h,hd,h1,hp=>by cases h;cases hp;exact⟨us,rfl,hd,h1⟩
 | (i,v)::rest,_,cs,cs',us,h,hd,h1,⟨(bi,bv),r,hv,ha,hb,hc,hr⟩=>by
  subst hv;simp only at ha hb hc;subst ha;unfold Bv at h;split at h
  ·cases h
  ·rename_i off size hp
   split at h
   ·rename_i hcond
    have l1:=hd.len;have l2:=hb.len;have hsz:bv.cells.size=v.length:=by omega
    have hd':=((hd.take off).append hb).append (hd.drop (off+v.length));have h1':∀z∈us.take off++bv.cells.toList++us.drop (off+v.length),z.oneCell'=true:=fun z hz=>by grind
    obtain⟨us',e1,e2,e3⟩:=Bw h hd' h1' hr;refine⟨us',?_,e2,e3⟩;unfold Instr.fill;simp only[hp];rw[if_neg (by grind)];rw[<- e1]
    congr 1
    have:=foldl_set bv.cells.toList us off 0 (by omega);simp only[Nat.add_zero]at this;grind[Array.toList_zipIdx]
   grind
end
end Ev
end
