/- Proved in the last of these 16 parts (this is part 2): TalkCalm. Conditions: those of the given statement, and no others. -/
import Derived.Test.YtljkanofaahagaaGreatParta
import Derived.KernelRfl
import Derived.Laws.BytesArg
import Derived.Lib.ConvBytes
import Derived.Lib.Builder
import Derived.Lib.AppendStr
import Derived.Lib.AppendZerosOnto
import Derived.Maps.AppendAt
set_option linter.unusedVariables false
set_option linter.unusedSimpArgs false
set_option linter.unusedSectionVars false
open List renaming replicate → zE, mem_cons_of_mem → zT, getElem?_eq_some_iff → zW, length_take → kB
open Int renaming ofNat → zF, eq_ofNat_of_zero_le → zN, toNat_natCast → zQ
open Go.Result renaming andThen_ok → zL
open Option renaming map_eq_some_iff → zS
noncomputable section
namespace Ev
open Go Go.RowKit Sx
def u6:List Ty->Ty
 | []=>.un
 | a::r=>match r with
  | []=>.wr a
  | b::r'=>.pr a (prs b r')
where prs:Ty->List Ty->Ty
 | a,[]=>a
 | a,b::r=>.pr a (prs b r)
def atj(g:TypeId->Option Ty):List Field->Option (List Ty)
 | []=>some []
 | f::r=>(g f.type).bind fun a=>(atj g r).map fun q=>a::q
def UG(P:Program):Nat->TypeId->Option Ty
 | 0,_=>none
 | n+1,t=>match P.underlying t with
  | some (.int k)=>some (.int k)
  | some .bool=>some .bool
  | some .string=>some .str
  | some (.slice e)=>(UG P n e).map .sl
  | some (.struct fs)=>(atj (UG P n) fs.toList).map u6
  | some (.array m e)=>(UG P n e).map (.ar m)
  | some (.map k e)=>match P.underlying k,P.underlying e with
   | some (.int a),some (.int b)=>some (.mp (.int a) (.int b))
   | _,_=>none
  | _=>none
def tyc(P:Program)(t:TypeId):Option Ty:=(UG P 12 t).bind fun y =>
 match P.underlying t with
 | some dd=>if vT dd=y.agg∧jX P t=some y.size then some y else none
 | none=>none
theorem oH{P:Program}{t:TypeId}{y:Ty}(h:tyc P t=some y):TyOk P t (rp y):=by
 unfold tyc at h;obtain⟨y',_,h⟩:=Option.bind_eq_some_iff.1 h;split at h
 ·rename_i dd hd
  split at h
  ·rename_i h2
   cases h
   exact⟨⟨dd,hd,by simp_all[iQ]⟩,by simp_all[jc],fun ha=>vV _ (by simp_all[iQ])⟩
  grind
 grind
def ofV:Value->SV
 | .int k n=>.d (.int k) n
 | .bool b=>.d .bool b
 | .string ⟨⟨l⟩⟩=>.d .str l
 | v=>.k v
def opv(S:St):Operand->Option SV
 | .tmp t=>get S.fr t
 | .const v=>some (ofV v)
 | .func f=>some (.fn (.func f) [] [])
 | .global _=>none
section
variable {pl:List Place}{L:Lx}{w:World}{l:List Value}{P:Program}{S:St}
theorem jC{k:IntKind}{n:Int}{u:Value}(h:Den pl L w (.d (.int k) n) u):u = .int k n:=by obtain⟨cs,h1,h2⟩:=h;cases h1;exact h2
theorem mZ{b:Bool}{u:Value}(h:Den pl L w (.d .bool b) u):u = .bool b:=by obtain⟨cs,h1,h2⟩:=h;cases h1;exact h2
theorem qm{s:List UInt8}{u:Value}(h:Den pl L w (.d .str s) u):u = .string ⟨⟨s⟩⟩:=by obtain⟨cs,h1,h2⟩:=h;cases h1;exact h2
theorem uE{t:Ty}{xs:List (Vl t)}{u:Value}(h:Den pl L w (.d (.sl t) xs) u):(Rp.slice (rp t)).rel L w [u] xs:=by obtain⟨cs,h1,h2⟩:=h;obtain⟨a,c,rfl,h3⟩:=UD h1;have h2:u = .slice a xs.length c:=h2;grind
theorem Ic(v:Value):Den pl L w (ofV v) v:=by
 unfold ofV;split
 ·exact⟨_,rfl,rfl⟩
 ·exact⟨_,rfl,rfl⟩
 ·exact⟨_,rfl,rfl⟩
 ·rfl
theorem gz(hf:FrD pl L w S.fr l){x:Operand}{s:SV}(h:opv S x=some s):Den pl L w s (ev l x):=by
 cases x with
 | tmp t=>exact hf t s h
 | const v=>cases h;exact Ic v
 | func f=>cases h;exact⟨[],[],rfl,rfl,rfl⟩
 | global g=>cases h
def Yv(P:Program)(pl:List Place)(L:Lx)(w:World)(l:List Value)(o:Oper)(s:SV)(rd:List Nat):Prop :=
 ∃v,Den pl L w s v∧∀w',Fz L w w'->(∀i∈rd,∀k,plb pl i=some k->w'.heap[k]? = w.heap[k]?)->(execOp (ev l) o).run P w' = .ok (.value v) w'
theorem Yv.of{o:Oper}{s:SV}{v:Value}(h:Den pl L w s v)(hr:∀w',(execOp (ev l) o).run P w' = .ok (.value v) w'):Yv P pl L w l o s [] :=
 ⟨v,h,fun w' _ _=>hr w'⟩
theorem zl{t:Ty}(ht:t.agg=false){x:Vl t}{u:Value}(h:(rp t).rel L w [u] x):Den pl L w (.d t x) u:=⟨[u],h,by simp[Rp.val,iQ,ht]⟩
theorem jA(k:IntKind)(n:Int):Den pl L w (.d (.int k) n) (.int k n):=⟨_,rfl,rfl⟩
theorem nV(b:Bool):Den pl L w (.d .bool b) (.bool b):=⟨_,rfl,rfl⟩
theorem Dx(s:List UInt8):Den pl L w (.d .str s) (.string ⟨⟨s⟩⟩):=⟨_,rfl,rfl⟩
section
variable {R:Type}
def aeP(op:BinOp)(k:IntKind)(m n:Int)(K:SV->Option R):Option R :=
 match op with
 | .lss=>K (.d .bool (lt m n))
 | .leq=>K (.d .bool (le m n))
 | .gtr=>K (.d .bool (gt m n))
 | .geq=>K (.d .bool (ge m n))
 | .eql=>K (.d .bool (eqi m n))
 | .neq=>K (.d .bool (nei m n))
 | .add=>K (.d (.int k) (add k m n))
 | .sub=>K (.d (.int k) (sub k m n))
 | .mul=>K (.d (.int k) (mul k m n))
 | .quo=>need (nei n 0) (K (.d (.int k) (quo k m n)))
 | .rem=>need (nei n 0) (K (.d (.int k) (rem m n)))
 | .and=>K (.d (.int k) (lW k m n))
 | .or=>K (.d (.int k) (bor k m n))
 | .xor=>K (.d (.int k) (iU k m n))
 | .andNot=>K (.d (.int k) (aeJ k m n))
 | .shl=>need (ge n 0) (K (.d (.int k) (shl k m n)))
 | .shr=>need (ge n 0) (K (.d (.int k) (shr k m n)))
def Te:BinOp->Bool
 | .shl | .shr=>true
 | _=>false
theorem atl{n:Int}(h:nei n 0=true):n≠0:=by simp_all[nei]
theorem arQ{op:BinOp}{k k':IntKind}{m n:Int}{K:SV->Option R}{r:R}(h:aeP op k m n K=some r)(hk:Te op=true∨k=k'){d:Option Tmp}{ty t u:TypeId}{pos:String}{af:Array Edge}{g:Option (Nat×Bool)}{x y:Operand}
  (hx:ev l x = .int k m) (hy:ev l y = .int k' n):∃s,K s=some r∧Yv P pl L w l ⟨d,.binOp op t x y u,ty,pos,af,g⟩ s []:=by
 unfold aeP at h;cases op<;>simp only at h
 case quo =>
  obtain⟨h0,h⟩:=iZ h;rcases hk with hk | rfl
  ·cases hk
  exact⟨_,h,Yv.of (jA _ _) (fun w'=>arD hx hy (atl h0))⟩
 case rem =>
  obtain⟨h0,h⟩:=iZ h;rcases hk with hk | rfl
  ·cases hk
  exact⟨_,h,Yv.of (jA _ _) (fun w'=>arE hx hy (atl h0))⟩
 case shl =>
  obtain⟨h0,h⟩:=iZ h;exact⟨_,h,Yv.of (jA _ _) (fun w'=>arO hx hy h0)⟩
 case shr =>
  obtain⟨h0,h⟩:=iZ h;exact⟨_,h,Yv.of (jA _ _) (fun w'=>arP hx hy h0)⟩
 case lss =>
  rcases hk with hk | rfl
  ·cases hk
  exact⟨_,h,Yv.of (nV _) (fun w'=>as9 hx hy)⟩
 case leq =>
  rcases hk with hk | rfl
  ·cases hk
  exact⟨_,h,Yv.of (nV _) (fun w'=>ata hx hy)⟩
 case gtr =>
  rcases hk with hk | rfl
  ·cases hk
  exact⟨_,h,Yv.of (nV _) (fun w'=>atb hx hy)⟩
 case geq =>
  rcases hk with hk | rfl
  ·cases hk
  exact⟨_,h,Yv.of (nV _) (fun w'=>atc hx hy)⟩
 case eql =>
  rcases hk with hk | rfl
  ·cases hk
  exact⟨_,h,Yv.of (nV _) (fun w'=>ary hx hy)⟩
 case neq =>
  rcases hk with hk | rfl
  ·cases hk
  exact⟨_,h,Yv.of (nV _) (fun w'=>arz hx hy)⟩
 case add =>
  rcases hk with hk | rfl
  ·cases hk
  exact⟨_,h,Yv.of (jA _ _) (fun w'=>arA hx hy)⟩
 case sub =>
  rcases hk with hk | rfl
  ·cases hk
  exact⟨_,h,Yv.of (jA _ _) (fun w'=>arB hx hy)⟩
 case mul =>
  rcases hk with hk | rfl
  ·cases hk
  exact⟨_,h,Yv.of (jA _ _) (fun w'=>arC hx hy)⟩
 case and =>
  rcases hk with hk | rfl
  ·cases hk
  exact⟨_,h,Yv.of (jA _ _) (fun w'=>aeK hx hy)⟩
 case or =>
  rcases hk with hk | rfl
  ·cases hk
  exact⟨_,h,Yv.of (jA _ _) (fun w'=>arN hx hy)⟩
 case xor =>
  rcases hk with hk | rfl
  ·cases hk
  exact⟨_,h,Yv.of (jA _ _) (fun w'=>aeL hx hy)⟩
 case andNot =>
  rcases hk with hk | rfl
  ·cases hk
  exact⟨_,h,Yv.of (jA _ _) (fun w'=>aeM hx hy)⟩
def isBool(P:Program)(t:TypeId):Bool:=match P.underlying t with
 | some .bool=>true
 | _=>false
def isStr(P:Program)(t:TypeId):Bool:=match P.underlying t with
 | some .string=>true
 | _=>false
theorem Bn{t:TypeId}(h:isBool P t=true):P.underlying t=some .bool:=by grind[isBool]
theorem kT{t:TypeId}(h:isStr P t=true):P.underlying t=some .string:=by grind[isStr]
def bin(P:Program)(op:BinOp)(t:TypeId)(a b:SV)(K:SV->Option R):Option R :=
 match a,b with
 | .d (.int k) m,.d (.int k') n=>if Te op=true∨k=k' then aeP op k m n K else none
 | .d .str s,.d .str q=>match op with
  | .eql=>K (.d .bool (eqs s q))
  | .neq=>K (.d .bool (nes s q))
  | .add=>need (small (s.length+q.length)) (K (.d .str (s++q)))
  | _=>none
 | .d .bool p,.d .bool q=>if isBool P t then match op with
  | .eql=>K (.d .bool (eqb p q))
  | .neq=>K (.d .bool (neb p q))
  | _=>none else none
 | _,_=>none
theorem atm{op:BinOp}{t:TypeId}{a b:SV}{K:SV->Option R}{r:R}(h:bin P op t a b K=some r){d:Option Tmp}{ty u:TypeId}{pos:String}{af:Array Edge}{g:Option (Nat×Bool)}{x y:Operand}
  (hx:Den pl L w a (ev l x)) (hy:Den pl L w b (ev l y)):∃s,K s=some r∧Yv P pl L w l ⟨d,.binOp op t x y u,ty,pos,af,g⟩ s []:=by
 unfold bin at h;split at h
 ·split at h
  ·rename_i hk
   exact arQ h hk (jC hx) (jC hy)
  grind
 ·have hx:=qm hx
  have hy:=qm hy;split at h
  ·exact⟨_,h,Yv.of (nV _) (fun w'=>arI hx hy)⟩
  ·exact⟨_,h,Yv.of (nV _) (fun w'=>arJ hx hy)⟩
  ·obtain⟨h0,h⟩:=iZ h
   exact⟨_,h,Yv.of (Dx _) (fun w'=>UC hx hy h0)⟩
  grind
 ·have hx:=mZ hx
  have hy:=mZ hy;split at h
  ·rename_i hb
   have hb:=Bn hb;split at h
   ·exact⟨_,h,Yv.of (nV _) (fun w'=>arL hb hx hy)⟩
   ·exact⟨_,h,Yv.of (nV _) (fun w'=>arM hb hx hy)⟩
   grind
  grind
 grind
end
end
end Ev
end
noncomputable section
namespace Ev
open Go Go.RowKit Sx
section
variable {pl:List Place}{L:Lx}{w w':World}{l:List Value}{P:Program}{S:St}{d:Option Tmp}{ty:TypeId}{pos:String}{af:Array Edge}{g:Option (Nat×Bool)}{R:Type}
def avG(P:Program)(t:TypeId)(f:Nat):Option (Nat×TypeId):=match P.underlying t with
 | some (.struct fs)=>(fs[f]?).map fun fd=>(fd.offset,fd.type)
 | _=>none
def xx(P:Program)(t:TypeId):Option (Bool×Nat):=match P.underlying t,jX P t with
 | some dd,some n=>if vT dd=true∨n=1 then some (vT dd,n) else none
 | _,_=>none
theorem zm{t:TypeId}{ag:Bool}{n:Nat}(h:xx P t=some (ag,n)):(∃dd,P.underlying t=some dd∧vT dd=ag)∧jX P t=some n∧(ag=false->n=1):=by unfold xx at h;grind
def valOf(ag:Bool)(c:List Value):Value:=if ag then .agg c.toArray else c.headD undef
def MX(P:Program)(t:TypeId)(off:Nat)(cs:List SV):Option SV :=
 match xx P t with
 | some (ag,n)=>if decide (off+n≤cs.length)=true then
   if ag=true then (match tyc P t with
    | some fy=>(match pk fy ((cs.drop off).take n) with
     | some (x,[])=>some (.d fy x)
     | _=>some (.agg ((cs.drop off).take n)))
    | none=>some (.agg ((cs.drop off).take n)))
   else cs[off]?
  else none
 | none=>none
theorem Ie{t:TypeId}{off:Nat}{cs:List SV}{us:List Value}{s:SV}(h:MX P t off cs=some s)(hd:DenL pl L w cs us)(h1:∀v∈us,v.oneCell'=true) :
  ∃ag n,xx P t=some (ag,n)∧off+n≤us.length∧Den pl L w s (valOf ag ((us.drop off).take n)):=by
 unfold MX at h;have hl:=hd.len;split at h
 ·rename_i ag n hs
  split at h
  ·rename_i hle
   have hle:=of_decide_eq_true hle;refine⟨ag,n,hs,by omega,?_⟩;have hdd:DenL pl L w ((cs.drop off).take n) ((us.drop off).take n):=(hd.drop off).take _;have hone:∀v∈(us.drop off).take n,v.oneCell'=true:=fun v hv=>h1 v (List.mem_of_mem_drop (List.mem_of_mem_take hv));split at h
   ·rename_i ha
    subst ha;have hplain:Den pl L w (.agg ((cs.drop off).take n)) (valOf true ((us.drop off).take n)):=⟨_,hdd,hone,rfl⟩;split at h
    ·rename_i fy hfy
     split at h
     ·rename_i x hpk
      cases h
      obtain⟨c,v,e,h3,h4⟩:=oG hpk hdd;cases h4;rw[List.append_nil]at e;rw[e];obtain⟨⟨dd,q1,q2⟩,_⟩:=zm hs;obtain⟨⟨dd',q3,q4⟩,_⟩:=oH hfy;rw[q1]at q3;cases q3;rw[q2,iQ]at q4;exact⟨c,h3,by simp_all[Rp.val,iQ,valOf]⟩
     simp_all
    simp_all
   ·rename_i ha
    have ha:ag=false:=by simp_all
    subst ha;have hn:=(zm hs).2.2 rfl;subst hn;obtain⟨u,h5,h6⟩:=hd.at h;have e:((us.drop off).take 1).headD undef=u:=by grind[zW,List.drop_eq_getElem_cons]
    show Den pl L w s (((us.drop off).take 1).headD undef);simp_all
  grind
 grind
theorem KU{t:TypeId}{ag:Bool}{n:Nat}{us:List Value}{off:Nat}(hs:xx P t=some (ag,n))(hle:off+n≤us.length):(part t us.toArray off).run P w = .ok (valOf ag ((us.drop off).take n)) w:=by
 obtain⟨⟨dd,h3,h4⟩,h5,h6⟩:=zm hs;unfold part;rw[Sem.run_bind,q9 h3,zL,h4]
 cases ag with
 | true =>
  have e:us.toArray.extract off (off+n)=((us.drop off).take n).toArray:=by simp
  simp only[if_true,Sem.run_bind,mH h5,zL,Sem.run_pure,e,valOf]
 | false =>
  have h7:=h6 rfl;subst h7;have hlt:off<us.length:=by omega
  have e:us[off]? = some us[off]:=List.getElem?_eq_getElem hlt;have e2:((us.drop off).take 1).headD undef=us[off]:=by grind[List.drop_eq_getElem_cons]
  simp_all[valOf]
def MY(P:Program)(t:TypeId)(s:SV)(f:Nat)(K:SV->List Nat->Option R):Option R:=none
theorem acP{t:TypeId}{f:Nat}{x:Operand}{s:SV}{K:SV->List Nat->Option R}{r:R}(h:MY P t s f K=some r)(hx:Den pl L w s (ev l x)) :
  ∃s' rd,K s' rd=some r∧Yv P pl L w l ⟨d,.field t x f,ty,pos,af,g⟩ s' rd:=by
 unfold MY at h;cases h
end
end Ev
end
noncomputable section
namespace Ev
open Go Go.RowKit Sx
section
variable {pl:List Place}{L:Lx}{w w':World}{l:List Value}{P:Program}{S:St}{d:Option Tmp}{ty:TypeId}{pos:String}{af:Array Edge}{g:Option (Nat×Bool)}{R:Type}
def EntsD(pl:List Place)(L:Lx)(w:World)(own:List (Nat×Ent)):Prop:=∀e∈own,EntD pl L w e.1 e.2
theorem EntsD.get{own:List (Nat×Ent)}(h:EntsD pl L w own){i:Nat}{e:Ent}(hg:Ev.get own i=some e):EntD pl L w i e:=h _ (iI hg)
def zn(P:Program)(t:TypeId)(s:SV)(f:Nat)(K:SV->List Nat->Option R):Option R :=
 match EL P t f with
 | some off=>match s with
  | .pb i o=>K (.pb i (o+off)) []
  | .prw i j sz o=>K (.prw i j sz (o+off)) []
  | .pra i j sz o m ft k o2=>K (.pra i j sz o m ft k (o2+off)) []
  | .pe t0 x=>match avG P t f with
   | some (off',ft)=>if off'=off then (match tyc P ft with
    | some fy=>(match prj t0 off fy x with
     | some y=>K (.pe fy y) []
     | none=>none)
    | none=>none) else none
   | none=>none
  | _=>none
 | none=>none
theorem LY{t:TypeId}{f:Nat}{x:Operand}{s:SV}{K:SV->List Nat->Option R}{r:R}(h:zn P t s f K=some r)(hx:Den pl L w s (ev l x)) :
  ∃s' rd,K s' rd=some r∧Yv P pl L w l ⟨d,.fieldAddr t x f,ty,pos,af,g⟩ s' rd:=by
 unfold zn at h;split at h
 ·rename_i off ho
  split at h
  ·obtain⟨g,n,c,h1,h2⟩:=hx
   exact⟨_,_,h,Yv.of (v:=.pointer (some ⟨g,_,none⟩)) ⟨g,n,c,h1,rfl⟩ (fun w'=>qK ho h2)⟩
  ·obtain⟨g,b,n,c,h1,h2⟩:=hx
   exact⟨_,_,h,Yv.of (v:=.pointer (some ⟨g,_,none⟩)) ⟨g,b,n,c,h1,by simp[Nat.add_assoc]⟩ (fun w'=>qK ho h2)⟩
  ·obtain⟨g,b,n,c,h1,h2⟩:=hx
   exact⟨_,_,h,Yv.of (v:=.pointer (some ⟨g,_,none⟩)) ⟨g,b,n,c,h1,by simp[Nat.add_assoc]⟩ (fun w'=>qK ho h2)⟩
  ·split at h
   ·split at h
    ·split at h
     ·split at h
      ·rename_i y hp
       obtain⟨b,o,h1,h2⟩:=hx;exact⟨_,_,h,Yv.of (v:=.pointer (some ⟨b,o+off,none⟩)) ⟨b,o+off,rfl,atf hp h2⟩ (fun w'=>qK ho h1)⟩
      grind
     grind
    grind
   grind
  grind
 grind
theorem uF{α:Type}{R:Rp α}{e:TypeId}{a:Nat}{n c:Nat}{xs:List α}{i:Nat}{x:α}(h:Ow R e L w (some ⟨a,0,none⟩) n c xs)(hi:xs[i]? = some x) :
  ∃cs,R.rel L w cs x∧∀j v,cs[j]? = some v->w.cell? ⟨a,0+i*R.size+j,none⟩=some v:=by
 obtain⟨rfl,cells,h1,h2⟩:=h;obtain⟨pre,d,post,e2,h3,h4,_⟩:=h2.at hi;refine⟨d,h4,fun j v hj=>?_⟩;have:=h1.cells (g:=a) rfl (i*R.size+j) v (by grind);simp_all[Addr.add_lit',Nat.add_assoc]
theorem qo{α:Type}{R:Rp α}{t:TypeId}{b o:Nat}{cs:List Value}(ht:TyOk P t R)(hl:cs.length=R.size)(h:∀j v,cs[j]? = some v->w.cell? ⟨b,o+j,none⟩=some v) :
  (loadVar t ⟨b,o,none⟩).run P w = .ok (R.val cs) w:=by
 obtain⟨dd,hd,ha⟩:=ht.desc;unfold loadVar;rw[Sem.run_bind,q9 hd,zL,ha]
 cases hA:R.agg with
 | true =>
  have hc:=run_loadCells_list (P:=P) (w:=w) ⟨b,o,none⟩ cs (fun j v hj=>by simp_all[Addr.add_lit']);rw[hl]at hc;simp only[if_true,Sem.run_bind,mH ht.size,zL,hc,Rp.val,hA,Sem.run_pure]
 | false =>
  have:=ht.one hA;rw[this]at hl;obtain⟨v,rfl⟩:=List.length_eq_one_iff.1 hl;have:=h 0 v rfl;simp_all[Nat.add_zero,Go.load,Sem.run,Rp.val]
def sN(P:Program)(t:TypeId):Option (Nat×TypeId×Nat):=match P.underlying t with
 | some (.array m e)=>(jX P e).map fun n=>(m,e,n)
 | _=>none
theorem sO{t e:TypeId}{m n:Nat}(h:sN P t=some (m,e,n)):P.underlying t=some (.array m e)∧jX P e=some n:=by grind[sN,zS]
theorem EB{t:TypeId}{ag:Bool}{n b o:Nat}{cs:List Value}(ht:xx P t=some (ag,n))(hl:cs.length=n)(h:∀j v,cs[j]? = some v->w.cell? ⟨b,o+j,none⟩=some v) :
  (loadVar t ⟨b,o,none⟩).run P w = .ok (valOf ag cs) w:=by
 obtain⟨⟨dd,hd,ha⟩,hs,h1⟩:=zm ht;unfold loadVar;rw[Sem.run_bind,q9 hd,zL,ha]
 cases ag with
 | true =>
  have hc:=run_loadCells_list (P:=P) (w:=w) ⟨b,o,none⟩ cs (fun j v hj=>by simp_all[Addr.add_lit']);rw[hl]at hc;simp only[if_true,Sem.run_bind,mH hs,zL,hc,valOf,Sem.run_pure]
 | false =>
  have:=h1 rfl;rw[this]at hl;obtain⟨v,rfl⟩:=List.length_eq_one_iff.1 hl;have:=h 0 v rfl;simp_all[Nat.add_zero,Go.load,Sem.run,valOf]
def MZ(s:SV)(K:SV->Option R):Option R:=match s with
 | .opb b i o=>if b=true then K (.pb i o) else K (.k (.pointer none))
 | s=>K s
theorem acQ{s:SV}{K:SV->Option R}{r:R}(h:MZ s K=some r):∃s',K s'=some r∧∀u,Den pl L w s u->Den pl L w s' u:=by
 unfold MZ at h;split at h
 ·rename_i b i o
  split at h
  ·rename_i hb
   exact⟨_,h,fun u hu=>hu.1 hb⟩
  ·rename_i hb
   exact⟨_,h,fun u hu=>hu.2 (by simp_all)⟩
 grind
def UH(P:Program)(own:List (Nat×Ent))(t:TypeId)(s:SV)(K:SV->List Nat->Option R):Option R :=
 match s with
  | .pb i o=>match get own i with
   | some (.box _ cs)=>match MX P t o cs with
    | some y=>MZ y fun y=>K y [i]
    | none=>none
   | some (.row t0 _ xs)=>match sN P t with
    | some (m,_,n)=>if t0.size=n∧o=0 then need (eqi (xs.length:Int) (m:Int)) (match tyc P t with
     | some (.ar m' t1)=>if m'=m then (match ji (.sl t0) (.sl t1) xs with
      | some ys=>K (.d (.ar m' t1) ys) [i]
      | none=>none) else none
     | _=>none) else none
    | none=>none
   | _=>none
  | .pe t0 x=>match tyc P t with
   | some fy=>match ji t0 fy x with
    | some y=>K (.d fy y) []
    | none=>none
   | none=>none
  | .prw i j sz o=>match get own i,tyc P t with
   | some (.row t0 _ xs),some fy=>if sz=t0.size then (at? xs j).bind fun y=>match prj t0 o fy y with
    | some z=>K (.d fy z) [i]
    | none=>none
    else none
   | _,_=>none
  | .pra i j sz o m ft k o2=>match get own i,tyc P t with
   | some (.row t0 _ xs),some fy=>if sz=t0.size then (at? xs j).bind fun y=>match prj t0 o (.ar m ft) y with
    | some ys=>(at? (show List (Vl ft) from ys) k).bind fun z=>match prj ft o2 fy z with
     | some v=>K (.d fy v) [i]
     | none=>none
    | none=>none
    else none
   | _,_=>none
  | _=>none
theorem iF{i:Nat}{p:Place}(h:pl[i]? = some p):plb pl i=blk p.a:=by simp_all[plb]
theorem aeQ{own:List (Nat×Ent)}(he:EntsD pl L w own){t:TypeId}{x:Operand}{s:SV}{K:SV->List Nat->Option R}{r:R}(h:UH P own t s K=some r)(hx:Den pl L w s (ev l x)) :
  ∃s' rd,K s' rd=some r∧Yv P pl L w l ⟨d,.load t x,ty,pos,af,g⟩ s' rd:=by
 unfold UH at h;split at h
 ·rename_i i o
  split at h
  ·rename_i T cs hg
   split at h
   ·rename_i y hc
    obtain⟨a,n,c,h1,h2⟩:=hx;obtain⟨a',n',c',us,h3,h4,h5,h6⟩:=he.get hg;rw[h1]at h3;cases h3;obtain⟨ag,sz,h7,h8,h9⟩:=Ie hc h5 h6;obtain⟨y',h,h10⟩:=acQ (pl:=pl) (L:=L) (w:=w) h;refine⟨_,_,h,_,h10 _ h9,fun w' hF hrd=>?_⟩;have hb:Bx w' a us T:=by unfold Bx;rw[hrd i (by simp) a (by rw[iF h1];rfl)];exact h4
    refine ru h2 ?_
    exact EB (P:=P) (w:=w') (b:=a) (o:=o) (cs:=(us.drop o).take sz) h7 (by grind) (fun j v hj=>by
     refine hb.cell ?_
     grind)
   grind
  ·rename_i t0 e0 xs hg
   split at h
   ·rename_i m e n har
    split at h
    ·rename_i hc
     obtain⟨hsz,rfl⟩:=hc;obtain⟨hm,hq⟩:=iZ h;clear h;have hm:(xs.length:Int)=(m:Int):=by simp_all[eqi]
     split at hq
     ·rename_i m' t1 hty
      split at hq
      ·rename_i hmm
       subst hmm;split at hq
       ·rename_i ys hys
        obtain⟨e1,hys⟩:=qC hys;cases e1;subst hys;obtain⟨g',n',c',h1,h2⟩:=hx;obtain⟨p',h3,h4⟩:=he.get hg;rw[h1]at h3;cases h3;obtain⟨hn,cells,h5,h6⟩:=h4;have hxl:xs.length=m':=by omega
        refine⟨_,_,hq,.agg cells.toArray,⟨cells,⟨hxl,h6⟩,by rfl⟩,fun w' hF hrd=>ru h2 ?_⟩;have hty':=oH hty
        have:=qo (P:=P) (w:=w') (b:=g') (o:=0) (cs:=cells) hty' (by rw[h6.len,jc,jc];show _=m'*t0.size;rw[hxl]) (fun j v hj=>by
         rw[World.cell?_of_block (w:=w) (hrd i (by simp) g' (by rw[iF h1];rfl))];have:=h5.cells (g:=g') rfl j v hj
         simp_all[Addr.add_lit'])
        simp_all[Rp.val,iQ,Ty.agg]
       grind
      grind
     grind
    grind
   grind
  grind
 ·split at h
  ·rename_i fy hy
   have hty:=oH hy;split at h
   ·rename_i hc
    obtain⟨b,o,h1,h2⟩:=hx;obtain⟨e,hc⟩:=qC hc;subst e;subst hc;obtain⟨cs,h3,h4⟩:=El.load hty h2;exact⟨_,_,h,(rp _).val cs,⟨cs,h3,rfl⟩,fun w' hF _=>ru h1 (h4 w' L hF (fun k hk=>hk))⟩
   grind
  grind
 ·rename_i i j sz o
  split at h
  ·rename_i t0 e xs fy hg hy
   have hty:=oH hy;split at h
   ·rename_i hsz
    obtain⟨y,hy1,h⟩:=iD h;split at h
    ·rename_i z hp
     obtain⟨a,b0,n,c,h1,h2⟩:=hx;obtain⟨p,h3,h4⟩:=he.get hg;rw[h1]at h3;cases h3;obtain⟨h5,h6,h7⟩:=kJ hy1;obtain⟨_,hb0⟩:=h4.addr h7;cases hb0;obtain⟨cs,h8,h9⟩:=uF h4 h6;obtain⟨pre,c1,post,rfl,h10,h11⟩:=oL hp h8;refine⟨_,_,h,(rp _).val c1,⟨c1,h11,rfl⟩,fun w' hF hrd=>ru h2 ?_⟩;refine qo hty ((rp _).len h11) (fun k v hk=>?_);rw[World.cell?_of_block (w:=w) (hrd i (by simp) a (by rw[iF h1];rfl))];grind[List.append_assoc,List.getElem?_append_right,Nat.add_sub_cancel_left,List.getElem?_append_left,zW,jc,Nat.add_assoc]
    grind
   grind
  grind
 ·rename_i i j sz o m ft q o2
  split at h
  ·rename_i t0 e xs fy hg hy
   have hty:=oH hy;split at h
   ·rename_i hsz
    obtain⟨y,hy1,h⟩:=iD h;split at h
    ·rename_i ys hp
     obtain⟨z,hz1,h⟩:=iD h;split at h
     ·rename_i v hp2
      obtain⟨a,b0,n,c,h1,h2⟩:=hx;obtain⟨p,h3,h4⟩:=he.get hg;rw[h1]at h3;cases h3;obtain⟨h5,h6,h7⟩:=kJ hy1;obtain⟨_,hb0⟩:=h4.addr h7;cases hb0;obtain⟨_,hz6,_⟩:=kJ hz1;obtain⟨cs,h8,h9⟩:=uF h4 h6;obtain⟨pre,c1,post,rfl,h10,h11⟩:=atg hp hz6 hp2 h8;refine⟨_,_,h,(rp _).val c1,⟨c1,h11,rfl⟩,fun w' hF hrd=>ru h2 ?_⟩;refine qo hty ((rp _).len h11) (fun k v hk=>?_);rw[World.cell?_of_block (w:=w) (hrd i (by simp) a (by rw[iF h1];rfl))];have:=h9 (o+q.toNat*ft.size+o2+k) v (by grind);simp_all[jc,Nat.add_assoc]
     grind
    grind
   grind
  grind
 grind
def lX(P:Program)(t:TypeId):Option (TypeId×Nat):=match P.underlying t with
 | some (.slice e)=>(jX P e).map fun n=>(e,n)
 | _=>none
theorem jD{t e:TypeId}{n:Nat}(h:lX P t=some (e,n)):P.underlying t=some (.slice e)∧jX P e=some n:=by grind[lX,zS]
theorem RowV.some{a:Addr}{n c:Nat}{u:Value}(h:RowV ⟨some a,n,c⟩ u):u = .slice (some a) n c:=by
 rcases h with h | ⟨h,_⟩
 ·exact h
 grind
theorem nW{t e:TypeId}{x y:Operand}{b o m n:Nat}{k:IntKind}{j:Int}(h1:P.underlying t=some (.array m e))(h2:jX P e=some n)(hx:ev l x = .pointer (some ⟨b,o,none⟩))(hy:ev l y = .int k j)(h3:0≤j)(h4:j<m) :
  (execOp (ev l) ⟨d,.indexAddr t x y,ty,pos,af,g⟩).run P w = .ok (.value (.pointer (some ⟨b,o+j.toNat*n,none⟩))) w:=by
 have hi:(Instr.indexAt t (ev l x) (ev l y)).run P w = .ok (.pointer (some ⟨b,o+j.toNat*n,none⟩)) w:=by unfold Instr.indexAt;rw[hx,hy];simp only[asIntOf,Sem.run_bind,Sem.run_pure,zL,run_underlying h1,Instr.sureAddr,mH h2,Addr.add_lit'];rw[if_pos ⟨h3,h4⟩];simp only[Sem.run_bind,mH h2,zL,Sem.run_pure,Addr.add_lit']
 simp_all[execOp,Sem.run_bind,zL,Sem.run_pure]
def ixC(j:Int)(K:Nat->Option R):Nat->Option R
 | 0=>none
 | m+1=>if eqi j (m:Int)=true then K m else ixC j K m
theorem M0{j:Int}{K:Nat->Option R}{r:R}:∀{m:Nat},ixC j K m=some r->∃i,i<m∧j=(i:Int)∧K i=some r
 | 0,h=>by cases h
 | m+1,h=>by
  unfold ixC at h;split at h
  ·rename_i e
   exact⟨m,by omega,by simpa [eqi]using e,h⟩
  ·obtain⟨i,h1,h2⟩:=M0 h
   exact⟨i,by omega,h2⟩
def zo(P:Program)(own:List (Nat×Ent))(t:TypeId)(s i:SV)(K:SV->List Nat->Option R):Option R :=
 match i with
 | .d (.int _) j=>match lX P t with
  | some (_,n)=>match nz s with
   | .d (.sl t0) xs=>if t0.size=n then (at? xs j).bind fun y=>K (.pe t0 y) [] else none
   | .rowz i=>match get own i with
    | some (.row t0 _ xs)=>if t0.size=n then (at? xs j).bind fun _=>K (.prw i j t0.size 0) [] else none
    | _=>none
   | .sub i sz lo m=>match get own i with
    | some (.row t0 _ xs)=>if t0.size=n∧sz=n then need (ge j 0) (need (lt j m) ((at? xs (lo+j)).bind fun _=>K (.prw i (lo+j) t0.size 0) [])) else none
    | _=>none
   | _=>none
  | none=>match sN P t with
   | some (m,_,n)=>match s with
    | .pb i o=>match get own i with
     | some (.row t0 _ xs)=>if t0.size=n∧o=0 then need (lt j m) ((at? xs j).bind fun _=>K (.prw i j t0.size 0) []) else none
     | some (.box _ _)=>ixC j (fun q=>K (.pb i (o+q*n)) []) m
     | _=>none
    | .prw i' j' sz o=>match tyc P t with
     | some (.ar m' ft)=>if ft.size=n∧m'=m then need (ge j 0) (need (lt j m) (K (.pra i' j' sz o m ft j 0) [])) else none
     | _=>none
    | .pe (.ar m' t0) ys=>if t0.size=n∧m'=m then (at? (show List (Vl t0) from ys) j).bind fun y=>K (.pe t0 y) [] else none
    | _=>none
   | none=>none
 | _=>none
theorem LZ{own:List (Nat×Ent)}(he:EntsD pl L w own){t:TypeId}{x y:Operand}{s i:SV}{K:SV->List Nat->Option R}{r:R}(h:zo P own t s i K=some r)(hx:Den pl L w s (ev l x))(hi:Den pl L w i (ev l y)) :
  ∃s' rd,K s' rd=some r∧Yv P pl L w l ⟨d,.indexAddr t x y,ty,pos,af,g⟩ s' rd:=by
 have hx0:=hx
 replace hx:=yL hx
 unfold zo at h;split at h
 ·rename_i k j
  have hi:=jC hi;split at h
  ·rename_i e n hel
   obtain⟨h1,h2⟩:=jD hel;clear hx0;generalize nz s=s at h hx;split at h
   ·rename_i t0 xs
    split at h
    ·rename_i hsz
     obtain⟨z,hz,h⟩:=iD h;obtain⟨h3,h4,h5⟩:=kJ hz;have hr:=uE hx;have hr0:=hr;obtain⟨a,c,hsh,_⟩:=hr0;simp at hsh;rw[hsh]at hr;obtain⟨b,o,rfl,h6⟩:=EM hr h4;refine⟨_,_,h,Yv.of (v:=.pointer (some ⟨b,o+j.toNat*n,none⟩)) ⟨b,_,rfl,by simp_all[jc]⟩ (fun w'=>qL h1 h2 hsh hi h3 h5)⟩
    grind
   ·rename_i i
    split at h
    ·rename_i t0 e' xs hg
     split at h
     ·rename_i hsz
      obtain⟨z,hz,h⟩:=iD h;obtain⟨h3,h4,h5⟩:=kJ hz;obtain⟨p,h6,h7⟩:=hx;obtain⟨p',h8,h9⟩:=he.get hg;rw[h6]at h8;cases h8;obtain⟨a,ha⟩:=h9.addr h5;obtain⟨pa,pn,pc⟩:=p;simp only at ha h7 h9;subst ha;have h7:=h7.some;refine⟨_,_,h,Yv.of (v:=.pointer (some ⟨a,0+j.toNat*n,none⟩)) ⟨a,0,pn,pc,h6,by simp_all⟩ (fun w'=>qL h1 h2 h7 hi h3 (by rw[h9.len];exact h5))⟩
     grind
    grind
   ·rename_i i sz lo m
    split at h
    ·rename_i t0 e' xs hg
     split at h
     ·rename_i hsz
      obtain⟨hsz,rfl⟩:=hsz;obtain⟨hj0,h⟩:=iZ h;obtain⟨hjm,h⟩:=iZ h;obtain⟨z,hz,h⟩:=iD h;have hj0:(0:Int)≤j:=of_decide_eq_true hj0;have hjm:(j:Int)<(m:Int):=of_decide_eq_true hjm;obtain⟨h3,h4,h5⟩:=kJ hz;obtain⟨p,a,c,h6,q1,q2,q3,hu,q5,q6⟩:=hx;obtain⟨p',h8,h9⟩:=he.get hg;rw[h6]at h8;cases h8;have aux:∀lo j m:Int,0≤lo->0≤j->j<m->m≠0∧j.toNat<m.toNat∧(lo+j).toNat=lo.toNat+j.toNat:=by omega
      obtain⟨aux1,aux2,hnat⟩:=aux lo j m q1 hj0 hjm;obtain⟨_,g',o',q7,rfl⟩:=q6.1 (by omega);obtain⟨pa,pn,pc⟩:=p;simp only at q7;subst q7;refine⟨_,_,h,Yv.of (v:=.pointer (some ⟨g',o'+lo.toNat*sz+j.toNat*sz,none⟩)) ⟨g',o',pn,pc,h6,by grind⟩ (fun w'=>qL h1 h2 hu hi hj0 aux2)⟩
     grind
    grind
   grind
  ·split at h
   ·rename_i m e n har
    obtain⟨h1,h2⟩:=sO har;split at h
    ·rename_i i o
     split at h
     ·rename_i t0 e' xs hg
      split at h
      ·rename_i hc
       obtain⟨hsz,rfl⟩:=hc;obtain⟨hjm,h⟩:=iZ h;obtain⟨z,hz,h⟩:=iD h;obtain⟨h3,h4,h5⟩:=kJ hz;obtain⟨g',n',c',h6,hu⟩:=hx0;exact⟨_,_,h,Yv.of (v:=.pointer (some ⟨g',0+j.toNat*n,none⟩)) ⟨g',0,n',c',h6,by simp_all⟩ (fun w'=>nW h1 h2 hu hi h3 (of_decide_eq_true hjm))⟩
      grind
     ·obtain⟨q,h3,rfl,hq⟩:=M0 h
      obtain⟨g',n',c',h6,hu⟩:=hx0;exact⟨_,_,hq,Yv.of (v:=.pointer (some ⟨g',o+q*n,none⟩)) ⟨g',n',c',h6,rfl⟩ (fun w'=>by simpa using nW h1 h2 hu hi (by omega) (by omega))⟩
     grind
    ·rename_i i' j' sz o
     split at h
     ·rename_i m' ft hty
      split at h
      ·rename_i hc
       obtain⟨hfs,rfl⟩:=hc;obtain⟨hj0,h⟩:=iZ h;obtain⟨hjm,h⟩:=iZ h;obtain⟨g',b',n',c',h6,hu⟩:=hx0;exact⟨_,_,h,Yv.of (v:=.pointer (some ⟨g',_,none⟩)) ⟨g',b',n',c',h6,by simp_all⟩ (fun w'=>nW h1 h2 hu hi (of_decide_eq_true hj0) (of_decide_eq_true hjm))⟩
      grind
     grind
    ·rename_i m' t0 ys
     split at h
     ·rename_i hc
      obtain⟨hsz,rfl⟩:=hc;obtain⟨z,hz,h⟩:=iD h;obtain⟨h3,h4,h5⟩:=kJ hz;obtain⟨b,o,hu,hb,hbL,cs,⟨hlen,hrow⟩,hcl⟩:=hx0;obtain⟨p2,c2,q2,e2,e3,r2,_⟩:=hrow.at h4;have hjm:j<(m':Int):=(Int.toNat_lt h3).1 (Nat.lt_of_lt_of_eq h5 hlen);refine⟨_,_,h,Yv.of (v:=.pointer (some ⟨b,o+j.toNat*n,none⟩)) ⟨b,_,rfl,hb,hbL,c2,r2,fun q v hq=>?_⟩ (fun w'=>nW h1 h2 hu hi h3 hjm)⟩;have:=hcl (p2.length+q) v (by grind);simp_all[jc,Nat.add_assoc]
     grind
    grind
   grind
 grind
end
end Ev
end
noncomputable section
namespace Ev
open Go Go.RowKit Sx
section
variable {pl:List Place}{L:Lx}{w w':World}{l:List Value}{P:Program}{S:St}{d:Option Tmp}{ty:TypeId}{pos:String}{af:Array Edge}{g:Option (Nat×Bool)}{R:Type}
def oM(l:List Value)(x:Option Operand)(i z:Int):Prop:=(x=none∧i=z)∨∃o k,x=some o∧ev l o = .int k i
theorem M3{α:Type}{R:Rp α}{t e:TypeId}{x:Operand}{lo hi:Option Operand}{a:Option Addr}{n c:Nat}{xs y:List α}{i j:Int}(ht:P.underlying t=some (.slice e))(hs:jX P e=some R.size)
  (hx:ev l x = .slice a n c) (hr:(Rp.slice R).rel L w [.slice a n c] xs) (hlo:oM l lo i 0) (hhi:oM l hi j xs.length) (h:cut xs i j=some y) :
  ∃a' c',(Rp.slice R).rel L w [.slice a' y.length c'] y∧∀w',(execOp (ev l) ⟨d,.slice t x lo hi none,ty,pos,af,g⟩).run P w' = .ok (.value (.slice a' y.length c')) w':=by
 obtain⟨h0,h1,h2,hy⟩:=sM h;obtain⟨a0,c0,e1,hcap,h3⟩:=hr;simp at e1;obtain⟨rfl,rfl,rfl⟩:=e1;obtain⟨i,rfl⟩:=zN h0;obtain⟨j,rfl⟩:=zN (Int.le_trans h0 h1);have hij:i≤j:=by omega
 have hj:j≤xs.length:=by omega
 simp only[zQ]at hy;have hyl:y.length=j - i:=by simp_all
 refine⟨if c=i then a else a.map (·.add (i*R.size)),c - i,⟨_,c - i,rfl,by omega,fun hne=>?_⟩,fun w'=>?_⟩
 ·have hlt:i<j:=by simp_all
  obtain⟨b,o,rfl,h4⟩:=h3 (by grind);rw[if_neg (by omega)];grind[Addr.add_lit',zW,kB,List.getElem?_take_of_lt,Nat.add_mul,Nat.add_assoc]
 ·have hb:(Instr.sliceBounds true xs.length c (lo.map (ev l)) (hi.map (ev l)) none).run P w' = .ok (i,j,c) w':=by
   unfold Instr.sliceBounds;rcases hhi with ⟨rfl,e2⟩ | ⟨oh,kh,rfl,e2⟩
   ·have e2:j=xs.length:=by omega
    subst e2;rcases hlo with ⟨rfl,e3⟩ | ⟨ol,kl,rfl,e3⟩
    ·simp_all
    simp_all[Instr.sliceBound,asIntOf]
   ·rcases hlo with ⟨rfl,e3⟩ | ⟨ol,kl,rfl,e3⟩
    ·have e3:i=0:=by omega
     subst e3;simp[Instr.sliceBound,asIntOf,e2];omega
    ·have hjc:(j:Int)≤c:=by omega
     simp_all[Int,Instr.sliceBound,asIntOf,if_pos]
  have hsl:(Instr.sliceAt t (ev l x) (lo.map (ev l)) (hi.map (ev l)) ((none:Option Operand).map (ev l))).run P w' = .ok (.slice (if c=i then a else a.map (·.add (i*R.size))) (j - i) (c - i)) w':=by unfold Instr.sliceAt;simp only[Sem.run_bind,run_underlying ht,zL];unfold Instr.slice;simp only[Sem.run_bind,run_underlying ht,zL,hx,Option.map_none,hb,mH hs,Sem.run_pure]
  simp_all[execOp,Sem.run_bind,zL,Sem.run_pure]
theorem uN{t e:TypeId}{sz:Nat}{x:Operand}{lo hi:Option Operand}{a:Option Addr}{n c:Nat}{i j:Int}(ht:P.underlying t=some (.slice e))(hs:jX P e=some sz)
  (hx:ev l x = .slice a n c) (hlo:oM l lo i 0) (hhi:oM l hi j n) (h0:0≤i) (h1:i≤j) (h2:j≤n) (hc:n≤c) :
  ∀w',(execOp (ev l) ⟨d,.slice t x lo hi none,ty,pos,af,g⟩).run P w' = .ok (.value (.slice (if c=i.toNat then a else a.map (·.add (i.toNat*sz))) (j - i).toNat (c - i.toNat))) w':=by
 intro w';obtain⟨i,rfl⟩:=zN h0;obtain⟨j,rfl⟩:=zN (Int.le_trans h0 h1);have hij:i≤j:=by omega
 have hj:j≤n:=by omega
 have hb:(Instr.sliceBounds true n c (lo.map (ev l)) (hi.map (ev l)) none).run P w' = .ok (i,j,c) w':=by
  unfold Instr.sliceBounds;rcases hhi with ⟨rfl,e2⟩ | ⟨oh,kh,rfl,e2⟩
  ·have e2:j=n:=by omega
   subst e2;rcases hlo with ⟨rfl,e3⟩ | ⟨ol,kl,rfl,e3⟩
   ·simp_all
   simp_all[Instr.sliceBound,asIntOf]
  ·rcases hlo with ⟨rfl,e3⟩ | ⟨ol,kl,rfl,e3⟩
   ·have e3:i=0:=by omega
    subst e3;simp[Instr.sliceBound,asIntOf,e2];omega
   ·have hjc:(j:Int)≤c:=by omega
    simp_all[Int,Instr.sliceBound,asIntOf,if_pos]
 have hsl:(Instr.sliceAt t (ev l x) (lo.map (ev l)) (hi.map (ev l)) ((none:Option Operand).map (ev l))).run P w' = .ok (.slice (if c=i then a else a.map (·.add (i*sz))) (j - i) (c - i)) w':=by unfold Instr.sliceAt;simp only[Sem.run_bind,run_underlying ht,zL];unfold Instr.slice;simp only[Sem.run_bind,run_underlying ht,zL,hx,Option.map_none,hb,mH hs,Sem.run_pure]
 simp_all[Int,zQ,execOp,Sem.run_bind,zL,Sem.run_pure]
theorem Bp{t e:TypeId}{sz m:Nat}{x:Operand}{lo hi:Option Operand}{b o:Nat}{i j:Int}(ht:P.underlying t=some (.array m e))(hs:jX P e=some sz)
  (hx:ev l x = .pointer (some ⟨b,o,none⟩)) (hlo:oM l lo i 0) (hhi:oM l hi j m) (h0:0≤i) (h1:i≤j) (h2:j≤m) :
  ∀w',(execOp (ev l) ⟨d,.slice t x lo hi none,ty,pos,af,g⟩).run P w' = .ok (.value (.slice (some (if m=i.toNat then ⟨b,o,none⟩ else ⟨b,o+i.toNat*sz,none⟩)) (j - i).toNat (m - i.toNat))) w':=by
 intro w';obtain⟨i,rfl⟩:=zN h0;obtain⟨j,rfl⟩:=zN (Int.le_trans h0 h1);have hij:i≤j:=by omega
 have hj:j≤m:=by omega
 have hb:(Instr.sliceBounds false m m (lo.map (ev l)) (hi.map (ev l)) none).run P w' = .ok (i,j,m) w':=by
  unfold Instr.sliceBounds;rcases hhi with ⟨rfl,e2⟩ | ⟨oh,kh,rfl,e2⟩
  ·have e2:j=m:=by omega
   subst e2;rcases hlo with ⟨rfl,e3⟩ | ⟨ol,kl,rfl,e3⟩
   ·simp_all
   simp_all[Instr.sliceBound,asIntOf]
  ·rcases hlo with ⟨rfl,e3⟩ | ⟨ol,kl,rfl,e3⟩
   ·simp_all[Instr.sliceBound,asIntOf]
   simp_all[Int,Instr.sliceBound,asIntOf,if_pos]
 have hsl:(Instr.sliceAt t (ev l x) (lo.map (ev l)) (hi.map (ev l)) ((none:Option Operand).map (ev l))).run P w' = .ok (.slice (some (if m=i then ⟨b,o,none⟩ else ⟨b,o+i*sz,none⟩)) (j - i) (m - i)) w':=by unfold Instr.sliceAt;simp only[Sem.run_bind,run_underlying ht,zL,hx,Instr.sureAddr,Sem.run_pure,Option.map_none,hb,mH hs,Addr.add_lit']
 simp_all[Int,zQ,execOp,Sem.run_bind,zL,Sem.run_pure]
def jQ(S:St)(x:Option Operand)(z:Int):Option Int:=match x with
 | none=>some z
 | some o=>match opv S o with
  | some (.d (.int _) i)=>some i
  | _=>none
theorem mI(hf:FrD pl L w S.fr l){x:Option Operand}{i z:Int}(h:jQ S x z=some i):oM l x i z:=by
 unfold jQ at h;split at h
 ·cases h;exact .inl ⟨rfl,rfl⟩
 ·split at h
  ·rename_i o k n ho
   cases h
   exact .inr ⟨_,_,rfl,jC (gz hf ho)⟩
  grind
theorem L5{t:TypeId}{x:Operand}{lo hi:Option Operand}{s y:List UInt8}{i j:Int}(ht:P.underlying t=some .string)
  (hx:ev l x = .string ⟨⟨s⟩⟩) (hlo:oM l lo i 0) (hhi:oM l hi j s.length) (h:cut s i j=some y) :
  ∀w',(execOp (ev l) ⟨d,.slice t x lo hi none,ty,pos,af,g⟩).run P w' = .ok (.value (.string ⟨⟨y⟩⟩)) w':=by
 intro w';rcases hlo with ⟨rfl,e1⟩ | ⟨ol,kl,rfl,e1⟩
 ·subst e1
  rcases hhi with ⟨rfl,e2⟩ | ⟨oh,kh,rfl,e2⟩
  ·subst e2
   obtain⟨h0,h1,h2,rfl⟩:=sM h;have e:(⟨⟨s⟩⟩:ByteArray).size=s.length:=rfl;simp[execOp,Instr.sliceAt,hx,run_underlying ht,Instr.slice,Instr.sliceBounds,e,uh]
  ·exact Gr ht hx e2 h
 ·rcases hhi with ⟨rfl,e2⟩ | ⟨oh,kh,rfl,e2⟩
  ·subst e2
   exact Gq ht hx e1 h
  ·exact EN ht hx e1 e2 h
def prt{α:Type}(xs:List α)(lo n:Int):List α:=(xs.drop lo.toNat).take n.toNat
def M4(P:Program)(S:St)(t:TypeId)(s:SV)(lo hi:Option Operand)(K:SV->List Nat->Option R):Option R :=
 match nz s with
 | .d .str b=>if isStr P t then match jQ S lo 0,jQ S hi b.length with
  | some i,some j=>(cut b i j).bind fun y=>K (.d .str y) []
  | _,_=>none else none
 | .d (.sl t0) xs=>match lX P t with
  | some (_,n)=>if t0.size=n then match jQ S lo 0,jQ S hi xs.length with
   | some i,some j=>(cut xs i j).bind fun y=>K (.d (.sl t0) y) []
   | _,_=>none else none
  | none=>none
 | .rowz q=>match lX P t,get S.own q with
  | some (_,n),some (.row t0 _ xs)=>if t0.size=n then match jQ S lo 0,jQ S hi xs.length with
   | some i,some j=>need (ge i 0) (need (le i j) (need (le j xs.length) (K (.sub q n i (j - i)) [])))
   | _,_=>none else none
  | _,_=>none
 | .sub q sz lo0 m=>match lX P t with
  | some (_,n)=>if sz=n then match jQ S lo 0,jQ S hi m with
   | some i,some j=>need (ge i 0) (need (le i j) (need (le j m) (K (.sub q n (lo0+i) (j - i)) [])))
   | _,_=>none else none
  | none=>none
 | .pb q o=>match sN P t,get S.own q with
  | some (m,_,n),some (.row t0 _ xs)=>if t0.size=n∧o=0 then match jQ S lo 0,jQ S hi m with
   | some i,some j=>need (ge i 0) (need (le i j) (need (le j m) (need (le m xs.length) (K (.sub q n i (j - i)) []))))
   | _,_=>none else none
  | _,_=>none
 | .pe (.ar m' t0) ys=>match sN P t with
  | some (m,_,n)=>if t0.size=n∧m'=m then match jQ S lo 0,jQ S hi m with
   | some i,some j=>need (ge i 0) (need (le i j) (need (le j m) (K (.d (.sl t0) (prt (show List (Vl t0) from ys) i (j - i))) [])))
   | _,_=>none else none
  | none=>none
 | _=>none
theorem Dy{p:Place}{q sz:Nat}{i j lo0 m:Int}{a:Option Addr}{c:Nat}(hp:pl[q]? = some p)(h0:0≤i)(h1:i≤j)(h2:j≤m)(hl:0≤lo0)(hm:lo0+m≤p.n)(hc:m.toNat≤c)(ha:(c≠0->lo0.toNat+c≤p.c∧∃g o,p.a=some ⟨g,o,none⟩∧a=some ⟨g,o+lo0.toNat*sz,none⟩)∧(p.c≠0->blk a=blk p.a)) :
  Den pl L w (.sub q sz (lo0+i) (j - i)) (.slice (if c=i.toNat then a else a.map (·.add (i.toNat*sz))) (j - i).toNat (c - i.toNat)):=by
 refine⟨p,_,_,hp,by omega,by omega,by omega,rfl,by omega,fun hne=>?_,fun hne=>?_⟩
 ·obtain⟨h5,g,o,h3,h4⟩:=ha.1 (by omega)
  refine⟨by omega,g,o,h3,?_⟩;rw[if_neg (by omega),h4];simp only[Option.map_some,Addr.add_lit']
  congr 2
  rw[show (lo0+i).toNat=lo0.toNat+i.toNat by omega,Nat.add_mul,Nat.add_assoc]
 ·rw[<- ha.2 hne]
  split
  ·rfl
  ·cases a with
   | none=>rfl
   | some b=>simp[blk,Addr.add];split<;>rfl
theorem acR(hf:FrD pl L w S.fr l)(he:EntsD pl L w S.own){t:TypeId}{x:Operand}{s:SV}{lo hi:Option Operand}{K:SV->List Nat->Option R}{r:R}(h:M4 P S t s lo hi K=some r)(hx:Den pl L w s (ev l x)) :
  ∃s' rd,K s' rd=some r∧Yv P pl L w l ⟨d,.slice t x lo hi none,ty,pos,af,g⟩ s' rd:=by
 replace hx:=yL hx
 unfold M4 at h;generalize nz s=s at h hx;split at h
 ·split at h
  ·rename_i ht
   split at h
   ·rename_i i j hi' hj'
    obtain⟨y,hy,h⟩:=iD h;exact⟨_,_,h,Yv.of (Dx _) (L5 (kT ht) (qm hx) (mI hf hi') (mI hf hj') hy)⟩
   grind
  grind
 ·split at h
  ·rename_i e n hel
   obtain⟨h1,h2⟩:=jD hel;split at h
   ·rename_i hsz
    split at h
    ·rename_i i j hi' hj'
     obtain⟨y,hy,h⟩:=iD h;have hr:=uE hx;have hr0:=hr;obtain⟨a,c,hsh,_⟩:=hr0;simp at hsh;rw[hsh]at hr;obtain⟨a',c',h3,h4⟩:=M3 (d:=d) (ty:=ty) (pos:=pos) (af:=af) (g:=g) h1 (by simp_all[jc]) hsh hr (mI hf hi') (mI hf hj') hy;exact⟨_,_,h,Yv.of (zl (t:=.sl _) rfl h3) h4⟩
    grind
   grind
  grind
 ·rename_i q
  split at h
  ·rename_i e n t0 e0 xs hel hg
   obtain⟨h1,h2⟩:=jD hel;split at h
   ·rename_i hsz
    split at h
    ·rename_i i j hi' hj'
     obtain⟨k1,h⟩:=iZ h;obtain⟨k2,h⟩:=iZ h;obtain⟨k3,h⟩:=iZ h;have k1:0≤i:=of_decide_eq_true k1;have k2:i≤j:=of_decide_eq_true k2;have k3:j≤(xs.length:Int):=of_decide_eq_true k3;obtain⟨p,h3,h4⟩:=hx;obtain⟨p',h5,h6⟩:=he.get hg;rw[h3]at h5;cases h5;have hlen:=h6.len;have hcap:=h6.2.cap_le
     have hsh:∃a,ev l x = .slice a p.n p.c∧((p.c≠0->(0:Int).toNat+p.c≤p.c∧∃g o,p.a=some ⟨g,o,none⟩∧a=some ⟨g,o+(0:Int).toNat*n,none⟩)∧(p.c≠0->blk a=blk p.a)):=by
      rcases h4 with h4 | ⟨q1,q2,q3,a,h4⟩
      ·exact⟨p.a,h4,fun hne=>by
        obtain⟨g,hg⟩:=h6.2.addr_cap hne
        exact⟨by simp,g,0,hg,by simp[hg]⟩,fun _=>rfl⟩
      ·exact⟨a,by simp_all,fun hne=>absurd q3 hne,fun hne=>absurd q3 hne⟩
     obtain⟨a,hu,ha⟩:=hsh;have hrun:=uN (P:=P) (d:=d) (ty:=ty) (pos:=pos) (af:=af) (g:=g) h1 h2 hu (mI hf hi') (by rw[hlen];exact mI hf hj') k1 k2 (by omega) (by omega);refine⟨_,_,h,Yv.of ?_ hrun⟩;have:=Dy (L:=L) (w:=w) (sz:=n) (lo0:=0) (m:=xs.length) (a:=a) (c:=p.c) h3 k1 k2 k3 (by omega) (by omega) (by omega) ha;simp_all
    grind
   grind
  grind
 ·rename_i q sz lo0 m
  split at h
  ·rename_i e n hel
   obtain⟨h1,h2⟩:=jD hel;split at h
   ·rename_i hsz
    subst hsz;split at h
    ·rename_i i j hi' hj'
     obtain⟨k1,h⟩:=iZ h;obtain⟨k2,h⟩:=iZ h;obtain⟨k3,h⟩:=iZ h;have k1:0≤i:=of_decide_eq_true k1;have k2:i≤j:=of_decide_eq_true k2;have k3:j≤m:=of_decide_eq_true k3;obtain⟨p,a,c,h3,q1,q2,q3,hu,q5,q6⟩:=hx;have hrun:=uN (P:=P) (d:=d) (ty:=ty) (pos:=pos) (af:=af) (g:=g) h1 h2 hu (mI hf hi') (by rw[Int.toNat_of_nonneg q2];exact mI hf hj') k1 k2 (by omega) q5;exact⟨_,_,h,Yv.of (Dy h3 k1 k2 k3 q1 q3 q5 q6) hrun⟩
    grind
   grind
  grind
 ·rename_i q o
  split at h
  ·rename_i m e n t0 e0 xs har hg
   obtain⟨h1,h2⟩:=sO har;split at h
   ·rename_i hsz
    obtain⟨hsz,rfl⟩:=hsz;split at h
    ·rename_i i j hi' hj'
     obtain⟨k1,h⟩:=iZ h;obtain⟨k2,h⟩:=iZ h;obtain⟨k3,h⟩:=iZ h;obtain⟨k4,h⟩:=iZ h;have k1:0≤i:=of_decide_eq_true k1;have k2:i≤j:=of_decide_eq_true k2;have k3:j≤(m:Int):=of_decide_eq_true k3;have k4:(m:Int)≤(xs.length:Int):=of_decide_eq_true k4;obtain⟨g',n',c',h3,hu⟩:=hx;obtain⟨p',h5,h6⟩:=he.get hg;rw[h3]at h5;cases h5;have hlen:=h6.len;have hrun:=Bp (P:=P) (d:=d) (ty:=ty) (pos:=pos) (af:=af) (g:=g) h1 h2 hu (mI hf hi') (mI hf hj') k1 k2 k3;have hcap:=h6.2.cap_le;have hlen:n'=xs.length:=hlen;have hcap:xs.length≤c':=hcap;have hmn:m≤n'∧m≤c':=by omega
     refine⟨_,_,h,Yv.of ?_ hrun⟩;have:=Dy (L:=L) (w:=w) (sz:=n) (lo0:=0) (m:=m) (a:=some ⟨g',0,none⟩) (c:=m) h3 k1 k2 k3 (Int.le_refl 0) (by show (0:Int)+m≤(n':Nat);omega) (by omega) ⟨fun _=>⟨by show (0:Int).toNat+m≤c';omega,g',0,rfl,by simp⟩,fun _=>rfl⟩;split<;>simp_all[Addr.add_lit']
    grind
   grind
  grind
 ·rename_i m' t0 ys
  split at h
  ·rename_i m e n har
   obtain⟨h1,h2⟩:=sO har;split at h
   ·rename_i hsz
    obtain⟨hsz,rfl⟩:=hsz;split at h
    ·rename_i i j hi' hj'
     obtain⟨k1,h⟩:=iZ h;obtain⟨k2,h⟩:=iZ h;obtain⟨k3,h⟩:=iZ h;have k1:0≤i:=of_decide_eq_true k1;have k2:i≤j:=of_decide_eq_true k2;have k3:j≤(m':Int):=of_decide_eq_true k3;obtain⟨b,o,hu,hb,hbL,cs,⟨hlen,hrow⟩,hc⟩:=hx;have hrun:=Bp (P:=P) (d:=d) (ty:=ty) (pos:=pos) (af:=af) (g:=g) h1 h2 hu (mI hf hi') (mI hf hj') k1 k2 k3;obtain⟨i,rfl⟩:=zN k1;obtain⟨j,rfl⟩:=zN (Int.le_trans k1 k2);have hle:i≤j:=by omega
     have hjm:j≤m':=by omega
     have e0:((j:Int) - i).toNat=j - i:=by omega
     have hpl:(prt (show List (Vl t0) from ys) (i:Int) ((j:Int) - i)).length=j - i:=by unfold prt;grind
     refine⟨_,_,h,Yv.of (zl (t:=.sl t0) rfl ⟨_,_,by rw[hpl,e0],?_,fun hne=>⟨b,o+i*n,?_,fun k y hk=>?_⟩⟩) hrun⟩
     ·omega
     ·have hij:j≠i:=fun e=>hne (List.eq_nil_of_length_eq_zero (by omega))
      grind
     ·unfold prt at hk
      rw[e0,zQ]at hk;have hkn:k<j - i:=by grind
      rw[List.getElem?_take_of_lt hkn,List.getElem?_drop]at hk;obtain⟨p2,c2,q2,e2,e3,r2,_⟩:=hrow.at hk;refine⟨hb,hbL,c2,r2,fun q v hq=>?_⟩;have:=hc (p2.length+q) v (by grind);grind[jc,Nat.add_mul]
    grind
   grind
  grind
 grind
def EP(P:Program)(t:TypeId):Bool:=match P.underlying t with
 | some (.slice _)=>true
 | _=>false
theorem yM{t:TypeId}(h:EP P t=true):∃e,P.underlying t=some (.slice e):=by grind[EP]
def aeR(P:Program)(own:List (Nat×Ent))(t:TypeId)(s:SV)(K:SV->List Nat->Option R):Option R :=
 match nz s with
 | .d .str b=>if isStr P t then K (.d (.int .i64) (b.length:Int)) [] else none
 | .d (.sl _) xs=>if EP P t then K (.d (.int .i64) (xs.length:Int)) [] else none
 | .rowz i=>if EP P t then match get own i with
  | some (.row _ _ xs)=>K (.d (.int .i64) (xs.length:Int)) []
  | _=>none else none
 | .k (.slice none 0 0)=>if EP P t then K (.d (.int .i64) 0) [] else none
 | .sub _ _ _ n=>if EP P t then K (.d (.int .i64) n) [] else none
 | _=>none
theorem arR{own:List (Nat×Ent)}(he:EntsD pl L w own){t:TypeId}{x:Operand}{s:SV}{K:SV->List Nat->Option R}{r:R}(h:aeR P own t s K=some r)(hx:Den pl L w s (ev l x)) :
  ∃s' rd,K s' rd=some r∧Yv P pl L w l ⟨d,.call { callee:=.builtin .len,args:=#[x],argTypes:=#[t] },ty,pos,af,g⟩ s' rd:=by
 replace hx:=yL hx
 unfold aeR at h;generalize nz s=s at h hx;split at h
 ·split at h
  ·rename_i ht
   exact⟨_,_,h,Yv.of (jA _ _) (fun w'=>SA (kT ht) (qm hx))⟩
  grind
 ·split at h
  ·rename_i ht
   obtain⟨e,ht⟩:=yM ht;have hr:=uE hx;obtain⟨a,c,hsh,_⟩:=hr;simp at hsh;exact⟨_,_,h,Yv.of (jA _ _) (fun w'=>qj ht hsh rfl)⟩
  grind
 ·split at h
  ·rename_i ht
   obtain⟨e,ht⟩:=yM ht;split at h
   ·rename_i t0 e' xs hg
    obtain⟨p,h6,h7⟩:=hx;obtain⟨p',h8,h9⟩:=he.get hg;rw[h6]at h8;cases h8;have hn:=h9.len;rcases h7 with h7 | ⟨_,q2,_,a,h7⟩
    ·exact⟨_,_,h,Yv.of (jA _ _) (fun w'=>qj ht h7 hn)⟩
    ·exact⟨_,_,h,Yv.of (jA _ _) (fun w'=>qj ht h7 (by omega))⟩
   grind
  grind
 ·split at h
  ·rename_i ht
   obtain⟨e,ht⟩:=yM ht;exact⟨_,_,h,Yv.of (jA _ _) (fun w'=>qj ht hx rfl)⟩
  grind
 ·split at h
  ·rename_i ht
   obtain⟨e,ht⟩:=yM ht;obtain⟨p,a,c,_,_,q2,_,hu,_,_⟩:=hx;refine⟨_,_,h,Yv.of (jA _ _) (fun w'=>?_)⟩;have:=qj (P:=P) (w:=w') (d:=d) (ty:=ty) (pos:=pos) (af:=af) (gd:=g) ht hu rfl;grind
  grind
 grind
def aeS(k:IntKind)(n:Int):Int:=iU k (if k.signed then -1 else k.max) n
theorem aeT{t:TypeId}{x:Operand}{k:IntKind}{a:Int}(hx:ev l x = .int k a) :
  (execOp (ev l) ⟨d,.unOp .xor t x,ty,pos,af,g⟩).run P w = .ok (.value (.int k (aeS k a))) w:=by simp[execOp,hx,Op.unary,Op.intBits,aeS,iU]
def qUn(op:UnOp)(s:SV)(K:SV->List Nat->Option R):Option R :=
 match op,s with
 | .not,.d .bool b=>K (.d .bool (!b)) []
 | .neg,.d (.int k) n=>K (.d (.int k) (neg k n)) []
 | .xor,.d (.int k) n=>K (.d (.int k) (aeS k n)) []
 | _,_=>none
theorem atn{op:UnOp}{t:TypeId}{x:Operand}{s:SV}{K:SV->List Nat->Option R}{r:R}(h:qUn op s K=some r)(hx:Den pl L w s (ev l x)) :
  ∃s' rd,K s' rd=some r∧Yv P pl L w l ⟨d,.unOp op t x,ty,pos,af,g⟩ s' rd:=by
 unfold qUn at h;split at h
 ·exact⟨_,_,h,Yv.of (nV _) (fun w'=>arF (mZ hx))⟩
 ·exact⟨_,_,h,Yv.of (jA _ _) (fun w'=>arG (jC hx))⟩
 ·exact⟨_,_,h,Yv.of (jA _ _) (fun w'=>aeT (jC hx))⟩
 grind
def yN(P:Program)(t:TypeId):Option TypeId:=match P.underlying t with
 | some (.slice e)=>match P.underlying e with
  | some (.int .u8)=>some e
  | _=>none
 | _=>none
theorem Bq{t e:TypeId}(h:yN P t=some e):P.underlying t=some (.slice e)∧P.underlying e=some (.int .u8):=by grind[yN]
def UI(P:Program)(t:TypeId):Bool:=match P.underlying t with
 | some .unsafePointer=>true
 | _=>false
def aoW(P:Program)(e:TypeId):Bool:=match P.info? e with
 | some j=>j.size != 0
 | none=>false
def L8(P:Program)(t:TypeId):Option TypeId:=match P.underlying t with
 | some (.pointer e)=>if aoW P e=true then some e else none
 | _=>none
theorem M5{t e:TypeId}(h:L8 P t=some e):P.underlying t=some (.pointer e)∧∃j,P.info? e=some j∧j.size≠0:=by grind[L8,aoW]
theorem Tf{t:TypeId}(h:UI P t=true):P.underlying t=some .unsafePointer:=by grind[UI]
def UJ(P:Program)(own:List (Nat×Ent))(t u:TypeId)(s:SV)(K:SV->List Nat->Option R):Option R :=
 match nz s with
 | .d (.int _) n=>match P.underlying t,P.underlying u with
  | some _,some (.int k')=>K (.d (.int k') (cvt k' n)) []
  | _,_=>none
 | .d .str b=>if isStr P t=true∧isStr P u=true then K (.d .str b) [] else none
 | .d (.sl (.int .u8)) xs=>match yN P t with
  | some _=>if isStr P u=true then K (.d .str (toS xs)) [] else none
  | none=>none
 | .rowz i=>match yN P t,get own i with
  | some _,some (.row (.int .u8) _ xs)=>if isStr P u=true then K (.d .str (toS xs)) [i] else none
  | _,_=>none
 | .sub i sz lo n=>match yN P t,get own i with
  | some _,some (.row (.int .u8) _ xs)=>if isStr P u=true∧sz=1 then K (.d .str (toS (prt xs lo n))) [i] else none
  | _,_=>none
 | .pb i o=>match get own i with
  | some (.box T cs)=>if decide (o<cs.length)=true then match L8 P t with
    | some _=>if UI P u=true then K (.pb i o) [i] else none
    | none=>match L8 P u with
     | some e=>if UI P t=true∧liesAt P P.depth T (cs.length / P.cellsOf T) o e 1=true then K (.pb i o) [i] else none
     | none=>none
   else none
  | _=>none
 | _=>none
theorem zq{t u:TypeId}{x:Operand}{v:Value}(h:(convert t u (ev l x)).run P w = .ok v w):(execOp (ev l) ⟨d,.convert t u x,ty,pos,af,g⟩).run P w = .ok (.value v) w:=by simp_all[execOp,Sem.run_bind,zL,Sem.run_pure]
theorem UK{t u e:TypeId}{x:Operand}{a:Option Addr}{n c:Nat}{xs:List Int}(ht:P.underlying t=some (.slice e))(he:P.underlying e=some (.int .u8))(hu:P.underlying u=some .string)
  (hx:ev l x = .slice a n c) (hn:xs.length=n) (ha:n≠0->∃b o,a=some ⟨b,o,none⟩∧∀i y,xs[i]? = some y->w.cell? ⟨b,o+i,none⟩=some (.int .u8 y)) :
  (execOp (ev l) ⟨d,.convert t u x,ty,pos,af,g⟩).run P w = .ok (.value (.string ⟨⟨toS xs⟩⟩)) w:=by
 refine zq ?_;rw[hx];by_cases h0:n=0
 ·subst h0
  have hxs:xs=[]:=List.eq_nil_of_length_eq_zero hn;subst hxs;rw[run_convert_bytes_string w t u e a 0 c ht he hu]
  cases a with
  | none=>rfl
  | some a =>
   rfl
 ·obtain⟨b,o,rfl,hc⟩:=ha h0
  have:=run_convert_bytes_arg (P:=P) w t e ht he b o n c xs hn (fun i hi=>by simp_all) u hu;rw[this];rfl
theorem aeU{own:List (Nat×Ent)}(he:EntsD pl L w own){t u:TypeId}{x:Operand}{s:SV}{K:SV->List Nat->Option R}{r:R}(h:UJ P own t u s K=some r)(hx:Den pl L w s (ev l x)) :
  ∃s' rd,K s' rd=some r∧Yv P pl L w l ⟨d,.convert t u x,ty,pos,af,g⟩ s' rd:=by
 replace hx:=yL hx
 unfold UJ at h;generalize nz s=s at h hx;split at h
 ·split at h
  ·rename_i h1 h2
   exact⟨_,_,h,Yv.of (jA _ _) (fun w'=>arH h1 h2 (jC hx))⟩
  grind
 ·split at h
  ·rename_i hc
   have h1:=kT hc.1;have h2:=kT hc.2;refine⟨_,_,h,Yv.of (Dx _) (fun w'=>zq ?_)⟩;rw[qm hx];simp_all[convert,run_underlying]
  grind
 ·rename_i xs
  split at h
  ·rename_i e hu8
   obtain⟨h1,h2⟩:=Bq hu8;split at h
   ·rename_i hst
    have hr:=uE hx;have hr0:=hr;obtain⟨a,c,hsh,_⟩:=hr0;simp at hsh;refine⟨_,_,h,_,Dx _,fun w' hF _=>UK h1 h2 (kT hst) hsh rfl (fun hne=>?_)⟩;rw[hsh]at hr;have hr':=(rp (.sl (.int .u8))).mono hr hF;obtain⟨a',c',e1,_,e2⟩:=hr';simp at e1;obtain⟨rfl,rfl⟩:=e1;obtain⟨b,o,rfl,e3⟩:=e2 (by simp_all);refine⟨b,o,rfl,fun i y hy=>?_⟩;obtain⟨_,_,cs,e4,e5⟩:=e3 i y hy;have e4:cs=[.int .u8 y]:=e4;subst e4;have:=e5 0 _ rfl;simp_all[jc,Ty.size]
   grind
  grind
 ·rename_i i
  split at h
  ·rename_i e e0 xs hu8 hg
   obtain⟨h1,h2⟩:=Bq hu8;split at h
   ·rename_i hst
    obtain⟨p,h3,h4⟩:=hx;obtain⟨p',h5,h6⟩:=he.get hg;rw[h3]at h5;cases h5;have hlen:=h6.len;refine⟨_,_,h,_,Dx _,fun w' hF hrd=>?_⟩;rcases h4 with h4 | ⟨_,q2,_,a,h4⟩
    ·refine UK h1 h2 (kT hst) h4 hlen.symm (fun hne=>?_)
     obtain⟨gg,hga⟩:=h6.addr (i:=0) (by omega);refine⟨gg,0,hga,fun j y hy=>?_⟩;obtain⟨pa,pn,pc⟩:=p;simp only at hga h6;subst hga;obtain⟨cs,e4,e5⟩:=uF h6 hy;have e4:cs=[.int .u8 y]:=e4;subst e4;have:=e5 0 _ rfl;rw[World.cell?_of_block (w:=w) (hrd i (by simp) gg (by rw[iF h3];rfl))];simp_all[jc,Ty.size]
    ·exact UK h1 h2 (kT hst) h4 (by omega) (fun hne=>absurd rfl hne)
   grind
  grind
 ·rename_i i sz lo n
  split at h
  ·rename_i e e0 xs hu8 hg
   obtain⟨h1,h2⟩:=Bq hu8;split at h
   ·rename_i hst
    obtain⟨hst,rfl⟩:=hst;obtain⟨p,a,c,h3,q1,q2,q3,hu,q5,q6⟩:=hx;obtain⟨p',h5,h6⟩:=he.get hg;rw[h3]at h5;cases h5;have hlen:=h6.len;refine⟨_,_,h,_,Dx _,fun w' hF hrd=>?_⟩;refine UK h1 h2 (kT hst) hu (by grind[prt]) (fun hne=>?_);obtain⟨_,gg,oo,hga,rfl⟩:=q6.1 (by omega);obtain⟨_,hb0⟩:=h6.2.addr_cap (c:=p.c) (by have:=h6.2.cap_le;omega);rw[hga]at hb0;cases hb0;refine⟨gg,_,rfl,fun j y hy=>?_⟩;obtain⟨pa,pn,pc⟩:=p;simp only at hga h6;subst hga;unfold prt at hy;have hjn:j<n.toNat:=by grind
    rw[List.getElem?_take_of_lt hjn,List.getElem?_drop]at hy;obtain⟨cs,e4,e5⟩:=uF h6 hy;have e4:cs=[.int .u8 y]:=e4;subst e4;have:=e5 0 _ rfl;rw[World.cell?_of_block (w:=w) (hrd i (by simp) gg (by rw[iF h3];rfl))];simp_all[jc,Ty.size]
   grind
  grind
 ·rename_i i o
  split at h
  ·rename_i T cs hg
   obtain⟨gg,n,c,us,h3,h4,h5,_⟩:=he.get hg;obtain⟨g',n',c',h6,hu⟩:=hx;rw[h3]at h6;cases h6;have hl:=h5.len;have hshape:∀w':World,(∀k,plb pl i=some k->w'.heap[k]? = w.heap[k]?)->w'.shape? gg=some (T,cs.length):=fun w' hrd=>by have:=hrd gg (by rw[iF h3];rfl);simp_all[Bx,World.shape?]
   split at h
   ·rename_i ho
    have ho:=of_decide_eq_true ho;split at h
    ·rename_i e hp
     obtain⟨p1,j,p2,p3⟩:=M5 hp;split at h
     ·rename_i hup
      refine⟨_,_,h,.pointer (some ⟨gg,o,none⟩),⟨gg,n,c,h3,rfl⟩,fun w' hF hrd=>zq ?_⟩;rw[hu];exact Lib.run_to_unsafe w' _ p1 (Tf hup) p2 p3 (hshape w' (hrd i (by simp))) ho
     grind
    ·split at h
     ·rename_i e hp
      obtain⟨p1,j,p2,p3⟩:=M5 hp;split at h
      ·rename_i hc
       refine⟨_,_,h,.pointer (some ⟨gg,o,none⟩),⟨gg,n,c,h3,rfl⟩,fun w' hF hrd=>zq ?_⟩;rw[hu];exact Lib.run_from_unsafe w' _ (Tf hc.1) p1 p2 (hshape w' (hrd i (by simp))) hc.2
      grind
     grind
   grind
  grind
 grind
def M6(P:Program)(t:TypeId)(s i:SV)(K:SV->List Nat->Option R):Option R :=
 match i with
 | .d (.int _) j=>match s with
  | .d .str b=>if isStr P t then (at? b j).bind fun c=>K (.d (.int .u8) (c.toNat:Int)) [] else none
  | .d (.ar _ t0) xs=>match sN P t with
   | some (m,e,n)=>match tyc P e with
    | some fy=>if n=t0.size then need (lt j m) ((at? xs j).bind fun y=>match ji t0 fy y with
     | some z=>K (.d fy z) []
     | none=>none) else none
    | none=>none
   | none=>none
  | .agg cs=>match sN P t with
   | some (m,e,n)=>ixC j (fun q=>match MX P e (q*n) cs with
    | some y=>K y []
    | none=>none) m
   | none=>none
  | _=>none
 | _=>none
theorem M7{t e:TypeId}{m n:Nat}{x y:Operand}{k:IntKind}{j:Int}{us:List Value}{v:Value}(h1:P.underlying t=some (.array m e))(h2:jX P e=some n)(hx:ev l x = .agg us.toArray)(hy:ev l y = .int k j)(h3:0≤j)(h4:j<m)
  (hp:(part e us.toArray (j.toNat*n)).run P w = .ok v w):(execOp (ev l) ⟨d,.index t x y,ty,pos,af,g⟩).run P w = .ok (.value v) w:=by
 have hi:(Instr.index t (ev l x) (ev l y)).run P w = .ok v w:=by unfold Instr.index;rw[hx,hy];simp only[asIntOf,Sem.run_bind,Sem.run_pure,zL,run_underlying h1];rw[if_pos ⟨h3,h4⟩];simp only[Sem.run_bind,mH h2,zL,hp]
 simp_all[execOp,Sem.run_bind,zL,Sem.run_pure]
theorem acS{t:TypeId}{x y:Operand}{s i:SV}{K:SV->List Nat->Option R}{r:R}(h:M6 P t s i K=some r)(hx:Den pl L w s (ev l x))(hi:Den pl L w i (ev l y)) :
  ∃s' rd,K s' rd=some r∧Yv P pl L w l ⟨d,.index t x y,ty,pos,af,g⟩ s' rd:=by
 unfold M6 at h;split at h
 ·rename_i k j
  split at h
  ·split at h
   ·rename_i ht
    obtain⟨z,hz,h⟩:=iD h;obtain⟨h3,h4,h5⟩:=kJ hz;exact⟨_,_,h,Yv.of (jA _ _) (fun w'=>LV (kT ht) (qm hx) (jC hi) h3 h4)⟩
   ·cases h
  ·rename_i N t0 xs
   split at h
   ·rename_i m e n har
    obtain⟨h1,h2⟩:=sO har;split at h
    ·rename_i fy hfy
     split at h
     ·rename_i hn
      obtain⟨hjm,h⟩:=iZ h;have hjm:(j:Int)<(m:Int):=of_decide_eq_true hjm;obtain⟨z,hz,h⟩:=iD h;obtain⟨h3,h4,h5⟩:=kJ hz;split at h
      ·rename_i z' hz'
       obtain⟨e1,hz'⟩:=qC hz';subst e1;subst hz';obtain⟨cs,⟨h6,h7⟩,h8⟩:=hx;obtain⟨pre,c,post,e2,h9,h10,_⟩:=h7.at h4;have hval:ev l x = .agg cs.toArray:=by rw[h8];simp[Rp.val,iQ,Ty.agg]
       refine⟨_,_,h,Yv.of (v:=(rp t0).val c) ⟨c,h10,rfl⟩ (fun w'=>M7 h1 h2 hval (jC hi) h3 hjm ?_)⟩;obtain⟨⟨dd,q1,q2⟩,q3,q4⟩:=oH hfy
       have hsh:xx P e=some ((rp t0).agg,t0.size):=by
        unfold xx;rw[q1,q3];simp only[q2,jc];rw[if_pos]
        cases ha:(rp t0).agg with
        | true=>exact .inl rfl
        | false=>exact .inr (by have:=q4 ha;rwa[jc]at this)
       have hlen:c.length=t0.size:=by rw[(rp t0).len h10,jc]
       have hoff:j.toNat*n=pre.length:=by rw[h9,hn,jc]
       rw[hoff];have hpart:=KU (P:=P) (w:=w') (us:=cs) (off:=pre.length) hsh (by rw[e2];simp;omega);rw[hpart,e2]
       congr 1
       have:((pre++c++post).drop pre.length).take t0.size=c:=by rw[List.append_assoc,List.drop_left,<- hlen,List.take_left]
       rw[this];rfl
      ·cases h
     ·cases h
    ·cases h
   ·cases h
  ·rename_i cs
   split at h
   ·rename_i m e n har
    obtain⟨h1,h2⟩:=sO har;obtain⟨q,h3,hj,hq⟩:=M0 h;split at hq
    ·rename_i y' hc
     obtain⟨us,h4,h5,h6⟩:=hx;obtain⟨ag,sz,h7,h8,h9⟩:=Ie hc h4 h5;have hi:=jC hi;rw[hj]at hi;exact⟨_,_,hq,Yv.of h9 (fun w'=>M7 h1 h2 h6 hi (by omega) (by omega) (by rw[zQ];exact KU h7 h8))⟩
    ·cases hq
   ·cases h
  ·cases h
 ·cases h
def aE0(P:Program)(t:TypeId)(y:Operand)(s:SV):Option Bool :=
 match P.underlying t with
 | some (.pointer _)=>match y with
  | .const (.pointer none)=>match s with
   | .k (.pointer none)=>some true
   | .pb _ _=>some false
   | .prw _ _ _ _=>some false
   | .pra i _ _ _ _ _ _ _=>some false
   | .pe _ _=>some false
   | .opb b _ _=>some (!b)
   | _=>none
  | _=>none
 | some (.slice _)=>match y with
  | .const (.slice none 0 0)=>match s with
   | .k (.slice none 0 0)=>some true
   | _=>none
  | _=>none
 | some (.map _ _)=>match y with
  | .const (.map none)=>match s with
   | .k (.map none)=>some true
   | .mp _=>some false
   | _=>none
  | _=>none
 | some (.interface _)=>match y with
  | .const .nilIface=>match s with
   | .k .nilIface=>some true
   | .ifc _ _=>some false
   | _=>none
  | _=>none
 | some (.func _ _ _)=>match y with
  | .const .nilFunc=>match s with
   | .k .nilFunc=>some true
   | .fn _ _ _=>some false
   | _=>none
  | _=>none
 | _=>none
inductive NilPair(P:Program) (t:TypeId):Value->Value->Bool->Prop
 | pn {e:TypeId} (h:P.underlying t=some (.pointer e)):NilPair P t (.pointer none) (.pointer none) true
 | pp {e:TypeId} {a:Addr} (h:P.underlying t=some (.pointer e)):NilPair P t (.pointer (some a)) (.pointer none) false
 | sn {e:TypeId} (h:P.underlying t=some (.slice e)):NilPair P t (.slice none 0 0) (.slice none 0 0) true
 | sv {e:TypeId} {n c:Nat} (h:P.underlying t=some (.slice e)):NilPair P t (.slice none n c) (.slice none 0 0) true
 | sa {e:TypeId} {a:Addr} {n c:Nat} (h:P.underlying t=some (.slice e)):NilPair P t (.slice (some a) n c) (.slice none 0 0) false
 | mn {k e:TypeId} (h:P.underlying t=some (.map k e)):NilPair P t (.map none) (.map none) true
 | mm {k e:TypeId} {g:Nat} (h:P.underlying t=some (.map k e)):NilPair P t (.map (some g)) (.map none) false
 | inn {ms:Array (String×TypeId)} (h:P.underlying t=some (.interface ms)):NilPair P t .nilIface .nilIface true
 | ii {ms:Array (String×TypeId)} {t':TypeId} {v:Value} (h:P.underlying t=some (.interface ms)):NilPair P t (.iface t' v) .nilIface false
 | fn {a b:Array TypeId} {c:Bool} (h:P.underlying t=some (.func a b c)):NilPair P t .nilFunc .nilFunc true
 | ff {a b:Array TypeId} {c:Bool} {f:Fn} {x y:Array Value} (h:P.underlying t=some (.func a b c)):NilPair P t (.func f x y) .nilFunc false
theorem NilPair.eq{t:TypeId}{u c:Value}{b:Bool}(h:NilPair P t u c b):(Op.equal t u c).run P w = .ok b w:=by
 have key:∀d:Nat,(Op.equalIn (d+1) t u c).run P w = .ok b w:=fun d=>by
  cases h with
  | pn h=>simp[Op.equalIn,run_underlying h]
  | pp h=>simp[Op.equalIn,run_underlying h]
  | sn h=>simp[Op.equalIn,run_underlying h]
  | sv h=>simp[Op.equalIn,run_underlying h]
  | sa h=>simp[Op.equalIn,run_underlying h]
  | mn h=>simp[Op.equalIn,run_underlying h]
  | mm h=>simp[Op.equalIn,run_underlying h]
  | inn h=>simp[Op.equalIn,run_underlying h]
  | ii h=>simp[Op.equalIn,run_underlying h]
  | fn h=>simp[Op.equalIn,run_underlying h]
  | ff h=>simp[Op.equalIn,run_underlying h]
 exact key 9999
theorem NilPair.run{op:BinOp}{t u:TypeId}{x:Operand}{c:Value}{b:Bool}(h:NilPair P t (ev l x) c b)(ho:op = .eql∨op = .neq) :
  (execOp (ev l) ⟨d,.binOp op t x (.const c) u,ty,pos,af,g⟩).run P w = .ok (.value (.bool (if op = .eql then b else !b))) w:=by
 have he:=h.eq (w:=w);have hc:ev l (.const c)=c:=rfl;have hb:(do eqGuard op t x (.const c) (ev l x) (ev l (.const c));binOp op t (ev l x) (ev l (.const c)):Sem Value).run P w = .ok (.bool (if op = .eql then b else !b)) w:=by rw[hc];generalize ev l x=v at h he;rcases ho with rfl | rfl<;>cases h<;>simp[eqGuard,binOp,he]
 grind[execOp,Sem.run_bind,zL,Sem.run_pure]
def aeV(P:Program)(op:BinOp)(t:TypeId)(y:Operand)(s:SV)(K:SV->List Nat->Option R):Option R:=none
theorem arS{op:BinOp}{t u:TypeId}{x y:Operand}{s:SV}{K:SV->List Nat->Option R}{r:R}(h:aeV P op t y s K=some r)(hx:Den pl L w s (ev l x)) :
  ∃s' rd,K s' rd=some r∧Yv P pl L w l ⟨d,.binOp op t x y u,ty,pos,af,g⟩ s' rd:=by
 unfold aeV at h;cases h
def aeW(P:Program)(op:BinOp)(t:TypeId)(a b:SV)(K:SV->List Nat->Option R):Option R:=none
theorem arT{op:BinOp}{t u:TypeId}{x y:Operand}{a b:SV}{K:SV->List Nat->Option R}{r:R}(h:aeW P op t a b K=some r)(hx:Den pl L w a (ev l x))(hy:Den pl L w b (ev l y)) :
  ∃s' rd,K s' rd=some r∧Yv P pl L w l ⟨d,.binOp op t x y u,ty,pos,af,g⟩ s' rd:=by
 unfold aeW at h;cases h
def mn(a b:Int):Int:=if lt b a=true then b else a
def mx(a b:Int):Int:=if gt b a=true then b else a
def UL(S:St)(k:IntKind):List Operand->Option (List Int)
 | []=>some []
 | x::q=>match opv S x with
  | some (.d (.int k') n)=>if k'=k then (UL S k q).map fun r=>n::r else none
  | _=>none
def ints(S:St):List Operand->Option (IntKind×Int×List Int)
 | []=>none
 | x::q=>match opv S x with
  | some (.d (.int k) n)=>(UL S k q).map fun r=>(k,n,r)
  | _=>none
theorem Tg(hf:FrD pl L w S.fr l){k:IntKind}:∀{q:List Operand} {ns:List Int},UL S k q=some ns->q.map (ev l)=ns.map (Value.int k)
 | [],ns,h=>by cases h;rfl
 | x::q,ns,h=>by
  unfold UL at h;split at h
  ·rename_i k' n hx
   split at h
   ·rename_i hk
    subst hk;obtain⟨r,h1,rfl⟩:=Option.map_eq_some_iff.1 h;rw[List.map_cons,List.map_cons,jC (gz hf hx),Tg hf h1]
   grind
  grind
theorem Ti(hf:FrD pl L w S.fr l){q:List Operand}{k:IntKind}{n:Int}{ns:List Int}(h:ints S q=some (k,n,ns)):q.map (ev l) = .int k n::ns.map (Value.int k):=by
 cases q with
 | nil=>cases h
 | cons x q =>
  simp only[ints]at h;split at h
  ·rename_i k' n' hx
   obtain⟨r,h1,h2⟩:=Option.map_eq_some_iff.1 h;cases h2;rw[List.map_cons,jC (gz hf hx),Tg hf h1]
  grind
theorem KW{k:IntKind}:∀(ns:List Int) (n:Int),((ns.map (Value.int k)).foldlM Builtin.min2 (.int k n)).run P w = .ok (.int k (ns.foldl mn n)) w
 | [],n=>rfl
 | a::ns,n=>by simp_all[List.map_cons,List.foldlM_cons,List.foldl_cons,Builtin.min2,mn,lt,Sem.run_pure,Sem.run_bind,zL,KW]
theorem KX{k:IntKind}:∀(ns:List Int) (n:Int),((ns.map (Value.int k)).foldlM Builtin.max2 (.int k n)).run P w = .ok (.int k (ns.foldl mx n)) w
 | [],n=>rfl
 | a::ns,n=>by simp_all[List.map_cons,List.foldlM_cons,List.foldl_cons,Builtin.max2,mx,gt,Sem.run_pure,Sem.run_bind,zL,KX]
theorem arU{xs:List Operand}{ts:Array TypeId}{k:IntKind}{n:Int}{ns:List Int}(h:xs.map (ev l) = .int k n::ns.map (Value.int k)) :
  (execOp (ev l) ⟨d,.call ⟨.builtin .min,⟨xs⟩,ts⟩,ty,pos,af,g⟩).run P w = .ok (.value (.int k (ns.foldl mn n))) w:=by
 have hb:(Builtin.min_ ts ty ((⟨xs⟩:Array Operand).map (ev l))).run P w = .ok (.int k (ns.foldl mn n)) w:=by simp_all[Builtin.min_,Array,Operand,ev,Value.int,KW]
 simp_all[execOp,resolve,invoke,builtin,Sem.run_bind,Sem.run_pure,zL]
theorem arV{xs:List Operand}{ts:Array TypeId}{k:IntKind}{n:Int}{ns:List Int}(h:xs.map (ev l) = .int k n::ns.map (Value.int k)) :
  (execOp (ev l) ⟨d,.call ⟨.builtin .max,⟨xs⟩,ts⟩,ty,pos,af,g⟩).run P w = .ok (.value (.int k (ns.foldl mx n))) w:=by
 have hb:(Builtin.max_ ts ty ((⟨xs⟩:Array Operand).map (ev l))).run P w = .ok (.int k (ns.foldl mx n)) w:=by simp_all[Builtin.max_,Array,Operand,ev,Value.int,KX]
 simp_all[execOp,resolve,invoke,builtin,Sem.run_bind,Sem.run_pure,zL]
theorem Bg{α:Type}{R:Rp α}{L:Lx}{t e:TypeId}{x mx:Operand}{lo hi:Option Operand}{a:Option Addr}{n c:Nat}{xs y:List α}{i j m:Int}(ht:P.underlying t=some (.slice e))(hs:jX P e=some R.size)
  (hx:ev l x = .slice a n c) (hr:(Rp.slice R).rel L w [.slice a n c] xs) (hlo:oM l lo i 0) (hhi:∃o k,hi=some o∧ev l o = .int k j) (hmx:∃k,ev l mx = .int k m) (h:cut xs i j=some y) (hjm:j≤m) (hm:m≤xs.length) :
  ∃a' c',(Rp.slice R).rel L w [.slice a' y.length c'] y∧∀w',(execOp (ev l) ⟨d,.slice t x lo hi (some mx),ty,pos,af,g⟩).run P w' = .ok (.value (.slice a' y.length c')) w':=by
 obtain⟨h0,h1,h2,hy⟩:=sM h;obtain⟨a0,c0,e1,hcap,h3⟩:=hr;simp at e1;obtain⟨rfl,rfl,rfl⟩:=e1;obtain⟨km,hmx⟩:=hmx;obtain⟨i,rfl⟩:=zN h0;obtain⟨j,rfl⟩:=zN (Int.le_trans h0 h1);obtain⟨m,rfl⟩:=zN (Int.le_trans (Int.le_trans h0 h1) hjm);have hij:i≤j:=by omega
 have hj:j≤xs.length:=by omega
 simp only[zQ]at hy;have hyl:y.length=j - i:=by simp_all
 refine⟨if m=i then a else a.map (·.add (i*R.size)),m - i,⟨_,m - i,rfl,by omega,fun hne=>?_⟩,fun w'=>?_⟩
 ·have hlt:i<j:=by simp_all
  obtain⟨b,o,rfl,h4⟩:=h3 (by grind);rw[if_neg (by omega)];grind[Addr.add_lit',zW,kB,List.getElem?_take_of_lt,Nat.add_mul,Nat.add_assoc]
 ·have hb:(Instr.sliceBounds true xs.length c (lo.map (ev l)) (hi.map (ev l)) (some (.int km m))).run P w' = .ok (i,j,m) w':=by
   unfold Instr.sliceBounds;obtain⟨oh,kh,rfl,e2⟩:=hhi;rcases hlo with ⟨rfl,e3⟩ | ⟨ol,kl,rfl,e3⟩
   ·have e3:i=0:=by omega
    subst e3;simp[Instr.sliceBound,asIntOf,e2];grind
   ·simp[Instr.sliceBound,asIntOf,e2,e3]
    grind
  have hsl:(Instr.sliceAt t (ev l x) (lo.map (ev l)) (hi.map (ev l)) ((some mx:Option Operand).map (ev l))).run P w' = .ok (.slice (if m=i then a else a.map (·.add (i*R.size))) (j - i) (m - i)) w':=by unfold Instr.sliceAt;simp only[Sem.run_bind,run_underlying ht,zL];unfold Instr.slice;simp only[Sem.run_bind,run_underlying ht,zL,hx,Option.map_some,hmx,hb,mH hs,Sem.run_pure]
  simp_all[execOp,Sem.run_bind,zL,Sem.run_pure]
def Ig:Option Operand->Bool
 | some (.const (.int _ 0))=>false
 | some _=>true
 | none=>false
def aeX(P:Program)(S:St)(t:TypeId)(s:SV)(lo hi:Option Operand)(mx:Operand)(K:SV->List Nat->Option R):Option R :=
 match s with
 | .d (.sl t0) xs=>if Ig hi=true then match lX P t,jQ S lo 0,jQ S hi 0,jQ S (some mx) 0 with
   | some (_,n),some i,some j,some m=>if t0.size=n then (cut xs i j).bind fun y=>need (le j m) (need (le m (zF xs.length)) (K (.d (.sl t0) y) [])) else none
   | _,_,_,_=>none
  else none
 | _=>none
theorem arW(hf:FrD pl L w S.fr l){t:TypeId}{x:Operand}{s:SV}{lo hi:Option Operand}{mx:Operand}{K:SV->List Nat->Option R}{r:R}(h:aeX P S t s lo hi mx K=some r)(hx:Den pl L w s (ev l x)) :
  ∃s' rd,K s' rd=some r∧Yv P pl L w l ⟨d,.slice t x lo hi (some mx),ty,pos,af,g⟩ s' rd:=by
 unfold aeX at h;split at h
 ·rename_i t0 xs
  split at h
  ·rename_i hz
   split at h
   ·rename_i e n i j m hel hlo hhi hmx
    split at h
    ·rename_i hsz
     obtain⟨y,hy,h⟩:=iD h;obtain⟨hjm,h⟩:=iZ h;obtain⟨hm,h⟩:=iZ h;have hjm:j≤m:=by simp_all[le]
     have hm:m≤xs.length:=by simp_all[le]
     obtain⟨h1,h2⟩:=jD hel;have hr:=uE hx;obtain⟨a,c,hsh,hr2⟩:=hr;simp at hsh;have hr:=uE hx;rw[hsh]at hr
     have hh:∃o k,hi=some o∧ev l o = .int k j:=by
      rcases mI hf hhi with ⟨e1,_⟩ | e1
      ·simp_all[Ig]
      omega
     have hmm:∃k,ev l mx = .int k m:=by
      rcases mI hf hmx with ⟨e1,_⟩ | ⟨o,k,e1,e2⟩
      ·cases e1
      simp_all
     obtain⟨a',c',h3,h4⟩:=Bg (d:=d) (ty:=ty) (pos:=pos) (af:=af) (g:=g) h1 (by simp_all[jc]) hsh hr (mI hf hlo) hh hmm hy hjm hm;exact⟨_,_,h,Yv.of (zl (t:=.sl _) rfl h3) h4⟩
    grind
   grind
  grind
 grind
def qv(P:Program)(S:St)(op:Op)(K:SV->List Nat->Option R):Option R :=
 match op with
 | .move x=>(opv S x).bind fun s=>K s []
 | .assign x=>(opv S x).bind fun s=>K s []
 | .pick c a b=>match opv S c,opv S a,opv S b with
  | some (.d .bool c),some a,some b=>if c=true then K a [] else K b []
  | _,_,_=>none
 | .binOp op t x y _=>match opv S x,opv S y with
  | some a,some b=>bin P op t a b (fun s=>K s [])
  | _,_=>none
 | .unOp op _ x=>(opv S x).bind fun s=>qUn op s K
 | .convert t u x=>(opv S x).bind fun s=>UJ P S.own t u s K
 | .extract x i=>match opv S x with
  | some (.tup l)=>match l[i]? with
   | some s=>K s []
   | none=>none
  | _=>none
 | .field t x f=>(opv S x).bind fun s=>MY P t s f K
 | .fieldAddr t x f=>(opv S x).bind fun s=>zn P t s f K
 | .indexAddr t x i=>match opv S x,opv S i with
  | some s,some j=>zo P S.own t s j K
  | _,_=>none
 | .index t x i=>match opv S x,opv S i with
  | some s,some j=>M6 P t s j K
  | _,_=>none
 | .load t x=>(opv S x).bind fun s=>UH P S.own t s K
 | .slice t x lo hi none=>(opv S x).bind fun s=>M4 P S t s lo hi K
 | .slice t x lo hi (some m)=>(opv S x).bind fun s=>aeX P S t s lo hi m K
 | .call ⟨.builtin .len,⟨[x]⟩,⟨[t]⟩⟩=>(opv S x).bind fun s=>aeR P S.own t s K
 | .call ⟨.builtin .min,⟨xs⟩,_⟩=>(ints S xs).bind fun p=>K (.d (.int p.1) (p.2.2.foldl mn p.2.1)) []
 | .call ⟨.builtin .max,⟨xs⟩,_⟩=>(ints S xs).bind fun p=>K (.d (.int p.1) (p.2.2.foldl mx p.2.1)) []
 | .nilCheck x=>(opv S x).bind fun s=>match s with
  | .pb i o=>K (.pb i o) []
  | .prw i j sz o=>K (.prw i j sz o) []
  | .pra i j sz o m ft k o2=>K (.pra i j sz o m ft k o2) []
  | .pe t x=>K (.pe t x) []
  | .ifc t v=>K (.ifc t v) []
  | _=>none
 | _=>none
theorem qM(hf:FrD pl L w S.fr l)(he:EntsD pl L w S.own){op:Op}{K:SV->List Nat->Option R}{r:R}(h:qv P S op K=some r) :
  ∃s rd,K s rd=some r∧Yv P pl L w l ⟨d,op,ty,pos,af,g⟩ s rd:=by
 unfold qv at h;split at h
 ·obtain⟨s,hs,h⟩:=iD h
  exact⟨_,_,h,Yv.of (gz hf hs) (fun w'=>run_move rfl)⟩
 ·obtain⟨s,hs,h⟩:=iD h
  exact⟨_,_,h,Yv.of (gz hf hs) (fun w'=>run_assign rfl)⟩
 ·split at h
  ·rename_i c a b c' a' b' h1 h2 h3
   split at h
   ·rename_i hc
    subst hc;exact⟨_,_,h,Yv.of (gz hf h2) (fun w'=>UA (mZ (gz hf h1)) rfl)⟩
   ·rename_i hc
    have hc:c'=false:=by simp_all
    subst hc;exact⟨_,_,h,Yv.of (gz hf h3) (fun w'=>UB (mZ (gz hf h1)) rfl)⟩
  grind
 ·split at h
  ·rename_i h1 h2
   obtain⟨s,hs,hy⟩:=atm h (gz hf h1) (gz hf h2);exact⟨s,_,hs,hy⟩
  grind
 ·obtain⟨s,hs,h⟩:=iD h
  exact atn h (gz hf hs)
 ·obtain⟨s,hs,h⟩:=iD h
  exact aeU he h (gz hf hs)
 ·split at h
  ·rename_i l' h1
   split at h
   ·rename_i s hs
    obtain⟨us,h2,h3⟩:=gz hf h1;obtain⟨u,h4,h5⟩:=h2.at hs;grind[Yv.of,SB]
   grind
  grind
 ·obtain⟨s,hs,h⟩:=iD h
  exact acP h (gz hf hs)
 ·obtain⟨s,hs,h⟩:=iD h
  exact LY h (gz hf hs)
 ·split at h
  ·rename_i h1 h2
   exact LZ he h (gz hf h1) (gz hf h2)
  grind
 ·split at h
  ·rename_i h1 h2
   exact acS h (gz hf h1) (gz hf h2)
  grind
 ·obtain⟨s,hs,h⟩:=iD h
  exact aeQ he h (gz hf hs)
 ·obtain⟨s,hs,h⟩:=iD h
  exact acR hf he h (gz hf hs)
 ·obtain⟨s,hs,h⟩:=iD h
  exact arW hf h (gz hf hs)
 ·obtain⟨s,hs,h⟩:=iD h
  exact arR he h (gz hf hs)
 ·obtain⟨p,hp,h⟩:=iD h
  exact⟨_,_,h,Yv.of (jA _ _) (fun w'=>arU (Ti hf hp))⟩
 ·obtain⟨p,hp,h⟩:=iD h
  exact⟨_,_,h,Yv.of (jA _ _) (fun w'=>arV (Ti hf hp))⟩
 ·obtain⟨s,hs,h⟩:=iD h
  have hd:=gz hf hs;split at h
  ·obtain⟨g,n,c,h1,h2⟩:=hd
   exact⟨_,_,h,Yv.of (v:=.pointer (some ⟨g,_,none⟩)) ⟨g,n,c,h1,rfl⟩ (fun w'=>by simp[execOp,h2])⟩
  ·obtain⟨g,b,n,c,h1,h2⟩:=hd
   exact⟨_,_,h,Yv.of (v:=.pointer (some ⟨g,_,none⟩)) ⟨g,b,n,c,h1,rfl⟩ (fun w'=>by simp[execOp,h2])⟩
  ·obtain⟨g,b,n,c,h1,h2⟩:=hd
   exact⟨_,_,h,Yv.of (v:=.pointer (some ⟨g,_,none⟩)) ⟨g,b,n,c,h1,rfl⟩ (fun w'=>by simp[execOp,h2])⟩
  ·obtain⟨b,o,h1,h2⟩:=hd
   exact⟨_,_,h,Yv.of (v:=.pointer (some ⟨b,o,none⟩)) ⟨b,o,rfl,h2⟩ (fun w'=>by simp[execOp,h1])⟩
  ·obtain⟨u',h1,h2⟩:=hd
   exact⟨_,_,h,Yv.of (v:=.iface _ u') ⟨u',h1,rfl⟩ (fun w'=>by simp[execOp,h2])⟩
  grind
 grind
end
end Ev
end
noncomputable section
namespace Ev
open Go Go.RowKit Sx
structure Sb where
 r:SV
 s:Nat->Int->Int->SV
mutual
def sbs(i:Nat)(r:Sb):SV->SV
 | .row j=>if j=i then r.r else .row j
 | .rowz j=>if j=i then r.r else .rowz j
 | .sub j sz lo n=>if j=i then r.s sz lo n else .sub j sz lo n
 | .agg l=>.agg (zu i r l)
 | .tup l=>.tup (zu i r l)
 | .fn f a b=>.fn f (zu i r a) (zu i r b)
 | .ifc t v=>.ifc t (sbs i r v)
 | .k v=>.k v
 | .d t x=>.d t x
 | .dx t x=>.dx t x
 | .pb a b=>.pb a b
 | .prw a b c e=>.prw a b c e
 | .pra i b c e m ft k o2=>.pra i b c e m ft k o2
 | .pe t x=>.pe t x
 | .mp a=>.mp a
 | .opb a b c=>.opb a b c
 | .sd a=>.sd a
def zu(i:Nat)(r:Sb):List SV->List SV
 | []=>[]
 | s::q=>sbs i r s::zu i r q
end
def Br(pl:List Place)(L:Lx)(w:World)(i:Nat)(r:Sb):Prop:=(∀u,Den pl L w (.rowz i) u->Den pl L w r.r u)∧∀sz lo n u,Den pl L w (.sub i sz lo n) u->Den pl L w (r.s sz lo n) u
section
variable {pl pl':List Place}{L L':Lx}{w w':World}
mutual
theorem Dz{i:Nat}{r:Sb}(hr:Br pl L w i r):∀{s:SV} {u:Value},Den pl L w s u->Den pl L w (sbs i r s) u
 | .k v,u,h=>by simp_all[sbs]
 | .d t x,u,h=>by simp_all[sbs]
 | .dx t x,u,h=>by simp_all[sbs]
 | .row j,u,h=>by
  simp only[sbs];split
  ·rename_i e;subst e;exact hr.1 u (yL (s:=.row _) h)
  omega
 | .rowz j,u,h=>by
  simp only[sbs];split
  ·rename_i e;subst e;exact hr.1 u h
  omega
 | .sub j sz lo n,u,h=>by
  simp only[sbs];split
  ·rename_i e;subst e;exact hr.2 sz lo n u h
  omega
 | .pb i o,u,h=>by simp_all[sbs]
 | .prw i j sz o,u,h=>by simp_all[sbs]
 | .pra i j sz o m ft k o2,u,h=>by simp_all[sbs]
 | .pe t x,u,h=>by simp_all[sbs]
 | .mp i,u,h=>by simp_all[sbs]
 | .opb b i o,u,h=>by simp_all[sbs]
 | .sd i,u,h=>by simp_all[sbs]
 | .agg l,u,⟨us,h1,h2⟩=>by simp only[sbs];exact⟨us,pN hr h1,h2⟩
 | .tup l,u,⟨us,h1,h2⟩=>by simp only[sbs];exact⟨us,pN hr h1,h2⟩
 | .fn f a b,u,⟨us,vs,h1,h2,h3⟩=>by simp only[sbs];exact⟨us,vs,pN hr h1,pN hr h2,h3⟩
 | .ifc t v,u,⟨u',h1,h2⟩=>by simp only[sbs];exact⟨u',Dz hr h1,h2⟩
theorem pN{i:Nat}{r:Sb}(hr:Br pl L w i r):∀{s:List SV} {us:List Value},DenL pl L w s us->DenL pl L w (zu i r s) us
 | [],us,h=>h
 | s::q,us,⟨v,vs,h1,h2,h3⟩=>⟨v,vs,h1,Dz hr h2,pN hr h3⟩
end
end
def ER(i:Nat)(r:Sb):Fr->Fr
 | []=>[]
 | (t,s)::q=>(t,sbs i r s)::ER i r q
def UM(i:Nat)(r:Sb):List (Nat×Fr)->List (Nat×Fr)
 | []=>[]
 | (n,f)::q=>(n,ER i r f)::UM i r q
def aeY{α:Type}(i:Nat)(r:Sb):List (Nat×α×SV)->List (Nat×α×SV)
 | []=>[]
 | (a,b,s)::q=>(a,b,sbs i r s)::aeY i r q
def aeZ(i:Nat)(r:Sb):Ent->Ent
 | .box T cs=>.box T (zu i r cs)
 | .row t e xs=>.row t e xs
 | .dm kt vt xs=>.dm kt vt xs
 | .sm kt cl es=>.sm kt cl (aeY i r es)
 | .it m cl seen=>.it m cl seen
 | .itd kt vt cur rest=>.itd kt vt cur rest
 | .que t e xs=>.que t e xs
 | .rowo t e b xs cs=>.rowo t e b xs (zu i r cs)
 | .rowq e us k cs=>.rowq e us k (zu i r cs)
def rid(i:Nat):List (Nat×Ent)->List (Nat×Ent)
 | []=>[]
 | (j,e)::q=>if j=i then q else (j,e)::rid i q
def uO(i:Nat)(r:Sb):List (Nat×Ent)->List (Nat×Ent)
 | []=>[]
 | (j,e)::q=>(j,aeZ i r e)::uO i r q
section
variable {B:Nat->Prop}{F:Lx}{w0:Bs}{wr:Wr}{pl pl':List Place}{S S':St}{l l':List Value}{ls:List (List Value)}{w w':World}{L L' M:Lx}
theorem M8{i:Nat}{r:Sb}:∀{fr:Fr} {t:Nat} {s:SV},get (ER i r fr) t=some s->∃s',get fr t=some s'∧s=sbs i r s'
 | (j,q)::fr,t,s,h=>by
  unfold ER get at h;unfold get;split at h
  ·simp_all
  simp_all[if_neg,M8]
theorem FrD.sbs{i:Nat}{r:Sb}(hr:Br pl L w i r){fr:Fr}(h:FrD pl L w fr l):FrD pl L w (ER i r fr) l:=fun t s hs=>by obtain⟨s',h1,rfl⟩:=M8 hs;exact Dz hr (h t s' h1)
theorem UpD.sbs{i:Nat}{r:Sb}(hr:Br pl L w i r):∀{up:List (Nat×Fr)} {ls:List (List Value)},UpD pl L w up ls->UpD pl L w (UM i r up) ls
 | [],_,h=>h
 | _::_,_,⟨l,q,h1,h2,h3,h4⟩=>⟨l,q,h1,h2,h3.sbs hr,UpD.sbs hr h4⟩
theorem vK(i:Nat)(r:Sb):∀own,lx pl (uO i r own)=lx pl own
 | []=>rfl
 | (j,e)::q=>by show plb pl j::lx pl (uO i r q)=plb pl j::lx pl q;rw[vK i r q]
theorem zw{i:Nat}{r:Sb}:∀{own:List (Nat×Ent)} {x:Nat×Ent},x∈uO i r own->∃e,(x.1,e)∈own∧x.2=aeZ i r e
 | (j,e)::q,x,h=>by
  unfold uO at h;rcases List.mem_cons.1 h with h | h
  ·subst h;exact⟨e,List.mem_cons_self ..,rfl⟩
  ·obtain⟨e',h1,h2⟩:=zw h
   exact⟨e',zT _ h1,h2⟩
theorem SmD.sbs{i:Nat}{r:Sb}(hr:Br pl L w i r){kt:Ty}:∀{vs:List MapEntry} {xs:List (Nat×Vl kt×SV)},SmD pl L w vs xs->SmD pl L w vs (aeY i r xs)
 | [],_,h=>by have h:_=_:=h;subst h;rfl
 | _::_,_,⟨b,q,h1,h2,h3,h4,h5⟩=>by subst h1;exact⟨_,_,rfl,h2,h3,Dz hr h4,SmD.sbs hr h5⟩
theorem EntD.sbs{i j:Nat}{r:Sb}(hr:Br pl L w i r){e:Ent}(h:EntD pl L w j e):EntD pl L w j (aeZ i r e):=by
 cases e with
 | row t e xs=>exact h
 | box T cs =>
  obtain⟨g,n,c,us,h1,h2,h3,h4⟩:=h;exact⟨g,n,c,us,h1,h2,pN hr h3,h4⟩
 | dm kt vt xs=>exact h
 | it m cl seen=>exact h
 | itd kt vt cur rest=>exact h
 | que t e xs=>exact h
 | rowo t e b xs cs =>
  obtain⟨p,ro,us,h1,h2,h3,h4⟩:=h;exact⟨p,ro,us,h1,h2,h3,fun hb=>pN hr (h4 hb)⟩
 | rowq e us k cs =>
  obtain⟨g,n,c,u,h1,h2,h3,h4,h5,h6⟩:=h;exact⟨g,n,c,u,h1,h2,h3,h4,h5,pN hr h6⟩
 | sm kt cl es =>
  obtain⟨g,n,c,vs,h1,h2,h3⟩:=h;refine⟨g,n,c,vs,h1,h2,SmD.sbs hr h3⟩
theorem Rel.sbs{i:Nat}{r:Sb}(h:Rel B F w0 wr pl S l ls w)(hr:Br pl (lx pl S.own++F) w i r) :
  Rel B F w0 wr pl { S with fr:=ER i r S.fr,up:=UM i r S.up,own:=uO i r S.own } l ls w where
 hL:=by show LOk B (lx pl (uO i r S.own)) F w;rw[vK];exact h.hL
 hB:=h.hB
 pre:=h.pre
 hI:=h.hI
 hln:=h.hln
 nx:=h.nx
 nt:=h.nt
 ent:=fun e he=>by show EntD pl (lx pl (uO i r S.own)++F) w e.1 e.2;rw[vK];obtain⟨e',h1,h2⟩:=zw he;rw[h2];exact (h.ent _ h1).sbs hr
 fr:=by show FrD pl (lx pl (uO i r S.own)++F) w _ l;rw[vK];exact h.fr.sbs hr
 up:=by show UpD pl (lx pl (uO i r S.own)++F) w _ ls;rw[vK];exact h.up.sbs hr
 tn:=by
  refine⟨h.tn.fz,?_,h.tn.nr,h.tn.pls,fun e he hlt=>?_,fun e he hlt hnl k hk=>?_⟩
  ·show Sub wr.w (lx pl (uO i r S.own)++F) wr.L
   rw[vK];exact h.tn.sb
  ·obtain⟨e',h1,_⟩:=zw he
   exact h.tn.old (e.1,e') h1 hlt
  ·obtain⟨e',h1,_⟩:=zw he
   exact h.tn.keep _ h1 hlt hnl k hk
theorem Tj(i:Nat):∀own,List.Sublist (rid i own) own
 | []=>.slnil
 | (j,e)::q=>by
  unfold rid;split
  ·exact .cons _ (List.Sublist.refl q)
  ·exact .cons_cons _ (Tj i q)
theorem KY:∀{own:List (Nat×Ent)} {i:Nat} {e:Ent},get own i=some e->∃pre post,own=pre++(i,e)::post∧rid i own=pre++post
 | (j,q)::own,i,e,h=>by
  unfold get at h;split at h
  ·rename_i hj
   cases h
   subst hj;exact⟨[],own,rfl,by simp[rid]⟩
  ·rename_i hj
   obtain⟨pre,post,h1,h2⟩:=KY h;exact⟨(j,q)::pre,post,by simp_all,by simp_all[rid,if_neg]⟩
theorem M9{own own':List (Nat×Ent)}(h:List.Sublist own' own):List.Sublist (lx pl own') (lx pl own):=h.map _
theorem Rel.drop(h:Rel B F w0 wr pl S l ls w){own':List (Nat×Ent)}(hs:List.Sublist own' S.own):Rel B F w0 wr pl { S with own:=own' } l ls w :=
 h.go (M:=[]) (S':={ S with own:=own' }) (Stp.drop h.hL (M9 hs)) (fun _ _ h=>h) h.nx (Nat.le_refl _) rfl rfl rfl (fun _ hi=>hi) (fun e he=>.inl ⟨hs.subset he,fun _ _ hk=>by cases hk⟩)
def sbR(t:Ty)(xs:List (Vl t))(i:Nat):Sb:=⟨.d (.sl t) xs,fun sz lo n=>if sz=t.size then .d (.sl t) (prt xs lo n) else .sub i sz lo n⟩
def ES(S:St)(i:Nat):Option St:=match get S.own i with
 | some (.row t _ xs)=>some { S with fr:=ER i (sbR t xs i) S.fr,up:=UM i (sbR t xs i) S.up,own:=uO i (sbR t xs i) (rid i S.own) }
 | _=>none
theorem ato{t:Ty}{e:TypeId}{xs:List (Vl t)}{i:Nat}{p:Place}{L L':Lx}(h3:pl[i]? = some p)(h4:Ow (rp t) e L w p.a p.n p.c xs)(hs:Sub w L' L)(hn:∀k,blk p.a=some k->some k ∉ L'):Br pl L' w i (sbR t xs i):=by
 have hfz:=h4.freeze hs hn;refine⟨fun u hu=>?_,fun sz lo n u hu=>?_⟩
 ·obtain⟨p',h5,h6⟩:=hu
  rw[h3]at h5;cases h5;refine zl (t:=.sl t) rfl ?_;rcases h6 with rfl | ⟨h6,h7,h8,a,rfl⟩
  ·exact hfz
  ·have:=h4.len
   have hx:xs=[]:=List.eq_nil_of_length_eq_zero (by omega);subst hx;exact xu _ _ _ a 0
 ·show Den pl L' w (if sz=t.size then .d (.sl t) (prt xs lo n) else .sub i sz lo n) u
  split
  ·rename_i hsz
   obtain⟨p',a,c,h5,h6,h7,h8,rfl,h10,h11⟩:=hu;rw[h3]at h5;cases h5;have hlen:=h4.len;refine zl (t:=.sl t) rfl ?_;obtain⟨lo,rfl⟩:=zN h6;obtain⟨n,rfl⟩:=zN h7;have hpl:(prt xs (lo:Int) (n:Int)).length=n:=by grind[prt]
   refine⟨a,c,by simp_all,by omega,fun hne=>?_⟩;have hn0:(n:Int)≠0:=fun e=>by simp_all
   obtain⟨_,g,o,h12,h13⟩:=h11.1 (by simp only[zQ]at h10;omega);obtain⟨_,hb0⟩:=h4.2.addr_cap (c:=p.c) (by have:=h4.2.cap_le;omega);rw[h12]at hb0;cases hb0;refine⟨g,lo*sz,by simp_all,fun j y hj=>?_⟩;grind[prt,zQ,zW,kB,List.getElem?_take_of_lt,EM,rp,jc,Nat.add_mul]
  omega
theorem Ih(h:Rel B F w0 wr pl S l ls w){i:Nat}(hf:ES S i=some S'):Rel B F w0 wr pl S' l ls w:=by
 unfold ES at hf;split at hf
 ·rename_i t e xs hg
  cases hf
  obtain⟨pre,post,h1,h2⟩:=KY hg;obtain⟨p,h3,h4⟩:=h.ent _ (iI hg);have hd:=h.drop (Tj i S.own);refine hd.sbs ?_;have e1:lx pl S.own=lx pl pre++blk p.a::lx pl post:=by simp_all[lx,List.map_append,List.map_cons,iF]
  have e2:lx pl (rid i S.own)=lx pl pre++lx pl post:=by simp_all[lx,List.map_append]
  have hL:=h.hL;rw[e1]at hL;refine ato (L:=lx pl S.own++F) h3 h4 ?_ (fun k hk=>?_)
  ·show Sub w (lx pl (rid i S.own)++F) _
   grind[MI]
  ·show some k ∉ lx pl (rid i S.own)++F
   rw[e2];exact hL.gone k hk
 grind
end
end Ev
end
noncomputable section
namespace Ev
open Go Go.RowKit Sx
section
variable {P:Program}{l:List Value}{w:World}{d:Option Tmp}{ty:TypeId}{pos:String}{af:Array Edge}{gd:Option (Nat×Bool)}
 {Q:Exit->Act->World->Prop} {K:List Value->World->Prop} {α:Type} {R:Rp α} {L:Lx}
theorem UN{pre c0 post:List Value}{off:Nat}(h:off≤c0.length):(pre++c0++post).take (pre.length+off)=pre++c0.take off:=by simp_all[List.append_assoc,List.take_append,Nat.add_sub_cancel_left,List.take_of_length_le,List.take_append_of_le_length]
theorem UO{pre c0 post:List Value}{off:Nat}(h:off≤c0.length):(pre++c0++post).drop (pre.length+off)=c0.drop off++post:=by simp_all[List.append_assoc,List.drop_append,Nat.add_sub_cancel_left,List.drop_of_length_le,List.nil_append,List.drop_append_of_le_length]
theorem Bh{B:Nat->Prop}{own F:Lx}{t e:TypeId}{x y:Operand}{v:Value}{vs:List Value}{b i n c off:Nat}{xs:List α}{u u':α}(hs:jX P t=some vs.length)
  (hx:ev l x = .pointer (some ⟨b,0+i*R.size+off,none⟩)) (hy:ev l y=v) (hv:v.cells.toList=vs) (hL:LOk B own F w) (hown:Ow R e (own++F) w (some ⟨b,0,none⟩) n c xs) (hi:xs[i]? = some u)
  (h1:∀z∈vs,z.oneCell'=true)
  (hu:∀cs,R.rel (own++F) w cs u->off+vs.length≤cs.length∧R.rel (own++F) w (cs.take off++vs++cs.drop (off+vs.length)) u') (hLa:some b∈own)
  (h:∀w',Stp B own own F [some b] w w'->Ow R e (own++F) w' (some ⟨b,0,none⟩) n c (xs.set i u')->K (st l d undef) w') :
  OW P ⟨d,.store t x y,ty,pos,af,gd⟩ l w K Q:=by
 obtain⟨rfl,cells,hr1,hr2⟩:=hown;obtain⟨pre,c0,post,e2,h3,h4,h5⟩:=hr2.at hi;obtain⟨hfit,hnew⟩:=hu c0 h4;have hi':i<xs.length:=(List.getElem?_eq_some_iff.1 hi).1;rcases hr1.2 with ⟨hv',_⟩ | ⟨g,cap,cur,hv',_,hg,hnc,hcm,hcs,htk⟩
 ·omega
 ·simp at hv'
  obtain⟨rfl,rfl⟩:=hv';have hc0:=R.len h4;have hsize:v.cells.size=vs.length:=by grind
  have hcl:cells.length=xs.length*R.size:=hr1.1;have hcur:xs.length*R.size≤cur.size:=by grind
  have hp:i*R.size+off=pre.length+off:=by rw[h3]
  have hle:i*R.size+off+vs.length≤cur.size:=by grind
  have hst:=run_storeCells_at P b (i*R.size+off) e vs 0 cur w hg (by omega) h1;simp only[Nat.add_zero]at hst;have hcurl:cur.toList=(pre++c0++post)++cur.toList.drop (xs.length*R.size):=by grind[List.take_append_drop]
  have hf:Fz [some b] w (w.setRow b (cur.toList.take (i*R.size+off)++vs++cur.toList.drop (i*R.size+off+vs.length)).toArray) :=
   ⟨rfl,rfl,rfl,by simp,fun k hk hn=>setRow_other w b k _ (fun e=>hn (by simp[e]))⟩
  have S:Stp B own own F [some b] w (w.setRow b (cur.toList.take (i*R.size+off)++vs++cur.toList.drop (i*R.size+off+vs.length)).toArray):=Stp.store hL hLa hf;have hrow:=h5 u' _ hnew;refine yJ (w':=w.setRow b (cur.toList.take (i*R.size+off)++vs++cur.toList.drop (i*R.size+off+vs.length)).toArray) ?_ (h _ S ⟨by simp,_,⟨?_,.inr ⟨b,c,_,by simp,Nat.zero_le _,setRow_heap w b cur _ e (0,0) hg,by grind,hcm,?_,?_⟩⟩,hrow.step hf (fun k hk=>List.mem_append_left _ (S.hM k hk)) S.hs⟩)
  ·rw[Nat.zero_add]at hx
   simp only[execOp,hx,hy,Instr.storeAt,Instr.sureAddr,storeVar,Sem.run_bind,Sem.run_pure,zL,mH hs,hsize,ne_eq,not_true_eq_false,if_false,hv,hst]
  ·have:=hrow.len
   omega
  ·grind
  ·have hlen:=hrow.len
   rw[<- hlen];have e4:cur.toList.take (i*R.size+off)=pre++c0.take off:=by grind[List.append_assoc,UN]
   have e5:cur.toList.drop (i*R.size+off+vs.length)=c0.drop (off+vs.length)++(post++cur.toList.drop (xs.length*R.size)):=by grind[Nat.add_assoc,List.append_assoc,UO]
   grind
end
def ny(P:Program)(e:TypeId):Option ((t:Ty)×Vl t) :=
 match tyc P e,P.info? e with
 | some t,some i=>match i.zero with
  | some zv=>match pk t (zv.cells.toList.map ofV) with
   | some (z,[])=>if i.bytes≤131072∧0<t.size then some ⟨t,z⟩ else none
   | _=>none
  | none=>none
 | _,_=>none
theorem pO{pl:List Place}{L:Lx}{w:World}:∀l:List Value,DenL pl L w (l.map ofV) l
 | []=>rfl
 | v::r=>⟨v,r,rfl,Ic v,pO r⟩
theorem pP{P:Program}{e:TypeId}{t:Ty}{z:Vl t}(h:ny P e=some ⟨t,z⟩):TyRow P e (rp t) z:=by
 unfold ny at h;split at h
 ·rename_i t' i ht hi
  split at h
  ·rename_i zv hz
   split at h
   ·rename_i z' hpk
    split at h
    ·rename_i hb
     cases h
     obtain⟨ti,h1,h2⟩:=uD (oH ht).size;rw[hi]at h1;cases h1;have hrel:∀(L:Lx) (w:World),(rp t).rel L w zv.cells.toList z:=fun L w=>by obtain⟨cs,vs,e1,e2,e3⟩:=oG (pl:=[]) (L:=L) (w:=w) hpk (pO _);cases e3;simp_all
     refine⟨⟨i,zv,hi,hz,h2,hb.1,?_,hrel⟩,by simp_all[jc]⟩;rw[<- Array.length_toList];exact (rp t).len (hrel [] default)
    grind
   grind
  grind
 grind
end Ev
end
noncomputable section
namespace Sx
open Go Go.RowKit
section
variable {P:Program}{o:Oper}{l:List Value}{w:World}{Q:Exit->Act->World->Prop}{K:List Value->World->Prop}{d:Option Tmp}{ty:TypeId}{pos:String}{af:Array Edge}{gd:Option (Nat×Bool)}{α:Type}{R:Rp α}{L:Lx}
theorem acT{r:Result Value}{v:Value}{w':World}(h:r = .ok v w'):∃v2 w2,(r.andThen fun a w=>Result.ok (Next.value a) w) = .ok (.value v2) w2:=by simp_all
theorem Na{o':Oper}(hd:o'.dst=o.dst)(hr:(execOp (ev l) o).run P w=(execOp (ev l) o').run P w)(hv:∃v w',(execOp (ev l) o').run P w = .ok (.value v) w')(h:OW P o' l w K Q):OW P o l w K Q:=by obtain⟨v,w',hv⟩:=hv;intro r;have h:=(h r).2;refine⟨fun _ _=>trivial,?_⟩;rw[sK]at h ⊢;rw[q8 hv (by simp),Oper.uponIn_value]at h;rw[q8 (hr.trans hv) (by simp),Oper.uponIn_value,<- hd];exact h
theorem ae0{t ty e:TypeId}{i:TypeInfo}(ht:P.underlying t=some (.slice e))(hi:P.info? e=some i)(a:Addr)(b:Addr)(n c:Nat)(h0:0<n) :
  (Builtin.append_ #[t,t] ty #[.slice (some a) 0 0,.slice (some b) n c]).run P w=(Builtin.append_ #[t,t] ty #[.slice none 0 0,.slice (some b) n c]).run P w ∨
  ¬ Builtin.nextslicecap n 0*i.bytes≤281474976710656:=by
 by_cases hc:Builtin.nextslicecap n 0*i.bytes≤281474976710656
 ·left
  have hn:n≠0:=by omega
  have hc':¬ (281474976710656<Builtin.nextslicecap n 0*i.bytes):=by omega
  simp[Builtin.append_,run_underlying ht,Go.sizeOf,typeInfo,hi,Builtin.lenOf,hn,hc',Builtin.firstCells,loadCells,loadCellsFrom]
 omega
theorem UQ{B:Nat->Prop}{pre post F:Lx}{s x:Operand}{t e:TypeId}{z:α}{a a2:Option Addr}{n c c2 n2:Nat}{xs ys:List α}(ht:P.underlying t=some (.slice e))(hr:TyRow P e R z)
  (hs:ev l s = .slice a n c∨(a=none∧n=0∧c=0∧∃a',ev l s = .slice a' 0 0)) (hx:ev l x = .slice a2 n2 c2) (hL:LOk B (pre++blk a::post) F w) (hown:Ow R e ((pre++blk a::post)++F) w a n c xs)
  (hy:(Rp.slice R).rel ((pre++blk a::post)++F) w [.slice a2 n2 c2] ys) (hsm:small (xs.length+ys.length)=true)
  (h:∀v a' n' c' w',(v = .slice a' n' c'∨(a'=none∧n'=0∧c'=0∧∃a,v = .slice a 0 0))->Stp B (pre++blk a::post) (pre++blk a'::post) F [blk a] w w'->Ow R e ((pre++blk a'::post)++F) w' a' n' c' (xs++ys)->K (st l d v) w') :
  OW P ⟨d,.call { callee:=.builtin .append,args:=#[s,x],argTypes:=#[t,t] },ty,pos,af,gd⟩ l w K Q:=by
 rcases hs with hs | ⟨rfl,rfl,rfl,a0,hs⟩
 ·exact uZ ht hr hs hx hL hown hy hsm (fun a' n' c' w' S O=>h _ a' n' c' w' (.inl rfl) S O)
 ·cases a0 with
  | none=>exact uZ ht hr hs hx hL hown hy hsm (fun a' n' c' w' S O=>h _ a' n' c' w' (.inl rfl) S O)
  | some a0 =>
   obtain⟨i,zv,hi,hz,hsz,hby,hzs,hzr⟩:=hr.info;have hxs:xs=[]:=List.eq_nil_of_length_eq_zero hown.1.symm;subst hxs;by_cases hne:ys=[]
   ·subst hne
    have hn2:n2=0:=Bi hy;subst hn2
    have hrun:(Builtin.append_ #[t,t] ty #[.slice (some a0) 0 0,.slice a2 0 c2]).run P w = .ok (.slice (some a0) 0 0) w:=by
     cases a2 with
     | none=>simp_all[rG,Nat.le_refl]
     | some ad=>simp[Builtin.append_,run_underlying ht,Go.sizeOf,typeInfo,hi,Builtin.lenOf,Builtin.firstCells,loadCells,loadCellsFrom,storeCells]
    refine kZ (v:=.slice (some a0) 0 0) (w':=w) ?_ (h _ none 0 0 w (.inr ⟨rfl,rfl,rfl,_,rfl⟩) ⟨Fz.refl _ _,fun k hk=>by simp_all,Sub.refl _ _,hL⟩ hown);simp_all[execOp,resolve,invoke,builtin,Sem.run_bind,Sem.run_pure,zL,List.map_toArray,List.map_cons,List.map_nil]
   ·obtain⟨b,o,news,rfl,rfl,h3,h4⟩:=uY hy hne
    have hpos:0<ys.length:=List.length_pos_iff.2 hne;have hsm':=pM hsm;simp only[List.length_nil,Nat.zero_add]at hsm';have hbytes:ys.length*i.bytes≤140737488355328:=by have:ys.length*i.bytes≤1073741824*131072:=Nat.mul_le_mul hsm' hby;omega
    have hcapz:Builtin.nextslicecap ys.length 0*i.bytes≤281474976710656:=by
     have e1:Builtin.nextslicecap ys.length 0=ys.length:=by simp_all[Builtin.nextslicecap,if_pos]
     grind
    have heq:=(ae0 (P:=P) (w:=w) (ty:=ty) ht hi a0 ⟨b,o,none⟩ ys.length c2 hpos).resolve_right (fun hc=>hc hcapz);have hnil:=run_append_nil (P:=P) w t ty e i zv ht hi hz ⟨b,o,none⟩ ys.length c2 news (by rw[hsz];exact h3.len) h4 hpos (by omega) (by omega)
    refine Na (o':=⟨d,.call { callee:=.builtin .append,args:=#[.const (.slice none 0 0),x],argTypes:=#[t,t] },ty,pos,af,gd⟩) rfl ?_ ?_
     (uZ ht hr rfl hx hL hown hy hsm (fun a' n' c' w' S O=>h _ a' n' c' w' (.inl rfl) S O))
    ·simp only[execOp,resolve,invoke,builtin,Sem.run_bind,Sem.run_pure,zL,List.map_toArray,List.map_cons,List.map_nil,hs,hx,heq]
     rfl
    ·simp only[execOp,resolve,invoke,builtin,Sem.run_bind,Sem.run_pure,zL,List.map_toArray,List.map_cons,List.map_nil,hx]
     exact acT hnil
theorem Gu(L:Lx)(w:World):∀s:List UInt8,RowsOf (Rp.int .u8) L w (s.map fun b=>Value.int .u8 b.toNat) (s.map fun b=>(b.toNat:Int))
 | []=>rfl
 | b::s=>⟨[.int .u8 b.toNat],_,rfl,rfl,Gu L w s⟩
theorem vg{B:Nat->Prop}{pre post F:Lx}{s x:Operand}{t u e:TypeId}{i:TypeInfo}{a:Option Addr}{n c:Nat}{xs:List Int}{b:List UInt8}(ht:P.underlying t=some (.slice e))(hu:P.underlying u=some .string)
  (hi:P.info? e=some i) (hz:i.zero=some (.int .u8 0)) (hsz:i.size=1) (hby:i.bytes=1)
  (hs:ev l s = .slice a n c) (hx:ev l x = .string ⟨⟨b⟩⟩) (hL:LOk B (pre++blk a::post) F w) (hown:Ow (Rp.int .u8) e ((pre++blk a::post)++F) w a n c xs)
  (hsm:small (xs.length+b.length)=true)
  (h:∀a' n' c' w',Stp B (pre++blk a::post) (pre++blk a'::post) F [blk a] w w'->Ow (Rp.int .u8) e ((pre++blk a'::post)++F) w' a' n' c' (xs++b.map fun b=>(b.toNat:Int))->K (st l d (.slice a' n' c')) w') :
  OW P ⟨d,.call { callee:=.builtin .append,args:=#[s,x],argTypes:=#[t,u] },ty,pos,af,gd⟩ l w K Q:=by
 obtain⟨rfl,cells,h1,h2⟩:=hown;have hsm':=pM hsm;have hbs:(⟨⟨b⟩⟩:ByteArray).size=b.length:=rfl;have hcells:Lib.strCells ⟨⟨b⟩⟩=b.map fun b=>Value.int .u8 b.toNat:=rfl;obtain⟨v',w',hrun,h5,h6,h7⟩:=Lib.run_append_own_string (P:=P) w 0 t u ty e i ht hu hi hz hsz hby (.slice a xs.length c) xs.length cells h1 ⟨⟨b⟩⟩ (by grind[maxLen]) (by omega) (Nat.zero_le _);rw[hbs]at h5 h7
 have hshape:∃a' c',v' = .slice a' (xs.length+b.length) c':=by
  rcases h5.2 with ⟨hv,hn⟩ | ⟨g,cap,cur,hv,_⟩
  ·simp_all
  simp_all
 obtain⟨a',c',rfl⟩:=hshape
 have hb:∀k,blk a'=some k->blk a=some k∨(w.heap.size≤k∧k<w'.heap.size):=by
  intro k hk;by_cases hlt:w.heap.size≤k
  ·exact .inr ⟨hlt,(h5.lt k (by simp_all[zh])).2⟩
  ·refine .inl ?_
   rcases h1.2 with ⟨hv,hn⟩ | ⟨g,cap,cur,hv,_,hg,hnc,_,hcs,_⟩
   ·simp at hv
    obtain⟨rfl,hx0,rfl⟩:=hv;by_cases hb0:b=[]
    ·simp_all
    ·have hpos:0<b.length:=List.length_pos_iff.2 hb0
     rw[hx0]at hrun;simp only[List.length_nil,Nat.zero_add]at hrun;rw[run_append_nil_string (P:=P) w t u ty e i _ ht hu hi hz ⟨⟨b⟩⟩ (by omega) (by omega) (by grind)]at hrun;grind[Result.ok.injEq,Value.slice.injEq,blk]
   ·simp at hv
    obtain⟨rfl,rfl⟩:=hv;have hcs':cur.size=c:=by simp_all[Rp.int]
    by_cases hroom:xs.length+b.length≤c
    ·grind[Lib.run_append_room_string,Result.ok.injEq,Value.slice.injEq]
    ·rw[Lib.run_append_grow_string (P:=P) w t u ty e i _ ht hu hi hz ⟨g,0,none⟩ xs.length c cells (by rw[hsz];exact h2.len) (h1.cells (g:=g) rfl) ⟨⟨b⟩⟩
      (by omega) (by omega) (by rw[hbs,hby];exact growslice_fits (by omega) (by omega))]at hrun
     grind[Result.ok.injEq,Value.slice.injEq,blk]
 have hf:Fz [blk a] w w':=by simp_all[Fz.of_grown,zh]
 have S:=Stp.turn hL hf hb;refine kZ (v:=.slice a' (xs.length+b.length) c') (w':=w') ?_ (h a' _ c' w' S ⟨by simp,cells++Lib.strCells ⟨⟨b⟩⟩,?_,?_⟩)
 ·simp_all[execOp,resolve,invoke,builtin,Sem.run_bind,Sem.run_pure,zL,List.map_toArray,List.map_cons,List.map_nil]
 ·have e1:(xs++b.map fun b=>(b.toNat:Int)).length=xs.length+b.length:=by simp
  rw[e1];exact h5
 ·rw[hcells]
  exact (h2.step hf (fun k hk=>by simp_all) S.hs).append (Gu _ _ b)
theorem SE{B:Nat->Prop}{pre post F:Lx}{s x:Operand}{t u e:TypeId}{i:TypeInfo}{a:Option Addr}{n c:Nat}{xs:List Int}{b:List UInt8}(ht:P.underlying t=some (.slice e))(hu:P.underlying u=some .string)
  (hi:P.info? e=some i) (hz:i.zero=some (.int .u8 0)) (hsz:i.size=1) (hby:i.bytes=1)
  (hs:ev l s = .slice a n c∨(a=none∧n=0∧c=0∧∃a',ev l s = .slice a' 0 0)) (hx:ev l x = .string ⟨⟨b⟩⟩) (hL:LOk B (pre++blk a::post) F w) (hown:Ow (Rp.int .u8) e ((pre++blk a::post)++F) w a n c xs)
  (hsm:small (xs.length+b.length)=true)
  (h:∀v a' n' c' w',(v = .slice a' n' c'∨(a'=none∧n'=0∧c'=0∧∃a,v = .slice a 0 0))->Stp B (pre++blk a::post) (pre++blk a'::post) F [blk a] w w'->Ow (Rp.int .u8) e ((pre++blk a'::post)++F) w' a' n' c' (xs++b.map fun b=>(b.toNat:Int))->K (st l d v) w') :
  OW P ⟨d,.call { callee:=.builtin .append,args:=#[s,x],argTypes:=#[t,u] },ty,pos,af,gd⟩ l w K Q:=by
 rcases hs with hs | ⟨rfl,rfl,rfl,a0,hs⟩
 ·exact vg ht hu hi hz hsz hby hs hx hL hown hsm (fun a' n' c' w' S O=>h _ a' n' c' w' (.inl rfl) S O)
 ·cases a0 with
  | none=>exact vg ht hu hi hz hsz hby hs hx hL hown hsm (fun a' n' c' w' S O=>h _ a' n' c' w' (.inl rfl) S O)
  | some a0 =>
   have hxs:xs=[]:=List.eq_nil_of_length_eq_zero hown.1.symm;subst hxs;have hbs:(⟨⟨b⟩⟩:ByteArray).size=b.length:=rfl;have hsm':=pM hsm;simp only[List.length_nil,Nat.zero_add]at hsm';by_cases hne:b=[]
   ·subst hne
    have hrun:(Builtin.append_ #[t,u] ty #[.slice (some a0) 0 0,.string ⟨⟨[]⟩⟩]).run P w = .ok (.slice (some a0) 0 0) w:=by have e0:(⟨⟨[]⟩⟩:ByteArray).size=0:=rfl;simp[Builtin.append_,run_underlying ht,run_underlying hu,Go.sizeOf,typeInfo,hi,Builtin.lenOf,Builtin.firstCells,storeCells,e0]
    refine kZ (v:=.slice (some a0) 0 0) (w':=w) ?_ (h _ none 0 0 w (.inr ⟨rfl,rfl,rfl,_,rfl⟩) ⟨Fz.refl _ _,fun k hk=>by simp_all,Sub.refl _ _,hL⟩ hown);simp_all[execOp,resolve,invoke,builtin,Sem.run_bind,Sem.run_pure,zL,List.map_toArray,List.map_cons,List.map_nil]
   ·have hpos:0<b.length:=List.length_pos_iff.2 hne
    have hnil:=run_append_nil_string (P:=P) w t u ty e i _ ht hu hi hz ⟨⟨b⟩⟩ (by omega) (by omega) (by grind)
    have heq:(Builtin.append_ #[t,u] ty #[.slice (some a0) 0 0,.string ⟨⟨b⟩⟩]).run P w=(Builtin.append_ #[t,u] ty #[.slice none 0 0,.string ⟨⟨b⟩⟩]).run P w:=by
     have hn:b.length≠0:=by omega
     have hc':¬ (281474976710656<Builtin.nextslicecap b.length 0*i.bytes):=by
      have e1:Builtin.nextslicecap b.length 0=b.length:=by simp_all[Builtin.nextslicecap,if_pos]
      grind
     have h63':¬ (9223372036854775807<(b.length:Int)):=by omega
     simp[Builtin.append_,run_underlying ht,run_underlying hu,Go.sizeOf,typeInfo,hi,Builtin.lenOf,hbs,hn,hc',h63',Builtin.firstCells,loadCells,loadCellsFrom]
    refine Na (o':=⟨d,.call { callee:=.builtin .append,args:=#[.const (.slice none 0 0),x],argTypes:=#[t,u] },ty,pos,af,gd⟩) rfl ?_ ?_
     (vg ht hu hi hz hsz hby rfl hx hL hown hsm (fun a' n' c' w' S O=>h _ a' n' c' w' (.inl rfl) S O))
    ·simp only[execOp,resolve,invoke,builtin,Sem.run_bind,Sem.run_pure,zL,List.map_toArray,List.map_cons,List.map_nil,hs,hx,heq]
     rfl
    ·simp only[execOp,resolve,invoke,builtin,Sem.run_bind,Sem.run_pure,zL,List.map_toArray,List.map_cons,List.map_nil,hx]
     exact acT hnil
end
def u8(c:Int):UInt8:=c.toNat.toUInt8
end Sx
end
noncomputable section
namespace Sx
open Go Go.RowKit
section
variable {P:Program}(w:World)
theorem yO(t tn ty e:TypeId)(i:TypeInfo)(z:Value)(kq kn:IntKind)(ht:P.underlying t=some (.slice e))(htn:P.underlying tn=some (.int kn))(hi:P.info? e=some i)(hz:i.zero=some z)
  (g sLen sCap:Nat) (cur:Array Value) (hg:w.heap[g]? = some (.cells cur e (0,0))) (m:Nat) (h0:0<m) (hs:0<i.size) (hzs:z.cells.size=i.size) (h1:∀v∈(Builtin.zeroCells z.cells m).toList,v.oneCell'=true)
  (h63:(m:Int)≤9223372036854775807) (h48:m*i.bytes≤281474976710656) (hroom:sLen+m≤sCap) (hfit:sLen*i.size+m*i.size≤cur.size) :
  (Builtin.append_ #[t,tn] ty #[.slice (some ⟨g,0,none⟩) sLen sCap,.int kq m]).run P w =
   .ok (.slice (some ⟨g,0,none⟩) (sLen+m) sCap) (w.setRow g (cur.toList.take (sLen*i.size)++(Builtin.zeroCells z.cells m).toList++cur.toList.drop (sLen*i.size+m*i.size)).toArray):=by
 have hk:m≠0:=by omega
 have hw:IntKind.i64.wrap (m:Int)=m:=by grind[IntKind.wrap_i64]
 have h48i:¬ (281474976710656<(m:Int)*(i.bytes:Int)):=by omega
 have hneg:¬ ((m:Int)<0):=by omega
 have hns:¬ (m*i.size=0):=Nat.mul_ne_zero hk (by omega);have hzl:(Builtin.zeroCells z.cells m).toList.length=m*i.size:=by rw[Array.length_toList,size_zeroCells,hzs]
 have hst:=run_storeCells_at P g (sLen*i.size) e (Builtin.zeroCells z.cells m).toList 0 cur w hg (by omega) h1;rw[hzl]at hst;simp only[Nat.add_zero]at hst;simp[Builtin.append_,run_underlying ht,run_underlying htn,Go.sizeOf,typeInfo,zeroValue,hi,hz,asInt,asIntOf,hw,hneg,hns,h48i,hroom,Addr.add_lit,hst]
theorem zx(base:Nat)(t tn ty e:TypeId)(i:TypeInfo)(z:Value)(kq kn:IntKind)(size bytes:Nat)(ht:P.underlying t=some (.slice e))(htn:P.underlying tn=some (.int kn))(hi:P.info? e=some i)(hz:i.zero=some z)
  (hsize:i.size=size) (hby:i.bytes=bytes) (hzs:z.cells.size=size) (hsz:0<size)
  (v:Value) (n:Nat) (xs:List Value) (hown:w.ownsRow base e size v n xs) (m:Nat) (hm:0<m) (h1:∀v∈(Builtin.zeroCells z.cells m).toList,v.oneCell'=true)
  (h63:n+m≤maxLen) (hbytes:(n+m)*bytes≤140737488355328) (hbase:base≤w.heap.size) :
  ∃v' w',(Builtin.append_ #[t,tn] ty #[v,.int kq m]).run P w = .ok v' w'∧w'.ownsRow base e size v' (n+m) (xs++(Builtin.zeroCells z.cells m).toList)∧w.grownBy w' v.ownBlock ∧
   (v'.ownBlock=v.ownBlock∨v'.ownBlock=some w.heap.size):=by
 subst hsize;subst hby;have hsmall:n+m≤9223372036854775807:=by simp_all[maxLen]
 have hl:(Builtin.zeroCells z.cells m).toList.length=m*i.size:=by rw[Array.length_toList,size_zeroCells,hzs]
 have hmb:m*i.bytes≤140737488355328:=Nat.le_trans (Nat.mul_le_mul_right _ (Nat.le_add_left m n)) hbytes;have hlen:(xs++(Builtin.zeroCells z.cells m).toList).length=(n+m)*i.size:=by rw[List.length_append,hown.1,hl,Nat.add_mul]
 have grown:∀(old:Nat),old<n+m->∀(row:Option Nat),
   (w.drew.alloc (.cells (xs.toArray++Builtin.zeroCells z.cells m++Builtin.zeroCells z.cells (grownCap w (n+m) old e - (n+m))) e)).ownsRow base e i.size
    (.slice (some ⟨w.heap.size,0,none⟩) (n+m) (grownCap w (n+m) old e)) (n+m) (xs++(Builtin.zeroCells z.cells m).toList) ∧
   w.grownBy (w.drew.alloc (.cells (xs.toArray++Builtin.zeroCells z.cells m++Builtin.zeroCells z.cells (grownCap w (n+m) old e - (n+m))) e)) row:=by
  intro old ho row;have hge:=grownCap_ge w (n+m) old e;have hcm:grownCap w (n+m) old e≤maxLen:=grownCap_le_maxLen w (n+m) old e h63;refine⟨⟨hlen,.inr ⟨w.heap.size,_,_,rfl,hbase,heap_alloc_new w.drew _,hge,hcm,?_,?_⟩⟩,⟨rfl,rfl,rfl,by simp,fun k hk _=>by first | exact Go.heap_alloc_old w.drew _ k hk | exact heap_alloc_old w.drew _ hk⟩⟩
  ·simp only[Array.size_append,List.size_toArray,size_zeroCells,hzs,hown.1,<- Nat.add_mul]
   simp_all
  grind
 rcases hown.2 with ⟨rfl,rfl⟩ | ⟨g,cap,cur,rfl,hbg,hg,hnc,hcm,hcs,htake⟩
 ·have hx:xs=[]:=List.eq_nil_of_length_eq_zero (by simp_all)
  subst hx;have hr:=Lib.run_append_nil_zeros (P:=P) w t tn ty e i z kq kn ht htn hi hz m hm hsz (by omega) (by omega);have hgr:=grown 0 (by omega) (Value.ownBlock (.slice none 0 0));simp only[Nat.zero_add,List.nil_append,Array.empty_append]at hgr ⊢;exact⟨_,_,hr,hgr.1,hgr.2,Or.inr rfl⟩
 ·by_cases hroom:n+m≤cap
  ·have hfit:n*i.size+m*i.size≤cur.size:=by rw[hcs,<- Nat.add_mul];exact Nat.mul_le_mul_right _ hroom
   have hr:=yO (P:=P) w t tn ty e i z kq kn ht htn hi hz g n cap cur hg m hm hsz hzs h1 (by omega) (by omega) hroom hfit;refine⟨_,_,hr,⟨hlen,.inr ⟨g,cap,_,rfl,hbg,setRow_heap w g cur _ e _ hg,hroom,hcm,?_,?_⟩⟩,⟨rfl,rfl,rfl,by simp,fun k _ hk=>setRow_other w g k _ (fun e=>hk (by simp[Value.ownBlock,e]))⟩,Or.inl rfl⟩
   ·grind
   grind
  ·have holds:∀j u,xs[j]? = some u->w.cell? ((⟨g,0,none⟩:Addr).add j)=some u:=hown.cells (g:=g) rfl
   have hfo:=run_firstCells_some (P:=P) w.drew i.size n ⟨g,0,none⟩ n cap xs hown.1 (by simp_all);have hr:=Lib.run_append_grow_zeros (P:=P) w t tn ty e i z kq kn ht htn hi hz (some ⟨g,0,none⟩) n cap xs hfo m hm hsz (by omega) (by omega) (by omega) (growslice_fits (by omega) hbytes);have hgr:=grown cap (by omega) (Value.ownBlock (.slice (some ⟨g,0,none⟩) n cap));exact⟨_,_,hr,hgr.1,hgr.2,Or.inr rfl⟩
end
section
variable {P:Program}{l:List Value}{w:World}{d:Option Tmp}{ty:TypeId}{pos:String}{af:Array Edge}{gd:Option (Nat×Bool)}
 {Q:Exit->Act->World->Prop} {K:List Value->World->Prop} {α:Type} {R:Rp α} {L:Lx}
theorem UR{B:Nat->Prop}{pre post F:Lx}{s x:Operand}{t tn e:TypeId}{z:α}{kq kn:IntKind}{a:Option Addr}{n c:Nat}{m:Int}{xs:List α}(ht:P.underlying t=some (.slice e))(htn:P.underlying tn=some (.int kn))(hr:TyRow P e R z)
  (hs:ev l s = .slice a n c) (hx:ev l x = .int kq m) (hm:1≤m) (hL:LOk B (pre++blk a::post) F w) (hown:Ow R e ((pre++blk a::post)++F) w a n c xs)
  (hsm:small (xs.length+m.toNat)=true)
  (h:∀a' n' c' w',Stp B (pre++blk a::post) (pre++blk a'::post) F [blk a] w w'->Ow R e ((pre++blk a'::post)++F) w' a' n' c' (xs++zE m.toNat z)->K (st l d (.slice a' n' c')) w') :
  OW P ⟨d,.call { callee:=.builtin .append,args:=#[s,x],argTypes:=#[t,tn] },ty,pos,af,gd⟩ l w K Q:=by
 obtain⟨rfl,cells,h1,h2⟩:=hown;obtain⟨i,zv,hi,hz,hsz,hby,hzs,hzr⟩:=hr.info;have hsm:=pM hsm;obtain⟨M,rfl⟩:=zN (Int.le_trans (by decide) hm);simp only[zQ]at *;have hM:0<M:=by omega
 have hfl:(Builtin.zeroCells zv.cells M).toList=(zE M zv.cells.toList).flatten:=uX zv.cells M;have hrows:∀(L':Lx) (w':World),RowsOf R L' w' (Builtin.zeroCells zv.cells M).toList (zE M z):=fun L' w'=>by simp_all[RowsOf.replicate]
 obtain⟨v',w',hrun,h5,h6,h7⟩:=zx (P:=P) w 0 t tn ty e i zv kq kn R.size i.bytes ht htn hi hz hsz rfl hzs hr.pos (.slice a xs.length c) xs.length cells h1 M hM ((hrows ((pre++blk a::post)++F) w).one)
  (by grind[maxLen]) (by
   have:(xs.length+M)*i.bytes≤1073741824*131072:=Nat.mul_le_mul hsm hby
   omega) (Nat.zero_le _)
 have hshape:∃a' c',v' = .slice a' (xs.length+M) c':=by
  rcases h5.2 with ⟨hv,hn⟩ | ⟨g,cap,cur,hv,_⟩
  ·omega
  simp_all
 obtain⟨a',c',rfl⟩:=hshape
 have hb:∀k,blk a'=some k->blk a=some k∨(w.heap.size≤k∧k<w'.heap.size):=by
  intro k hk;rcases h7 with h7 | h7
  ·simp_all[zh]
  ·refine .inr ?_
   rw[zh,hk]at h7;cases h7;exact⟨Nat.le_refl _,(h5.lt w.heap.size (by simp_all[zh])).2⟩
 have hf:Fz [blk a] w w':=by simp_all[Fz.of_grown,zh]
 have S:=Stp.turn hL hf hb;refine kZ (v:=.slice a' (xs.length+M) c') (w':=w') ?_ (h a' _ c' w' S ⟨by simp,cells++(Builtin.zeroCells zv.cells M).toList,?_,?_⟩)
 ·simp_all[execOp,resolve,invoke,builtin,Sem.run_bind,Sem.run_pure,zL,List.map_toArray,List.map_cons,List.map_nil]
 ·simp_all
 ·exact (h2.step hf (fun k hk=>by simp_all) S.hs).append (hrows _ _)
end
end Sx
end
noncomputable section
namespace Ev
open Go Go.RowKit Sx
def Gv:SV->Option (List SV)
 | .agg l=>some l
 | .d t x=>if t.agg then unp t x else some [.d t x]
 | .tup _=>none
 | .k v=>if v.oneCell'=true then some [.k v] else none
 | s=>some [s]
def kK(i:Nat)(e:Ent):List (Nat×Ent)->List (Nat×Ent)
 | []=>[]
 | (j,q)::r=>if j=i then (j,e)::r else (j,q)::kK i e r
def nX(i n:Nat)(e:Ent):List (Nat×Ent)->List (Nat×Ent)
 | []=>[]
 | (j,q)::r=>if j=i then (n,e)::r else (j,q)::nX i n e r
section
variable {B:Nat->Prop}{F:Lx}{w0:Bs}{wr:Wr}{pl pl':List Place}{S S':St}{l l':List Value}{ls:List (List Value)}{w w':World}{L L' M:Lx}
theorem xA{u:Value}(h:u.oneCell'=true):u.cells.toList=[u]:=by cases u<;>first | rfl | grind[Value.oneCell']
theorem Bt{s:SV}{u:Value}{cs:List SV}(hd:Den pl L w s u)(h:Gv s=some cs):DenL pl L w cs u.cells.toList∧∀v∈u.cells.toList,v.oneCell'=true:=by
 have key:u.oneCell'=true->DenL pl L w [s] u.cells.toList∧∀v∈u.cells.toList,v.oneCell'=true:=fun h1=>by rw[xA h1];exact⟨⟨u,[],rfl,hd,rfl⟩,fun v hv=>by simp_all⟩
 cases s with
 | agg l=>cases h;obtain⟨us,h1,h2,rfl⟩:=hd;exact⟨h1,h2⟩
 | d t x =>
  have h:(if t.agg then unp t x else some [.d t x])=some cs:=h;split at h
  ·rename_i ht
   obtain⟨cs',h1,rfl⟩:=hd;have e:((rp t).val cs').cells.toList=cs':=by simp[Rp.val,iQ,ht,Value.cells]
   rw[e];exact⟨rA h h1,(rp t).one h1⟩
  ·rename_i ht
   cases h
   exact key (rH hd (fun _ e=>by cases e) (fun _ e=>by cases e) (fun _ e=>by cases e) (fun _ _ e=>by simp_all))
 | tup l=>cases h
 | k v =>
  have h:(if v.oneCell'=true then some [SV.k v] else none)=some cs:=h;split at h
  ·rename_i h1
   cases h
   have hd':u=v:=hd;simp_all
  grind
 | dx t x=>cases h;exact key (rH hd (fun _ e=>by cases e) (fun _ e=>by cases e) (fun _ e=>by cases e) (fun _ _ e=>by cases e))
 | row i=>cases h;exact key (rH hd (fun _ e=>by cases e) (fun _ e=>by cases e) (fun _ e=>by cases e) (fun _ _ e=>by cases e))
 | pb i o=>cases h;exact key (rH hd (fun _ e=>by cases e) (fun _ e=>by cases e) (fun _ e=>by cases e) (fun _ _ e=>by cases e))
 | pra i j sz o m ft k o2=>cases h;exact key (rH hd (fun _ e=>by cases e) (fun _ e=>by cases e) (fun _ e=>by cases e) (fun _ _ e=>by cases e))
 | prw i j sz o=>cases h;exact key (rH hd (fun _ e=>by cases e) (fun _ e=>by cases e) (fun _ e=>by cases e) (fun _ _ e=>by cases e))
 | pe t x=>cases h;exact key (rH hd (fun _ e=>by cases e) (fun _ e=>by cases e) (fun _ e=>by cases e) (fun _ _ e=>by cases e))
 | sd i=>cases h;exact key (rH hd (fun _ e=>by cases e) (fun _ e=>by cases e) (fun _ e=>by cases e) (fun _ _ e=>by cases e))
 | rowz i=>cases h;exact key (rH hd (fun _ e=>by cases e) (fun _ e=>by cases e) (fun _ e=>by cases e) (fun _ _ e=>by cases e))
 | sub i sz lo n=>cases h;exact key (rH hd (fun _ e=>by cases e) (fun _ e=>by cases e) (fun _ e=>by cases e) (fun _ _ e=>by cases e))
 | opb b i o=>cases h;exact key (rH hd (fun _ e=>by cases e) (fun _ e=>by cases e) (fun _ e=>by cases e) (fun _ _ e=>by cases e))
 | mp i=>cases h;exact key (rH hd (fun _ e=>by cases e) (fun _ e=>by cases e) (fun _ e=>by cases e) (fun _ _ e=>by cases e))
 | fn f a b=>cases h;exact key (rH hd (fun _ e=>by cases e) (fun _ e=>by cases e) (fun _ e=>by cases e) (fun _ _ e=>by cases e))
 | ifc t v=>cases h;exact key (rH hd (fun _ e=>by cases e) (fun _ e=>by cases e) (fun _ e=>by cases e) (fun _ _ e=>by cases e))
theorem lu{α:Type}:∀{own:List (Nat×α)} {i:Nat} {e:α},get own i=some e->∃pre post,own=pre++(i,e)::post∧∀x∈pre,x.1≠i
 | (j,q)::own,i,e,h=>by
  unfold get at h;split at h
  ·rename_i hj
   cases h
   subst hj;exact⟨[],own,rfl,by simp⟩
  ·rename_i hj
   obtain⟨pre,post,h1,h2⟩:=lu h;grind
theorem Gw{i:Nat}{e e':Ent}:∀{pre post:List (Nat×Ent)},(∀x∈pre,x.1≠i)->kK i e' (pre++(i,e)::post)=pre++(i,e')::post
 | [],post,_=>by simp[kK]
 | (j,q)::pre,post,h=>by have hj:j≠i:=h _ (List.mem_cons_self ..);show (if j=i then (j,e')::(pre++(i,e)::post) else (j,q)::kK i e' (pre++(i,e)::post))=_;rw[if_neg hj,Gw (fun x hx=>h x (zT _ hx))];rfl
theorem Gx{i n:Nat}{e e':Ent}:∀{pre post:List (Nat×Ent)},(∀x∈pre,x.1≠i)->nX i n e' (pre++(i,e)::post)=pre++(n,e')::post
 | [],post,_=>by simp[nX]
 | (j,q)::pre,post,h=>by have hj:j≠i:=h _ (List.mem_cons_self ..);show (if j=i then (n,e')::(pre++(i,e)::post) else (j,q)::nX i n e' (pre++(i,e)::post))=_;rw[if_neg hj,Gx (fun x hx=>h x (zT _ hx))];rfl
theorem lY{i:Nat}{e:Ent}{pre post:List (Nat×Ent)}:lx pl (pre++(i,e)::post)=lx pl pre++plb pl i::lx pl post:=by grind[lx]
theorem others{pre post:List (Nat×Ent)}{i:Nat}{e:Ent}(hL:LOk B (lx pl (pre++(i,e)::post)) F w){x:Nat×Ent}(hx:x∈pre∨x∈post):∀k,plb pl x.1=some k->some k ∉ [plb pl i]:=fun k hk hm=>by
 simp at hm;have hp:=hL.pair;rw[lY,List.pairwise_append,List.pairwise_cons]at hp;obtain⟨_,⟨h2,_⟩,h4⟩:=hp;rcases hx with hx | hx
 ·have hmem:some k∈lx pl pre:=by rw[<- hk];exact List.mem_map_of_mem (f:=fun e:Nat×Ent=>plb pl e.1) hx
  grind
 ·have hmem:some k∈lx pl post:=by rw[<- hk];exact List.mem_map_of_mem (f:=fun e:Nat×Ent=>plb pl e.1) hx
  grind
theorem Rel.mod(h:Rel B F w0 wr pl S l ls w){i:Nat}{e e':Ent}(hg:get S.own i=some e)(hs:Stp B (lx pl S.own) (lx pl S.own) F [plb pl i] w w')(he:EntD pl (lx pl S.own++F) w' i e') :
  Rel B F w0 wr pl { S with own:=kK i e' S.own,log:=i::S.log } l ls w':=by
 obtain⟨pre,post,h1,h2⟩:=lu hg;have e1:kK i e' S.own=pre++(i,e')::post:=by grind[Gw]
 have e2:lx pl (kK i e' S.own)=lx pl S.own:=by simp_all[lY]
 have hL:=h.hL;rw[h1]at hL;refine h.go (M:=[plb pl i]) (S':={ S with own:=kK i e' S.own,log:=i::S.log }) (by simp_all) (fun _ _ h=>h) h.nx (Nat.le_refl _) rfl rfl rfl (fun j hj=>zT _ hj) (fun x hx=>?_);have hx:x∈kK i e' S.own:=hx;rw[e1]at hx;have key:x∈pre∨x∈post->(x∈S.own∧∀k,plb pl x.1=some k->some k ∉ [plb pl i]):=fun hx=>⟨by grind,others hL hx⟩;rcases List.mem_append.1 hx with hx | hx
 ·simp_all
 ·rcases List.mem_cons.1 hx with hx | hx
  ·subst hx
   refine .inr ⟨.inr ⟨List.mem_cons_self ..,_,iI hg,rfl⟩,?_⟩;simp_all
  simp_all
theorem Rel.rep(h:Rel B F w0 wr pl S l ls w){i:Nat}{e e':Ent}{p:Place}{pre post:List (Nat×Ent)}(h1:S.own=pre++(i,e)::post)(h2:∀x∈pre,x.1≠i)
  (hs:Stp B (lx pl pre++plb pl i::lx pl post) (lx pl pre++blk p.a::lx pl post) F [plb pl i] w w')
  (he:EntD (pl++[p]) ((lx pl pre++blk p.a::lx pl post)++F) w' pl.length e') :
  Rel B F w0 wr (pl++[p]) { S with own:=nX i S.nx e' S.own,nx:=S.nx+1,log:=i::S.log } l ls w':=by
 have e1:nX i S.nx e' S.own=pre++(S.nx,e')::post:=by grind[Gx]
 have e2:lx (pl++[p]) (nX i S.nx e' S.own)=lx pl pre++blk p.a::lx pl post:=by
  have a1:∀q:List (Nat×Ent),(∀x∈q,x∈S.own)->lx (pl++[p]) q=lx pl q:=fun q hq=>by unfold lx;exact List.map_congr_left fun x hx=>(h.ent x (hq x hx)).plb (mK p)
  rw[e1,lY,a1 pre (fun x hx=>by simp_all),a1 post (fun x hx=>by simp_all),h.nx,vY]
 have hL:=h.hL;rw[h1]at hL;have e3:lx pl S.own=lx pl pre++plb pl i::lx pl post:=by rw[h1,lY]
 have hi:Ev.plb (pl++[p]) i=Ev.plb pl i:=(h.ent (i,e) (by simp_all)).plb (mK p);refine h.go (M:=[plb pl i]) (S':={ S with own:=nX i S.nx e' S.own,nx:=S.nx+1,log:=i::S.log }) (by simp_all) (mK p) (by simp[h.nx]) (Nat.le_succ _) rfl rfl rfl (fun j hj=>zT _ hj) (fun x hx=>?_);have hx:x∈nX i S.nx e' S.own:=hx;rw[e1]at hx;have key:x∈pre∨x∈post->(x∈S.own∧∀k,plb pl x.1=some k->some k ∉ [plb pl i]):=fun hx=>⟨by grind,others hL hx⟩;rcases List.mem_append.1 hx with hx | hx
 ·simp_all
 ·rcases List.mem_cons.1 hx with hx | hx
  ·subst hx
   refine .inr ⟨.inl (Nat.le_refl _),?_⟩;show EntD (pl++[p]) (lx (pl++[p]) (nX i S.nx e' S.own)++F) w' S.nx e';rw[e2,h.nx];exact he
  simp_all
def rJ:List SV->List Nat
 | []=>[]
 | .row j::q=>j::rJ q
 | _::q=>rJ q
def qN:List Nat->St->St
 | [],S=>S
 | j::q,S=>match ES S j with
  | some S'=>qN q S'
  | none=>qN q S
theorem DC{i:Nat}(h:ES S i=some S'):S'.nt=S.nt:=by grind[ES]
theorem ET:∀{q:List Nat} {S:St},Rel B F w0 wr pl S l ls w->Rel B F w0 wr pl (qN q S) l ls w∧(qN q S).nt=S.nt
 | [],S,h=>⟨h,rfl⟩
 | j::q,S,h=>by
  unfold qN;split
  ·rename_i S' hf
   obtain⟨a,b⟩:=ET (q:=q) (Ih h hf);exact⟨a,by rw[b,DC hf]⟩
  ·exact ET h
theorem Rel.told(h:Rel B F w0 wr pl S l ls w){i:Nat}{e e':Ent}(hg:get S.own i=some e)(he:EntD pl (lx pl S.own++F) w i e') :
  Rel B F w0 wr pl { S with own:=kK i e' S.own,log:=i::S.log } l ls w:=by
 have hmem:∀k,some k ∈ [plb pl i]->some k∈lx pl S.own:=fun k hk=>by simp only[List.mem_singleton]at hk;rw[hk];exact List.mem_map_of_mem (f:=fun e:Nat×Ent=>plb pl e.1) (iI hg)
 exact h.mod hg ⟨Fz.refl _ _,hmem,Sub.refl _ _,h.hL⟩ he
def clo(S:St)(i:Nat):Option St:=match get S.own i with
 | some (.rowo _ _ _ _ cs0)=>match get (qN (rJ cs0) S).own i with
  | some (.rowo t e b xs cs)=>match pk t cs with
   | some (x,[])=>some { qN (rJ cs0) S with own:=kK i (.row t e (if b=true then xs++[x] else xs)) (qN (rJ cs0) S).own,log:=i::(qN (rJ cs0) S).log }
   | _=>none
  | _=>none
 | _=>none
theorem atp(h:Rel B F w0 wr pl S l ls w){i:Nat}(hf:clo S i=some S'):Rel B F w0 wr pl S' l ls w∧S'.nt=S.nt:=by
 unfold clo at hf;split at hf
 ·rename_i t0 e0 b0 xs0 cs0 hg0
  obtain⟨a,hn⟩:=ET (q:=rJ cs0) h;generalize qN (rJ cs0) S=S1 at hf a hn;split at hf
  ·rename_i t e b xs cs hg
   split at hf
   ·rename_i x hpk
    cases hf
    refine⟨a.told hg ?_,hn⟩;obtain⟨p,ro,us,h1,h2,h3,h4⟩:=a.ent _ (iI hg);refine⟨p,h1,?_⟩
    cases b with
    | false =>
     rw[if_neg Bool.false_ne_true];have h2:Ow (Dv t.size) e (lx pl S1.own++F) w p.a p.n p.c (ro++[]):=h2;grind[acO]
    | true =>
     rw[if_pos rfl];obtain⟨c,v,e1,h5,h6⟩:=oG hpk (h4 rfl);cases h6;rw[List.append_nil]at e1;subst e1;exact acO (rs:=ro++[us]) h2 (h3.append ⟨x,[],rfl,h5,rfl⟩)
   grind
  grind
 grind
def frz(S:St)(i:Nat):Option St:=match clo S i with
 | some S'=>ES S' i
 | none=>ES S i
theorem Nb(h:Rel B F w0 wr pl S l ls w){i:Nat}(hf:frz S i=some S'):Rel B F w0 wr pl S' l ls w:=by
 unfold frz at hf;split at hf
 ·rename_i S1 h1
  exact Ih (atp h h1).1 hf
 grind[Ih]
theorem atq{i:Nat}(h:clo S i=some S'):S'.nt=S.nt:=by
 unfold clo at h;split at h
 ·rename_i cs0 _
  have key:∀(q:List Nat) (S:St),(qN q S).nt=S.nt:=fun q=>by
   induction q with
   | nil=>intro S;rfl
   | cons j q ih =>
    grind[qN,DC]
  grind
 grind
theorem Nc{i:Nat}(h:frz S i=some S'):S'.nt=S.nt:=by
 unfold frz at h;split at h
 ·rename_i S1 h1
  rw[DC h,atq h1]
 ·exact DC h
end
section
variable {R:Type}
def Nf(S:St)(t:TypeId)(cs:List SV)(K:St->SV->Option R):Option R :=
 K { S with own:=(S.nx,.box t cs)::S.own,nx:=S.nx+1 } (.pb S.nx 0)
def Bu(P:Program)(S:St)(t:TypeId)(K:St->SV->Option R):Option R :=
 match (P.info? t).bind (·.zero) with
 | some z=>if z.cells.toList.all Value.oneCell'=true then Nf S t (z.cells.toList.map ofV) K else none
 | none=>none
def Ng(S:St)(t:TypeId)(s:SV)(K:St->SV->Option R):Option R :=
 match Gv s with
 | some cs=>Nf S t cs K
 | none=>none
def yP(P:Program)(S:St)(t:TypeId)(a s:SV)(K:St->SV->Option R):Option R :=
 match a with
 | .pb i o=>match get S.own i,jX P t,Gv s with
  | some (.box T cs),some n,some vs=>if vs.length=n∧o+n≤cs.length then K { S with own:=kK i (.box T (cs.take o++vs++cs.drop (o+n))) S.own,log:=i::S.log } (.k undef) else none
  | _,_,_=>none
 | .prw i j sz o=>match get S.own i,tyc P t with
  | some (.row t0 e xs),some fy=>if sz=t0.size then match toD fy s with
   | some y=>(at? xs j).bind fun x=>match upd t0 o fy y x with
    | some z=>K { S with own:=kK i (.row t0 e (xs.set j.toNat z)) S.own,log:=i::S.log } (.k undef)
    | none=>none
   | none=>none
   else none
  | _,_=>none
 | .pra i j sz o m ft k o2=>match get S.own i,tyc P t with
  | some (.row t0 e xs),some fy=>if sz=t0.size then match toD fy s with
   | some y=>(at? xs j).bind fun x=>match prj t0 o (.ar m ft) x with
    | some ys=>(at? (show List (Vl ft) from ys) k).bind fun z=>match upd ft o2 fy y z with
     | some z'=>match upd t0 o (.ar m ft) (show Vl (.ar m ft) from (show List (Vl ft) from ys).set k.toNat z') x with
      | some x'=>K { S with own:=kK i (.row t0 e (xs.set j.toNat x')) S.own,log:=i::S.log } (.k undef)
      | none=>none
     | none=>none
    | none=>none
   | none=>none
   else none
  | _,_=>none
 | _=>none
def US{t:Ty}(h:t = .int .u8)(xs:List (Vl t)):List Int:=(h ▸ xs:List (Vl (.int .u8)))
def rz(z:Bool)(i:Nat):SV:=if z=true then .rowz i else .row i
def Nh(P:Program)(S:St)(e:TypeId)(z:Bool)(i:Nat)(s:SV)(K:St->SV->Option R):Option R :=
 match get S.own i,ny P e with
 | some (.row t0 e0 xs),some ⟨t1,_⟩=>if e0=e∧t1=t0 then match leaf (.sl t0) s with
  | some ys=>need (small (xs.length+ys.length)) (K { S with own:=nX i S.nx (.row t0 e (xs++ys)) S.own,nx:=S.nx+1,log:=i::S.log } (rz z S.nx))
  | none=>none
  else none
 | _,_=>none
def Ni(P:Program)(S:St)(e:TypeId)(z:Bool)(i:Nat)(b:List UInt8)(K:St->SV->Option R):Option R :=
 match get S.own i,P.info? e with
 | some (.row t0 e0 xs),some j=>if h:e0=e∧t0 = .int .u8∧j.size=1∧j.bytes=1 then match j.zero with
  | some (.int .u8 0)=>need (small ((US h.2.1 xs).length+b.length)) (K { S with own:=nX i S.nx (.row (.int .u8) e (US h.2.1 xs++b.map fun b=>(b.toNat:Int))) S.own,nx:=S.nx+1,log:=i::S.log } (rz z S.nx))
  | _=>none
  else none
 | _,_=>none
def Gy(P:Program)(S:St)(e:TypeId)(s1:SV)(K:St->Bool->Nat->Option R):Option R :=
 match s1 with
 | .row i=>K S false i
 | .rowz i=>K S true i
 | .k (.slice none 0 0)=>match ny P e with
  | some ⟨t0,_⟩=>K { S with own:=(S.nx,.row t0 e [])::S.own,nx:=S.nx+1 } false S.nx
  | none=>none
 | _=>none
def Ii(P:Program)(S:St)(t:TypeId)(s1 s2:SV)(K:St->SV->Option R):Option R :=
 match lX P t with
 | some (e,_)=>Gy P S e s1 fun S1 z i=>Nh P S1 e z i s2 K
 | none=>none
def Nj(P:Program)(t:TypeId):Option IntKind:=match P.underlying t with
 | some (.int k)=>some k
 | _=>none
theorem acU{P:Program}{t:TypeId}{k:IntKind}(h:Nj P t=some k):P.underlying t=some (.int k):=by grind[Nj]
def ae1(P:Program)(S:St)(e:TypeId)(z:Bool)(i:Nat)(m:Int)(K:St->SV->Option R):Option R :=
 match get S.own i,ny P e with
 | some (.row t0 e0 xs),some ⟨t1,zz⟩=>if h:e0=e∧t1=t0∧z=false then need (ge m 1) (need (small (xs.length+m.toNat)) (K { S with own:=nX i S.nx (.row t0 e (xs++zE m.toNat (h.2.1 ▸ zz))) S.own,nx:=S.nx+1,log:=i::S.log } (.row S.nx)))
  else none
 | _,_=>none
def EU(P:Program)(S:St)(t u:TypeId)(s1 s2:SV)(K:St->SV->Option R):Option R :=
 match lX P t,s2 with
 | some (e,_),.d .str b=>if isStr P u=true then Gy P S e s1 fun S1 z i=>Ni P S1 e z i b K else none
 | some (e,_),.d (.int _) m=>match Nj P u with
  | some _=>Gy P S e s1 fun S1 z i=>ae1 P S1 e z i m K
  | none=>none
 | _,_=>none
def L9(P:Program)(S:St)(t:TypeId)(s:SV)(lo hi mx:Option Operand)(K:St->SV->Option R):Option R:=none
def jR(n m:Int):Bool:=if n=m then true else decide (n≤m)
theorem ae2{n m:Int}(h:jR n m=true):n≤m:=by unfold jR at h;grind
def UT(P:Program)(S:St)(t:TypeId)(s1 s2:SV)(K:St->SV->Option R):Option R :=
 match lX P t,s1,s2 with
 | some (e,_),.d (.int _) n,.d (.int _) m=>match ny P e with
  | some ⟨t0,z⟩=>need (ge n 0) (need (jR n m) (need (small m.toNat) (K { S with own:=(S.nx,.row t0 e (zE n.toNat z))::S.own,nx:=S.nx+1 } (.row S.nx))))
  | none=>none
 | _,_,_=>none
end
section
variable {R:Type}{B:Nat->Prop}{F:Lx}{w0:Bs}{wr:Wr}{pl pl':List Place}{S S':St}{l l':List Value}{ls:List (List Value)}{w w':World}{L L' M:Lx}{P:Program}{d:Option Tmp}{ty:TypeId}{pos:String}{af:Array Edge}{gd:Option (Nat×Bool)}
 {Q:Exit->Act->World->Prop} {KK:List Value->World->Prop} {K:St->SV->Option R} {r:R}
def Hand(B:Nat->Prop)(F:Lx)(w0:Bs)(wr:Wr)(n:Nat)(l:List Value)(ls:List (List Value))(d:Option Tmp)(K:St->SV->Option R)(r:R)(KK:List Value->World->Prop):Prop :=
 ∀pl' S' s v w',Rel B F w0 wr pl' S' l ls w'->S'.nt=n->Den pl' (lx pl' S'.own++F) w' s v->K S' s=some r->KK (st l d v) w'
theorem EC(h:Rel B F w0 wr pl S l ls w){t:TypeId}{cs:List SV}(hv:Nf S t cs K=some r)(hk:Hand B F w0 wr S.nt l ls d K r KK){g:Nat}{us:List Value}(hs:Stp B (lx pl S.own) (some g::lx pl S.own) F [] w w')(hb:Bx w' g us t)
  (hd:DenL pl (lx pl S.own++F) w cs us) (h1:∀v∈us,v.oneCell'=true):KK (st l d (.pointer (some ⟨g,0,none⟩))) w':=by
 have hd':DenL (pl++[⟨some ⟨g,0,none⟩,0,0⟩]) ((some g::lx pl S.own)++F) w' cs us:=hd.ext (Ext.of_stp hs (mK _));have hr:=h.push ⟨some ⟨g,0,none⟩,0,0⟩ (.box t cs) hs ⟨g,0,0,us,jF _,hb,hd',h1⟩;refine hk _ _ _ _ w' hr rfl ?_ hv;exact⟨g,0,0,by rw[h.nx];simp,rfl⟩
theorem Bv(h:Rel B F w0 wr pl S l ls w){t:TypeId}(hv:Bu P S t K=some r)(hk:Hand B F w0 wr S.nt l ls d K r KK):OW P ⟨d,.alloc t,ty,pos,af,gd⟩ l w KK Q:=by
 unfold Bu at hv;split at hv
 ·rename_i z hz
  split at hv
  ·rename_i h1
   exact xw hz rfl h.hL (fun g w' hS hb=>EC h hv hk hS hb (pO _) (List.all_eq_true.1 h1))
  grind
 grind
theorem Ij(h:Rel B F w0 wr pl S l ls w){t:TypeId}{x:Operand}{s:SV}(hv:Ng S t s K=some r)(hx:Den pl (lx pl S.own++F) w s (ev l x))(hk:Hand B F w0 wr S.nt l ls d K r KK):OW P ⟨d,.box t x,ty,pos,af,gd⟩ l w KK Q:=by
 unfold Ng at hv;split at hv
 ·rename_i cs hc
  obtain⟨h1,h2⟩:=Bt hx hc;exact Du rfl rfl h.hL (fun g w' hS hb=>EC h hv hk hS hb h1 h2)
 grind
theorem xB(h:Rel B F w0 wr pl S l ls w){t:TypeId}{x y:Operand}{a s:SV}(hv:yP P S t a s K=some r)(hx:Den pl (lx pl S.own++F) w a (ev l x))(hy:Den pl (lx pl S.own++F) w s (ev l y))(hk:Hand B F w0 wr S.nt l ls d K r KK):OW P ⟨d,.store t x y,ty,pos,af,gd⟩ l w KK Q:=by
 unfold yP at hv;split at hv
 ·rename_i i o
  split at hv
  ·rename_i T cs n vs hg hn hc
   split at hv
   ·rename_i hb
    obtain⟨g,n1,c1,h1,h2⟩:=hx;obtain⟨g',n',c',us,h3,h4,h5,h6⟩:=h.ent _ (iI hg);rw[h1]at h3;cases h3;obtain⟨h7,h8⟩:=Bt hy hc;have hpl:plb pl i=some g:=iF h1;have hl1:=h5.len;have hl2:=h7.len;refine LW (vs:=(ev l y).cells.toList) hn h2 rfl rfl (by omega) (List.all_eq_true.2 h8) h.hL h4 (decide_eq_true (by omega)) (by rw[<- hpl];exact List.mem_map_of_mem (f:=fun e:Nat×Ent=>plb pl e.1) (iI hg)) rfl (fun w' hS hb'=>?_);have hE:=Ext.of_stp (pl:=pl) (pl':=pl) hS (fun _ _ h=>h);have hr:=h.mod (e':=.box T (cs.take o++vs++cs.drop (o+n))) hg (by simp_all) ⟨g,n1,c1,_,h1,hb',(((h5.ext hE).take o).append (h7.ext hE)).append ((h5.ext hE).drop _),fun v hv=>?_⟩
    ·exact hk pl _ (.k undef) undef w' hr rfl rfl hv
    grind
   grind
  grind
 ·rename_i i j sz o
  split at hv
  ·rename_i t0 e xs fy hg hfy
   split at hv
   ·rename_i hsz
    split at hv
    ·rename_i z hz
     obtain⟨y0,hy0,hv⟩:=iD hv;split at hv
     ·rename_i z' hu
      obtain⟨g,b0,n1,c1,h1,h2⟩:=hx;obtain⟨p,h3,h4⟩:=h.ent _ (iI hg);rw[h1]at h3;cases h3;obtain⟨h5,h6,h7⟩:=kJ hy0;obtain⟨_,hb0⟩:=h4.addr h7;cases hb0;obtain⟨c,h8,h9⟩:=ql hz hy;have hpl:plb pl i=some g:=iF h1
      have hcells:(ev l y).cells.toList=c:=by
       rw[h9]
       cases ha:fy.agg with
       | true=>simp[Rp.val,iQ,ha,Value.cells]
       | false =>
        have hl:=(rp fy).len h8;rw[vV fy ha]at hl;obtain⟨v,rfl⟩:=List.length_eq_one_iff.1 hl;simp only[Rp.val,iQ,ha,Bool.false_eq_true,if_false,List.headD_cons];exact xA ((rp fy).one h8 v (by simp))
      refine Bh (R:=rp t0) (vs:=c) (b:=g) (i:=j.toNat) (off:=o) (u:=y0) (u':=z') ?_ (by grind[jc]) rfl hcells h.hL h4 h6 ((rp fy).one h8) (fun cs hcs=>vJ hu hcs h8) (by rw[<- hpl];exact List.mem_map_of_mem (f:=fun e:Nat×Ent=>plb pl e.1) (iI hg)) (fun w' hS hO=>?_)
      ·rw[(rp fy).len h8];exact (oH hfy).size
      ·have hr:=h.mod (e':=.row t0 e (xs.set j.toNat z')) hg (by simp_all) ⟨_,h1,hO⟩
       exact hk pl _ (.k undef) undef w' hr rfl rfl hv
     grind
    grind
   grind
  grind
 ·rename_i i j sz o m ft q o2
  split at hv
  ·rename_i t0 e xs fy hg hfy
   split at hv
   ·rename_i hsz
    split at hv
    ·rename_i z hz
     obtain⟨y0,hy0,hv⟩:=iD hv;split at hv
     ·rename_i ys hpr
      obtain⟨z0,hz0,hv⟩:=iD hv;split at hv
      ·rename_i z1 hu1
       split at hv
       ·rename_i z' hu
        obtain⟨g,b0,n1,c1,h1,h2⟩:=hx;obtain⟨p,h3,h4⟩:=h.ent _ (iI hg);rw[h1]at h3;cases h3;obtain⟨h5,h6,h7⟩:=kJ hy0;obtain⟨_,hb0⟩:=h4.addr h7;cases hb0;obtain⟨_,hz6,_⟩:=kJ hz0;obtain⟨c,h8,h9⟩:=ql hz hy;have hpl:plb pl i=some g:=iF h1
        have hcells:(ev l y).cells.toList=c:=by
         rw[h9]
         cases ha:fy.agg with
         | true=>simp[Rp.val,iQ,ha,Value.cells]
         | false =>
          have hl:=(rp fy).len h8;rw[vV fy ha]at hl;obtain⟨v,rfl⟩:=List.length_eq_one_iff.1 hl;simp only[Rp.val,iQ,ha,Bool.false_eq_true,if_false,List.headD_cons];exact xA ((rp fy).one h8 v (by simp))
        refine Bh (R:=rp t0) (vs:=c) (b:=g) (i:=j.toNat) (off:=o+q.toNat*ft.size+o2) (u:=y0) (u':=z') ?_ (by simp_all[jc,Nat.add_assoc]) rfl hcells h.hL h4 h6 ((rp fy).one h8) (fun cs hcs=>ath hpr hz6 hu1 hu hcs h8) (by rw[<- hpl];exact List.mem_map_of_mem (f:=fun e:Nat×Ent=>plb pl e.1) (iI hg)) (fun w' hS hO=>?_)
        ·rw[(rp fy).len h8];exact (oH hfy).size
        ·have hr:=h.mod (e':=.row t0 e (xs.set j.toNat z')) hg (by simp_all) ⟨_,h1,hO⟩
         exact hk pl _ (.k undef) undef w' hr rfl rfl hv
       grind
      grind
     grind
    grind
   grind
  grind
 grind
end
end Ev
end
noncomputable section
namespace Ev
open Go Go.RowKit Sx
section
variable {R:Type}{B:Nat->Prop}{F:Lx}{w0:Bs}{wr:Wr}{pl pl':List Place}{S S':St}{l l':List Value}{ls:List (List Value)}{w w':World}{L L' M:Lx}{P:Program}{d:Option Tmp}{ty:TypeId}{pos:String}{af:Array Edge}{gd:Option (Nat×Bool)}
 {Q:Exit->Act->World->Prop} {KK:List Value->World->Prop} {K:St->SV->Option R} {r:R}
theorem Bw{t:Ty}{L:Lx}{w:World}{v:Value}{ys:List (Vl t)}(hy:(rp (.sl t)).rel L w [v] ys):∃a n c,v = .slice a n c∧(Rp.slice (rp t)).rel L w [.slice a n c] ys:=by have hy0:=hy;obtain⟨a2,c2,e2,_⟩:=hy0;simp at e2;subst e2;exact⟨_,_,_,rfl,hy⟩
theorem acV(h:Rel B F w0 wr pl S l ls w){t e:TypeId}{n i:Nat}{p:Place}{x y:Operand}{s:SV}(hel:lX P t=some (e,n)){z0:Bool}(hv:Nh P S e z0 i s K=some r)(hp:pl[i]? = some p)(hx:if z0=true then RowV p (ev l x) else ev l x = .slice p.a p.n p.c)
  (hy:Den pl (lx pl S.own++F) w s (ev l y)) (hk:Hand B F w0 wr S.nt l ls d K r KK):OW P ⟨d,.call ⟨.builtin .append,#[x,y],#[t,t]⟩,ty,pos,af,gd⟩ l w KK Q:=by
 unfold Nh at hv;split at hv
 ·rename_i t0 e0 xs t1 z hg hr
  split at hv
  ·rename_i he
   obtain⟨rfl,rfl⟩:=he;split at hv
   ·rename_i ys hys
    obtain⟨hsm,hv⟩:=iZ hv;obtain⟨pre,post,h1,h2⟩:=lu hg;obtain⟨p',h3,h4⟩:=h.ent _ (iI hg);rw[hp]at h3;cases h3;have e1:lx pl S.own=lx pl pre++blk p.a::lx pl post:=by grind[lY,iF]
    have hL:=h.hL;have hy':=vX (t:=.sl t1) rfl hys hy;rw[e1]at hL h4 hy';have hrow:=pP hr;obtain⟨a2,n2,c2,e2,hy'⟩:=Bw hy'
    cases z0 with
    | true =>
     refine UQ (jD hel).1 hrow hx e2 hL h4 hy' hsm (fun v a' n' c' w' hv' hS hO=>?_);have hpb:=iF hp;have hr2:=h.rep (p:=⟨a',n',c'⟩) (e':=.row t1 e0 (xs++ys)) h1 h2 (by simp_all) ⟨_,jF _,hO⟩;exact hk _ _ (.rowz S.nx) _ w' hr2 rfl ⟨⟨a',n',c'⟩,by rw[h.nx];simp,hv'⟩ hv
    | false =>
     refine uZ (jD hel).1 hrow hx e2 hL h4 hy' hsm (fun a' n' c' w' hS hO=>?_);have hpb:=iF hp;have hr2:=h.rep (p:=⟨a',n',c'⟩) (e':=.row t1 e0 (xs++ys)) h1 h2 (by simp_all) ⟨_,jF _,hO⟩;exact hk _ _ (.row S.nx) _ w' hr2 rfl ⟨⟨a',n',c'⟩,by rw[h.nx];simp,rfl⟩ hv
   grind
  grind
 grind
theorem acW(h:Rel B F w0 wr pl S l ls w){t u e:TypeId}{n i:Nat}{p:Place}{x y:Operand}{b:List UInt8}(hel:lX P t=some (e,n))(hu:isStr P u=true){z0:Bool}(hv:Ni P S e z0 i b K=some r)(hp:pl[i]? = some p)(hx:if z0=true then RowV p (ev l x) else ev l x = .slice p.a p.n p.c)
  (hy:ev l y = .string ⟨⟨b⟩⟩) (hk:Hand B F w0 wr S.nt l ls d K r KK):OW P ⟨d,.call ⟨.builtin .append,#[x,y],#[t,u]⟩,ty,pos,af,gd⟩ l w KK Q:=by
 unfold Ni at hv;split at hv
 ·rename_i t0 e0 xs j hg hi
  split at hv
  ·rename_i hc
   split at hv
   ·rename_i hz
    obtain⟨rfl,rfl,hsz,hby⟩:=hc;have hcb:US (t:=.int .u8) rfl xs=xs:=rfl;rw[hcb]at hv;obtain⟨hsm,hv⟩:=iZ hv;obtain⟨pre,post,h1,h2⟩:=lu hg;obtain⟨p',h3,h4⟩:=h.ent _ (iI hg);rw[hp]at h3;cases h3;have e1:lx pl S.own=lx pl pre++blk p.a::lx pl post:=by grind[lY,iF]
    have hL:=h.hL;rw[e1]at hL h4
    cases z0 with
    | true =>
     refine SE (jD hel).1 (kT hu) hi hz hsz hby hx hy hL h4 hsm (fun v a' n' c' w' hv' hS hO=>?_);have hpb:=iF hp;have hr2:=h.rep (p:=⟨a',n',c'⟩) (e':=.row (.int .u8) e0 (xs++b.map fun b=>(b.toNat:Int))) h1 h2 (by simp_all) ⟨_,jF _,hO⟩;exact hk _ _ (.rowz S.nx) _ w' hr2 rfl ⟨⟨a',n',c'⟩,by rw[h.nx];simp,hv'⟩ hv
    | false =>
     refine vg (jD hel).1 (kT hu) hi hz hsz hby hx hy hL h4 hsm (fun a' n' c' w' hS hO=>?_);have hpb:=iF hp;have hr2:=h.rep (p:=⟨a',n',c'⟩) (e':=.row (.int .u8) e0 (xs++b.map fun b=>(b.toNat:Int))) h1 h2 (by simp_all) ⟨_,jF _,hO⟩;exact hk _ _ (.row S.nx) _ w' hr2 rfl ⟨⟨a',n',c'⟩,by rw[h.nx];simp,rfl⟩ hv
   grind
  grind
 grind
theorem Rel.nilRow(h:Rel B F w0 wr pl S l ls w)(t0:Ty)(e:TypeId):Rel B F w0 wr (pl++[⟨none,0,0⟩]) { S with own:=(S.nx,.row t0 e [])::S.own,nx:=S.nx+1 } l ls w ∧
  Ext pl (lx pl S.own++F) w (pl++[⟨none,0,0⟩]) (lx (pl++[⟨none,0,0⟩]) ((S.nx,Ent.row t0 e [])::S.own)++F) w:=by
 have hS:Stp B (lx pl S.own) (blk (none:Option Addr)::lx pl S.own) F [] w w:=Stp.none h.hL rfl;have e1:lx (pl++[⟨none,0,0⟩]) ((S.nx,Ent.row t0 e [])::S.own)=blk none::lx pl S.own:=by have:=Dw (mK ⟨none,0,0⟩) h.ent;unfold lx at this ⊢;rw[List.map_cons,this,h.nx,vY]
 refine⟨h.push ⟨none,0,0⟩ (.row t0 e []) hS ⟨_,jF _,Ow.nil _ _ _ _⟩,?_⟩;grind[Ext.of_stp,mK]
theorem EV{K':St->Bool->Nat->Option R}(h:Rel B F w0 wr pl S l ls w){e:TypeId}{x:Operand}{s1:SV}(hv:Gy P S e s1 K'=some r)(hx:Den pl (lx pl S.own++F) w s1 (ev l x)) :
  ∃pl' S1 z i p,Rel B F w0 wr pl' S1 l ls w∧S1.nt=S.nt∧pl'[i]? = some p∧(if z=true then RowV p (ev l x) else ev l x = .slice p.a p.n p.c)∧K' S1 z i=some r∧∀s u,Den pl (lx pl S.own++F) w s u->Den pl' (lx pl' S1.own++F) w s u:=by
 unfold Gy at hv;split at hv
 ·obtain⟨p,h1,h2⟩:=hx
  grind
 ·obtain⟨p,h1,h2⟩:=hx
  grind
 ·split at hv
  ·rename_i t0 z hr
   obtain⟨h1,h2⟩:=h.nilRow t0 e;have hx:ev l x = .slice none 0 0:=hx;exact⟨_,_,false,S.nx,⟨none,0,0⟩,h1,rfl,by rw[h.nx];simp,hx,hv,fun _ _ hd=>hd.ext h2⟩
  grind
 grind
theorem UU(h:Rel B F w0 wr pl S l ls w){t:TypeId}{x y:Operand}{s1 s2:SV}(hv:Ii P S t s1 s2 K=some r)(hx:Den pl (lx pl S.own++F) w s1 (ev l x))
  (hy:Den pl (lx pl S.own++F) w s2 (ev l y)) (hk:Hand B F w0 wr S.nt l ls d K r KK):OW P ⟨d,.call ⟨.builtin .append,#[x,y],#[t,t]⟩,ty,pos,af,gd⟩ l w KK Q:=by
 grind[Ii,EV,acV]
theorem arX(h:Rel B F w0 wr pl S l ls w){t u e:TypeId}{n i:Nat}{k kn:IntKind}{p:Place}{x y:Operand}{m:Int}(hel:lX P t=some (e,n))(hu:P.underlying u=some (.int kn)){z0:Bool}(hv:ae1 P S e z0 i m K=some r)(hp:pl[i]? = some p)(hx:if z0=true then RowV p (ev l x) else ev l x = .slice p.a p.n p.c)
  (hy:ev l y = .int k m) (hk:Hand B F w0 wr S.nt l ls d K r KK):OW P ⟨d,.call ⟨.builtin .append,#[x,y],#[t,u]⟩,ty,pos,af,gd⟩ l w KK Q:=by
 unfold ae1 at hv;split at hv
 ·rename_i t0 e0 xs t1 z hg hr
  split at hv
  ·rename_i he
   obtain⟨rfl,rfl,rfl⟩:=he;obtain⟨hm,hv⟩:=iZ hv;obtain⟨hsm,hv⟩:=iZ hv;obtain⟨pre,post,h1,h2⟩:=lu hg;obtain⟨p',h3,h4⟩:=h.ent _ (iI hg);rw[hp]at h3;cases h3;have e1:lx pl S.own=lx pl pre++blk p.a::lx pl post:=by grind[lY,iF]
   have hL:=h.hL;rw[e1]at hL h4;have hrow:=pP hr;refine UR (jD hel).1 hu hrow hx hy (by simp_all[ge]) hL h4 hsm (fun a' n' c' w' hS hO=>?_);have hpb:=iF hp;have hr2:=h.rep (p:=⟨a',n',c'⟩) (e':=.row t1 e0 (xs++zE m.toNat z)) h1 h2 (by simp_all) ⟨_,jF _,hO⟩;exact hk _ _ (.row S.nx) _ w' hr2 rfl ⟨⟨a',n',c'⟩,by rw[h.nx];simp,rfl⟩ hv
  grind
 grind
theorem SF(h:Rel B F w0 wr pl S l ls w){t u:TypeId}{x y:Operand}{s1 s2:SV}(hv:EU P S t u s1 s2 K=some r)(hx:Den pl (lx pl S.own++F) w s1 (ev l x))
  (hy:Den pl (lx pl S.own++F) w s2 (ev l y)) (hk:Hand B F w0 wr S.nt l ls d K r KK):OW P ⟨d,.call ⟨.builtin .append,#[x,y],#[t,u]⟩,ty,pos,af,gd⟩ l w KK Q:=by
 unfold EU at hv;split at hv
 ·grind[EV,acW,qm]
 ·rename_i e n k m hel
  split at hv
  ·rename_i kn hu
   obtain⟨pl',S1,z,i,p,h1,h2,h3,h4,h5,h6⟩:=EV h hv hx;exact arX h1 hel (acU hu) h5 h3 h4 (jC hy) (by simp_all)
  grind
 grind
theorem Nk(h:Rel B F w0 wr pl S l ls w){t:TypeId}{x:Operand}{s:SV}{lo hi mx:Option Operand}(hv:L9 P S t s lo hi mx K=some r)(hx:Den pl (lx pl S.own++F) w s (ev l x))(hk:Hand B F w0 wr S.nt l ls d K r KK) :
  OW P ⟨d,.slice t x lo hi mx,ty,pos,af,gd⟩ l w KK Q:=by
 unfold L9 at hv;cases hv
def ae3(P:Program)(S:St)(t:TypeId)(s:SV)(lo hi:Option Operand)(mx:Operand)(K:St->SV->Option R):Option R :=
 match s with
 | .d (.sl t0) xs=>if Ig hi=true then match lX P t,jQ S lo 0,jQ S hi 0,jQ S (some mx) 0 with
   | some (_,n),some i,some j,some m=>if t0.size=n then (cut xs i j).bind fun y=>need (le j m) (need (le m (zF xs.length)) (K S (.d (.sl t0) y))) else none
   | _,_,_,_=>none
  else L9 P S t s lo hi (some mx) K
 | s=>L9 P S t s lo hi (some mx) K
theorem arY(h:Rel B F w0 wr pl S l ls w){t:TypeId}{x:Operand}{s:SV}{lo hi:Option Operand}{mx:Operand}(hv:ae3 P S t s lo hi mx K=some r)(hx:Den pl (lx pl S.own++F) w s (Sx.ev l x))(hk:Hand B F w0 wr S.nt l ls d K r KK) :
  OW P ⟨d,.slice t x lo hi (some mx),ty,pos,af,gd⟩ l w KK Q:=by
 unfold ae3 at hv;split at hv
 ·rename_i t0 xs
  split at hv
  ·rename_i hz
   split at hv
   ·rename_i e n i j m hel hlo hhi hmx
    split at hv
    ·rename_i hsz
     obtain⟨y,hy,hv⟩:=iD hv;obtain⟨hjm,hv⟩:=iZ hv;obtain⟨hm,hv⟩:=iZ hv;have hjm:j≤m:=by simp_all[le]
     have hm:m≤xs.length:=by simp_all[le]
     obtain⟨h1,h2⟩:=jD hel;have hr:=uE hx;obtain⟨a,c,hsh,hr2⟩:=hr;simp at hsh;have hr:=uE hx;rw[hsh]at hr
     have hh:∃o k,hi=some o∧Sx.ev l o = .int k j:=by
      rcases mI h.fr hhi with ⟨e1,_⟩ | e1
      ·simp_all[Ig]
      omega
     have hmm:∃k,Sx.ev l mx = .int k m:=by
      rcases mI h.fr hmx with ⟨e1,_⟩ | ⟨o,k,e1,e2⟩
      ·cases e1
      simp_all
     obtain⟨a',c',h3,h4⟩:=Bg (d:=d) (ty:=ty) (pos:=pos) (af:=af) (g:=gd) h1 (by simp_all[jc]) hsh hr (mI h.fr hlo) hh hmm hy hjm hm;exact kZ (h4 w) (hk pl S _ _ w h rfl (zl (t:=.sl _) rfl h3) hv)
    grind
   grind
  grind[Nk]
 grind[Nk]
theorem ae4(h:Rel B F w0 wr pl S l ls w){t:TypeId}{x y:Operand}{s1 s2:SV}(hv:UT P S t s1 s2 K=some r)(hx:Den pl (lx pl S.own++F) w s1 (ev l x))
  (hy:Den pl (lx pl S.own++F) w s2 (ev l y)) (hk:Hand B F w0 wr S.nt l ls d K r KK):OW P ⟨d,.makeSlice t x y,ty,pos,af,gd⟩ l w KK Q:=by
 unfold UT at hv;split at hv
 ·rename_i e _ k n k' m hel
  split at hv
  ·rename_i t0 z hr
   obtain⟨h0,hv⟩:=iZ hv;obtain⟨hnm,hv⟩:=iZ hv;obtain⟨hsm,hv⟩:=iZ hv;refine MJ (jD hel).1 (pP hr) (jC hx) (jC hy) h.hL (of_decide_eq_true h0) (ae2 hnm) hsm (fun a n' c w' hS hO=>?_);have hr2:=h.push ⟨a,n',c⟩ (.row t0 e (zE n.toNat z)) hS ⟨_,jF _,hO⟩;exact hk _ _ (.row S.nx) _ w' hr2 rfl ⟨⟨a,n',c⟩,by rw[h.nx];simp,rfl⟩ hv
  grind
 grind
def DF(place:Nat->Option (Nat×Nat))(cells:List SV):List (Nat×List SV)->Option (List SV)
 | []=>some cells
 | (i,v)::rest=>match place i with
  | none=>none
  | some (off,size)=>if v.length=size∧off+v.length≤cells.length then DF place (cells.take off++v++cells.drop (off+v.length)) rest else none
theorem foldl_set:∀(vs cs:List Value) (off k:Nat),off+k+vs.length≤cs.length ->
  (vs.zipIdx k).foldl (fun (a:Array Value) (x:Value×Nat)=>a.setIfInBounds (off+x.2) x.1) cs.toArray=(cs.take (off+k)++vs++cs.drop (off+k+vs.length)).toArray
 | [],cs,off,k,h=>by simp
 | v::vs,cs,off,k,h=>by
  simp only[List.zipIdx_cons,List.foldl_cons];simp only[List.length_cons]at h;rw[List.setIfInBounds_toArray,foldl_set vs (cs.set (off+k) v) off (k+1) (by rw[List.length_set];omega)]
  congr 1
  rw[List.drop_set_of_lt (by omega)];have e1:(cs.set (off+k) v).take (off+(k+1))=cs.take (off+k)++[v]:=by rw[<- Nat.add_assoc,List.take_add_one,List.take_set_of_le (Nat.le_refl _),List.getElem?_set_self (by omega)];rfl
  rw[e1,List.length_cons];have e2:off+(k+1)+vs.length=off+k+(vs.length+1):=by omega
  rw[e2];simp
def Nl(pl:List Place)(L:Lx)(w:World):List (Nat×List SV)->List (Nat×Value)->Prop
 | [],vs=>vs=[]
 | a::q,vs=>∃b r,vs=b::r∧a.1=b.1∧DenL pl L w a.2 b.2.cells.toList∧(∀v∈b.2.cells.toList,v.oneCell'=true)∧Nl pl L w q r
theorem DI{place:Nat->Option (Nat×Nat)}:∀{parts:List (Nat×List SV)} {vals:List (Nat×Value)} {cs cs':List SV} {us:List Value},DF place cs parts=some cs'->DenL pl L w cs us->(∀v∈us,v.oneCell'=true) ->
  Nl pl L w parts vals ->
  ∃us',Instr.fill place us.toArray vals=some us'.toArray∧DenL pl L w cs' us'∧(∀v∈us',v.oneCell'=true)
 | [],_,cs,cs',us,h,hd,h1,hp=>by cases h;cases hp;exact⟨us,rfl,hd,h1⟩
 | (i,v)::rest,_,cs,cs',us,h,hd,h1,⟨(bi,bv),r,hv,ha,hb,hc,hr⟩=>by
  subst hv;simp only at ha hb hc;subst ha;unfold DF at h;split at h
  ·cases h
  ·rename_i off size hp
   split at h
   ·rename_i hcond
    have l1:=hd.len;have l2:=hb.len;have hsz:bv.cells.size=v.length:=by omega
    have hd':=((hd.take off).append hb).append (hd.drop (off+v.length));have h1':∀z∈us.take off++bv.cells.toList++us.drop (off+v.length),z.oneCell'=true:=fun z hz=>by grind
    obtain⟨us',e1,e2,e3⟩:=DI h hd' h1' hr;refine⟨us',?_,e2,e3⟩;unfold Instr.fill;simp only[hp];rw[if_neg (by grind)];rw[<- e1]
    congr 1
    have:=foldl_set bv.cells.toList us off 0 (by omega);simp only[Nat.add_zero]at this;grind[Array.toList_zipIdx]
   grind
end
end Ev
end
