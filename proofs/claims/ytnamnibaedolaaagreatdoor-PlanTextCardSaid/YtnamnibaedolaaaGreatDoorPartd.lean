/- Proved in the last of these 15 parts (this is part 4): PlanText. Conditions: those of the given statement, and no others. -/
import Derived.Test.YtnamnibaedolaaaGreatDoorPartc
import Derived.Maps.RangeRun
import Derived.ArgAppend
set_option linter.unusedVariables false
set_option linter.unusedSimpArgs false
set_option linter.unusedSectionVars false
open Int renaming ofNat → zD, eq_ofNat_of_zero_le → zK, toNat_natCast → zM
open Go.Result renaming andThen_ok → zJ
open Bool renaming and_eq_true → zL
open List renaming mem_cons_of_mem → zO, length_append → zU, length_take → zW
noncomputable section
namespace Ev
open Go Go.RowKit Sx
section
variable {R:Type}{B:Nat->Prop}{F:Lx}{w0:Bs}{wr:Wr}{pl pl':List Place}{S S':St}{l l':List Value}{ls:List (List Value)}{w w':World}{L L' M:Lx}{P:Program}{d:Option Tmp}{ty:TypeId}{pos:String}{af:Array Edge}{gd:Option (Nat×Bool)}
 {Q:Exit->Act->World->Prop} {KK:List Value->World->Prop} {K:St->SV->Option R} {r:R}
def ME(P:Program)(t:TypeId):Option TypeId:=match P.underlying t with
 | some (.pointer e)=>some e
 | _=>none
theorem NS{t e:TypeId}(h:ME P t=some e):P.underlying t=some (.pointer e):=by grind[ME]
def lSD(P:Program)(S:St)(ty:TypeId)(s:SV)(K:St->SV->Option R):Option R :=
 match s with
 | .row i=>match get S.own i,ME P ty with
  | some (.row _ _ _),some _=>K S (.sd i)
  | _,_=>none
 | _=>none
theorem aiD(h:Rel B F w0 wr pl S l ls w){x:Operand}{ts:Array TypeId}{s:SV}(hv:lSD P S ty s K=some r)(hx:Den pl (lx pl S.own++F) w s (ev l x))(hk:Hand B F w0 wr S.nt l ls d K r KK) :
  OW P ⟨d,.call ⟨.builtin .unsafeSliceData,#[x],ts⟩,ty,pos,af,gd⟩ l w KK Q:=by
 unfold lSD at hv;split at hv
 ·rename_i i
  split at hv
  ·rename_i t e xs e' hg hp
   obtain⟨p,h1,h2⟩:=hx;obtain⟨p',h3,h4⟩:=h.ent _ (get_mem hg);rw[h1]at h3;cases h3;have hfin:∀q w',(Builtin.unsafeSliceData_ ts ty #[ev l x]).run P w = .ok (.pointer q) w'->Fz [] w w'->(p.n≠0->q=p.a)->OW P ⟨d,.call ⟨.builtin .unsafeSliceData,#[x],ts⟩,ty,pos,af,gd⟩ l w KK Q:=fun q w' hr hf hq=>by refine iG (v:=.pointer q) (w':=w') ?_ (hk pl S (.sd i) _ w' (h.call hf) rfl ⟨p,q,h1,rfl,hq⟩ hv);simp_all[execOp,resolve,invoke,builtin,Sem.run_bind,Sem.run_pure,zJ,List.map_toArray,List.map_cons,List.map_nil]
   obtain⟨hn,cells,h5,h6⟩:=h4;rcases h5.2 with ⟨hv',h0⟩ | ⟨g,cap,cur,hv',_,hgg,hnc,_⟩
   ·simp at hv'
    refine hfin none w ?_ (Fz.refl _ _) (fun hne=>by omega);rw[h2,hv'.1];rfl
   ·simp at hv'
    by_cases hc:p.c=0
    ·refine hfin (some ⟨w.heap.size,0,none⟩) (w.alloc (.view ⟨g,0,none⟩ e')) ?_ (Fz.alloc _ _ _) (fun hne=>by omega)
     rw[h2,hv'.1,hc];exact Lib.run_unsafeSliceData_zero (P:=P) w ts ty e' (NS hp) ⟨g,0,none⟩ p.n (e,cur.size) (by grind[World.shape?])
    simp_all[Fz.refl,Lib.run_unsafeSliceData_row]
  grind
 grind
def u8s:List Int->Bool
 | []=>true
 | x::q=>decide (0≤x∧x≤255) && u8s q
theorem Zt:∀{xs:List Int},u8s xs=true->∀x∈xs,0≤x∧x≤255
 | a::q,h,x,hx=>by
  simp only[u8s,zL,decide_eq_true_eq]at h;rcases List.mem_cons.1 hx with hx | hx
  ·omega
  ·exact Zt h.2 x hx
theorem D3(pt it ty e:TypeId)(hp:P.underlying pt=some (.pointer e))(hc:P.cellsOf e=1)(g cells:Nat)(hsh:w.shape? g=some (e,cells))(xs:List Int)(hu:u8s xs=true)(h0:xs ≠ [])(hn:xs.length≤cells)(h63:xs.length≤9223372036854775807)
  (hcell:∀j x,xs[j]? = some x->w.cell? ((⟨g,0,none⟩:Addr).add j)=some (.int .u8 x)) :
  (Builtin.unsafeString_ #[pt,it] ty #[.pointer (some ⟨g,0,none⟩),.int .i64 xs.length]).run P w = .ok (.string ⟨⟨toS xs⟩⟩) (w.freeze ⟨g,0,none⟩ xs.length):=by
 have hlen:(toS xs).length=xs.length:=by simp[toS]
 have:=Lib.run_unsafeString_row (P:=P) w pt it ty e hp hc g cells hsh (toS xs) (fun e=>h0 (by grind)) (by omega) (by omega) (fun j x hx=>by
  unfold toS at hx;rw[List.getElem?_map]at hx;obtain⟨z,hz,rfl⟩:=Option.map_eq_some_iff.1 hx;have hb:=Zt hu z (List.mem_of_getElem? hz);rw[hcell j z hz];have:((UInt8.ofNat z.toNat).toNat:Int)=z:=by simp;omega
  grind)
 simp_all
def lUS(P:Program)(S:St)(pt:TypeId)(s n:SV)(K:St->SV->Option R):Option R :=
 match s,n with
 | .sd i,.d (.int .i64) k=>match get S.own i,ME P pt with
  | some (.row (.int .u8) e xs),some e'=>if e'=e∧P.cellsOf e=1 then need (eqi k (xs.length:Int)) (need (small xs.length) (need (u8s xs) (K { S with own:=rid i S.own,log:=i::S.log } (.d .str (toS xs))))) else none
  | _,_=>none
 | _,_=>none
theorem Fz.freeze(w:World)(a:Addr)(n:Nat):Fz [some a.block] w (w.freeze a n):=by
 refine⟨?_,?_,?_,?_,fun k hk hn=>?_⟩
 ·grind[World.freeze]
 ·grind[World.freeze]
 ·grind[World.freeze]
 ·grind[World.freeze]
 grind[World.freeze]
theorem aiE(h:Rel B F w0 wr pl S l ls w){x y:Operand}{pt it:TypeId}{s n:SV}(hv:lUS P S pt s n K=some r)(hx:Den pl (lx pl S.own++F) w s (ev l x))(hy:Den pl (lx pl S.own++F) w n (ev l y))(hk:Hand B F w0 wr S.nt l ls d K r KK) :
  OW P ⟨d,.call ⟨.builtin .unsafeString,#[x,y],#[pt,it]⟩,ty,pos,af,gd⟩ l w KK Q:=by
 unfold lUS at hv;split at hv
 ·rename_i i k
  split at hv
  ·rename_i e xs e' hg hp
   split at hv
   ·rename_i hc
    obtain⟨rfl,hc⟩:=hc;obtain⟨hkl,hv⟩:=bS hv;obtain⟨hsm,hv⟩:=bS hv;obtain⟨hu8,hv⟩:=bS hv;have hsm:=jA hsm;have hkl:k=(xs.length:Int):=by simpa [eqi]using hkl
    obtain⟨p,q,h1,h2,h3⟩:=hx;obtain⟨p',h4,h5⟩:=h.ent _ (get_mem hg);rw[h1]at h4;cases h4;have hn:=h5.len;have hy:=je hy;obtain⟨pre,post,q1,q2⟩:=qZ hg;obtain⟨pre',post',q3,q4⟩:=qF hg;have hmem:plb pl i∈lx pl S.own:=List.mem_map_of_mem (f:=fun e:Nat×Ent=>plb pl e.1) (get_mem hg)
    have hfin:∀w',(Builtin.unsafeString_ #[pt,it] ty #[ev l x,ev l y]).run P w = .ok (.string ⟨⟨toS xs⟩⟩) w'->Fz [plb pl i] w w'->OW P ⟨d,.call ⟨.builtin .unsafeString,#[x,y],#[pt,it]⟩,ty,pos,af,gd⟩ l w KK Q:=fun w' hr hf=>by
     have hsub:List.Sublist (lx pl (rid i S.own)) (lx pl S.own):=yS (yR i S.own)
     have hS:Stp B (lx pl S.own) (lx pl (rid i S.own)) F [plb pl i] w w':=⟨hf,fun k hk=>by
      simp at hk;rw[hk]
      exact hmem,Sub.of_subset (fun _ hk=>(hsub.append (List.Sublist.refl F)).subset hk),(h.hL.drop hsub).step hf.size⟩
     have hL:=h.hL
     have hrel:=h.go (M:=[plb pl i]) (pl':=pl) (S':={ S with own:=rid i S.own,log:=i::S.log }) hS (fun _ _ h=>h) h.nx (Nat.le_refl _) rfl rfl rfl (fun j hj=>zO _ hj) (fun e he=>by
      have he:e∈rid i S.own:=he;rw[q2]at he;rw[q1]at hL
      refine .inl ⟨by rw[q1];rcases List.mem_append.1 he with he | he<;>simp[he],others hL (List.mem_append.1 he)⟩)
     refine iG (v:=.string ⟨⟨toS xs⟩⟩) (w':=w') ?_ (hk pl _ _ _ w' hrel rfl (xg _) hv);simp only[execOp,resolve,invoke,builtin,Sem.run_bind,Sem.run_pure,zJ,List.map_toArray,List.map_cons,List.map_nil,hr]
    by_cases h0:xs=[]
    ·subst h0
     refine hfin w ?_ (Fz.refl _ _);rw[h2,hy,hkl];exact Lib.run_unsafeString_none (P:=P) w pt it ty q
    ·have hpos:0<xs.length:=List.length_pos_iff.2 h0
     have hq:=h3 (by omega);obtain⟨g,hga⟩:=h5.addr (i:=0) (by omega);obtain⟨pa,pn,pc⟩:=p;simp only at hga hq h5 hn;subst hga;subst hq;obtain⟨_,cells,h6,h7⟩:=h5
     have hcells:∀j z,xs[j]? = some z->w.cell? ((⟨g,0,none⟩:Addr).add j)=some (.int .u8 z):=fun j z hj=>by
      obtain⟨pre0,d0,post0,e2,e3,e4,_⟩:=h7.at hj;have e4:d0=[.int .u8 z]:=e4;subst e4;refine h6.cells (g:=g) rfl j _ ?_;rw[e2];have e3:pre0.length=j:=by rw[e3,bV];simp[Ty.size]
      rw[List.append_assoc,List.getElem?_append_right (by omega),e3,Nat.sub_self];rfl
     have hshape:∃m,w.shape? g=some (e',m)∧xs.length≤m:=by
      rcases h6.2 with ⟨hv',_⟩ | ⟨g',cap,cur,hv',_,hgg,hnc,_,hcs,_⟩
      ·simp at hv'
      ·simp at hv'
       obtain⟨rfl,rfl⟩:=hv';refine⟨cur.size,by simp[World.shape?,hgg],?_⟩;rw[hcs,bV];simp[Ty.size];exact hnc
     obtain⟨m,hsh,hm⟩:=hshape;refine hfin (w.freeze ⟨g,0,none⟩ xs.length) ?_ (by rw[fo h1];exact Fz.freeze w ⟨g,0,none⟩ _);rw[h2,hy,hkl];exact D3 pt it ty e' (NS hp) hc g m hsh xs hu8 h0 hm (by omega) hcells
   ·cases hv
  ·cases hv
 ·cases hv
inductive Xk where
 | ibs
 | noesc
 | cnt
theorem EO : Extern.allNextRows.lookup "" = none := by rfl
def nmI:String:=match Extern.BytealgIndexByte.rows with
 | _::x::_=>x.1
 | _ => ""
def nmN:String:=match Extern.AbiNoEscape.rows with
 | x::_=>x.1
 | _ => ""
def nmC:String:=match Extern.BytealgCount.rows with
 | _::x::_=>x.1
 | _ => ""
theorem aiF:Extern.allNextRows.lookup nmC=none:=by rfl
theorem aiG:Extern.allNextRows.lookup nmI=none:=by rfl
theorem aiH:Extern.allNextRows.lookup nmN=none:=by rfl
def xk(P:Program)(f:FuncId):Option Xk:=match P.funcs[f]? with
 | some fn => if fn.body.isNone = true ∧ fn.origin = "" then (if fn.name = nmI then some .ibs else if fn.name = nmN then some .noesc else if fn.name = nmC then some .cnt else none) else none
 | none=>none
theorem abl {fn : Func} (hn : fn.name = nmI) (ho : fn.origin = "") : Extern.find fn = some Extern.BytealgIndexByte.indexByte ∧ Extern.findNext fn = none := by
 constructor
 ·unfold Extern.find
  rw[hn,ho];rfl
 simp_all[Extern.findNext,aiG,EO]
theorem abm {fn : Func} (hn : fn.name = nmN) (ho : fn.origin = "") : Extern.find fn = some Extern.AbiNoEscape.same ∧ Extern.findNext fn = none := by
 constructor
 ·unfold Extern.find
  rw[hn,ho];rfl
 simp_all[Extern.findNext,aiH,EO]
theorem abn {fn : Func} (hn : fn.name = nmC) (ho : fn.origin = "") : Extern.find fn = some Extern.BytealgCount.count ∧ Extern.findNext fn = none := by
 constructor
 ·unfold Extern.find
  rw[hn,ho];rfl
 simp_all[Extern.findNext,aiF,EO]
def NT(k:Xk)(S:St)(args:List SV)(K:St->SV->Option R):Option R :=
 match k with
 | .ibs=>match args with
  | [.d .str s,.d (.int .u8) c]=>K S (.d (.int .i64) (Lib.indexByte s (u8 c)))
  | _=>none
 | .cnt=>match args with
  | [.d .str s,.d (.int .u8) c]=>K S (.d (.int .i64) (zD (aa0 s (u8 c))))
  | _=>none
 | .noesc=>match args with
  | [s]=>K S s
  | _=>none
theorem ahi(h:Rel B F w0 wr pl S l ls w){f:FuncId}{args:Array Operand}{ts:Array TypeId}{k:Xk}{ss:List SV}(hf:xk P f=some k)(hs:BS S args.toList=some ss)(hv:NT k S ss K=some r)(hk:Hand B F w0 wr S.nt l ls d K r KK) :
  OW P ⟨d,.call ⟨.value (.func f),args,ts⟩,ty,pos,af,gd⟩ l w KK Q:=by
 have hd:=qH h.fr hs;have hargs:args.map (ev l)=(args.toList.map (ev l)).toArray:=by grind
 unfold xk at hf;split at hf
 ·rename_i fn hfn
  split at hf
  ·rename_i hb
   obtain⟨hb,ho⟩:=hb;split at hf
   ·rename_i hn
    cases hf
    obtain⟨x1,x2⟩:=abl hn ho;simp only[NT]at hv;split at hv
    ·rename_i s c
     obtain⟨u1,us,e1,d1,u2,us2,e2,d2,e3⟩:=hd;cases e3;subst e2;rw[e1]at hargs;have d1:=jq d1;have d2:=je d2;have hc:(callFunc f (args.map (ev l))).run P w = .ok (.value (.int .i64 (Lib.indexByte s c.toNat.toUInt8))) w:=by rw[hargs,d1,d2,run_callFunc_extern hfn (by rw[hn];rfl) hb x2 x1,Lib.run_indexByteString (P:=P) ⟨⟨s⟩⟩ c w,zJ]
     refine iG (v:=.int .i64 (Lib.indexByte s c.toNat.toUInt8)) (w':=w) ?_ (hk pl S _ _ w h rfl (dM _ _) hv);simp_all[execOp,resolve,ev,Deferred.ofValue,invoke]
    grind
   ·split at hf
    ·rename_i hn
     cases hf
     obtain⟨x1,x2⟩:=abm hn ho;simp only[NT]at hv;split at hv
     ·rename_i s
      obtain⟨u1,us,e1,d1,e3⟩:=hd;cases e3;rw[e1]at hargs;have hc:(callFunc f (args.map (ev l))).run P w = .ok (.value u1) w:=by rw[hargs,run_callFunc_extern hfn (by rw[hn];rfl) hb x2 x1,Lib.run_noEscape,zJ]
      refine iG (v:=u1) (w':=w) ?_ (hk pl S _ _ w h rfl d1 hv);simp_all[execOp,resolve,ev,Deferred.ofValue,invoke]
     grind
    ·split at hf
     ·rename_i hn
      cases hf
      obtain⟨x1,x2⟩:=abn hn ho;simp only[NT]at hv;split at hv
      ·rename_i s c
       obtain⟨u1,us,e1,d1,u2,us2,e2,d2,e3⟩:=hd;cases e3;subst e2;rw[e1]at hargs;have d1:=jq d1;have d2:=je d2;have hc:(callFunc f (args.map (ev l))).run P w = .ok (.value (.int .i64 (zD (aa0 s (u8 c))))) w:=by rw[hargs,d1,d2,run_callFunc_extern hfn (by rw[hn];rfl) hb x2 x1,Lib.run_countString (P:=P) ⟨⟨s⟩⟩ c w,zJ];rfl
       refine iG (v:=.int .i64 (zD (aa0 s (u8 c)))) (w':=w) ?_ (hk pl S _ _ w h rfl (dM _ _) hv);simp_all[execOp,resolve,ev,Deferred.ofValue,invoke]
      grind
     grind
  grind
 grind
def mth(P:Program)(t:TypeId)(name:String):Option FuncId :=
 match P.info? t,P.underlying t with
 | some ti,some dd=>match ti.methods.find? (·.name == name) with
  | some m=>if m.path.isEmpty=true then match m.func with
   | some (f,ptr)=>match dd with
    | .pointer _=>if ptr=true then some f else none
    | _=>if ptr=false then some f else none
   | none=>none
   else none
  | none=>none
 | _,_=>none
theorem Ud{t:TypeId}{v:Value}{name:String}{f:FuncId}{n:Nat}(h:mth P t name=some f):(method (n+1) t v name).run P w = .ok (f,v) w:=by
 unfold mth at h;split at h
 ·rename_i ti dd h1 h2
  split at h
  ·rename_i m hm
   split at h
   ·rename_i hp
    split at h
    ·rename_i f' ptr hfn
     have hpath:m.path = #[]:=by simpa using hp
     have hti:(typeInfo t).run P w = .ok ti w:=by simp[typeInfo,h1,Sem.run]
     split at h
     ·rename_i e
      split at h
      ·rename_i hptr
       cases h
       subst hptr;simp[method,hti,hm,hpath,follow,hfn,receiverAt,run_underlying h2,Go.Place.get,Sem.run_pure]
      ·cases h
     ·rename_i hnp
      split at h
      ·rename_i hptr
       cases h
       subst hptr
       have hr:∀wr,(receiverAt t (.val v) false wr).run P w = .ok v w:=fun wr=>by
        cases dd with
        | pointer e=>exact absurd rfl (hnp e)
        | _=>simp[receiverAt,run_underlying h2,Go.Place.get,Sem.run_pure]
       simp[method,hti,hm,hpath,follow,hfn,hr,Sem.run_pure]
      ·cases h
    ·cases h
   ·cases h
  ·cases h
 ·cases h
def abo(P:Program)(x:Operand)(name:String)(args:List Operand):Gt:=fun S=>match opv S x,BS S args with
 | some (.ifc t v),some ss=>match mth P t name with
  | some f=>if NH P f=true then some (f,v::ss) else none
  | none=>none
 | _,_=>none
theorem ahj{x:Operand}{name:String}{args:Array Operand}{ts:Array TypeId}:Io P l ⟨d,.call ⟨.invoke x name,args,ts⟩,ty,pos,af,gd⟩ w (abo P x name args.toList):=fun pl L S f ss hf hg=>by
 unfold abo at hg;split at hg
 ·rename_i t v ss' h1 h2
  split at hg
  ·rename_i f' hm
   split at hg
   ·rename_i hfn
    cases hg
    obtain ⟨u,h3,h4⟩:=bf hf h1;have h5:=qH hf h2;refine ⟨u::args.toList.map (ev l),⟨u,_,rfl,h3,h5⟩,?_⟩;obtain ⟨fn,q1,q2,q3⟩:=RJ hfn;have hn' : fn.name ≠ "runtime.NumGoroutine" := by simp_all
    have hb':fn.body≠none:=by grind
    have hcall:∀as,(callFunc f as).run P w = .ok (.enter f as) w:=fun as=>by simp_all[callFunc]
    have hmr:=Ud (P:=P) (w:=w) (v:=u) (n:=P.types.size+Made.depth - 1) hm;have hdep:P.types.size+Made.depth - 1+1=P.types.size+Made.depth:=by rfl
    rw[hdep]at hmr;have e1:(#[Value.iface t u]++args.map (ev l)).extract 1 (#[Value.iface t u]++args.map (ev l)).size=args.map (ev l):=by simp
    have e2:#[u]++args.map (ev l)=(u::args.toList.map (ev l)).toArray:=Array.ext' (by simp)
    have hinv:(invoke (.fn (.method name) #[]) (#[Value.iface t u]++args.map (ev l))).run P w = .ok (.enter f (u::args.toList.map (ev l)).toArray) w:=by
     have h0:(#[Value.iface t u]++args.map (ev l))[0]? = some (.iface t u):=by simp_all[Array.getElem?_append_left]
     unfold invoke;simp only[h0,e1];simp_all[callMethod,Sem.run_bind,run_program,zJ]
    simp_all[execOp,resolve,Sem.run_bind,Sem.run_pure,zJ]
   grind
  grind
 grind
end
end Ev
end
noncomputable section
namespace Ev
open Go Go.RowKit Sx Go.MapKept
def bq(kt:Ty){V:Type}:List (Vl kt×V)->Vl kt->Option V
 | [],_=>none
 | (a,b)::r,k=>if keq kt a k=true then some b else bq kt r k
def dh(kt:Ty){V:Type}:List (Vl kt×V)->Vl kt->V->List (Vl kt×V)
 | [],k,v=>[(k,v)]
 | (a,b)::r,k,v=>if keq kt a k=true then (a,v)::r else (a,b)::dh kt r k v
def Iu(kt:Ty){V:Type}:List (Vl kt×V)->Vl kt->List (Vl kt×V)
 | [],_=>[]
 | (a,b)::r,k=>if keq kt a k=true then r else (a,b)::Iu kt r k
def pK:Ty->Bool
 | .int _=>true
 | .str=>true
 | .bool=>true
 | _=>false
def kY:Ty->Bool
 | .pr a b=>pK a && kY b
 | .int _=>true
 | .str=>true
 | .bool=>true
 | _=>false
def mX:Ty->Bool
 | .int _=>true
 | .str=>true
 | .pr a b=>pK a && kY b
 | _=>false
theorem y5:∀{t:Ty},pK t=true->kY t=true
 | .int _,_=>rfl
 | .str,_=>rfl
 | .bool,_=>rfl
theorem Zu:∀{t:Ty},mX t=true->kY t=true
 | .int _,_=>rfl
 | .str,_=>rfl
 | .pr _ _,h=>h
theorem NU:∀{t:Ty},kY t=true->∀x:Vl t,keq t x x=true
 | .int _,_,x=>by simp[keq,eqi]
 | .str,_,x=>by simp[keq,eqs]
 | .bool,_,x=>by simp[keq,eqb]
 | .pr a b,h,x=>by simp_all[pK,kY,zL,keq,NU,y5,Bool.and_self]
theorem lV{t:Ty}(ht:mX t=true)(x y:Vl t):keq t x y=true↔x=y :=
 ⟨Gs,fun h=>by simp_all[NU,Zu]⟩
theorem jT:∀{t:Ty},pK t=true->∀x:Vl t,∃v,dD t x=[v]
 | .int _,_,_=>⟨_,rfl⟩
 | .str,_,_=>⟨_,rfl⟩
 | .bool,_,_=>⟨_,rfl⟩
theorem EP:∀{t:Ty},kY t=true->∀x y:Vl t,dD t x=dD t y->x=y
 | .int _,_,x,y,h=>by simpa [dD]using h
 | .str,_,x,y,h=>by simpa [dD,xS]using h
 | .bool,_,x,y,h=>by simpa [dD]using h
 | .pr a b,hb,x,y,h=>by have hb:(pK a && kY b)=true:=hb;rw[zL]at hb;obtain⟨u,hu⟩:=jT hb.1 x.1;obtain⟨v,hv⟩:=jT hb.1 y.1;have h:dD a x.1++dD b x.2=dD a y.1++dD b y.2:=h;rw[hu,hv]at h;simp only[List.cons_append,List.nil_append,List.cons.injEq]at h;exact Prod.ext (EP (y5 hb.1) _ _ (by rw[hu,hv,h.1])) (EP hb.2 _ _ h.2)
theorem Ao:∀{t:Ty},kY t=true->∀x:Vl t,∀v∈dD t x,∃d,IsKey d v
 | .int k,_,x,v,h=>⟨.int k,by simp[dD]at h;subst h;rfl⟩
 | .str,_,x,v,h=>⟨.string,by simp[dD,xS]at h;subst h;trivial⟩
 | .bool,_,x,v,h=>⟨.bool,by simp[dD]at h;subst h;trivial⟩
 | .pr a b,hb,x,v,h=>by
  have hb:(pK a && kY b)=true:=hb;rw[zL]at hb;rcases List.mem_append.1 (show v∈dD a x.1++dD b x.2 from h) with h | h
  ·exact Ao (y5 hb.1) _ _ h
  ·exact Ao hb.2 _ _ h
def Dw(P:Program)(t:TypeId)(y:Ty):Bool:=match P.underlying t with
 | some (.int k)=>match y with
  | .int k'=>decide (k'=k)
  | _=>false
 | some .string=>match y with
  | .str=>true
  | _=>false
 | some .bool=>match y with
  | .bool=>true
  | _=>false
 | _=>false
theorem Ap{P:Program}{t:TypeId}{y:Ty}(h:Dw P t y=true):∃dd,P.underlying t=some dd∧nY dd=false∧pK y=true ∧
  (∀(x:Vl y) (v:Value),dD y x=[v]->∀e n w,(Instr.checkKey e (n+1) t v).run P w = .ok () w) ∧
  ∀(x x':Vl y) (v v':Value),dD y x=[v]->dD y x'=[v']->∀d,∃r,(∀w,(Op.equalIn (d+1) t v v').run P w = .ok r w)∧(r=true↔x=x'):=by
 unfold Dw at h;split at h
 ·rename_i k hk
  split at h
  ·rename_i k'
   have:k'=k:=of_decide_eq_true h;subst this;refine⟨_,hk,rfl,rfl,fun x v hv e n w=>?_,fun x x' v v' hv hv' d=>?_⟩
   ·have hv:[Value.int k' x]=[v]:=hv
    cases hv
    exact run_checkKey (k:=.int k' x) hk rfl e n
   ·have hv:[Value.int k' x]=[v]:=hv
    have hv':[Value.int k' x']=[v']:=hv';cases hv;cases hv';simp_all[eq_int,eqi]
  grind
 ·rename_i hk
  split at h
  ·refine⟨_,hk,rfl,rfl,fun x v hv e n w=>?_,fun x x' v v' hv hv' d=>?_⟩
   ·have hv:[xS x]=[v]:=hv
    cases hv
    exact run_checkKey (k:=xS x) hk trivial e n
   ·have hv:[xS x]=[v]:=hv
    have hv':[xS x']=[v']:=hv';cases hv;cases hv';exact⟨_,Y5 hk,by simp[eqs]⟩
  grind
 ·rename_i hk
  split at h
  ·refine⟨_,hk,rfl,rfl,fun x v hv e n w=>?_,fun x x' v v' hv hv' d=>?_⟩
   ·have hv:[Value.bool x]=[v]:=hv
    cases hv
    exact run_checkKey (k:=Value.bool x) hk trivial e n
   ·have hv:[Value.bool x]=[v]:=hv
    have hv':[Value.bool x']=[v']:=hv';cases hv;cases hv';simp_all[Rx,eqb]
  grind
 grind
def oP(P:Program):Nat->List Field->Ty->Bool
 | _,[],_=>false
 | off, f :: q, y => decide (f.name ≠ "_") && (decide (f.offset = off) && match y, q with
  | .pr a b,q=>Dw P f.type a && oP P (off+1) q b
  | y,[]=>Dw P f.type y
  | _,_=>false)
theorem drop_one{us:List Value}{off:Nat}{v:Value}{r:List Value}(h:us.drop off=v::r):us[off]? = some v∧us.drop (off+1)=r:=by
 constructor
 ·have:=congrArg (·[0]?) h
  grind
 ·rw[<- List.drop_drop,h]
  rfl
theorem BV {P : Program} {off : Nat} {f : Field} {q : List Field} {y : Ty} (h : oP P off (f :: q) y = true) : f.name ≠ "_" ∧ f.offset = off ∧
  ((∃a b,y = .pr a b∧Dw P f.type a=true∧oP P (off+1) q b=true)∨(q=[]∧Dw P f.type y=true)):=by
 unfold oP at h;grind
theorem GB{P:Program}{d:Nat}{xs ys:Array Value}:∀(fs:List Field) (off:Nat) (y:Ty) (x x':Vl y),oP P off fs y=true->xs.toList.drop off=dD y x->ys.toList.drop off=dD y x' ->
  ∃ r, AllEq P (d + 1) xs ys (fs.map fun f => (f.name == "_", f.type, f.offset)) r ∧ (r = true ↔ x = x')
 | [],_,_,_,_,h,_,_=>by cases h
 | f::q,off,y,x,x',h,hx,hy=>by
  obtain ⟨h1,h2,h3⟩:=BV h;have h1 : (f.name == "_") = false := by simp_all
  rw[List.map_cons,h1,h2];rcases h3 with ⟨a,b,rfl,h4,h5⟩ | ⟨rfl,h4⟩
  ·obtain⟨dd,e1,e2,e3,_,e5⟩:=Ap h4
   obtain⟨u,hu⟩:=jT e3 x.1;obtain⟨v,hv⟩:=jT e3 x'.1;have hx:xs.toList.drop off=dD a x.1++dD b x.2:=hx;have hy:ys.toList.drop off=dD a x'.1++dD b x'.2:=hy;rw[hu]at hx;rw[hv]at hy;obtain⟨g1,g2⟩:=drop_one hx;obtain⟨g3,g4⟩:=drop_one hy;obtain⟨r,i1,i2⟩:=GB (d:=d) q (off+1) b x.2 x'.2 h5 g2 g4;obtain⟨r0,j1,j2⟩:=e5 x.1 x'.1 u v hu hv d;refine⟨r0 && r,.cons (iV e1 e2 (by simp_all)) (iV e1 e2 (by simp_all)) j1 i1,?_⟩;grind
  ·obtain⟨dd,e1,e2,e3,_,e5⟩:=Ap h4
   obtain⟨u,hu⟩:=jT e3 x;obtain⟨v,hv⟩:=jT e3 x';rw[hu]at hx;rw[hv]at hy;obtain⟨g1,g2⟩:=drop_one hx;obtain⟨g3,g4⟩:=drop_one hy;obtain⟨r0,j1,j2⟩:=e5 x x' u v hu hv d;refine⟨r0 && true,.cons (iV e1 e2 (by simp_all)) (iV e1 e2 (by simp_all)) j1 .nil,?_⟩;simp_all
theorem Ue{P:Program}{kt:TypeId}{fs:Array Field}{y:Ty}(hs:P.underlying kt=some (.struct fs))(hf:oP P 0 fs.toList y=true)(x:Vl y)(e:Bool)(w:World):(Instr.checkKey e 10000 kt (.agg (dD y x).toArray)).run P w = .ok () w:=by
 rw[show (10000:Nat)=9998+1+1 from rfl,Instr.checkKey];simp only[Sem.run_bind,run_underlying hs,zJ];rw[<- Array.forIn_toList];have hx:(dD y x).toArray.toList.drop 0=dD y x:=rfl;generalize (dD y x).toArray=us at hx;generalize fs.toList=L at hf;generalize 0=off at hf hx
 induction L generalizing off y with
 | nil=>simp
 | cons f L ih =>
  obtain⟨h1,h2,h3⟩:=BV hf;rcases h3 with ⟨a,b,rfl,h4,h5⟩ | ⟨rfl,h4⟩
  ·obtain⟨dd,e1,e2,e3,e4,_⟩:=Ap h4
   obtain⟨u,hu⟩:=jT e3 x.1;have hx:us.toList.drop off=dD a x.1++dD b x.2:=hx;rw[hu]at hx;obtain⟨g1,g2⟩:=drop_one hx;have p1:=iV e1 e2 (xs:=us) (off:=f.offset) (v:=u) (by simp_all) w;have p2:=e4 x.1 u hu e 9998 w;simp only[List.forIn_cons,Sem.run_bind,h1,ne_eq,not_false_eq_true,if_true,zJ,p1,p2,Sem.run_pure];exact ih x.2 (off+1) h5 g2
  ·obtain⟨dd,e1,e2,e3,e4,_⟩:=Ap h4
   obtain⟨u,hu⟩:=jT e3 x;rw[hu]at hx;obtain⟨g1,g2⟩:=drop_one hx;have p1:=iV e1 e2 (xs:=us) (off:=f.offset) (v:=u) (by simp_all) w;have p2:=e4 x u hu e 9998 w;simp_all
theorem aiI{P:Program}{kt:TypeId}{K:Type}{kv:K->Value}(heq:∀a b,∃r:Bool,(∀w,(Op.equal kt (kv a) (kv b)).run P w = .ok r w)∧(r=true↔a=b))(hinj:∀a b,kv a=kv b->a=b)(w:World)(k:K):∀(es:List MapEntry) (i:Nat),(∀x∈es,∃a,x.key=kv a) ->
  ((Instr.findAsking kt (kv k) es i).run P w = .ok none w∧∀x∈es,x.key≠kv k)∨∃j e,(Instr.findAsking kt (kv k) es i).run P w = .ok (some (i+j,e.val)) w∧es[j]? = some e∧e.key=kv k
 | [],i,_=>.inl ⟨by rfl,by simp⟩
 | e::es,i,h=>by
  obtain⟨a,ha⟩:=h e (by simp);obtain⟨r,h1,h2⟩:=heq k a;unfold Instr.findAsking;rw[Sem.run_bind,ha,h1,zJ];by_cases hr:r=true
  ·have:=h2.1 hr
   subst this;refine .inr ⟨0,e,?_,rfl,ha⟩;simp_all
  ·have hne:k≠a:=fun e=>hr (h2.2 e)
   rw[if_neg hr];rcases aiI heq hinj w k es (i+1) (fun x hx=>h x (zO _ hx)) with ⟨q1,q2⟩ | ⟨j,e',q1,q2,q3⟩
   ·grind
   ·exact .inr ⟨j+1,e',by grind,by simp_all,q3⟩
theorem La:∀{l:List Value},(∀v∈l,∃d,IsKey d v)->∀n,((l.zip l).all fun x=>Instr.sameBits n x.1 x.2)=true
 | [],_,_=>rfl
 | v::l,h,n=>by obtain⟨d,hd⟩:=h v (by simp);rw[List.zip_cons_cons,List.all_cons,sameBits_self hd,La (fun u hu=>h u (zO _ hu)) n];rfl
theorem Kp.fields{P:Program}{kt:TypeId}{fs:Array Field}{a b:Ty}(hs:P.underlying kt=some (.struct fs))(hp:P.stoodInHeld kt=false)(hf:oP P 0 fs.toList (.pr a b)=true)(hb:kY (.pr a b)=true):Kp P kt (bM (.pr a b)):=by
 have hinj:∀x y:Vl (.pr a b),bM (.pr a b) x=bM (.pr a b) y->x=y:=fun x y h=>by have h:Value.agg (dD (.pr a b) x).toArray=Value.agg (dD (.pr a b) y).toArray:=h;grind[Value.agg.injEq,EP]
 have heq:∀x y:Vl (.pr a b),∃r:Bool,(∀w,(Op.equal kt (bM (.pr a b) x) (bM (.pr a b) y)).run P w = .ok r w)∧(r=true↔x=y):=fun x y=>by
  obtain⟨r,h1,h2⟩:=GB (P:=P) (d:=9998) (xs:=(dD (.pr a b) x).toArray) (ys:=(dD (.pr a b) y).toArray) fs.toList 0 (.pr a b) x y hf rfl rfl;have hst:P.underlying kt=some (.struct (P.fieldsOf kt)):=by simp_all[Program.fieldsOf]
  have hfo:P.fieldsOf kt=fs:=by simp_all
  exact⟨r,fun w=>KU (d:=9999) hst hp (by rw[hfo]) h1 w,h2⟩
 refine⟨hinj,fun w e k=>Ue hs hf k e w,fun w k es h=>?_,fun w k=>?_⟩
 ·rcases aiI heq hinj w k es 0 h with ⟨q1,q2⟩ | ⟨j,e,q1,q2,q3⟩
  ·refine .inl ⟨?_,q2⟩
   cases es with
   | nil=>simp[Instr.findKey,run_underlying hs,Instr.findNow,Sem.run_pure]
   | cons x es=>simp[Instr.findKey,run_underlying hs,Instr.findNow,Instr.sameNow,q1]
  ·refine .inr ⟨j,e,?_,q2,q3⟩
   rw[Nat.zero_add]at q1
   cases es with
   | nil=>grind
   | cons x es=>simp[Instr.findKey,run_underlying hs,Instr.findNow,Instr.sameNow,q1]
 ·have:Instr.sameBits 10000 (bM (.pr a b) k) (bM (.pr a b) k)=true:=by show Instr.sameBits (9999+1) (Value.agg (dD (.pr a b) k).toArray) (Value.agg (dD (.pr a b) k).toArray)=true;simp only[Instr.sameBits,beq_self_eq_true,Bool.true_and];exact La (Ao hb k) 9999
  unfold Instr.keyThatStays;rw[if_pos this];rfl
def Aq(P:Program)(kt:TypeId)(t:Ty):Bool:=match P.underlying kt with
 | some (.int k)=>match t with
  | .int k'=>decide (k'=k)
  | _=>false
 | some .string=>match t with
  | .str=>true
  | _=>false
 | some (.struct fs)=>match t with
  | .pr a b=>kY (.pr a b) && (decide (P.stoodInHeld kt=false) && oP P 0 fs.toList (.pr a b))
  | _=>false
 | _=>false
theorem qI{P:Program}{kt:TypeId}{t:Ty}(h:Aq P kt t=true):mX t=true∧Nonempty (Kp P kt (bM t)):=by
 unfold Aq at h;split at h
 ·rename_i k hk
  split at h
  ·rename_i k'
   have:k'=k:=of_decide_eq_true h;subst this;exact⟨rfl,⟨Kp.int hk⟩⟩
  grind
 ·rename_i hk
  split at h
  ·exact⟨rfl,⟨Kp.str hk⟩⟩
  grind
 ·rename_i fs hk
  split at h
  ·rename_i a b
   rw[zL,zL,decide_eq_true_eq]at h;exact⟨h.1,⟨Kp.fields hk h.2.1 h.2.2 h.1⟩⟩
  grind
 grind
section
variable {kt vt:Ty}{L:Lx}{w:World}[DecidableEq (Vl kt)]
theorem ER(ht:mX kt=true)(k:Vl kt):∀{vs:List (Vl kt×Value)} {xs:List (Vl kt×Vl vt)},DmD L w vs xs ->
  (bq kt xs k=none∧iL vs k=none)∨∃y v cs,bq kt xs k=some y∧iL vs k=some v∧(rp vt).rel L w cs y∧v=(rp vt).val cs
 | [],xs,h=>by have h:xs=[]:=h;subst h;exact .inl ⟨rfl,rfl⟩
 | a::r,xs,⟨b,q,h1,h2,⟨cs,h3,h4⟩,h5⟩=>by
  subst h1;obtain⟨a1,a2⟩:=a;obtain⟨b1,b2⟩:=b;simp only at h2 h3 h4;subst h2;by_cases hk:a1=k
  ·refine .inr ⟨b2,a2,cs,?_,?_,h3,h4⟩
   ·simp_all[bq,if_pos,lV]
   simp_all[iL,if_pos]
  ·have hk':¬ keq kt a1 k=true:=fun e=>hk ((lV ht _ _).1 e)
   rcases ER ht k h5 with ⟨q1,q2⟩ | ⟨y,v,cs',q1,q2,q3⟩
   ·simp_all[bq,if_neg,iL]
   ·exact .inr ⟨y,v,cs',by simp_all[bq,if_neg],by simp_all[iL,if_neg],q3⟩
theorem NV(ht:mX kt=true)(k:Vl kt){y:Vl vt}{cs:List Value}(hy:(rp vt).rel L w cs y):∀{vs:List (Vl kt×Value)} {xs:List (Vl kt×Vl vt)},DmD L w vs xs->DmD L w (vg vs k ((rp vt).val cs)) (dh kt xs k y)
 | [],xs,h=>by have h:xs=[]:=h;subst h;exact⟨_,_,rfl,rfl,⟨cs,hy,rfl⟩,rfl⟩
 | a::r,xs,⟨b,q,h1,h2,⟨cs',h3,h4⟩,h5⟩=>by
  subst h1;obtain⟨a1,a2⟩:=a;obtain⟨b1,b2⟩:=b;simp only at h2 h3 h4;subst h2;by_cases hk:a1=k
  ·unfold vg dh
   rw[if_pos hk,if_pos ((lV ht _ _).2 hk)];exact⟨_,_,rfl,rfl,⟨cs,hy,rfl⟩,h5⟩
  ·have hk':¬ keq kt a1 k=true:=fun e=>hk ((lV ht _ _).1 e)
   unfold vg dh;rw[if_neg hk,if_neg hk'];exact⟨_,_,rfl,rfl,⟨cs',h3,h4⟩,NV ht k hy h5⟩
theorem NY(ht:mX kt=true)(k:Vl kt):∀{vs:List (Vl kt×Value)} {xs:List (Vl kt×Vl vt)},DmD L w vs xs->DmD L w (vk vs k) (Iu kt xs k)
 | [],xs,h=>by have h:xs=[]:=h;subst h;rfl
 | a::r,xs,⟨b,q,h1,h2,⟨cs',h3,h4⟩,h5⟩=>by
  subst h1;obtain⟨a1,a2⟩:=a;obtain⟨b1,b2⟩:=b;simp only at h2 h3 h4;subst h2;by_cases hk:a1=k
  ·simp_all[vk,Iu,if_pos,lV]
  ·have hk':¬ keq kt a1 k=true:=fun e=>hk ((lV ht _ _).1 e)
   unfold vk Iu;rw[if_neg hk,if_neg hk'];exact⟨_,_,rfl,rfl,⟨cs',h3,h4⟩,NY ht k h5⟩
end
theorem DmD.len{kt vt:Ty}{L:Lx}{w:World}:∀{vs:List (Vl kt×Value)} {xs:List (Vl kt×Vl vt)},DmD L w vs xs->vs.length=xs.length
 | [],xs,h=>by have h:xs=[]:=h;subst h;rfl
 | a::r,xs,⟨b,q,h1,h2,h3,h5⟩=>by subst h1;simp[DmD.len h5]
def abp:Value->SV
 | .agg ⟨cs⟩=>.agg (cs.map ofV)
 | v=>ofV v
section
variable {R:Type}{B:Nat->Prop}{F:Lx}{w0:Bs}{wr:Wr}{pl pl':List Place}{S S':St}{l l':List Value}{ls:List (List Value)}{w w':World}{L L' M:Lx}{P:Program}{d:Option Tmp}{ty:TypeId}{pos:String}{af:Array Edge}{gd:Option (Nat×Bool)}
 {Q:Exit->Act->World->Prop} {KK:List Value->World->Prop} {K:St->SV->Option R} {r:R}
def Dx(P:Program)(t:TypeId):Option SV:=match (P.info? t).bind (·.zero) with
 | some z=>if z.cells.toList.all Value.oneCell'=true then some (abp z) else none
 | none=>none
theorem abq{v:Value}(h:∀u∈v.cells.toList,u.oneCell'=true):Den pl L w (abp v) v:=by
 unfold abp;split
 ·exact⟨_,jX _,h,rfl⟩
 ·exact Ib v
theorem Ar{t:TypeId}{s:SV}(h:Dx P t=some s):∃z,(P.info? t).bind (·.zero)=some z∧∀(pl:List Place) (L:Lx) (w:World),Den pl L w s z:=by grind[Dx,abq,List.all_eq_true]
def mapOf(P:Program)(t:TypeId):Option (TypeId×TypeId):=match P.underlying t with
 | some (.map k e)=>some (k,e)
 | _=>none
theorem oz{t k e:TypeId}(h:mapOf P t=some (k,e)):P.underlying t=some (.map k e):=by grind[mapOf]
def Zv(P:Program)(t:TypeId):Bool:=match P.underlying t with
 | some (.int _)=>true
 | some .string=>true
 | _=>false
def okS(ok:Bool)(s:SV)(b:Bool):SV:=if ok=true then .tup [s,.d .bool b] else s
def lkS(kt:Ty)(k:Vl kt)(ok:Bool)(z:SV)(K:SV->Option R):List (Nat×Vl kt×SV)->Option R
 | []=>K (okS ok z false)
 | (_,a,s)::r=>if keq kt a k=true then K (okS ok s true) else lkS kt k ok z K r
@[reducible] def gdV(vt:Ty)(o:Option (Vl vt))(z:Vl vt):Vl vt:=o.getD z
@[reducible] def isV(vt:Ty)(o:Option (Vl vt)):Bool:=o.isSome
def Uf(P:Program)(own:List (Nat×Ent))(t:TypeId)(m k:SV)(ok:Bool)(K:SV->List Nat->Option R):Option R :=
 match mapOf P t with
 | some (ktid,et)=>match m with
  | .mp i=>match get own i with
   | some (.dm kt vt xs)=>match Dx P et,toD kt k with
    | some zs,some y=>match toD vt zs with
     | some z=>if Aq P ktid kt=true then K (okS ok (.d vt (gdV vt (bq kt xs y) z)) (isV vt (bq kt xs y))) [i] else none
     | none=>none
    | _,_=>none
   | some (.sm kt _ es)=>match Dx P et,toD kt k with
    | some zs,some y=>if Aq P ktid kt=true then lkS kt y ok zs (fun s=>K s [i]) es else none
    | _,_=>none
   | _=>none
  | .k (.map none)=>match Dx P et with
   | some zs=>if Zv P ktid=true then K (okS ok zs false) [] else none
   | none=>none
  | .d (.mp kt vt) xs=>match Dx P et,toD kt k with
   | some zs,some y=>match toD vt zs with
    | some z=>if Aq P ktid kt=true then K (okS ok (.d vt (gdV vt (bq kt xs y) z)) (isV vt (bq kt xs y))) [] else none
    | none=>none
   | _,_=>none
  | _=>none
 | none=>none
theorem qJ{ok:Bool}{s:SV}{v:Value}(b:Bool)(h:Den pl L w s v):Den pl L w (okS ok s b) (if ok then .tuple #[v,.bool b] else v):=by
 unfold okS
 cases ok with
 | true=>exact⟨[v,.bool b],⟨_,_,rfl,h,⟨_,_,rfl,gq b,rfl⟩⟩,rfl⟩
 | false=>exact h
theorem ES:∀{t:Ty},kY t=true->∀{x:Vl t} {cs:List Value},(rp t).rel L w cs x->cs=dD t x
 | .int _,_,_,_,h=>h
 | .str,_,_,_,h=>h
 | .bool,_,_,_,h=>h
 | .pr a b,hb,x,cs,h=>by have hb:(pK a && kY b)=true:=hb;rw[zL]at hb;obtain⟨c1,c2,e,h1,h2⟩:=h;rw[e,ES (y5 hb.1) h1,ES hb.2 h2];rfl
theorem ET:∀{t:Ty},kY t=true->∀x:Vl t,(rp t).rel L w (dD t x) x
 | .int _,_,_=>rfl
 | .str,_,_=>rfl
 | .bool,_,_=>rfl
 | .pr a b,hb,x=>by have hb:(pK a && kY b)=true:=hb;rw[zL]at hb;exact⟨_,_,rfl,ET (y5 hb.1) x.1,ET hb.2 x.2⟩
theorem uQ{kt:Ty}(ht:mX kt=true){s:SV}{y:Vl kt}{u:Value}(h:toD kt s=some y)(hd:Den pl L w s u):u=bM kt y:=by obtain⟨cs,h1,h2⟩:=jo h hd;have h3:=ES (Zu ht) h1;subst h3;rw[h2];cases kt<;>simp[mX]at ht<;>rfl
def smL{kt:Ty}(vs:List MapEntry)(es:List (Nat×Vl kt×SV)):List (Vl kt×Value):=(es.zip vs).map fun p=>(p.1.2.1,p.2.val)
theorem BX{kt:Ty}:∀{vs:List MapEntry} {es:List (Nat×Vl kt×SV)},SmD pl L w vs es->vs.map (fun e=>(e.key,e.val))=(smL vs es).map (fun x=>(bM kt x.1,x.2))∧vs.length=es.length
 | [],es,h=>by have h:es=[]:=h;subst h;exact⟨rfl,rfl⟩
 | a::r,es,⟨b,q,h1,h2,h3,h4,h5⟩=>by subst h1;obtain⟨i1,i2⟩:=BX h5;simp_all[bM,smL]
theorem Zw{kt:Ty}[DecidableEq (Vl kt)](ht:mX kt=true){k:Vl kt}{ok:Bool}{z:SV}{zv:Value}(hz:Den pl L w z zv){K:SV->Option R}:∀{vs:List MapEntry} {es:List (Nat×Vl kt×SV)},SmD pl L w vs es->lkS kt k ok z K es=some r ->
  ∃s,K s=some r∧Den pl L w s (if ok then .tuple #[(iL (smL vs es) k).getD zv,.bool (iL (smL vs es) k).isSome] else (iL (smL vs es) k).getD zv)
 | [],es,h,hv=>by have h:es=[]:=h;subst h;exact⟨_,hv,qJ false hz⟩
 | a::q,es,⟨b,q',h1,h2,h3,h4,h5⟩,hv=>by
  subst h1;obtain⟨b0,b1,b2⟩:=b;unfold lkS at hv;have e1:smL (a::q) ((b0,b1,b2)::q')=(b1,a.val)::smL q q':=rfl;rw[e1];by_cases hk:b1=k
  ·rw[if_pos ((lV ht _ _).2 hk)]at hv
   refine⟨_,hv,?_⟩;simp_all[iL,if_pos,qJ]
  ·rw[if_neg (fun e=>hk ((lV ht _ _).1 e))]at hv
   obtain⟨s,i1,i2⟩:=Zw ht hz h5 hv;refine⟨s,i1,?_⟩;simp_all[iL,if_neg]
theorem abr{own:List (Nat×Ent)}(he:EntsD pl L w own){t:TypeId}{x y:Operand}{ok:Bool}{m k:SV}{K:SV->List Nat->Option R}(h:Uf P own t m k ok K=some r)(hx:Den pl L w m (ev l x))(hy:Den pl L w k (ev l y)) :
  ∃s' rd,K s' rd=some r∧Yv P pl L w l ⟨d,.lookup t x y ok,ty,pos,af,gd⟩ s' rd:=by
 unfold Uf at h;split at h
 ·rename_i ktid et hmap
  have hmap:=oz hmap;split at h
  ·rename_i i
   split at h
   ·rename_i kt vt xs hg
    split at h
    ·rename_i zs y' hz hyk
     split at h
     ·rename_i z hzz
      split at h
      ·rename_i hkk
       obtain⟨ht,⟨D⟩⟩:=qI hkk;obtain⟨zv,hz1,hz2⟩:=Ar hz;obtain⟨g,n,c,vs,h1,h2,h3⟩:=he.get hg;obtain⟨g',n',c',h4,hu⟩:=hx;rw[h1]at h4;cases h4;have hkey:=uQ ht hyk hy
       letI:DecidableEq (Vl kt):=fun a b=>Classical.propDecidable (a=b)
       refine⟨_,_,h,(if ok then .tuple #[(iL vs y').getD zv,.bool (iL vs y').isSome] else (iL vs y').getD zv),?_,fun w' hF hrd=>?_⟩
       ·obtain⟨zc,hzc1,hzc2⟩:=jo hzz (hz2 pl L w)
        rcases ER ht y' h3 with ⟨q1,q2⟩ | ⟨yy,v,cs,q1,q2,q3,q4⟩
        ·rw[q1,q2]
         exact qJ false ⟨zc,hzc1,hzc2⟩
        ·rw[q1,q2]
         exact qJ true ⟨cs,q3,q4⟩
       ·have hM:MapIs (bM kt) (fun v:Value=>v) w' g vs:=by obtain⟨es,cl,q1,q2⟩:=h2;exact⟨es,cl,by rw[hrd i (by simp) g (by rw[fo h1];rfl)];exact q1,q2⟩
        grind[EF]
      grind
     grind
    grind
   ·rename_i kt cl es hg
    split at h
    ·rename_i zs y' hz hyk
     split at h
     ·rename_i hkk
      obtain⟨ht,⟨D⟩⟩:=qI hkk;obtain⟨zv,hz1,hz2⟩:=Ar hz;obtain⟨g,n,c,vs,h1,h2,h3⟩:=he.get hg;obtain⟨g',n',c',h4,hu⟩:=hx;rw[h1]at h4;cases h4;have hkey:=uQ ht hyk hy
      letI:DecidableEq (Vl kt):=fun a b=>Classical.propDecidable (a=b)
      obtain⟨s,i1,i2⟩:=Zw ht (hz2 pl L w) h3 h;refine⟨s,_,i1,_,i2,fun w' hF hrd=>?_⟩
      have hM:MapIs (bM kt) (fun v:Value=>v) w' g (smL vs.toList es) :=
       ⟨vs,cl,by rw[hrd i (by simp) g (by rw[fo h1];rfl)];grind,(BX h3).1,h2.2⟩
      grind[EF]
     grind
    grind
   grind
  ·split at h
   ·rename_i zs hz
    split at h
    ·rename_i hkt
     obtain⟨zv,hz1,hz2⟩:=Ar hz;refine⟨_,_,h,Yv.of (qJ false (hz2 pl L w)) (fun w'=>?_)⟩
     have hzz:(zeroValue et).run P w' = .ok zv w':=by
      cases hinf:P.info? et with
      | none=>simp_all
      | some i=>simp_all[zeroValue,typeInfo,Sem.run]
     have hx:ev l x = .map none:=hx;unfold Zv at hkt;split at hkt
     ·rename_i k' hk'
      have hck0:∀n v,(Instr.checkKey true (n+1) ktid v).run P w' = .ok () w':=fun n v=>by simp[Instr.checkKey,run_underlying hk']
      have hck:∀v,(Instr.checkKey true 10000 ktid v).run P w' = .ok () w':=hck0 9999;simp_all[Instr.findKey,run_underlying,Instr.findNow,Sem.run_pure,execOp,Instr.lookup,Result.andThen]
     ·rename_i hk'
      have hck0:∀n v,(Instr.checkKey true (n+1) ktid v).run P w' = .ok () w':=fun n v=>by simp[Instr.checkKey,run_underlying hk']
      have hck:∀v,(Instr.checkKey true 10000 ktid v).run P w' = .ok () w':=hck0 9999;simp_all[Instr.findKey,run_underlying,Instr.findNow,Sem.run_pure,execOp,Instr.lookup,Result.andThen]
     simp_all
    grind
   grind
  ·rename_i kt vt xs
   split at h
   ·rename_i zs y' hz hyk
    split at h
    ·rename_i z hzz
     split at h
     ·rename_i hkk
      obtain⟨ht,⟨D⟩⟩:=qI hkk;obtain⟨zv,hz1,hz2⟩:=Ar hz;obtain⟨cs0,⟨g,vs,rfl,hg1,hg2,h2,h3⟩,hu⟩:=hx;have h3:DmD L w vs xs:=DmD.iff.1 h3;have hu:ev l x = .map (some g):=hu;have hkey:=uQ ht hyk hy
      letI:DecidableEq (Vl kt):=fun a b=>Classical.propDecidable (a=b)
      refine⟨_,_,h,(if ok then .tuple #[(iL vs y').getD zv,.bool (iL vs y').isSome] else (iL vs y').getD zv),?_,fun w' hF hrd=>?_⟩
      ·obtain⟨zc,hzc1,hzc2⟩:=jo hzz (hz2 pl L w)
       rcases ER ht y' h3 with ⟨q1,q2⟩ | ⟨yy,v,cs,q1,q2,q3,q4⟩
       ·rw[q1,q2]
        exact qJ false ⟨zc,hzc1,hzc2⟩
       ·rw[q1,q2]
        exact qJ true ⟨cs,q3,q4⟩
      ·have hM:MapIs (bM kt) (fun v:Value=>v) w' g vs:=by obtain⟨es,cl,q1,q2⟩:=h2;exact⟨es,cl,(hF.block g hg2 hg1).trans q1,q2⟩
       grind[EF]
     grind
    grind
   grind
  grind
 grind
def EU(P:Program)(S:St)(t:TypeId)(K:St->SV->Option R):Option R :=
 match mapOf P t with
 | some (kt,et)=>match tyc P kt with
  | some k=>if Aq P kt k=true then (match tyc P et with
   | some v=>K { S with own:=(S.nx,.dm k v [])::S.own,nx:=S.nx+1 } (.mp S.nx)
   | none=>K { S with own:=(S.nx,.sm k 0 [])::S.own,nx:=S.nx+1 } (.mp S.nx)) else none
  | none=>none
 | none=>none
theorem Rl(h:Rel B F w0 wr pl S l ls w){t:TypeId}(hv:EU P S t K=some r)(hk:Hand B F w0 wr S.nt l ls d K r KK):OW P ⟨d,.makeMap t none,ty,pos,af,gd⟩ l w KK Q:=by
 unfold EU at hv;split at hv
 ·split at hv
  ·rename_i k hkt
   split at hv
   ·rename_i hkk
    obtain⟨ht,⟨D⟩⟩:=qI hkk;have hrun:(execOp (Sx.ev l) ⟨d,.makeMap t none,ty,pos,af,gd⟩).run P w = .ok (.value (.map (some w.heap.size))) (w.alloc (.map #[] 0)):=rfl;have hS:Stp B (lx pl S.own) (some w.heap.size::lx pl S.own) F [] w (w.alloc (.map #[] 0)):=Stp.new h.hL (Fz.alloc _ _ _) rfl (by simp);split at hv
    ·rename_i v hvt
     have hr:=h.push ⟨some ⟨w.heap.size,0,none⟩,0,0⟩ (.dm k v []) hS ⟨w.heap.size,0,0,[],gJ _,⟨#[],0,oL w _,rfl,stamped_empty 0⟩,rfl⟩;exact iG hrun (hk _ _ (.mp S.nx) _ _ hr rfl ⟨w.heap.size,0,0,by rw[h.nx];simp,rfl⟩ hv)
    ·have hr:=h.push ⟨some ⟨w.heap.size,0,none⟩,0,0⟩ (.sm k 0 []) hS ⟨w.heap.size,0,0,#[],gJ _,⟨oL w _,stamped_empty 0⟩,rfl⟩
     exact iG hrun (hk _ _ (.mp S.nx) _ _ hr rfl ⟨w.heap.size,0,0,by rw[h.nx];simp,rfl⟩ hv)
   grind
  grind
 grind
def MF{kt:Ty}(k:Vl kt):List (Nat×Vl kt×SV)->Bool
 | []=>true
 | (_,a,_)::r=>!keq kt a k && MF k r
def Dy(P:Program)(S:St)(t:TypeId)(m k x:SV)(K:St->SV->Option R):Option R :=
 match mapOf P t with
 | some (ktid,_)=>match m with
  | .mp i=>match get S.own i with
   | some (.dm kt vt xs)=>match toD kt k,toD vt x with
    | some a,some b=>if Aq P ktid kt=true then K { S with own:=dP i (.dm kt vt (dh kt xs a b)) S.own,log:=i::S.log } (.k undef) else none
    | _,_=>none
   | some (.sm kt cl es)=>match toD kt k with
    | some a=>if Aq P ktid kt=true∧MF a es=true then K { S with own:=dP i (.sm kt (cl+1) (es++[(cl,a,x)])) S.own,log:=i::S.log } (.k undef) else none
    | none=>none
   | _=>none
  | _=>none
 | none=>none
theorem y7{i:Nat}{e:Ent}{g n c:Nat}(hg:get S.own i=some e)(h1:pl[i]? = some ⟨some ⟨g,0,none⟩,n,c⟩):plb pl i=some g∧some g∈lx pl S.own:=by have hpl:plb pl i=some g:=fo h1;exact⟨hpl,by rw[<- hpl];exact List.mem_map_of_mem (f:=fun e:Nat×Ent=>plb pl e.1) (get_mem hg)⟩
theorem SmD.app{kt:Ty}{b:Nat×Vl kt×SV}{a:MapEntry}(h1:a.born=b.1)(h2:a.key=bM kt b.2.1)(h3:Den pl L w b.2.2 a.val):∀{vs:List MapEntry} {es:List (Nat×Vl kt×SV)},SmD pl L w vs es->SmD pl L w (vs++[a]) (es++[b])
 | [],es,h=>by have h:es=[]:=h;subst h;exact⟨b,[],rfl,h1,h2,h3,rfl⟩
 | v::vs,es,⟨b',q,e1,e2,e3,e4,e5⟩=>by subst e1;exact⟨b',_,rfl,e2,e3,e4,SmD.app h1 h2 h3 e5⟩
theorem NZ{kt:Ty}(ht:mX kt=true)(hinj:∀a b,bM kt a=bM kt b->a=b){k:Vl kt}:∀{vs:List MapEntry} {es:List (Nat×Vl kt×SV)},SmD pl L w vs es->MF k es=true->∀x∈vs,x.key≠bM kt k
 | [],es,h,_,x,hx=>by cases hx
 | v::vs,es,⟨b',q,e1,e2,e3,e4,e5⟩,hn,x,hx=>by
  subst e1;obtain⟨b0,b1,b2⟩:=b';simp only[MF,zL,Bool.not_eq_true']at hn;rcases List.mem_cons.1 hx with hx | hx
  ·subst hx
   intro he;rw[e3]at he;have:=(lV ht b1 k).2 (hinj _ _ he);rw[hn.1]at this;cases this
  ·exact NZ ht hinj e5 hn.2 x hx
theorem GD(h:Rel B F w0 wr pl S l ls w){t:TypeId}{x i y:Operand}{m k v:SV}{op:Op}(ho:op = .mapUpdate t x i y∨op = .insert t x i y)(hv:Dy P S t m k v K=some r)(hx:Den pl (lx pl S.own++F) w m (ev l x))(hi:Den pl (lx pl S.own++F) w k (ev l i))(hy:Den pl (lx pl S.own++F) w v (ev l y))
  (hk:Hand B F w0 wr S.nt l ls d K r KK):OW P ⟨d,op,ty,pos,af,gd⟩ l w KK Q:=by
 unfold Dy at hv;split at hv
 ·rename_i ktid et hmap
  have hmap:=oz hmap;split at hv
  ·rename_i j
   split at hv
   ·rename_i kt vt xs hg
    split at hv
    ·rename_i a b ha hb
     split at hv
     ·rename_i hkk
      obtain⟨ht,⟨D⟩⟩:=qI hkk
      letI:DecidableEq (Vl kt):=fun a b=>Classical.propDecidable (a=b)
      obtain⟨g,n,c,vs,h1,h2,h3⟩:=h.ent _ (get_mem hg);obtain⟨g',n',c',h4,hu⟩:=hx;rw[h1]at h4;cases h4;obtain⟨hpl,hmem⟩:=y7 hg h1;obtain⟨cs,hc1,hc2⟩:=jo hb hy;refine Y3 D hmap (vv:=fun v:Value=>v) hu (uQ ht ha hi) hc2 h.hL h2 hmem ho (fun w' hS hM=>?_);have hE:=Ext.of_stp (pl:=pl) (pl':=pl) hS (fun _ _ h=>h);have hr:=h.mod (e':=.dm kt vt (dh kt xs a b)) hg (by simp_all) ⟨g,n,c,_,h1,hM,NV ht a (hE.rel _ hc1) (h3.ext hE)⟩;exact hk pl _ (.k undef) undef w' hr rfl rfl hv
     grind
    grind
   ·rename_i kt cl es hg
    split at hv
    ·rename_i a ha
     split at hv
     ·rename_i hkk
      obtain⟨hkk,hno⟩:=hkk;obtain⟨ht,⟨D⟩⟩:=qI hkk;obtain⟨g,n,c,vs,h1,⟨h2,h2s⟩,h3⟩:=h.ent _ (get_mem hg);obtain⟨g',n',c',h4,hu⟩:=hx;rw[h1]at h4;cases h4;obtain⟨hpl,hmem⟩:=y7 hg h1;have hkey:=uQ ht ha hi
      have hkeys:∀e∈vs.toList,∃a,e.key=bM kt a:=fun e he=>by
       letI:DecidableEq (Vl kt):=fun a b=>Classical.propDecidable (a=b)
       exact Gg (vv:=fun v:Value=>v) (BX h3).1 e he
      have hne:=NZ ht D.inj h3 hno
      have hfn:(Instr.findKey ktid (bM kt a) vs.toList).run P w = .ok none w:=by
       rcases D.fnd w a vs.toList hkeys with ⟨q1,q2⟩ | ⟨jj,e0,q1,q2,q3⟩
       ·exact q1
       grind
      have hrun:(Instr.mapUpdate t (.map (some g)) (bM kt a) (ev l y)).run P w = .ok () { w with heap:=w.heap.setIfInBounds g (.map (vs.push ⟨bM kt a,ev l y,cl⟩) (cl+1)) }:=by simp[Instr.mapUpdate,run_underlying hmap,MapKept.run_getObj_map h2,D.chk,hfn,MapKept.run_setObj_map _ h2,Result.andThen]
      have hf:Fz [some g] w { w with heap:=w.heap.setIfInBounds g (.map (vs.push ⟨bM kt a,ev l y,cl⟩) (cl+1)) }:=Fz.setobj w g _;have hS:Stp B (lx pl S.own) (lx pl S.own) F [some g] w { w with heap:=w.heap.setIfInBounds g (.map (vs.push ⟨bM kt a,ev l y,cl⟩) (cl+1)) }:=Stp.store h.hL hmem hf;have hE:=Ext.of_stp (pl:=pl) (pl':=pl) hS (fun _ _ h=>h)
      have hr:=h.mod (e':=.sm kt (cl+1) (es++[(cl,a,v)])) hg (by rw[hpl];exact hS) ⟨g,n,c,vs.push ⟨bM kt a,ev l y,cl⟩,h1,⟨(heap_set h2).1,stamped_push h2s hne⟩,by
       rw[Array.toList_push]
       exact SmD.app rfl rfl (hy.ext hE) (h3.ext hE)⟩
      refine yM (w':={ w with heap:=w.heap.setIfInBounds g (.map (vs.push ⟨bM kt a,ev l y,cl⟩) (cl+1)) }) ?_ (hk pl _ (.k undef) undef _ hr rfl rfl hv);rcases ho with rfl | rfl<;>simp[execOp,hu,hkey,hrun]
     grind
    grind
   grind
  grind
 grind
def Iv(P:Program)(S:St)(t:TypeId)(m k:SV)(K:St->SV->Option R):Option R :=
 match mapOf P t with
 | some (ktid,_)=>match m with
  | .mp i=>match get S.own i with
   | some (.dm kt vt xs)=>match toD kt k with
    | some a=>if Aq P ktid kt=true then K { S with own:=dP i (.dm kt vt (Iu kt xs a)) S.own,log:=i::S.log } (.tup []) else none
    | none=>none
   | _=>none
  | _=>none
 | none=>none
theorem Ug(h:Rel B F w0 wr pl S l ls w){t t':TypeId}{x i:Operand}{m k:SV}(hv:Iv P S t m k K=some r)(hx:Den pl (lx pl S.own++F) w m (ev l x))(hi:Den pl (lx pl S.own++F) w k (ev l i))(hk:Hand B F w0 wr S.nt l ls d K r KK) :
  OW P ⟨d,.call ⟨.builtin .delete,#[x,i],#[t,t']⟩,ty,pos,af,gd⟩ l w KK Q:=by
 unfold Iv at hv;split at hv
 ·rename_i ktid et hmap
  have hmap:=oz hmap;split at hv
  ·rename_i j
   split at hv
   ·rename_i kt vt xs hg
    split at hv
    ·rename_i a ha
     split at hv
     ·rename_i hkk
      obtain⟨ht,⟨D⟩⟩:=qI hkk
      letI:DecidableEq (Vl kt):=fun a b=>Classical.propDecidable (a=b)
      obtain⟨g,n,c,vs,h1,h2,h3⟩:=h.ent _ (get_mem hg);obtain⟨g',n',c',h4,hu⟩:=hx;rw[h1]at h4;cases h4;obtain⟨hpl,hmem⟩:=y7 hg h1;refine Y4 D hmap (vv:=fun v:Value=>v) hu (uQ ht ha hi) h.hL h2 hmem (fun w' hS hM=>?_);have hE:=Ext.of_stp (pl:=pl) (pl':=pl) hS (fun _ _ h=>h);have hr:=h.mod (e':=.dm kt vt (Iu kt xs a)) hg (by simp_all) ⟨g,n,c,_,h1,hM,NY ht a (h3.ext hE)⟩;exact hk pl _ (.tup []) _ w' hr rfl ⟨[],rfl,rfl⟩ hv
     grind
    grind
   grind
  grind
 grind
def Dz(P:Program)(own:List (Nat×Ent))(t:TypeId)(m:SV)(K:SV->List Nat->Option R):Option R :=
 match mapOf P t with
 | some _=>match m with
  | .mp i=>match get own i with
   | some (.dm _ _ xs)=>K (.d (.int .i64) (xs.length:Int)) [i]
   | some (.sm _ _ es)=>K (.d (.int .i64) (es.length:Int)) [i]
   | _=>none
  | .d (.mp _ _) xs=>K (.d (.int .i64) (xs.length:Int)) []
  | _=>none
 | none=>none
theorem GG{own:List (Nat×Ent)}(he:EntsD pl L w own){t:TypeId}{x:Operand}{m:SV}{K:SV->List Nat->Option R}(h:Dz P own t m K=some r)(hx:Den pl L w m (ev l x)) :
  ∃s' rd,K s' rd=some r∧Yv P pl L w l ⟨d,.call { callee:=.builtin .len,args:=#[x],argTypes:=#[t] },ty,pos,af,gd⟩ s' rd:=by
 unfold Dz at h;split at h
 ·rename_i kt et hmap
  have hmap:=oz hmap;split at h
  ·rename_i i
   split at h
   ·rename_i kt vt xs hg
    obtain⟨g,n,c,vs,h1,h2,h3⟩:=he.get hg;obtain⟨g',n',c',h4,hu⟩:=hx;rw[h1]at h4;cases h4;refine⟨_,_,h,_,dM _ _,fun w' hF hrd=>?_⟩;have hM:MapIs (bM kt) (fun v:Value=>v) w' g vs:=by obtain⟨es,cl,q1,q2⟩:=h2;exact⟨es,cl,by rw[hrd i (by simp) g (by rw[fo h1];rfl)];exact q1,q2⟩
    letI:DecidableEq (Vl kt):=fun a b=>Classical.propDecidable (a=b)
    have:=Sx.run_len_map (P:=P) (d:=d) (ty:=ty) (pos:=pos) (af:=af) (gd:=gd) hmap hu hM;rw[h3.len]at this;omega
   ·rename_i kt cl es hg
    obtain⟨g,n,c,vs,h1,h2,h3⟩:=he.get hg;obtain⟨g',n',c',h4,hu⟩:=hx;rw[h1]at h4;cases h4;refine⟨_,_,h,_,dM _ _,fun w' hF hrd=>?_⟩
    have hM:MapIs (bM kt) (fun v:Value=>v) w' g (smL vs.toList es) :=
     ⟨vs,cl,by rw[hrd i (by simp) g (by rw[fo h1];rfl)];grind,(BX h3).1,h2.2⟩
    letI:DecidableEq (Vl kt):=fun a b=>Classical.propDecidable (a=b)
    have:=Sx.run_len_map (P:=P) (d:=d) (ty:=ty) (pos:=pos) (af:=af) (gd:=gd) hmap hu hM;have hl:(smL vs.toList es).length=es.length:=by have h0:=(BX h3).2;simp_all[smL]
    simp_all
   grind
  ·rename_i kt vt xs
   obtain⟨cs0,⟨g,vs,rfl,hg1,hg2,h2,h3⟩,hu⟩:=hx;have h3:DmD L w vs xs:=DmD.iff.1 h3;refine⟨_,_,h,_,dM _ _,fun w' hF hrd=>?_⟩;have hM:MapIs (bM kt) (fun v:Value=>v) w' g vs:=by obtain⟨es,cl,q1,q2⟩:=h2;exact⟨es,cl,(hF.block g hg2 hg1).trans q1,q2⟩
   letI:DecidableEq (Vl kt):=fun a b=>Classical.propDecidable (a=b)
   have:=Sx.run_len_map (P:=P) (d:=d) (ty:=ty) (pos:=pos) (af:=af) (gd:=gd) hmap hu hM;rw[h3.len]at this;omega
  grind
 grind
end
end Ev
end
noncomputable section
namespace Ev
open Go Go.RowKit Sx Go.MapKept
section
variable {R:Type}
def EV(eq:R->R->Bool):Option R->List (Option R)->Option R
 | a,[]=>a
 | a,b::q=>match a,EV eq b q with
  | some x,some y=>if eq x y=true then some x else none
  | _,_=>none
def amb(eq:R->R->Bool):List (Option R)->Option R
 | []=>none
 | a::q=>EV eq a q
theorem RU{eq:R->R->Bool}(heq:∀a b,eq a b=true->a=b){r:R}:∀{q:List (Option R)} {a:Option R},EV eq a q=some r->∀x∈a::q,x=some r
 | [],a,h,x,hx=>by simp only[List.mem_singleton]at hx;subst hx;exact h
 | b::q,a,h,x,hx=>by
  unfold EV at h
  cases a with
  | none=>cases h
  | some u =>
   cases hq:EV eq b q with
   | none=>rw[hq]at h;cases h
   | some v =>
    rw[hq]at h;simp only at h;split at h
    ·rename_i he
     cases h
     have:=heq _ _ he;subst this;rcases List.mem_cons.1 hx with hx | hx
     ·exact hx
     ·exact RU heq hq x hx
    ·cases h
theorem GH{eq:R->R->Bool}(heq:∀a b,eq a b=true->a=b){r:R}:∀{l:List (Option R)},amb eq l=some r->∀x∈l,x=some r
 | [],h,x,hx=>by cases hx
 | a::q,h,x,hx=>RU heq h x hx
def N5:List Nat->Nat->Bool
 | [],_=>false
 | a::q,b=>if a=b then true else N5 q b
theorem EW:∀{l:List Nat} {b:Nat},N5 l b=l.contains b
 | [],b=>by simp[N5]
 | a::q,b=>by
  unfold N5;split
  ·rename_i e;subst e;simp
  ·rename_i e
   rw[EW];have:¬ b=a:=fun h=>e h.symm;simp[this]
def pM{α:Type}(seen:List Nat):List (Nat×α)->List (Nat×α)
 | []=>[]
 | a::q=>if N5 seen a.1=true then pM seen q else a::pM seen q
def Zx{α:Type}(cl:Nat):List (Nat×α)->Bool
 | []=>true
 | a::q=>decide (a.1<cl) && Zx cl q
def N6(P:Program)(S:St)(t:TypeId)(m:SV)(K:St->SV->Option R):Option R :=
 match mapOf P t with
 | some _=>match m with
  | .mp i=>match get S.own i with
   | some (.sm _ cl _)=>K { S with own:=(S.nx,.it i cl [])::S.own,nx:=S.nx+1 } (.pb S.nx 0)
   | _=>none
  | _=>none
 | none=>none
def nxK(S:St)(j m cl:Nat)(seen:List Nat)(kt:Ty)(K:St->SV->Option R)(e:Nat×Vl kt×SV):Option R :=
 K { S with own:=dP j (.it m cl (seen++[e.1])) S.own,log:=j::S.log } (.tup [.d .bool true,.d kt e.2.1,e.2.2])
def N7{α β:Type}(f:α->β):List α->List β
 | []=>[]
 | a::q=>f a::N7 f q
def Uh(eq:R->R->Bool)(S:St)(it:SV)(K:St->SV->Option R):Option R :=
 match it with
 | .pb j o=>match get S.own j with
  | some (.it m cl seen)=>match get S.own m with
   | some (.sm kt cl' es)=>if o=0∧cl'=cl∧Zx cl es=true∧mX kt=true then (match pM seen es with
    | []=>K S (.tup [.d .bool false])
    | a::q=>amb eq (N7 (nxK S j m cl seen kt K) (a::q))) else none
   | _=>none
  | _=>none
 | _=>none
def GI:List Nat->Option (List Nat×Nat)
 | []=>none
 | a::q=>match GI q with
  | some (i,b)=>some (a::i,b)
  | none=>some ([],a)
def MG{α:Type}(b:Nat):List (Nat×α)->Option α
 | []=>none
 | a::q=>if a.1=b then some a.2 else MG b q
def N8(own:List (Nat×Ent))(it:SV)(K:SV->List Nat->Option R):Option R :=
 match it with
 | .pb j o=>match get own j with
  | some (.it m cl seen)=>match get own m with
   | some (.sm kt cl' es)=>match GI seen with
    | some (_,b)=>match MG b es with
     | some (k,s)=>if o=0∧cl'=cl∧mX kt=true then K (.tup [.d kt k,s]) [j,m] else none
     | none=>none
    | none=>none
   | _=>none
  | _=>none
 | _=>none
end
section
variable {R:Type}{B:Nat->Prop}{F:Lx}{w0:Bs}{wr:Wr}{pl pl':List Place}{S S':St}{l l':List Value}{ls:List (List Value)}{w w':World}{L L' M:Lx}{P:Program}{d:Option Tmp}{ty:TypeId}{pos:String}{af:Array Edge}{gd:Option (Nat×Bool)}
 {Q:Exit->Act->World->Prop} {KK:List Value->World->Prop} {K:St->SV->Option R} {r:R}
theorem N9:∀{l i:List Nat} {b:Nat},GI l=some (i,b)->l=i++[b]
 | [],i,b,h=>by cases h
 | a::q,i,b,h=>by
  unfold GI at h;split at h
  ·rename_i i' b' hq
   cases h
   rw[N9 hq];rfl
  ·rename_i hq
   cases h
   cases q with
   | nil=>rfl
   | cons c q=>simp only[GI]at hq;split at hq<;>cases hq
theorem Au{α β:Type}{f:α->β}:∀{l:List α} {a:α},a∈l->f a∈N7 f l
 | b::q,a,h=>by
  rcases List.mem_cons.1 h with h | h
  ·subst h;exact List.mem_cons_self ..
  ·exact zO _ (Au h)
theorem SmD.mem{kt:Ty}:∀{vs:List MapEntry} {es:List (Nat×Vl kt×SV)},SmD pl L w vs es->∀x∈vs,∃b∈es,x.born=b.1∧x.key=bM kt b.2.1∧Den pl L w b.2.2 x.val
 | v::vs,es,⟨b',q,e1,e2,e3,e4,e5⟩,x,hx=>by
  subst e1;rcases List.mem_cons.1 hx with hx | hx
  ·subst hx;exact⟨b',List.mem_cons_self ..,e2,e3,e4⟩
  ·obtain⟨b,h1,h2⟩:=SmD.mem e5 x hx
   exact⟨b,zO _ h1,h2⟩
theorem BZ{α:Type}{seen:List Nat}:∀{es:List (Nat×α)} {b:Nat×α},b∈es->seen.contains b.1=false->b∈pM seen es
 | a::q,b,h,hc=>by
  unfold pM;rcases List.mem_cons.1 h with h | h
  ·subst h
   rw[EW,hc];simp
  ·split
   ·exact BZ h hc
   ·exact zO _ (BZ h hc)
theorem B5{α:Type}{seen:List Nat}:∀{es:List (Nat×α)} {b:Nat×α},b∈pM seen es->b∈es∧seen.contains b.1=false
 | a::q,b,h=>by
  unfold pM at h;split at h
  ·obtain⟨h1,h2⟩:=B5 h
   exact⟨zO _ h1,h2⟩
  ·rename_i hn
   rcases List.mem_cons.1 h with h | h
   ·subst h
    refine⟨List.mem_cons_self ..,?_⟩;rw[EW]at hn;simpa using hn
   ·obtain⟨h1,h2⟩:=B5 h
    exact⟨zO _ h1,h2⟩
theorem SmD.back{kt:Ty}:∀{vs:List MapEntry} {es:List (Nat×Vl kt×SV)},SmD pl L w vs es->∀b∈es,∃x∈vs,x.born=b.1∧x.key=bM kt b.2.1∧Den pl L w b.2.2 x.val
 | [],es,h,b,hb=>by have h:es=[]:=h;subst h;cases hb
 | v::vs,es,⟨b',q,e1,e2,e3,e4,e5⟩,b,hb=>by
  subst e1;rcases List.mem_cons.1 hb with hb | hb
  ·subst hb;exact⟨v,List.mem_cons_self ..,e2,e3,e4⟩
  ·obtain⟨x,h1,h2⟩:=SmD.back e5 b hb
   exact⟨x,zO _ h1,h2⟩
theorem DC{kt:Ty}(ht:mX kt=true)(k:Vl kt):Den pl L w (.d kt k) (bM kt k):=by
 cases kt<;>simp[mX]at ht
 ·exact dM _ _
 ·exact xg _
 ·exact⟨dD _ k,ET (by simp_all[pK,kY,zL]) k,rfl⟩
theorem Iw{i:Nat}{e e':Ent}:∀{own:List (Nat×Ent)},get own i=some e->lx pl (dP i e' own)=lx pl own
 | (k,x)::q,h=>by
  unfold dP;split
  ·rfl
  ·rename_i hk
   have:get q i=some e:=by simp_all[get,if_neg]
   show plb pl k::lx pl (dP i e' q)=plb pl k::lx pl q;rw[Iw this]
theorem Zy(h:Rel B F w0 wr pl S l ls w){t:TypeId}{x:Operand}{m:SV}(hv:N6 P S t m K=some r)(hx:Den pl (lx pl S.own++F) w m (ev l x))(hk:Hand B F w0 wr S.nt l ls d K r KK):OW P ⟨d,.range t x,ty,pos,af,gd⟩ l w KK Q:=by
 unfold N6 at hv;split at hv
 ·rename_i kt et hmap
  have hmap:=oz hmap;split at hv
  ·rename_i i
   split at hv
   ·rename_i kt cl es hg
    obtain⟨g,n,c,vs,h1,h2,h3⟩:=h.ent _ (get_mem hg);obtain⟨g',n',c',h4,hu⟩:=hx;rw[h1]at h4;cases h4;have hrun:(Instr.range t (.map (some g))).run P w = .ok (.pointer (some ⟨w.heap.size,0,none⟩)) (w.alloc (.mapIter (some g) cl #[] cl)):=by simp[Instr.range,run_underlying hmap,MapKept.run_getObj_map h2.1,Result.andThen]
    have hS:Stp B (lx pl S.own) (some w.heap.size::lx pl S.own) F [] w (w.alloc (.mapIter (some g) cl #[] cl)):=Stp.new h.hL (Fz.alloc _ _ _) rfl (by simp);have hr:=h.push ⟨some ⟨w.heap.size,0,none⟩,0,0⟩ (.it i cl []) hS ⟨w.heap.size,0,0,g,n,c,gJ _,gZ _ _ _ h1,oL w _⟩;refine iG (v:=.pointer (some ⟨w.heap.size,0,none⟩)) ?_ (hk _ _ (.pb S.nx 0) _ _ hr rfl ⟨w.heap.size,0,0,by rw[h.nx];simp,rfl⟩ hv);simp_all[execOp,Sem.run_bind,zJ,Sem.run_pure]
   grind
  grind
 grind
theorem abt{eq:R->R->Bool}(heq:∀a b,eq a b=true->a=b)(h:Rel B F w0 wr pl S l ls w){x:Operand}{it:SV}(hv:Uh eq S it K=some r)(hx:Den pl (lx pl S.own++F) w it (ev l x))(hk:Hand B F w0 wr S.nt l ls d K r KK) :
  OW P ⟨d,.next x false,ty,pos,af,gd⟩ l w KK Q:=by
 unfold Uh at hv;split at hv
 ·rename_i j o
  split at hv
  ·rename_i m cl seen hgj
   split at hv
   ·rename_i kt cl' es hgm
    split at hv
    ·rename_i hc
     obtain⟨rfl,rfl,hold,ht⟩:=hc;obtain⟨g,n,c,g2,n2,c2,h1,h2,h3⟩:=h.ent _ (get_mem hgj);obtain⟨g',n',c',vs,h4,⟨h5,h5s⟩,h6⟩:=h.ent _ (get_mem hgm);rw[h2]at h4;cases h4;obtain⟨g0,n0,c0,h7,hu⟩:=hx;rw[h1]at h7;cases h7;have holder:∀y∈vs.toList,y.born<cl':=fun y hy=>h5s.1 y hy;have hnext:=run_next_at (P:=P) w ty g g2 cl' cl' seen.toArray vs cl' h3 h5 holder (Nat.le_refl _);rcases hnext with ⟨hz,hrun⟩ | ⟨e,he,w1,hw1,hrun⟩
     ·-- nothing is left
      have hl:pM seen es=[]:=by
       cases hle:pM seen es with
       | nil=>rfl
       | cons b q =>
        exfalso;obtain⟨hb1,hb2⟩:=B5 (es:=es) (b:=b) (by rw[hle];simp);obtain⟨y,hy,hyb,_⟩:=SmD.back h6 b hb1;have:y∈(leftOf vs seen.toArray):=by simp_all[leftOf,Array.mem_filter]
        simp_all
      rw[hl]at hv;refine iG (v:=.tuple #[.bool false]) (w':=w) ?_ (hk pl S (.tup [.d .bool false]) _ w h rfl ⟨[.bool false],⟨_,_,rfl,gq _,rfl⟩,rfl⟩ hv);simp_all[execOp,Sem.run_bind,zJ,Sem.run_pure]
     ·have hmem:e∈vs.toList∧seen.contains e.born=false:=by simp_all[leftOf]
      obtain⟨b,hb1,hb2,hb3,hb4⟩:=SmD.mem h6 e hmem.1;have hbl:b∈pM seen es:=BZ hb1 (by simp_all);have hall:nxK S j m cl' seen kt K b=some r:=by grind[pM,seen,GH,Au]
      have hlt:g<w.heap.size:=(Array.getElem?_eq_some_iff.1 h3).1
      have hf:Fz [some g] w (ChangeMaps.setBlock w1 g (.mapIter (some g2) cl' (seen.toArray.push e.born) cl')):=by
       rcases hw1 with rfl | rfl
       ·exact Fz.setobj w1 g _
       ·exact (Fz.drew [some g] w).trans (Fz.setobj w.drew g _)
      obtain⟨hpl,hmemg⟩:=y7 hgj h1;have hS:Stp B (lx pl S.own) (lx pl S.own) F [some g] w _:=Stp.store h.hL hmemg hf;have hE:=Ext.of_stp (pl:=pl) (pl':=pl) hS (fun _ _ h=>h)
      have hheap:(ChangeMaps.setBlock w1 g (.mapIter (some g2) cl' (seen.toArray.push e.born) cl')).heap[g]? = some (.mapIter (some g2) cl' (seen++[b.1]).toArray cl'):=by
       have h3':w1.heap[g]? = some (.mapIter (some g2) cl' seen.toArray cl'):=by rcases hw1 with rfl | rfl<;>exact h3
       grind[Array.getElem?_eq_some_iff,ChangeMaps.setBlock]
      have hr:=h.mod (e':=.it m cl' (seen++[b.1])) hgj (by simp_all) ⟨g,n,c,g2,n2,c2,h1,h2,hheap⟩;refine iG (v:=.tuple #[.bool true,e.key,e.val]) ?_ (hk pl _ (.tup [.d .bool true,.d kt b.2.1,b.2.2]) _ _ hr rfl ⟨[.bool true,e.key,e.val],⟨_,_,rfl,gq _,_,_,rfl,by simp_all[DC],_,_,rfl,by show Den pl (lx pl (dP j (.it m cl' (seen++[b.1])) S.own)++F) _ _ _;rw[Iw hgj];exact hb4.ext hE,rfl⟩,rfl⟩ hall);simp_all[execOp,Sem.run_bind,zJ,Sem.run_pure]
    grind
   grind
  grind
 grind
theorem Lb{α:Type}{b:Nat}:∀{es:List (Nat×α)} {a:α},MG b es=some a->(b,a)∈es
 | (i,x)::q,a,h=>by
  unfold MG at h;split at h
  ·rename_i e;cases h;simp only at e;subst e;exact List.mem_cons_self ..
  ·exact zO _ (Lb h)
theorem Zz{own:List (Nat×Ent)}(he:EntsD pl L w own){x:Operand}{it:SV}{K:SV->List Nat->Option R}(h:N8 own it K=some r)(hx:Den pl L w it (ev l x)) :
  ∃s' rd,K s' rd=some r∧Yv P pl L w l ⟨d,.entry x,ty,pos,af,gd⟩ s' rd:=by
 unfold N8 at h;split at h
 ·rename_i j o
  split at h
  ·rename_i m cl seen hgj
   split at h
   ·rename_i kt cl' es hgm
    split at h
    ·rename_i i b hl
     split at h
     ·rename_i k s hf
      split at h
      ·rename_i hc
       obtain⟨rfl,rfl,ht⟩:=hc;have hseen:=N9 hl;obtain⟨g,n,c,g2,n2,c2,h1,h2,h3⟩:=he.get hgj;obtain⟨g',n',c',vs,h4,⟨h5,h5s⟩,h6⟩:=he.get hgm;rw[h2]at h4;cases h4;obtain⟨g0,n0,c0,h7,hu⟩:=hx;rw[h1]at h7;cases h7;obtain⟨y,hy,hy1,hy2,hy3⟩:=SmD.back h6 (b,k,s) (Lb hf);refine⟨_,_,h,.tuple #[y.key,y.val],⟨[y.key,y.val],⟨_,_,rfl,by simp_all[DC],_,_,rfl,hy3,rfl⟩,rfl⟩,fun w' hF hrd=>?_⟩;have e1:w'.heap[g]? = some (.mapIter (some g2) cl' (i.toArray.push y.born) cl'):=by rw[hrd j (by simp) g (by rw[fo h1];rfl),h3,hseen,hy1];simp
       have e2:w'.heap[g2]? = some (.map vs cl'):=by rw[hrd m (by simp) g2 (by rw[fo h2];rfl)];exact h5
       have hrun:=run_entry_at (P:=P) w' g g2 cl' i.toArray vs cl' y e1 e2 hy h5s.2.1;simp_all[execOp,Sem.run_bind,zJ,Sem.run_pure]
      grind
     grind
    grind
   grind
  grind
 grind
end
end Ev
end
noncomputable section
namespace Ev
open Go Go.RowKit Sx
section
variable {R:Type}{B:Nat->Prop}{F:Lx}{w0:Bs}{wr:Wr}{pl pl':List Place}{S S':St}{l l':List Value}{ls:List (List Value)}{w w':World}{L L' M:Lx}{P:Program}{d:Option Tmp}{ty:TypeId}{pos:String}{af:Array Edge}{gd:Option (Nat×Bool)}
 {Q:Exit->Act->World->Prop} {KK:List Value->World->Prop} {K:St->SV->Option R} {r:R}
theorem alX{e:TypeId}{t:Ty}{z:Vl t}(w:World)(h:TyRow P e (rp t) z):∃zr,TyRow P e (kP t.size) zr:=by obtain⟨i,zv,h1,h2,h3,h4,h5,h6⟩:=h.info;have hp:=h.pos;rw[bV]at h3 h5 hp;exact⟨zv.cells.toList,⟨i,zv,h1,h2,h3,h4,h5,fun L w'=>⟨rfl,by omega,(rp t).one (h6 [] w)⟩⟩,hp⟩
def Oa(own:List (Nat×Ent))(i:Nat):Bool:=match get own i with
 | some (.rowo _ _ _ _ _)=>true
 | _=>false
def isO(own:List (Nat×Ent)):SV->Bool
 | .row k=>Oa own k
 | _=>false
theorem RV{b:Bool}{us:List Value}:(opn b us).length=if b=true then 1 else 0:=by grind[opn]
def Ui(P:Program)(own:List (Nat×Ent))(t:TypeId)(s:SV)(K:SV->List Nat->Option R):Option R :=
 match s with
 | .row i=>if BM P t=true then match get own i with
  | some (.rowo _ _ b xs _)=>K (.d (.int .i64) (if b=true then (xs.length:Int)+1 else (xs.length:Int))) []
  | _=>none else none
 | _=>none
theorem abu{own:List (Nat×Ent)}(he:EntsD pl L w own){t:TypeId}{x:Operand}{s:SV}{K:SV->List Nat->Option R}(h:Ui P own t s K=some r)(hx:Den pl L w s (ev l x)) :
  ∃s' rd,K s' rd=some r∧Yv P pl L w l ⟨d,.call { callee:=.builtin .len,args:=#[x],argTypes:=#[t] },ty,pos,af,gd⟩ s' rd:=by
 unfold Ui at h;split at h
 ·split at h
  ·rename_i ht
   obtain⟨e,ht⟩:=uN ht;split at h
   ·rename_i i b xs _ hg
    obtain⟨p,h6,h7⟩:=hx;obtain⟨p',ro,us,h8,h9,h10,_⟩:=he.get hg;rw[h6]at h8;cases h8;have hn:=h9.len;rw[zU,RV,h10.len]at hn;have e2:(if b=true then (xs.length:Int)+1 else (xs.length:Int))=((p.n:Nat):Int):=by grind
    rw[e2]at h;exact⟨_,_,h,Yv.of (dM _ _) (fun w'=>jV ht h7 rfl)⟩
   grind
  grind
 grind
def Iy(P:Program)(own:List (Nat×Ent))(t:TypeId)(s i:SV)(K:SV->List Nat->Option R):Option R :=
 match s,i with
 | .row q,.d (.int _) j=>match fq P t,get own q with
  | some (_,n),some (.rowo t0 _ b xs _)=>if t0.size=n then need b (need (eqi j (xs.length:Int)) (K (.prw q j t0.size 0) [])) else none
  | _,_=>none
 | _,_=>none
theorem Iz{t:Ty}{e:TypeId}{p:Place}{ro:List (List Value)}{us:List Value}{xs:List (Vl t)}(h:Ow (kP t.size) e L w p.a p.n p.c (ro++opn true us))(hr:RawD t L w ro xs) :
  p.n=xs.length+1∧(∃g,p.a=some ⟨g,0,none⟩)∧(ro++opn true us)[xs.length]? = some us:=by
 have h1:(ro++opn true us)[xs.length]? = some us:=by rw[List.getElem?_append_right (by rw[hr.len];omega),hr.len,Nat.sub_self];rfl
 refine⟨?_,h.addr (List.getElem?_eq_some_iff.1 h1).1,h1⟩;have:=h.len;rw[zU,RV,hr.len]at this;simp_all
theorem Uj{own:List (Nat×Ent)}(he:EntsD pl L w own){t:TypeId}{x y:Operand}{s i:SV}{K:SV->List Nat->Option R}(h:Iy P own t s i K=some r)(hx:Den pl L w s (ev l x))(hi:Den pl L w i (ev l y)) :
  ∃s' rd,K s' rd=some r∧Yv P pl L w l ⟨d,.indexAddr t x y,ty,pos,af,gd⟩ s' rd:=by
 unfold Iy at h;split at h
 ·rename_i q k j
  split at h
  ·rename_i e n t0 e0 b xs cs hel hg
   split at h
   ·rename_i hsz
    obtain⟨hb,h'⟩:=bS h;clear h;obtain⟨hj,h⟩:=bS h';clear h';subst hb;have hj:@Eq Int j (xs.length:Int):=by simp_all[eqi]
    have hi:=je hi;obtain⟨h1,h2⟩:=jE hel;obtain⟨p,h6,h7⟩:=hx;obtain⟨p',ro,us,h8,h9,h10,_⟩:=he.get hg;rw[h6]at h8;cases h8;obtain⟨hn,⟨g,ha⟩,_⟩:=Iz h9 h10;obtain⟨pa,pn,pc⟩:=p;simp only at ha h7 hn;subst ha;refine⟨_,_,h,Yv.of (v:=.pointer (some ⟨g,0+j.toNat*n,none⟩)) ⟨g,0,pn,pc,h6,by simp_all⟩ (fun w'=>jl h1 h2 h7 hi (by omega) (by omega))⟩
   grind
  grind
 grind
def Ob(P:Program)(own:List (Nat×Ent))(t:TypeId)(s:SV)(K:SV->List Nat->Option R):Option R :=
 match s with
 | .prw i j sz o=>match get own i with
  | some (.rowo t0 _ b xs cs)=>if sz=t0.size then need b (need (eqi j (xs.length:Int)) (match EG P t o cs with
   | some y=>Gj y fun y=>K y [i]
   | none=>none)) else none
  | _=>none
 | _=>none
theorem ZA{own:List (Nat×Ent)}(he:EntsD pl L w own){t:TypeId}{x:Operand}{s:SV}{K:SV->List Nat->Option R}(h:Ob P own t s K=some r)(hx:Den pl L w s (ev l x)) :
  ∃s' rd,K s' rd=some r∧Yv P pl L w l ⟨d,.load t x,ty,pos,af,gd⟩ s' rd:=by
 unfold Ob at h;split at h
 ·rename_i i j sz o
  split at h
  ·rename_i t0 e0 b xs cs hg
   split at h
   ·rename_i hsz
    obtain⟨hb,h'⟩:=bS h;clear h;obtain⟨hj,h⟩:=bS h';clear h';subst hb;have hj:j=(xs.length:Int):=by simp_all[eqi]
    split at h
    ·rename_i y hc
     obtain⟨g,b0,n,c,h1,h2⟩:=hx;obtain⟨p',ro,us,h3,h4,h5,h6⟩:=he.get hg;rw[h1]at h3;cases h3;obtain⟨_,⟨_,hb0⟩,hl⟩:=Iz h4 h5;cases hb0;have h6:=h6 rfl;obtain⟨cs1,⟨e1,e2,e3⟩,h9⟩:=jv h4 hl;subst e1;obtain⟨ag,sz',h7,h8,h10⟩:=yQ hc h6 e3;obtain⟨y',h,h11⟩:=KX (pl:=pl) (L:=L) (w:=w) h;refine⟨_,_,h,_,h11 _ h10,fun w' hF hrd=>jr h2 ?_⟩;refine xW (P:=P) (w:=w') (b:=g) (cs:=(cs1.drop o).take sz') h7 (by grind) (fun k v hk=>?_);have hlt:=(List.getElem?_eq_some_iff.1 hk).1;rw[zW]at hlt;rw[List.getElem?_take_of_lt (by omega),List.getElem?_drop]at hk;rw[World.cell?_of_block (w:=w) (hrd i (by simp) g (by rw[fo h1];rfl))];have:=h9 (o+k) v hk;rw[hj,zM,hsz];rwa[<- Nat.add_assoc]at this
    grind
   grind
  grind
 grind
def IB(P:Program)(S:St)(t:TypeId)(a s:SV)(K:St->SV->Option R):Option R :=
 match a with
 | .prw i j sz o=>match get S.own i,eG P t,BP s with
  | some (.rowo t0 e b xs cs),some n,some vs=>if vs.length=n∧sz=t0.size∧o+n≤cs.length then need b (need (eqi j (xs.length:Int)) (K { S with own:=dP i (.rowo t0 e true xs (cs.take o++vs++cs.drop (o+n))) S.own,log:=i::S.log } (.k undef))) else none
  | _,_,_=>none
 | _=>none
theorem abv{α:Type}{a:List α}{x y:α}{n:Nat}(h:a.length=n):(a++[x]).set n y=a++[y]:=by simp_all
theorem Uk(h:Rel B F w0 wr pl S l ls w){t:TypeId}{x y:Operand}{a s:SV}(hv:IB P S t a s K=some r)(hx:Den pl (lx pl S.own++F) w a (ev l x))(hy:Den pl (lx pl S.own++F) w s (ev l y))
  (hk:Hand B F w0 wr S.nt l ls d K r KK):OW P ⟨d,.store t x y,ty,pos,af,gd⟩ l w KK Q:=by
 unfold IB at hv;split at hv
 ·rename_i i j sz o
  split at hv
  ·rename_i t0 e b xs cs n vs hg hn hvs
   split at hv
   ·rename_i hc
    obtain⟨hb,h'⟩:=bS hv;clear hv;obtain⟨hj,hv⟩:=bS h';clear h';subst hb;have hj:j=(xs.length:Int):=by simp_all[eqi]
    obtain⟨g,b0,n1,c1,h1,h2⟩:=hx;obtain⟨p',ro,us,h3,h4,h5,h6⟩:=h.ent _ (get_mem hg);rw[h1]at h3;cases h3;obtain⟨_,⟨_,hb0⟩,hl⟩:=Iz h4 h5;cases hb0;have h6:=h6 rfl;obtain⟨h7,h8⟩:=xw hy hvs;have hl7:=h7.len;have hl6:=h6.len;have hpl:plb pl i=some g:=fo h1;refine kF (R:=kP t0.size) (vs:=(ev l y).cells.toList) (b:=g) (i:=xs.length) (off:=o) (u:=us) (u':=us.take o++(ev l y).cells.toList++us.drop (o+(ev l y).cells.toList.length)) ?_ (by rw[h2,hj,hc.2.1,zM];rfl) rfl rfl h.hL h4 hl h8 (fun cs' hcs=>?_) (by rw[<- hpl];exact List.mem_map_of_mem (f:=fun e:Nat×Ent=>plb pl e.1) (get_mem hg)) (fun w' hS hO=>?_)
    ·simp_all
    ·obtain⟨rfl,q1,q2⟩:=hcs
     refine⟨by omega,rfl,?_,fun v hv=>?_⟩
     ·grind
     grind
    ·have hE:=Ext.of_stp (pl:=pl) (pl':=pl) hS (fun _ _ h=>h)
     have e1:(ro++opn true us).set xs.length (us.take o++(ev l y).cells.toList++us.drop (o+(ev l y).cells.toList.length))=ro++opn true (us.take o++(ev l y).cells.toList++us.drop (o+(ev l y).cells.toList.length)):=abv h5.len;rw[e1]at hO;have hlen:(ev l y).cells.toList.length=n:=by omega
     have hr:=h.mod (e':=.rowo t0 e true xs (cs.take o++vs++cs.drop (o+n))) hg (by simp_all) ⟨_,ro,_,h1,hO,h5.ext hE,fun _=>?_⟩
     ·exact hk pl _ (.k undef) undef w' hr rfl rfl hv
     ·rw[hlen]
      exact (((h6.ext hE).take o).append (h7.ext hE)).append ((h6.ext hE).drop _)
   grind
  grind
 grind
def Ul(P:Program)(S:St)(t:TypeId)(len:Nat)(q:List (Nat×Operand))(K:St->SV->Option R):Option R :=
 match fq P t with
 | some (e,n)=>match iD P e,yX P e,Nv S q with
  | some ⟨t0,_⟩,some zs,some c=>if len=1∧len*n≤16777216∧len≤1073741824∧t0.size=n∧(nL zs (len*n)).all Value.oneCell'=true then
    match Af (fun i=>some (i*n,n)) ((nL zs (len*n)).map SV.k) c with
    | some cs=>if cs.length=n then K { S with own:=(S.nx,.rowo t0 e true [] cs)::S.own,nx:=S.nx+1 } (.row S.nx) else none
    | none=>none
   else none
  | _,_,_=>none
 | none=>none
theorem abw(h:Rel B F w0 wr pl S l ls w){t:TypeId}{len:Nat}{q:Array (Nat×Operand)}(hv:Ul P S t len q.toList K=some r)(hk:Hand B F w0 wr S.nt l ls d K r KK):OW P ⟨d,.buildSlice t len q,ty,pos,af,gd⟩ l w KK Q:=by
 unfold Ul at hv;split at hv
 ·rename_i e n hel
  split at hv
  ·rename_i t0 z zs c hr hz hc
   split at hv
   ·rename_i hcond
    obtain⟨hone,hcond⟩:=hcond;subst hone;split at hv
    ·rename_i cs hfill
     split at hv
     ·rename_i hcl
      obtain⟨he1,he2⟩:=jE hel;have hp:=Dt h.fr hc;obtain⟨us,h1,h2,h3⟩:=yV hfill (Ny _) (List.all_eq_true.1 hcond.2.2.2) hp;have hul:=h2.len;obtain⟨z',h6,h7,_⟩:=lU (w:=w) hz;have hpos:=(gy hr).pos;rw[bV,hcond.2.2.1]at hpos;have hmap:(q.map fun p=>(p.1,ev l p.2)).toList=q.toList.map fun p=>(p.1,ev l p.2):=by simp
      have hrun:(Instr.buildSlice t 1 (q.map fun p=>(p.1,ev l p.2))).run P w = .ok (.slice (some ⟨w.heap.size,0,none⟩) 1 1) (w.alloc (.cells us.toArray e)):=by
       unfold Instr.buildSlice;have hle:¬ 1*n > 2 ^ 24:=by omega
       have h0:¬ 1*n=0:=by omega
       have e1:(Array.range (1*n)).map (fun x=>zs.toArray[x%zs.toArray.size]!)=(nL zs (1*n)).toArray:=by simp only[nL,Array.toArray_toList]
       simp only[Sem.run_bind,run_underlying he1,zJ,run_sizeOf he2,if_neg h0,h6,h7,hmap,newRow,newObj];rw[if_neg (by omega)];simp only[Sem.run_bind,h6,zJ,Sem.run_pure,h7,e1,h1];simp[Sem.run]
      have hr2:(execOp (ev l) ⟨d,.buildSlice t 1 q,ty,pos,af,gd⟩).run P w = .ok (.value (.slice (some ⟨w.heap.size,0,none⟩) 1 1)) (w.alloc (.cells us.toArray e)):=by have e2:(q.map fun (i,x)=>(i,ev l x))=q.map fun p=>(p.1,ev l p.2):=rfl;simp only[execOp,Sem.run_bind,e2,hrun,zJ,Sem.run_pure]
      have hrows:RowsOf (kP t0.size) (lx pl S.own++F) w us [us]:=⟨us,[],by simp,⟨rfl,by rw[hul,hcl,hcond.2.2.1],h3⟩,rfl⟩;refine Y2 rfl h.hL hr2 hrows rfl hcond.2.1 (fun a n' c' w' hS hO=>?_);have hE:=Ext.of_stp (pl:=pl) (pl':=pl++[⟨a,n',c'⟩]) hS (gZ _);have hr3:=h.push ⟨a,n',c'⟩ (.rowo t0 e true [] cs) hS ⟨_,[],us,gJ _,hO,rfl,fun _=>h2.ext hE⟩;exact hk _ _ (.row S.nx) _ w' hr3 rfl ⟨⟨a,n',c'⟩,by rw[h.nx];exact gJ _,rfl⟩ hv
     ·cases hv
    ·cases hv
   ·cases hv
  ·cases hv
 ·cases hv
def Um(S:St)(i:Nat):St:=match clo S i with
 | some S'=>S'
 | none=>S
theorem ahk(h:Rel B F w0 wr pl S l ls w){i:Nat}:Rel B F w0 wr pl (Um S i) l ls w∧(Um S i).nt=S.nt:=by
 unfold Um;split
 ·grind[Zg]
 simp_all
def abx(P:Program)(S:St)(e:TypeId)(i k:Nat)(K:St->SV->Option R):Option R :=
 match get S.own k,get (rid k S.own) i,iD P e with
 | some (.rowo t1 e1 true [] cs),some (.row t0 e0 xs),some ⟨t2,_⟩=>if e0=e∧e1=e∧t1=t0∧t2=t0 then need (small (xs.length+1)) (K { S with own:=jK i S.nx (.rowo t0 e true xs cs) (rid k S.own),nx:=S.nx+1,log:=i::S.log } (.row S.nx)) else none
 | _,_,_=>none
theorem ahl(h:Rel B F w0 wr pl S l ls w){t e:TypeId}{n i k:Nat}{p p2:Place}{x y:Operand}(hel:fq P t=some (e,n))(hv:abx P S e i k K=some r)(hp:pl[i]? = some p)(hx:ev l x = .slice p.a p.n p.c)
  (hp2:pl[k]? = some p2) (hy:ev l y = .slice p2.a p2.n p2.c) (hk:Hand B F w0 wr S.nt l ls d K r KK):OW P ⟨d,.call ⟨.builtin .append,#[x,y],#[t,t]⟩,ty,pos,af,gd⟩ l w KK Q:=by
 unfold abx at hv;split at hv
 ·rename_i t1 e1 cs t0 e0 xs t2 z hgk hgi hr
  split at hv
  ·rename_i he
   obtain⟨rfl,rfl,rfl,rfl⟩:=he;obtain⟨hsm,hv⟩:=bS hv;obtain⟨preK,postK,k1,k2⟩:=qZ hgk;obtain⟨p2',ro2,us,h3,h4,h5,h6⟩:=h.ent _ (get_mem hgk);rw[hp2]at h3;cases h3;have hro:ro2=[]:=List.eq_nil_of_length_eq_zero h5.len;subst hro;have h6:=h6 rfl;have hd:=h.drop (yR k S.own);have e1:lx pl S.own=lx pl preK++blk p2.a::lx pl postK:=by grind[iq,fo]
   have e2:lx pl (rid k S.own)=lx pl preK++lx pl postK:=by simp_all[lx,List.map_append]
   have hL:=h.hL;rw[e1]at hL
   have hy':(Rp.slice (kP t2.size)).rel (lx pl (rid k S.own)++F) w [.slice p2.a p2.n p2.c] [us]:=by
    refine h4.freeze ?_ (fun q hq=>?_)
    ·show Sub w (lx pl (rid k S.own)++F) _
     grind[u7]
    ·show some q ∉ lx pl (rid k S.own)++F
     rw[e2];exact hL.gone q hq
   have hsub:∀q,some q∈lx pl (rid k S.own)++F->some q∈lx pl S.own++F:=fun q hq=>by grind
   have h6':DenL pl (lx pl (rid k S.own)++F) w cs us:=h6.ext (Ext.sub hsub);obtain⟨pre,post,a1,a2⟩:=qF hgi;obtain⟨p',b1,b2⟩:=hd.ent _ (get_mem hgi);rw[hp]at b1;cases b1;obtain⟨rs,b3,b4⟩:=Za b2;have e3:lx pl (rid k S.own)=lx pl pre++blk p.a::lx pl post:=by grind[iq,fo]
   have hLd:LOk B (lx pl (rid k S.own)) F w:=hd.hL;have b3:Ow (kP t2.size) _ (lx pl (rid k S.own)++F) w p.a p.n p.c rs:=b3;have b4:RawD t2 (lx pl (rid k S.own)++F) w rs xs:=b4;rw[e3]at hLd b3 hy' b4 h6';obtain⟨zr,hzr⟩:=alX w (gy hr);refine pz (jE hel).1 hzr hx hy hLd b3 hy' (by rw[b4.len];omega) (fun a' n' c' w' hS hO=>?_);have hE:=Ext.of_stp (pl:=pl) (pl':=pl++[⟨a',n',c'⟩]) hS (gZ _);have hr2:=hd.rep (p:=⟨a',n',c'⟩) (e':=.rowo t2 _ true xs cs) a1 a2 (by simp_all[fo]) ⟨_,rs,us,gJ _,hO,b4.ext hE,fun _=>h6'.ext hE⟩;exact hk _ _ (.row S.nx) _ w' hr2 rfl ⟨⟨a',n',c'⟩,by rw[h.nx];simp,rfl⟩ hv
  grind
 grind
def Un(P:Program)(S:St)(t:TypeId)(s1 s2:SV)(K:St->SV->Option R):Option R :=
 match fq P t,s2 with
 | some (e,_),.row k=>Dr P S e s1 fun S1 z i=>if z=true then none else abx P (Um S1 i) e i k K
 | _,_=>none
theorem aby(h:Rel B F w0 wr pl S l ls w){t:TypeId}{x y:Operand}{s1 s2:SV}(hv:Un P S t s1 s2 K=some r)(hx:Den pl (lx pl S.own++F) w s1 (ev l x))
  (hy:Den pl (lx pl S.own++F) w s2 (ev l y)) (hk:Hand B F w0 wr S.nt l ls d K r KK):OW P ⟨d,.call ⟨.builtin .append,#[x,y],#[t,t]⟩,ty,pos,af,gd⟩ l w KK Q:=by
 unfold Un at hv;split at hv
 ·rename_i e n k hel
  obtain⟨pl',S1,z,i,p,h1,h2,h3,h4,h5,h6⟩:=Ae h hv hx;split at h5
  ·cases h5
  ·rename_i hz
   rw[if_neg hz]at h4;obtain⟨p2,h7,h8⟩:=h6 _ _ hy;obtain⟨a1,a2⟩:=ahk (i:=i) h1;grind[ahl]
 grind
end
end Ev
end
noncomputable section
namespace Sx
open Go Go.RowKit
section
variable {P:Program}{l:List Value}{w:World}{d:Option Tmp}{ty:TypeId}{pos:String}{af:Array Edge}{gd:Option (Nat×Bool)}
 {Q:Exit->Act->World->Prop} {K:List Value->World->Prop} {α:Type} {R:Rp α}
theorem IC{B:Nat->Prop}{own F:Lx}{s x:Operand}{t e:TypeId}{z:α}{a a2:Option Addr}{n c2 n2:Nat}{xs ys:List α}(ht:P.underlying t=some (.slice e))(hr:TyRow P e R z)
  (hs:ev l s = .slice a n n) (hx:ev l x = .slice a2 n2 c2) (hL:LOk B own F w) (hd:(Rp.slice R).rel (own++F) w [.slice a n n] xs)
  (hy:(Rp.slice R).rel (own++F) w [.slice a2 n2 c2] ys) (hne:ys ≠ []) (hsm:small (xs.length+ys.length)=true)
  (h:∀a' n' c' w',Stp B own (blk a'::own) F [] w w'->Ow R e ((blk a'::own)++F) w' a' n' c' (xs++ys)->K (st l d (.slice a' n' c')) w') :
  OW P ⟨d,.call { callee:=.builtin .append,args:=#[s,x],argTypes:=#[t,t] },ty,pos,af,gd⟩ l w K Q:=by
 obtain⟨i,zv,hi,hz,hsz,hby,hzs,hzr⟩:=hr.info;have hsm:=jA hsm;have hn:n=xs.length:=by obtain⟨a',cap,e1,_⟩:=hd;simp_all
 subst hn;obtain⟨b,o,news,rfl,rfl,h3,h4⟩:=lN hy hne;have hpos:0<ys.length:=List.length_pos_iff.2 hne;have hbytes:(xs.length+ys.length)*i.bytes≤140737488355328:=by have:(xs.length+ys.length)*i.bytes≤1073741824*131072:=Nat.mul_le_mul hsm hby;omega
 have run:∃v' w' cells,(Builtin.append_ #[t,t] ty #[.slice a xs.length xs.length,.slice (some ⟨b,o,none⟩) ys.length c2]).run P w = .ok v' w'∧w'.ownsRow w.heap.size e R.size v' (xs.length+ys.length) (cells++news)∧w.grownBy w' none∧RowsOf R (own++F) w cells xs:=by
  by_cases hxe:xs=[]
  ·subst hxe
   cases a with
   | none =>
    obtain⟨v',w',hrun,h5,h6,h7⟩:=run_append_own (P:=P) w w.heap.size t ty e i zv R.size i.bytes ht hi hz hsz rfl (by rw[hzs]) hr.pos (.slice none 0 0) 0 [] (World.ownsRow_nil w w.heap.size e _)
     ⟨b,o,none⟩ ys.length c2 news h3.len h4 h3.one (by grind[maxLen]) (by omega) (Nat.le_refl _)
    exact⟨v',w',[],hrun,by omega,h6,rfl⟩
   | some ad =>
    obtain⟨v',w',hrun,h5,h6⟩:=run_append_arg_grows (P:=P) (w:=w) t ty e i zv R.size i.bytes ht hi hz hsz rfl (by rw[hzs]) hr.pos ad 0 0 [] (by simp) (fun j u hj=>by grind)
     ⟨b,o,none⟩ ys.length c2 news h3.len h4 (by omega) (by grind[maxLen]) (by omega)
    exact⟨v',w',[],hrun,by omega,h6,rfl⟩
  ·obtain⟨b1,o1,olds,rfl,_,h8,h9⟩:=lN hd hxe
   obtain⟨v',w',hrun,h5,h6⟩:=run_append_arg_grows (P:=P) (w:=w) t ty e i zv R.size i.bytes ht hi hz hsz rfl (by rw[hzs]) hr.pos ⟨b1,o1,none⟩ xs.length xs.length olds h8.len h9
    ⟨b,o,none⟩ ys.length c2 news h3.len h4 (by omega) (by grind[maxLen]) hbytes
   grind
 obtain⟨v',w',cells,hrun,h5,h6,h8⟩:=run;have hf:Fz [] w w':=⟨h6.os,h6.tape,h6.output,h6.size,fun k hk _=>h6.block k hk (fun e=>by cases e)⟩;rcases h5.2 with ⟨_,hn⟩ | ⟨g,cap,cur,rfl,hg,hrest⟩
 ·omega
 ·have hlt:g<w'.heap.size:=by grind
  have S:Stp B own (blk (some ⟨g,0,none⟩)::own) F [] w w':=Stp.newrow hL hf rfl hg hlt;refine iG (v:=.slice (some ⟨g,0,none⟩) (xs.length+ys.length) cap) (w':=w') ?_ ?_
  ·simp_all[execOp,resolve,invoke,builtin,Sem.run_bind,Sem.run_pure,zJ,List.map_toArray,List.map_cons,List.map_nil]
  ·have hrow:RowsOf R ((blk (some ⟨g,0,none⟩)::own)++F) w' (cells++news) (xs++ys):=(h8.step S.hf ED S.hs).append (h3.step S.hf ED S.hs)
   refine h _ _ _ w' S ⟨by simp,cells++news,⟨?_,.inr ⟨g,cap,cur,?_,Nat.zero_le _,?_⟩⟩,hrow⟩
   ·rw[zU (as:=xs)];exact h5.1
   ·rfl
   simp_all
end
end Sx
namespace Ev
open Go Go.RowKit Sx
section
variable {P:Program}{R:Type}{B:Nat->Prop}{F:Lx}{w0:Bs}{wr:Wr}{pl:List Place}{S:St}{l:List Value}{ls:List (List Value)}{w:World}{r:R}{K:St->SV->Option R}
 {d:Option Tmp} {ty:TypeId} {pos:String} {af:Array Edge} {gd:Option (Nat×Bool)} {KK:List Value->World->Prop} {Q:Exit->Act->World->Prop}
def Uo(P:Program)(S:St)(t:TypeId)(s:SV)(lo hi:Option Operand)(mx:Operand)(K:St->SV->Option R):Option R :=
 match s with
 | .d (.sl t0) xs=>if BN hi=true∧lo=none then match fq P t,dZ S hi 0,dZ S (some mx) 0 with
   | some (_,n),some j,some m=>if t0.size=n then (cut xs 0 j).bind fun y=>need (eqi j m) (need (le m (zD xs.length)) (K S (.dx (.sl t0) y))) else none
   | _,_,_=>none
  else none
 | _=>none
def Up(P:Program)(S:St)(t:TypeId)(s1 s2:SV)(K:St->SV->Option R):Option R :=
 match s1,fq P t with
 | .dx (.sl t0) xs,some (e,_)=>match iD P e with
  | some ⟨t1,_⟩=>if t1=t0 then match leaf (.sl t0) s2 with
   | some ys=>need (lt 0 (zD ys.length)) (need (small (xs.length+ys.length)) (K { S with own:=(S.nx,.row t0 e (xs++ys))::S.own,nx:=S.nx+1 } (.row S.nx)))
   | none=>none
   else none
  | none=>none
 | _,_=>none
theorem IE{α:Type}{R:Rp α}{L:Lx}{g:Option (Nat×Bool)}{t e:TypeId}{x mx oh:Operand}{a:Option Addr}{n c:Nat}{xs y:List α}{j:Nat}{kh km:IntKind}(ht:P.underlying t=some (.slice e))(hs:eG P e=some R.size)
  (hx:ev l x = .slice a n c) (hr:(Rp.slice R).rel L w [.slice a n c] xs) (e2:ev l oh = .int kh j) (hmx:ev l mx = .int km j) (hj:j≤xs.length) (hy:y=xs.take j) :
  ∃a',(Rp.slice R).rel L w [.slice a' y.length y.length] y∧∀w',(execOp (ev l) ⟨d,.slice t x none (some oh) (some mx),ty,pos,af,g⟩).run P w' = .ok (.value (.slice a' y.length y.length)) w':=by
 obtain⟨a0,c0,e1,hcap,h3⟩:=hr;simp at e1;obtain⟨rfl,rfl,rfl⟩:=e1;have hyl:y.length=j:=by simp_all
 refine⟨if j=0 then a else a.map (·.add (0*R.size)),⟨_,y.length,rfl,Nat.le_refl _,fun hne=>?_⟩,fun w'=>?_⟩
 ·have hlt:0<j:=by grind
  obtain⟨b,o,rfl,h4⟩:=h3 (by simp_all);rw[if_neg (by omega)];refine⟨b,o+0*R.size,by grind[Addr.add_lit'],fun k z hk=>?_⟩;grind
 ·have hb:(Instr.sliceBounds true xs.length c none (some (ev l oh)) (some (.int km j))).run P w' = .ok (0,j,j) w':=by unfold Instr.sliceBounds;simp[Instr.sliceBound,asIntOf,e2];omega
  have hsl:(Instr.sliceAt t (ev l x) none (some (ev l oh)) ((some mx:Option Operand).map (ev l))).run P w' = .ok (.slice (if j=0 then a else a.map (·.add (0*R.size))) j j) w':=by unfold Instr.sliceAt;simp only[Sem.run_bind,run_underlying ht,zJ];unfold Instr.slice;simp only[Sem.run_bind,run_underlying ht,zJ,hx,Option.map_some,hmx,hb,run_sizeOf hs,Sem.run_pure];rfl
  grind[execOp,Sem.run_bind,Instr.sliceAt,ev,mx,zJ,Sem.run_pure]
theorem abz(h:Rel B F w0 wr pl S l ls w){t:TypeId}{x:Operand}{s:SV}{lo hi:Option Operand}{mx:Operand}(hv:Uo P S t s lo hi mx K=some r)(hx:Den pl (lx pl S.own++F) w s (Sx.ev l x))(hk:Hand B F w0 wr S.nt l ls d K r KK) :
  OW P ⟨d,.slice t x lo hi (some mx),ty,pos,af,gd⟩ l w KK Q:=by
 unfold Uo at hv;split at hv
 ·rename_i t0 xs
  split at hv
  ·rename_i hz
   obtain⟨hz,rfl⟩:=hz;split at hv
   ·rename_i e n j m hel hhi hmx
    split at hv
    ·rename_i hsz
     obtain⟨y,hy,hv⟩:=bK hv;obtain⟨hjm,hv⟩:=bS hv;obtain⟨hm,hv2⟩:=bS hv;have hjm:j=m:=by simp_all[eqi]
     subst hjm;have hm:j≤xs.length:=by simp_all[le]
     obtain⟨h1,h2⟩:=jE hel;have hr:=jI hx;obtain⟨a,c,hsh,hr2⟩:=hr;simp at hsh;have hr:=jI hx;rw[hsh]at hr
     have hh:∃o k,hi=some o∧Sx.ev l o = .int k j:=by
      rcases jJ h.fr hhi with ⟨e1,_⟩ | e1
      ·simp_all[BN]
      omega
     have hmm:∃k,Sx.ev l mx = .int k j:=by
      rcases jJ h.fr hmx with ⟨e1,_⟩ | ⟨o,k,e1,e2⟩
      ·cases e1
      simp_all
     obtain⟨oh,kh,rfl,e2⟩:=hh;obtain⟨km,e3⟩:=hmm;obtain⟨h0,_,_,hy2⟩:=nZ hy;have hj0:0≤j:=by omega
     obtain⟨j,rfl⟩:=zK hj0;have hy3:y=xs.take j:=by simp_all
     obtain⟨a',h3,h4⟩:=IE (d:=d) (ty:=ty) (pos:=pos) (af:=af) (g:=gd) h1 (by simp_all[bV]) hsh hr e2 e3 (by omega) hy3;exact iG (h4 w) (hk pl S (.dx (.sl t0) y) _ w h rfl ⟨uq (pl:=pl) (t:=.sl _) rfl h3,_,_,rfl⟩ hv2)
    grind
   grind
  grind
 grind
theorem abA(h:Rel B F w0 wr pl S l ls w){t:TypeId}{x y:Operand}{s1 s2:SV}(hv:Up P S t s1 s2 K=some r)(hx:Den pl (lx pl S.own++F) w s1 (ev l x))
  (hy:Den pl (lx pl S.own++F) w s2 (ev l y)) (hk:Hand B F w0 wr S.nt l ls d K r KK):OW P ⟨d,.call ⟨.builtin .append,#[x,y],#[t,t]⟩,ty,pos,af,gd⟩ l w KK Q:=by
 unfold Up at hv;split at hv
 ·rename_i t0 xs e n hel
  split at hv
  ·rename_i t1 z hr
   split at hv
   ·rename_i he
    subst he;split at hv
    ·rename_i ys hys
     obtain⟨hpos,hv⟩:=bS hv;obtain⟨hsm,hv⟩:=bS hv;obtain⟨hd,a,n',hn⟩:=hx;have hr0:=jI (pl:=pl) hd;rw[hn]at hr0;have hy':=og (t:=.sl t1) rfl hys hy;obtain⟨a2,n2,c2,e2,hy'⟩:=q8 hy';have hne:ys ≠ []:=by grind[lt]
     refine IC (jE hel).1 (gy hr) hn e2 h.hL hr0 hy' hne hsm (fun a' n' c' w' hS hO=>?_);have hr2:=h.push ⟨a',n',c'⟩ (.row t1 e (xs++ys)) hS ⟨_,gJ _,hO⟩;exact hk _ _ (.row S.nx) _ w' hr2 rfl ⟨⟨a',n',c'⟩,by rw[h.nx];simp,rfl⟩ hv
    grind
   grind
  grind
 grind
end
end Ev
end
noncomputable section
namespace Ev
open Go Go.RowKit Sx
section
variable {R:Type}{P:Program}{pl:List Place}{L:Lx}{w:World}{l:List Value}{d:Option Tmp}{ty:TypeId}{pos:String}{af:Array Edge}{gd:Option (Nat×Bool)}{r:R}
def aiJ(own:List (Nat×Ent))(i:Nat):Bool:=match get own i with
 | some (.rowq _ _ _ _)=>true
 | _=>false
def IG(P:Program)(own:List (Nat×Ent))(t:TypeId)(s i:SV)(K:SV->List Nat->Option R):Option R :=
 match s,i with
 | .row j,.d (.int _) a=>match get own j with
  | some (.rowq _ _ k _)=>match fq P t with
   | some (_,n)=>if n=1 then need (eqi a k) (K (.prw j k 1 0) []) else none
   | none=>none
  | _=>none
 | _,_=>none
theorem Uq{own:List (Nat×Ent)}(he:EntsD pl L w own){t:TypeId}{x y:Operand}{s i:SV}{K:SV->List Nat->Option R}(h:IG P own t s i K=some r)(hx:Den pl L w s (ev l x))(hi:Den pl L w i (ev l y)) :
  ∃s' rd,K s' rd=some r∧Yv P pl L w l ⟨d,.indexAddr t x y,ty,pos,af,gd⟩ s' rd:=by
 unfold IG at h;split at h
 ·rename_i j kd a
  split at h
  ·rename_i e us k cs hg
   split at h
   ·rename_i e' n hel
    split at h
    ·rename_i hn
     subst hn;obtain⟨hj,h⟩:=bS h;have hj:a=k:=by simpa [eqi]using hj
     subst hj;obtain⟨g,n,c,u,h1,h2,h3,h4,h5,h6⟩:=he.get hg;obtain⟨p,hp,hv⟩:=hx;rw[h1]at hp;cases hp;obtain⟨q1,q2⟩:=jE hel;obtain⟨cs',hc,hu⟩:=hi;have hc:cs'=[.int kd a]:=hc;subst hc;have hu:ev l y = .int kd a:=hu;refine⟨_,_,h,Yv.of (v:=.pointer (some ⟨g,0+a.toNat*1,none⟩)) ⟨g,0,n,c,h1,rfl⟩ (fun w'=>?_)⟩;exact yN q1 q2 hv rfl hu h4.1 h4.2
    ·cases h
   ·cases h
  ·cases h
 ·cases h
def Oc(P:Program)(own:List (Nat×Ent))(t:TypeId)(s:SV)(K:SV->List Nat->Option R):Option R :=
 match s with
 | .prw i j 1 0=>match get own i with
  | some (.rowq _ _ k [y])=>if j=k∧(P.underlying t).map nY=some false then K y [i] else none
  | _=>none
 | _=>none
theorem ZB{own:List (Nat×Ent)}(he:EntsD pl L w own){t:TypeId}{x:Operand}{s:SV}{K:SV->List Nat->Option R}(h:Oc P own t s K=some r)(hx:Den pl L w s (ev l x)) :
  ∃s' rd,K s' rd=some r∧Yv P pl L w l ⟨d,.load t x,ty,pos,af,gd⟩ s' rd:=by
 unfold Oc at h;split at h
 ·rename_i i j
  split at h
  ·rename_i e us k y hg
   split at h
   ·rename_i hc
    obtain⟨rfl,hc⟩:=hc;obtain⟨g,n,c,u,h1,h2,h3,h4,h5,v,q,h6,h7,h8⟩:=he.get hg;cases h8;cases h6;obtain⟨g',b',n',c',e1,hv⟩:=hx;rw[h1]at e1;cases e1;obtain⟨dd,hd,ha⟩:=Option.map_eq_some_iff.1 hc;refine⟨_,_,h,_,h7,fun w' hF hrd=>?_⟩;have hb:Bx w' g us e:=by unfold Bx;rw[hrd i (by simp) g (by rw[fo h1];rfl)];exact h2
    exact rH (j:=j.toNat) hd ha (by rw[hv];simp) hb h5
   ·cases h
  ·cases h
 ·cases h
end
end Ev
end
noncomputable section
namespace Ev
open Go Go.RowKit Sx Go.MapKept
section
variable {R:Type}
def picks{α:Type}:List α->List (α×List α)
 | []=>[]
 | a::q=>(a,q)::N7 (fun p=>(p.1,a::p.2)) (picks q)
def Ur{α:Type}(eq:R->R->Bool)(rest:List α)(kn:Option R)(ks:α->List α->Option R):Option R :=
 match rest with
 | []=>kn
 | a::q=>amb eq (N7 (fun p=>ks p.1 p.2) (picks (a::q)))
def II(P:Program)(S:St)(t:TypeId)(m:SV)(K:St->SV->Option R):Option R :=
 match m with
 | .mp i=>match get S.own i with
  | some (.dm kt vt xs)=>match mapOf P t with
   | some _=>K { S with own:=(S.nx,.itd kt vt [] xs)::rid i S.own,nx:=S.nx+1 } (.pb S.nx 0)
   | none=>none
  | _=>N6 P S t m K
 | .d (.mp kt vt) xs=>match mapOf P t with
  | some _=>K { S with own:=(S.nx,.itd kt vt [] xs)::S.own,nx:=S.nx+1 } (.pb S.nx 0)
  | none=>none
 | _=>none
def Od(eq:R->R->Bool)(S:St)(it:SV)(K:St->SV->Option R):Option R :=
 match it with
 | .pb j o=>match get S.own j with
  | some (.itd kt vt _ rest)=>if o=0∧mX kt=true then Ur eq rest (K S (.tup [.d .bool false])) (fun x rest'=>K { S with own:=dP j (.itd kt vt [x] rest') S.own,log:=j::S.log } (.tup [.d .bool true,.d kt x.1,.d vt x.2])) else none
  | _=>Uh eq S it K
 | _=>none
def IJ(own:List (Nat×Ent))(it:SV)(K:SV->List Nat->Option R):Option R :=
 match it with
 | .pb j o=>match get own j with
  | some (.itd kt vt cur _)=>match cur with
   | [x]=>if o=0∧mX kt=true then K (.tup [.d kt x.1,.d vt x.2]) [j] else none
   | _=>none
  | _=>N8 own it K
 | _=>none
end
section
variable {R:Type}{B:Nat->Prop}{F:Lx}{w0:Bs}{wr:Wr}{pl pl':List Place}{S S':St}{l l':List Value}{ls:List (List Value)}{w w':World}{L L' M:Lx}{P:Program}{d:Option Tmp}{ty:TypeId}{pos:String}{af:Array Edge}{gd:Option (Nat×Bool)}
 {Q:Exit->Act->World->Prop} {KK:List Value->World->Prop} {K:St->SV->Option R} {r:R}
theorem Lc{α:Type}(x:α):∀(r1 r2:List α),(x,r1++r2)∈picks (r1++x::r2)
 | [],r2=>List.mem_cons_self ..
 | a::r1,r2=>zO _ (Au (f:=fun p:α×List α=>(p.1,a::p.2)) (Lc x r1 r2))
theorem abB{α:Type}{eq:R->R->Bool}(heq:∀a b,eq a b=true->a=b){rest:List α}{kn:Option R}{ks:α->List α->Option R}(h:Ur eq rest kn ks=some r) :
  (rest=[]->kn=some r)∧∀r1 x r2,rest=r1++x::r2->ks x (r1++r2)=some r:=by
 grind[Ur,rest,picks,Lc,GH,Au,List]
theorem DmR.split{α β:Type}{R:Rp β}:∀{v1:List (α×Value)} {v:α×Value} {v2:List (α×Value)} {xs:List (α×β)},DmR R L w (v1++v::v2) xs ->
  ∃r1 x r2,xs=r1++x::r2∧(v.1=x.1∧∃cs,R.rel L w cs x.2∧v.2=R.val cs)∧DmR R L w (v1++v2) (r1++r2)
 | [],v,v2,xs,⟨b,q,h1,h2,h3,h4⟩=>⟨[],b,q,h1,⟨h2,h3⟩,h4⟩
 | a::v1,v,v2,xs,⟨b,q,h1,h2,h3,h4⟩=>by obtain⟨r1,x,r2,e1,e2,e3⟩:=DmR.split h4;exact⟨b::r1,x,r2,by simp_all,e2,b,r1++r2,rfl,h2,h3,e3⟩
theorem nN(es:Array MapEntry)(seen:Array Nat):(leftOf es seen).toList=es.toList.filter fun e=>!seen.contains e.born:=by grind[leftOf]
theorem Rm(es:Array MapEntry)(seen:Array Nat)(b:Nat):(leftOf es (seen.push b)).toList=(leftOf es seen).toList.filter fun e=>!(e.born == b):=by rw[nN,nN,List.filter_filter];grind
theorem filter_one{e:MapEntry}{pre post:List MapEntry}(h:((pre++e::post).map (·.born)).Nodup):(pre++e::post).filter (fun x=>!(x.born == e.born))=pre++post:=by grind[List.nodup_append,List.nodup_cons,List.filter_cons_of_neg,List.filter_eq_self,List.mem_map_of_mem,MapEntry,List.mem_cons_self]
theorem Ut(h:Rel B F w0 wr pl S l ls w){t:TypeId}{x:Operand}{m:SV}(hv:II P S t m K=some r)(hx:Den pl (lx pl S.own++F) w m (ev l x))(hk:Hand B F w0 wr S.nt l ls d K r KK):OW P ⟨d,.range t x,ty,pos,af,gd⟩ l w KK Q:=by
 have fin:∀{S1:St} {kt vt:Ty} {xs:List (Vl kt×Vl vt)} {g:Nat} {cl:Nat} {es:Array MapEntry} {vs:List (Vl kt×Value)} {k e:TypeId},P.underlying t=some (.map k e)->ev l x = .map (some g)->Rel B F w0 wr pl S1 l ls w->S1.nt=S.nt ->
   (TA (bM kt) (rp vt)).rel (lx pl S1.own++F) w [.map (some g)] (es,cl,vs,xs,[],[])->es.toList.map (fun e=>(e.key,e.val))=vs.map (fun x=>(bM kt x.1,x.2)) ->
   K { S1 with own:=(S1.nx,.itd kt vt [] xs)::S1.own,nx:=S1.nx+1 } (.pb S1.nx 0)=some r->OW P ⟨d,.range t x,ty,pos,af,gd⟩ l w KK Q:=by
  intro S1 kt vt xs g cl es vs k e hmap hu h1 hnt hrel hes hv;obtain⟨g',e0,hng,hlt,hheap,hst,hdm,_⟩:=hrel;cases e0;have hheap:w.heap[g]? = some (.map es cl):=hheap;have hrun:(Instr.range t (.map (some g))).run P w = .ok (.pointer (some ⟨w.heap.size,0,none⟩)) (w.alloc (.mapIter (some g) cl #[] cl)):=by simp[Instr.range,run_underlying hmap,MapKept.run_getObj_map hheap,Result.andThen]
  have hS:Stp B (lx pl S1.own) (some w.heap.size::lx pl S1.own) F [] w (w.alloc (.mapIter (some g) cl #[] cl)):=Stp.new h1.hL (Fz.alloc _ _ _) rfl (by simp);have hrel':=hS.rel (R:=TA (bM kt) (rp vt)) (x:=(es,cl,vs,xs,[],[])) ⟨g,rfl,hng,hlt,hheap,hst,hdm,rfl⟩;have hl0:(leftOf es #[]).toList=es.toList:=by simp_all[nN,List.filter_eq_self]
  have hr:=h1.push ⟨some ⟨w.heap.size,0,none⟩,0,0⟩ (.itd kt vt [] xs) hS ⟨w.heap.size,0,0,g,es,cl,#[],vs,[],gJ _,oL w _,hrel',(by simp_all),trivial⟩;refine iG (v:=.pointer (some ⟨w.heap.size,0,none⟩)) ?_ (hk _ _ (.pb S1.nx 0) _ _ hr hnt ⟨w.heap.size,0,0,by rw[h1.nx];simp,rfl⟩ hv);simp_all[execOp,Sem.run_bind,zJ,Sem.run_pure]
 unfold II at hv;split at hv
 ·rename_i i
  split at hv
  ·rename_i kt vt xs hg
   split at hv
   ·rename_i ke hmap
    have hmap:=oz hmap;obtain⟨g,n,c,vs,h1,⟨es,cl,h2,h3,h3s⟩,h4⟩:=h.ent _ (get_mem hg);obtain⟨g',n',c',h5,hu⟩:=hx;rw[h1]at h5;cases h5;obtain⟨pre,post,e1,e2⟩:=qZ hg;have hd:=h.drop (yR i S.own);have hlt:g<w.heap.size:=(Array.getElem?_eq_some_iff.1 h2).1
    have e3:lx pl S.own=lx pl pre++some g::lx pl post:=by
     rw[e1];unfold lx;rw[List.map_append,List.map_cons]
     congr 2
     unfold plb;rw[h1];rfl
    have e4:lx pl (rid i S.own)=lx pl pre++lx pl post:=by simp_all[lx,List.map_append]
    have hL:=h.hL;rw[e3]at hL;refine fin hmap hu hd rfl (es:=es) (cl:=cl) (vs:=vs) ⟨g,rfl,?_,hlt,h2,h3s,?_⟩ h3 hv
    ·show some g ∉ lx pl (rid i S.own)++F
     rw[e4];exact hL.gone g rfl
    ·show DmR (rp vt) (lx pl (rid i S.own)++F) w vs xs∧_
     refine⟨(DmD.iff.2 h4).grow ?_,rfl⟩;grind[u7]
   grind
  grind[Zy]
 ·rename_i kt vt xs
  split at hv
  ·rename_i ke hmap
   have hmap:=oz hmap;obtain⟨cs,⟨g,vs,rfl,h1,h2,⟨es,cl,h3,h4,h5⟩,h6⟩,hval⟩:=hx;exact fin hmap hval h rfl (es:=es) (cl:=cl) (vs:=vs) ⟨g,rfl,h1,h2,h3,h5,h6,rfl⟩ h4 hv
  grind
 grind
theorem ZC{eq:R->R->Bool}(heq:∀a b,eq a b=true->a=b)(h:Rel B F w0 wr pl S l ls w){x:Operand}{it:SV}(hv:Od eq S it K=some r)(hx:Den pl (lx pl S.own++F) w it (ev l x))(hk:Hand B F w0 wr S.nt l ls d K r KK) :
  OW P ⟨d,.next x false,ty,pos,af,gd⟩ l w KK Q:=by
 unfold Od at hv;split at hv
 ·rename_i j o
  split at hv
  ·rename_i kt vt cur rest hgj
   split at hv
   ·rename_i hc
    obtain⟨rfl,ht⟩:=hc;obtain⟨g,n,c,b,es,cl,seen,vs,cvs,h1,h2,hrel,h4,_⟩:=h.ent _ (get_mem hgj);obtain⟨b',e0,hng,hlt,hheap,hst,hdm,_⟩:=hrel;cases e0;have hheap:w.heap[b]? = some (.map es cl):=hheap;have hst:Stamped es cl:=hst;have hdm:DmR (rp vt) (lx pl S.own++F) w vs rest:=hdm;obtain⟨g0,n0,c0,h7,hu⟩:=hx;rw[h1]at h7;cases h7;obtain⟨hn1,hn2⟩:=abB heq hv;rcases run_next_at (P:=P) w ty g b cl cl seen es cl h2 hheap (fun y hy=>hst.1 y hy) (Nat.le_refl _) with ⟨hz,hrun⟩ | ⟨e,he,w1,hw1,hrun⟩
    ·have hle:(leftOf es seen).toList=[]:=by simp_all
     rw[hle]at h4;have hvs:vs=[]:=by simp_all
     subst hvs;refine iG (v:=.tuple #[.bool false]) (w':=w) ?_ (hk pl S (.tup [.d .bool false]) _ w h rfl ⟨[.bool false],⟨_,_,rfl,gq _,rfl⟩,rfl⟩ (hn1 hdm));simp_all[execOp,Sem.run_bind,zJ,Sem.run_pure]
    ·obtain⟨pre,post,hpp⟩:=List.append_of_mem he
     rw[hpp,List.map_append,List.map_cons]at h4;obtain⟨v1,v',e1,e2,e3⟩:=List.map_eq_append_iff.1 h4.symm;obtain⟨v,v2,e4,e5,e6⟩:=List.map_eq_cons_iff.1 e3;subst e4;subst e1;obtain⟨r1,y,r2,f1,⟨f2,cs,f3,f4⟩,f5⟩:=DmR.split hdm;have hks:=hn2 r1 y r2 f1;have hlt':g<w.heap.size:=(Array.getElem?_eq_some_iff.1 h2).1
     have hf:Fz [some g] w (ChangeMaps.setBlock w1 g (.mapIter (some b) cl (seen.push e.born) cl)):=by
      rcases hw1 with rfl | rfl
      ·exact Fz.setobj w1 g _
      ·exact (Fz.drew [some g] w).trans (Fz.setobj w.drew g _)
     obtain⟨hpl,hmemg⟩:=y7 hgj h1;have hS:Stp B (lx pl S.own) (lx pl S.own) F [some g] w _:=Stp.store h.hL hmemg hf;have hE:=Ext.of_stp (pl:=pl) (pl':=pl) hS (fun _ _ h=>h)
     have hheap':(ChangeMaps.setBlock w1 g (.mapIter (some b) cl (seen.push e.born) cl)).heap[g]? = some (.mapIter (some b) cl (seen.push e.born) cl):=by
      have h3':w1.heap[g]? = some (.mapIter (some b) cl seen cl):=by rcases hw1 with rfl | rfl<;>exact h2
      grind[Array.getElem?_eq_some_iff,ChangeMaps.setBlock]
     have hnew:(leftOf es (seen.push e.born)).toList=pre++post:=by rw[Rm,hpp];refine filter_one ?_;rw[<- hpp,nN];exact hst.2.1.sublist ((List.filter_sublist).map _)
     have hrel':=hS.rel (R:=TA (bM kt) (rp vt)) (x:=(es,cl,v1++v2,r1++r2,[v],[y])) ⟨b,rfl,hng,hlt,hheap,hst,f5,y,[],rfl,f2,⟨cs,f3,f4⟩,rfl⟩;have hk1:e.key=bM kt v.1:=(congrArg Prod.fst e5).symm;have hk2:e.val=v.2:=(congrArg Prod.snd e5).symm;have hme:e∈es.toList:=by simp_all[nN,List.mem_filter]
     have hr:=h.mod (e':=.itd kt vt [y] (r1++r2)) hgj (by simp_all) ⟨g,n,c,b,es,cl,seen.push e.born,v1++v2,[v],h1,hheap',hrel',(by simp_all),seen,e,rfl,hme,hk1,hk2⟩;refine iG (v:=.tuple #[.bool true,e.key,e.val]) ?_ (hk pl _ (.tup [.d .bool true,.d kt y.1,.d vt y.2]) _ _ hr rfl ⟨[.bool true,e.key,e.val],⟨_,_,rfl,gq _,_,_,rfl,by simp_all[DC],_,_,rfl,?_,rfl⟩,rfl⟩ hks)
     ·simp_all[execOp,Sem.run_bind,zJ,Sem.run_pure]
     ·show Den pl (lx pl (dP j (.itd kt vt [y] (r1++r2)) S.own)++F) _ _ _
      rw[Iw hgj];exact⟨cs,hE.rel _ f3,by simp_all⟩
   grind
  grind[abt]
 grind
theorem Uu{own:List (Nat×Ent)}(he:EntsD pl L w own){x:Operand}{it:SV}{K:SV->List Nat->Option R}(h:IJ own it K=some r)(hx:Den pl L w it (ev l x)) :
  ∃s' rd,K s' rd=some r∧Yv P pl L w l ⟨d,.entry x,ty,pos,af,gd⟩ s' rd:=by
 unfold IJ at h;split at h
 ·rename_i j o
  split at h
  ·rename_i kt vt cur rest hgj
   split at h
   ·rename_i y
    split at h
    ·rename_i hc
     obtain⟨rfl,ht⟩:=hc;obtain⟨g,n,c,b,es,cl,seen,vs,cvs,h1,h2,hrel,h4,hcur⟩:=he.get hgj;obtain⟨b',e0,hng,hlt,hheap,hst,hdm,hcd⟩:=hrel;cases e0;have hheap:w.heap[b]? = some (.map es cl):=hheap;have hst:Stamped es cl:=hst;have hcd:DmR (rp vt) L w cvs [y]:=hcd
     cases cvs with
     | nil=>cases hcd
     | cons v q =>
      obtain⟨z,q',e1,f2,⟨cs,f3,f4⟩,f5⟩:=hcd;cases e1;obtain⟨i,e,rfl,hme,hk1,hk2⟩:=hcur;obtain⟨g0,n0,c0,h7,hu⟩:=hx;rw[h1]at h7;cases h7;refine⟨_,_,h,.tuple #[e.key,e.val],⟨[e.key,e.val],⟨_,_,rfl,by simp_all[DC],_,_,rfl,⟨cs,f3,by simp_all⟩,rfl⟩,rfl⟩,fun w' hF hrd=>?_⟩;have e1:w'.heap[g]? = some (.mapIter (some b) cl (i.push e.born) cl):=by rw[hrd j (by simp) g (by rw[fo h1];rfl),h2]
      have e2:w'.heap[b]? = some (.map es cl):=by rw[hF.block b hlt hng];omega
      have hrun:=run_entry_at (P:=P) w' g b cl i es cl e e1 e2 hme hst.2.1;simp_all[execOp,Sem.run_bind,zJ,Sem.run_pure]
    grind
   grind
  ·exact Zz he h hx
 grind
end
end Ev
end
noncomputable section
namespace Sx
open Go Go.RowKit Ev
section
variable {P:Program}{l:List Value}{w:World}{d:Option Tmp}{ty:TypeId}{pos:String}{af:Array Edge}{gd:Option (Nat×Bool)}
 {Q:Exit->Act->World->Prop} {K:List Value->World->Prop} {α:Type} {R:Rp α}
theorem EX(t ty e:TypeId)(i:TypeInfo)(ht:P.underlying t=some (.slice e))(hi:P.info? e=some i)
  (g o n cap:Nat) (cur:Array Value) (hg:w.heap[g]? = some (.cells cur e (0,0)))
  (a:Addr) (m c:Nat) (news:List Value) (hl:news.length=m*i.size) (hnews:∀j u,news[j]? = some u->w.cell? (a.add j)=some u) (h1:∀u∈news,u.oneCell'=true)
  (hroom:n+m≤cap) (hfit:o+n*i.size+news.length≤cur.size) :
  (Builtin.append_ #[t,t] ty #[.slice (some ⟨g,o,none⟩) n cap,.slice (some a) m c]).run P w =
   .ok (.slice (some ⟨g,o,none⟩) (n+m) cap) (w.setRow g (cur.toList.take (o+n*i.size)++news++cur.toList.drop (o+n*i.size+news.length)).toArray):=by
 have hf:=run_firstCells_some (P:=P) w i.size m a m c news hl hnews;have hst:=run_storeCells_at P g (o+n*i.size) e news 0 cur w hg (by simpa using hfit) h1;simp only[Nat.add_zero]at hst;simp[Builtin.append_,run_underlying ht,Go.sizeOf,typeInfo,hi,Builtin.lenOf,hroom,hf,Addr.add_lit,hst]
theorem Oq.cell{e:TypeId}{L:Lx}{a:Option Addr}{n c:Nat}{xs:List α}(h:Oq R e L w a n c xs)(hne:xs ≠ []) :
  ∃g o cells,a=some ⟨g,o,none⟩∧RowsOf R L w cells xs∧∀j u,cells[j]? = some u->∀w':World,w'.heap[g]? = w.heap[g]?->w'.cell? ⟨g,o+j,none⟩=some u:=by
 obtain⟨h1,h2,h3,h4,h5⟩:=h;have hp:=List.length_pos_iff.2 hne;obtain⟨g,o,cur,cells,rfl,h6,h7,h8,h9⟩:=h5 (by omega);refine⟨g,o,cells,rfl,h8,fun j u hj w' hw=>?_⟩;rw[cell_of_row w' g (o+j) cur e (0,0) (by rw[hw];exact h6)];rw[<- h9,List.getElem?_take]at hj;split at hj
 ·rw[List.getElem?_drop]at hj
  simpa using hj
 ·cases hj
theorem ahm{B:Nat->Prop}{pre post F:Lx}{s x:Operand}{t e:TypeId}{z:α}{a0:Option Nat}{a a2:Option Addr}{n c n2 c2:Nat}{xs ys:List α}{news:List Value}(ht:P.underlying t=some (.slice e))(hr:TyRow P e R z)
  (hs:Sx.ev l s = .slice a n c) (hx:Sx.ev l x = .slice a2 n2 c2) (hL:LOk B (pre++a0::post) F w) (hq:Oq R e ((pre++a0::post)++F) w a n c xs) (hb:blk a=a0)
  (hn2:n2=ys.length) (hrow:RowsOf R ((pre++a0::post)++F) w news ys) (hcell:ys ≠ []->∃b o,a2=some ⟨b,o,none⟩∧∀j u,news[j]? = some u->w.cell? ((⟨b,o,none⟩:Addr).add j)=some u)
  (hsm:small (xs.length+ys.length)=true)
  (h:∀a' n' c' w',Stp B (pre++a0::post) (pre++blk a'::post) F [a0] w w'->Oq R e ((pre++blk a'::post)++F) w' a' n' c' (xs++ys)->K (st l d (.slice a' n' c')) w') :
  OW P ⟨d,.call { callee:=.builtin .append,args:=#[s,x],argTypes:=#[t,t] },ty,pos,af,gd⟩ l w K Q:=by
 subst hb hn2;obtain⟨i,zv,hi,hz,hsz,hby,hzs,hzr⟩:=hr.info;have hsm:=jA hsm;have hq0:=hq;obtain⟨rfl,hnc,hcm,hlt,hcc⟩:=hq;have fin:∀(v:Value) (w':World),(Builtin.append_ #[t,t] ty #[.slice a xs.length c,.slice a2 ys.length c2]).run P w = .ok v w'->K (st l d v) w'->OW P ⟨d,.call { callee:=.builtin .append,args:=#[s,x],argTypes:=#[t,t] },ty,pos,af,gd⟩ l w K Q:=fun v w' hrun hk=>by refine iG (v:=v) (w':=w') ?_ hk;simp_all[execOp,resolve,invoke,builtin,Sem.run_bind,Sem.run_pure,zJ,List.map_toArray,List.map_cons,List.map_nil]
 by_cases hne:ys=[]
 ·subst hne
  have hrun:(Builtin.append_ #[t,t] ty #[.slice a xs.length c,.slice a2 ([]:List α).length c2]).run P w = .ok (.slice a xs.length c) w:=by
   cases a2 with
   | none=>exact pq t ty e ht ⟨i,hi⟩ a _ c c2 hnc
   | some ad=>cases a<;>simp[Builtin.append_,run_underlying ht,Go.sizeOf,typeInfo,hi,Builtin.lenOf,Builtin.firstCells,loadCells,loadCellsFrom,storeCells,hnc]
  refine fin _ _ hrun (h a _ c w (Stp.turn hL (Fz.refl _ _) (fun k hk=>.inl hk)) ?_);rw[List.append_nil];exact hq0
 ·obtain⟨b,o2,ha2,hcl⟩:=hcell hne
  clear hcell;subst ha2;have hcell:=hcl;have hpos:0<ys.length:=List.length_pos_iff.2 hne;by_cases hroom:xs.length+ys.length≤c
  ·obtain⟨g,o,cur,cells,rfl,h6,h7,h8,h9⟩:=hcc (by omega)
   have hl:=hrow.len;have hl8:=h8.len;have hmul:xs.length*R.size+ys.length*R.size≤c*R.size:=by rw[<- Nat.add_mul];exact Nat.mul_le_mul_right _ hroom
   have hrun:=EX (P:=P) (w:=w) t ty e i ht hi g o xs.length c cur h6 ⟨b,o2,none⟩ ys.length c2 news (by rw[hsz];exact hl) hcell hrow.one hroom (by rw[hsz];omega);rw[hsz]at hrun
   have hf:Fz [blk (some ⟨g,o,none⟩)] w (w.setRow g (cur.toList.take (o+xs.length*R.size)++news++cur.toList.drop (o+xs.length*R.size+news.length)).toArray) :=
    ⟨rfl,rfl,rfl,by simp,fun k hk hn=>setRow_other w g k _ (fun e=>hn (by simp[e,blk]))⟩
   have S:=Stp.turn (x':=blk (some ⟨g,o,none⟩)) hL hf (fun k hk=>.inl hk);refine fin _ _ hrun (h _ _ _ _ S ⟨by simp,hroom,hcm,fun k hk=>?_,fun _=>⟨g,o,_,cells++news,rfl,setRow_heap w g cur _ e (0,0) h6,?_,?_,?_⟩⟩)
   ·exact Nat.lt_of_lt_of_le (hlt k hk) S.hf.size
   ·simp;omega
   ·exact (h8.step S.hf (fun k hk=>List.mem_append_left _ (S.hM k hk)) S.hs).append (hrow.step S.hf (fun k hk=>List.mem_append_left _ (S.hM k hk)) S.hs)
   ·have hlen:o+xs.length*R.size≤cur.toList.length:=by simp;omega
    have e1:cur.toList.take (o+xs.length*R.size)=cur.toList.take o++cells:=by rw[<- h9,hl8,List.take_add]
    have e2:(cur.toList.take o).length=o:=by rw[zW];omega
    rw[e1,List.append_assoc,List.append_assoc,List.drop_append,List.drop_of_length_le (by omega),e2,Nat.sub_self,List.nil_append,List.drop_zero,<- List.append_assoc,List.take_left]
  ·have hbytes:(xs.length+ys.length)*i.bytes≤140737488355328:=by have:(xs.length+ys.length)*i.bytes≤1073741824*131072:=Nat.mul_le_mul hsm hby;omega
   have run:∃v' w' cells,(Builtin.append_ #[t,t] ty #[.slice a xs.length c,.slice (some ⟨b,o2,none⟩) ys.length c2]).run P w = .ok v' w'∧w'.ownsRow w.heap.size e R.size v' (xs.length+ys.length) (cells++news)∧w.grownBy w' none∧RowsOf R ((pre++blk a::post)++F) w cells xs:=by
    by_cases hxe:xs=[]
    ·subst hxe
     cases a with
     | none =>
      have hc0:c=0:=Classical.byContradiction fun hne0=>by obtain⟨g,o,cur,cells,e1,_⟩:=hcc hne0;cases e1
      subst hc0
      obtain⟨v',w',hrun,h5,h6,h7⟩:=run_append_own (P:=P) w w.heap.size t ty e i zv R.size i.bytes ht hi hz hsz rfl (by rw[hzs]) hr.pos (.slice none 0 0) 0 [] (World.ownsRow_nil w w.heap.size e _)
       ⟨b,o2,none⟩ ys.length c2 news hrow.len hcell hrow.one (by grind[maxLen]) (by simpa using hbytes) (Nat.le_refl _)
      exact⟨v',w',[],hrun,by simpa using h5,h6,rfl⟩
     | some ad =>
      obtain⟨v',w',hrun,h5,h6⟩:=run_append_arg_grows (P:=P) (w:=w) t ty e i zv R.size i.bytes ht hi hz hsz rfl (by rw[hzs]) hr.pos ad 0 c [] (by simp) (fun j u hj=>by grind)
       ⟨b,o2,none⟩ ys.length c2 news hrow.len hcell (by simpa using hroom) (by grind[maxLen]) (by simpa using hbytes)
      exact⟨v',w',[],hrun,by simpa using h5,h6,rfl⟩
    ·obtain⟨g,o,cells,rfl,h8,h9⟩:=Oq.cell hq0 hxe
     obtain⟨v',w',hrun,h5,h6⟩:=run_append_arg_grows (P:=P) (w:=w) t ty e i zv R.size i.bytes ht hi hz hsz rfl (by rw[hzs]) hr.pos ⟨g,o,none⟩ xs.length c cells h8.len (fun j u hj=>by rw[Addr.add_lit'];exact h9 j u hj w rfl)
      ⟨b,o2,none⟩ ys.length c2 news hrow.len hcell (by omega) (by grind[maxLen]) hbytes
     exact⟨v',w',cells,hrun,h5,h6,h8⟩
   obtain⟨v',w',cells,hrun,h5,h6,h8⟩:=run;have hf0:Fz [] w w':=⟨h6.os,h6.tape,h6.output,h6.size,fun k hk _=>h6.block k hk (fun e=>by cases e)⟩;rcases h5.2 with ⟨_,hn⟩ | ⟨g,cap,cur,rfl,hg,hrest⟩
   ·omega
   ·have hlt2:g<w'.heap.size:=(Array.getElem?_eq_some_iff.1 hrest.1).1
    have S:Stp B (pre++blk a::post) (pre++blk (some ⟨g,0,none⟩)::post) F [blk a] w w':=Stp.turn hL hf0.nil (fun k hk=>.inr (by cases hk;exact⟨hg,hlt2⟩));have hrow':RowsOf R ((pre++blk (some ⟨g,0,none⟩)::post)++F) w' (cells++news) (xs++ys):=(h8.step S.hf (fun k hk=>List.mem_append_left _ (S.hM k hk)) S.hs).append (hrow.step S.hf (fun k hk=>List.mem_append_left _ (S.hM k hk)) S.hs);refine fin _ _ hrun (h _ _ _ _ S (Oq.of_ow ⟨by simp,cells++news,⟨?_,.inr ⟨g,cap,cur,?_,Nat.zero_le _,by rw[zU (as:=xs)];exact hrest⟩⟩,hrow'⟩))
    ·rw[zU (as:=xs)];exact h5.1
    ·simp
end
end Sx
namespace Ev
open Go Go.RowKit Sx
section
variable {R:Type}{B:Nat->Prop}{F:Lx}{w0:Bs}{wr:Wr}{pl pl':List Place}{S S':St}{l l':List Value}{ls:List (List Value)}{w w':World}{L L' M:Lx}{P:Program}{d:Option Tmp}{ty:TypeId}{pos:String}{af:Array Edge}{gd:Option (Nat×Bool)}
 {Q:Exit->Act->World->Prop} {KK:List Value->World->Prop} {K:St->SV->Option R} {r:R}
def EY(own:List (Nat×Ent))(i:Nat):Bool:=match get own i with
 | some (.que _ _ _)=>true
 | _=>false
def Uv(P:Program)(own:List (Nat×Ent))(t:TypeId)(s:SV)(K:SV->List Nat->Option R):Option R :=
 match s with
 | .row i=>if BM P t=true then match get own i with
  | some (.que _ _ xs)=>K (.d (.int .i64) (xs.length:Int)) []
  | _=>none else none
 | _=>none
theorem abC{own:List (Nat×Ent)}(he:EntsD pl L w own){t:TypeId}{x:Operand}{s:SV}{K:SV->List Nat->Option R}(h:Uv P own t s K=some r)(hx:Den pl L w s (ev l x)) :
  ∃s' rd,K s' rd=some r∧Yv P pl L w l ⟨d,.call { callee:=.builtin .len,args:=#[x],argTypes:=#[t] },ty,pos,af,gd⟩ s' rd:=by
 unfold Uv at h;split at h
 ·split at h
  ·rename_i ht
   obtain⟨e,ht⟩:=uN ht;split at h
   ·rename_i hg
    obtain⟨p,h6,h7⟩:=hx;obtain⟨p',h8,h9⟩:=he.get hg;rw[h6]at h8;cases h8;exact⟨_,_,h,Yv.of (dM _ _) (fun w'=>jV ht h7 h9.1)⟩
   grind
  grind
 grind
def IK(P:Program)(own:List (Nat×Ent))(t:TypeId)(s i:SV)(K:SV->List Nat->Option R):Option R :=
 match s,i with
 | .row q,.d (.int _) j=>match fq P t,get own q with
  | some (_,n),some (.que t0 _ xs)=>if t0.size=n then (at? xs j).bind fun _=>K (.prw q j t0.size 0) [] else none
  | _,_=>none
 | _,_=>none
theorem Uw{own:List (Nat×Ent)}(he:EntsD pl L w own){t:TypeId}{x y:Operand}{s i:SV}{K:SV->List Nat->Option R}(h:IK P own t s i K=some r)(hx:Den pl L w s (ev l x))(hi:Den pl L w i (ev l y)) :
  ∃s' rd,K s' rd=some r∧Yv P pl L w l ⟨d,.indexAddr t x y,ty,pos,af,gd⟩ s' rd:=by
 unfold IK at h;split at h
 ·rename_i q k j
  split at h
  ·rename_i e n t0 e0 xs hel hg
   split at h
   ·rename_i hsz
    obtain⟨z,hz,h⟩:=bK h;obtain⟨h3,h4,h5⟩:=gY hz;have hi:=je hi;obtain⟨h1,h2⟩:=jE hel;obtain⟨p,h6,h7⟩:=hx;obtain⟨p',h8,h9⟩:=he.get hg;rw[h6]at h8;cases h8;obtain⟨g,o,cells,ha,_⟩:=Oq.cell h9 (by rintro rfl;simp at h5);obtain⟨pa,pn,pc⟩:=p;simp only at ha h7;subst ha;refine⟨_,_,h,Yv.of (v:=.pointer (some ⟨g,o+j.toNat*n,none⟩)) ⟨g,o,pn,pc,h6,by simp[hsz]⟩ (fun w'=>jl h1 h2 h7 hi h3 (by have e9:pn=xs.length:=h9.1;omega))⟩
   grind
  grind
 grind
def Oe(P:Program)(own:List (Nat×Ent))(t:TypeId)(s:SV)(K:SV->List Nat->Option R):Option R :=
 match s with
 | .prw i j sz o=>match get own i,tyc P t with
  | some (.que t0 _ xs),some fy=>if sz=t0.size then (at? xs j).bind fun y=>match prj t0 o fy y with
   | some z=>K (.d fy z) [i]
   | none=>none
   else none
  | _,_=>none
 | _=>none
theorem ZD{own:List (Nat×Ent)}(he:EntsD pl L w own){t:TypeId}{x:Operand}{s:SV}{K:SV->List Nat->Option R}(h:Oe P own t s K=some r)(hx:Den pl L w s (ev l x)) :
  ∃s' rd,K s' rd=some r∧Yv P pl L w l ⟨d,.load t x,ty,pos,af,gd⟩ s' rd:=by
 unfold Oe at h;split at h
 ·rename_i i j sz o
  split at h
  ·rename_i t0 e xs fy hg hy
   have hty:=gU hy;split at h
   ·rename_i hsz
    subst hsz;obtain⟨y,hy1,h⟩:=bK h;split at h
    ·rename_i z hp
     obtain⟨a,b0,n,c,h1,h2⟩:=hx;obtain⟨p,h3,h4⟩:=he.get hg;rw[h1]at h3;cases h3;obtain⟨h5,h6,h7⟩:=gY hy1;obtain⟨g,o2,cells,ha,hrows,hcl⟩:=Oq.cell h4 (by rintro rfl;simp at h7);cases ha;obtain⟨pre0,cs,post0,rfl,h8,h9,_⟩:=hrows.at h6;obtain⟨pre,c1,post,rfl,h10,h11⟩:=jm hp h9;refine⟨_,_,h,(rp _).val c1,⟨c1,h11,rfl⟩,fun w' hF hrd=>jr h2 ?_⟩;refine iQ hty ((rp _).len h11) (fun k v hk=>?_)
     have:=hcl (j.toNat*t0.size+o+k) v (by
      rw[bV]at h8;rw[<- h8,<- h10,List.append_assoc,List.append_assoc,List.append_assoc,List.getElem?_append_right (by omega),List.getElem?_append_right (by omega)];rw[show pre0.length+pre.length+k - pre0.length - pre.length=k by omega,List.getElem?_append_left (List.getElem?_eq_some_iff.1 hk).1]
      exact hk) w' (hrd i (by simp) a (by rw[fo h1];rfl))
     rwa[show b0+(j.toNat*t0.size+o+k)=b0+j.toNat*t0.size+o+k by omega]at this
    grind
   grind
  grind
 grind
def IL(P:Program)(S:St)(t:TypeId)(s:SV)(lo hi:Option Operand)(K:SV->List Nat->Option R):Option R :=
 match s with
 | .row q=>match fq P t,get S.own q with
  | some (_,n),some (.que t0 _ xs)=>if t0.size=n then match dZ S lo 0,dZ S hi xs.length with
   | some i,some j=>need (ge i 0) (need (le i j) (need (le j xs.length) (K (.sub q n i (j - i)) [])))
   | _,_=>none else none
  | _,_=>none
 | _=>none
theorem Oq.exact{α:Type}{R:Rp α}{e:TypeId}{p:Place}{xs:List α}{sz:Nat}(h:Oq R e L w p.a p.n p.c xs):(p.c≠0->(0:Int).toNat+p.c≤p.c∧∃g o,p.a=some ⟨g,o,none⟩∧p.a=some ⟨g,o+(0:Int).toNat*sz,none⟩)∧(p.c≠0->blk p.a=blk p.a) :=
 ⟨fun hne=>by
  obtain⟨g,o,cur,cells,e1,_⟩:=h.2.2.2.2 hne
  exact⟨by simp,g,o,e1,by simp[e1]⟩,fun _=>rfl⟩
theorem Ux(hf:FrD pl L w S.fr l)(he:EntsD pl L w S.own){t:TypeId}{x:Operand}{s:SV}{lo hi:Option Operand}{K:SV->List Nat->Option R}(h:IL P S t s lo hi K=some r)(hx:Den pl L w s (ev l x)) :
  ∃s' rd,K s' rd=some r∧Yv P pl L w l ⟨d,.slice t x lo hi none,ty,pos,af,gd⟩ s' rd:=by
 unfold IL at h;split at h
 ·rename_i q
  split at h
  ·rename_i e n t0 e0 xs hel hg
   obtain⟨h1,h2⟩:=jE hel;split at h
   ·split at h
    ·rename_i i j hi' hj'
     obtain⟨k1,h⟩:=bS h;obtain⟨k2,h⟩:=bS h;obtain⟨k3,h⟩:=bS h;have k1:0≤i:=of_decide_eq_true k1;have k2:i≤j:=of_decide_eq_true k2;have k3:j≤(xs.length:Int):=of_decide_eq_true k3;obtain⟨p,h3,h4⟩:=hx;obtain⟨p',h5,h6⟩:=he.get hg;rw[h3]at h5;cases h5;have hlen:=h6.1;have hcap:=h6.2.1;have hrun:=rJ (P:=P) (d:=d) (ty:=ty) (pos:=pos) (af:=af) (g:=gd) h1 h2 h4 (jJ hf hi') (by rw[hlen];exact jJ hf hj') k1 k2 (by omega) (by omega);refine⟨_,_,h,Yv.of ?_ hrun⟩;have:=Dn (L:=L) (w:=w) (sz:=n) (lo0:=0) (m:=xs.length) (a:=p.a) (c:=p.c) h3 k1 k2 k3 (by omega) (by omega) (by omega) h6.exact;simp_all
    grind
   grind
  grind
 grind
def MH(P:Program)(S:St)(t:TypeId)(s:SV)(lo hi:Option Operand)(mx:Operand)(K:SV->List Nat->Option R):Option R :=
 match s with
 | .row q=>if BN hi=true∧lo=none then match fq P t,get S.own q,dZ S hi 0,dZ S (some mx) 0 with
   | some (_,n),some (.que t0 _ xs),some j,some m=>if t0.size=n then need (ge j 0) (need (eqi j m) (need (le j (zD xs.length)) (K (.sub q n 0 j) []))) else none
   | _,_,_,_=>none
  else none
 | _=>none
theorem Og(hf:FrD pl L w S.fr l)(he:EntsD pl L w S.own){t:TypeId}{x:Operand}{s:SV}{lo hi:Option Operand}{mx:Operand}{K:SV->List Nat->Option R}(hv:MH P S t s lo hi mx K=some r)(hx:Den pl L w s (Sx.ev l x)) :
  ∃s' rd,K s' rd=some r∧Yv P pl L w l ⟨d,.slice t x lo hi (some mx),ty,pos,af,gd⟩ s' rd:=by
 unfold MH at hv;split at hv
 ·rename_i q
  split at hv
  ·rename_i hz
   obtain⟨hz,rfl⟩:=hz;split at hv
   ·rename_i e n t0 e0 xs j m hel hg hhi hmx
    split at hv
    ·obtain⟨hj0,hv⟩:=bS hv
     obtain⟨hjm,hv⟩:=bS hv;obtain⟨hm,hv2⟩:=bS hv;have hj0:0≤j:=of_decide_eq_true hj0;have hjm:j=m:=by simpa [eqi]using hjm
     subst hjm;have hm:j≤(xs.length:Int):=of_decide_eq_true hm;obtain⟨h1,h2⟩:=jE hel;obtain⟨p,h3,h4⟩:=hx;obtain⟨p',h5,h6⟩:=he.get hg;rw[h3]at h5;cases h5;have hlen:=h6.1;have hcap:=h6.2.1
     have hh:∃o k,hi=some o∧Sx.ev l o = .int k j:=by
      rcases jJ hf hhi with ⟨e1,_⟩ | e1
      ·simp_all[BN]
      ·exact e1
     have hmm:∃k,Sx.ev l mx = .int k j:=by
      rcases jJ hf hmx with ⟨e1,_⟩ | ⟨o,k,e1,e2⟩
      ·cases e1
      ·cases e1;exact⟨k,e2⟩
     obtain⟨oh,kh,rfl,e2⟩:=hh;obtain⟨km,e3⟩:=hmm;obtain⟨j,rfl⟩:=zK hj0
     have hrun:∀w,(execOp (Sx.ev l) ⟨d,.slice t x none (some oh) (some mx),ty,pos,af,gd⟩).run P w = .ok (.value (.slice (if j=0 then p.a else p.a.map (·.add (0*n))) j j)) w:=by
      intro w;have hb:(Instr.sliceBounds true p.n p.c none (some (Sx.ev l oh)) (some (.int km j))).run P w = .ok (0,j,j) w:=by unfold Instr.sliceBounds;simp[Instr.sliceBound,asIntOf,e2];omega
      have hsl:(Instr.sliceAt t (Sx.ev l x) none (some (Sx.ev l oh)) ((some mx:Option Operand).map (Sx.ev l))).run P w = .ok (.slice (if j=0 then p.a else p.a.map (·.add (0*n))) j j) w:=by unfold Instr.sliceAt;simp only[Sem.run_bind,run_underlying h1,zJ];unfold Instr.slice;simp only[Sem.run_bind,run_underlying h1,zJ,h4,Option.map_some,e3,hb,run_sizeOf h2,Sem.run_pure];rfl
      grind[execOp,Sem.run_bind,Instr.sliceAt,ev,mx,zJ,Sem.run_pure]
     refine⟨.sub q n 0 (j:Int),[],hv2,Yv.of ⟨p,_,j,h3,Int.le_refl 0,by omega,by omega,rfl,by simp,fun hne=>?_,fun hne=>?_⟩ (fun w'=>hrun w')⟩
     ·obtain⟨_,g,o,e4,e5⟩:=(h6.exact (sz:=n)).1 (by omega)
      refine⟨by simp;omega,g,o,e4,?_⟩;rw[if_neg (by omega),e4];simp[Addr.add_lit']
     ·split
      ·rfl
      ·cases p.a with
       | none=>rfl
       | some b=>simp[blk,Addr.add]
    grind
   grind
  grind
 grind
def agw(P:Program)(S:St)(t:TypeId)(s:SV)(lo hi:Option Operand)(mx:Operand)(K:St->SV->Option R):Option R:=MH P S t s lo hi mx fun s _=>K S s
theorem abD(h:Rel B F w0 wr pl S l ls w){t:TypeId}{x:Operand}{s:SV}{lo hi:Option Operand}{mx:Operand}(hv:agw P S t s lo hi mx K=some r)(hx:Den pl (lx pl S.own++F) w s (Sx.ev l x))(hk:Hand B F w0 wr S.nt l ls d K r KK) :
  OW P ⟨d,.slice t x lo hi (some mx),ty,pos,af,gd⟩ l w KK Q:=by
 obtain⟨s,rd,h1,v,h2,h3⟩:=Og h.fr h.ent hv hx;exact iG (h3 w (Fz.refl _ _) (fun _ _ _ _=>rfl)) (hk pl S s v w h rfl h2 h1)
theorem Oq.sub{α:Type}{R:Rp α}{e:TypeId}{a a':Option Addr}{n c c':Nat}{xs:List α}{lo m:Int}(h:Oq R e L w a n c xs)(h0:0≤lo)(h1:0≤m)(h2:lo+m≤n)(h3:m.toNat≤c')
  (hc:c'≠0->lo.toNat+c'≤c∧∃g o,a=some ⟨g,o,none⟩∧a'=some ⟨g,o+lo.toNat*R.size,none⟩) (hb:blk a'=blk a):Oq R e L w a' m.toNat c' (prt xs lo m):=by
 obtain⟨rfl,q2,q3,q4,q5⟩:=h;have hle:lo.toNat+m.toNat≤xs.length:=by clear q5 hc;omega
 have hpl:m.toNat=(prt xs lo m).length:=by unfold prt;rw[zW,List.length_drop];clear q5 hc;omega
 refine⟨hpl,h3,?_,fun k hk=>q4 k (by rw[<- hb];exact hk),fun hne=>?_⟩
 ·by_cases hz:c'=0
  ·omega
  ·have:=(hc hz).1;omega
 ·obtain⟨k1,g,o,k2,rfl⟩:=hc hne
  obtain⟨g2,o2,cur,cells,e1,e2,e3,e4,e5⟩:=q5 (by omega);rw[k2]at e1;cases e1;have hl:=e4.len;clear q5 hc;have hle:(lo.toNat+m.toNat)*R.size≤xs.length*R.size:=Nat.mul_le_mul_right _ hle;have hle2:(lo.toNat+c')*R.size≤c*R.size:=Nat.mul_le_mul_right _ k1;rw[Nat.add_mul]at hle hle2;refine⟨g,_,cur,(cells.drop (lo.toNat*R.size)).take (m.toNat*R.size),rfl,e2,by omega,RowsOf.take m.toNat (RowsOf.drop lo.toNat e4),?_⟩;have hl2:((cells.drop (lo.toNat*R.size)).take (m.toNat*R.size)).length=m.toNat*R.size:=by rw[zW,List.length_drop];omega
  rw[hl2]
  have e6:cells.drop (lo.toNat*R.size)=(cur.toList.drop (o+lo.toNat*R.size)).take (cells.length - lo.toNat*R.size):=by
   conv=>lhs;rw[<- e5]
   rw[List.drop_take,List.drop_drop]
  rw[e6,List.take_take,Nat.min_eq_left (by omega)]
def adQ(S:St)(i sz:Nat)(lo n:Int)(K:St->Option R):Option R:=match get S.own i with
 | some (.que t e xs)=>if sz=t.size then need (lt 0 (zD xs.length)) (K { S with own:=jK i S.nx (.que t e (prt xs lo n)) S.own,nx:=S.nx+1,log:=i::S.log }) else none
 | _=>none
theorem aiK(h:Rel B F w0 wr pl S l ls w){i sz:Nat}{lo n:Int}{K:St->Option R}{u:Value}(hv:adQ S i sz lo n K=some r)(hx:Den pl (lx pl S.own++F) w (.sub i sz lo n) u) :
  ∃pl' S',Rel B F w0 wr pl' S' l ls w∧S'.nt=S.nt∧S'.fr=S.fr∧Den pl' (lx pl' S'.own++F) w (.row S.nx) u∧K S'=some r:=by
 unfold adQ at hv;split at hv
 ·rename_i t e xs ho
  split at hv
  ·rename_i hsz
   subst hsz;obtain⟨hp0,hv⟩:=bS hv;obtain⟨pre,post,h1,h2⟩:=qF ho;obtain⟨p,hp,hO⟩:=h.ent (i,_) (get_mem ho);obtain⟨p',a,c,hp',q1,q2,q3,rfl,q5,q6,q7⟩:=hx;rw[hp]at hp';cases hp';have hpos:0<xs.length:=by have:(0:Int)<(zD xs.length):=of_decide_eq_true hp0;exact Int.ofNat_lt.1 this
   have hb:=q7 (by have:=hO.1;have:=hO.2.1;omega);have e0:blk a=plb pl i:=by rw[hb,fo hp]
   have e3:lx pl S.own=lx pl pre++plb pl i::lx pl post:=by rw[h1,iq]
   have hL:=h.hL;have hs:Stp B (lx pl pre++plb pl i::lx pl post) (lx pl pre++blk a::lx pl post) F [plb pl i] w w:=by rw[e0,<- e3];exact⟨(Fz.refl _ _),fun k hk=>by simp_all,Sub.refl _ _,hL⟩
   have hO2:=hO.sub (a':=a) (c':=c) q1 q2 q3 q5 (by rw[bV];exact q6) hb
   have h3:=h.rep (p:=⟨a,n.toNat,c⟩) (e':=.que t e (prt xs lo n)) h1 h2 hs ⟨_,gJ _,by
    show Oq (rp t) e ((lx pl pre++blk a::lx pl post)++F) w a n.toNat c (prt xs lo n);rw[e0,<- e3]
    exact hO2⟩
   exact⟨_,_,h3,rfl,rfl,⟨_,by rw[h.nx];exact gJ _,rfl⟩,hv⟩
  grind
 grind
def agx(P:Program)(S:St)(t:TypeId)(a:Operand)(i sz:Nat)(lo n:Int)(K:St->SV->Option R):Option R :=
 adQ S i sz lo n fun S1=>match opv S1 a with
  | some a'=>yZ P S1 t a' (.row S.nx) K
  | none=>none
theorem abE(h:Rel B F w0 wr pl S l ls w){t:TypeId}{x y:Operand}{i sz:Nat}{lo n:Int}(hv:agx P S t x i sz lo n K=some r)(hy:Den pl (lx pl S.own++F) w (.sub i sz lo n) (ev l y))(hk:Hand B F w0 wr S.nt l ls d K r KK) :
  OW P ⟨d,.store t x y,ty,pos,af,gd⟩ l w KK Q:=by
 obtain⟨pl',S',h1,h2,h3,h4,h5⟩:=aiK h hv hy;split at h5
 ·rename_i a' ha
  exact Am h1 h5 (bf h1.fr ha) h4 (by rw[h2];exact hk)
 ·cases h5
def Oh(own:List (Nat×Ent))(i:Nat):Option ((t:Ty)×TypeId×List (Vl t)):=match get own i with
 | some (.que t e xs)=>some ⟨t,e,xs⟩
 | some (.row t e xs)=>some ⟨t,e,xs⟩
 | _=>none
theorem DF{own:List (Nat×Ent)}(he:EntsD pl L w own){i:Nat}{t:Ty}{e:TypeId}{xs:List (Vl t)}(h:Oh own i=some ⟨t,e,xs⟩):(∃en,get own i=some en)∧∃p,pl[i]? = some p∧Oq (rp t) e L w p.a p.n p.c xs:=by
 unfold Oh at h;split at h
 ·rename_i hg
  cases h
  exact⟨⟨_,hg⟩,he.get hg⟩
 ·rename_i hg
  cases h
  obtain⟨p,h1,h2⟩:=he.get hg;exact⟨⟨_,hg⟩,p,h1,Oq.of_ow h2⟩
 ·cases h
def Uy(S:St)(i:Nat)(t:Ty)(e:TypeId)(xs:List (Vl t)):St:={ S with own:=jK i S.nx (.que t e xs) S.own,nx:=S.nx+1,log:=i::S.log }
theorem uR(h:Rel B F w0 wr pl S l ls w){i:Nat}{t e:TypeId}{n0:Nat}{t0:Ty}{z:Vl t0}{x y:Operand}{vs ys:List (Vl t0)}{p:Place}{a a2:Option Addr}{n c n2 c2:Nat}{news:List Value}(hel:fq P t=some (e,n0))(hr:TyRow P e (rp t0) z)
  (hg:∃en,get S.own i=some en) (hp:pl[i]? = some p) (hq:Oq (rp t0) e (lx pl S.own++F) w a n c vs) (hb:blk a=blk p.a) (hx:ev l x = .slice a n c) (hy:ev l y = .slice a2 n2 c2) (hn2:n2=ys.length)
  (hrow:RowsOf (rp t0) (lx pl S.own++F) w news ys) (hcell:ys ≠ []->∃b o,a2=some ⟨b,o,none⟩∧∀j u,news[j]? = some u->w.cell? ((⟨b,o,none⟩:Addr).add j)=some u) (hsm:small (vs.length+ys.length)=true)
  (hv:K (Uy S i t0 e (vs++ys)) (.row S.nx)=some r) (hk:Hand B F w0 wr S.nt l ls d K r KK):OW P ⟨d,.call ⟨.builtin .append,#[x,y],#[t,t]⟩,ty,pos,af,gd⟩ l w KK Q:=by
 obtain⟨en,hg⟩:=hg;obtain⟨pre,post,a1,a3⟩:=qF hg;have e3:lx pl S.own=lx pl pre++plb pl i::lx pl post:=by rw[a1,iq]
 have hLd:LOk B (lx pl S.own) F w:=h.hL;rw[e3]at hLd hq hrow;refine ahm (jE hel).1 hr hx hy hLd hq (by rw[hb,fo hp]) hn2 hrow hcell hsm (fun a' n' c' w' hS hO=>?_);have hr2:=h.rep (p:=⟨a',n',c'⟩) (e':=.que t0 e (vs++ys)) a1 a3 hS ⟨_,gJ _,hO⟩;exact hk _ _ (.row S.nx) _ w' hr2 rfl ⟨⟨a',n',c'⟩,by rw[h.nx];simp,rfl⟩ hv
def Uz(P:Program)(S:St)(e:TypeId)(s1 s2:SV)(K:St->SV->Option R):Option R :=
 match s1 with
 | .row i=>match Oh S.own i,iD P e with
  | some ⟨t0,e0,xs⟩,some ⟨t1,_⟩=>if e0=e∧t1=t0 then match leaf (.sl t0) s2 with
   | some ys=>need (small (xs.length+ys.length)) (K (Uy S i t0 e (xs++ys)) (.row S.nx))
   | none=>(match s2 with
    | .row k=>(match Oh S.own k with
     | some ⟨t2,_,zs⟩=>(match fK (.sl t2) (.sl t0) zs with
      | some ys=>need (small (xs.length+List.length (show List (Vl t0) from ys))) (K (Uy S i t0 e (xs++(show List (Vl t0) from ys))) (.row S.nx))
      | none=>none)
     | none=>none)
    | _=>none) else none
  | _,_=>none
 | .sub i sz lo n=>match Oh S.own i,iD P e,s2 with
  | some ⟨t0,e0,xs⟩,some ⟨t1,_⟩,.sub i2 sz2 lo2 n2=>if e0=e∧t1=t0∧sz=t0.size∧sz2=t0.size∧i2=i then
    need (ge lo2 1) (need (small ((prt xs lo n).length+(prt xs lo2 n2).length)) (K (Uy S i t0 e (prt xs lo n++prt xs lo2 n2)) (.row S.nx))) else none
  | _,_,_=>none
 | _=>none
theorem RX(h:Rel B F w0 wr pl S l ls w){t e:TypeId}{n0:Nat}{x y:Operand}{s1 s2:SV}(hel:fq P t=some (e,n0))(hv:Uz P S e s1 s2 K=some r)(hx:Den pl (lx pl S.own++F) w s1 (ev l x))
  (hy:Den pl (lx pl S.own++F) w s2 (ev l y)) (hk:Hand B F w0 wr S.nt l ls d K r KK):OW P ⟨d,.call ⟨.builtin .append,#[x,y],#[t,t]⟩,ty,pos,af,gd⟩ l w KK Q:=by
 unfold Uz at hv;split at hv
 ·rename_i i
  split at hv
  ·rename_i t0 e0 xs t1 z hen hr
   split at hv
   ·rename_i he
    obtain⟨rfl,rfl⟩:=he;split at hv
    ·rename_i ys hys
     obtain⟨hsm,hv⟩:=bS hv;obtain⟨hg,p,hp,hq⟩:=DF h.ent hen;obtain⟨p',hp',hxv⟩:=hx;rw[hp]at hp';cases hp';have hy':=og (t:=.sl t1) rfl hys hy;obtain⟨a2,n2,c2,e2,hy'⟩:=q8 hy';have hn2:=wY hy';by_cases hne:ys=[]
     ·subst hne
      exact uR h hel (gy hr) hg hp hq rfl hxv e2 hn2 (news:=[]) rfl (fun hn=>absurd rfl hn) hsm hv hk
     ·obtain⟨b,o,cells,ha2,_,h3,h4⟩:=lN hy' hne
      exact uR h hel (gy hr) hg hp hq rfl hxv e2 hn2 h3 (fun _=>⟨b,o,ha2,h4⟩) hsm hv hk
    ·split at hv
     ·rename_i k
      split at hv
      ·rename_i t2 e2 zs hen2
       split at hv
       ·rename_i ys hc
        obtain⟨hsm,hv⟩:=bS hv;obtain⟨heq,hyeq⟩:=oM hc;cases heq;cases hyeq;obtain⟨hg,p,hp,hq⟩:=DF h.ent hen;obtain⟨p',hp',hxv⟩:=hx;rw[hp]at hp';cases hp';obtain⟨_,p2,hp2,hq2⟩:=DF h.ent hen2;obtain⟨p2',hp2',hyv⟩:=hy;rw[hp2]at hp2';cases hp2';by_cases hne:zs=[]
        ·exact uR h hel (gy hr) hg hp hq rfl hxv hyv hq2.1 (news:=[]) (by rw[hne];rfl) (fun hn=>absurd hne hn) hsm hv hk
        ·obtain⟨g,o,cells,ha2,h3,h4⟩:=Oq.cell hq2 hne
         exact uR h hel (gy hr) hg hp hq rfl hxv hyv hq2.1 h3 (fun _=>⟨g,o,ha2,fun j u hj=>by rw[Addr.add_lit'];exact h4 j u hj w rfl⟩) hsm hv hk
       ·cases hv
      ·cases hv
     ·cases hv
   ·cases hv
  ·cases hv
 ·rename_i i sz lo n
  split at hv
  ·rename_i t0 e0 xs t1 z i2 sz2 lo2 n2 hen hr
   split at hv
   ·rename_i he
    obtain⟨rfl,rfl,rfl,rfl,rfl⟩:=he;obtain⟨hlo,hv⟩:=bS hv;obtain⟨hsm,hv⟩:=bS hv;have hlo:1≤lo2:=of_decide_eq_true hlo;obtain⟨hg,p,hp,hq⟩:=DF h.ent hen;obtain⟨p',a,c,hp',q1,q2,q3,hxv,q5,q6,q7⟩:=hx;rw[hp]at hp';cases hp';obtain⟨p',a2,c2,hp',k1,k2,k3,hyv,k5,k6,k7⟩:=hy;rw[hp]at hp';cases hp';have hpc:p.c≠0:=by have:=hq.2.1;omega
    have hb:=q7 hpc;have hq1:=hq.sub (a':=a) (c':=c) q1 q2 q3 q5 (by rw[bV];exact q6) hb;have hq2:=hq.sub (a':=a2) (c':=c2) k1 k2 k3 k5 (by rw[bV];exact k6) (k7 hpc);by_cases hne:prt xs lo2 n2=[]
    ·exact uR h hel (gy hr) hg hp hq1 hb hxv hyv hq2.1 (news:=[]) (by rw[hne];rfl) (fun hn=>absurd hne hn) hsm hv hk
    ·obtain⟨g,o,cells,ha2,h3,h4⟩:=Oq.cell hq2 hne
     exact uR h hel (gy hr) hg hp hq1 hb hxv hyv hq2.1 h3 (fun _=>⟨g,o,ha2,fun j u hj=>by rw[Addr.add_lit'];exact h4 j u hj w rfl⟩) hsm hv hk
   ·cases hv
  ·cases hv
 ·cases hv
def UA(P:Program)(S:St)(t:TypeId)(s1 s2:SV)(K:St->SV->Option R):Option R :=
 match fq P t with
 | some (e,_)=>match s1 with
  | .k (.slice none 0 0)=>match iD P e with
   | some ⟨t0,_⟩=>Uz P { S with own:=(S.nx,.que t0 e [])::S.own,nx:=S.nx+1 } e (.row S.nx) s2 K
   | none=>none
  | s1=>Uz P S e s1 s2 K
 | none=>none
theorem abF(h:Rel B F w0 wr pl S l ls w){t:TypeId}{x y:Operand}{s1 s2:SV}(hv:UA P S t s1 s2 K=some r)(hx:Den pl (lx pl S.own++F) w s1 (ev l x))
  (hy:Den pl (lx pl S.own++F) w s2 (ev l y)) (hk:Hand B F w0 wr S.nt l ls d K r KK):OW P ⟨d,.call ⟨.builtin .append,#[x,y],#[t,t]⟩,ty,pos,af,gd⟩ l w KK Q:=by
 unfold UA at hv;split at hv
 ·rename_i e n0 hel
  split at hv
  ·split at hv
   ·rename_i t0 z hr
    have hS:Stp B (lx pl S.own) (blk (none:Option Addr)::lx pl S.own) F [] w w:=Stp.none h.hL rfl;have h':=h.push ⟨none,0,0⟩ (.que t0 e []) hS ⟨_,gJ _,Oq.of_ow (Ow.nil _ _ _ _)⟩;have hE:=Ext.of_stp (pl:=pl) (pl':=pl++[⟨none,0,0⟩]) hS (gZ _);have elx:lx (pl++[⟨none,0,0⟩]) ((S.nx,Ent.que t0 e [])::S.own)=blk (none:Option Addr)::lx pl S.own:=by have:=Dm (gZ (⟨none,0,0⟩:Place)) h.ent;unfold lx at this ⊢;rw[List.map_cons,this,h.nx,vB]
    have hxv:ev l x = .slice none 0 0:=hx;refine RX h' hel hv ⟨⟨none,0,0⟩,by rw[h.nx];exact gJ _,hxv⟩ ?_ hk;show Den _ (lx (pl++[⟨none,0,0⟩]) ((S.nx,Ent.que t0 e [])::S.own)++F) w s2 _;rw[elx];exact hy.ext hE
   ·cases hv
  ·exact RX h hel hv hx hy hk
 ·cases hv
theorem DenL.setv{L:Lx}:∀{cs:List SV} {us:List Value} {j:Nat} {s:SV} {u:Value},DenL pl L w cs us->us[j]? = some u->Den pl L w s u->DenL pl L w (cs.set j s) us
 | [],us,j,s,u,h,hj,hs=>by simp_all
 | c::q,us,0,s,u,⟨v,vs,h1,h2,h3⟩,hj,hs=>by subst h1;simp at hj;subst hj;exact⟨v,vs,rfl,hs,h3⟩
 | c::q,us,j+1,s,u,⟨v,vs,h1,h2,h3⟩,hj,hs=>by subst h1;exact⟨v,vs,rfl,h2,DenL.setv h3 (by simp_all) hs⟩
def UB(P:Program)(i j:Nat)(e:TypeId)(S:St):St:=match iD P e with
 | some ⟨t0,_⟩=>match get ((S.nx,Ent.que t0 e [])::S.own) i with
  | some (.box T cs)=>match cs[j]? with
   | some (.k (.slice none 0 0))=>{ S with own:=dP i (.box T (cs.set j (.row S.nx))) ((S.nx,.que t0 e [])::S.own),nx:=S.nx+1,log:=i::S.log }
   | _=>S
  | _=>S
 | none=>S
theorem ahn(h:Rel B F w0 wr pl S l ls w){i j:Nat}{e:TypeId}:∃pl',Rel B F w0 wr pl' (UB P i j e S) l ls w∧(UB P i j e S).nt=S.nt:=by
 unfold UB;split
 ·rename_i t0 z hr
  split
  ·rename_i T cs ho
   split
   ·rename_i hc
    have hS:Stp B (lx pl S.own) (blk (none:Option Addr)::lx pl S.own) F [] w w:=Stp.none h.hL rfl;have a:=h.push ⟨none,0,0⟩ (.que t0 e []) hS ⟨_,gJ _,Oq.of_ow (Ow.nil _ _ _ _)⟩;have ho':get ({ S with own:=(S.nx,Ent.que t0 e [])::S.own,nx:=S.nx+1 }:St).own i=some (.box T cs):=ho;obtain⟨g,n,c,us,h1,h2,h3,h4⟩:=a.ent (i,.box T cs) (get_mem ho');obtain⟨u,q1,q2⟩:=h3.at hc;have q2:u = .slice none 0 0:=q2;subst q2;have m:=a.told (e':=.box T (cs.set j (.row S.nx))) ho' ⟨g,n,c,us,h1,h2,h3.setv q1 (s:=.row S.nx) ⟨⟨none,0,0⟩,by rw[h.nx];simp,rfl⟩,h4⟩;exact⟨_,m,rfl⟩
   ·exact⟨_,h,rfl⟩
  ·exact⟨_,h,rfl⟩
 ·exact⟨_,h,rfl⟩
def abG(P:Program):Nat->TypeId->List TypeId
 | 0,t=>[t]
 | n+1,t=>match P.underlying t with
  | some (.struct fs)=>fs.toList.flatMap fun f=>abG P n f.type
  | some (.array m e)=>(List.range m).flatMap fun _=>abG P n e
  | _=>[t]
def Oi(P:Program)(q:TypeId->Bool)(i:Nat):Nat->List TypeId->St->St
 | _,[],S=>S
 | j,t::r,S=>Oi P q i (j+1) r (if q t=true then match fq P t with
  | some (e,_)=>UB P i j e S
  | none=>S else S)
theorem DI{q:TypeId->Bool}{i:Nat}:∀{r:List TypeId} {j:Nat} {pl:List Place} {S:St},Rel B F w0 wr pl S l ls w->∃pl',Rel B F w0 wr pl' (Oi P q i j r S) l ls w∧(Oi P q i j r S).nt=S.nt
 | [],j,pl,S,h=>⟨pl,h,rfl⟩
 | t::r,j,pl,S,h=>by
  unfold Oi;split
  ·split
   ·rename_i e n _
    obtain⟨pl1,h1,h2⟩:=ahn (P:=P) (i:=i) (j:=j) (e:=e) h;obtain⟨pl2,h3,h4⟩:=DI (r:=r) (j:=j+1) h1;exact⟨pl2,h3,h4.trans h2⟩
   ·exact DI h
  ·exact DI h
def Oj(P:Program)(q:TypeId->Bool):List Operand->St->St
 | [],S=>S
 | x::r,S=>Oj P q r (match opv S x with
  | some (.pb i 0)=>match get S.own i with
   | some (.box T _)=>Oi P q i 0 (abG P 6 T) S
   | _=>S
  | _=>S)
theorem DJ{q:TypeId->Bool}:∀{r:List Operand} {pl:List Place} {S:St},Rel B F w0 wr pl S l ls w->∃pl',Rel B F w0 wr pl' (Oj P q r S) l ls w∧(Oj P q r S).nt=S.nt
 | [],pl,S,h=>⟨pl,h,rfl⟩
 | x::r,pl,S,h=>by
  unfold Oj;split
  ·split
   ·obtain⟨pl1,h1,h2⟩:=DI (P:=P) (q:=q) (i:=_) (j:=0) (r:=_) h
    obtain⟨pl2,h3,h4⟩:=DJ (r:=r) h1;exact⟨pl2,h3,h4.trans h2⟩
   ·exact DJ h
  ·exact DJ h
end
end Ev
end
