/- Proved in the last of these 11 parts (this is part 4): StatusForward: whatever the records and the numbers that wait, the law returns true.. Conditions: those of the given statement, and no others. -/
import Derived.Test.YtlpbpoknpjgnbaaDoorPartc
import Derived.Maps.RangeRun
import Derived.ArgAppend
set_option linter.unusedVariables false
set_option linter.unusedSimpArgs false
set_option linter.unusedSectionVars false
section
namespace Ev
open Go Go.RowKit Sx
section
variable {R : Type} {B : Nat -> Prop} {F : Lx} {w0 : Bs} {wr : Wr} {pl pl' : List Place} {S S' : St} {l l' : List Value} {ls : List (List Value)} {w w' : World} {L L' M : Lx} {P : Program} {d : Option Tmp} {ty : TypeId} {pos : String} {af : Array Edge} {gd : Option (Nat × Bool)}
  {Q : Exit -> Act -> World -> Prop} {KK : List Value -> World -> Prop} {K : St -> SV -> Option R} {r : R}
def ptrEl (P : Program) (t : TypeId) : Option TypeId := match P.underlying t with
  | some (.pointer e) => some e
  | _ => none
theorem ptrEl_ok {t e : TypeId} (h : ptrEl P t = some e) : P.underlying t = some (.pointer e) := by unfold ptrEl at h; split at h <;> simp_all
def lSD (P : Program) (S : St) (ty : TypeId) (s : SV) (K : St -> SV -> Option R) : Option R :=
  match s with
  | .row i => match get S.own i, ptrEl P ty with
    | some (.row _ _ _), some _ => K S (.sd i)
    | _, _ => none
  | _ => none
theorem lSD_ok (h : Rel B F w0 wr pl S l ls w) {x : Operand} {ts : Array TypeId} {s : SV} (hv : lSD P S ty s K = some r) (hx : Den pl (lx pl S.own ++ F) w s (ev l x)) (hk : Hand B F w0 wr S.nt l ls d K r KK) :
    OW P ⟨d, .call ⟨.builtin .unsafeSliceData, #[x], ts⟩, ty, pos, af, gd⟩ l w KK Q := by
  unfold lSD at hv
  split at hv
  · rename_i i
    split at hv
    · rename_i t e xs e' hg hp
      obtain ⟨p, h1, h2⟩ := hx
      obtain ⟨p', h3, h4⟩ := h.ent _ (qw_ hg)
      rw [h1] at h3
      cases h3
      have hfin : ∀ q w', (Builtin.unsafeSliceData_ ts ty #[ev l x]).run P w = .ok (.pointer q) w' -> Fz [] w w' -> (p.n ≠ 0 -> q = p.a) -> OW P ⟨d, .call ⟨.builtin .unsafeSliceData, #[x], ts⟩, ty, pos, af, gd⟩ l w KK Q := fun q w' hr hf hq => by
        refine q55_ (v := .pointer q) (w' := w') ?_ (hk pl S (.sd i) _ w' (h.call hf) rfl ⟨p, q, h1, rfl, hq⟩ hv)
        simp only [execOp, resolve, invoke, builtin, Sem.run_bind, Sem.run_pure, Result.andThen_ok, List.map_toArray, List.map_cons, List.map_nil, hr]
      obtain ⟨hn, cells, h5, h6⟩ := h4
      rcases h5.2 with ⟨hv', h0⟩ | ⟨g, cap, cur, hv', _, hgg, hnc, _⟩
      · simp at hv'
        refine hfin none w ?_ (Fz.refl _ _) (fun hne => by rw [hv'.1])
        rw [h2, hv'.1]
        rfl
      · simp at hv'
        by_cases hc : p.c = 0
        · refine hfin (some ⟨w.heap.size, 0, none⟩) (w.alloc (.view ⟨g, 0, none⟩ e')) ?_ (Fz.alloc _ _ _) (fun hne => by omega)
          rw [h2, hv'.1, hc]
          exact Lib.run_unsafeSliceData_zero (P := P) w ts ty e' (ptrEl_ok hp) ⟨g, 0, none⟩ p.n (e, cur.size) (by simp [World.shape?, hgg])
        · refine hfin (some ⟨g, 0, none⟩) w ?_ (Fz.refl _ _) (fun _ => hv'.1.symm)
          rw [h2, hv'.1]
          exact Lib.run_unsafeSliceData_row (P := P) w ts ty ⟨g, 0, none⟩ p.n p.c hc
    · cases hv
  · cases hv
def u8s : List Int -> Bool
  | [] => true
  | x :: q => decide (0 ≤ x ∧ x ≤ 255) && u8s q
theorem u8s_ok : ∀ {xs : List Int}, u8s xs = true -> ∀ x ∈ xs, 0 ≤ x ∧ x ≤ 255
  | a :: q, h, x, hx => by
    simp only [u8s, Bool.and_eq_true, decide_eq_true_eq] at h
    rcases List.mem_cons.1 hx with hx | hx
    · subst hx; exact h.1
    · exact u8s_ok h.2 x hx
theorem run_unsafeStringI (pt it ty e : TypeId) (hp : P.underlying pt = some (.pointer e)) (hc : P.cellsOf e = 1) (g cells : Nat) (hsh : w.shape? g = some (e, cells)) (xs : List Int) (hu : u8s xs = true) (h0 : xs ≠ []) (hn : xs.length ≤ cells) (h63 : xs.length ≤ 9223372036854775807)
    (hcell : ∀ j x, xs[j]? = some x -> w.cell? ((⟨g, 0, none⟩ : Addr).add j) = some (.int .u8 x)) :
    (Builtin.unsafeString_ #[pt, it] ty #[.pointer (some ⟨g, 0, none⟩), .int .i64 xs.length]).run P w = .ok (.string ⟨⟨toS xs⟩⟩) (w.freeze ⟨g, 0, none⟩ xs.length) := by
  have hlen : (toS xs).length = xs.length := by simp [toS]
  have := Lib.run_unsafeString_row (P := P) w pt it ty e hp hc g cells hsh (toS xs) (fun e => h0 (by cases xs with
    | nil => rfl
    | cons a q => simp [toS] at e)) (by rw [hlen]; exact hn) (by rw [hlen]; exact h63) (fun j x hx => by
    unfold toS at hx
    rw [List.getElem?_map] at hx
    obtain ⟨z, hz, rfl⟩ := Option.map_eq_some_iff.1 hx
    have hb := u8s_ok hu z (List.mem_of_getElem? hz)
    rw [hcell j z hz]
    have : ((UInt8.ofNat z.toNat).toNat : Int) = z := by simp; omega
    rw [this])
  rw [hlen] at this
  exact this
def lUS (P : Program) (S : St) (pt : TypeId) (s n : SV) (K : St -> SV -> Option R) : Option R :=
  match s, n with
  | .sd i, .d (.int .i64) k => match get S.own i, ptrEl P pt with
    | some (.row (.int .u8) e xs), some e' => if e' = e ∧ P.cellsOf e = 1 then need (eqi k (xs.length : Int)) (need (small xs.length) (need (u8s xs) (K { S with own := rid i S.own, log := i :: S.log } (.d .str (toS xs))))) else none
    | _, _ => none
  | _, _ => none
theorem Fz.freeze (w : World) (a : Addr) (n : Nat) : Fz [some a.block] w (w.freeze a n) := by
  refine ⟨?_, ?_, ?_, ?_, fun k hk hn => ?_⟩
  · unfold World.freeze; split <;> rfl
  · unfold World.freeze; split <;> rfl
  · unfold World.freeze; split <;> rfl
  · unfold World.freeze; split <;> simp
  · unfold World.freeze
    split
    · rfl
    · have : a.block ≠ k := fun e => hn (by simp [e])
      simp [Array.getElem?_modify, this]
theorem lUS_ok (h : Rel B F w0 wr pl S l ls w) {x y : Operand} {pt it : TypeId} {s n : SV} (hv : lUS P S pt s n K = some r) (hx : Den pl (lx pl S.own ++ F) w s (ev l x)) (hy : Den pl (lx pl S.own ++ F) w n (ev l y)) (hk : Hand B F w0 wr S.nt l ls d K r KK) :
    OW P ⟨d, .call ⟨.builtin .unsafeString, #[x, y], #[pt, it]⟩, ty, pos, af, gd⟩ l w KK Q := by
  unfold lUS at hv
  split at hv
  · rename_i i k
    split at hv
    · rename_i e xs e' hg hp
      split at hv
      · rename_i hc
        obtain ⟨rfl, hc⟩ := hc
        obtain ⟨hkl, hv⟩ := q1p_ hv
        obtain ⟨hsm, hv⟩ := q1p_ hv
        obtain ⟨hu8, hv⟩ := q1p_ hv
        have hsm := small_le hsm
        have hkl : k = (xs.length : Int) := by simpa [eqi] using hkl
        obtain ⟨p, q, h1, h2, h3⟩ := hx
        obtain ⟨p', h4, h5⟩ := h.ent _ (qw_ hg)
        rw [h1] at h4
        cases h4
        have hn := h5.len
        have hy := q7v_ hy
        obtain ⟨pre, post, q1, q2⟩ := rid_split hg
        obtain ⟨pre', post', q3, q4⟩ := get_split hg
        have hmem : plb pl i ∈ lx pl S.own := List.mem_map_of_mem (f := fun e : Nat × Ent => plb pl e.1) (qw_ hg)
        have hfin : ∀ w', (Builtin.unsafeString_ #[pt, it] ty #[ev l x, ev l y]).run P w = .ok (.string ⟨⟨toS xs⟩⟩) w' -> Fz [plb pl i] w w' -> OW P ⟨d, .call ⟨.builtin .unsafeString, #[x, y], #[pt, it]⟩, ty, pos, af, gd⟩ l w KK Q := fun w' hr hf => by
          have hsub : List.Sublist (lx pl (rid i S.own)) (lx pl S.own) := lx_sub (rid_sub i S.own)
          have hS : Stp B (lx pl S.own) (lx pl (rid i S.own)) F [plb pl i] w w' := ⟨hf, fun k hk => by
            simp at hk
            rw [hk]
            exact hmem, Sub.of_subset (fun _ hk => (hsub.append (List.Sublist.refl F)).subset hk), (h.hL.drop hsub).step hf.size⟩
          have hL := h.hL
          have hrel := h.go (M := [plb pl i]) (pl' := pl) (S' := { S with own := rid i S.own, log := i :: S.log }) hS (fun _ _ h => h) h.nx (Nat.le_refl _) rfl rfl rfl (fun j hj => List.mem_cons_of_mem _ hj) (fun e he => by
            have he : e ∈ rid i S.own := he
            rw [q2] at he
            rw [q1] at hL
            refine .inl ⟨by rw [q1]; rcases List.mem_append.1 he with he | he <;> simp [he], others hL (List.mem_append.1 he)⟩)
          refine q55_ (v := .string ⟨⟨toS xs⟩⟩) (w' := w') ?_ (hk pl _ _ _ w' hrel rfl (den_s _) hv)
          simp only [execOp, resolve, invoke, builtin, Sem.run_bind, Sem.run_pure, Result.andThen_ok, List.map_toArray, List.map_cons, List.map_nil, hr]
        by_cases h0 : xs = []
        · subst h0
          refine hfin w ?_ (Fz.refl _ _)
          rw [h2, hy, hkl]
          exact Lib.run_unsafeString_none (P := P) w pt it ty q
        · have hpos : 0 < xs.length := List.length_pos_iff.2 h0
          have hq := h3 (by omega)
          obtain ⟨g, hga⟩ := h5.addr (i := 0) (by omega)
          obtain ⟨pa, pn, pc⟩ := p
          simp only at hga hq h5 hn
          subst hga
          subst hq
          obtain ⟨_, cells, h6, h7⟩ := h5
          have hcells : ∀ j z, xs[j]? = some z -> w.cell? ((⟨g, 0, none⟩ : Addr).add j) = some (.int .u8 z) := fun j z hj => by
            obtain ⟨pre0, d0, post0, e2, e3, e4, _⟩ := h7.at hj
            have e4 : d0 = [.int .u8 z] := e4
            subst e4
            refine h6.cells (g := g) rfl j _ ?_
            rw [e2]
            have e3 : pre0.length = j := by rw [e3, q12_]; simp [Ty.size]
            rw [List.append_assoc, List.getElem?_append_right (by omega), e3, Nat.sub_self]
            rfl
          have hshape : ∃ m, w.shape? g = some (e', m) ∧ xs.length ≤ m := by
            rcases h6.2 with ⟨hv', _⟩ | ⟨g', cap, cur, hv', _, hgg, hnc, _, hcs, _⟩
            · simp at hv'
            · simp at hv'
              obtain ⟨rfl, rfl⟩ := hv'
              refine ⟨cur.size, by simp [World.shape?, hgg], ?_⟩
              rw [hcs, q12_]
              simp [Ty.size]
              exact hnc
          obtain ⟨m, hsh, hm⟩ := hshape
          refine hfin (w.freeze ⟨g, 0, none⟩ xs.length) ?_ (by rw [q41_ h1]; exact Fz.freeze w ⟨g, 0, none⟩ _)
          rw [h2, hy, hkl]
          exact run_unsafeStringI pt it ty e' (ptrEl_ok hp) hc g m hsh xs hu8 h0 hm (by omega) hcells
      · cases hv
    · cases hv
  · cases hv
inductive Xk where
  | ibs
  | noesc
  | cnt
theorem nx_empty : Extern.allNextRows.lookup "" = none := by kernel_rfl
def nmI : String := match Extern.BytealgIndexByte.rows with
  | _ :: x :: _ => x.1
  | _ => ""
def nmN : String := match Extern.AbiNoEscape.rows with
  | x :: _ => x.1
  | _ => ""
def nmC : String := match Extern.BytealgCount.rows with
  | _ :: x :: _ => x.1
  | _ => ""
theorem nx_cnt : Extern.allNextRows.lookup nmC = none := by kernel_rfl
theorem nx_ibs : Extern.allNextRows.lookup nmI = none := by kernel_rfl
theorem nx_noe : Extern.allNextRows.lookup nmN = none := by kernel_rfl
def xk (P : Program) (f : FuncId) : Option Xk := match P.funcs[f]? with
  | some fn => if fn.body.isNone = true ∧ fn.origin = "" then (if fn.name = nmI then some .ibs else if fn.name = nmN then some .noesc else if fn.name = nmC then some .cnt else none) else none
  | none => none
theorem find_ibs {fn : Func} (hn : fn.name = nmI) (ho : fn.origin = "") : Extern.find fn = some Extern.BytealgIndexByte.indexByte ∧ Extern.findNext fn = none := by
  constructor
  · unfold Extern.find
    rw [hn, ho]
    kernel_rfl
  · unfold Extern.findNext
    rw [hn, ho]
    simp only [nx_ibs, nx_empty]
    rfl
theorem find_noe {fn : Func} (hn : fn.name = nmN) (ho : fn.origin = "") : Extern.find fn = some Extern.AbiNoEscape.same ∧ Extern.findNext fn = none := by
  constructor
  · unfold Extern.find
    rw [hn, ho]
    kernel_rfl
  · unfold Extern.findNext
    rw [hn, ho]
    simp only [nx_noe, nx_empty]
    rfl
theorem find_cnt {fn : Func} (hn : fn.name = nmC) (ho : fn.origin = "") : Extern.find fn = some Extern.BytealgCount.count ∧ Extern.findNext fn = none := by
  constructor
  · unfold Extern.find
    rw [hn, ho]
    kernel_rfl
  · unfold Extern.findNext
    rw [hn, ho]
    simp only [nx_cnt, nx_empty]
    rfl
def lExt (k : Xk) (S : St) (args : List SV) (K : St -> SV -> Option R) : Option R :=
  match k with
  | .ibs => match args with
    | [.d .str s, .d (.int .u8) c] => K S (.d (.int .i64) (Lib.indexByte s (u8 c)))
    | _ => none
  | .cnt => match args with
    | [.d .str s, .d (.int .u8) c] => K S (.d (.int .i64) (Int.ofNat (cntB s (u8 c))))
    | _ => none
  | .noesc => match args with
    | [s] => K S s
    | _ => none
theorem lExt_ok (h : Rel B F w0 wr pl S l ls w) {f : FuncId} {args : Array Operand} {ts : Array TypeId} {k : Xk} {ss : List SV} (hf : xk P f = some k) (hs : opvs S args.toList = some ss) (hv : lExt k S ss K = some r) (hk : Hand B F w0 wr S.nt l ls d K r KK) :
    OW P ⟨d, .call ⟨.value (.func f), args, ts⟩, ty, pos, af, gd⟩ l w KK Q := by
  have hd := opvs_den h.fr hs
  have hargs : args.map (ev l) = (args.toList.map (ev l)).toArray := by apply Array.ext'; simp
  unfold xk at hf
  split at hf
  · rename_i fn hfn
    split at hf
    · rename_i hb
      obtain ⟨hb, ho⟩ := hb
      split at hf
      · rename_i hn
        cases hf
        obtain ⟨x1, x2⟩ := find_ibs hn ho
        simp only [lExt] at hv
        split at hv
        · rename_i s c
          obtain ⟨u1, us, e1, d1, u2, us2, e2, d2, e3⟩ := hd
          cases e3
          subst e2
          rw [e1] at hargs
          have d1 := den_str d1
          have d2 := q7v_ d2
          have hc : (callFunc f (args.map (ev l))).run P w = .ok (.value (.int .i64 (Lib.indexByte s c.toNat.toUInt8))) w := by
            rw [hargs, d1, d2, run_callFunc_extern hfn (by rw [hn]; rfl) hb x2 x1, Lib.run_indexByteString (P := P) ⟨⟨s⟩⟩ c w, Result.andThen_ok]
          refine q55_ (v := .int .i64 (Lib.indexByte s c.toNat.toUInt8)) (w' := w) ?_ (hk pl S _ _ w h rfl (den_i _ _) hv)
          simpa [execOp, resolve, ev, Deferred.ofValue, invoke] using hc
        · cases hv
      · split at hf
        · rename_i hn
          cases hf
          obtain ⟨x1, x2⟩ := find_noe hn ho
          simp only [lExt] at hv
          split at hv
          · rename_i s
            obtain ⟨u1, us, e1, d1, e3⟩ := hd
            cases e3
            rw [e1] at hargs
            have hc : (callFunc f (args.map (ev l))).run P w = .ok (.value u1) w := by
              rw [hargs, run_callFunc_extern hfn (by rw [hn]; rfl) hb x2 x1, Lib.run_noEscape, Result.andThen_ok]
            refine q55_ (v := u1) (w' := w) ?_ (hk pl S _ _ w h rfl d1 hv)
            simpa [execOp, resolve, ev, Deferred.ofValue, invoke] using hc
          · cases hv
        · split at hf
          · rename_i hn
            cases hf
            obtain ⟨x1, x2⟩ := find_cnt hn ho
            simp only [lExt] at hv
            split at hv
            · rename_i s c
              obtain ⟨u1, us, e1, d1, u2, us2, e2, d2, e3⟩ := hd
              cases e3
              subst e2
              rw [e1] at hargs
              have d1 := den_str d1
              have d2 := q7v_ d2
              have hc : (callFunc f (args.map (ev l))).run P w = .ok (.value (.int .i64 (Int.ofNat (cntB s (u8 c))))) w := by
                rw [hargs, d1, d2, run_callFunc_extern hfn (by rw [hn]; rfl) hb x2 x1, Lib.run_countString (P := P) ⟨⟨s⟩⟩ c w, Result.andThen_ok]
                rfl
              refine q55_ (v := .int .i64 (Int.ofNat (cntB s (u8 c)))) (w' := w) ?_ (hk pl S _ _ w h rfl (den_i _ _) hv)
              simpa [execOp, resolve, ev, Deferred.ofValue, invoke] using hc
            · cases hv
          · cases hf
    · cases hf
  · cases hf
def mth (P : Program) (t : TypeId) (name : String) : Option FuncId :=
  match P.info? t, P.underlying t with
  | some ti, some dd => match ti.methods.find? (·.name == name) with
    | some m => if m.path.isEmpty = true then match m.func with
      | some (f, ptr) => match dd with
        | .pointer _ => if ptr = true then some f else none
        | _ => if ptr = false then some f else none
      | none => none
      else none
    | none => none
  | _, _ => none
theorem run_method {t : TypeId} {v : Value} {name : String} {f : FuncId} {n : Nat} (h : mth P t name = some f) : (method (n + 1) t v name).run P w = .ok (f, v) w := by
  unfold mth at h
  split at h
  · rename_i ti dd h1 h2
    split at h
    · rename_i m hm
      split at h
      · rename_i hp
        split at h
        · rename_i f' ptr hfn
          have hpath : m.path = #[] := by simpa using hp
          have hti : (typeInfo t).run P w = .ok ti w := by simp [typeInfo, h1, Sem.run]
          split at h
          · rename_i e
            split at h
            · rename_i hptr
              cases h
              subst hptr
              simp [method, hti, hm, hpath, follow, hfn, receiverAt, run_underlying h2, Go.Place.get, Sem.run_pure]
            · cases h
          · rename_i hnp
            split at h
            · rename_i hptr
              cases h
              subst hptr
              have hr : ∀ wr, (receiverAt t (.val v) false wr).run P w = .ok v w := fun wr => by
                cases dd with
                | pointer e => exact absurd rfl (hnp e)
                | _ => simp [receiverAt, run_underlying h2, Go.Place.get, Sem.run_pure]
              simp [method, hti, hm, hpath, follow, hfn, hr, Sem.run_pure]
            · cases h
        · cases h
      · cases h
    · cases h
  · cases h
def gInv (P : Program) (x : Operand) (name : String) (args : List Operand) : Gt := fun S => match opv S x, opvs S args with
  | some (.ifc t v), some ss => match mth P t name with
    | some f => if fnOk P f = true then some (f, v :: ss) else none
    | none => none
  | _, _ => none
theorem gInv_ok {x : Operand} {name : String} {args : Array Operand} {ts : Array TypeId} : GtOk P l ⟨d, .call ⟨.invoke x name, args, ts⟩, ty, pos, af, gd⟩ w (gInv P x name args.toList) := fun pl L S f ss hf hg => by
  unfold gInv at hg
  split at hg
  · rename_i t v ss' h1 h2
    split at hg
    · rename_i f' hm
      split at hg
      · rename_i hfn
        cases hg
        obtain ⟨u, h3, h4⟩ := qm_ hf h1
        have h5 := opvs_den hf h2
        refine ⟨u :: args.toList.map (ev l), ⟨u, _, rfl, h3, h5⟩, ?_⟩
        obtain ⟨fn, q1, q2, q3⟩ := fnOk_ok hfn
        have hn' : fn.name ≠ "runtime.NumGoroutine" := by simpa using q2
        have hb' : fn.body ≠ none := by intro e; rw [e] at q3; simp at q3
        have hcall : ∀ as, (callFunc f as).run P w = .ok (.enter f as) w := fun as => by simp [callFunc, q1, hn', hb']
        have hmr := run_method (P := P) (w := w) (v := u) (n := P.types.size + Made.depth - 1) hm
        have hdep : P.types.size + Made.depth - 1 + 1 = P.types.size + Made.depth := by simp [Made.depth]
        rw [hdep] at hmr
        have e1 : (#[Value.iface t u] ++ args.map (ev l)).extract 1 (#[Value.iface t u] ++ args.map (ev l)).size = args.map (ev l) := by
          apply Array.ext'
          simp
          exact List.take_of_length_le (by simp)
        have e2 : #[u] ++ args.map (ev l) = (u :: args.toList.map (ev l)).toArray := Array.ext' (by rw [Array.toList_append, Array.toList_map]; rfl)
        have hinv : (invoke (.fn (.method name) #[]) (#[Value.iface t u] ++ args.map (ev l))).run P w = .ok (.enter f (u :: args.toList.map (ev l)).toArray) w := by
          have h0 : (#[Value.iface t u] ++ args.map (ev l))[0]? = some (.iface t u) := by rw [Array.getElem?_append_left (by simp)]; rfl
          unfold invoke
          simp only [h0, e1]
          unfold callMethod
          simp only [Sem.run_bind, run_program, Result.andThen_ok, hmr, e2, hcall]
        simp only [execOp, resolve, Sem.run_bind, Sem.run_pure, Result.andThen_ok, h4, hinv]
      · cases hg
    · cases hg
  · cases hg
end
end Ev
end
section
namespace Ev
open Go Go.RowKit Sx Go.MapKept
def dget (kt : Ty) {V : Type} : List (Vl kt × V) -> Vl kt -> Option V
  | [], _ => none
  | (a, b) :: r, k => if keq kt a k = true then some b else dget kt r k
def dput (kt : Ty) {V : Type} : List (Vl kt × V) -> Vl kt -> V -> List (Vl kt × V)
  | [], k, v => [(k, v)]
  | (a, b) :: r, k, v => if keq kt a k = true then (a, v) :: r else (a, b) :: dput kt r k v
def ddel (kt : Ty) {V : Type} : List (Vl kt × V) -> Vl kt -> List (Vl kt × V)
  | [], _ => []
  | (a, b) :: r, k => if keq kt a k = true then r else (a, b) :: ddel kt r k
def leafT : Ty -> Bool
  | .int _ => true
  | .str => true
  | .bool => true
  | _ => false
def keyB : Ty -> Bool
  | .pr a b => leafT a && keyB b
  | .int _ => true
  | .str => true
  | .bool => true
  | _ => false
def keyT : Ty -> Bool
  | .int _ => true
  | .str => true
  | .pr a b => leafT a && keyB b
  | _ => false
theorem keyB_of : ∀ {t : Ty}, leafT t = true -> keyB t = true
  | .int _, _ => rfl
  | .str, _ => rfl
  | .bool, _ => rfl
theorem keyT_B : ∀ {t : Ty}, keyT t = true -> keyB t = true
  | .int _, _ => rfl
  | .str, _ => rfl
  | .pr _ _, h => h
theorem keq_self : ∀ {t : Ty}, keyB t = true -> ∀ x : Vl t, keq t x x = true
  | .int _, _, x => by simp [keq, eqi]
  | .str, _, x => by simp [keq, eqs]
  | .bool, _, x => by simp [keq, eqb]
  | .pr a b, h, x => by
    have h : (leafT a && keyB b) = true := h
    rw [Bool.and_eq_true] at h
    simp only [keq, keq_self (keyB_of h.1), keq_self h.2, Bool.and_self]
theorem keq_iff {t : Ty} (ht : keyT t = true) (x y : Vl t) : keq t x y = true ↔ x = y :=
  ⟨keq_ok, fun h => by subst h; exact keq_self (keyT_B ht) x⟩
theorem keyC_leaf : ∀ {t : Ty}, leafT t = true -> ∀ x : Vl t, ∃ v, keyC t x = [v]
  | .int _, _, _ => ⟨_, rfl⟩
  | .str, _, _ => ⟨_, rfl⟩
  | .bool, _, _ => ⟨_, rfl⟩
theorem keyC_inj : ∀ {t : Ty}, keyB t = true -> ∀ x y : Vl t, keyC t x = keyC t y -> x = y
  | .int _, _, x, y, h => by simpa [keyC] using h
  | .str, _, x, y, h => by simpa [keyC, strv] using h
  | .bool, _, x, y, h => by simpa [keyC] using h
  | .pr a b, hb, x, y, h => by
    have hb : (leafT a && keyB b) = true := hb
    rw [Bool.and_eq_true] at hb
    obtain ⟨u, hu⟩ := keyC_leaf hb.1 x.1
    obtain ⟨v, hv⟩ := keyC_leaf hb.1 y.1
    have h : keyC a x.1 ++ keyC b x.2 = keyC a y.1 ++ keyC b y.2 := h
    rw [hu, hv] at h
    simp only [List.cons_append, List.nil_append, List.cons.injEq] at h
    exact Prod.ext (keyC_inj (keyB_of hb.1) _ _ (by rw [hu, hv, h.1])) (keyC_inj hb.2 _ _ h.2)
theorem keyC_isKey : ∀ {t : Ty}, keyB t = true -> ∀ x : Vl t, ∀ v ∈ keyC t x, ∃ d, IsKey d v
  | .int k, _, x, v, h => ⟨.int k, by simp [keyC] at h; subst h; rfl⟩
  | .str, _, x, v, h => ⟨.string, by simp [keyC, strv] at h; subst h; trivial⟩
  | .bool, _, x, v, h => ⟨.bool, by simp [keyC] at h; subst h; trivial⟩
  | .pr a b, hb, x, v, h => by
    have hb : (leafT a && keyB b) = true := hb
    rw [Bool.and_eq_true] at hb
    rcases List.mem_append.1 (show v ∈ keyC a x.1 ++ keyC b x.2 from h) with h | h
    · exact keyC_isKey (keyB_of hb.1) _ _ h
    · exact keyC_isKey hb.2 _ _ h
def leafK (P : Program) (t : TypeId) (y : Ty) : Bool := match P.underlying t with
  | some (.int k) => match y with
    | .int k' => decide (k' = k)
    | _ => false
  | some .string => match y with
    | .str => true
    | _ => false
  | some .bool => match y with
    | .bool => true
    | _ => false
  | _ => false
theorem leafK_ok {P : Program} {t : TypeId} {y : Ty} (h : leafK P t y = true) : ∃ dd, P.underlying t = some dd ∧ aggD dd = false ∧ leafT y = true ∧
    (∀ (x : Vl y) (v : Value), keyC y x = [v] -> ∀ e n w, (Instr.checkKey e (n + 1) t v).run P w = .ok () w) ∧
    ∀ (x x' : Vl y) (v v' : Value), keyC y x = [v] -> keyC y x' = [v'] -> ∀ d, ∃ r, (∀ w, (Op.equalIn (d + 1) t v v').run P w = .ok r w) ∧ (r = true ↔ x = x') := by
  unfold leafK at h
  split at h
  · rename_i k hk
    split at h
    · rename_i k'
      have : k' = k := of_decide_eq_true h
      subst this
      refine ⟨_, hk, rfl, rfl, fun x v hv e n w => ?_, fun x x' v v' hv hv' d => ?_⟩
      · have hv : [Value.int k' x] = [v] := hv
        cases hv
        exact run_checkKey (k := .int k' x) hk rfl e n
      · have hv : [Value.int k' x] = [v] := hv
        have hv' : [Value.int k' x'] = [v'] := hv'
        cases hv
        cases hv'
        exact ⟨_, eq_int hk, by simp [eqi]⟩
    · cases h
  · rename_i hk
    split at h
    · refine ⟨_, hk, rfl, rfl, fun x v hv e n w => ?_, fun x x' v v' hv hv' d => ?_⟩
      · have hv : [strv x] = [v] := hv
        cases hv
        exact run_checkKey (k := strv x) hk trivial e n
      · have hv : [strv x] = [v] := hv
        have hv' : [strv x'] = [v'] := hv'
        cases hv
        cases hv'
        exact ⟨_, eq_str hk, by simp [eqs]⟩
    · cases h
  · rename_i hk
    split at h
    · refine ⟨_, hk, rfl, rfl, fun x v hv e n w => ?_, fun x x' v v' hv hv' d => ?_⟩
      · have hv : [Value.bool x] = [v] := hv
        cases hv
        exact run_checkKey (k := Value.bool x) hk trivial e n
      · have hv : [Value.bool x] = [v] := hv
        have hv' : [Value.bool x'] = [v'] := hv'
        cases hv
        cases hv'
        exact ⟨_, eq_bool hk, by simp [eqb]⟩
    · cases h
  · cases h
def fieldsK (P : Program) : Nat -> List Field -> Ty -> Bool
  | _, [], _ => false
  | off, f :: q, y => decide (f.name ≠ "_") && (decide (f.offset = off) && match y, q with
    | .pr a b, q => leafK P f.type a && fieldsK P (off + 1) q b
    | y, [] => leafK P f.type y
    | _, _ => false)
theorem drop_one {us : List Value} {off : Nat} {v : Value} {r : List Value} (h : us.drop off = v :: r) : us[off]? = some v ∧ us.drop (off + 1) = r := by
  constructor
  · have := congrArg (·[0]?) h
    simpa using this
  · rw [<- List.drop_drop, h]
    rfl
theorem fieldsK_cons {P : Program} {off : Nat} {f : Field} {q : List Field} {y : Ty} (h : fieldsK P off (f :: q) y = true) : f.name ≠ "_" ∧ f.offset = off ∧
    ((∃ a b, y = .pr a b ∧ leafK P f.type a = true ∧ fieldsK P (off + 1) q b = true) ∨ (q = [] ∧ leafK P f.type y = true)) := by
  unfold fieldsK at h
  rw [Bool.and_eq_true, Bool.and_eq_true, decide_eq_true_eq, decide_eq_true_eq] at h
  obtain ⟨h1, h2, h3⟩ := h
  refine ⟨h1, h2, ?_⟩
  split at h3
  · rw [Bool.and_eq_true] at h3
    exact .inl ⟨_, _, rfl, h3.1, h3.2⟩
  · exact .inr ⟨rfl, h3⟩
  · cases h3
theorem all_fields {P : Program} {d : Nat} {xs ys : Array Value} : ∀ (fs : List Field) (off : Nat) (y : Ty) (x x' : Vl y), fieldsK P off fs y = true -> xs.toList.drop off = keyC y x -> ys.toList.drop off = keyC y x' ->
    ∃ r, AllEq P (d + 1) xs ys (fs.map fun f => (f.name == "_", f.type, f.offset)) r ∧ (r = true ↔ x = x')
  | [], _, _, _, _, h, _, _ => by cases h
  | f :: q, off, y, x, x', h, hx, hy => by
    obtain ⟨h1, h2, h3⟩ := fieldsK_cons h
    have h1 : (f.name == "_") = false := by simpa using h1
    rw [List.map_cons, h1, h2]
    rcases h3 with ⟨a, b, rfl, h4, h5⟩ | ⟨rfl, h4⟩
    · obtain ⟨dd, e1, e2, e3, _, e5⟩ := leafK_ok h4
      obtain ⟨u, hu⟩ := keyC_leaf e3 x.1
      obtain ⟨v, hv⟩ := keyC_leaf e3 x'.1
      have hx : xs.toList.drop off = keyC a x.1 ++ keyC b x.2 := hx
      have hy : ys.toList.drop off = keyC a x'.1 ++ keyC b x'.2 := hy
      rw [hu] at hx
      rw [hv] at hy
      obtain ⟨g1, g2⟩ := drop_one hx
      obtain ⟨g3, g4⟩ := drop_one hy
      obtain ⟨r, i1, i2⟩ := all_fields (d := d) q (off + 1) b x.2 x'.2 h5 g2 g4
      obtain ⟨r0, j1, j2⟩ := e5 x.1 x'.1 u v hu hv d
      refine ⟨r0 && r, .cons (part_leaf e1 e2 (by simpa using g1)) (part_leaf e1 e2 (by simpa using g3)) j1 i1, ?_⟩
      rw [Bool.and_eq_true, j2, i2]
      exact ⟨fun e => Prod.ext e.1 e.2, fun e => by rw [e]; exact ⟨rfl, rfl⟩⟩
    · obtain ⟨dd, e1, e2, e3, _, e5⟩ := leafK_ok h4
      obtain ⟨u, hu⟩ := keyC_leaf e3 x
      obtain ⟨v, hv⟩ := keyC_leaf e3 x'
      rw [hu] at hx
      rw [hv] at hy
      obtain ⟨g1, g2⟩ := drop_one hx
      obtain ⟨g3, g4⟩ := drop_one hy
      obtain ⟨r0, j1, j2⟩ := e5 x x' u v hu hv d
      refine ⟨r0 && true, .cons (part_leaf e1 e2 (by simpa using g1)) (part_leaf e1 e2 (by simpa using g3)) j1 .nil, ?_⟩
      rw [Bool.and_true, j2]
theorem chk_struct {P : Program} {kt : TypeId} {fs : Array Field} {y : Ty} (hs : P.underlying kt = some (.struct fs)) (hf : fieldsK P 0 fs.toList y = true) (x : Vl y) (e : Bool) (w : World) : (Instr.checkKey e 10000 kt (.agg (keyC y x).toArray)).run P w = .ok () w := by
  rw [show (10000 : Nat) = 9998 + 1 + 1 from rfl, Instr.checkKey]
  simp only [Sem.run_bind, run_underlying hs, Result.andThen_ok]
  rw [<- Array.forIn_toList]
  have hx : (keyC y x).toArray.toList.drop 0 = keyC y x := rfl
  generalize (keyC y x).toArray = us at hx
  generalize fs.toList = L at hf
  generalize 0 = off at hf hx
  induction L generalizing off y with
  | nil => simp
  | cons f L ih =>
    obtain ⟨h1, h2, h3⟩ := fieldsK_cons hf
    rcases h3 with ⟨a, b, rfl, h4, h5⟩ | ⟨rfl, h4⟩
    · obtain ⟨dd, e1, e2, e3, e4, _⟩ := leafK_ok h4
      obtain ⟨u, hu⟩ := keyC_leaf e3 x.1
      have hx : us.toList.drop off = keyC a x.1 ++ keyC b x.2 := hx
      rw [hu] at hx
      obtain ⟨g1, g2⟩ := drop_one hx
      have p1 := part_leaf e1 e2 (xs := us) (off := f.offset) (v := u) (by rw [h2]; simpa using g1) w
      have p2 := e4 x.1 u hu e 9998 w
      simp only [List.forIn_cons, Sem.run_bind, h1, ne_eq, not_false_eq_true, if_true, Result.andThen_ok, p1, p2, Sem.run_pure]
      exact ih x.2 (off + 1) h5 g2
    · obtain ⟨dd, e1, e2, e3, e4, _⟩ := leafK_ok h4
      obtain ⟨u, hu⟩ := keyC_leaf e3 x
      rw [hu] at hx
      obtain ⟨g1, g2⟩ := drop_one hx
      have p1 := part_leaf e1 e2 (xs := us) (off := f.offset) (v := u) (by rw [h2]; simpa using g1) w
      have p2 := e4 x u hu e 9998 w
      simp only [List.forIn_cons, Sem.run_bind, h1, ne_eq, not_false_eq_true, if_true, Result.andThen_ok, p1, p2, Sem.run_pure, List.forIn_nil]
theorem qnc_ {P : Program} {kt : TypeId} {K : Type} {kv : K -> Value} (heq : ∀ a b, ∃ r : Bool, (∀ w, (Op.equal kt (kv a) (kv b)).run P w = .ok r w) ∧ (r = true ↔ a = b)) (hinj : ∀ a b, kv a = kv b -> a = b) (w : World) (k : K) : ∀ (es : List MapEntry) (i : Nat), (∀ x ∈ es, ∃ a, x.key = kv a) ->
    ((Instr.findAsking kt (kv k) es i).run P w = .ok none w ∧ ∀ x ∈ es, x.key ≠ kv k) ∨ ∃ j e, (Instr.findAsking kt (kv k) es i).run P w = .ok (some (i + j, e.val)) w ∧ es[j]? = some e ∧ e.key = kv k
  | [], i, _ => .inl ⟨by simp [Instr.findAsking], by simp⟩
  | e :: es, i, h => by
    obtain ⟨a, ha⟩ := h e (by simp)
    obtain ⟨r, h1, h2⟩ := heq k a
    unfold Instr.findAsking
    rw [Sem.run_bind, ha, h1, Result.andThen_ok]
    by_cases hr : r = true
    · have := h2.1 hr
      subst this
      refine .inr ⟨0, e, ?_, rfl, ha⟩
      rw [hr]
      simp
    · have hne : k ≠ a := fun e => hr (h2.2 e)
      rw [if_neg hr]
      rcases qnc_ heq hinj w k es (i + 1) (fun x hx => h x (List.mem_cons_of_mem _ hx)) with ⟨q1, q2⟩ | ⟨j, e', q1, q2, q3⟩
      · refine .inl ⟨q1, fun x hx => ?_⟩
        rcases List.mem_cons.1 hx with rfl | hx
        · rw [ha]; exact fun e => hne (hinj _ _ e).symm
        · exact q2 x hx
      · exact .inr ⟨j + 1, e', by rw [q1]; congr 3; omega, by simpa using q2, q3⟩
theorem bits_self : ∀ {l : List Value}, (∀ v ∈ l, ∃ d, IsKey d v) -> ∀ n, ((l.zip l).all fun x => Instr.sameBits n x.1 x.2) = true
  | [], _, _ => rfl
  | v :: l, h, n => by
    obtain ⟨d, hd⟩ := h v (by simp)
    rw [List.zip_cons_cons, List.all_cons, sameBits_self hd, bits_self (fun u hu => h u (List.mem_cons_of_mem _ hu)) n]
    rfl
theorem Kp.fields {P : Program} {kt : TypeId} {fs : Array Field} {a b : Ty} (hs : P.underlying kt = some (.struct fs)) (hp : P.stoodInHeld kt = false) (hf : fieldsK P 0 fs.toList (.pr a b) = true) (hb : keyB (.pr a b) = true) : Kp P kt (keyV (.pr a b)) := by
  have hinj : ∀ x y : Vl (.pr a b), keyV (.pr a b) x = keyV (.pr a b) y -> x = y := fun x y h => by
    have h : Value.agg (keyC (.pr a b) x).toArray = Value.agg (keyC (.pr a b) y).toArray := h
    simp only [Value.agg.injEq] at h
    exact keyC_inj hb x y (by simpa using h)
  have heq : ∀ x y : Vl (.pr a b), ∃ r : Bool, (∀ w, (Op.equal kt (keyV (.pr a b) x) (keyV (.pr a b) y)).run P w = .ok r w) ∧ (r = true ↔ x = y) := fun x y => by
    obtain ⟨r, h1, h2⟩ := all_fields (P := P) (d := 9998) (xs := (keyC (.pr a b) x).toArray) (ys := (keyC (.pr a b) y).toArray) fs.toList 0 (.pr a b) x y hf rfl rfl
    have hst : P.underlying kt = some (.struct (P.fieldsOf kt)) := by
      rw [hs]
      unfold Program.fieldsOf
      simp only [hs]
    have hfo : P.fieldsOf kt = fs := by
      unfold Program.fieldsOf
      simp only [hs]
    exact ⟨r, fun w => eq_struct (d := 9999) hst hp (by rw [hfo]) h1 w, h2⟩
  refine ⟨hinj, fun w e k => chk_struct hs hf k e w, fun w k es h => ?_, fun w k => ?_⟩
  · rcases qnc_ heq hinj w k es 0 h with ⟨q1, q2⟩ | ⟨j, e, q1, q2, q3⟩
    · refine .inl ⟨?_, q2⟩
      cases es with
      | nil => simp [Instr.findKey, run_underlying hs, Instr.findNow, Sem.run_pure]
      | cons x es => simp [Instr.findKey, run_underlying hs, Instr.findNow, Instr.sameNow, q1]
    · refine .inr ⟨j, e, ?_, q2, q3⟩
      rw [Nat.zero_add] at q1
      cases es with
      | nil => simp at q2
      | cons x es => simp [Instr.findKey, run_underlying hs, Instr.findNow, Instr.sameNow, q1]
  · have : Instr.sameBits 10000 (keyV (.pr a b) k) (keyV (.pr a b) k) = true := by
      show Instr.sameBits (9999 + 1) (Value.agg (keyC (.pr a b) k).toArray) (Value.agg (keyC (.pr a b) k).toArray) = true
      simp only [Instr.sameBits, beq_self_eq_true, Bool.true_and]
      exact bits_self (keyC_isKey hb k) 9999
    unfold Instr.keyThatStays
    rw [if_pos this]
    rfl
def keyK (P : Program) (kt : TypeId) (t : Ty) : Bool := match P.underlying kt with
  | some (.int k) => match t with
    | .int k' => decide (k' = k)
    | _ => false
  | some .string => match t with
    | .str => true
    | _ => false
  | some (.struct fs) => match t with
    | .pr a b => keyB (.pr a b) && (decide (P.stoodInHeld kt = false) && fieldsK P 0 fs.toList (.pr a b))
    | _ => false
  | _ => false
theorem keyK_ok {P : Program} {kt : TypeId} {t : Ty} (h : keyK P kt t = true) : keyT t = true ∧ Nonempty (Kp P kt (keyV t)) := by
  unfold keyK at h
  split at h
  · rename_i k hk
    split at h
    · rename_i k'
      have : k' = k := of_decide_eq_true h
      subst this
      exact ⟨rfl, ⟨Kp.int hk⟩⟩
    · cases h
  · rename_i hk
    split at h
    · exact ⟨rfl, ⟨Kp.str hk⟩⟩
    · cases h
  · rename_i fs hk
    split at h
    · rename_i a b
      rw [Bool.and_eq_true, Bool.and_eq_true, decide_eq_true_eq] at h
      exact ⟨h.1, ⟨Kp.fields hk h.2.1 h.2.2 h.1⟩⟩
    · cases h
  · cases h
section
variable {kt vt : Ty} {L : Lx} {w : World} [DecidableEq (Vl kt)]
theorem dget_den (ht : keyT kt = true) (k : Vl kt) : ∀ {vs : List (Vl kt × Value)} {xs : List (Vl kt × Vl vt)}, DmD L w vs xs ->
    (dget kt xs k = none ∧ mget vs k = none) ∨ ∃ y v cs, dget kt xs k = some y ∧ mget vs k = some v ∧ (rp vt).rel L w cs y ∧ v = (rp vt).val cs
  | [], xs, h => by have h : xs = [] := h; subst h; exact .inl ⟨rfl, rfl⟩
  | a :: r, xs, ⟨b, q, h1, h2, ⟨cs, h3, h4⟩, h5⟩ => by
    subst h1
    obtain ⟨a1, a2⟩ := a
    obtain ⟨b1, b2⟩ := b
    simp only at h2 h3 h4
    subst h2
    by_cases hk : a1 = k
    · refine .inr ⟨b2, a2, cs, ?_, ?_, h3, h4⟩
      · unfold dget; rw [if_pos ((keq_iff ht _ _).2 hk)]
      · unfold mget; rw [if_pos hk]
    · have hk' : ¬ keq kt a1 k = true := fun e => hk ((keq_iff ht _ _).1 e)
      rcases dget_den ht k h5 with ⟨q1, q2⟩ | ⟨y, v, cs', q1, q2, q3⟩
      · exact .inl ⟨by unfold dget; rw [if_neg hk', q1], by unfold mget; rw [if_neg hk, q2]⟩
      · exact .inr ⟨y, v, cs', by unfold dget; rw [if_neg hk', q1], by unfold mget; rw [if_neg hk, q2], q3⟩
theorem dput_den (ht : keyT kt = true) (k : Vl kt) {y : Vl vt} {cs : List Value} (hy : (rp vt).rel L w cs y) : ∀ {vs : List (Vl kt × Value)} {xs : List (Vl kt × Vl vt)}, DmD L w vs xs -> DmD L w (mput vs k ((rp vt).val cs)) (dput kt xs k y)
  | [], xs, h => by have h : xs = [] := h; subst h; exact ⟨_, _, rfl, rfl, ⟨cs, hy, rfl⟩, rfl⟩
  | a :: r, xs, ⟨b, q, h1, h2, ⟨cs', h3, h4⟩, h5⟩ => by
    subst h1
    obtain ⟨a1, a2⟩ := a
    obtain ⟨b1, b2⟩ := b
    simp only at h2 h3 h4
    subst h2
    by_cases hk : a1 = k
    · unfold mput dput
      rw [if_pos hk, if_pos ((keq_iff ht _ _).2 hk)]
      exact ⟨_, _, rfl, rfl, ⟨cs, hy, rfl⟩, h5⟩
    · have hk' : ¬ keq kt a1 k = true := fun e => hk ((keq_iff ht _ _).1 e)
      unfold mput dput
      rw [if_neg hk, if_neg hk']
      exact ⟨_, _, rfl, rfl, ⟨cs', h3, h4⟩, dput_den ht k hy h5⟩
theorem ddel_den (ht : keyT kt = true) (k : Vl kt) : ∀ {vs : List (Vl kt × Value)} {xs : List (Vl kt × Vl vt)}, DmD L w vs xs -> DmD L w (mdel vs k) (ddel kt xs k)
  | [], xs, h => by have h : xs = [] := h; subst h; rfl
  | a :: r, xs, ⟨b, q, h1, h2, ⟨cs', h3, h4⟩, h5⟩ => by
    subst h1
    obtain ⟨a1, a2⟩ := a
    obtain ⟨b1, b2⟩ := b
    simp only at h2 h3 h4
    subst h2
    by_cases hk : a1 = k
    · unfold mdel ddel
      rw [if_pos hk, if_pos ((keq_iff ht _ _).2 hk)]
      exact h5
    · have hk' : ¬ keq kt a1 k = true := fun e => hk ((keq_iff ht _ _).1 e)
      unfold mdel ddel
      rw [if_neg hk, if_neg hk']
      exact ⟨_, _, rfl, rfl, ⟨cs', h3, h4⟩, ddel_den ht k h5⟩
end
theorem DmD.len {kt vt : Ty} {L : Lx} {w : World} : ∀ {vs : List (Vl kt × Value)} {xs : List (Vl kt × Vl vt)}, DmD L w vs xs -> vs.length = xs.length
  | [], xs, h => by have h : xs = [] := h; subst h; rfl
  | a :: r, xs, ⟨b, q, h1, h2, h3, h5⟩ => by subst h1; simp [DmD.len h5]
def svOf : Value -> SV
  | .agg ⟨cs⟩ => .agg (cs.map ofV)
  | v => ofV v
section
variable {R : Type} {B : Nat -> Prop} {F : Lx} {w0 : Bs} {wr : Wr} {pl pl' : List Place} {S S' : St} {l l' : List Value} {ls : List (List Value)} {w w' : World} {L L' M : Lx} {P : Program} {d : Option Tmp} {ty : TypeId} {pos : String} {af : Array Edge} {gd : Option (Nat × Bool)}
  {Q : Exit -> Act -> World -> Prop} {KK : List Value -> World -> Prop} {K : St -> SV -> Option R} {r : R}
def zeroS (P : Program) (t : TypeId) : Option SV := match (P.info? t).bind (·.zero) with
  | some z => if z.cells.toList.all Value.oneCell' = true then some (svOf z) else none
  | none => none
theorem svOf_den {v : Value} (h : ∀ u ∈ v.cells.toList, u.oneCell' = true) : Den pl L w (svOf v) v := by
  unfold svOf
  split
  · exact ⟨_, denL_ofV _, h, rfl⟩
  · exact den_ofV v
theorem zeroS_ok {t : TypeId} {s : SV} (h : zeroS P t = some s) : ∃ z, (P.info? t).bind (·.zero) = some z ∧ ∀ (pl : List Place) (L : Lx) (w : World), Den pl L w s z := by
  unfold zeroS at h
  split at h
  · rename_i z hz
    split at h
    · rename_i hall
      cases h
      exact ⟨z, hz, fun pl L w => svOf_den (List.all_eq_true.1 hall)⟩
    · cases h
  · cases h
def mapOf (P : Program) (t : TypeId) : Option (TypeId × TypeId) := match P.underlying t with
  | some (.map k e) => some (k, e)
  | _ => none
theorem mapOf_ok {t k e : TypeId} (h : mapOf P t = some (k, e)) : P.underlying t = some (.map k e) := by unfold mapOf at h; split at h <;> simp_all
def plainK (P : Program) (t : TypeId) : Bool := match P.underlying t with
  | some (.int _) => true
  | some .string => true
  | _ => false
def okS (ok : Bool) (s : SV) (b : Bool) : SV := if ok = true then .tup [s, .d .bool b] else s
def lkS (kt : Ty) (k : Vl kt) (ok : Bool) (z : SV) (K : SV -> Option R) : List (Nat × Vl kt × SV) -> Option R
  | [] => K (okS ok z false)
  | (_, a, s) :: r => if keq kt a k = true then K (okS ok s true) else lkS kt k ok z K r
@[reducible] def gdV (vt : Ty) (o : Option (Vl vt)) (z : Vl vt) : Vl vt := o.getD z
@[reducible] def isV (vt : Ty) (o : Option (Vl vt)) : Bool := o.isSome
def qLook (P : Program) (own : List (Nat × Ent)) (t : TypeId) (m k : SV) (ok : Bool) (K : SV -> List Nat -> Option R) : Option R :=
  match mapOf P t with
  | some (ktid, et) => match m with
    | .mp i => match get own i with
      | some (.dm kt vt xs) => match zeroS P et, toD kt k with
        | some zs, some y => match toD vt zs with
          | some z => if keyK P ktid kt = true then K (okS ok (.d vt (gdV vt (dget kt xs y) z)) (isV vt (dget kt xs y))) [i] else none
          | none => none
        | _, _ => none
      | some (.sm kt _ es) => match zeroS P et, toD kt k with
        | some zs, some y => if keyK P ktid kt = true then lkS kt y ok zs (fun s => K s [i]) es else none
        | _, _ => none
      | _ => none
    | .k (.map none) => match zeroS P et with
      | some zs => if plainK P ktid = true then K (okS ok zs false) [] else none
      | none => none
    | .d (.mp kt vt) xs => match zeroS P et, toD kt k with
      | some zs, some y => match toD vt zs with
        | some z => if keyK P ktid kt = true then K (okS ok (.d vt (gdV vt (dget kt xs y) z)) (isV vt (dget kt xs y))) [] else none
        | none => none
      | _, _ => none
    | _ => none
  | none => none
theorem okS_den {ok : Bool} {s : SV} {v : Value} (b : Bool) (h : Den pl L w s v) : Den pl L w (okS ok s b) (if ok then .tuple #[v, .bool b] else v) := by
  unfold okS
  cases ok with
  | true => exact ⟨[v, .bool b], ⟨_, _, rfl, h, ⟨_, _, rfl, den_b b, rfl⟩⟩, rfl⟩
  | false => exact h
theorem keyC_rel : ∀ {t : Ty}, keyB t = true -> ∀ {x : Vl t} {cs : List Value}, (rp t).rel L w cs x -> cs = keyC t x
  | .int _, _, _, _, h => h
  | .str, _, _, _, h => h
  | .bool, _, _, _, h => h
  | .pr a b, hb, x, cs, h => by
    have hb : (leafT a && keyB b) = true := hb
    rw [Bool.and_eq_true] at hb
    obtain ⟨c1, c2, e, h1, h2⟩ := h
    rw [e, keyC_rel (keyB_of hb.1) h1, keyC_rel hb.2 h2]
    rfl
theorem rel_keyC : ∀ {t : Ty}, keyB t = true -> ∀ x : Vl t, (rp t).rel L w (keyC t x) x
  | .int _, _, _ => rfl
  | .str, _, _ => rfl
  | .bool, _, _ => rfl
  | .pr a b, hb, x => by
    have hb : (leafT a && keyB b) = true := hb
    rw [Bool.and_eq_true] at hb
    exact ⟨_, _, rfl, rel_keyC (keyB_of hb.1) x.1, rel_keyC hb.2 x.2⟩
theorem toD_key {kt : Ty} (ht : keyT kt = true) {s : SV} {y : Vl kt} {u : Value} (h : toD kt s = some y) (hd : Den pl L w s u) : u = keyV kt y := by
  obtain ⟨cs, h1, h2⟩ := toD_rel h hd
  have h3 := keyC_rel (keyT_B ht) h1
  subst h3
  rw [h2]
  cases kt <;> simp [keyT] at ht <;> rfl
def smL {kt : Ty} (vs : List MapEntry) (es : List (Nat × Vl kt × SV)) : List (Vl kt × Value) := (es.zip vs).map fun p => (p.1.2.1, p.2.val)
theorem smL_ok {kt : Ty} : ∀ {vs : List MapEntry} {es : List (Nat × Vl kt × SV)}, SmD pl L w vs es -> vs.map (fun e => (e.key, e.val)) = (smL vs es).map (fun x => (keyV kt x.1, x.2)) ∧ vs.length = es.length
  | [], es, h => by have h : es = [] := h; subst h; exact ⟨rfl, rfl⟩
  | a :: r, es, ⟨b, q, h1, h2, h3, h4, h5⟩ => by
    subst h1
    obtain ⟨i1, i2⟩ := smL_ok h5
    refine ⟨?_, by simp [i2]⟩
    show (a.key, a.val) :: r.map _ = (keyV kt b.2.1, a.val) :: (smL r q).map _
    rw [i1, h3]
theorem lkS_ok {kt : Ty} [DecidableEq (Vl kt)] (ht : keyT kt = true) {k : Vl kt} {ok : Bool} {z : SV} {zv : Value} (hz : Den pl L w z zv) {K : SV -> Option R} : ∀ {vs : List MapEntry} {es : List (Nat × Vl kt × SV)}, SmD pl L w vs es -> lkS kt k ok z K es = some r ->
    ∃ s, K s = some r ∧ Den pl L w s (if ok then .tuple #[(mget (smL vs es) k).getD zv, .bool (mget (smL vs es) k).isSome] else (mget (smL vs es) k).getD zv)
  | [], es, h, hv => by
    have h : es = [] := h
    subst h
    exact ⟨_, hv, okS_den false hz⟩
  | a :: q, es, ⟨b, q', h1, h2, h3, h4, h5⟩, hv => by
    subst h1
    obtain ⟨b0, b1, b2⟩ := b
    unfold lkS at hv
    have e1 : smL (a :: q) ((b0, b1, b2) :: q') = (b1, a.val) :: smL q q' := rfl
    rw [e1]
    by_cases hk : b1 = k
    · rw [if_pos ((keq_iff ht _ _).2 hk)] at hv
      refine ⟨_, hv, ?_⟩
      unfold mget
      rw [if_pos hk]
      exact okS_den true h4
    · rw [if_neg (fun e => hk ((keq_iff ht _ _).1 e))] at hv
      obtain ⟨s, i1, i2⟩ := lkS_ok ht hz h5 hv
      refine ⟨s, i1, ?_⟩
      unfold mget
      rw [if_neg hk]
      exact i2
theorem qLook_ok {own : List (Nat × Ent)} (he : EntsD pl L w own) {t : TypeId} {x y : Operand} {ok : Bool} {m k : SV} {K : SV -> List Nat -> Option R} (h : qLook P own t m k ok K = some r) (hx : Den pl L w m (ev l x)) (hy : Den pl L w k (ev l y)) :
    ∃ s' rd, K s' rd = some r ∧ Yv P pl L w l ⟨d, .lookup t x y ok, ty, pos, af, gd⟩ s' rd := by
  unfold qLook at h
  split at h
  · rename_i ktid et hmap
    have hmap := mapOf_ok hmap
    split at h
    · rename_i i
      split at h
      · rename_i kt vt xs hg
        split at h
        · rename_i zs y' hz hyk
          split at h
          · rename_i z hzz
            split at h
            · rename_i hkk
              obtain ⟨ht, ⟨D⟩⟩ := keyK_ok hkk
              obtain ⟨zv, hz1, hz2⟩ := zeroS_ok hz
              obtain ⟨g, n, c, vs, h1, h2, h3⟩ := he.get hg
              obtain ⟨g', n', c', h4, hu⟩ := hx
              rw [h1] at h4
              cases h4
              have hkey := toD_key ht hyk hy
              letI : DecidableEq (Vl kt) := fun a b => Classical.propDecidable (a = b)
              refine ⟨_, _, h, (if ok then .tuple #[(mget vs y').getD zv, .bool (mget vs y').isSome] else (mget vs y').getD zv), ?_, fun w' hF hrd => ?_⟩
              · obtain ⟨zc, hzc1, hzc2⟩ := toD_rel hzz (hz2 pl L w)
                rcases dget_den ht y' h3 with ⟨q1, q2⟩ | ⟨yy, v, cs, q1, q2, q3, q4⟩
                · rw [q1, q2]
                  exact okS_den false ⟨zc, hzc1, hzc2⟩
                · rw [q1, q2]
                  exact okS_den true ⟨cs, q3, q4⟩
              · have hM : MapIs (keyV kt) (fun v : Value => v) w' g vs := by
                  obtain ⟨es, cl, q1, q2⟩ := h2
                  exact ⟨es, cl, by rw [hrd i (by simp) g (by rw [q41_ h1]; rfl)]; exact q1, q2⟩
                exact run_look D hmap hz1 hu hkey hM ok
            · cases h
          · cases h
        · cases h
      · rename_i kt cl es hg
        split at h
        · rename_i zs y' hz hyk
          split at h
          · rename_i hkk
            obtain ⟨ht, ⟨D⟩⟩ := keyK_ok hkk
            obtain ⟨zv, hz1, hz2⟩ := zeroS_ok hz
            obtain ⟨g, n, c, vs, h1, h2, h3⟩ := he.get hg
            obtain ⟨g', n', c', h4, hu⟩ := hx
            rw [h1] at h4
            cases h4
            have hkey := toD_key ht hyk hy
            letI : DecidableEq (Vl kt) := fun a b => Classical.propDecidable (a = b)
            obtain ⟨s, i1, i2⟩ := lkS_ok ht (hz2 pl L w) h3 h
            refine ⟨s, _, i1, _, i2, fun w' hF hrd => ?_⟩
            have hM : MapIs (keyV kt) (fun v : Value => v) w' g (smL vs.toList es) :=
              ⟨vs, cl, by rw [hrd i (by simp) g (by rw [q41_ h1]; rfl)]; exact h2.1, (smL_ok h3).1, h2.2⟩
            exact run_look D hmap hz1 hu hkey hM ok
          · cases h
        · cases h
      · cases h
    · split at h
      · rename_i zs hz
        split at h
        · rename_i hkt
          obtain ⟨zv, hz1, hz2⟩ := zeroS_ok hz
          refine ⟨_, _, h, Yv.of (okS_den false (hz2 pl L w)) (fun w' => ?_)⟩
          have hzz : (zeroValue et).run P w' = .ok zv w' := by
            cases hinf : P.info? et with
            | none => simp [hinf] at hz1
            | some i => simp [hinf] at hz1; simp [zeroValue, typeInfo, hinf, hz1, Sem.run]
          have hx : ev l x = .map none := hx
          unfold plainK at hkt
          split at hkt
          · rename_i k' hk'
            have hck0 : ∀ n v, (Instr.checkKey true (n + 1) ktid v).run P w' = .ok () w' := fun n v => by simp [Instr.checkKey, run_underlying hk']
            have hck : ∀ v, (Instr.checkKey true 10000 ktid v).run P w' = .ok () w' := hck0 9999
            have hfk : ∀ v, (Instr.findKey ktid v []).run P w' = .ok none w' := fun v => by simp [Instr.findKey, run_underlying hk', Instr.findNow, Sem.run_pure]
            cases ok <;> simp [execOp, hx, Instr.lookup, run_underlying hmap, hck, hfk, hzz, Result.andThen, Sem.run_pure]
          · rename_i hk'
            have hck0 : ∀ n v, (Instr.checkKey true (n + 1) ktid v).run P w' = .ok () w' := fun n v => by simp [Instr.checkKey, run_underlying hk']
            have hck : ∀ v, (Instr.checkKey true 10000 ktid v).run P w' = .ok () w' := hck0 9999
            have hfk : ∀ v, (Instr.findKey ktid v []).run P w' = .ok none w' := fun v => by simp [Instr.findKey, run_underlying hk', Instr.findNow, Sem.run_pure]
            cases ok <;> simp [execOp, hx, Instr.lookup, run_underlying hmap, hck, hfk, hzz, Result.andThen, Sem.run_pure]
          · cases hkt
        · cases h
      · cases h
    · rename_i kt vt xs
      split at h
      · rename_i zs y' hz hyk
        split at h
        · rename_i z hzz
          split at h
          · rename_i hkk
            obtain ⟨ht, ⟨D⟩⟩ := keyK_ok hkk
            obtain ⟨zv, hz1, hz2⟩ := zeroS_ok hz
            obtain ⟨cs0, ⟨g, vs, rfl, hg1, hg2, h2, h3⟩, hu⟩ := hx
            have h3 : DmD L w vs xs := DmD.iff.1 h3
            have hu : ev l x = .map (some g) := hu
            have hkey := toD_key ht hyk hy
            letI : DecidableEq (Vl kt) := fun a b => Classical.propDecidable (a = b)
            refine ⟨_, _, h, (if ok then .tuple #[(mget vs y').getD zv, .bool (mget vs y').isSome] else (mget vs y').getD zv), ?_, fun w' hF hrd => ?_⟩
            · obtain ⟨zc, hzc1, hzc2⟩ := toD_rel hzz (hz2 pl L w)
              rcases dget_den ht y' h3 with ⟨q1, q2⟩ | ⟨yy, v, cs, q1, q2, q3, q4⟩
              · rw [q1, q2]
                exact okS_den false ⟨zc, hzc1, hzc2⟩
              · rw [q1, q2]
                exact okS_den true ⟨cs, q3, q4⟩
            · have hM : MapIs (keyV kt) (fun v : Value => v) w' g vs := by
                obtain ⟨es, cl, q1, q2⟩ := h2
                exact ⟨es, cl, (hF.block g hg2 hg1).trans q1, q2⟩
              exact run_look D hmap hz1 hu hkey hM ok
          · cases h
        · cases h
      · cases h
    · cases h
  · cases h
def lMakeMap (P : Program) (S : St) (t : TypeId) (K : St -> SV -> Option R) : Option R :=
  match mapOf P t with
  | some (kt, et) => match tyc P kt with
    | some k => if keyK P kt k = true then (match tyc P et with
      | some v => K { S with own := (S.nx, .dm k v []) :: S.own, nx := S.nx + 1 } (.mp S.nx)
      | none => K { S with own := (S.nx, .sm k 0 []) :: S.own, nx := S.nx + 1 } (.mp S.nx)) else none
    | none => none
  | none => none
theorem lMakeMap_ok (h : Rel B F w0 wr pl S l ls w) {t : TypeId} (hv : lMakeMap P S t K = some r) (hk : Hand B F w0 wr S.nt l ls d K r KK) : OW P ⟨d, .makeMap t none, ty, pos, af, gd⟩ l w KK Q := by
  unfold lMakeMap at hv
  split at hv
  · split at hv
    · rename_i k hkt
      split at hv
      · rename_i hkk
        obtain ⟨ht, ⟨D⟩⟩ := keyK_ok hkk
        have hrun : (execOp (Sx.ev l) ⟨d, .makeMap t none, ty, pos, af, gd⟩).run P w = .ok (.value (.map (some w.heap.size))) (w.alloc (.map #[] 0)) := rfl
        have hS : Stp B (lx pl S.own) (some w.heap.size :: lx pl S.own) F [] w (w.alloc (.map #[] 0)) := Stp.new h.hL (Fz.alloc _ _ _) rfl (by simp)
        split at hv
        · rename_i v hvt
          have hr := h.push ⟨some ⟨w.heap.size, 0, none⟩, 0, 0⟩ (.dm k v []) hS ⟨w.heap.size, 0, 0, [], q1u_ _, ⟨#[], 0, heap_last w _, rfl, stamped_empty 0⟩, rfl⟩
          exact q55_ hrun (hk _ _ (.mp S.nx) _ _ hr rfl ⟨w.heap.size, 0, 0, by rw [h.nx]; exact q1u_ _, rfl⟩ hv)
        · have hr := h.push ⟨some ⟨w.heap.size, 0, none⟩, 0, 0⟩ (.sm k 0 []) hS ⟨w.heap.size, 0, 0, #[], q1u_ _, ⟨heap_last w _, stamped_empty 0⟩, rfl⟩
          exact q55_ hrun (hk _ _ (.mp S.nx) _ _ hr rfl ⟨w.heap.size, 0, 0, by rw [h.nx]; exact q1u_ _, rfl⟩ hv)
      · cases hv
    · cases hv
  · cases hv
def noKey {kt : Ty} (k : Vl kt) : List (Nat × Vl kt × SV) -> Bool
  | [] => true
  | (_, a, _) :: r => !keq kt a k && noKey k r
def lMapPut (P : Program) (S : St) (t : TypeId) (m k x : SV) (K : St -> SV -> Option R) : Option R :=
  match mapOf P t with
  | some (ktid, _) => match m with
    | .mp i => match get S.own i with
      | some (.dm kt vt xs) => match toD kt k, toD vt x with
        | some a, some b => if keyK P ktid kt = true then K { S with own := pute i (.dm kt vt (dput kt xs a b)) S.own, log := i :: S.log } (.k undef) else none
        | _, _ => none
      | some (.sm kt cl es) => match toD kt k with
        | some a => if keyK P ktid kt = true ∧ noKey a es = true then K { S with own := pute i (.sm kt (cl + 1) (es ++ [(cl, a, x)])) S.own, log := i :: S.log } (.k undef) else none
        | none => none
      | _ => none
    | _ => none
  | none => none
theorem plb_mem {i : Nat} {e : Ent} {g n c : Nat} (hg : get S.own i = some e) (h1 : pl[i]? = some ⟨some ⟨g, 0, none⟩, n, c⟩) : plb pl i = some g ∧ some g ∈ lx pl S.own := by
  have hpl : plb pl i = some g := q41_ h1
  exact ⟨hpl, by rw [<- hpl]; exact List.mem_map_of_mem (f := fun e : Nat × Ent => plb pl e.1) (qw_ hg)⟩
theorem SmD.app {kt : Ty} {b : Nat × Vl kt × SV} {a : MapEntry} (h1 : a.born = b.1) (h2 : a.key = keyV kt b.2.1) (h3 : Den pl L w b.2.2 a.val) : ∀ {vs : List MapEntry} {es : List (Nat × Vl kt × SV)}, SmD pl L w vs es -> SmD pl L w (vs ++ [a]) (es ++ [b])
  | [], es, h => by have h : es = [] := h; subst h; exact ⟨b, [], rfl, h1, h2, h3, rfl⟩
  | v :: vs, es, ⟨b', q, e1, e2, e3, e4, e5⟩ => by subst e1; exact ⟨b', _, rfl, e2, e3, e4, SmD.app h1 h2 h3 e5⟩
theorem noKey_ok {kt : Ty} (ht : keyT kt = true) (hinj : ∀ a b, keyV kt a = keyV kt b -> a = b) {k : Vl kt} : ∀ {vs : List MapEntry} {es : List (Nat × Vl kt × SV)}, SmD pl L w vs es -> noKey k es = true -> ∀ x ∈ vs, x.key ≠ keyV kt k
  | [], es, h, _, x, hx => by cases hx
  | v :: vs, es, ⟨b', q, e1, e2, e3, e4, e5⟩, hn, x, hx => by
    subst e1
    obtain ⟨b0, b1, b2⟩ := b'
    simp only [noKey, Bool.and_eq_true, Bool.not_eq_true'] at hn
    rcases List.mem_cons.1 hx with hx | hx
    · subst hx
      intro he
      rw [e3] at he
      have := (keq_iff ht b1 k).2 (hinj _ _ he)
      rw [hn.1] at this
      cases this
    · exact noKey_ok ht hinj e5 hn.2 x hx
theorem lMapPut_ok (h : Rel B F w0 wr pl S l ls w) {t : TypeId} {x i y : Operand} {m k v : SV} {op : Op} (ho : op = .mapUpdate t x i y ∨ op = .insert t x i y) (hv : lMapPut P S t m k v K = some r) (hx : Den pl (lx pl S.own ++ F) w m (ev l x)) (hi : Den pl (lx pl S.own ++ F) w k (ev l i)) (hy : Den pl (lx pl S.own ++ F) w v (ev l y))
    (hk : Hand B F w0 wr S.nt l ls d K r KK) : OW P ⟨d, op, ty, pos, af, gd⟩ l w KK Q := by
  unfold lMapPut at hv
  split at hv
  · rename_i ktid et hmap
    have hmap := mapOf_ok hmap
    split at hv
    · rename_i j
      split at hv
      · rename_i kt vt xs hg
        split at hv
        · rename_i a b ha hb
          split at hv
          · rename_i hkk
            obtain ⟨ht, ⟨D⟩⟩ := keyK_ok hkk
            letI : DecidableEq (Vl kt) := fun a b => Classical.propDecidable (a = b)
            obtain ⟨g, n, c, vs, h1, h2, h3⟩ := h.ent _ (qw_ hg)
            obtain ⟨g', n', c', h4, hu⟩ := hx
            rw [h1] at h4
            cases h4
            obtain ⟨hpl, hmem⟩ := plb_mem hg h1
            obtain ⟨cs, hc1, hc2⟩ := toD_rel hb hy
            refine ow_mapput D hmap (vv := fun v : Value => v) hu (toD_key ht ha hi) hc2 h.hL h2 hmem ho (fun w' hS hM => ?_)
            have hE := Ext.of_stp (pl := pl) (pl' := pl) hS (fun _ _ h => h)
            have hr := h.mod (e' := .dm kt vt (dput kt xs a b)) hg (by rw [hpl]; exact hS) ⟨g, n, c, _, h1, hM, dput_den ht a (hE.rel _ hc1) (h3.ext hE)⟩
            exact hk pl _ (.k undef) undef w' hr rfl rfl hv
          · cases hv
        · cases hv
      · rename_i kt cl es hg
        split at hv
        · rename_i a ha
          split at hv
          · rename_i hkk
            obtain ⟨hkk, hno⟩ := hkk
            obtain ⟨ht, ⟨D⟩⟩ := keyK_ok hkk
            obtain ⟨g, n, c, vs, h1, ⟨h2, h2s⟩, h3⟩ := h.ent _ (qw_ hg)
            obtain ⟨g', n', c', h4, hu⟩ := hx
            rw [h1] at h4
            cases h4
            obtain ⟨hpl, hmem⟩ := plb_mem hg h1
            have hkey := toD_key ht ha hi
            have hkeys : ∀ e ∈ vs.toList, ∃ a, e.key = keyV kt a := fun e he => by
              letI : DecidableEq (Vl kt) := fun a b => Classical.propDecidable (a = b)
              exact isKeys (vv := fun v : Value => v) (smL_ok h3).1 e he
            have hne := noKey_ok ht D.inj h3 hno
            have hfn : (Instr.findKey ktid (keyV kt a) vs.toList).run P w = .ok none w := by
              rcases D.fnd w a vs.toList hkeys with ⟨q1, q2⟩ | ⟨jj, e0, q1, q2, q3⟩
              · exact q1
              · exact absurd q3 (hne e0 (List.mem_of_getElem? q2))
            have hrun : (Instr.mapUpdate t (.map (some g)) (keyV kt a) (ev l y)).run P w = .ok () { w with heap := w.heap.setIfInBounds g (.map (vs.push ⟨keyV kt a, ev l y, cl⟩) (cl + 1)) } := by
              simp [Instr.mapUpdate, run_underlying hmap, MapKept.run_getObj_map h2, D.chk, hfn, MapKept.run_setObj_map _ h2, Result.andThen]
            have hf : Fz [some g] w { w with heap := w.heap.setIfInBounds g (.map (vs.push ⟨keyV kt a, ev l y, cl⟩) (cl + 1)) } := Fz.setobj w g _
            have hS : Stp B (lx pl S.own) (lx pl S.own) F [some g] w { w with heap := w.heap.setIfInBounds g (.map (vs.push ⟨keyV kt a, ev l y, cl⟩) (cl + 1)) } := Stp.store h.hL hmem hf
            have hE := Ext.of_stp (pl := pl) (pl' := pl) hS (fun _ _ h => h)
            have hr := h.mod (e' := .sm kt (cl + 1) (es ++ [(cl, a, v)])) hg (by rw [hpl]; exact hS) ⟨g, n, c, vs.push ⟨keyV kt a, ev l y, cl⟩, h1, ⟨(heap_set h2).1, stamped_push h2s hne⟩, by
              rw [Array.toList_push]
              exact SmD.app rfl rfl (hy.ext hE) (h3.ext hE)⟩
            refine ow_skip (w' := { w with heap := w.heap.setIfInBounds g (.map (vs.push ⟨keyV kt a, ev l y, cl⟩) (cl + 1)) }) ?_ (hk pl _ (.k undef) undef _ hr rfl rfl hv)
            rcases ho with rfl | rfl <;> simp [execOp, hu, hkey, hrun]
          · cases hv
        · cases hv
      · cases hv
    · cases hv
  · cases hv
def lMapDel (P : Program) (S : St) (t : TypeId) (m k : SV) (K : St -> SV -> Option R) : Option R :=
  match mapOf P t with
  | some (ktid, _) => match m with
    | .mp i => match get S.own i with
      | some (.dm kt vt xs) => match toD kt k with
        | some a => if keyK P ktid kt = true then K { S with own := pute i (.dm kt vt (ddel kt xs a)) S.own, log := i :: S.log } (.tup []) else none
        | none => none
      | _ => none
    | _ => none
  | none => none
theorem lMapDel_ok (h : Rel B F w0 wr pl S l ls w) {t t' : TypeId} {x i : Operand} {m k : SV} (hv : lMapDel P S t m k K = some r) (hx : Den pl (lx pl S.own ++ F) w m (ev l x)) (hi : Den pl (lx pl S.own ++ F) w k (ev l i)) (hk : Hand B F w0 wr S.nt l ls d K r KK) :
    OW P ⟨d, .call ⟨.builtin .delete, #[x, i], #[t, t']⟩, ty, pos, af, gd⟩ l w KK Q := by
  unfold lMapDel at hv
  split at hv
  · rename_i ktid et hmap
    have hmap := mapOf_ok hmap
    split at hv
    · rename_i j
      split at hv
      · rename_i kt vt xs hg
        split at hv
        · rename_i a ha
          split at hv
          · rename_i hkk
            obtain ⟨ht, ⟨D⟩⟩ := keyK_ok hkk
            letI : DecidableEq (Vl kt) := fun a b => Classical.propDecidable (a = b)
            obtain ⟨g, n, c, vs, h1, h2, h3⟩ := h.ent _ (qw_ hg)
            obtain ⟨g', n', c', h4, hu⟩ := hx
            rw [h1] at h4
            cases h4
            obtain ⟨hpl, hmem⟩ := plb_mem hg h1
            refine ow_mapdel D hmap (vv := fun v : Value => v) hu (toD_key ht ha hi) h.hL h2 hmem (fun w' hS hM => ?_)
            have hE := Ext.of_stp (pl := pl) (pl' := pl) hS (fun _ _ h => h)
            have hr := h.mod (e' := .dm kt vt (ddel kt xs a)) hg (by rw [hpl]; exact hS) ⟨g, n, c, _, h1, hM, ddel_den ht a (h3.ext hE)⟩
            exact hk pl _ (.tup []) _ w' hr rfl ⟨[], rfl, rfl⟩ hv
          · cases hv
        · cases hv
      · cases hv
    · cases hv
  · cases hv
def qMapLen (P : Program) (own : List (Nat × Ent)) (t : TypeId) (m : SV) (K : SV -> List Nat -> Option R) : Option R :=
  match mapOf P t with
  | some _ => match m with
    | .mp i => match get own i with
      | some (.dm _ _ xs) => K (.d (.int .i64) (xs.length : Int)) [i]
      | some (.sm _ _ es) => K (.d (.int .i64) (es.length : Int)) [i]
      | _ => none
    | .d (.mp _ _) xs => K (.d (.int .i64) (xs.length : Int)) []
    | _ => none
  | none => none
theorem qMapLen_ok {own : List (Nat × Ent)} (he : EntsD pl L w own) {t : TypeId} {x : Operand} {m : SV} {K : SV -> List Nat -> Option R} (h : qMapLen P own t m K = some r) (hx : Den pl L w m (ev l x)) :
    ∃ s' rd, K s' rd = some r ∧ Yv P pl L w l ⟨d, .call { callee := .builtin .len, args := #[x], argTypes := #[t] }, ty, pos, af, gd⟩ s' rd := by
  unfold qMapLen at h
  split at h
  · rename_i kt et hmap
    have hmap := mapOf_ok hmap
    split at h
    · rename_i i
      split at h
      · rename_i kt vt xs hg
        obtain ⟨g, n, c, vs, h1, h2, h3⟩ := he.get hg
        obtain ⟨g', n', c', h4, hu⟩ := hx
        rw [h1] at h4
        cases h4
        refine ⟨_, _, h, _, den_i _ _, fun w' hF hrd => ?_⟩
        have hM : MapIs (keyV kt) (fun v : Value => v) w' g vs := by
          obtain ⟨es, cl, q1, q2⟩ := h2
          exact ⟨es, cl, by rw [hrd i (by simp) g (by rw [q41_ h1]; rfl)]; exact q1, q2⟩
        letI : DecidableEq (Vl kt) := fun a b => Classical.propDecidable (a = b)
        have := Sx.run_len_map (P := P) (d := d) (ty := ty) (pos := pos) (af := af) (gd := gd) hmap hu hM
        rw [h3.len] at this
        exact this
      · rename_i kt cl es hg
        obtain ⟨g, n, c, vs, h1, h2, h3⟩ := he.get hg
        obtain ⟨g', n', c', h4, hu⟩ := hx
        rw [h1] at h4
        cases h4
        refine ⟨_, _, h, _, den_i _ _, fun w' hF hrd => ?_⟩
        have hM : MapIs (keyV kt) (fun v : Value => v) w' g (smL vs.toList es) :=
          ⟨vs, cl, by rw [hrd i (by simp) g (by rw [q41_ h1]; rfl)]; exact h2.1, (smL_ok h3).1, h2.2⟩
        letI : DecidableEq (Vl kt) := fun a b => Classical.propDecidable (a = b)
        have := Sx.run_len_map (P := P) (d := d) (ty := ty) (pos := pos) (af := af) (gd := gd) hmap hu hM
        have hl : (smL vs.toList es).length = es.length := by
          have h0 := (smL_ok h3).2
          unfold smL
          simp at h0 ⊢
          omega
        rw [hl] at this
        exact this
      · cases h
    · rename_i kt vt xs
      obtain ⟨cs0, ⟨g, vs, rfl, hg1, hg2, h2, h3⟩, hu⟩ := hx
      have h3 : DmD L w vs xs := DmD.iff.1 h3
      refine ⟨_, _, h, _, den_i _ _, fun w' hF hrd => ?_⟩
      have hM : MapIs (keyV kt) (fun v : Value => v) w' g vs := by
        obtain ⟨es, cl, q1, q2⟩ := h2
        exact ⟨es, cl, (hF.block g hg2 hg1).trans q1, q2⟩
      letI : DecidableEq (Vl kt) := fun a b => Classical.propDecidable (a = b)
      have := Sx.run_len_map (P := P) (d := d) (ty := ty) (pos := pos) (af := af) (gd := gd) hmap hu hM
      rw [h3.len] at this
      exact this
    · cases h
  · cases h
end
end Ev
end
section
namespace Ev
open Go Go.RowKit Sx Go.MapKept
section
variable {R : Type}
def ambC (eq : R -> R -> Bool) : Option R -> List (Option R) -> Option R
  | a, [] => a
  | a, b :: q => match a, ambC eq b q with
    | some x, some y => if eq x y = true then some x else none
    | _, _ => none
def amb (eq : R -> R -> Bool) : List (Option R) -> Option R
  | [] => none
  | a :: q => ambC eq a q
theorem ambC_ok {eq : R -> R -> Bool} (heq : ∀ a b, eq a b = true -> a = b) {r : R} : ∀ {q : List (Option R)} {a : Option R}, ambC eq a q = some r -> ∀ x ∈ a :: q, x = some r
  | [], a, h, x, hx => by
    simp only [List.mem_singleton] at hx
    subst hx
    exact h
  | b :: q, a, h, x, hx => by
    unfold ambC at h
    cases a with
    | none => cases h
    | some u =>
      cases hq : ambC eq b q with
      | none => rw [hq] at h; cases h
      | some v =>
        rw [hq] at h
        simp only at h
        split at h
        · rename_i he
          cases h
          have := heq _ _ he
          subst this
          rcases List.mem_cons.1 hx with hx | hx
          · exact hx
          · exact ambC_ok heq hq x hx
        · cases h
theorem amb_ok {eq : R -> R -> Bool} (heq : ∀ a b, eq a b = true -> a = b) {r : R} : ∀ {l : List (Option R)}, amb eq l = some r -> ∀ x ∈ l, x = some r
  | [], h, x, hx => by cases hx
  | a :: q, h, x, hx => ambC_ok heq h x hx
def hasN : List Nat -> Nat -> Bool
  | [], _ => false
  | a :: q, b => if a = b then true else hasN q b
theorem hasN_iff : ∀ {l : List Nat} {b : Nat}, hasN l b = l.contains b
  | [], b => by simp [hasN]
  | a :: q, b => by
    unfold hasN
    split
    · rename_i e; subst e; simp
    · rename_i e
      rw [hasN_iff]
      have : ¬ b = a := fun h => e h.symm
      simp [this]
def leftE {α : Type} (seen : List Nat) : List (Nat × α) -> List (Nat × α)
  | [] => []
  | a :: q => if hasN seen a.1 = true then leftE seen q else a :: leftE seen q
def olderE {α : Type} (cl : Nat) : List (Nat × α) -> Bool
  | [] => true
  | a :: q => decide (a.1 < cl) && olderE cl q
def lRange (P : Program) (S : St) (t : TypeId) (m : SV) (K : St -> SV -> Option R) : Option R :=
  match mapOf P t with
  | some _ => match m with
    | .mp i => match get S.own i with
      | some (.sm _ cl _) => K { S with own := (S.nx, .it i cl []) :: S.own, nx := S.nx + 1 } (.pb S.nx 0)
      | _ => none
    | _ => none
  | none => none
def nxK (S : St) (j m cl : Nat) (seen : List Nat) (kt : Ty) (K : St -> SV -> Option R) (e : Nat × Vl kt × SV) : Option R :=
  K { S with own := pute j (.it m cl (seen ++ [e.1])) S.own, log := j :: S.log } (.tup [.d .bool true, .d kt e.2.1, e.2.2])
def mapN {α β : Type} (f : α -> β) : List α -> List β
  | [] => []
  | a :: q => f a :: mapN f q
def lNext (eq : R -> R -> Bool) (S : St) (it : SV) (K : St -> SV -> Option R) : Option R :=
  match it with
  | .pb j o => match get S.own j with
    | some (.it m cl seen) => match get S.own m with
      | some (.sm kt cl' es) => if o = 0 ∧ cl' = cl ∧ olderE cl es = true ∧ keyT kt = true then (match leftE seen es with
        | [] => K S (.tup [.d .bool false])
        | a :: q => amb eq (mapN (nxK S j m cl seen kt K) (a :: q))) else none
      | _ => none
    | _ => none
  | _ => none
def lastN : List Nat -> Option (List Nat × Nat)
  | [] => none
  | a :: q => match lastN q with
    | some (i, b) => some (a :: i, b)
    | none => some ([], a)
def findE {α : Type} (b : Nat) : List (Nat × α) -> Option α
  | [] => none
  | a :: q => if a.1 = b then some a.2 else findE b q
def qEntry (own : List (Nat × Ent)) (it : SV) (K : SV -> List Nat -> Option R) : Option R :=
  match it with
  | .pb j o => match get own j with
    | some (.it m cl seen) => match get own m with
      | some (.sm kt cl' es) => match lastN seen with
        | some (_, b) => match findE b es with
          | some (k, s) => if o = 0 ∧ cl' = cl ∧ keyT kt = true then K (.tup [.d kt k, s]) [j, m] else none
          | none => none
        | none => none
      | _ => none
    | _ => none
  | _ => none
end
section
variable {R : Type} {B : Nat -> Prop} {F : Lx} {w0 : Bs} {wr : Wr} {pl pl' : List Place} {S S' : St} {l l' : List Value} {ls : List (List Value)} {w w' : World} {L L' M : Lx} {P : Program} {d : Option Tmp} {ty : TypeId} {pos : String} {af : Array Edge} {gd : Option (Nat × Bool)}
  {Q : Exit -> Act -> World -> Prop} {KK : List Value -> World -> Prop} {K : St -> SV -> Option R} {r : R}
theorem lastN_ok : ∀ {l i : List Nat} {b : Nat}, lastN l = some (i, b) -> l = i ++ [b]
  | [], i, b, h => by cases h
  | a :: q, i, b, h => by
    unfold lastN at h
    split at h
    · rename_i i' b' hq
      cases h
      rw [lastN_ok hq]
      rfl
    · rename_i hq
      cases h
      cases q with
      | nil => rfl
      | cons c q => simp only [lastN] at hq; split at hq <;> cases hq
theorem mem_mapN {α β : Type} {f : α -> β} : ∀ {l : List α} {a : α}, a ∈ l -> f a ∈ mapN f l
  | b :: q, a, h => by
    rcases List.mem_cons.1 h with h | h
    · subst h; exact List.mem_cons_self ..
    · exact List.mem_cons_of_mem _ (mem_mapN h)
theorem SmD.mem {kt : Ty} : ∀ {vs : List MapEntry} {es : List (Nat × Vl kt × SV)}, SmD pl L w vs es -> ∀ x ∈ vs, ∃ b ∈ es, x.born = b.1 ∧ x.key = keyV kt b.2.1 ∧ Den pl L w b.2.2 x.val
  | v :: vs, es, ⟨b', q, e1, e2, e3, e4, e5⟩, x, hx => by
    subst e1
    rcases List.mem_cons.1 hx with hx | hx
    · subst hx; exact ⟨b', List.mem_cons_self .., e2, e3, e4⟩
    · obtain ⟨b, h1, h2⟩ := SmD.mem e5 x hx
      exact ⟨b, List.mem_cons_of_mem _ h1, h2⟩
theorem leftE_mem {α : Type} {seen : List Nat} : ∀ {es : List (Nat × α)} {b : Nat × α}, b ∈ es -> seen.contains b.1 = false -> b ∈ leftE seen es
  | a :: q, b, h, hc => by
    unfold leftE
    rcases List.mem_cons.1 h with h | h
    · subst h
      rw [hasN_iff, hc]
      simp
    · split
      · exact leftE_mem h hc
      · exact List.mem_cons_of_mem _ (leftE_mem h hc)
theorem leftE_sub {α : Type} {seen : List Nat} : ∀ {es : List (Nat × α)} {b : Nat × α}, b ∈ leftE seen es -> b ∈ es ∧ seen.contains b.1 = false
  | a :: q, b, h => by
    unfold leftE at h
    split at h
    · obtain ⟨h1, h2⟩ := leftE_sub h
      exact ⟨List.mem_cons_of_mem _ h1, h2⟩
    · rename_i hn
      rcases List.mem_cons.1 h with h | h
      · subst h
        refine ⟨List.mem_cons_self .., ?_⟩
        rw [hasN_iff] at hn
        simpa using hn
      · obtain ⟨h1, h2⟩ := leftE_sub h
        exact ⟨List.mem_cons_of_mem _ h1, h2⟩
theorem SmD.back {kt : Ty} : ∀ {vs : List MapEntry} {es : List (Nat × Vl kt × SV)}, SmD pl L w vs es -> ∀ b ∈ es, ∃ x ∈ vs, x.born = b.1 ∧ x.key = keyV kt b.2.1 ∧ Den pl L w b.2.2 x.val
  | [], es, h, b, hb => by have h : es = [] := h; subst h; cases hb
  | v :: vs, es, ⟨b', q, e1, e2, e3, e4, e5⟩, b, hb => by
    subst e1
    rcases List.mem_cons.1 hb with hb | hb
    · subst hb; exact ⟨v, List.mem_cons_self .., e2, e3, e4⟩
    · obtain ⟨x, h1, h2⟩ := SmD.back e5 b hb
      exact ⟨x, List.mem_cons_of_mem _ h1, h2⟩
theorem den_key {kt : Ty} (ht : keyT kt = true) (k : Vl kt) : Den pl L w (.d kt k) (keyV kt k) := by
  cases kt <;> simp [keyT] at ht
  · exact den_i _ _
  · exact den_s _
  · exact ⟨keyC _ k, rel_keyC (by show (leafT _ && keyB _) = true; rw [Bool.and_eq_true]; exact ht) k, rfl⟩
theorem lx_pute {i : Nat} {e e' : Ent} : ∀ {own : List (Nat × Ent)}, get own i = some e -> lx pl (pute i e' own) = lx pl own
  | (k, x) :: q, h => by
    unfold pute
    split
    · rename_i hk
      subst hk
      rfl
    · rename_i hk
      have : get q i = some e := by
        unfold get at h
        rw [if_neg hk] at h
        exact h
      show plb pl k :: lx pl (pute i e' q) = plb pl k :: lx pl q
      rw [lx_pute this]
theorem lRange_ok (h : Rel B F w0 wr pl S l ls w) {t : TypeId} {x : Operand} {m : SV} (hv : lRange P S t m K = some r) (hx : Den pl (lx pl S.own ++ F) w m (ev l x)) (hk : Hand B F w0 wr S.nt l ls d K r KK) : OW P ⟨d, .range t x, ty, pos, af, gd⟩ l w KK Q := by
  unfold lRange at hv
  split at hv
  · rename_i kt et hmap
    have hmap := mapOf_ok hmap
    split at hv
    · rename_i i
      split at hv
      · rename_i kt cl es hg
        obtain ⟨g, n, c, vs, h1, h2, h3⟩ := h.ent _ (qw_ hg)
        obtain ⟨g', n', c', h4, hu⟩ := hx
        rw [h1] at h4
        cases h4
        have hrun : (Instr.range t (.map (some g))).run P w = .ok (.pointer (some ⟨w.heap.size, 0, none⟩)) (w.alloc (.mapIter (some g) cl #[] cl)) := by
          simp [Instr.range, run_underlying hmap, MapKept.run_getObj_map h2.1, Result.andThen]
        have hS : Stp B (lx pl S.own) (some w.heap.size :: lx pl S.own) F [] w (w.alloc (.mapIter (some g) cl #[] cl)) := Stp.new h.hL (Fz.alloc _ _ _) rfl (by simp)
        have hr := h.push ⟨some ⟨w.heap.size, 0, none⟩, 0, 0⟩ (.it i cl []) hS ⟨w.heap.size, 0, 0, g, n, c, q1u_ _, pl_push _ _ _ h1, heap_last w _⟩
        refine q55_ (v := .pointer (some ⟨w.heap.size, 0, none⟩)) ?_ (hk _ _ (.pb S.nx 0) _ _ hr rfl ⟨w.heap.size, 0, 0, by rw [h.nx]; exact q1u_ _, rfl⟩ hv)
        simp only [execOp, hu, Sem.run_bind, hrun, Result.andThen_ok, Sem.run_pure]
      · cases hv
    · cases hv
  · cases hv
theorem lNext_ok {eq : R -> R -> Bool} (heq : ∀ a b, eq a b = true -> a = b) (h : Rel B F w0 wr pl S l ls w) {x : Operand} {it : SV} (hv : lNext eq S it K = some r) (hx : Den pl (lx pl S.own ++ F) w it (ev l x)) (hk : Hand B F w0 wr S.nt l ls d K r KK) :
    OW P ⟨d, .next x false, ty, pos, af, gd⟩ l w KK Q := by
  unfold lNext at hv
  split at hv
  · rename_i j o
    split at hv
    · rename_i m cl seen hgj
      split at hv
      · rename_i kt cl' es hgm
        split at hv
        · rename_i hc
          obtain ⟨rfl, rfl, hold, ht⟩ := hc
          obtain ⟨g, n, c, g2, n2, c2, h1, h2, h3⟩ := h.ent _ (qw_ hgj)
          obtain ⟨g', n', c', vs, h4, ⟨h5, h5s⟩, h6⟩ := h.ent _ (qw_ hgm)
          rw [h2] at h4
          cases h4
          obtain ⟨g0, n0, c0, h7, hu⟩ := hx
          rw [h1] at h7
          cases h7
          have holder : ∀ y ∈ vs.toList, y.born < cl' := fun y hy => h5s.1 y hy
          have hnext := run_next_at (P := P) w ty g g2 cl' cl' seen.toArray vs cl' h3 h5 holder (Nat.le_refl _)
          rcases hnext with ⟨hz, hrun⟩ | ⟨e, he, w1, hw1, hrun⟩
          · -- nothing is left
            have hl : leftE seen es = [] := by
              cases hle : leftE seen es with
              | nil => rfl
              | cons b q =>
                exfalso
                obtain ⟨hb1, hb2⟩ := leftE_sub (es := es) (b := b) (by rw [hle]; exact List.mem_cons_self ..)
                obtain ⟨y, hy, hyb, _⟩ := SmD.back h6 b hb1
                have : y ∈ (leftOf vs seen.toArray) := by
                  unfold leftOf
                  rw [Array.mem_filter]
                  refine ⟨by simpa using hy, ?_⟩
                  rw [hyb]
                  simpa using hb2
                rw [Array.eq_empty_of_size_eq_zero hz] at this
                simp at this
            rw [hl] at hv
            refine q55_ (v := .tuple #[.bool false]) (w' := w) ?_ (hk pl S (.tup [.d .bool false]) _ w h rfl ⟨[.bool false], ⟨_, _, rfl, den_b _, rfl⟩, rfl⟩ hv)
            simp only [execOp, hu, Sem.run_bind, hrun, Result.andThen_ok, Sem.run_pure]
          · have hmem : e ∈ vs.toList ∧ seen.contains e.born = false := by
              unfold leftOf at he
              simp at he
              exact ⟨by simpa using he.1, by simpa using he.2⟩
            obtain ⟨b, hb1, hb2, hb3, hb4⟩ := SmD.mem h6 e hmem.1
            have hbl : b ∈ leftE seen es := leftE_mem hb1 (by rw [<- hb2]; exact hmem.2)
            have hall : nxK S j m cl' seen kt K b = some r := by
              cases hle : leftE seen es with
              | nil => rw [hle] at hbl; cases hbl
              | cons a q =>
                rw [hle] at hv hbl
                exact amb_ok heq hv _ (mem_mapN hbl)
            have hlt : g < w.heap.size := (Array.getElem?_eq_some_iff.1 h3).1
            have hf : Fz [some g] w (ChangeMaps.setBlock w1 g (.mapIter (some g2) cl' (seen.toArray.push e.born) cl')) := by
              rcases hw1 with rfl | rfl
              · exact Fz.setobj w1 g _
              · exact (Fz.drew [some g] w).trans (Fz.setobj w.drew g _)
            obtain ⟨hpl, hmemg⟩ := plb_mem hgj h1
            have hS : Stp B (lx pl S.own) (lx pl S.own) F [some g] w _ := Stp.store h.hL hmemg hf
            have hE := Ext.of_stp (pl := pl) (pl' := pl) hS (fun _ _ h => h)
            have hheap : (ChangeMaps.setBlock w1 g (.mapIter (some g2) cl' (seen.toArray.push e.born) cl')).heap[g]? = some (.mapIter (some g2) cl' (seen ++ [b.1]).toArray cl') := by
              have h3' : w1.heap[g]? = some (.mapIter (some g2) cl' seen.toArray cl') := by rcases hw1 with rfl | rfl <;> exact h3
              have hlt' := (Array.getElem?_eq_some_iff.1 h3').1
              rw [<- hb2]
              simp [ChangeMaps.setBlock, hlt']
            have hr := h.mod (e' := .it m cl' (seen ++ [b.1])) hgj (by rw [hpl]; exact hS) ⟨g, n, c, g2, n2, c2, h1, h2, hheap⟩
            refine q55_ (v := .tuple #[.bool true, e.key, e.val]) ?_ (hk pl _ (.tup [.d .bool true, .d kt b.2.1, b.2.2]) _ _ hr rfl ⟨[.bool true, e.key, e.val], ⟨_, _, rfl, den_b _, _, _, rfl, by rw [hb3]; exact den_key ht _, _, _, rfl, by show Den pl (lx pl (pute j (.it m cl' (seen ++ [b.1])) S.own) ++ F) _ _ _; rw [lx_pute hgj]; exact hb4.ext hE, rfl⟩, rfl⟩ hall)
            simp only [execOp, hu, Sem.run_bind, hrun, Result.andThen_ok, Sem.run_pure]
        · cases hv
      · cases hv
    · cases hv
  · cases hv
theorem findE_mem {α : Type} {b : Nat} : ∀ {es : List (Nat × α)} {a : α}, findE b es = some a -> (b, a) ∈ es
  | (i, x) :: q, a, h => by
    unfold findE at h
    split at h
    · rename_i e; cases h; simp only at e; subst e; exact List.mem_cons_self ..
    · exact List.mem_cons_of_mem _ (findE_mem h)
theorem qEntry_ok {own : List (Nat × Ent)} (he : EntsD pl L w own) {x : Operand} {it : SV} {K : SV -> List Nat -> Option R} (h : qEntry own it K = some r) (hx : Den pl L w it (ev l x)) :
    ∃ s' rd, K s' rd = some r ∧ Yv P pl L w l ⟨d, .entry x, ty, pos, af, gd⟩ s' rd := by
  unfold qEntry at h
  split at h
  · rename_i j o
    split at h
    · rename_i m cl seen hgj
      split at h
      · rename_i kt cl' es hgm
        split at h
        · rename_i i b hl
          split at h
          · rename_i k s hf
            split at h
            · rename_i hc
              obtain ⟨rfl, rfl, ht⟩ := hc
              have hseen := lastN_ok hl
              obtain ⟨g, n, c, g2, n2, c2, h1, h2, h3⟩ := he.get hgj
              obtain ⟨g', n', c', vs, h4, ⟨h5, h5s⟩, h6⟩ := he.get hgm
              rw [h2] at h4
              cases h4
              obtain ⟨g0, n0, c0, h7, hu⟩ := hx
              rw [h1] at h7
              cases h7
              obtain ⟨y, hy, hy1, hy2, hy3⟩ := SmD.back h6 (b, k, s) (findE_mem hf)
              refine ⟨_, _, h, .tuple #[y.key, y.val], ⟨[y.key, y.val], ⟨_, _, rfl, by rw [hy2]; exact den_key ht _, _, _, rfl, hy3, rfl⟩, rfl⟩, fun w' hF hrd => ?_⟩
              have e1 : w'.heap[g]? = some (.mapIter (some g2) cl' (i.toArray.push y.born) cl') := by
                rw [hrd j (by simp) g (by rw [q41_ h1]; rfl), h3, hseen, hy1]
                simp
              have e2 : w'.heap[g2]? = some (.map vs cl') := by rw [hrd m (by simp) g2 (by rw [q41_ h2]; rfl)]; exact h5
              have hrun := run_entry_at (P := P) w' g g2 cl' i.toArray vs cl' y e1 e2 hy h5s.2.1
              simp only [execOp, hu, Sem.run_bind, hrun, Result.andThen_ok, Sem.run_pure]
            · cases h
          · cases h
        · cases h
      · cases h
    · cases h
  · cases h
end
end Ev
end
section
namespace Ev
open Go Go.RowKit Sx
section
variable {R : Type} {B : Nat -> Prop} {F : Lx} {w0 : Bs} {wr : Wr} {pl pl' : List Place} {S S' : St} {l l' : List Value} {ls : List (List Value)} {w w' : World} {L L' M : Lx} {P : Program} {d : Option Tmp} {ty : TypeId} {pos : String} {af : Array Edge} {gd : Option (Nat × Bool)}
  {Q : Exit -> Act -> World -> Prop} {KK : List Value -> World -> Prop} {K : St -> SV -> Option R} {r : R}
theorem rawTy {e : TypeId} {t : Ty} {z : Vl t} (w : World) (h : TyRow P e (rp t) z) : ∃ zr, TyRow P e (rpRaw t.size) zr := by
  obtain ⟨i, zv, h1, h2, h3, h4, h5, h6⟩ := h.info
  have hp := h.pos
  rw [q12_] at h3 h5 hp
  exact ⟨zv.cells.toList, ⟨i, zv, h1, h2, h3, h4, h5, fun L w' => ⟨rfl, by rw [Array.length_toList]; exact h5, (rp t).one (h6 [] w)⟩⟩, hp⟩
def isRo (own : List (Nat × Ent)) (i : Nat) : Bool := match get own i with
  | some (.rowo _ _ _ _ _) => true
  | _ => false
def isO (own : List (Nat × Ent)) : SV -> Bool
  | .row k => isRo own k
  | _ => false
theorem opn_len {b : Bool} {us : List Value} : (opn b us).length = if b = true then 1 else 0 := by unfold opn; split <;> rfl
def qLenO (P : Program) (own : List (Nat × Ent)) (t : TypeId) (s : SV) (K : SV -> List Nat -> Option R) : Option R :=
  match s with
  | .row i => if isSl P t = true then match get own i with
    | some (.rowo _ _ b xs _) => K (.d (.int .i64) (if b = true then (xs.length : Int) + 1 else (xs.length : Int))) []
    | _ => none else none
  | _ => none
theorem qLenO_ok {own : List (Nat × Ent)} (he : EntsD pl L w own) {t : TypeId} {x : Operand} {s : SV} {K : SV -> List Nat -> Option R} (h : qLenO P own t s K = some r) (hx : Den pl L w s (ev l x)) :
    ∃ s' rd, K s' rd = some r ∧ Yv P pl L w l ⟨d, .call { callee := .builtin .len, args := #[x], argTypes := #[t] }, ty, pos, af, gd⟩ s' rd := by
  unfold qLenO at h
  split at h
  · split at h
    · rename_i ht
      obtain ⟨e, ht⟩ := isSl_ok ht
      split at h
      · rename_i i b xs _ hg
        obtain ⟨p, h6, h7⟩ := hx
        obtain ⟨p', ro, us, h8, h9, h10, _⟩ := he.get hg
        rw [h6] at h8
        cases h8
        have hn := h9.len
        rw [List.length_append, opn_len, h10.len] at hn
        have e2 : (if b = true then (xs.length : Int) + 1 else (xs.length : Int)) = ((p.n : Nat) : Int) := by rw [hn]; split <;> simp
        rw [e2] at h
        exact ⟨_, _, h, Yv.of (den_i _ _) (fun w' => run_len_sl ht h7 rfl)⟩
      · cases h
    · cases h
  · cases h
def qIndexO (P : Program) (own : List (Nat × Ent)) (t : TypeId) (s i : SV) (K : SV -> List Nat -> Option R) : Option R :=
  match s, i with
  | .row q, .d (.int _) j => match elOf P t, get own q with
    | some (_, n), some (.rowo t0 _ b xs _) => if t0.size = n then need b (need (eqi j (xs.length : Int)) (K (.prw q j t0.size 0) [])) else none
    | _, _ => none
  | _, _ => none
theorem ro_last {t : Ty} {e : TypeId} {p : Place} {ro : List (List Value)} {us : List Value} {xs : List (Vl t)} (h : Ow (rpRaw t.size) e L w p.a p.n p.c (ro ++ opn true us)) (hr : RawD t L w ro xs) :
    p.n = xs.length + 1 ∧ (∃ g, p.a = some ⟨g, 0, none⟩) ∧ (ro ++ opn true us)[xs.length]? = some us := by
  have h1 : (ro ++ opn true us)[xs.length]? = some us := by
    rw [List.getElem?_append_right (by rw [hr.len]; exact Nat.le_refl _), hr.len, Nat.sub_self]
    rfl
  refine ⟨?_, h.addr (List.getElem?_eq_some_iff.1 h1).1, h1⟩
  have := h.len
  rw [List.length_append, opn_len, hr.len] at this
  simpa using this
theorem qIndexO_ok {own : List (Nat × Ent)} (he : EntsD pl L w own) {t : TypeId} {x y : Operand} {s i : SV} {K : SV -> List Nat -> Option R} (h : qIndexO P own t s i K = some r) (hx : Den pl L w s (ev l x)) (hi : Den pl L w i (ev l y)) :
    ∃ s' rd, K s' rd = some r ∧ Yv P pl L w l ⟨d, .indexAddr t x y, ty, pos, af, gd⟩ s' rd := by
  unfold qIndexO at h
  split at h
  · rename_i q k j
    split at h
    · rename_i e n t0 e0 b xs cs hel hg
      split at h
      · rename_i hsz
        obtain ⟨hb, h'⟩ := q1p_ h
        clear h
        obtain ⟨hj, h⟩ := q1p_ h'
        clear h'
        subst hb
        have hj : @Eq Int j (xs.length : Int) := by simpa [eqi] using hj
        have hi := q7v_ hi
        obtain ⟨h1, h2⟩ := q78_ hel
        obtain ⟨p, h6, h7⟩ := hx
        obtain ⟨p', ro, us, h8, h9, h10, _⟩ := he.get hg
        rw [h6] at h8
        cases h8
        obtain ⟨hn, ⟨g, ha⟩, _⟩ := ro_last h9 h10
        obtain ⟨pa, pn, pc⟩ := p
        simp only at ha h7 hn
        subst ha
        refine ⟨_, _, h, Yv.of (v := .pointer (some ⟨g, 0 + j.toNat * n, none⟩)) ⟨g, pn, pc, h6, by rw [hsz, Nat.add_zero]⟩ (fun w' => run_indexAddr h1 h2 h7 hi (by omega) (by omega))⟩
      · cases h
    · cases h
  · cases h
def qLoadO (P : Program) (own : List (Nat × Ent)) (t : TypeId) (s : SV) (K : SV -> List Nat -> Option R) : Option R :=
  match s with
  | .prw i j sz o => match get own i with
    | some (.rowo t0 _ b xs cs) => if sz = t0.size then need b (need (eqi j (xs.length : Int)) (match cutT P t o cs with
      | some y => splitO y fun y => K y [i]
      | none => none)) else none
    | _ => none
  | _ => none
theorem qLoadO_ok {own : List (Nat × Ent)} (he : EntsD pl L w own) {t : TypeId} {x : Operand} {s : SV} {K : SV -> List Nat -> Option R} (h : qLoadO P own t s K = some r) (hx : Den pl L w s (ev l x)) :
    ∃ s' rd, K s' rd = some r ∧ Yv P pl L w l ⟨d, .load t x, ty, pos, af, gd⟩ s' rd := by
  unfold qLoadO at h
  split at h
  · rename_i i j sz o
    split at h
    · rename_i t0 e0 b xs cs hg
      split at h
      · rename_i hsz
        obtain ⟨hb, h'⟩ := q1p_ h
        clear h
        obtain ⟨hj, h⟩ := q1p_ h'
        clear h'
        subst hb
        have hj : j = (xs.length : Int) := by simpa [eqi] using hj
        split at h
        · rename_i y hc
          obtain ⟨g, n, c, h1, h2⟩ := hx
          obtain ⟨p', ro, us, h3, h4, h5, h6⟩ := he.get hg
          rw [h1] at h3
          cases h3
          obtain ⟨_, _, hl⟩ := ro_last h4 h5
          have h6 := h6 rfl
          obtain ⟨cs1, ⟨e1, e2, e3⟩, h9⟩ := own_cells h4 hl
          subst e1
          obtain ⟨ag, sz', h7, h8, h10⟩ := cutT_ok hc h6 e3
          obtain ⟨y', h, h11⟩ := splitO_ok (pl := pl) (L := L) (w := w) h
          refine ⟨_, _, h, _, h11 _ h10, fun w' hF hrd => run_load' h2 ?_⟩
          refine load_cellsT (P := P) (w := w') (b := g) (cs := (cs1.drop o).take sz') h7 (by rw [List.length_take, List.length_drop]; omega) (fun k v hk => ?_)
          have hlt := (List.getElem?_eq_some_iff.1 hk).1
          rw [List.length_take] at hlt
          rw [List.getElem?_take_of_lt (by omega), List.getElem?_drop] at hk
          rw [World.cell?_of_block (w := w) (hrd i (by simp) g (by rw [q41_ h1]; rfl))]
          have := h9 (o + k) v hk
          rw [hj, Int.toNat_natCast, hsz]
          rwa [<- Nat.add_assoc] at this
        · cases h
      · cases h
    · cases h
  · cases h
def lStoreO (P : Program) (S : St) (t : TypeId) (a s : SV) (K : St -> SV -> Option R) : Option R :=
  match a with
  | .prw i j sz o => match get S.own i, szOf P t, cellsV s with
    | some (.rowo t0 e b xs cs), some n, some vs => if vs.length = n ∧ sz = t0.size ∧ o + n ≤ cs.length then need b (need (eqi j (xs.length : Int)) (K { S with own := pute i (.rowo t0 e true xs (cs.take o ++ vs ++ cs.drop (o + n))) S.own, log := i :: S.log } (.k undef))) else none
    | _, _, _ => none
  | _ => none
theorem set_last {α : Type} {a : List α} {x y : α} {n : Nat} (h : a.length = n) : (a ++ [x]).set n y = a ++ [y] := by
  subst h
  rw [List.set_append_right _ _ (Nat.le_refl _), Nat.sub_self]
  rfl
theorem lStoreO_ok (h : Rel B F w0 wr pl S l ls w) {t : TypeId} {x y : Operand} {a s : SV} (hv : lStoreO P S t a s K = some r) (hx : Den pl (lx pl S.own ++ F) w a (ev l x)) (hy : Den pl (lx pl S.own ++ F) w s (ev l y))
    (hk : Hand B F w0 wr S.nt l ls d K r KK) : OW P ⟨d, .store t x y, ty, pos, af, gd⟩ l w KK Q := by
  unfold lStoreO at hv
  split at hv
  · rename_i i j sz o
    split at hv
    · rename_i t0 e b xs cs n vs hg hn hvs
      split at hv
      · rename_i hc
        obtain ⟨hb, h'⟩ := q1p_ hv
        clear hv
        obtain ⟨hj, hv⟩ := q1p_ h'
        clear h'
        subst hb
        have hj : j = (xs.length : Int) := by simpa [eqi] using hj
        obtain ⟨g, n1, c1, h1, h2⟩ := hx
        obtain ⟨p', ro, us, h3, h4, h5, h6⟩ := h.ent _ (qw_ hg)
        rw [h1] at h3
        cases h3
        obtain ⟨_, _, hl⟩ := ro_last h4 h5
        have h6 := h6 rfl
        obtain ⟨h7, h8⟩ := cellsV_ok hy hvs
        have hl7 := h7.len
        have hl6 := h6.len
        have hpl : plb pl i = some g := q41_ h1
        refine ow_store_part (R := rpRaw t0.size) (vs := (ev l y).cells.toList) (b := g) (i := xs.length) (off := o) (u := us) (u' := us.take o ++ (ev l y).cells.toList ++ us.drop (o + (ev l y).cells.toList.length)) ?_ (by rw [h2, hj, hc.2.1, Int.toNat_natCast]; rfl) rfl rfl h.hL h4 hl h8 (fun cs' hcs => ?_) (by rw [<- hpl]; exact List.mem_map_of_mem (f := fun e : Nat × Ent => plb pl e.1) (qw_ hg)) (fun w' hS hO => ?_)
        · rw [hl7, hc.1]; exact hn
        · obtain ⟨rfl, q1, q2⟩ := hcs
          refine ⟨by rw [hl7, hl6]; have := hc.1; have := hc.2.2; omega, rfl, ?_, fun v hv => ?_⟩
          · rw [List.length_append, List.length_append, List.length_take, List.length_drop, q1]
            have := hc.1; have := hc.2.2; omega
          · rcases List.mem_append.1 hv with hv | hv
            · rcases List.mem_append.1 hv with hv | hv
              · exact q2 v (List.mem_of_mem_take hv)
              · exact h8 v hv
            · exact q2 v (List.mem_of_mem_drop hv)
        · have hE := Ext.of_stp (pl := pl) (pl' := pl) hS (fun _ _ h => h)
          have e1 : (ro ++ opn true us).set xs.length (us.take o ++ (ev l y).cells.toList ++ us.drop (o + (ev l y).cells.toList.length)) = ro ++ opn true (us.take o ++ (ev l y).cells.toList ++ us.drop (o + (ev l y).cells.toList.length)) := set_last h5.len
          rw [e1] at hO
          have hlen : (ev l y).cells.toList.length = n := by rw [hl7]; exact hc.1
          have hr := h.mod (e' := .rowo t0 e true xs (cs.take o ++ vs ++ cs.drop (o + n))) hg (by rw [hpl]; exact hS) ⟨_, ro, _, h1, hO, h5.ext hE, fun _ => ?_⟩
          · exact hk pl _ (.k undef) undef w' hr rfl rfl hv
          · rw [hlen]
            exact (((h6.ext hE).take o).append (h7.ext hE)).append ((h6.ext hE).drop _)
      · cases hv
    · cases hv
  · cases hv
def lLitO (P : Program) (S : St) (t : TypeId) (len : Nat) (q : List (Nat × Operand)) (K : St -> SV -> Option R) : Option R :=
  match elOf P t with
  | some (e, n) => match rowTy P e, zerosOf P e, prts S q with
    | some ⟨t0, _⟩, some zs, some c => if len = 1 ∧ len * n ≤ 16777216 ∧ len ≤ 1073741824 ∧ t0.size = n ∧ (initOf zs (len * n)).all Value.oneCell' = true then
        match fillS (fun i => some (i * n, n)) ((initOf zs (len * n)).map SV.k) c with
        | some cs => if cs.length = n then K { S with own := (S.nx, .rowo t0 e true [] cs) :: S.own, nx := S.nx + 1 } (.row S.nx) else none
        | none => none
      else none
    | _, _, _ => none
  | none => none
theorem lLitO_ok (h : Rel B F w0 wr pl S l ls w) {t : TypeId} {len : Nat} {q : Array (Nat × Operand)} (hv : lLitO P S t len q.toList K = some r) (hk : Hand B F w0 wr S.nt l ls d K r KK) : OW P ⟨d, .buildSlice t len q, ty, pos, af, gd⟩ l w KK Q := by
  unfold lLitO at hv
  split at hv
  · rename_i e n hel
    split at hv
    · rename_i t0 z zs c hr hz hc
      split at hv
      · rename_i hcond
        obtain ⟨hone, hcond⟩ := hcond
        subst hone
        split at hv
        · rename_i cs hfill
          split at hv
          · rename_i hcl
            obtain ⟨he1, he2⟩ := q78_ hel
            have hp := prts_ok h.fr hc
            obtain ⟨us, h1, h2, h3⟩ := fill_ok hfill (denL_k _) (List.all_eq_true.1 hcond.2.2.2) hp
            have hul := h2.len
            obtain ⟨z', h6, h7, _⟩ := zerosOf_ok (w := w) hz
            have hpos := (rowTy_ok hr).pos
            rw [q12_, hcond.2.2.1] at hpos
            have hmap : (q.map fun p => (p.1, ev l p.2)).toList = q.toList.map fun p => (p.1, ev l p.2) := by simp
            have hrun : (Instr.buildSlice t 1 (q.map fun p => (p.1, ev l p.2))).run P w = .ok (.slice (some ⟨w.heap.size, 0, none⟩) 1 1) (w.alloc (.cells us.toArray e)) := by
              unfold Instr.buildSlice
              have hle : ¬ 1 * n > 2 ^ 24 := by omega
              have h0 : ¬ 1 * n = 0 := by omega
              have e1 : (Array.range (1 * n)).map (fun x => zs.toArray[x % zs.toArray.size]!) = (initOf zs (1 * n)).toArray := by simp only [initOf, Array.toArray_toList]
              simp only [Sem.run_bind, run_underlying he1, Result.andThen_ok, q36_ he2, if_neg h0, h6, h7, hmap, newRow, newObj]
              rw [if_neg (by omega)]
              simp only [Sem.run_bind, h6, Result.andThen_ok, Sem.run_pure, h7, e1, h1]
              simp [Sem.run]
            have hr2 : (execOp (ev l) ⟨d, .buildSlice t 1 q, ty, pos, af, gd⟩).run P w = .ok (.value (.slice (some ⟨w.heap.size, 0, none⟩) 1 1)) (w.alloc (.cells us.toArray e)) := by
              have e2 : (q.map fun (i, x) => (i, ev l x)) = q.map fun p => (p.1, ev l p.2) := rfl
              simp only [execOp, Sem.run_bind, e2, hrun, Result.andThen_ok, Sem.run_pure]
            have hrows : RowsOf (rpRaw t0.size) (lx pl S.own ++ F) w us [us] := ⟨us, [], by simp, ⟨rfl, by rw [hul, hcl, hcond.2.2.1], h3⟩, rfl⟩
            refine ow_lit rfl h.hL hr2 hrows rfl hcond.2.1 (fun a n' c' w' hS hO => ?_)
            have hE := Ext.of_stp (pl := pl) (pl' := pl ++ [⟨a, n', c'⟩]) hS (pl_push _)
            have hr3 := h.push ⟨a, n', c'⟩ (.rowo t0 e true [] cs) hS ⟨_, [], us, q1u_ _, hO, rfl, fun _ => h2.ext hE⟩
            exact hk _ _ (.row S.nx) _ w' hr3 rfl ⟨⟨a, n', c'⟩, by rw [h.nx]; exact q1u_ _, rfl⟩ hv
          · cases hv
        · cases hv
      · cases hv
    · cases hv
  · cases hv
def cloI (S : St) (i : Nat) : St := match clo S i with
  | some S' => S'
  | none => S
theorem cloI_ok (h : Rel B F w0 wr pl S l ls w) {i : Nat} : Rel B F w0 wr pl (cloI S i) l ls w ∧ (cloI S i).nt = S.nt := by
  unfold cloI
  split
  · rename_i S' hc
    exact clo_ok h hc
  · exact ⟨h, rfl⟩
def appO (P : Program) (S : St) (e : TypeId) (i k : Nat) (K : St -> SV -> Option R) : Option R :=
  match get S.own k, get (rid k S.own) i, rowTy P e with
  | some (.rowo t1 e1 true [] cs), some (.row t0 e0 xs), some ⟨t2, _⟩ => if e0 = e ∧ e1 = e ∧ t1 = t0 ∧ t2 = t0 then need (small (xs.length + 1)) (K { S with own := repl i S.nx (.rowo t0 e true xs cs) (rid k S.own), nx := S.nx + 1, log := i :: S.log } (.row S.nx)) else none
  | _, _, _ => none
theorem appO_ok (h : Rel B F w0 wr pl S l ls w) {t e : TypeId} {n i k : Nat} {p p2 : Place} {x y : Operand} (hel : elOf P t = some (e, n)) (hv : appO P S e i k K = some r) (hp : pl[i]? = some p) (hx : ev l x = .slice p.a p.n p.c)
    (hp2 : pl[k]? = some p2) (hy : ev l y = .slice p2.a p2.n p2.c) (hk : Hand B F w0 wr S.nt l ls d K r KK) : OW P ⟨d, .call ⟨.builtin .append, #[x, y], #[t, t]⟩, ty, pos, af, gd⟩ l w KK Q := by
  unfold appO at hv
  split at hv
  · rename_i t1 e1 cs t0 e0 xs t2 z hgk hgi hr
    split at hv
    · rename_i he
      obtain ⟨rfl, rfl, rfl, rfl⟩ := he
      obtain ⟨hsm, hv⟩ := q1p_ hv
      obtain ⟨preK, postK, k1, k2⟩ := rid_split hgk
      obtain ⟨p2', ro2, us, h3, h4, h5, h6⟩ := h.ent _ (qw_ hgk)
      rw [hp2] at h3
      cases h3
      have hro : ro2 = [] := List.eq_nil_of_length_eq_zero h5.len
      subst hro
      have h6 := h6 rfl
      have hd := h.drop (rid_sub k S.own)
      have e1 : lx pl S.own = lx pl preK ++ blk p2.a :: lx pl postK := by
        rw [k1, lx_split, q41_ hp2]
      have e2 : lx pl (rid k S.own) = lx pl preK ++ lx pl postK := by
        rw [k2]
        unfold lx
        rw [List.map_append]
      have hL := h.hL
      rw [e1] at hL
      have hy' : (Rp.slice (rpRaw t2.size)).rel (lx pl (rid k S.own) ++ F) w [.slice p2.a p2.n p2.c] [us] := by
        refine h4.freeze ?_ (fun q hq => ?_)
        · show Sub w (lx pl (rid k S.own) ++ F) _
          rw [e1, e2]; exact sub_drop w _ _ F _
        · show some q ∉ lx pl (rid k S.own) ++ F
          rw [e2]; exact hL.gone q hq
      have hsub : ∀ q, some q ∈ lx pl (rid k S.own) ++ F -> some q ∈ lx pl S.own ++ F := fun q hq => by
        rw [e2] at hq
        rw [e1]
        simp only [List.mem_append, List.mem_cons] at hq ⊢
        rcases hq with (hq | hq) | hq
        · exact .inl (.inl hq)
        · exact .inl (.inr (.inr hq))
        · exact .inr hq
      have h6' : DenL pl (lx pl (rid k S.own) ++ F) w cs us := h6.ext (Ext.sub hsub)
      obtain ⟨pre, post, a1, a2⟩ := get_split hgi
      obtain ⟨p', b1, b2⟩ := hd.ent _ (qw_ hgi)
      rw [hp] at b1
      cases b1
      obtain ⟨rs, b3, b4⟩ := ow_raw b2
      have e3 : lx pl (rid k S.own) = lx pl pre ++ blk p.a :: lx pl post := by rw [a1, lx_split, q41_ hp]
      have hLd : LOk B (lx pl (rid k S.own)) F w := hd.hL
      have b3 : Ow (rpRaw t2.size) _ (lx pl (rid k S.own) ++ F) w p.a p.n p.c rs := b3
      have b4 : RawD t2 (lx pl (rid k S.own) ++ F) w rs xs := b4
      rw [e3] at hLd b3 hy' b4 h6'
      obtain ⟨zr, hzr⟩ := rawTy w (rowTy_ok hr)
      refine ow_append' (q78_ hel).1 hzr hx hy hLd b3 hy' (by rw [b4.len]; exact hsm) (fun a' n' c' w' hS hO => ?_)
      have hE := Ext.of_stp (pl := pl) (pl' := pl ++ [⟨a', n', c'⟩]) hS (pl_push _)
      have hr2 := hd.rep (p := ⟨a', n', c'⟩) (e' := .rowo t2 _ true xs cs) a1 a2 (by rw [q41_ hp]; exact hS) ⟨_, rs, us, q1u_ _, hO, b4.ext hE, fun _ => h6'.ext hE⟩
      exact hk _ _ (.row S.nx) _ w' hr2 rfl ⟨⟨a', n', c'⟩, by rw [h.nx]; exact q1u_ _, rfl⟩ hv
    · cases hv
  · cases hv
def lAppO (P : Program) (S : St) (t : TypeId) (s1 s2 : SV) (K : St -> SV -> Option R) : Option R :=
  match elOf P t, s2 with
  | some (e, _), .row k => lApp2 P S e s1 fun S1 z i => if z = true then none else appO P (cloI S1 i) e i k K
  | _, _ => none
theorem lAppO_ok (h : Rel B F w0 wr pl S l ls w) {t : TypeId} {x y : Operand} {s1 s2 : SV} (hv : lAppO P S t s1 s2 K = some r) (hx : Den pl (lx pl S.own ++ F) w s1 (ev l x))
    (hy : Den pl (lx pl S.own ++ F) w s2 (ev l y)) (hk : Hand B F w0 wr S.nt l ls d K r KK) : OW P ⟨d, .call ⟨.builtin .append, #[x, y], #[t, t]⟩, ty, pos, af, gd⟩ l w KK Q := by
  unfold lAppO at hv
  split at hv
  · rename_i e n k hel
    obtain ⟨pl', S1, z, i, p, h1, h2, h3, h4, h5, h6⟩ := lApp2_ok h hv hx
    split at h5
    · cases h5
    · rename_i hz
      rw [if_neg hz] at h4
      obtain ⟨p2, h7, h8⟩ := h6 _ _ hy
      obtain ⟨a1, a2⟩ := cloI_ok (i := i) h1
      exact appO_ok a1 hel h5 h3 h4 h7 h8 (by rw [a2, h2]; exact hk)
  · cases hv
end
end Ev
end
section
namespace Sx
open Go Go.RowKit
section
variable {P : Program} {l : List Value} {w : World} {d : Option Tmp} {ty : TypeId} {pos : String} {af : Array Edge} {gd : Option (Nat × Bool)}
  {Q : Exit -> Act -> World -> Prop} {K : List Value -> World -> Prop} {α : Type} {R : Rp α}
theorem ow_append_full {B : Nat -> Prop} {own F : Lx} {s x : Operand} {t e : TypeId} {z : α} {a a2 : Option Addr} {n c2 n2 : Nat} {xs ys : List α} (ht : P.underlying t = some (.slice e)) (hr : TyRow P e R z)
    (hs : ev l s = .slice a n n) (hx : ev l x = .slice a2 n2 c2) (hL : LOk B own F w) (hd : (Rp.slice R).rel (own ++ F) w [.slice a n n] xs)
    (hy : (Rp.slice R).rel (own ++ F) w [.slice a2 n2 c2] ys) (hne : ys ≠ []) (hsm : small (xs.length + ys.length) = true)
    (h : ∀ a' n' c' w', Stp B own (blk a' :: own) F [] w w' -> Ow R e ((blk a' :: own) ++ F) w' a' n' c' (xs ++ ys) -> K (st l d (.slice a' n' c')) w') :
    OW P ⟨d, .call { callee := .builtin .append, args := #[s, x], argTypes := #[t, t] }, ty, pos, af, gd⟩ l w K Q := by
  obtain ⟨i, zv, hi, hz, hsz, hby, hzs, hzr⟩ := hr.info
  have hsm := small_le hsm
  have hn : n = xs.length := by
    obtain ⟨a', cap, e1, _⟩ := hd
    simp at e1
    exact e1.2.1
  subst hn
  obtain ⟨b, o, news, rfl, rfl, h3, h4⟩ := slice_rows hy hne
  have hpos : 0 < ys.length := List.length_pos_iff.2 hne
  have hbytes : (xs.length + ys.length) * i.bytes ≤ 140737488355328 := by
    have : (xs.length + ys.length) * i.bytes ≤ 1073741824 * 131072 := Nat.mul_le_mul hsm hby
    omega
  have run : ∃ v' w' cells, (Builtin.append_ #[t, t] ty #[.slice a xs.length xs.length, .slice (some ⟨b, o, none⟩) ys.length c2]).run P w = .ok v' w' ∧ w'.ownsRow w.heap.size e R.size v' (xs.length + ys.length) (cells ++ news) ∧ w.grownBy w' none ∧ RowsOf R (own ++ F) w cells xs := by
    by_cases hxe : xs = []
    · subst hxe
      cases a with
      | none =>
        obtain ⟨v', w', hrun, h5, h6, h7⟩ := run_append_own (P := P) w w.heap.size t ty e i zv R.size i.bytes ht hi hz hsz rfl (by rw [hzs]) hr.pos (.slice none 0 0) 0 [] (World.ownsRow_nil w w.heap.size e _)
          ⟨b, o, none⟩ ys.length c2 news h3.len h4 h3.one (by simp only [maxLen]; omega) (by rw [List.length_nil] at hbytes; exact hbytes) (Nat.le_refl _)
        exact ⟨v', w', [], hrun, by rw [List.length_nil]; exact h5, h6, rfl⟩
      | some ad =>
        obtain ⟨v', w', hrun, h5, h6⟩ := run_append_arg_grows (P := P) (w := w) t ty e i zv R.size i.bytes ht hi hz hsz rfl (by rw [hzs]) hr.pos ad 0 0 [] (by simp) (fun j u hj => by simp at hj)
          ⟨b, o, none⟩ ys.length c2 news h3.len h4 (by omega) (by simp only [maxLen]; omega) (by rw [List.length_nil] at hbytes; exact hbytes)
        exact ⟨v', w', [], hrun, by rw [List.length_nil]; exact h5, h6, rfl⟩
    · obtain ⟨b1, o1, olds, rfl, _, h8, h9⟩ := slice_rows hd hxe
      obtain ⟨v', w', hrun, h5, h6⟩ := run_append_arg_grows (P := P) (w := w) t ty e i zv R.size i.bytes ht hi hz hsz rfl (by rw [hzs]) hr.pos ⟨b1, o1, none⟩ xs.length xs.length olds h8.len h9
        ⟨b, o, none⟩ ys.length c2 news h3.len h4 (by omega) (by simp only [maxLen]; omega) hbytes
      exact ⟨v', w', olds, hrun, h5, h6, h8⟩
  obtain ⟨v', w', cells, hrun, h5, h6, h8⟩ := run
  have hf : Fz [] w w' := ⟨h6.os, h6.tape, h6.output, h6.size, fun k hk _ => h6.block k hk (fun e => by cases e)⟩
  rcases h5.2 with ⟨_, hn⟩ | ⟨g, cap, cur, rfl, hg, hrest⟩
  · omega
  · have hlt : g < w'.heap.size := by
      rcases Nat.lt_or_ge g w'.heap.size with h' | h'
      · exact h'
      · have := hrest.1
        simp [Array.getElem?_eq_none h'] at this
    have S : Stp B own (blk (some ⟨g, 0, none⟩) :: own) F [] w w' := Stp.newrow hL hf rfl hg hlt
    refine q55_ (v := .slice (some ⟨g, 0, none⟩) (xs.length + ys.length) cap) (w' := w') ?_ ?_
    · simp only [execOp, resolve, invoke, builtin, Sem.run_bind, Sem.run_pure, Result.andThen_ok, List.map_toArray, List.map_cons, List.map_nil, hs, hx, hrun]
    · have hrow : RowsOf R ((blk (some ⟨g, 0, none⟩) :: own) ++ F) w' (cells ++ news) (xs ++ ys) := (h8.step S.hf nilM S.hs).append (h3.step S.hf nilM S.hs)
      refine h _ _ _ w' S ⟨by rw [List.length_append], cells ++ news, ⟨?_, .inr ⟨g, cap, cur, ?_, Nat.zero_le _, ?_⟩⟩, hrow⟩
      · rw [List.length_append (as := xs)]; exact h5.1
      · rw [List.length_append]
      · rw [List.length_append]; exact hrest
end
end Sx
namespace Ev
open Go Go.RowKit Sx
section
variable {P : Program} {R : Type} {B : Nat -> Prop} {F : Lx} {w0 : Bs} {wr : Wr} {pl : List Place} {S : St} {l : List Value} {ls : List (List Value)} {w : World} {r : R} {K : St -> SV -> Option R}
  {d : Option Tmp} {ty : TypeId} {pos : String} {af : Array Edge} {gd : Option (Nat × Bool)} {KK : List Value -> World -> Prop} {Q : Exit -> Act -> World -> Prop}
def lMaxF (P : Program) (S : St) (t : TypeId) (s : SV) (lo hi : Option Operand) (mx : Operand) (K : St -> SV -> Option R) : Option R :=
  match s with
  | .d (.sl t0) xs => if notZ hi = true ∧ lo = none then match elOf P t, bndOf S hi 0, bndOf S (some mx) 0 with
      | some (_, n), some j, some m => if t0.size = n then (cut xs 0 j).bind fun y => need (eqi j m) (need (le m (Int.ofNat xs.length)) (K S (.dx (.sl t0) y))) else none
      | _, _, _ => none
    else none
  | _ => none
def lAppF (P : Program) (S : St) (t : TypeId) (s1 s2 : SV) (K : St -> SV -> Option R) : Option R :=
  match s1, elOf P t with
  | .dx (.sl t0) xs, some (e, _) => match rowTy P e with
    | some ⟨t1, _⟩ => if t1 = t0 then match leaf (.sl t0) s2 with
      | some ys => need (lt 0 (Int.ofNat ys.length)) (need (small (xs.length + ys.length)) (K { S with own := (S.nx, .row t0 e (xs ++ ys)) :: S.own, nx := S.nx + 1 } (.row S.nx)))
      | none => none
      else none
    | none => none
  | _, _ => none
theorem run_slice_full {α : Type} {R : Rp α} {L : Lx} {g : Option (Nat × Bool)} {t e : TypeId} {x mx oh : Operand} {a : Option Addr} {n c : Nat} {xs y : List α} {j : Nat} {kh km : IntKind} (ht : P.underlying t = some (.slice e)) (hs : szOf P e = some R.size)
    (hx : ev l x = .slice a n c) (hr : (Rp.slice R).rel L w [.slice a n c] xs) (e2 : ev l oh = .int kh j) (hmx : ev l mx = .int km j) (hj : j ≤ xs.length) (hy : y = xs.take j) :
    ∃ a', (Rp.slice R).rel L w [.slice a' y.length y.length] y ∧ ∀ w', (execOp (ev l) ⟨d, .slice t x none (some oh) (some mx), ty, pos, af, g⟩).run P w' = .ok (.value (.slice a' y.length y.length)) w' := by
  obtain ⟨a0, c0, e1, hcap, h3⟩ := hr
  simp at e1
  obtain ⟨rfl, rfl, rfl⟩ := e1
  have hyl : y.length = j := by rw [hy, List.length_take]; omega
  refine ⟨if j = 0 then a else a.map (·.add (0 * R.size)), ⟨_, y.length, rfl, Nat.le_refl _, fun hne => ?_⟩, fun w' => ?_⟩
  · have hlt : 0 < j := by
      have := List.length_pos_iff.2 hne
      omega
    obtain ⟨b, o, rfl, h4⟩ := h3 (by intro e; subst e; simp at hj; omega)
    rw [if_neg (by omega)]
    refine ⟨b, o + 0 * R.size, by simp only [Option.map_some, Addr.add_lit'], fun k z hk => ?_⟩
    have hkj : k < j := by
      have := (List.getElem?_eq_some_iff.1 hk).1
      omega
    rw [hy, List.getElem?_take_of_lt hkj] at hk
    have := h4 k z hk
    rw [Nat.zero_mul, Nat.add_zero]
    exact this
  · have hb : (Instr.sliceBounds true xs.length c none (some (ev l oh)) (some (.int km j))).run P w' = .ok (0, j, j) w' := by
      unfold Instr.sliceBounds
      simp [Instr.sliceBound, asIntOf, e2]
      intro hc
      omega
    have hsl : (Instr.sliceAt t (ev l x) none (some (ev l oh)) ((some mx : Option Operand).map (ev l))).run P w' = .ok (.slice (if j = 0 then a else a.map (·.add (0 * R.size))) j j) w' := by
      unfold Instr.sliceAt
      simp only [Sem.run_bind, run_underlying ht, Result.andThen_ok]
      unfold Instr.slice
      simp only [Sem.run_bind, run_underlying ht, Result.andThen_ok, hx, Option.map_some, hmx, hb, q36_ hs, Sem.run_pure]
      rfl
    rw [hyl]
    simp only [execOp, Sem.run_bind, Option.map_none, Option.map_some]
    rw [show (Instr.sliceAt t (ev l x) none (some (ev l oh)) (some (ev l mx))).run P w' = _ from hsl]
    simp only [Result.andThen_ok, Sem.run_pure]
theorem lMaxF_ok (h : Rel B F w0 wr pl S l ls w) {t : TypeId} {x : Operand} {s : SV} {lo hi : Option Operand} {mx : Operand} (hv : lMaxF P S t s lo hi mx K = some r) (hx : Den pl (lx pl S.own ++ F) w s (Sx.ev l x)) (hk : Hand B F w0 wr S.nt l ls d K r KK) :
    OW P ⟨d, .slice t x lo hi (some mx), ty, pos, af, gd⟩ l w KK Q := by
  unfold lMaxF at hv
  split at hv
  · rename_i t0 xs
    split at hv
    · rename_i hz
      obtain ⟨hz, rfl⟩ := hz
      split at hv
      · rename_i e n j m hel hhi hmx
        split at hv
        · rename_i hsz
          obtain ⟨y, hy, hv⟩ := q1o_ hv
          obtain ⟨hjm, hv⟩ := q1p_ hv
          obtain ⟨hm, hv2⟩ := q1p_ hv
          have hjm : j = m := by simpa [eqi] using hjm
          subst hjm
          have hm : j ≤ xs.length := by simpa [le] using hm
          obtain ⟨h1, h2⟩ := q78_ hel
          have hr := den_sl hx
          obtain ⟨a, c, hsh, hr2⟩ := hr
          simp at hsh
          have hr := den_sl hx
          rw [hsh] at hr
          have hh : ∃ o k, hi = some o ∧ Sx.ev l o = .int k j := by
            rcases q5k_ h.fr hhi with ⟨e1, _⟩ | e1
            · subst e1; simp [notZ] at hz
            · exact e1
          have hmm : ∃ k, Sx.ev l mx = .int k j := by
            rcases q5k_ h.fr hmx with ⟨e1, _⟩ | ⟨o, k, e1, e2⟩
            · cases e1
            · cases e1; exact ⟨k, e2⟩
          obtain ⟨oh, kh, rfl, e2⟩ := hh
          obtain ⟨km, e3⟩ := hmm
          obtain ⟨h0, _, _, hy2⟩ := cut_some hy
          have hj0 : 0 ≤ j := by
            have := cut_some hy
            omega
          obtain ⟨j, rfl⟩ := Int.eq_ofNat_of_zero_le hj0
          have hy3 : y = xs.take j := by simpa using hy2
          obtain ⟨a', h3, h4⟩ := run_slice_full (d := d) (ty := ty) (pos := pos) (af := af) (g := gd) h1 (by rw [q12_, hsz]; exact h2) hsh hr e2 e3 (by omega) hy3
          exact q55_ (h4 w) (hk pl S (.dx (.sl t0) y) _ w h rfl ⟨den_d (pl := pl) (t := .sl _) rfl h3, _, _, rfl⟩ hv2)
        · cases hv
      · cases hv
    · cases hv
  · cases hv
theorem lAppF_ok (h : Rel B F w0 wr pl S l ls w) {t : TypeId} {x y : Operand} {s1 s2 : SV} (hv : lAppF P S t s1 s2 K = some r) (hx : Den pl (lx pl S.own ++ F) w s1 (ev l x))
    (hy : Den pl (lx pl S.own ++ F) w s2 (ev l y)) (hk : Hand B F w0 wr S.nt l ls d K r KK) : OW P ⟨d, .call ⟨.builtin .append, #[x, y], #[t, t]⟩, ty, pos, af, gd⟩ l w KK Q := by
  unfold lAppF at hv
  split at hv
  · rename_i t0 xs e n hel
    split at hv
    · rename_i t1 z hr
      split at hv
      · rename_i he
        subst he
        split at hv
        · rename_i ys hys
          obtain ⟨hpos, hv⟩ := q1p_ hv
          obtain ⟨hsm, hv⟩ := q1p_ hv
          obtain ⟨hd, a, n', hn⟩ := hx
          have hr0 := den_sl (pl := pl) hd
          rw [hn] at hr0
          have hy' := leaf_rel (t := .sl t1) rfl hys hy
          obtain ⟨a2, n2, c2, e2, hy'⟩ := app_shape hy'
          have hne : ys ≠ [] := by
            intro e
            subst e
            simp [lt] at hpos
          refine ow_append_full (q78_ hel).1 (rowTy_ok hr) hn e2 h.hL hr0 hy' hne hsm (fun a' n' c' w' hS hO => ?_)
          have hr2 := h.push ⟨a', n', c'⟩ (.row t1 e (xs ++ ys)) hS ⟨_, q1u_ _, hO⟩
          exact hk _ _ (.row S.nx) _ w' hr2 rfl ⟨⟨a', n', c'⟩, by rw [h.nx]; exact q1u_ _, rfl⟩ hv
        · cases hv
      · cases hv
    · cases hv
  · cases hv
end
end Ev
end
section
namespace Ev
open Go Go.RowKit Sx
section
variable {R : Type} {P : Program} {pl : List Place} {L : Lx} {w : World} {l : List Value} {d : Option Tmp} {ty : TypeId} {pos : String} {af : Array Edge} {gd : Option (Nat × Bool)} {r : R}
def isRq (own : List (Nat × Ent)) (i : Nat) : Bool := match get own i with
  | some (.rowq _ _ _ _) => true
  | _ => false
def qIndexQ (P : Program) (own : List (Nat × Ent)) (t : TypeId) (s i : SV) (K : SV -> List Nat -> Option R) : Option R :=
  match s, i with
  | .row j, .d (.int _) a => match get own j with
    | some (.rowq _ _ k _) => match elOf P t with
      | some (_, n) => if n = 1 then need (eqi a k) (K (.prw j k 1 0) []) else none
      | none => none
    | _ => none
  | _, _ => none
theorem qIndexQ_ok {own : List (Nat × Ent)} (he : EntsD pl L w own) {t : TypeId} {x y : Operand} {s i : SV} {K : SV -> List Nat -> Option R} (h : qIndexQ P own t s i K = some r) (hx : Den pl L w s (ev l x)) (hi : Den pl L w i (ev l y)) :
    ∃ s' rd, K s' rd = some r ∧ Yv P pl L w l ⟨d, .indexAddr t x y, ty, pos, af, gd⟩ s' rd := by
  unfold qIndexQ at h
  split at h
  · rename_i j kd a
    split at h
    · rename_i e us k cs hg
      split at h
      · rename_i e' n hel
        split at h
        · rename_i hn
          subst hn
          obtain ⟨hj, h⟩ := q1p_ h
          have hj : a = k := by simpa [eqi] using hj
          subst hj
          obtain ⟨g, n, c, u, h1, h2, h3, h4, h5, h6⟩ := he.get hg
          obtain ⟨p, hp, hv⟩ := hx
          rw [h1] at hp
          cases hp
          obtain ⟨q1, q2⟩ := q78_ hel
          obtain ⟨cs', hc, hu⟩ := hi
          have hc : cs' = [.int kd a] := hc
          subst hc
          have hu : ev l y = .int kd a := hu
          refine ⟨_, _, h, Yv.of (v := .pointer (some ⟨g, 0 + a.toNat * 1, none⟩)) ⟨g, n, c, h1, rfl⟩ (fun w' => ?_)⟩
          exact run_indexAddr' q1 q2 hv rfl hu h4.1 h4.2
        · cases h
      · cases h
    · cases h
  · cases h
def qLoadQ (P : Program) (own : List (Nat × Ent)) (t : TypeId) (s : SV) (K : SV -> List Nat -> Option R) : Option R :=
  match s with
  | .prw i j 1 0 => match get own i with
    | some (.rowq _ _ k [y]) => if j = k ∧ (P.underlying t).map aggD = some false then K y [i] else none
    | _ => none
  | _ => none
theorem qLoadQ_ok {own : List (Nat × Ent)} (he : EntsD pl L w own) {t : TypeId} {x : Operand} {s : SV} {K : SV -> List Nat -> Option R} (h : qLoadQ P own t s K = some r) (hx : Den pl L w s (ev l x)) :
    ∃ s' rd, K s' rd = some r ∧ Yv P pl L w l ⟨d, .load t x, ty, pos, af, gd⟩ s' rd := by
  unfold qLoadQ at h
  split at h
  · rename_i i j
    split at h
    · rename_i e us k y hg
      split at h
      · rename_i hc
        obtain ⟨rfl, hc⟩ := hc
        obtain ⟨g, n, c, u, h1, h2, h3, h4, h5, v, q, h6, h7, h8⟩ := he.get hg
        cases h8
        cases h6
        obtain ⟨g', n', c', e1, hv⟩ := hx
        rw [h1] at e1
        cases e1
        obtain ⟨dd, hd, ha⟩ := Option.map_eq_some_iff.1 hc
        refine ⟨_, _, h, _, h7, fun w' hF hrd => ?_⟩
        have hb : Bx w' g us e := by
          unfold Bx
          rw [hrd i (by simp) g (by rw [q41_ h1]; rfl)]
          exact h2
        exact run_load_box1 (j := j.toNat) hd ha (by rw [hv]; simp) hb h5
      · cases h
    · cases h
  · cases h
end
end Ev
end
section
namespace Ev
open Go Go.RowKit Sx Go.MapKept
section
variable {R : Type}
def picks {α : Type} : List α -> List (α × List α)
  | [] => []
  | a :: q => (a, q) :: mapN (fun p => (p.1, a :: p.2)) (picks q)
def nextL {α : Type} (eq : R -> R -> Bool) (rest : List α) (kn : Option R) (ks : α -> List α -> Option R) : Option R :=
  match rest with
  | [] => kn
  | a :: q => amb eq (mapN (fun p => ks p.1 p.2) (picks (a :: q)))
def lRangeM (P : Program) (S : St) (t : TypeId) (m : SV) (K : St -> SV -> Option R) : Option R :=
  match m with
  | .mp i => match get S.own i with
    | some (.dm kt vt xs) => match mapOf P t with
      | some _ => K { S with own := (S.nx, .itd kt vt [] xs) :: rid i S.own, nx := S.nx + 1 } (.pb S.nx 0)
      | none => none
    | _ => lRange P S t m K
  | .d (.mp kt vt) xs => match mapOf P t with
    | some _ => K { S with own := (S.nx, .itd kt vt [] xs) :: S.own, nx := S.nx + 1 } (.pb S.nx 0)
    | none => none
  | _ => none
def lNextM (eq : R -> R -> Bool) (S : St) (it : SV) (K : St -> SV -> Option R) : Option R :=
  match it with
  | .pb j o => match get S.own j with
    | some (.itd kt vt _ rest) => if o = 0 ∧ keyT kt = true then nextL eq rest (K S (.tup [.d .bool false])) (fun x rest' => K { S with own := pute j (.itd kt vt [x] rest') S.own, log := j :: S.log } (.tup [.d .bool true, .d kt x.1, .d vt x.2])) else none
    | _ => lNext eq S it K
  | _ => none
def qEntryM (own : List (Nat × Ent)) (it : SV) (K : SV -> List Nat -> Option R) : Option R :=
  match it with
  | .pb j o => match get own j with
    | some (.itd kt vt cur _) => match cur with
      | [x] => if o = 0 ∧ keyT kt = true then K (.tup [.d kt x.1, .d vt x.2]) [j] else none
      | _ => none
    | _ => qEntry own it K
  | _ => none
end
section
variable {R : Type} {B : Nat -> Prop} {F : Lx} {w0 : Bs} {wr : Wr} {pl pl' : List Place} {S S' : St} {l l' : List Value} {ls : List (List Value)} {w w' : World} {L L' M : Lx} {P : Program} {d : Option Tmp} {ty : TypeId} {pos : String} {af : Array Edge} {gd : Option (Nat × Bool)}
  {Q : Exit -> Act -> World -> Prop} {KK : List Value -> World -> Prop} {K : St -> SV -> Option R} {r : R}
theorem picks_mem {α : Type} (x : α) : ∀ (r1 r2 : List α), (x, r1 ++ r2) ∈ picks (r1 ++ x :: r2)
  | [], r2 => List.mem_cons_self ..
  | a :: r1, r2 => List.mem_cons_of_mem _ (mem_mapN (f := fun p : α × List α => (p.1, a :: p.2)) (picks_mem x r1 r2))
theorem nextL_ok {α : Type} {eq : R -> R -> Bool} (heq : ∀ a b, eq a b = true -> a = b) {rest : List α} {kn : Option R} {ks : α -> List α -> Option R} (h : nextL eq rest kn ks = some r) :
    (rest = [] -> kn = some r) ∧ ∀ r1 x r2, rest = r1 ++ x :: r2 -> ks x (r1 ++ r2) = some r := by
  unfold nextL at h
  cases rest with
  | nil => exact ⟨fun _ => h, fun r1 x r2 e => by simp at e⟩
  | cons a q =>
    refine ⟨(fun e => by cases e), fun r1 x r2 e => ?_⟩
    have hm : (x, r1 ++ r2) ∈ picks (a :: q) := by rw [e]; exact picks_mem x r1 r2
    exact amb_ok heq h _ (mem_mapN (f := fun p : α × List α => ks p.1 p.2) hm)
theorem DmR.split {α β : Type} {R : Rp β} : ∀ {v1 : List (α × Value)} {v : α × Value} {v2 : List (α × Value)} {xs : List (α × β)}, DmR R L w (v1 ++ v :: v2) xs ->
    ∃ r1 x r2, xs = r1 ++ x :: r2 ∧ (v.1 = x.1 ∧ ∃ cs, R.rel L w cs x.2 ∧ v.2 = R.val cs) ∧ DmR R L w (v1 ++ v2) (r1 ++ r2)
  | [], v, v2, xs, ⟨b, q, h1, h2, h3, h4⟩ => ⟨[], b, q, h1, ⟨h2, h3⟩, h4⟩
  | a :: v1, v, v2, xs, ⟨b, q, h1, h2, h3, h4⟩ => by
    obtain ⟨r1, x, r2, e1, e2, e3⟩ := DmR.split h4
    exact ⟨b :: r1, x, r2, by rw [h1, e1]; rfl, e2, b, r1 ++ r2, rfl, h2, h3, e3⟩
theorem leftOf_list (es : Array MapEntry) (seen : Array Nat) : (leftOf es seen).toList = es.toList.filter fun e => !seen.contains e.born := by unfold leftOf; simp
theorem leftOf_push (es : Array MapEntry) (seen : Array Nat) (b : Nat) : (leftOf es (seen.push b)).toList = (leftOf es seen).toList.filter fun e => !(e.born == b) := by
  rw [leftOf_list, leftOf_list, List.filter_filter]
  congr 1
  funext e
  have : (seen.push b).contains e.born = (seen.contains e.born || e.born == b) := by
    rw [Bool.eq_iff_iff]
    simp [Array.contains_iff_mem, Bool.or_eq_true]
  rw [this, Bool.not_or, Bool.and_comm]
theorem filter_one {e : MapEntry} {pre post : List MapEntry} (h : ((pre ++ e :: post).map (·.born)).Nodup) : (pre ++ e :: post).filter (fun x => !(x.born == e.born)) = pre ++ post := by
  rw [List.map_append, List.map_cons, List.nodup_append] at h
  obtain ⟨_, h2, h3⟩ := h
  rw [List.nodup_cons] at h2
  rw [List.filter_append, List.filter_cons_of_neg (by simp)]
  congr 1
  · refine List.filter_eq_self.2 fun x hx => ?_
    have : x.born ≠ e.born := h3 _ (List.mem_map_of_mem (f := fun x : MapEntry => x.born) hx) _ (List.mem_cons_self ..)
    simp [this]
  · refine List.filter_eq_self.2 fun x hx => ?_
    have : x.born ≠ e.born := fun he => h2.1 (by rw [<- he]; exact List.mem_map_of_mem (f := fun x : MapEntry => x.born) hx)
    simp [this]
theorem lRangeM_ok (h : Rel B F w0 wr pl S l ls w) {t : TypeId} {x : Operand} {m : SV} (hv : lRangeM P S t m K = some r) (hx : Den pl (lx pl S.own ++ F) w m (ev l x)) (hk : Hand B F w0 wr S.nt l ls d K r KK) : OW P ⟨d, .range t x, ty, pos, af, gd⟩ l w KK Q := by
  have fin : ∀ {S1 : St} {kt vt : Ty} {xs : List (Vl kt × Vl vt)} {g : Nat} {cl : Nat} {es : Array MapEntry} {vs : List (Vl kt × Value)} {k e : TypeId}, P.underlying t = some (.map k e) -> ev l x = .map (some g) -> Rel B F w0 wr pl S1 l ls w -> S1.nt = S.nt ->
      (rpEs (keyV kt) (rp vt)).rel (lx pl S1.own ++ F) w [.map (some g)] (es, cl, vs, xs, [], []) -> es.toList.map (fun e => (e.key, e.val)) = vs.map (fun x => (keyV kt x.1, x.2)) ->
      K { S1 with own := (S1.nx, .itd kt vt [] xs) :: S1.own, nx := S1.nx + 1 } (.pb S1.nx 0) = some r -> OW P ⟨d, .range t x, ty, pos, af, gd⟩ l w KK Q := by
    intro S1 kt vt xs g cl es vs k e hmap hu h1 hnt hrel hes hv
    obtain ⟨g', e0, hng, hlt, hheap, hst, hdm, _⟩ := hrel
    cases e0
    have hheap : w.heap[g]? = some (.map es cl) := hheap
    have hrun : (Instr.range t (.map (some g))).run P w = .ok (.pointer (some ⟨w.heap.size, 0, none⟩)) (w.alloc (.mapIter (some g) cl #[] cl)) := by
      simp [Instr.range, run_underlying hmap, MapKept.run_getObj_map hheap, Result.andThen]
    have hS : Stp B (lx pl S1.own) (some w.heap.size :: lx pl S1.own) F [] w (w.alloc (.mapIter (some g) cl #[] cl)) := Stp.new h1.hL (Fz.alloc _ _ _) rfl (by simp)
    have hrel' := hS.rel (R := rpEs (keyV kt) (rp vt)) (x := (es, cl, vs, xs, [], [])) ⟨g, rfl, hng, hlt, hheap, hst, hdm, rfl⟩
    have hl0 : (leftOf es #[]).toList = es.toList := by rw [leftOf_list]; exact List.filter_eq_self.2 fun _ _ => by simp
    have hr := h1.push ⟨some ⟨w.heap.size, 0, none⟩, 0, 0⟩ (.itd kt vt [] xs) hS ⟨w.heap.size, 0, 0, g, es, cl, #[], vs, [], q1u_ _, heap_last w _, hrel', (by rw [hl0]; exact hes), trivial⟩
    refine q55_ (v := .pointer (some ⟨w.heap.size, 0, none⟩)) ?_ (hk _ _ (.pb S1.nx 0) _ _ hr hnt ⟨w.heap.size, 0, 0, by rw [h1.nx]; exact q1u_ _, rfl⟩ hv)
    simp only [execOp, hu, Sem.run_bind, hrun, Result.andThen_ok, Sem.run_pure]
  unfold lRangeM at hv
  split at hv
  · rename_i i
    split at hv
    · rename_i kt vt xs hg
      split at hv
      · rename_i ke hmap
        have hmap := mapOf_ok hmap
        obtain ⟨g, n, c, vs, h1, ⟨es, cl, h2, h3, h3s⟩, h4⟩ := h.ent _ (qw_ hg)
        obtain ⟨g', n', c', h5, hu⟩ := hx
        rw [h1] at h5
        cases h5
        obtain ⟨pre, post, e1, e2⟩ := rid_split hg
        have hd := h.drop (rid_sub i S.own)
        have hlt : g < w.heap.size := (Array.getElem?_eq_some_iff.1 h2).1
        have e3 : lx pl S.own = lx pl pre ++ some g :: lx pl post := by
          rw [e1]
          unfold lx
          rw [List.map_append, List.map_cons]
          congr 2
          unfold plb
          rw [h1]
          rfl
        have e4 : lx pl (rid i S.own) = lx pl pre ++ lx pl post := by
          rw [e2]
          unfold lx
          rw [List.map_append]
        have hL := h.hL
        rw [e3] at hL
        refine fin hmap hu hd rfl (es := es) (cl := cl) (vs := vs) ⟨g, rfl, ?_, hlt, h2, h3s, ?_⟩ h3 hv
        · show some g ∉ lx pl (rid i S.own) ++ F
          rw [e4]; exact hL.gone g rfl
        · show DmR (rp vt) (lx pl (rid i S.own) ++ F) w vs xs ∧ _
          refine ⟨(DmD.iff.2 h4).grow ?_, rfl⟩
          rw [e3, e4]
          exact sub_drop w _ _ F _
      · cases hv
    · exact lRange_ok h hv hx hk
  · rename_i kt vt xs
    split at hv
    · rename_i ke hmap
      have hmap := mapOf_ok hmap
      obtain ⟨cs, ⟨g, vs, rfl, h1, h2, ⟨es, cl, h3, h4, h5⟩, h6⟩, hval⟩ := hx
      exact fin hmap hval h rfl (es := es) (cl := cl) (vs := vs) ⟨g, rfl, h1, h2, h3, h5, h6, rfl⟩ h4 hv
    · cases hv
  · cases hv
theorem lNextM_ok {eq : R -> R -> Bool} (heq : ∀ a b, eq a b = true -> a = b) (h : Rel B F w0 wr pl S l ls w) {x : Operand} {it : SV} (hv : lNextM eq S it K = some r) (hx : Den pl (lx pl S.own ++ F) w it (ev l x)) (hk : Hand B F w0 wr S.nt l ls d K r KK) :
    OW P ⟨d, .next x false, ty, pos, af, gd⟩ l w KK Q := by
  unfold lNextM at hv
  split at hv
  · rename_i j o
    split at hv
    · rename_i kt vt cur rest hgj
      split at hv
      · rename_i hc
        obtain ⟨rfl, ht⟩ := hc
        obtain ⟨g, n, c, b, es, cl, seen, vs, cvs, h1, h2, hrel, h4, _⟩ := h.ent _ (qw_ hgj)
        obtain ⟨b', e0, hng, hlt, hheap, hst, hdm, _⟩ := hrel
        cases e0
        have hheap : w.heap[b]? = some (.map es cl) := hheap
        have hst : Stamped es cl := hst
        have hdm : DmR (rp vt) (lx pl S.own ++ F) w vs rest := hdm
        obtain ⟨g0, n0, c0, h7, hu⟩ := hx
        rw [h1] at h7
        cases h7
        obtain ⟨hn1, hn2⟩ := nextL_ok heq hv
        rcases run_next_at (P := P) w ty g b cl cl seen es cl h2 hheap (fun y hy => hst.1 y hy) (Nat.le_refl _) with ⟨hz, hrun⟩ | ⟨e, he, w1, hw1, hrun⟩
        · have hle : (leftOf es seen).toList = [] := by rw [Array.eq_empty_of_size_eq_zero hz]
          rw [hle] at h4
          have hvs : vs = [] := by
            cases vs with
            | nil => rfl
            | cons a q => simp at h4
          subst hvs
          refine q55_ (v := .tuple #[.bool false]) (w' := w) ?_ (hk pl S (.tup [.d .bool false]) _ w h rfl ⟨[.bool false], ⟨_, _, rfl, den_b _, rfl⟩, rfl⟩ (hn1 hdm))
          simp only [execOp, hu, Sem.run_bind, hrun, Result.andThen_ok, Sem.run_pure]
        · obtain ⟨pre, post, hpp⟩ := List.append_of_mem he
          rw [hpp, List.map_append, List.map_cons] at h4
          obtain ⟨v1, v', e1, e2, e3⟩ := List.map_eq_append_iff.1 h4.symm
          obtain ⟨v, v2, e4, e5, e6⟩ := List.map_eq_cons_iff.1 e3
          subst e4
          subst e1
          obtain ⟨r1, y, r2, f1, ⟨f2, cs, f3, f4⟩, f5⟩ := DmR.split hdm
          have hks := hn2 r1 y r2 f1
          have hlt' : g < w.heap.size := (Array.getElem?_eq_some_iff.1 h2).1
          have hf : Fz [some g] w (ChangeMaps.setBlock w1 g (.mapIter (some b) cl (seen.push e.born) cl)) := by
            rcases hw1 with rfl | rfl
            · exact Fz.setobj w1 g _
            · exact (Fz.drew [some g] w).trans (Fz.setobj w.drew g _)
          obtain ⟨hpl, hmemg⟩ := plb_mem hgj h1
          have hS : Stp B (lx pl S.own) (lx pl S.own) F [some g] w _ := Stp.store h.hL hmemg hf
          have hE := Ext.of_stp (pl := pl) (pl' := pl) hS (fun _ _ h => h)
          have hheap' : (ChangeMaps.setBlock w1 g (.mapIter (some b) cl (seen.push e.born) cl)).heap[g]? = some (.mapIter (some b) cl (seen.push e.born) cl) := by
            have h3' : w1.heap[g]? = some (.mapIter (some b) cl seen cl) := by rcases hw1 with rfl | rfl <;> exact h2
            have hlt' := (Array.getElem?_eq_some_iff.1 h3').1
            simp [ChangeMaps.setBlock, hlt']
          have hnew : (leftOf es (seen.push e.born)).toList = pre ++ post := by
            rw [leftOf_push, hpp]
            refine filter_one ?_
            rw [<- hpp, leftOf_list]
            exact hst.2.1.sublist ((List.filter_sublist).map _)
          have hrel' := hS.rel (R := rpEs (keyV kt) (rp vt)) (x := (es, cl, v1 ++ v2, r1 ++ r2, [v], [y])) ⟨b, rfl, hng, hlt, hheap, hst, f5, y, [], rfl, f2, ⟨cs, f3, f4⟩, rfl⟩
          have hk1 : e.key = keyV kt v.1 := (congrArg Prod.fst e5).symm
          have hk2 : e.val = v.2 := (congrArg Prod.snd e5).symm
          have hme : e ∈ es.toList := by rw [leftOf_list] at he; exact (List.mem_filter.1 he).1
          have hr := h.mod (e' := .itd kt vt [y] (r1 ++ r2)) hgj (by rw [hpl]; exact hS) ⟨g, n, c, b, es, cl, seen.push e.born, v1 ++ v2, [v], h1, hheap', hrel', (by rw [hnew, List.map_append, List.map_append, e2, e6]), seen, e, rfl, hme, hk1, hk2⟩
          refine q55_ (v := .tuple #[.bool true, e.key, e.val]) ?_ (hk pl _ (.tup [.d .bool true, .d kt y.1, .d vt y.2]) _ _ hr rfl ⟨[.bool true, e.key, e.val], ⟨_, _, rfl, den_b _, _, _, rfl, by rw [hk1, f2]; exact den_key ht _, _, _, rfl, ?_, rfl⟩, rfl⟩ hks)
          · simp only [execOp, hu, Sem.run_bind, hrun, Result.andThen_ok, Sem.run_pure]
          · show Den pl (lx pl (pute j (.itd kt vt [y] (r1 ++ r2)) S.own) ++ F) _ _ _
            rw [lx_pute hgj]
            exact ⟨cs, hE.rel _ f3, by rw [hk2, f4]⟩
      · cases hv
    · exact lNext_ok heq h hv hx hk
  · cases hv
theorem qEntryM_ok {own : List (Nat × Ent)} (he : EntsD pl L w own) {x : Operand} {it : SV} {K : SV -> List Nat -> Option R} (h : qEntryM own it K = some r) (hx : Den pl L w it (ev l x)) :
    ∃ s' rd, K s' rd = some r ∧ Yv P pl L w l ⟨d, .entry x, ty, pos, af, gd⟩ s' rd := by
  unfold qEntryM at h
  split at h
  · rename_i j o
    split at h
    · rename_i kt vt cur rest hgj
      split at h
      · rename_i y
        split at h
        · rename_i hc
          obtain ⟨rfl, ht⟩ := hc
          obtain ⟨g, n, c, b, es, cl, seen, vs, cvs, h1, h2, hrel, h4, hcur⟩ := he.get hgj
          obtain ⟨b', e0, hng, hlt, hheap, hst, hdm, hcd⟩ := hrel
          cases e0
          have hheap : w.heap[b]? = some (.map es cl) := hheap
          have hst : Stamped es cl := hst
          have hcd : DmR (rp vt) L w cvs [y] := hcd
          cases cvs with
          | nil => cases hcd
          | cons v q =>
            obtain ⟨z, q', e1, f2, ⟨cs, f3, f4⟩, f5⟩ := hcd
            cases e1
            obtain ⟨i, e, rfl, hme, hk1, hk2⟩ := hcur
            obtain ⟨g0, n0, c0, h7, hu⟩ := hx
            rw [h1] at h7
            cases h7
            refine ⟨_, _, h, .tuple #[e.key, e.val], ⟨[e.key, e.val], ⟨_, _, rfl, by rw [hk1, f2]; exact den_key ht _, _, _, rfl, ⟨cs, f3, by rw [hk2, f4]⟩, rfl⟩, rfl⟩, fun w' hF hrd => ?_⟩
            have e1 : w'.heap[g]? = some (.mapIter (some b) cl (i.push e.born) cl) := by
              rw [hrd j (by simp) g (by rw [q41_ h1]; rfl), h2]
            have e2 : w'.heap[b]? = some (.map es cl) := by rw [hF.block b hlt hng]; exact hheap
            have hrun := run_entry_at (P := P) w' g b cl i es cl e e1 e2 hme hst.2.1
            simp only [execOp, hu, Sem.run_bind, hrun, Result.andThen_ok, Sem.run_pure]
        · cases h
      · cases h
    · exact qEntry_ok he h hx
  · cases h
end
end Ev
end
section
namespace Ev
open Go Go.RowKit Sx
def rowsOf : SV -> List Nat
  | .row i => [i]
  | .rowz i => [i]
  | .sub i _ _ _ => [i]
  | .agg l => l.filterMap fun
    | .row i => some i
    | .rowz i => some i
    | .sub i _ _ _ => some i
    | _ => none
  | _ => []
def rowsIn (S : St) : List Operand -> List Nat
  | [] => []
  | x :: q => (match opv S x with
    | some s => rowsOf s
    | none => []) ++ rowsIn S q
section
variable {R : Type} {B : Nat -> Prop} {F : Lx} {w0 : Bs} {wr : Wr} {pl pl' : List Place} {S S' : St} {l l' : List Value} {ls : List (List Value)} {w w' : World} {L L' M : Lx} {P : Program} {d : Option Tmp} {ty : TypeId} {pos : String} {af : Array Edge} {gd : Option (Nat × Bool)}
  {Q : Exit -> Act -> World -> Prop} {KK : List Value -> World -> Prop} {K : St -> SV -> Option R} {r : R}
def isItf (P : Program) (t : TypeId) : Bool := match P.underlying t with
  | some (.interface _) => true
  | some _ => false
  | none => true
def isPb : SV -> Bool
  | .pb _ _ => true
  | _ => false
def qv2 (P : Program) (S : St) (op : Op) (K : SV -> List Nat -> Option R) : Option R :=
  match op with
  | .build t q => qBuild P S t q.toList K
  | .makeFunc fn a b => match opvs S a.toList, opvs S b.toList with
    | some x, some y => K (.fn fn x y) []
    | _, _ => none
  | .makeInterface t x => if isItf P t = false then (match opv S x with
    | some s => K (.ifc t s) []
    | none => none) else none
  | .binOp op t x y u => match opv S x with
    | some a => match nilK P t y a with
      | some _ => qNil P op t y a K
      | none => match opv S y with
        | some b => if isPb a = true then qPtr P op t a b K else if isAggS a = true then qEq P op t a b K else qv P S (.binOp op t x y u) K
        | none => none
    | none => none
  | .lookup t x y ok => match opv S x, opv S y with
    | some m, some k => qLook P S.own t m k ok K
    | _, _ => none
  | .entry x => match opv S x with
    | some it => qEntryM S.own it K
    | none => none
  | .call ⟨.builtin .len, ⟨[x]⟩, ⟨[t]⟩⟩ => match opv S x with
    | some (.mp i) => qMapLen P S.own t (.mp i) K
    | some (.d (.mp a b) xs) => qMapLen P S.own t (.d (.mp a b) xs) K
    | some (.row i) => if isRo S.own i = true then qLenO P S.own t (.row i) K else qv P S (.call ⟨.builtin .len, ⟨[x]⟩, ⟨[t]⟩⟩) K
    | _ => qv P S (.call ⟨.builtin .len, ⟨[x]⟩, ⟨[t]⟩⟩) K
  | .load t x => match opv S x with
    | some (.prw i j sz o) => if isRo S.own i = true then qLoadO P S.own t (.prw i j sz o) K else if isRq S.own i = true then qLoadQ P S.own t (.prw i j sz o) K else qv P S (.load t x) K
    | _ => qv P S (.load t x) K
  | .indexAddr t x y => match opv S x, opv S y with
    | some (.row i), some j => if isRo S.own i = true then qIndexO P S.own t (.row i) j K else if isRq S.own i = true then qIndexQ P S.own t (.row i) j K else qv P S (.indexAddr t x y) K
    | _, _ => qv P S (.indexAddr t x y) K
  | op => qv P S op K
theorem qv2_ok (hf : FrD pl L w S.fr l) (he : EntsD pl L w S.own) {op : Op} {K : SV -> List Nat -> Option R} {r : R} (h : qv2 P S op K = some r) :
    ∃ s rd, K s rd = some r ∧ Yv P pl L w l ⟨d, op, ty, pos, af, gd⟩ s rd := by
  unfold qv2 at h
  split at h
  · exact qBuild_ok hf h
  · split at h
    · rename_i fn a b _ _ x y h1 h2
      refine ⟨_, _, h, Yv.of (v := .func fn (a.map (ev l)) (b.map (ev l))) ⟨_, _, opvs_den hf h1, opvs_den hf h2, by rw [show a.map (ev l) = (a.toList.map (ev l)).toArray from Array.ext' (by simp), show b.map (ev l) = (b.toList.map (ev l)).toArray from Array.ext' (by simp)]⟩ (fun w' => ?_)⟩
      simp [execOp, Instr.makeFunc]
    · cases h
  · split at h
    · rename_i hi
      split at h
      · rename_i t x _ s hs
        refine ⟨_, _, h, Yv.of (v := .iface t (ev l x)) ⟨_, qm_ hf hs, rfl⟩ (fun w' => ?_)⟩
        unfold isItf at hi
        split at hi
        · cases hi
        · rename_i dd hno hd
          have : (Instr.makeInterface t (ev l x)).run P w' = .ok (.iface t (ev l x)) w' := by
            unfold Instr.makeInterface
            simp only [Sem.run_bind, run_underlying hd, Result.andThen_ok]
            rfl
          simp only [execOp, Sem.run_bind, this, Result.andThen_ok, Sem.run_pure]
        · cases hi
      · cases h
    · cases h
  · split at h
    · rename_i a h1
      split at h
      · exact qNil_ok h (qm_ hf h1)
      · split at h
        · rename_i h2
          split at h
          · exact qPtr_ok h (qm_ hf h1) (qm_ hf h2)
          · split at h
            · exact qEq_ok h (qm_ hf h1) (qm_ hf h2)
            · exact qv_ok hf he h
        · cases h
    · cases h
  · split at h
    · rename_i h1 h2
      exact qLook_ok he h (qm_ hf h1) (qm_ hf h2)
    · cases h
  · split at h
    · rename_i h1
      exact qEntryM_ok he h (qm_ hf h1)
    · cases h
  · split at h
    · rename_i h1
      exact qMapLen_ok he h (qm_ hf h1)
    · rename_i h1
      exact qMapLen_ok he h (qm_ hf h1)
    · rename_i h1
      split at h
      · exact qLenO_ok he h (qm_ hf h1)
      · exact qv_ok hf he h
    · exact qv_ok hf he h
  · split at h
    · rename_i h1
      split at h
      · exact qLoadO_ok he h (qm_ hf h1)
      · split at h
        · exact qLoadQ_ok he h (qm_ hf h1)
        · exact qv_ok hf he h
    · exact qv_ok hf he h
  · split at h
    · rename_i h1 h2
      split at h
      · exact qIndexO_ok he h (qm_ hf h1) (qm_ hf h2)
      · split at h
        · exact qIndexQ_ok he h (qm_ hf h1) (qm_ hf h2)
        · exact qv_ok hf he h
    · exact qv_ok hf he h
  · exact qv_ok hf he h
def lNil (P : Program) (S : St) (eq : R -> R -> Bool) (o : BinOp) (t : TypeId) (x : Operand) (u : TypeId) (K : St -> SV -> Option R) : Option R :=
  match opv S x, P.underlying t with
  | some (.d (.sl _) xs), some (.slice _) => if eqi (Int.ofNat xs.length) 0 = true then amb eq [K S (.d .bool true), K S (.d .bool false)] else K S (.d .bool (if o = .eql then false else true))
  | _, _ => qv2 P S (.binOp o t x (.const (.slice none 0 0)) u) (fun s _ => K S s)
theorem lNil_ok {eq : R -> R -> Bool} (heq : ∀ a b, eq a b = true -> a = b) (h : Rel B F w0 wr pl S l ls w) {o : BinOp} (ho : o = .eql ∨ o = .neq) {t : TypeId} {x : Operand} {u : TypeId} (hv : lNil P S eq o t x u K = some r) (hk : Hand B F w0 wr S.nt l ls d K r KK) :
    OW P ⟨d, .binOp o t x (.const (.slice none 0 0)) u, ty, pos, af, gd⟩ l w KK Q := by
  unfold lNil at hv
  split at hv
  · rename_i y xs e hx he
    obtain ⟨cs, ⟨a, cap, hcs, hcap, hel⟩, hval⟩ := qm_ h.fr hx
    subst hcs
    have hxv : Sx.ev l x = .slice a xs.length cap := by rw [hval]; simp [Rp.val, q5i_, Ty.agg]
    obtain ⟨b, hb, hnb⟩ : ∃ b, NilPair P t (Sx.ev l x) (.slice none 0 0) b ∧ (xs ≠ [] -> b = false) := by
      rw [hxv]
      cases a with
      | none => exact ⟨true, .sv he, fun hne => by obtain ⟨b, o, h1, _⟩ := hel hne; cases h1⟩
      | some a => exact ⟨false, .sa he, fun _ => rfl⟩
    have hrun := hb.run (d := d) (ty := ty) (pos := pos) (af := af) (g := gd) (u := u) (w := w) ho
    refine q55_ hrun (hk pl S (.d .bool (if o = .eql then b else !b)) _ w h rfl (den_b _) ?_)
    split at hv
    · have hall := amb_ok heq hv
      cases (if o = .eql then b else !b)
      · exact hall _ (by simp)
      · exact hall _ (by simp)
    · rename_i hl
      have hne : xs ≠ [] := fun e => hl (by subst e; rfl)
      rw [hnb hne]
      rcases ho with rfl | rfl
      · simpa using hv
      · simpa using hv
  · obtain ⟨s, rd, h1, v, h2, h3⟩ := qv2_ok h.fr h.ent hv
    exact q55_ (h3 w (Fz.refl _ _) (fun _ _ _ _ => rfl)) (hk pl S s v w h rfl h2 h1)
def froz (S : St) (q : List Operand) : St := frzL (rowsIn S q) S
def bxT (env : Env) (t : TypeId) : Bool := match env (1000000 + t) with
  | [] => false
  | _ => true
def fzT (env : Env) (t : TypeId) : Bool := match env (2000000 + t) with
  | [] => false
  | _ => true
def opT (env : Env) (t : TypeId) : Bool := match env (3000000 + t) with
  | [] => false
  | _ => true
def opX (env : Env) (t : TypeId) : Bool := match env (5000000 + t) with
  | [] => false
  | _ => true
def isDx (S : St) (x : Operand) : Bool := match opv S x with
  | some (.dx _ _) => true
  | _ => false
def isOp (S : St) (y : Operand) : Bool := match opv S y with
  | some s => isO S.own s
  | none => false
def opL (P : Program) (env : Env) (cl : Cl R) (S : St) (op : Op) (ty : TypeId) (K : St -> SV -> Option R) : Option R :=
  match op with
  | .alloc t => if bxT env t = true then lAlloc P S t K else lAlloc2 P S t K
  | .box t x => match opv S x with
    | some s => if bxT env t = true then lBox S t s K else if fzT env t = true then (match opv (froz S [x]) x with
      | some s => lBoxF P (froz S [x]) t s K
      | none => none) else lBox2 P S t s K
    | none => none
  | .store t a x => match opv S a with
    | some (.prw i j sz o) => if isRo S.own i = true then (match opv S x with
      | some s => lStoreO P S t (.prw i j sz o) s K
      | none => none) else match opv (froz S [x]) a, opv (froz S [x]) x with
      | some a', some s => lStore P (froz S [x]) t a' s K
      | _, _ => none
    | some (.pra _ _ _ _ _ _ _ _) => match opv (froz S [x]) a, opv (froz S [x]) x with
      | some a', some s => lStore P (froz S [x]) t a' s K
      | _, _ => none
    | some a' => match opv S x with
      | some s => lStore2 P S t a' s K
      | none => none
    | none => none
  | .makeSlice t a b => match opv S a, opv S b with
    | some x, some y => lMake P S t x y K
    | _, _ => none
  | .buildSlice t n q => if opT env t = true then lLitO P S t n q.toList K else lLit P (froz S (q.toList.map (·.2))) t n q.toList K
  | .slice t x lo hi (some m) => match opv S x with
    | some s => if opX env t = true then lMaxF P S t s lo hi m K else lMax P S t s lo hi m K
    | none => none
  | .convert t u x => match opv S x, isU8sl P u with
    | some (.d .str b), some _ => lBytes P S t u (.d .str b) K
    | _, _ => qv2 P S (.convert t u x) (fun s _ => K S s)
  | .call ⟨.builtin .append, ⟨[x, y]⟩, ⟨[t, t']⟩⟩ => if isOp S y = true then (match opv S x, opv S y with
    | some s1, some s2 => if t = t' then lAppO P S t s1 s2 K else none
    | _, _ => none) else match opv (froz S [y]) x, opv (froz S [y]) y with
    | some s1, some s2 => if t = t' then (if isDx (froz S [y]) x = true then lAppF P (froz S [y]) t s1 s2 K else lAppend P (froz S [y]) t s1 s2 K) else lAppendS P (froz S [y]) t t' s1 s2 K
    | _, _ => none
  | .call ⟨.builtin .copy, ⟨[x, y]⟩, ⟨[t, _]⟩⟩ => match opv (froz S [y]) x, opv (froz S [y]) y with
    | some s1, some s2 => lCopy P (froz S [y]) t s1 s2 K
    | _, _ => none
  | .call ⟨.builtin .delete, ⟨[x, i]⟩, ⟨[t, _]⟩⟩ => match opv S x, opv S i with
    | some m, some k => lMapDel P S t m k K
    | _, _ => none
  | .call ⟨.builtin .unsafeSliceData, ⟨[x]⟩, _⟩ => match opv S x with
    | some s => lSD P S ty s K
    | none => none
  | .call ⟨.builtin .unsafeString, ⟨[x, y]⟩, ⟨[pt, _]⟩⟩ => match opv S x, opv S y with
    | some s, some n => lUS P S pt s n K
    | _, _ => none
  | .call ⟨.value x, args, _⟩ => match x with
    | .func f => match xk P f, opvs S args.toList with
      | some k, some ss => lExt k S ss K
      | _, _ => lCall env cl (gCall P x args.toList) S K
    | _ => lCall env cl (gCall P x args.toList) S K
  | .call ⟨.invoke x name, args, _⟩ => lCall env cl (gInv P x name args.toList) S K
  | .makeMap t none => lMakeMap P S t K
  | .mapUpdate t x i y => match opv (froz S [y]) x, opv (froz S [y]) i, opv (froz S [y]) y with
    | some m, some k, some v => lMapPut P (froz S [y]) t m k v K
    | _, _, _ => none
  | .insert t x i y => match opv (froz S [y]) x, opv (froz S [y]) i, opv (froz S [y]) y with
    | some m, some k, some v => lMapPut P (froz S [y]) t m k v K
    | _, _, _ => none
  | .range t x => match opv S x with
    | some m => lRangeM P S t m K
    | none => none
  | .next x false => match opv S x with
    | some it => lNextM cl.eq S it K
    | none => none
  | .binOp .eql t x (.const (.slice none 0 0)) u => lNil P S cl.eq .eql t x u K
  | .binOp .neq t x (.const (.slice none 0 0)) u => lNil P S cl.eq .neq t x u K
  | op => qv2 P S op (fun s _ => K S s)
theorem opL_ok {env : Env} {cl : Cl R} (henv : EnvOk P w0.I env) (hcl : ClOk P w0.I cl) (h : Rel B F w0 wr pl S l ls w) {op : Op} (hv : opL P env cl S op ty K = some r) (hk : Hand B F w0 wr S.nt l ls d K r KK) :
    OW P ⟨d, op, ty, pos, af, gd⟩ l w KK Q := by
  have hq : ∀ op, qv2 P S op (fun s _ => K S s) = some r -> OW P ⟨d, op, ty, pos, af, gd⟩ l w KK Q := fun op hv => by
    obtain ⟨s, rd, h1, v, h2, h3⟩ := qv2_ok h.fr h.ent hv
    exact q55_ (h3 w (Fz.refl _ _) (fun _ _ _ _ => rfl)) (hk pl S s v w h rfl h2 h1)
  have hz : ∀ q, Rel B F w0 wr pl (froz S q) l ls w ∧ (froz S q).nt = S.nt := fun q => frzL_ok h
  unfold opL at hv
  split at hv
  · split at hv
    · exact lAlloc_ok h hv hk
    · exact lAlloc2_ok h hv hk
  · rename_i t x
    split at hv
    · rename_i s hs
      split at hv
      · exact lBox_ok h hv (qm_ h.fr hs) hk
      · split at hv
        · obtain ⟨h1, h2⟩ := hz [x]
          split at hv
          · rename_i s' hs'
            exact lBoxF_ok h1 hv (qm_ h1.fr hs') (by rw [h2]; exact hk)
          · cases hv
        · exact lBox2_ok h hv (qm_ h.fr hs) hk
    · cases hv
  · split at hv
    · rename_i t a x _ _ _ _ _ ha0
      split at hv
      · split at hv
        · rename_i s hs
          exact lStoreO_ok h hv (qm_ h.fr ha0) (qm_ h.fr hs) hk
        · cases hv
      · obtain ⟨h1, h2⟩ := hz [x]
        split at hv
        · rename_i a' s ha hs
          exact lStore_ok h1 hv (qm_ h1.fr ha) (qm_ h1.fr hs) (by rw [h2]; exact hk)
        · cases hv
    · rename_i t a x _ _ _ _ _ _ _ _ _ _
      obtain ⟨h1, h2⟩ := hz [x]
      split at hv
      · rename_i a' s ha hs
        exact lStore_ok h1 hv (qm_ h1.fr ha) (qm_ h1.fr hs) (by rw [h2]; exact hk)
      · cases hv
    · rename_i a' _ ha
      split at hv
      · rename_i s hs
        exact lStore2_ok h hv (qm_ h.fr ha) (qm_ h.fr hs) hk
      · cases hv
    · cases hv
  · split at hv
    · rename_i h1 h2
      exact lMake_ok h hv (qm_ h.fr h1) (qm_ h.fr h2) hk
    · cases hv
  · rename_i t n q
    split at hv
    · exact lLitO_ok h hv hk
    · obtain ⟨h1, h2⟩ := hz (q.toList.map (·.2))
      exact lLit_ok h1 hv (by rw [h2]; exact hk)
  · split at hv
    · rename_i hs
      split at hv
      · exact lMaxF_ok h hv (qm_ h.fr hs) hk
      · exact lMax_ok h hv (qm_ h.fr hs) hk
    · cases hv
  · split at hv
    · rename_i hs _
      exact lBytes_ok h hv (qm_ h.fr hs) hk
    · exact hq _ hv
  · split at hv
    · split at hv
      · rename_i h3 h4
        split at hv
        · rename_i ht
          have hv2 := hv
          subst ht
          exact lAppO_ok h hv2 (qm_ h.fr h3) (qm_ h.fr h4) hk
        · cases hv
      · cases hv
    · split at hv
      · rename_i h3 h4
        obtain ⟨h1, h2⟩ := hz [_]
        split at hv
        · rename_i ht
          have hv2 := hv
          subst ht
          split at hv2
          · exact lAppF_ok h1 hv2 (qm_ h1.fr h3) (qm_ h1.fr h4) (by rw [h2]; exact hk)
          · exact lAppend_ok h1 hv2 (qm_ h1.fr h3) (qm_ h1.fr h4) (by rw [h2]; exact hk)
        · exact lAppendS_ok h1 hv (qm_ h1.fr h3) (qm_ h1.fr h4) (by rw [h2]; exact hk)
      · cases hv
  · split at hv
    · rename_i h3 h4
      obtain ⟨h1, h2⟩ := hz [_]
      exact lCopy_ok h1 hv (qm_ h1.fr h3) (qm_ h1.fr h4) (by rw [h2]; exact hk)
    · cases hv
  · split at hv
    · rename_i h3 h4
      exact lMapDel_ok h hv (qm_ h.fr h3) (qm_ h.fr h4) hk
    · cases hv
  · split at hv
    · rename_i h3
      exact lSD_ok h hv (qm_ h.fr h3) hk
    · cases hv
  · split at hv
    · rename_i h3 h4
      exact lUS_ok h hv (qm_ h.fr h3) (qm_ h.fr h4) hk
    · cases hv
  · split at hv
    · split at hv
      · rename_i hf hs
        exact lExt_ok h hf hs hv hk
      · exact lCall_ok henv hcl h gCall_ok hv hk
    · exact lCall_ok henv hcl h gCall_ok hv hk
  · exact lCall_ok henv hcl h gInv_ok hv hk
  · exact lMakeMap_ok h hv hk
  · split at hv
    · rename_i h3 h4 h5
      obtain ⟨h1, h2⟩ := hz [_]
      exact lMapPut_ok h1 (.inl rfl) hv (qm_ h1.fr h3) (qm_ h1.fr h4) (qm_ h1.fr h5) (by rw [h2]; exact hk)
    · cases hv
  · split at hv
    · rename_i h3 h4 h5
      obtain ⟨h1, h2⟩ := hz [_]
      exact lMapPut_ok h1 (.inr rfl) hv (qm_ h1.fr h3) (qm_ h1.fr h4) (qm_ h1.fr h5) (by rw [h2]; exact hk)
    · cases hv
  · split at hv
    · rename_i h3
      exact lRangeM_ok h hv (qm_ h.fr h3) hk
    · cases hv
  · split at hv
    · rename_i h3
      exact lNextM_ok hcl.1 h hv (qm_ h.fr h3) hk
    · cases hv
  · exact lNil_ok hcl.1 h (.inl rfl) hv hk
  · exact lNil_ok hcl.1 h (.inr rfl) hv hk
  · exact hq _ hv
def setd (S : St) (d : Option Tmp) (s : SV) (k : St -> Option R) : Option R :=
  match d with
  | none => k S
  | some t => if t < S.nt then k { S with fr := (t, s) :: S.fr } else none
theorem setd_ok (h : Rel B F w0 wr pl S l ls w) {d : Option Tmp} {s : SV} {v : Value} (hd : Den pl (lx pl S.own ++ F) w s v) {k : St -> Option R} (hv : setd S d s k = some r) : ∃ S', Rel B F w0 wr pl S' (st l d v) ls w ∧ k S' = some r := by
  unfold setd at hv
  split at hv
  · exact ⟨S, h, hv⟩
  · split at hv
    · rename_i t ht
      exact ⟨_, h.set ht hd, hv⟩
    · cases hv
def grd (ops : List Oper) (S : St) (o : Oper) (run skip : St -> Option R) : Option R :=
  match o.guard with
  | none => run S
  | some (j, want) => match (ops[j]?).bind (·.dst) with
    | some t => if t < S.nt then match get S.fr t with
      | some (.d .bool b) => if b = true then (if want = true then run { S with fr := (t, .d .bool true) :: S.fr } else skip { S with fr := (t, .d .bool true) :: S.fr })
        else (if want = true then skip { S with fr := (t, .d .bool false) :: S.fr } else run { S with fr := (t, .d .bool false) :: S.fr })
      | some (.k (.tuple ⟨[]⟩)) => skip S
      | _ => none else none
    | none => none
theorem grd_ok (h : Rel B F w0 wr pl S l ls w) {ops : List Oper} {o : Oper} {run skip : St -> Option R} (hv : grd ops S o run skip = some r) :
    ∃ S', Rel B F w0 wr pl S' l ls w ∧ S'.log = S.log ∧ S'.own = S.own ∧ S'.nx = S.nx ∧ ((wtd ops.toArray o l = true ∧ run S' = some r) ∨ (wtd ops.toArray o l = false ∧ skip S' = some r)) := by
  unfold grd at hv
  split at hv
  · rename_i hg
    exact ⟨S, h, rfl, rfl, rfl, .inl ⟨by unfold wtd Region.wanted; rw [hg], hv⟩⟩
  · rename_i j want hg
    split at hv
    · rename_i t ht
      split at hv
      · rename_i hlt
        have hlen := h.nt
        have hat : (mk l).tmps[t]? = some (l.getD t undef) := by
          have : t < l.length := by rw [hlen]; exact hlt
          simp [mk, this]
        have key : ∀ b : Bool, get S.fr t = some (.d .bool b) -> Rel B F w0 wr pl { S with fr := (t, .d .bool b) :: S.fr } l ls w ∧ wtd ops.toArray o l = (some b == some want) := fun b hb => by
          have hd := den_bool (h.fr t _ hb)
          constructor
          · have h2 := h.set hlt (h.fr t _ hb)
            have e : l.set t (l.getD t undef) = l := by
              have : t < l.length := by rw [hlen]; exact hlt
              rw [List.getD_eq_getElem?_getD, List.getElem?_eq_getElem this]
              simp
            rw [e] at h2
            exact h2
          · unfold wtd Region.wanted
            rw [hg]
            have : yielded ops.toArray (mk l).tmps j = some b := by
              unfold yielded
              have e1 : (ops.toArray[j]?).bind (·.dst) = some t := by simpa using ht
              rw [e1, Option.bind_some, hat, hd]
            show (yielded ops.toArray (mk l).tmps j == some want) = _
            rw [this]
        split at hv
        · rename_i b hb
          obtain ⟨k1, k2⟩ := key b hb
          split at hv
          · rename_i hb1
            subst hb1
            refine ⟨_, k1, rfl, rfl, rfl, ?_⟩
            split at hv
            · rename_i hw; subst hw; exact .inl ⟨by rw [k2]; rfl, hv⟩
            · rename_i hw
              have hw : want = false := by simpa using hw
              subst hw
              exact .inr ⟨by rw [k2]; rfl, hv⟩
          · rename_i hb1
            have hb1 : b = false := by simpa using hb1
            subst hb1
            refine ⟨_, k1, rfl, rfl, rfl, ?_⟩
            split at hv
            · rename_i hw; subst hw; exact .inr ⟨by rw [k2]; rfl, hv⟩
            · rename_i hw
              have hw : want = false := by simpa using hw
              subst hw
              exact .inl ⟨by rw [k2]; rfl, hv⟩
        · rename_i hu
          refine ⟨S, h, rfl, rfl, rfl, .inr ⟨?_, hv⟩⟩
          have hd : l.getD t undef = .tuple ⟨[]⟩ := h.fr t _ hu
          unfold wtd Region.wanted
          rw [hg]
          have : yielded ops.toArray (mk l).tmps j = none := by
            unfold yielded
            have e1 : (ops.toArray[j]?).bind (·.dst) = some t := by simpa using ht
            rw [e1, Option.bind_some, hat, hd]
          show (yielded ops.toArray (mk l).tmps j == some want) = _
          rw [this]
          rfl
        · cases hv
      · cases hv
    · cases hv
def rg (P : Program) (env : Env) (cl : Cl R) (ops : List Oper) : List Oper -> St -> (St -> Option R) -> Option R
  | [], S, k => k S
  | o :: q, S, k => grd ops S o (fun S1 => opL P env cl S1 o.op o.type fun S2 s => setd S2 o.dst s fun S3 => rg P env cl ops q S3 k) (fun S1 => setd S1 o.dst (.k undef) fun S3 => rg P env cl ops q S3 k)
theorem rg_ok {env : Env} {cl : Cl R} (henv : EnvOk P w0.I env) (hcl : ClOk P w0.I cl) {ops : List Oper} : ∀ {q : List Oper} {pl : List Place} {S : St} {l : List Value} {w : World} {k : St -> Option R}, Rel B F w0 wr pl S l ls w -> rg P env cl ops q S k = some r ->
    (∀ pl' S' l' w', Rel B F w0 wr pl' S' l' ls w' -> k S' = some r -> Q .normal (mk l') w') -> WL P ops.toArray Q q l w
  | [], pl, S, l, w, k, h, hv, hk => wl_nil (hk _ _ _ _ h hv)
  | o :: q, pl, S, l, w, k, h, hv, hk => by
    unfold rg at hv
    obtain ⟨S1, h1, _, _, _, h2⟩ := grd_ok h hv
    rcases h2 with ⟨hw, hv⟩ | ⟨hw, hv⟩
    · obtain ⟨d, op, ty, pos, af, gd⟩ := o
      refine wl_op hw (opL_ok henv hcl h1 hv (fun pl' S' s v w' a1 a2 a3 a4 => ?_))
      obtain ⟨S3, b1, b2⟩ := setd_ok a1 a3 a4
      exact rg_ok henv hcl b1 b2 hk
    · obtain ⟨S3, b1, b2⟩ := setd_ok (s := .k undef) (v := undef) h1 rfl hv
      exact wl_not hw (rg_ok henv hcl b1 b2 hk)
end
end Ev
end
section
namespace Ev
open Go Go.RowKit Sx
def msk (acc : List Nat) (s : Nat) (e : Edge) : Nat := if Region.binds .any e = true then s ||| 2 ^ e.on ||| acc.getD e.on 0 else s
def dps : List Oper -> List Nat -> List Nat
  | [], acc => acc
  | o :: q, acc => dps q (acc ++ [o.after.toList.foldl (msk acc) 0])
section
variable {ops : Array Oper}
def MaskOk (ops : Array Oper) (acc : List Nat) : Prop := ∀ (j m p : Nat), acc[j]? = some m -> m.testBit p = true -> Dep ops j p
theorem foldl_msk {acc : List Nat} (h : MaskOk ops acc) {j : Nat} {o : Oper} (ho : ops[j]? = some o) : ∀ (es : List Edge) (s : Nat), (∀ e ∈ es, e ∈ o.after.toList) -> (∀ p, s.testBit p = true -> Dep ops j p) ->
    ∀ p, (es.foldl (msk acc) s).testBit p = true -> Dep ops j p
  | [], s, _, hs, p, hp => hs p hp
  | e :: es, s, he, hs, p, hp => by
    refine foldl_msk h ho es (msk acc s e) (fun e' h' => he e' (List.mem_cons_of_mem _ h')) (fun q hq => ?_) p hp
    unfold msk at hq
    split at hq
    · rename_i hb
      have hmem : e ∈ o.after := by simpa using he e (List.mem_cons_self ..)
      rw [Nat.testBit_or, Nat.testBit_or, Bool.or_eq_true, Bool.or_eq_true] at hq
      rcases hq with (hq | hq) | hq
      · exact hs q hq
      · rw [Nat.testBit_two_pow] at hq
        exact .one ho hmem hb (of_decide_eq_true hq)
      · rw [List.getD_eq_getElem?_getD] at hq
        cases ha : acc[e.on]? with
        | none => rw [ha] at hq; simp at hq
        | some m =>
          rw [ha] at hq
          exact .step ho hmem hb rfl (h _ _ _ ha hq)
    · exact hs q hq
theorem dps_ok : ∀ (q : List Oper) (pre : List Oper) (acc : List Nat), ops = (pre ++ q).toArray -> acc.length = pre.length -> MaskOk ops acc -> MaskOk ops (dps q acc)
  | [], _, _, _, _, h => h
  | o :: q, pre, acc, ho, hl, h => by
    have hat : ops[pre.length]? = some o := by rw [ho]; simp
    refine dps_ok q (pre ++ [o]) _ (by rw [ho]; simp) (by simp [hl]) (fun j m p hj hp => ?_)
    rcases Nat.lt_or_ge j acc.length with hlt | hge
    · rw [List.getElem?_append_left hlt] at hj
      exact h j m p hj hp
    · rw [List.getElem?_append_right hge] at hj
      have : j = acc.length := by
        rcases Nat.lt_or_ge acc.length j with h1 | h1
        · rw [List.getElem?_eq_none (by simp; omega)] at hj; cases hj
        · omega
      subst this
      rw [Nat.sub_self] at hj
      have hj : some (o.after.toList.foldl (msk acc) 0) = some m := hj
      cases hj
      rw [hl]
      exact foldl_msk h hat _ 0 (fun e he => he) (fun p hp => by simp at hp) p hp
end
abbrev Tl := List (Nat × List Nat × Bool)
def chk (ds : List Nat) (i : Nat) (log : List Nat) (own : List (Nat × Ent)) : Tl -> Option Tl
  | [] => some []
  | (p, rd, al) :: q => (chk ds i log own q).bind fun q' =>
    if al = true ∧ rd.all (fun x => !log.contains x && (get own x).isSome) = true then some ((p, rd, true) :: q')
    else if (ds.getD i 0).testBit p = true then some ((p, rd, false) :: q') else none
section
variable {R : Type} {B : Nat -> Prop} {F : Lx} {w0 : Bs} {wr : Wr} {pl pl' : List Place} {S S' : St} {l l' : List Value} {ls : List (List Value)} {w w' : World} {L L' M : Lx} {P : Program} {d : Option Tmp} {ty : TypeId} {pos : String} {af : Array Edge} {gd : Option (Nat × Bool)}
  {Q : Exit -> Act -> World -> Prop} {KK : List Value -> World -> Prop} {K : St -> SV -> Option R} {r : R}
structure Asks (F : Lx) (pl : List Place) (own : List (Nat × Ent)) (w : World) (rd : List Nat) (Y : World -> Prop) : Prop where
  out : ∃ (plp : List Place) (Lp : Lx) (wp : World), (∀ w', Y w' ↔ (Fz Lp wp w' ∧ ∀ i ∈ rd, ∀ k, plb plp i = some k -> w'.heap[k]? = wp.heap[k]?)) ∧ Y w ∧ Sub wp (lx pl own ++ F) Lp ∧ (∀ (i : Nat) (p : Place), plp[i]? = some p -> pl[i]? = some p)
def TOk (F : Lx) (pl : List Place) (own : List (Nat × Ent)) (w : World) : Tl -> Tk -> Prop
  | [], T => T = []
  | (p, rd, al) :: q, T => ∃ Y r, T = (p, Y) :: r ∧ (al = true -> Asks F pl own w rd Y) ∧ TOk F pl own w q r
theorem chk_ok {opl : List Oper} {ds : List Nat} (hds : MaskOk opl.toArray ds) {i : Nat} {pl1 pl2 : List Place} {S1 S2 : St} {l1 l2 : List Value} {ls1 ls2 : List (List Value)} {w1 w2 : World} (h1 : Rel B F w0 wr pl1 S1 l1 ls1 w1) (h2 : Rel B F w0 (here F pl1 S1 w1) pl2 S2 l2 ls2 w2) :
    ∀ {T T' : Tl} {Tk : Tk}, chk ds i S2.log S2.own T = some T' -> TOk F pl1 S1.own w1 T Tk -> TOk F pl2 S2.own w2 T' Tk ∧ ST opl.toArray Tk i w2
  | [], T', Tk, h, ht => by cases h; cases ht; exact ⟨rfl, fun x hx => by cases hx⟩
  | (p, rd, al) :: q, T', Tk, h, ⟨Y, r, hT, ha, hr⟩ => by
    subst hT
    obtain ⟨q', hq, h⟩ := q1o_ h
    obtain ⟨i1, i2⟩ := chk_ok hds h1 h2 hq hr
    have dead : (ds.getD i 0).testBit p = true -> Dep opl.toArray i p := fun hb => by
      rw [List.getD_eq_getElem?_getD] at hb
      cases hd : ds[i]? with
      | none => rw [hd] at hb; simp at hb
      | some m => rw [hd] at hb; exact hds i m p hd hb
    split at h
    · rename_i hcond
      cases h
      obtain ⟨plp, Lp, wp, k1, k2, k3, k4⟩ := (ha hcond.1).out
      have k2' := (k1 w1).1 k2
      have hsz := k2'.1.size
      have hf := h2.tn.fz
      have hY : Y w2 := by
        refine (k1 w2).2 ⟨⟨hf.os.trans k2'.1.os, hf.tape.trans k2'.1.tape, hf.output.trans k2'.1.output, Nat.le_trans hsz hf.size, fun k hk hn => ?_⟩, fun x hx k hk => ?_⟩
        · rw [hf.block k (Nat.lt_of_lt_of_le hk hsz) (fun hm => ?_)]
          · exact k2'.1.block k hk hn
          · rcases k3 k hm with h3 | h3
            · exact hn h3
            · omega
        · have hall := List.all_eq_true.1 hcond.2 x hx
          simp only [Bool.and_eq_true, Bool.not_eq_true', Option.isSome_iff_exists] at hall
          obtain ⟨hnl, e, hg⟩ := hall
          have hpl1 : plb pl1 x = some k := plb_ext k4 hk
          have hlt : x < S1.nx := by
            unfold plb at hpl1
            obtain ⟨pp, hp1, _⟩ := Option.bind_eq_some_iff.1 hpl1
            rw [h1.nx]
            exact (List.getElem?_eq_some_iff.1 hp1).1
          rw [h2.tn.keep (x, e) (qw_ hg) hlt (by simpa using hnl) k (plb_ext h2.tn.pls hpl1)]
          exact k2'.2 x hx k hk
      refine ⟨⟨Y, r, rfl, fun _ => ⟨plp, Lp, wp, k1, hY, fun k hk => ?_, fun j p hj => h2.tn.pls j p (k4 j p hj)⟩, i1⟩, fun x hx => ?_⟩
      · rcases h2.tn.sb k hk with h3 | h3
        · exact k3 k h3
        · exact .inr (Nat.le_trans hsz h3)
      · rcases List.mem_cons.1 hx with hx | hx
        · subst hx; exact .inr hY
        · exact i2 x hx
    · split at h
      · rename_i hb
        cases h
        refine ⟨⟨Y, r, rfl, fun h => (by cases h), i1⟩, fun x hx => ?_⟩
        rcases List.mem_cons.1 hx with hx | hx
        · subst hx; exact .inl (dead hb)
        · exact i2 x hx
      · cases h
theorem TOk.same : ∀ {T : Tl} {Tk : Tk} {own own' : List (Nat × Ent)}, TOk F pl own w T Tk -> lx pl own' = lx pl own -> TOk F pl own' w T Tk
  | [], _, _, _, h, _ => h
  | (p, rd, al) :: q, _, own, own', ⟨Y, r, hT, ha, hr⟩, he => ⟨Y, r, hT, fun hal => by
      obtain ⟨plp, Lp, wp, h1, h2, h3, h4⟩ := (ha hal).out
      exact ⟨plp, Lp, wp, h1, h2, by rw [he]; exact h3, h4⟩, TOk.same hr he⟩
def rdw (P : Program) (env : Env) (cl : Cl R) (ops : List Oper) (ds : List Nat) : List (Nat × Bool × Oper) -> Tl -> St -> (St -> Option R) -> Option R
  | [], _, S, k => k S
  | (i, true, o) :: q, T, S, k => grd ops S o (fun S1 => qv2 P S1 o.op fun s rd => setd S1 o.dst s fun S3 => rdw P env cl ops ds q ((i, rd, true) :: T) S3 k)
      (fun S1 => setd S1 o.dst (.k undef) fun S3 => rdw P env cl ops ds q ((i, [], true) :: T) S3 k)
  | (i, false, o) :: q, T, S, k => grd ops S o (fun S1 => opL P env cl { S1 with log := [] } o.op o.type fun S2 s => match chk ds i S2.log S2.own T with
        | some T' => setd { S2 with log := S1.log ++ S2.log } o.dst s fun S3 => rdw P env cl ops ds q T' S3 k
        | none => none)
      (fun S1 => setd S1 o.dst (.k undef) fun S3 => rdw P env cl ops ds q T S3 k)
theorem setd_ok2 (h : Rel B F w0 wr pl S l ls w) {d : Option Tmp} {s : SV} {v : Value} (hd : Den pl (lx pl S.own ++ F) w s v) {k : St -> Option R} (hv : setd S d s k = some r) : ∃ S', Rel B F w0 wr pl S' (st l d v) ls w ∧ k S' = some r ∧ S'.own = S.own := by
  unfold setd at hv
  split at hv
  · exact ⟨S, h, hv, rfl⟩
  · split at hv
    · rename_i t ht
      exact ⟨_, h.set ht hd, hv, rfl⟩
    · cases hv
theorem rdw_ok {env : Env} {cl : Cl R} (henv : EnvOk P w0.I env) (hcl : ClOk P w0.I cl) {ops : List Oper} {ds : List Nat} (hds : MaskOk ops.toArray ds) : ∀ {q : List (Nat × Bool × Oper)} {T : Tl} {Tk : Tk} {pl : List Place} {S : St} {l : List Value} {w : World} {k : St -> Option R},
    Rel B F w0 wr pl S l ls w -> TOk F pl S.own w T Tk -> rdw P env cl ops ds q T S k = some r ->
    (∀ pl' S' l' w', Rel B F w0 wr pl' S' l' ls w' -> k S' = some r -> Q .normal (mk l') w') -> WY P ops.toArray Q q Tk l w
  | [], T, Tk, pl, S, l, w, k, h, ht, hv, hk => hk _ _ _ _ h hv
  | (i, true, o) :: q, T, Tk, pl, S, l, w, k, h, ht, hv, hk => by
    unfold rdw at hv
    obtain ⟨S1, h1, _, e2, _, h2⟩ := grd_ok h hv
    have ht1 : TOk F pl S1.own w T Tk := ht.same (by rw [e2])
    rcases h2 with ⟨hw, hv⟩ | ⟨hw, hv⟩
    · obtain ⟨d, op, ty, pos, af, gd⟩ := o
      obtain ⟨s, rd, hv, v, hd, hy⟩ := qv2_ok (d := d) (ty := ty) (pos := pos) (af := af) (gd := gd) h1.fr h1.ent hv
      obtain ⟨S3, b1, b2, b3⟩ := setd_ok2 h1 hd hv
      refine ⟨v, fun w' => Fz (lx pl S1.own ++ F) w w' ∧ ∀ x ∈ rd, ∀ k, plb pl x = some k -> w'.heap[k]? = w.heap[k]?, .inl ⟨hw, fun w' hY => by rw [eval_mk]; exact hy w' hY.1 hY.2⟩, ⟨Fz.refl _ _, fun _ _ _ _ => rfl⟩, ?_⟩
      refine rdw_ok (T := (i, rd, true) :: T) henv hcl hds b1 ⟨_, _, rfl, fun _ => ⟨pl, lx pl S1.own ++ F, w, fun w' => Iff.rfl, ⟨Fz.refl _ _, fun _ _ _ _ => rfl⟩, by rw [b3]; exact Sub.refl _ _, fun _ _ h => h⟩, ht1.same (by rw [b3])⟩ b2 hk
    · obtain ⟨S3, b1, b2, b3⟩ := setd_ok2 (s := .k undef) (v := undef) h1 rfl hv
      refine ⟨undef, fun w' => Fz (lx pl S1.own ++ F) w w' ∧ ∀ x ∈ ([] : List Nat), ∀ k, plb pl x = some k -> w'.heap[k]? = w.heap[k]?, .inr ⟨hw, rfl⟩, ⟨Fz.refl _ _, fun _ h => by cases h⟩, ?_⟩
      refine rdw_ok (T := (i, [], true) :: T) henv hcl hds b1 ⟨_, _, rfl, fun _ => ⟨pl, lx pl S1.own ++ F, w, fun w' => Iff.rfl, ⟨Fz.refl _ _, fun _ h => by cases h⟩, by rw [b3]; exact Sub.refl _ _, fun _ _ h => h⟩, ht1.same (by rw [b3])⟩ b2 hk
  | (i, false, o) :: q, T, Tk, pl, S, l, w, k, h, ht, hv, hk => by
    unfold rdw at hv
    obtain ⟨S1, h1, _, e2, _, h2⟩ := grd_ok h hv
    have ht1 : TOk F pl S1.own w T Tk := ht.same (by rw [e2])
    rcases h2 with ⟨hw, hv⟩ | ⟨hw, hv⟩
    · obtain ⟨d, op, ty, pos, af, gd⟩ := o
      show if wtd ops.toArray _ l = true then _ else _
      rw [if_pos hw]
      refine opL_ok henv hcl h1.base hv (fun pl' S' s v w' a1 a2 a3 a4 => ?_)
      split at a4
      · rename_i T' hT'
        have hb := h1.back a1
        obtain ⟨t1, t2⟩ := chk_ok hds h1 a1 hT' ht1
        obtain ⟨S3, b1, b2, b3⟩ := setd_ok2 hb a3 a4
        exact ⟨t2, rdw_ok henv hcl hds b1 (t1.same (by rw [b3])) b2 hk⟩
      · cases a4
    · obtain ⟨S3, b1, b2, b3⟩ := setd_ok2 (s := .k undef) (v := undef) h1 rfl hv
      show if wtd ops.toArray _ l = true then _ else _
      rw [if_neg (by rw [hw]; decide)]
      exact rdw_ok henv hcl hds b1 (ht1.same (by rw [b3])) b2 hk
end
end Ev
end
section
namespace Ev
open Go Go.RowKit Sx
inductive Sg where
  | nil
  | tk (i : Nat) (q : Sg)
  | alt (i : Nat) (q r : Sg)
  | stop
def Sg.sz : Sg -> Nat
  | .nil => 1
  | .tk _ q => q.sz + 1
  | .alt _ q r => q.sz + r.sz + 1
  | .stop => 1
def Sg.isStop : Sg -> Bool
  | .stop => true
  | _ => false
def Sg.idx : Sg -> List Nat
  | .alt i _ r => i :: r.idx
  | _ => []
def sgOk (ops : Array Oper) : Bool -> Sg -> Array Bool -> Bool
  | c, .nil, listed => !c && (Region.ready .any ops listed).isEmpty
  | c, .tk i q, listed => !c && Region.free .any ops listed i && (Region.ready .any ops listed).contains i && decide (i < ops.size) && sgOk ops false q (listed.setIfInBounds i true)
  | c, .alt i q r, listed => (c || ((Region.ready .any ops listed).all (fun j => (Sg.alt i q r).idx.contains j) && !(Region.ready .any ops listed).isEmpty)) && decide (i < ops.size) && sgOk ops false q (listed.setIfInBounds i true) && sgOk ops true r listed
  | c, .stop, _ => c
section
variable {P : Program} {ops : Array Oper} {Q : Exit -> Act -> World -> Prop}
def Alt1 (P : Program) (opl : List Oper) (Q : Exit -> Act -> World -> Prop) (i : Nat) (T : Tk) (l : List Value) (w : World) (C : List Value -> World -> Prop) : Prop :=
  ∃ o, opl[i]? = some o ∧ (if wtd opl.toArray o l = true then OW P o l w (fun l' w' => ST opl.toArray T i w' ∧ C l' w') Q else C (st l o.dst undef) w)
def WYT (P : Program) (opl : List Oper) (Q : Exit -> Act -> World -> Prop) : Sg -> Tk -> List Value -> World -> Prop
  | .nil, _, l, w => Q .normal (mk l) w
  | .tk i q, T, l, w => ∃ o, opl[i]? = some o ∧ ∃ v Y, YieldsIf P opl.toArray Y o v (mk l) ∧ Y w ∧ WYT P opl Q q ((i, Y) :: T) (st l o.dst v) w
  | .alt i q r, T, l, w => Alt1 P opl Q i T l w (fun l' w' => WYT P opl Q q T l' w') ∧ WYT P opl Q r T l w
  | .stop, _, _, _ => True
theorem wyt_alt {opl : List Oper} {T : Tk} {l : List Value} {w : World} {listed : Array Bool} : ∀ {s : Sg} {c : Bool}, sgOk opl.toArray c s listed = true -> WYT P opl Q s T l w -> ∀ j ∈ s.idx, ∃ q : Sg, q.sz < s.sz ∧ sgOk opl.toArray false q (listed.setIfInBounds j true) = true ∧ Alt1 P opl Q j T l w (fun l' w' => WYT P opl Q q T l' w')
  | .alt i q r, c, hk, ⟨h1, h2⟩, j, hj => by
    simp only [sgOk, Bool.and_eq_true] at hk
    rcases List.mem_cons.1 hj with rfl | hj
    · exact ⟨q, by simp [Sg.sz]; omega, hk.1.2, h1⟩
    · obtain ⟨q', h3, h4, h5⟩ := wyt_alt hk.2 h2 j hj
      exact ⟨q', by simp [Sg.sz]; omega, h4, h5⟩
  | .nil, _, _, _, j, hj => by cases hj
  | .tk _ _, _, _, _, j, hj => by cases hj
  | .stop, _, _, _, j, hj => by cases hj
theorem wyt_any {rd : Option Nat} {opl : List Oper} (hs : Region.noSelect opl.toArray = true) (hQ : ∀ c a a' w, Q (.panic c) a w -> Q (.panic c) a' w) :
    ∀ (n : Nat) (s : Sg) (fuel : Nat) (listed : Array Bool) (T : Tk) (l : List Value) (w : World), s.sz ≤ n -> sgOk opl.toArray false s listed = true -> (listed.toList.filter (fun b => !b)).length ≤ fuel -> listed.size = opl.length -> Closed opl.toArray listed ->
      WYT P opl Q s T l w -> wpAnyG rd P opl.toArray Q (ST opl.toArray T) fuel listed (mk l) w := by
  have dec : ∀ {listed : Array Bool} {i : Nat}, listed.size = opl.length -> i ∈ Region.ready .any opl.toArray listed -> i < opl.length -> ((listed.setIfInBounds i true).toList.filter (fun b => !b)).length + 1 ≤ (listed.toList.filter (fun b => !b)).length := by
    intro listed i hsz hi hlt
    have hun := (mem_ready.1 hi).1
    obtain ⟨L⟩ := listed
    simp at hsz hun ⊢
    have hil : i < L.length := by omega
    have hg : L[i]? = some false := by
      rw [List.getElem?_eq_getElem hil]
      rw [List.getElem?_eq_getElem hil] at hun
      simpa using hun
    clear hun hi
    have : ∀ (L : List Bool) (i : Nat), L[i]? = some false -> ((L.set i true).filter (fun b => !b)).length + 1 ≤ (L.filter (fun b => !b)).length := by
      intro L
      induction L with
      | nil => intro i h; simp at h
      | cons a L ih =>
        intro i h
        cases i with
        | zero => simp at h; subst h; simp
        | succ i =>
          have := ih i (by simpa using h)
          cases a <;> simp [List.filter_cons] at this ⊢ <;> omega
    exact this L i hg
  intro n
  induction n with
  | zero => intro s _ _ _ _ _ h; cases s <;> simp [Sg.sz] at h
  | succ n ih =>
    intro s fuel listed T l w hn hB hf hsz hc h
    cases s with
    | stop => simp [sgOk] at hB
    | nil =>
      have hr : Region.ready .any opl.toArray listed = [] := by simpa [sgOk] using hB
      cases fuel with
      | zero => exact ⟨hr, h⟩
      | succ m => exact ⟨fun _ => h, by rw [hr]; simp⟩
    | tk i q =>
      simp only [sgOk, Bool.and_eq_true, decide_eq_true_eq] at hB
      obtain ⟨⟨⟨⟨_, h1⟩, h2⟩, h3⟩, h4⟩ := hB
      obtain ⟨o, ho, v, Y, hy, hY, hr⟩ := h
      have hrd : i ∈ Region.ready .any opl.toArray listed := by simpa using h2
      have hd := dec hsz hrd (by simpa using h3)
      cases fuel with
      | zero => omega
      | succ m =>
        refine wpAnyG_first (by simpa using ho) (Region.noSelect_spec hs) (fun c a w => hQ c _ _ w) m listed (mk l) w hc (Region.free_spec (by simpa using ho) h1) hrd hy hY ?_
        rw [put_st]
        have := ih q m _ ((i, Y) :: T) _ w (by simp [Sg.sz] at hn; omega) h4 (by omega) (by simpa using hsz) (hc.push hrd) hr
        exact wpAnyG.weak (fun j w h => ⟨fun x hx => h x (List.mem_cons_of_mem _ hx), h (i, Y) (List.mem_cons_self ..)⟩) _ _ _ _ this
    | alt i q r =>
      have hB0 := hB
      simp only [sgOk, Bool.and_eq_true, decide_eq_true_eq, Bool.false_or] at hB
      obtain ⟨⟨⟨⟨hall, hne⟩, h3⟩, h4⟩, h5⟩ := hB
      have hne' : Region.ready .any opl.toArray listed ≠ [] := by
        intro he
        rw [he] at hne
        simp at hne
      have hfu : ∃ m, fuel = m + 1 := by
        cases fuel with
        | zero =>
          exfalso
          obtain ⟨j, hj⟩ := List.exists_mem_of_ne_nil _ hne'
          have hun := (mem_ready.1 hj).1
          obtain ⟨_, oj, hoj, _⟩ := mem_ready.1 hj
          have hjl : j < opl.length := by simpa using (Array.getElem?_eq_some_iff.1 hoj).1
          have := dec hsz hj hjl
          omega
        | succ m => exact ⟨m, rfl⟩
      obtain ⟨m, rfl⟩ := hfu
      refine ⟨fun h0 => absurd h0 hne', fun j hj => ?_⟩
      have hji : j ∈ (Sg.alt i q r).idx := by
        have := List.all_eq_true.1 hall j hj
        simpa using this
      obtain ⟨q', g1, g2, o, ho, g3⟩ := wyt_alt hB0 h j hji
      have hjl : j < opl.length := (List.getElem?_eq_some_iff.1 ho).1
      have hd := dec hsz hj hjl
      unfold wpOpIn
      have ho' : opl.toArray[j]? = some o := by simpa using ho
      simp only [ho']
      by_cases hw : wtd opl.toArray o l = true
      · rw [if_pos hw] at g3
        unfold wtd at hw
        rw [if_pos hw]
        refine Oper.wpIn_mono (fun a w' hk => ?_) (g3 rd)
        obtain ⟨l', rfl, hS', hk⟩ := hk
        exact ⟨.inr hS', ih q' m _ T _ w' (by omega) g2 (by omega) (by simpa using hsz) (hc.push hj) hk⟩
      · rw [if_neg hw] at g3
        unfold wtd at hw
        rw [if_neg hw, put_st]
        exact ⟨fun _ _ => trivial, by simp, ih q' m _ T _ w (by omega) g2 (by omega) (by simpa using hsz) (hc.push hj) g3⟩
theorem cw_region_tree {id : Nat} {opl : List Oper} {l : List Value} {w : World} (s : Sg) (hm : P.follows .mixedOrders = true)
    (hB : (Region.noSelect opl.toArray && sgOk opl.toArray false s (Array.replicate opl.toArray.size false)) = true)
    (hQ : ∀ c a a' w, Q (.panic c) a w -> Q (.panic c) a' w)
    (h : WYT P opl Q s [] l w.drew) : CW P (.region id opl.toArray true) Q l w := by
  simp only [Bool.and_eq_true] at hB
  obtain ⟨h1, h2⟩ := hB
  refine fun rd => wpIn_region_any hm (wpAny_of_g _ _ _ _ (wyt_any h1 hQ _ s _ _ _ _ _ (Nat.le_refl _) h2 ?_ (by simp) (Closed.start _) h))
  refine Nat.le_trans (List.length_filter_le _ _) ?_
  simp
end
section
variable {R : Type}
def two (eq : R -> R -> Bool) (one : Bool) (x y : Option R) : Option R := if one = true then x else amb eq [x, y]
def rdt (P : Program) (env : Env) (cl : Cl R) (ops : List Oper) (ds : List Nat) : Sg -> Tl -> St -> (St -> Option R) -> Option R
  | .nil, _, S, k => k S
  | .tk i q, T, S, k => match ops[i]? with
    | none => none
    | some o => grd ops S o (fun S1 => qv2 P S1 o.op fun s rd => setd S1 o.dst s fun S3 => rdt P env cl ops ds q ((i, rd, true) :: T) S3 k)
      (fun S1 => setd S1 o.dst (.k undef) fun S3 => rdt P env cl ops ds q ((i, [], true) :: T) S3 k)
  | .alt i q r, T, S, k =>
    two cl.eq r.isStop (match ops[i]? with
      | none => none
      | some o => grd ops S o (fun S1 => opL P env cl { S1 with log := [] } o.op o.type fun S2 s => match chk ds i S2.log S2.own T with
          | some T' => setd { S2 with log := S1.log ++ S2.log } o.dst s fun S3 => rdt P env cl ops ds q T' S3 k
          | none => none)
        (fun S1 => setd S1 o.dst (.k undef) fun S3 => rdt P env cl ops ds q T S3 k)) (rdt P env cl ops ds r T S k)
  | .stop, _, _, _ => none
end
section
variable {R : Type} {B : Nat -> Prop} {F : Lx} {w0 : Bs} {wr : Wr} {ls : List (List Value)} {P : Program} {Q : Exit -> Act -> World -> Prop} {r : R}
theorem rdt_ok {env : Env} {cl : Cl R} (henv : EnvOk P w0.I env) (hcl : ClOk P w0.I cl) {ops : List Oper} {ds : List Nat} (hds : MaskOk ops.toArray ds) : ∀ {s : Sg} {T : Tl} {Tk : Tk} {pl : List Place} {S : St} {l : List Value} {w : World} {k : St -> Option R},
    Rel B F w0 wr pl S l ls w -> TOk F pl S.own w T Tk -> rdt P env cl ops ds s T S k = some r ->
    (∀ pl' S' l' w', Rel B F w0 wr pl' S' l' ls w' -> k S' = some r -> Q .normal (mk l') w') -> WYT P ops Q s Tk l w
  | .nil, T, Tk, pl, S, l, w, k, h, ht, hv, hk => hk _ _ _ _ h hv
  | .stop, T, Tk, pl, S, l, w, k, h, ht, hv, hk => trivial
  | .tk i q, T, Tk, pl, S, l, w, k, h, ht, hv, hk => by
    unfold rdt at hv
    split at hv
    · cases hv
    · rename_i o ho
      obtain ⟨S1, h1, _, e2, _, h2⟩ := grd_ok h hv
      have ht1 : TOk F pl S1.own w T Tk := ht.same (by rw [e2])
      refine ⟨o, ho, ?_⟩
      rcases h2 with ⟨hw, hv⟩ | ⟨hw, hv⟩
      · obtain ⟨d, op, ty, pos, af, gd⟩ := o
        obtain ⟨s, rd, hv, v, hd, hy⟩ := qv2_ok (d := d) (ty := ty) (pos := pos) (af := af) (gd := gd) h1.fr h1.ent hv
        obtain ⟨S3, b1, b2, b3⟩ := setd_ok2 h1 hd hv
        refine ⟨v, fun w' => Fz (lx pl S1.own ++ F) w w' ∧ ∀ x ∈ rd, ∀ k, plb pl x = some k -> w'.heap[k]? = w.heap[k]?, .inl ⟨hw, fun w' hY => by rw [eval_mk]; exact hy w' hY.1 hY.2⟩, ⟨Fz.refl _ _, fun _ _ _ _ => rfl⟩, ?_⟩
        refine rdt_ok (T := (i, rd, true) :: T) henv hcl hds b1 ⟨_, _, rfl, fun _ => ⟨pl, lx pl S1.own ++ F, w, fun w' => Iff.rfl, ⟨Fz.refl _ _, fun _ _ _ _ => rfl⟩, by rw [b3]; exact Sub.refl _ _, fun _ _ h => h⟩, ht1.same (by rw [b3])⟩ b2 hk
      · obtain ⟨S3, b1, b2, b3⟩ := setd_ok2 (s := .k undef) (v := undef) h1 rfl hv
        refine ⟨undef, fun w' => Fz (lx pl S1.own ++ F) w w' ∧ ∀ x ∈ ([] : List Nat), ∀ k, plb pl x = some k -> w'.heap[k]? = w.heap[k]?, .inr ⟨hw, rfl⟩, ⟨Fz.refl _ _, fun _ h => by cases h⟩, ?_⟩
        refine rdt_ok (T := (i, [], true) :: T) henv hcl hds b1 ⟨_, _, rfl, fun _ => ⟨pl, lx pl S1.own ++ F, w, fun w' => Iff.rfl, ⟨Fz.refl _ _, fun _ h => by cases h⟩, by rw [b3]; exact Sub.refl _ _, fun _ _ h => h⟩, ht1.same (by rw [b3])⟩ b2 hk
  | .alt i q rr, T, Tk, pl, S, l, w, k, h, ht, hv, hk => by
    have one : ∀ {x : Option R}, x = (match ops[i]? with
      | none => none
      | some o => grd ops S o (fun S1 => opL P env cl { S1 with log := [] } o.op o.type fun S2 s => match chk ds i S2.log S2.own T with
          | some T' => setd { S2 with log := S1.log ++ S2.log } o.dst s fun S3 => rdt P env cl ops ds q T' S3 k
          | none => none)
        (fun S1 => setd S1 o.dst (.k undef) fun S3 => rdt P env cl ops ds q T S3 k)) -> x = some r -> Alt1 P ops Q i Tk l w (fun l' w' => WYT P ops Q q Tk l' w') := fun {x} hx hv => by
      rw [hx] at hv
      split at hv
      · cases hv
      · rename_i o ho
        refine ⟨o, ho, ?_⟩
        obtain ⟨S1, h1, _, e2, _, h2⟩ := grd_ok h hv
        have ht1 : TOk F pl S1.own w T Tk := ht.same (by rw [e2])
        rcases h2 with ⟨hw, hv⟩ | ⟨hw, hv⟩
        · obtain ⟨d, op, ty, pos, af, gd⟩ := o
          rw [if_pos hw]
          refine opL_ok henv hcl h1.base hv (fun pl' S' s v w' a1 a2 a3 a4 => ?_)
          split at a4
          · rename_i T' hT'
            have hb := h1.back a1
            obtain ⟨t1, t2⟩ := chk_ok hds h1 a1 hT' ht1
            obtain ⟨S3, b1, b2, b3⟩ := setd_ok2 hb a3 a4
            exact ⟨t2, rdt_ok henv hcl hds b1 (t1.same (by rw [b3])) b2 hk⟩
          · cases a4
        · obtain ⟨S3, b1, b2, b3⟩ := setd_ok2 (s := .k undef) (v := undef) h1 rfl hv
          rw [if_neg (by rw [hw]; decide)]
          exact rdt_ok henv hcl hds b1 (ht1.same (by rw [b3])) b2 hk
    unfold rdt two at hv
    split at hv
    · rename_i hst
      have hst : rr = .stop := by cases rr <;> simp [Sg.isStop] at hst ⊢
      subst hst
      exact ⟨one rfl hv, trivial⟩
    · have := amb_ok hcl.1 hv
      exact ⟨one rfl (this _ (by simp)), rdt_ok henv hcl hds h ht (this _ (by simp)) hk⟩
end
end Ev
end
