/- Proved in the last of these 8 parts (this is part 6): PlanOver: whatever the bank, the blocks and the place where they are cut, the law returns true.. Conditions: those of the given statement, and no others. -/
import Derived.Test.YtnamnibaedolaaaParte
import Derived.Test.YtnamnibaedolaaaProg
set_option linter.unusedVariables false
set_option linter.unusedSimpArgs false
set_option linter.unusedSectionVars false
section
set_option maxRecDepth 100000
namespace Go.Proofs.Lx
open Go Go.Proofs Go.RowKit Ev Sx
theorem cw_wide {P : Program} {c : Code} {Q : Exit -> Act -> World -> Prop} {l : List Value} {w : World} (h : CW P c Q l w) (n : Nat) : c.wpIn Fence.wide n P Q (mk l) w := wpIn_wide.2 (wpIn_wide.1 (h none))
theorem dm_keys {L : Lx} {w : World} : ∀ {vs : List (Int × Value)} {m : List (Int × Int)}, DmD (kt := kT) (vt := uT) L w vs m -> vs.map (·.1) = m.map (·.1)
  | [], _, h => by cases h; rfl
  | _ :: _, _, ⟨b, q, h1, h2, _, h3⟩ => by subst h1; simp only [List.map_cons]; rw [h2, dm_keys h3]
def between (i j : Nat) : Lx := (List.range' i (j - i)).map some
theorem between_mem {i j k : Nat} : some k ∈ between i j ↔ i ≤ k ∧ k < j := by
  unfold between
  simp [List.mem_range']
  constructor
  · rintro ⟨a, h1, h2⟩; omega
  · rintro ⟨h1, h2⟩; exact ⟨k - i, by omega, by omega⟩
theorem q79_ {I : World -> Prop} : CtOk Try.prog I 8 ⟨q1y_, q1v_⟩ := by
  intro F w0 pl0 x y ss own vs hx hA hpl hI0 hL hE hD
  obtain ⟨m, u0⟩ := x
  have hx : (if m.all keyOk = true then some ((bkRes m).1, (bkRes m).2, m, ()) else none) = some y := hx
  split at hx
  case isFalse => cases hx
  rename_i hkeys
  cases hx
  have hA : some ([SV.mp 0], [(0, Ent.dm kT uT m)]) = some (ss, own) := hA
  cases hA
  have hpl : pl0.length = 1 := hpl
  obtain ⟨u, q, rfl, ⟨g, n, c, hp0, rfl⟩, rfl⟩ := hD
  obtain ⟨B0, hB0⟩ : ∃ B0, B0 = Bo pl0 [(0, Ent.dm kT uT m)] w0 := ⟨_, rfl⟩
  have hst0 : Sto B0 pl0 F pl0 [(0, .dm kT uT m)] w0 := by
    subst hB0
    exact ⟨hL.pair, hL.lo, hL.hi, fun k hk => ⟨fun hx => (hL.far k hk).1 (hL.lo k hx), (hL.far k hk).2⟩, fun _ _ h => h, hE⟩
  have hbase : ∀ k, w0.heap.size ≤ k -> B0 k := fun k hk => by subst hB0; exact .inr hk
  have hbo : ∀ {p1 : List Ev.Place} {F1 : Lx} {pl : List Ev.Place} {own : List (Nat × Ent)} {w : World}, w0.heap.size ≤ w.heap.size -> Sto B0 p1 F1 pl own w -> ∀ k, Bo pl own w k -> B0 k := fun hs hst k hk => by
    rcases hk with hk | hk
    · exact hst.lo k hk
    · exact hbase k (Nat.le_trans hs hk)
  refine (callsIn_wide (n := 2)).1 ?_
  refine callsIn_of_wp_marks Try.func8 bk_eq trivial ?_ rfl
  obtain ⟨l0, hl0⟩ : ∃ l0 : List Value, l0 = .map (some g) :: List.replicate 73 undef := ⟨_, rfl⟩
  have hact : (⟨[Value.map (some g)].toArray ++ Array.replicate (Try.f8.ntmps - [Value.map (some g)].toArray.size) undef, []⟩ : Act) = mk l0 := by
    subst hl0
    show (⟨[Value.map (some g)].toArray ++ Array.replicate 73 undef, []⟩ : Act) = mk (.map (some g) :: List.replicate 73 undef)
    simp [mk]
  rw [hact]
  generalize hR : (fun (e : Ending) (w' : World) => ∃ us, e = .returned (retV us) ∧ After q1y_ ((bkRes m).1, (bkRes m).2, m, ()) F w0 pl0 [(0, Ent.dm kT uT m)] w' us) = R
  have hRe : ∀ {W : World} {us : List Value}, After q1y_ ((bkRes m).1, (bkRes m).2, m, ()) F w0 pl0 [(0, Ent.dm kT uT m)] W us -> R (.returned (retV us)) W := fun h => by subst hR; exact ⟨_, rfl, h⟩
  have hfr0 : FrD pl0 (lx pl0 [(0, Ent.dm kT uT m)] ++ F) w0 [(0, .mp 0)] l0 := frD_cons (by subst hl0; exact ⟨g, n, c, hp0, rfl⟩) frD_nil
  have r1 := run_piece (S := bkS0 m) (l := l0) bkEnv_ok (hbo (Nat.le_refl _) hst0) hst0 rfl (show 1 = pl0.length from hpl.symm) (show 1 = pl0.length from hpl.symm) (by subst hl0; rfl) hfr0 (p1_eq m)
  refine wpIn_seq (Code.wpIn_mono ?_ (cw_wide r1 2))
  rintro e a w1 ⟨pl1, l1, rfl, rfl, hl1, hn1, st1, fr1, bl1⟩
  have bw1 : Blw B0 w0 w1 := blw_mono bl1 (hbo (Nat.le_refl _) hst0)
  refine wpIn_seq ?_
  by_cases hlen : m.length > 64
  · -- too many
    have r2 := run_piece (S := bkS1 m) (l := l1) bkEnv_ok (hbo bw1.size st1) st1 rfl hn1.symm (show 1 = pl0.length from hpl.symm) hl1 fr1 ((p2_eq m).trans (if_pos (by simp [gt]; omega)))
    refine Code.wpIn_mono ?_ (cw_wide r2 2)
    rintro e a w2 ⟨pl2, l2, rfl, rfl, hl2, hn2, st2, fr2, bl2⟩
    have bw2 : Blw B0 w0 w2 := bw1.trans (blw_mono bl2 (hbo bw1.size st1))
    obtain ⟨S1, z1, z2, z3⟩ := n1_fin m
    obtain ⟨pl', us, z4, z5, z6⟩ := fin_res (S := bkS1 m) (hbo bw2.size st2) st2 rfl hn2.symm (show 1 = pl0.length from hpl.symm) hl2 fr2 z1 z3
    refine z6 R (hRe ?_)
    have : bkRes m = ([], false) := by unfold bkRes; rw [if_pos hlen]
    rw [this]
    subst hB0
    exact fin_after hpl hL (fun p hp => by
      have := z4.pre 0 ⟨some ⟨g, 0, none⟩, n, c⟩ hp0
      rw [this] at hp
      rw [hp0]
      exact hp) (fun _ h => h) z4 z2 bw2 z5
  have r2 := run_piece (S := bkS1 m) (l := l1) bkEnv_ok (hbo bw1.size st1) st1 rfl hn1.symm (show 1 = pl0.length from hpl.symm) hl1 fr1 ((p2_eq m).trans (if_neg (by simp [gt]; omega)))
  refine Code.wpIn_mono ?_ (cw_wide r2 2)
  rintro e a w2 ⟨pl2, l2, rfl, rfl, hl2, hn2, st2, fr2, bl2⟩
  have bw2 : Blw B0 w0 w2 := bw1.trans (blw_mono bl2 (hbo bw1.size st1))
  have r3 := run_piece (S := bkS1 m) (l := l2) bkEnv_ok (hbo bw2.size st2) st2 rfl hn2.symm (show 1 = pl0.length from hpl.symm) hl2 fr2 (p3_eq m)
  refine wpIn_seq (Code.wpIn_mono ?_ (cw_wide r3 2))
  rintro e a w3 ⟨pl3, l3, rfl, rfl, hl3, hn3, st3, fr3, bl3⟩
  have bw3 : Blw B0 w0 w3 := bw2.trans (blw_mono bl3 (hbo bw2.size st2))
  have r4 := run_piece (S := bkS3 m) (l := l3) bkEnv_ok (hbo bw3.size st3) st3 rfl hn3.symm (show 1 = pl0.length from hpl.symm) hl3 fr3 (p4_eq m)
  refine wpIn_seq (wpIn_seq (Code.wpIn_mono ?_ (cw_wide r4 2)))
  rintro e a w4 ⟨pl4, l4, rfl, rfl, hl4, hn4, st4, fr4, bl4⟩
  have bw4 : Blw B0 w0 w4 := bw3.trans (blw_mono bl4 (hbo bw3.size st3))
  have hn4 : pl4.length = 8 := hn4
  have hl4 : l4.length = 74 := hl4
  obtain ⟨p0, hp0e⟩ : ∃ p0, p0 = pl4.take 6 := ⟨_, rfl⟩
  have hp0l : p0.length = 6 := by rw [hp0e, List.length_take]; omega
  have hp0p : ∀ (i : Nat) (p : Ev.Place), p0[i]? = some p -> pl4[i]? = some p := fun i p h => by
    rw [hp0e] at h
    have hi := (List.getElem?_eq_some_iff.1 h).1
    rw [List.length_take] at hi
    rw [List.getElem?_take_of_lt (by omega)] at h
    exact h
  have hp0b : ∀ (i : Nat) (p : Ev.Place), i < 6 -> pl4[i]? = some p -> p0[i]? = some p := fun i p hi h => by rw [hp0e, List.getElem?_take_of_lt hi]; exact h
  have dpb : ∀ {t i : Nat}, i < 6 -> Ev.get bkFr t = some (.pb i 0) -> Den p0 [] default (.pb i 0) (l4.getD t undef) := fun hi hg => by
    obtain ⟨a, b, c, h1, h2⟩ := fr4 _ _ hg
    exact ⟨a, b, c, hp0b _ _ hi h1, h2⟩
  have hs : Slots p0 l4 := ⟨hl4, hp0l, dpb (by decide) rfl, dpb (by decide) rfl, dpb (by decide) rfl, by
    obtain ⟨us, vs, h1, ⟨v, q, h2, ⟨a, b, c, h3, h4⟩, h5⟩, h6⟩ := fr4 11 _ rfl
    exact ⟨us, vs, h1, ⟨v, q, h2, ⟨a, b, c, hp0b _ _ (by decide) h3, h4⟩, h5⟩, h6⟩, dpb (by decide) rfl⟩
  obtain ⟨g0, n0, c0, vs, e1, e2, e3⟩ := st4.ent (0, .dm kT uT m) (by simp [bkSt, bkOwn])
  obtain ⟨Bm, nm, cm, us, b1, b2, ⟨v, r, rfl, ⟨g', n', c', b3, rfl⟩, rfl⟩, b4⟩ := st4.ent (4, .box 24 [.mp 0]) (by simp [bkSt, bkOwn])
  obtain rfl : g' = g0 := by rw [b3] at e1; cases e1; rfl
  have hvk := dm_keys e3
  have hvl : vs.length = m.length := by have := congrArg List.length hvk; simpa using this
  have hvr : ∀ e ∈ vs, inR e.1 := fun e he => by
    have h1 : e.1 ∈ m.map (·.1) := by rw [<- hvk]; exact List.mem_map_of_mem (f := fun x : Int × Value => x.1) he
    obtain ⟨e', h2, h3⟩ := List.mem_map.1 h1
    rw [<- h3]
    exact keyOk_iff.1 (List.all_eq_true.1 hkeys e' h2)
  have hf11 : (mk l4).eval (.tmp 11) = .func (.func 40) #[] #[.pointer (some ⟨Bm, 0, none⟩)] := by
    rw [eval_mk]
    obtain ⟨us, vs, h1, ⟨v, q, h2, ⟨a, b, c, h3, h4⟩, h5⟩, h6⟩ := fr4 11 _ rfl
    rw [b1] at h3
    cases h3
    cases h1
    cases h5
    subst h2 h4
    exact h6
  refine wpIn_block (wpIn_rangeFunc ?_)
  intro fn hfn
  obtain ⟨W1, hW1⟩ : ∃ W1, (w4.alloc (.deferred (some []))).alloc (.loop (bkRec fn l4 w4.heap.size .ready none)) = W1 := ⟨_, rfl⟩
  have hs1 : W1.heap.size = w4.heap.size + 2 := by rw [<- hW1]; simp
  have hfz1 : Fz [] w4 W1 := by rw [<- hW1]; exact (Fz.alloc _ _ _).trans (Fz.alloc _ _ _)
  have hD1 : W1.heap[w4.heap.size]? = some (.deferred (some [])) := by
    rw [<- hW1]; exact (Below.heap_alloc _ _ _ (by simp)).trans (World.alloc_heap_new w4 _)
  have hr1 : W1.heap[w4.heap.size + 1]? = some (.loop (bkRec fn l4 w4.heap.size .ready none)) := by
    rw [<- hW1]; have := World.alloc_heap_new (w4.alloc (.deferred (some []))) (.loop (bkRec fn l4 w4.heap.size .ready none)); rwa [World.size_alloc] at this
  have hmap1 : MapIs (keyV (.int .i64)) (fun v : Value => v) W1 g' vs := by
    have hlt := e2.lt
    obtain ⟨es, cl, a, b, c⟩ := e2
    exact ⟨es, cl, (hfz1.block _ hlt nilN).trans a, b, c⟩
  have hcell1 : W1.cell? ⟨Bm, 0, none⟩ = some (.map (some g')) := (b2.step hfz1 nilN).cell rfl
  have hkeys2 : sorted (vs.map (·.1)) = sorted (m.map (·.1)) := by rw [hvk]
  refine ⟨w4.heap.size + 1, [{ target := .collected w4.heap.size, args := #[] }], W1, { target := .fn (.func 40) #[.pointer (some ⟨Bm, 0, none⟩)], args := #[.func (.yield (w4.heap.size + 1)) #[] #[]] }, W1, 40,
    #[.func (.yield (w4.heap.size + 1)) #[] #[]] ++ #[.pointer (some ⟨Bm, 0, none⟩)], W1, ?_, ?_, fun _ _ => trivial, ?_, (fun h => by cases h), ?_⟩
  · rw [<- hW1]; exact run_enterLoop_outer _ _ _ _ _
  · simp only [resolve, hf11]
    simp [go_sem]
  · have := enters_of Try.func40 (by kernel_rfl) rfl
    simp [invoke, go_sem, this]
  · -- the rounds
    let FF : World -> Lx := fun Z => F ++ between w4.heap.size Z.heap.size
    have hFm : ∀ Z k, some k ∈ FF Z ↔ some k ∈ F ∨ (w4.heap.size ≤ k ∧ k < Z.heap.size) := fun Z k => by
      show some k ∈ F ++ between _ _ ↔ _
      rw [List.mem_append, between_mem]
    have key := keys_it 1 (w4.heap.size + 1) Bm g' (Nat.le_refl _) W1 hmap1 hvr (by omega) hcell1
      (fun Z pre W => ∃ pl b xs a ws, Sto B0 p0 (FF Z) pl (bkOwn m nilV false b xs a ws) W ∧ pl.length = 8 ∧ BkI b xs a ws ∧ W.heap[w4.heap.size]? = some (.deferred (some [])) ∧ Blw B0 w0 W ∧ W1.heap.size ≤ Z.heap.size ∧
        bkAll m pre (some []) = some (bkX b xs a ws) ∧ W.heap[w4.heap.size + 1]? = some (.loop (bkRec fn l4 w4.heap.size .ready none)) ∧ ∀ k, W1.heap.size ≤ k -> k < Z.heap.size -> W.heap[k]? = Z.heap[k]?)
      (fun Z pre W => ∃ pl b xs a ws, Sto B0 p0 (FF Z) pl (bkOwn m nilV false b xs a ws) W ∧ pl.length = 8 ∧ BkI b xs a ws ∧ W.heap[w4.heap.size]? = some (.deferred (some [])) ∧ Blw B0 w0 W ∧ W1.heap.size ≤ Z.heap.size ∧
        bkAll m pre (some []) = none ∧ W.heap[w4.heap.size + 1]? = some (.loop (bkRec fn l4 w4.heap.size .done (some .ret))))
      (fun Z hZ => by
        have hz : Fz [] w4 Z := hfz1.trans (Fz.of_below hZ [])
        refine ⟨pl4, false, [], 0, [], ?_, hn4, BkI.start, (hZ.block _ (by omega)).trans hD1, bw4.trans (blw_fz hz (fun k hk => by cases hk)), hZ.size, rfl, (hZ.block _ (by omega)).trans hr1, fun k _ _ => rfl⟩
        refine (st4.sub (List.Sublist.refl _) hp0p).grow hz fun k hk => ?_
        rcases (hFm Z k).1 hk with h | ⟨h1, h2⟩
        · exact ⟨.inl h, Nat.lt_of_lt_of_le (st4.far k h).2 hz.size⟩
        · exact ⟨.inr h1, h2⟩)
      (fun Z pre W hJ k h1 h2 => by
        obtain ⟨_, _, _, _, _, _, _, _, _, _, _, _, _, h⟩ := hJ
        exact h k h1 h2)
      (fun Z pre x W hJ => by
        obtain ⟨pl, b, xs, a, ws, j1, j2, j3, j4, j5, j6, j7, j8, j9⟩ := hJ
        have hlb : some (w4.heap.size + 1) ∈ FF Z := (hFm Z _).2 (.inr ⟨by omega, by omega⟩)
        obtain ⟨fn', tmps, asg, bd, y1, y2⟩ := round (x := x) j1 j2 hs j3 j8 hlb (hbase _ (by have := bw4.size; omega)) (fun k hk => hbase k (Nat.le_trans j5.size hk))
        refine ⟨fn', tmps, asg, bd, y1, y2.mono ?_⟩
        rintro e W' ⟨pl', b', xs', a', ws', k1, k2, k3, k4, k5, k6⟩
        have kD : W'.heap[w4.heap.size]? = some (.deferred (some [])) := (k5 _ ((hFm Z _).2 (.inr ⟨Nat.le_refl _, by omega⟩)) (by omega)).trans j4
        rcases k6 with ⟨rfl, k7, k8⟩ | ⟨rfl, k7, k8⟩
        · refine .inl ⟨rfl, pl', b', xs', a', ws', k1, k2, k3, kD, j5.trans k4, j6, ?_, k8, fun k h1 h2 => ?_⟩
          · rw [bkAll_snoc, j7]
            exact k7
          · exact (k5 k ((hFm Z k).2 (.inr ⟨by omega, h2⟩)) (by omega)).trans (j9 k h1 h2)
        · refine .inr ⟨rfl, pl', b', xs', a', ws', k1, k2, k3, kD, j5.trans k4, j6, ?_, k8⟩
          rw [bkAll_snoc, j7]
          exact k7)
    refine key.mono ?_
    rintro e W2 ⟨⟨v0, rfl⟩, Z, hJ⟩
    have leave : ∀ (pl : List Ev.Place) (cc : SV) (ok b : Bool) (xs : List Bk) (a : Int) (ws : List Int) (l' : List Value) (W : World) (L : List Bk), Sto B0 p0 (FF Z) pl (bkOwn m cc ok b xs a ws) W -> pl.length = 8 -> Slots p0 l' -> W.heap[w4.heap.size]? = some (.deferred (some [])) -> Blw B0 w0 W -> W1.heap.size ≤ Z.heap.size -> bkRes m = (L, ok) ->
        (∃ S1, nrm Try.prog ⟨[.frb 2], [2, 3]⟩ (bkSt bkFr 6 m cc ok b xs a ws) = some S1 ∧ (0, Ent.dm kT uT m) ∈ S1.own ∧ resK Try.prog S1 Try.f8.results.toList (fun ss => some ss) = some [.d (.sl bT) L, .d .bool ok]) ->
        bodyPostM Fence.wide 2 Try.prog Try.f8 R .ret ⟨l'.toArray, [{ target := .collected w4.heap.size, args := #[] }]⟩ W := by
      intro pl cc ok b xs a ws l' W L k1 k2 k3 k4 k5 k6 k7 ⟨S1, z1, z2, z3⟩
      have hf6 := fz_putObj W w4.heap.size (.deferred none)
      have hDF : some w4.heap.size ∈ FF Z := (hFm Z _).2 (.inr ⟨Nat.le_refl _, by omega⟩)
      have k1' := k1.turn (hf6.sub fun k hk => by simp at hk; subst hk; exact hDF)
      have k5' : Blw B0 w0 (W.putObj w4.heap.size (.deferred none)) := k5.trans (blw_fz hf6 (fun k hk => by simp at hk; subst hk; exact hbase _ bw4.size))
      obtain ⟨pl', us, z4, z5, z6⟩ := fin_res (S := bkSt bkFr 6 m cc ok b xs a ws) (l := l') (hbo k5'.size k1') k1' rfl k2.symm (show 6 = p0.length from hp0l.symm) k3.len (k3.fr k1'.pre (fun _ _ => rfl)) z1 z3
      refine ⟨by simp, .inl ⟨_, _, rfl, run_takeDeferred k4, ?_⟩⟩
      refine z6 R (hRe ?_)
      rw [k7]
      subst hB0
      exact fin_after hpl hL (fun p hp => by
        have := z4.pre 0 ⟨some ⟨g, 0, none⟩, n, c⟩ (hp0b _ _ (by decide) (st4.pre 0 _ hp0))
        rw [this] at hp
        rw [hp0]
        exact hp) (fun k hk => (hFm Z k).2 (.inl hk)) z4 z2 k5' z5
    rcases hJ with ⟨pl, b, xs, a, ws, j1, j2, j3, j4, j5, j6, j7, j8, j9⟩ | ⟨k, hk, pl, b, xs, a, ws, j1, j2, j3, j4, j5, j6, j7, j8⟩
    · have hend := run_endLoop (P := Try.prog) j8 (by simp [bkRec])
      have hf5 := fz_putObj W2 (w4.heap.size + 1) (.loop { bkRec fn l4 w4.heap.size .ready none with state := .exhausted })
      have hlb : some (w4.heap.size + 1) ∈ FF Z := (hFm Z _).2 (.inr ⟨by omega, by omega⟩)
      refine ⟨none, _, hend, ?_⟩
      have j1' := j1.turn (hf5.sub fun k hk => by simp at hk; subst hk; exact hlb)
      have j5' := j5.trans (blw_fz hf5 (fun k hk => by simp at hk; subst hk; exact hbase _ (by have := bw4.size; omega)))
      refine tail_wp (ds := [{ target := .collected w4.heap.size, args := #[] }]) j1' j2 hs (fun k hk => hbase k (Nat.le_trans j5'.size hk)) fun W' l' t1 t2 t3 t4 => ?_
      refine leave pl _ _ b xs a ws l' W' _ t1 j2 t2 ((t4 _ ((hFm Z _).2 (.inr ⟨Nat.le_refl _, by omega⟩))).trans ((World.putObj_heap_other (by omega)).trans j4)) (j5'.trans t3) j6 ?_ (n3_fin m b xs a ws)
      unfold bkRes
      rw [if_neg hlen, <- hkeys2, j7]
    · have hend := run_endLoop (P := Try.prog) j8 (by simp [bkRec])
      have hf5 := fz_putObj W2 (w4.heap.size + 1) (.loop { bkRec fn l4 w4.heap.size .done (some .ret) with state := .exhausted })
      have hlb : some (w4.heap.size + 1) ∈ FF Z := (hFm Z _).2 (.inr ⟨by omega, by omega⟩)
      refine ⟨some .ret, _, hend, ?_⟩
      have j1' := j1.turn (hf5.sub fun k hk => by simp at hk; subst hk; exact hlb)
      have j5' := j5.trans (blw_fz hf5 (fun k hk => by simp at hk; subst hk; exact hbase _ (by have := bw4.size; omega)))
      refine wpIn_ret ?_
      refine leave pl _ _ b xs a ws l4 _ _ j1' j2 hs ((World.putObj_heap_other (by omega)).trans j4) j5' j6 ?_ (n2_fin m b xs a ws)
      unfold bkRes
      rw [if_neg hlen, <- hkeys2, <- List.take_append_drop k (sorted (vs.map (·.1))), bkAll_app, j7, bkAll_none]
end Go.Proofs.Lx
end
section
open Go Go.Proofs Ev Sx
set_option maxRecDepth 100000
namespace Go.Proofs.Lx
abbrev QJT0 : Ty := (.pr (.int .i64) (.sl (.int .u16)))
abbrev QJT1 : Ty := (.pr (.int .i64) (.int .u16))
def q7s_ (j2 : List Int -> List Bool -> Int -> Int -> Int -> Bool -> List (Int × Int) -> Option (As [.sl QJT1])) (self1 : List Int -> List Bool -> Int -> Int -> List (Int × Int) -> Option (As [.sl QJT1])) (w : List Int) (is' : List Bool) (t9 t10 : Int) (out : List (Int × Int)) : Option (As [.sl QJT1]) :=
  if lt t10 t9 = true then if lt t10 (Int.ofNat (List.length is')) = true then Option.bind (at? is' t10) fun (y : Bool) => j2 w is' t10 t9 t10 y out else j2 w is' t10 t9 t10 false out else some (out, ())
def q81_ (self1 : List Int -> List Bool -> Int -> Int -> List (Int × Int) -> Option (As [.sl QJT1])) (w : List Int) (is' : List Bool) (i t9 t10 : Int) (t22 : Bool) (out : List (Int × Int)) : Option (As [.sl QJT1]) :=
  if t22 = true then Option.bind (at? w i) fun (y : Int) => self1 w is' t9 (add .i64 t10 1) (Ev.dput (.int .i64) out i y) else self1 w is' t9 (add .i64 t10 1) out
def q82_ (j1 : List Int -> List Bool -> Int -> Int -> List (Int × Int) -> Option (As [.sl QJT1])) (w : List Int) (is' : List Bool) : Option (As [.sl QJT1]) :=
  j1 w is' (Int.ofNat (List.length w)) 0 []
def q7t_ (u1 : List Int -> List Bool -> Int -> Int -> List (Int × Int) -> Option (As [.sl QJT1])) (w : List Int) (is' : List Bool) (i t9 t10 : Int) (t22 : Bool) (out : List (Int × Int)) : Option (As [.sl QJT1]) := q81_ u1 w is' i t9 t10 t22 out
def q83_ (w : List Int) (is' : List Bool) (t9 t10 : Int) (out : List (Int × Int)) : Option (As [.sl QJT1]) :=
  loopF (fun (self : (List Int) × (List Bool) × (Int) × (Int) × (List (Int × Int)) -> Option (As [.sl QJT1])) (s : (List Int) × (List Bool) × (Int) × (Int) × (List (Int × Int))) => q7s_ (q7t_ (fun w is' t9 t10 out => self (w, is', t9, t10, out))) (fun w is' t9 t10 out => self (w, is', t9, t10, out)) s.1 s.2.1 s.2.2.1 s.2.2.2.1 s.2.2.2.2) 18446744073709551616 (w, is', t9, t10, out)
def q87_ (x : As [.sl (.int .u16), .sl .bool]) : Option (As [.sl QJT1]) := q82_ q83_ x.1 x.2.1
@[reducible] def q1b_ : Sh := ⟨[.d (.sl (.int .u16))], [], [.sl (.int .u16)], [.row 0], [(0, .row (.int .u16) 32)], 1, [.sl (.int .u16)]⟩
def q23_ (s : List Int) : Option (As [.sl (.int .u16)]) :=
  if eqi (Int.ofNat (List.length s)) 0 = true then amb (eqAs q1b_.rs) [some ([], ()), need (small (0 + List.length s)) (some (s, ()))] else need (small (0 + List.length s)) (some (s, ()))
def qb_ (x : As [.sl (.int .u16)]) : Option (As [.sl (.int .u16)]) := q23_ x.1
theorem q22_ : CtOk Try.prog (fun _ => True) 26 ⟨q1b_, qb_⟩ := ctn env_nil 6 fun J x => by kernel_rfl
@[reducible] def qr_ : Sh := ⟨[.d (.sl (.int .u16)), .d (.sl QJT0)], [], [.sl (.int .u16), .sl QJT0], [.d (.sl (.int .u16))], [], 0, [.sl (.int .u16)]⟩
def q11_ : Env := (cts [(26, (⟨q1b_, qb_⟩ : Ct))])
def q12_ : List (Nat × Hint) := [(58, ⟨[], [0, 12, 13, 14, 33, 34, 35, 36]⟩), (14950, ⟨[], [0, 6, 12, 13, 14, 19, 20, 21, 33, 34, 35, 36]⟩), (1913651, ⟨[.agd 33 (.int .i64), .agd 35 (.int .i64), .agd 36 .bool], [0, 6, 8, 9, 12, 13, 14, 19, 20, 21, 37]⟩)]
def qq_ (t12 : List (Int × List Int)) (t13 t14 : Int) (bank : List Int) : St := { fr := [(0, .row 0), (12, .d (.sl QJT0) t12), (13, .d (.int .i64) t13), (14, .d (.int .i64) t14)], nt := 45, up := [], own := [(0, .row (.int .u16) 32 bank)], nx := 1, log := [], ln := 0 }
def q19_ (t12 : List (Int × List Int)) (t13 t14 : Int) (t19 : List Int) (t20 t21 : Int) (bank : List Int) (x : Int × List Int) : St := { fr := [(0, .row 0), (6, .pb 1 0), (12, .d (.sl QJT0) t12), (13, .d (.int .i64) t13), (14, .d (.int .i64) t14), (19, .d (.sl (.int .u16)) t19), (20, .d (.int .i64) t20), (21, .d (.int .i64) t21)], nt := 45, up := [], own := [(0, .row (.int .u16) 32 bank), (1, .box 31 [.d (.int .i64) x.1, .d (.sl (.int .u16)) x.2])], nx := 2, log := [], ln := 0 }
def q4a_ (w at' : Int) (t12 : List (Int × List Int)) (t13 t14 : Int) (t19 : List Int) (t20 t21 : Int) (t37 : Bool) (bank : List Int) (x : Int × List Int) : St := { fr := [(0, .row 0), (6, .pb 1 0), (8, .d (.int .u16) w), (9, .d (.int .i64) at'), (12, .d (.sl QJT0) t12), (13, .d (.int .i64) t13), (14, .d (.int .i64) t14), (19, .d (.sl (.int .u16)) t19), (20, .d (.int .i64) t20), (21, .d (.int .i64) t21), (37, .d .bool t37)], nt := 45, up := [], own := [(0, .row (.int .u16) 32 bank), (1, .box 31 [.d (.int .i64) x.1, .d (.sl (.int .u16)) x.2])], nx := 2, log := [], ln := 0 }
def q3a_ (j2 : List (Int × List Int) -> Int -> Int -> List Int -> Int -> Int -> List Int -> Int × List Int -> Option (As [.sl (.int .u16)])) (self1 : List (Int × List Int) -> Int -> Int -> List Int -> Option (As [.sl (.int .u16)])) (t12 : List (Int × List Int)) (t13 t14 : Int) (bank : List Int) : Option (As [.sl (.int .u16)]) :=
  if lt t14 t13 = true then Option.bind (at? t12 t14) fun (y : Int × List Int) => j2 t12 t13 t14 y.2 (Int.ofNat (List.length y.2)) 0 bank y else some (bank, ())
def q3b_ (j3 : Int -> Int -> List (Int × List Int) -> Int -> Int -> List Int -> Int -> Int -> Bool -> List Int -> Int × List Int -> Option (As [.sl (.int .u16)])) (self1 : List (Int × List Int) -> Int -> Int -> List Int -> Option (As [.sl (.int .u16)])) (self2 : List (Int × List Int) -> Int -> Int -> List Int -> Int -> Int -> List Int -> Int × List Int -> Option (As [.sl (.int .u16)])) (t12 : List (Int × List Int)) (t13 t14 : Int) (t19 : List Int) (t20 t21 : Int) (bank : List Int) (x : Int × List Int) : Option (As [.sl (.int .u16)]) :=
  if lt t21 t20 = true then Option.bind (at? t19 t21) fun (y : Int) => if ge (add .i64 x.1 t21) 0 = true then j3 y (add .i64 x.1 t21) t12 t13 t14 t19 t20 t21 (lt (add .i64 x.1 t21) (Int.ofNat (List.length bank))) bank x else j3 y (add .i64 x.1 t21) t12 t13 t14 t19 t20 t21 false bank x else self1 t12 t13 (add .i64 t14 1) bank
def q49_ (self1 : List (Int × List Int) -> Int -> Int -> List Int -> Option (As [.sl (.int .u16)])) (self2 : List (Int × List Int) -> Int -> Int -> List Int -> Int -> Int -> List Int -> Int × List Int -> Option (As [.sl (.int .u16)])) (w at' : Int) (t12 : List (Int × List Int)) (t13 t14 : Int) (t19 : List Int) (t20 t21 : Int) (t37 : Bool) (bank : List Int) (x : Int × List Int) : Option (As [.sl (.int .u16)]) :=
  if t37 = true then Option.bind (at? bank at') fun (x_1 : Int) => Option.bind (at? bank at') fun (x_2 : Int) => self2 t12 t13 t14 t19 t20 (add .i64 t21 1) (List.set bank (Int.toNat at') w) x else self2 t12 t13 t14 t19 t20 (add .i64 t21 1) bank x
def q47_ (j1 : List (Int × List Int) -> Int -> Int -> List Int -> Option (As [.sl (.int .u16)])) (bank : List Int) (l : List (Int × List Int)) : Option (As [.sl (.int .u16)]) :=
  Option.bind (qb_ (bank, ())) fun (y : List Int × Unit) => j1 l (Int.ofNat (List.length l)) 0 y.1
def q38_ (u1 : List (Int × List Int) -> Int -> Int -> List Int -> Option (As [.sl (.int .u16)])) (u2 : List (Int × List Int) -> Int -> Int -> List Int -> Int -> Int -> List Int -> Int × List Int -> Option (As [.sl (.int .u16)])) (w at' : Int) (t12 : List (Int × List Int)) (t13 t14 : Int) (t19 : List Int) (t20 t21 : Int) (t37 : Bool) (bank : List Int) (x : Int × List Int) : Option (As [.sl (.int .u16)]) := q49_ u1 u2 w at' t12 t13 t14 t19 t20 t21 t37 bank x
def q39_ (u1 : List (Int × List Int) -> Int -> Int -> List Int -> Option (As [.sl (.int .u16)])) (t12 : List (Int × List Int)) (t13 t14 : Int) (t19 : List Int) (t20 t21 : Int) (bank : List Int) (x : Int × List Int) : Option (As [.sl (.int .u16)]) :=
  loopF (fun (self : (List (Int × List Int)) × (Int) × (Int) × (List Int) × (Int) × (Int) × (List Int) × (Int × List Int) -> Option (As [.sl (.int .u16)])) (s : (List (Int × List Int)) × (Int) × (Int) × (List Int) × (Int) × (Int) × (List Int) × (Int × List Int)) => q3b_ (q38_ u1 (fun t12 t13 t14 t19 t20 t21 bank x => self (t12, t13, t14, t19, t20, t21, bank, x))) u1 (fun t12 t13 t14 t19 t20 t21 bank x => self (t12, t13, t14, t19, t20, t21, bank, x)) s.1 s.2.1 s.2.2.1 s.2.2.2.1 s.2.2.2.2.1 s.2.2.2.2.2.1 s.2.2.2.2.2.2.1 s.2.2.2.2.2.2.2) 18446744073709551616 (t12, t13, t14, t19, t20, t21, bank, x)
def q3o_ (t12 : List (Int × List Int)) (t13 t14 : Int) (bank : List Int) : Option (As [.sl (.int .u16)]) :=
  loopF (fun (self : (List (Int × List Int)) × (Int) × (Int) × (List Int) -> Option (As [.sl (.int .u16)])) (s : (List (Int × List Int)) × (Int) × (Int) × (List Int)) => q3a_ (q39_ (fun t12 t13 t14 bank => self (t12, t13, t14, bank))) (fun t12 t13 t14 bank => self (t12, t13, t14, bank)) s.1 s.2.1 s.2.2.1 s.2.2.2) 18446744073709551616 (t12, t13, t14, bank)
def q45_ (x : As [.sl (.int .u16), .sl QJT0]) : Option (As [.sl (.int .u16)]) := q47_ q3o_ x.1 x.2.1
theorem q80_  (J w1 w2 w at' t12 t13 t14 t19 t20 t21 t37 bank x) : pfn Try.prog q11_ 6 18446744073709551616 (Ev.get q12_) 10 qr_ J 1913651 [w1, w2] (q4a_ w at' t12 t13 t14 t19 t20 t21 t37 bank x) = q49_ (fun t12 t13 t14 bank => w1 (qq_ t12 t13 t14 bank)) (fun t12 t13 t14 t19 t20 t21 bank x => w2 (q19_ t12 t13 t14 t19 t20 t21 bank x)) w at' t12 t13 t14 t19 t20 t21 t37 bank x := by kernel_rfl
theorem q7u_  (J w1 w2 t12 t13 t14 t19 t20 t21 bank x) : pfn Try.prog q11_ 6 18446744073709551616 (Ev.get q12_) 10 qr_ J 14950 [w1, w2] (q19_ t12 t13 t14 t19 t20 t21 bank x) = q3b_ (fun w at' t12 t13 t14 t19 t20 t21 t37 bank x => J 1913651 [w1, w2] (q4a_ w at' t12 t13 t14 t19 t20 t21 t37 bank x)) (fun t12 t13 t14 bank => w1 (qq_ t12 t13 t14 bank)) (fun t12 t13 t14 t19 t20 t21 bank x => w2 (q19_ t12 t13 t14 t19 t20 t21 bank x)) t12 t13 t14 t19 t20 t21 bank x := by kernel_rfl
theorem q7z_  (J w1 t12 t13 t14 bank) : pfn Try.prog q11_ 6 18446744073709551616 (Ev.get q12_) 10 qr_ J 58 [w1] (qq_ t12 t13 t14 bank) = q3a_ (fun t12 t13 t14 t19 t20 t21 bank x => J 14950 [w1] (q19_ t12 t13 t14 t19 t20 t21 bank x)) (fun t12 t13 t14 bank => w1 (qq_ t12 t13 t14 bank)) t12 t13 t14 bank := by kernel_rfl
theorem q7y_ (J : Orc (As [.sl (.int .u16)])) (x : As [.sl (.int .u16), .sl QJT0]) : rfn Try.prog q11_ 6 18446744073709551616 (Ev.get q12_) 10 qr_ J x = q47_ (fun t12 t13 t14 bank => J 58 [] (qq_ t12 t13 t14 bank)) x.1 x.2.1 := by kernel_rfl
theorem q7w_  (w1 w2 w at' t12 t13 t14 t19 t20 t21 t37 bank x) : jfn Try.prog q11_ 6 18446744073709551616 (Ev.get q12_) 10 qr_ 1913651 [w1, w2] (q4a_ w at' t12 t13 t14 t19 t20 t21 t37 bank x) = q38_ (fun t12 t13 t14 bank => w1 (qq_ t12 t13 t14 bank)) (fun t12 t13 t14 t19 t20 t21 bank x => w2 (q19_ t12 t13 t14 t19 t20 t21 bank x)) w at' t12 t13 t14 t19 t20 t21 t37 bank x := by
  rw [pfn_eq (by decide)]
  rw [q80_]
  rfl
theorem q7v_  (w1 t12 t13 t14 t19 t20 t21 bank x) : jfn Try.prog q11_ 6 18446744073709551616 (Ev.get q12_) 10 qr_ 14950 [w1] (q19_ t12 t13 t14 t19 t20 t21 bank x) = q39_ (fun t12 t13 t14 bank => w1 (qq_ t12 t13 t14 bank)) t12 t13 t14 t19 t20 t21 bank x := by
  rw [pfn_eq (by decide)]
  rw [pfn_loop (by kernel_rfl)]
  refine qx_ (σ := (List (Int × List Int)) × (Int) × (Int) × (List Int) × (Int) × (Int) × (List Int) × (Int × List Int)) (mk := fun s => q19_ s.1 s.2.1 s.2.2.1 s.2.2.2.1 s.2.2.2.2.1 s.2.2.2.2.2.1 s.2.2.2.2.2.2.1 s.2.2.2.2.2.2.2) (fun w2 s => ?_) 18446744073709551616 (t12, t13, t14, t19, t20, t21, bank, x)
  have e3 : (fun w at' t12 t13 t14 t19 t20 t21 t37 bank x => (jfn Try.prog q11_ 6 18446744073709551616 (Ev.get q12_) 10 qr_) 1913651 [w1, w2] (q4a_ w at' t12 t13 t14 t19 t20 t21 t37 bank x)) = q38_ (fun t12 t13 t14 bank => w1 (qq_ t12 t13 t14 bank)) (fun t12 t13 t14 t19 t20 t21 bank x => w2 (q19_ t12 t13 t14 t19 t20 t21 bank x)) := by funext w at' t12 t13 t14 t19 t20 t21 t37 bank x; exact q7w_ w1 w2 w at' t12 t13 t14 t19 t20 t21 t37 bank x
  refine (q7u_ _ w1 w2 s.1 s.2.1 s.2.2.1 s.2.2.2.1 s.2.2.2.2.1 s.2.2.2.2.2.1 s.2.2.2.2.2.2.1 s.2.2.2.2.2.2.2).trans ?_
  rw [e3]
theorem q7r_  (t12 t13 t14 bank) : jfn Try.prog q11_ 6 18446744073709551616 (Ev.get q12_) 10 qr_ 58 [] (qq_ t12 t13 t14 bank) = q3o_ t12 t13 t14 bank := by
  rw [pfn_eq (by decide)]
  rw [pfn_loop (by kernel_rfl)]
  refine qx_ (σ := (List (Int × List Int)) × (Int) × (Int) × (List Int)) (mk := fun s => qq_ s.1 s.2.1 s.2.2.1 s.2.2.2) (fun w1 s => ?_) 18446744073709551616 (t12, t13, t14, bank)
  have e2 : (fun t12 t13 t14 t19 t20 t21 bank x => (jfn Try.prog q11_ 6 18446744073709551616 (Ev.get q12_) 10 qr_) 14950 [w1] (q19_ t12 t13 t14 t19 t20 t21 bank x)) = q39_ (fun t12 t13 t14 bank => w1 (qq_ t12 t13 t14 bank)) := by funext t12 t13 t14 t19 t20 t21 bank x; exact q7v_ w1 t12 t13 t14 t19 t20 t21 bank x
  refine (q7z_ _ w1 s.1 s.2.1 s.2.2.1 s.2.2.2).trans ?_
  rw [e2]
theorem q86_ (x : As [.sl (.int .u16), .sl QJT0]) : evT Try.prog q11_ 6 18446744073709551616 (Ev.get q12_) 10 qr_ x = q45_ x := by
  have e1 : (fun t12 t13 t14 bank => (jfn Try.prog q11_ 6 18446744073709551616 (Ev.get q12_) 10 qr_) 58 [] (qq_ t12 t13 t14 bank)) = q3o_ := by funext t12 t13 t14 bank; exact q7r_ t12 t13 t14 bank
  rw [rfn_eq, q7y_, e1]
  rfl
theorem q7x_ : CtOk Try.prog (fun _ => True) 10 ⟨qr_, q45_⟩ := ct_of_ev (qv_ q22_ env_nil) q86_
@[reducible] def q1f_ : Sh := ⟨[.d (.sl (.int .u16)), .d (.sl (.int .u16))], [], [.sl (.int .u16), .sl (.int .u16)], [.d (.bool)], [], 0, [.bool]⟩
def q3n_ : Env := (cts [])
def q3p_ : List (Nat × Hint) := [(58, ⟨[], [0, 1, 12, 13]⟩)]
def q2h_ (a b : List Int) (t12 t13 : Int) : St := { fr := [(0, .d (.sl (.int .u16)) a), (1, .d (.sl (.int .u16)) b), (12, .d (.int .i64) t12), (13, .d (.int .i64) t13)], nt := 26, up := [], own := [], nx := 0, log := [], ln := 0 }
def q2l_ (self1 : List Int -> List Int -> Int -> Int -> Option (As [.bool])) (a b : List Int) (t12 t13 : Int) : Option (As [.bool]) :=
  if lt t13 t12 = true then Option.bind (at? a t13) fun (y : Int) => Option.bind (at? b t13) fun (y_1 : Int) => if nei y y_1 = true then some (false, ()) else self1 a b t12 (add .i64 t13 1) else some (true, ())
def q44_ (j1 : List Int -> List Int -> Int -> Int -> Option (As [.bool])) (a b : List Int) : Option (As [.bool]) :=
  if nei (Int.ofNat (List.length a)) (Int.ofNat (List.length b)) = true then some (false, ()) else j1 a b (Int.ofNat (List.length a)) 0
def q3i_ (a b : List Int) (t12 t13 : Int) : Option (As [.bool]) :=
  loopF (fun (self : (List Int) × (List Int) × (Int) × (Int) -> Option (As [.bool])) (s : (List Int) × (List Int) × (Int) × (Int)) => q2l_ (fun a b t12 t13 => self (a, b, t12, t13)) s.1 s.2.1 s.2.2.1 s.2.2.2) 18446744073709551616 (a, b, t12, t13)
def q2m_ (x : As [.sl (.int .u16), .sl (.int .u16)]) : Option (As [.bool]) := q44_ q3i_ x.1 x.2.1
theorem q7k_  (J w1 a b t12 t13) : pfn Try.prog q3n_ 6 18446744073709551616 (Ev.get q3p_) 11 q1f_ J 58 [w1] (q2h_ a b t12 t13) = q2l_ (fun a b t12 t13 => w1 (q2h_ a b t12 t13)) a b t12 t13 := by kernel_rfl
theorem q7l_ (J : Orc (As [.bool])) (x : As [.sl (.int .u16), .sl (.int .u16)]) : rfn Try.prog q3n_ 6 18446744073709551616 (Ev.get q3p_) 11 q1f_ J x = q44_ (fun a b t12 t13 => J 58 [] (q2h_ a b t12 t13)) x.1 x.2.1 := by kernel_rfl
theorem q7f_  (a b t12 t13) : jfn Try.prog q3n_ 6 18446744073709551616 (Ev.get q3p_) 11 q1f_ 58 [] (q2h_ a b t12 t13) = q3i_ a b t12 t13 := by
  rw [pfn_eq (by decide)]
  rw [pfn_loop (by kernel_rfl)]
  refine qx_ (σ := (List Int) × (List Int) × (Int) × (Int)) (mk := fun s => q2h_ s.1 s.2.1 s.2.2.1 s.2.2.2) (fun w1 s => ?_) 18446744073709551616 (a, b, t12, t13)
  refine (q7k_ _ w1 s.1 s.2.1 s.2.2.1 s.2.2.2).trans ?_
  rfl
theorem q85_ (x : As [.sl (.int .u16), .sl (.int .u16)]) : evT Try.prog q3n_ 6 18446744073709551616 (Ev.get q3p_) 11 q1f_ x = q2m_ x := by
  have e1 : (fun a b t12 t13 => (jfn Try.prog q3n_ 6 18446744073709551616 (Ev.get q3p_) 11 q1f_) 58 [] (q2h_ a b t12 t13)) = q3i_ := by funext a b t12 t13; exact q7f_ a b t12 t13
  rw [rfn_eq, q7l_, e1]
  rfl
theorem q4j_ : CtOk Try.prog (fun _ => True) 11 ⟨q1f_, q2m_⟩ := ct_of_ev env_nil q85_
@[reducible] def q13_ : Sh := ⟨[.d (.sl QJT0), .d (.sl QJT0)], [], [.sl QJT0, .sl QJT0], [.d (.bool)], [], 0, [.bool]⟩
def q1w_ : Env := (cts [(11, (⟨q1f_, q2m_⟩ : Ct))])
def q1x_ : List (Nat × Hint) := [(58, ⟨[], [0, 1, 12, 13, 28, 29, 30, 31, 32, 33, 34, 35, 36, 37, 38, 39]⟩), (3737, ⟨[.agd 28 (.sl QJT0), .agd 29 (.int .i64), .agd 32 (.sl (.int .u16)), .agd 33 (.sl QJT0), .agd 34 (.int .i64), .agd 37 (.sl (.int .u16)), .agd 38 .bool, .agd 39 .bool], [0, 1, 12, 13, 40]⟩)]
def q14_ (a b : List (Int × List Int)) (t12 t13 : Int) : St := { fr := [(0, .d (.sl QJT0) a), (1, .d (.sl QJT0) b), (12, .d (.int .i64) t12), (13, .d (.int .i64) t13)], nt := 42, up := [], own := [], nx := 0, log := [], ln := 0 }
def q41_ (a b : List (Int × List Int)) (t12 t13 : Int) (t40 : Bool) : St := { fr := [(0, .d (.sl QJT0) a), (1, .d (.sl QJT0) b), (12, .d (.int .i64) t12), (13, .d (.int .i64) t13), (40, .d .bool t40)], nt := 42, up := [], own := [], nx := 0, log := [], ln := 0 }
def q2j_ (j2 : List (Int × List Int) -> List (Int × List Int) -> Int -> Int -> Bool -> Option (As [.bool])) (self1 : List (Int × List Int) -> List (Int × List Int) -> Int -> Int -> Option (As [.bool])) (a b : List (Int × List Int)) (t12 t13 : Int) : Option (As [.bool]) :=
  if lt t13 t12 = true then Option.bind (at? a t13) fun (y : Int × List Int) => Option.bind (at? b t13) fun (y_1 : Int × List Int) => if nei y.1 y_1.1 = true then j2 a b t12 t13 true else Option.bind (at? a t13) fun (y : Int × List Int) => Option.bind (at? b t13) fun (y_2 : Int × List Int) => Option.bind (q2m_ (y.2, y_2.2, ())) fun (y : Bool × Unit) => j2 a b t12 t13 !y.1 else some (true, ())
def q42_ (self1 : List (Int × List Int) -> List (Int × List Int) -> Int -> Int -> Option (As [.bool])) (a b : List (Int × List Int)) (t12 t13 : Int) (t40 : Bool) : Option (As [.bool]) :=
  if t40 = true then some (false, ()) else self1 a b t12 (add .i64 t13 1)
def q43_ (j1 : List (Int × List Int) -> List (Int × List Int) -> Int -> Int -> Option (As [.bool])) (a b : List (Int × List Int)) : Option (As [.bool]) :=
  if nei (Int.ofNat (List.length a)) (Int.ofNat (List.length b)) = true then some (false, ()) else j1 a b (Int.ofNat (List.length a)) 0
def q2f_ (u1 : List (Int × List Int) -> List (Int × List Int) -> Int -> Int -> Option (As [.bool])) (a b : List (Int × List Int)) (t12 t13 : Int) (t40 : Bool) : Option (As [.bool]) := q42_ u1 a b t12 t13 t40
def q3j_ (a b : List (Int × List Int)) (t12 t13 : Int) : Option (As [.bool]) :=
  loopF (fun (self : (List (Int × List Int)) × (List (Int × List Int)) × (Int) × (Int) -> Option (As [.bool])) (s : (List (Int × List Int)) × (List (Int × List Int)) × (Int) × (Int)) => q2j_ (q2f_ (fun a b t12 t13 => self (a, b, t12, t13))) (fun a b t12 t13 => self (a, b, t12, t13)) s.1 s.2.1 s.2.2.1 s.2.2.2) 18446744073709551616 (a, b, t12, t13)
def q48_ (x : As [.sl QJT0, .sl QJT0]) : Option (As [.bool]) := q43_ q3j_ x.1 x.2.1
theorem q7o_  (J w1 a b t12 t13 t40) : pfn Try.prog q1w_ 6 18446744073709551616 (Ev.get q1x_) 16 q13_ J 3737 [w1] (q41_ a b t12 t13 t40) = q42_ (fun a b t12 t13 => w1 (q14_ a b t12 t13)) a b t12 t13 t40 := by kernel_rfl
theorem q7p_  (J w1 a b t12 t13) : pfn Try.prog q1w_ 6 18446744073709551616 (Ev.get q1x_) 16 q13_ J 58 [w1] (q14_ a b t12 t13) = q2j_ (fun a b t12 t13 t40 => J 3737 [w1] (q41_ a b t12 t13 t40)) (fun a b t12 t13 => w1 (q14_ a b t12 t13)) a b t12 t13 := by kernel_rfl
theorem q7h_ (J : Orc (As [.bool])) (x : As [.sl QJT0, .sl QJT0]) : rfn Try.prog q1w_ 6 18446744073709551616 (Ev.get q1x_) 16 q13_ J x = q43_ (fun a b t12 t13 => J 58 [] (q14_ a b t12 t13)) x.1 x.2.1 := by kernel_rfl
theorem q7i_  (w1 a b t12 t13 t40) : jfn Try.prog q1w_ 6 18446744073709551616 (Ev.get q1x_) 16 q13_ 3737 [w1] (q41_ a b t12 t13 t40) = q2f_ (fun a b t12 t13 => w1 (q14_ a b t12 t13)) a b t12 t13 t40 := by
  rw [pfn_eq (by decide)]
  rw [q7o_]
  rfl
theorem q7m_  (a b t12 t13) : jfn Try.prog q1w_ 6 18446744073709551616 (Ev.get q1x_) 16 q13_ 58 [] (q14_ a b t12 t13) = q3j_ a b t12 t13 := by
  rw [pfn_eq (by decide)]
  rw [pfn_loop (by kernel_rfl)]
  refine qx_ (σ := (List (Int × List Int)) × (List (Int × List Int)) × (Int) × (Int)) (mk := fun s => q14_ s.1 s.2.1 s.2.2.1 s.2.2.2) (fun w1 s => ?_) 18446744073709551616 (a, b, t12, t13)
  have e2 : (fun a b t12 t13 t40 => (jfn Try.prog q1w_ 6 18446744073709551616 (Ev.get q1x_) 16 q13_) 3737 [w1] (q41_ a b t12 t13 t40)) = q2f_ (fun a b t12 t13 => w1 (q14_ a b t12 t13)) := by funext a b t12 t13 t40; exact q7i_ w1 a b t12 t13 t40
  refine (q7p_ _ w1 s.1 s.2.1 s.2.2.1 s.2.2.2).trans ?_
  rw [e2]
theorem q84_ (x : As [.sl QJT0, .sl QJT0]) : evT Try.prog q1w_ 6 18446744073709551616 (Ev.get q1x_) 16 q13_ x = q48_ x := by
  have e1 : (fun a b t12 t13 => (jfn Try.prog q1w_ 6 18446744073709551616 (Ev.get q1x_) 16 q13_) 58 [] (q14_ a b t12 t13)) = q3j_ := by funext a b t12 t13; exact q7m_ a b t12 t13
  rw [rfn_eq, q7h_, e1]
  rfl
theorem q7n_ : CtOk Try.prog (fun _ => True) 16 ⟨q13_, q48_⟩ := ct_of_ev (qv_ q4j_ env_nil) q84_
@[reducible] def qy_ : Sh := ⟨[], [], [], [.d (.bool)], [], 0, [.bool]⟩
def q1m_ : Env := (cts [(8, (⟨q1y_, q1v_⟩ : Ct)), (10, (⟨qr_, q45_⟩ : Ct)), (11, (⟨q1f_, q2m_⟩ : Ct)), (16, (⟨q13_, q48_⟩ : Ct))])
def q1n_ : List (Nat × Hint) := [(15, ⟨[], [1, 2, 3, 37, 40, 41, 44, 45, 46, 47, 48, 49, 50, 53, 54, 55, 58, 59, 60, 61, 62, 63, 66, 67, 68, 69, 70, 73, 74, 75, 76, 77]⟩), (122, ⟨[], [1, 2, 3, 16, 37, 40, 41, 44, 45, 46, 47, 48, 49, 50, 53, 54, 55, 58, 59, 60, 61, 62, 63, 66, 67, 68, 69, 70, 73, 74, 75, 76, 77]⟩)]
def q27_ (a : List (Int × List Int)) (x : Bool) (t16 : Int) (m : List (Int × Int)) : St := { fr := [(1, .d (.sl QJT0) a), (2, .d .bool x), (3, .mp 0), (16, .d (.int .i64) t16)], nt := 79, up := [], own := [(0, .dm (.int .i64) (.int .u16) m)], nx := 1, log := [], ln := 0 }
def q3w_ (a : List (Int × List Int)) (x : Bool) (m : List (Int × Int)) : St := { fr := [(1, .d (.sl QJT0) a), (2, .d .bool x), (3, .mp 0)], nt := 79, up := [], own := [(0, .dm (.int .i64) (.int .u16) m)], nx := 1, log := [], ln := 0 }
def q4u_ (j2 : List (Int × List Int) -> Bool -> List (Int × Int) -> Option (As [.bool])) (self1 : List (Int × List Int) -> Bool -> Int -> List (Int × Int) -> Option (As [.bool])) (a : List (Int × List Int)) (x : Bool) (t16 : Int) (m : List (Int × Int)) : Option (As [.bool]) :=
  if lt t16 15 = true then self1 a x (add .i64 t16 1) (Ev.dput (.int .i64) m t16 (cvt .u16 t16)) else j2 a x m
def q3x_ (a : List (Int × List Int)) (x : Bool) (m : List (Int × Int)) : Option (As [.bool]) :=
  Option.bind (q1v_ (m, ())) fun (y : List (Int × List Int) × Bool × List (Int × Int) × Unit) => Option.bind (q1v_ ([(64, 1)], ())) fun (y_1 : List (Int × List Int) × Bool × List (Int × Int) × Unit) => if x = true then if y.2.1 = true then if (!y_1.2.1) = true then Option.bind (q48_ (a, [(3, [7, 8]), (6, [9])], ())) fun (y_2 : Bool × Unit) => if y_2.1 = true then if eqi (Int.ofNat (List.length y.1)) 2 = true then Option.bind (at? y.1 0) fun (y_3 : Int × List Int) => if eqi (Int.ofNat (List.length y_3.2)) 14 = true then Option.bind (at? y.1 1) fun (y : Int × List Int) => if eqi y.1 14 = true then Option.bind (q45_ ([0, 0, 0, 0, 0, 0, 0], a, ())) fun (y : List Int × Unit) => Option.bind (q2m_ (y.1, [0, 0, 0, 7, 8, 0, 9], ())) fun (y : Bool × Unit) => some (y.1, ()) else some (false, ()) else some (false, ()) else some (false, ()) else some (false, ()) else some (false, ()) else some (false, ()) else some (false, ())
def q3q_ (j1 : List (Int × List Int) -> Bool -> Int -> List (Int × Int) -> Option (As [.bool])) : Option (As [.bool]) :=
  Option.bind (q1v_ ([(3, 7), (4, 8), (6, 9)], ())) fun (y : List (Int × List Int) × Bool × List (Int × Int) × Unit) => j1 y.1 y.2.1 0 []
def q3r_ (a : List (Int × List Int)) (x : Bool) (m : List (Int × Int)) : Option (As [.bool]) := q3x_ a x m
def q28_ (a : List (Int × List Int)) (x : Bool) (t16 : Int) (m : List (Int × Int)) : Option (As [.bool]) :=
  loopF (fun (self : (List (Int × List Int)) × (Bool) × (Int) × (List (Int × Int)) -> Option (As [.bool])) (s : (List (Int × List Int)) × (Bool) × (Int) × (List (Int × Int))) => q4u_ (q3r_) (fun a x t16 m => self (a, x, t16, m)) s.1 s.2.1 s.2.2.1 s.2.2.2) 18446744073709551616 (a, x, t16, m)
def q16_ (x : As []) : Option (As [.bool]) := q3q_ q28_
theorem q6z_  (J a x m) : pfn Try.prog q1m_ 6 18446744073709551616 (Ev.get q1n_) 9 qy_ J 15 [] (q3w_ a x m) = q3x_ a x m := by kernel_rfl
theorem q6u_  (J w1 a x t16 m) : pfn Try.prog q1m_ 6 18446744073709551616 (Ev.get q1n_) 9 qy_ J 122 [w1] (q27_ a x t16 m) = q4u_ (fun a x m => J 15 [] (q3w_ a x m)) (fun a x t16 m => w1 (q27_ a x t16 m)) a x t16 m := by kernel_rfl
theorem q71_ (J : Orc (As [.bool])) (x : As []) : rfn Try.prog q1m_ 6 18446744073709551616 (Ev.get q1n_) 9 qy_ J x = q3q_ (fun a x t16 m => J 122 [] (q27_ a x t16 m)) := by kernel_rfl
theorem q7a_  (a x m) : jfn Try.prog q1m_ 6 18446744073709551616 (Ev.get q1n_) 9 qy_ 15 [] (q3w_ a x m) = q3r_ a x m := by
  rw [pfn_eq (by decide)]
  rw [q6z_]
  rfl
theorem q7e_  (a x t16 m) : jfn Try.prog q1m_ 6 18446744073709551616 (Ev.get q1n_) 9 qy_ 122 [] (q27_ a x t16 m) = q28_ a x t16 m := by
  rw [pfn_eq (by decide)]
  rw [pfn_loop (by kernel_rfl)]
  refine qx_ (σ := (List (Int × List Int)) × (Bool) × (Int) × (List (Int × Int))) (mk := fun s => q27_ s.1 s.2.1 s.2.2.1 s.2.2.2) (fun w1 s => ?_) 18446744073709551616 (a, x, t16, m)
  have e2 : (fun a x m => (jfn Try.prog q1m_ 6 18446744073709551616 (Ev.get q1n_) 9 qy_) 15 [] (q3w_ a x m)) = q3r_ := by funext a x m; exact q7a_ a x m
  refine (q6u_ _ w1 s.1 s.2.1 s.2.2.1 s.2.2.2).trans ?_
  rw [e2]
theorem q7j_ (x : As []) : evT Try.prog q1m_ 6 18446744073709551616 (Ev.get q1n_) 9 qy_ x = q16_ x := by
  have e1 : (fun a x t16 m => (jfn Try.prog q1m_ 6 18446744073709551616 (Ev.get q1n_) 9 qy_) 122 [] (q27_ a x t16 m)) = q28_ := by funext a x t16 m; exact q7e_ a x t16 m
  rw [rfn_eq, q71_, e1]
  rfl
theorem q7c_ : CtOk Try.prog (fun _ => True) 9 ⟨qy_, q16_⟩ := ct_of_ev (qv_ q79_ (qv_ q7x_ (qv_ q4j_ (qv_ q7n_ env_nil)))) q7j_
@[reducible] def q5o_ : Sh := ⟨[.d (.sl (.int .u16)), .d (.sl .bool)], [], [.sl (.int .u16), .sl .bool], [.d (.bool)], [], 0, [.bool]⟩
def q57_ (j2 : List Bool -> List (Int × List Int) -> Bool -> Int -> Int -> Int -> Int -> List (Int × Int) -> Option (As [.bool])) (w : List Int) (is' : List Bool) (words : List Int) (have' : List Bool) : Option (As [.bool]) :=
  need (le (Int.ofNat (0 + List.length words)) (Int.ofNat (List.length words))) (need (le (Int.ofNat (0 + List.length have')) (Int.ofNat (List.length have'))) (Option.bind (q87_ (List.take (Int.toNat (Int.ofNat (List.length words))) w ++ List.drop (0 + List.length (List.take (Int.toNat (Int.ofNat (List.length words))) w)) words, List.take (Int.toNat (Int.ofNat (List.length have'))) is' ++ List.drop (0 + List.length (List.take (Int.toNat (Int.ofNat (List.length have'))) is')) have', ())) fun (y : List (Int × Int) × Unit) => Option.bind (q1v_ (y.1, ())) fun (y : List (Int × List Int) × Bool × List (Int × Int) × Unit) => j2 (List.take (Int.toNat (Int.ofNat (List.length have'))) is' ++ List.drop (0 + List.length (List.take (Int.toNat (Int.ofNat (List.length have'))) is')) have') y.1 y.2.1 0 0 (Int.ofNat (List.length (List.take (Int.toNat (Int.ofNat (List.length have'))) is' ++ List.drop (0 + List.length (List.take (Int.toNat (Int.ofNat (List.length have'))) is')) have'))) 0 y.2.2.1))
def q5k_ (j3 : List Bool -> List (Int × List Int) -> Bool -> Int -> Int -> Int -> Int -> List (Int × Int) -> Option (As [.bool])) (j4 : List (Int × List Int) -> Bool -> Int -> List (Int × Int) -> Option (As [.bool])) (self2 : List Bool -> List (Int × List Int) -> Bool -> Int -> Int -> Int -> Int -> List (Int × Int) -> Option (As [.bool])) (have' : List Bool) (l : List (Int × List Int)) (ok : Bool) (runs least t42 t43 : Int) (m : List (Int × Int)) : Option (As [.bool]) :=
  if lt t43 t42 = true then Option.bind (at? have' t43) fun (y : Bool) => if (!y) = true then self2 have' l ok 0 least t42 (add .i64 t43 1) m else if eqi (rem runs 14) 0 = true then j3 have' l ok runs (add .i64 least 1) t42 t43 m else j3 have' l ok runs least t42 t43 m else j4 l ok least m
def q5h_ (self2 : List Bool -> List (Int × List Int) -> Bool -> Int -> Int -> Int -> Int -> List (Int × Int) -> Option (As [.bool])) (have' : List Bool) (l : List (Int × List Int)) (ok : Bool) (runs least t42 t43 : Int) (m : List (Int × Int)) : Option (As [.bool]) :=
  self2 have' l ok (add .i64 runs 1) least t42 (add .i64 t43 1) m
def q54_ (j5 : List (Int × List Int) -> Int -> Int -> List (Int × List Int) -> Int -> Int -> List (Int × Int) -> Option (As [.bool])) (l : List (Int × List Int)) (ok : Bool) (least : Int) (m : List (Int × Int)) : Option (As [.bool]) :=
  if Sx.neb ok (le least 8) = true then some (false, ()) else if (!ok) = true then if eqi (Int.ofNat (List.length l)) 0 = true then Option.bind (q16_ ()) fun (y : Bool × Unit) => some (y.1, ()) else some (false, ()) else j5 l least 0 l (Int.ofNat (List.length l)) 0 m
def q5c_ (j6 : List (Int × List Int) -> Int -> Int -> Int -> List (Int × List Int) -> Int -> Int -> Bool -> List (Int × Int) -> Int × List Int -> Option (As [.bool])) (j7 : List (Int × List Int) -> Int -> Int -> List (Int × Int) -> Option (As [.bool])) (self5 : List (Int × List Int) -> Int -> Int -> List (Int × List Int) -> Int -> Int -> List (Int × Int) -> Option (As [.bool])) (l : List (Int × List Int)) (least met : Int) (t71 : List (Int × List Int)) (t72 t73 : Int) (m : List (Int × Int)) : Option (As [.bool]) :=
  if lt t73 t72 = true then Option.bind (at? t71 t73) fun (y : Int × List Int) => if lt (Int.ofNat (List.length y.2)) 1 = true then j6 l least met t73 t71 t72 t73 true m y else j6 l least met t73 t71 t72 t73 (gt (Int.ofNat (List.length y.2)) 14) m y else j7 l least met m
def q53_ (j8 : List (Int × List Int) -> Int -> Int -> List (Int × List Int) -> Int -> Int -> Bool -> List (Int × Int) -> Int × List Int -> Option (As [.bool])) (j9 : List (Int × List Int) -> Int -> Int -> List (Int × List Int) -> Int -> Int -> List (Int × Int) -> Int × List Int -> Option (As [.bool])) (self5 : List (Int × List Int) -> Int -> Int -> List (Int × List Int) -> Int -> Int -> List (Int × Int) -> Option (As [.bool])) (l : List (Int × List Int)) (least met i : Int) (t71 : List (Int × List Int)) (t72 t73 : Int) (t87 : Bool) (m : List (Int × Int)) (b : Int × List Int) : Option (As [.bool]) :=
  if t87 = true then some (false, ()) else if gt i 0 = true then Option.bind (at? l (Sx.sub .i64 i 1)) fun (y : Int × List Int) => Option.bind (at? l (Sx.sub .i64 i 1)) fun (y_1 : Int × List Int) => if lt b.1 (add .i64 y.1 (Int.ofNat (List.length y_1.2))) = true then j8 l least met t71 t72 t73 true m b else if eqi b.1 (add .i64 y.1 (Int.ofNat (List.length y_1.2))) = true then Option.bind (at? l (Sx.sub .i64 i 1)) fun (y : Int × List Int) => j8 l least met t71 t72 t73 (lt (Int.ofNat (List.length y.2)) 14) m b else j8 l least met t71 t72 t73 false m b else j9 l least met t71 t72 t73 m b
def q5g_ (l : List (Int × List Int)) (least met : Int) (m : List (Int × Int)) : Option (As [.bool]) :=
  Option.bind (q1v_ (Ev.dput (.int .i64) m 64 1, ())) fun (y : List (Int × List Int) × Bool × List (Int × Int) × Unit) => Option.bind (q1v_ (Ev.dput (.int .i64) (Ev.ddel (.int .i64) y.2.2.1 64) (-1) 1, ())) fun (y_1 : List (Int × List Int) × Bool × List (Int × Int) × Unit) => if eqi met (Sx.sub .i64 (Int.ofNat (List.length y_1.2.2.1)) 1) = true then if eqi (Int.ofNat (List.length l)) least = true then if (!y.2.1) = true then if (!y_1.2.1) = true then Option.bind (q16_ ()) fun (y : Bool × Unit) => some (y.1, ()) else some (false, ()) else some (false, ()) else some (false, ()) else some (false, ())
def q55_ (j9 : List (Int × List Int) -> Int -> Int -> List (Int × List Int) -> Int -> Int -> List (Int × Int) -> Int × List Int -> Option (As [.bool])) (self5 : List (Int × List Int) -> Int -> Int -> List (Int × List Int) -> Int -> Int -> List (Int × Int) -> Option (As [.bool])) (l : List (Int × List Int)) (least met : Int) (t71 : List (Int × List Int)) (t72 t73 : Int) (t123 : Bool) (m : List (Int × Int)) (b : Int × List Int) : Option (As [.bool]) :=
  if t123 = true then some (false, ()) else j9 l least met t71 t72 t73 m b
def q5m_ (j10 : List (Int × List Int) -> Int -> Int -> List (Int × List Int) -> Int -> Int -> List Int -> Int -> Int -> List (Int × Int) -> Int × List Int -> Option (As [.bool])) (self5 : List (Int × List Int) -> Int -> Int -> List (Int × List Int) -> Int -> Int -> List (Int × Int) -> Option (As [.bool])) (l : List (Int × List Int)) (least met : Int) (t71 : List (Int × List Int)) (t72 t73 : Int) (m : List (Int × Int)) (b : Int × List Int) : Option (As [.bool]) :=
  j10 l least met t71 t72 t73 b.2 (Int.ofNat (List.length b.2)) 0 m b
def q4y_ (j11 : List (Int × List Int) -> Int -> Int -> List (Int × List Int) -> Int -> Int -> List Int -> Int -> Int -> Bool -> List (Int × Int) -> Int × List Int -> Option (As [.bool])) (self5 : List (Int × List Int) -> Int -> Int -> List (Int × List Int) -> Int -> Int -> List (Int × Int) -> Option (As [.bool])) (self10 : List (Int × List Int) -> Int -> Int -> List (Int × List Int) -> Int -> Int -> List Int -> Int -> Int -> List (Int × Int) -> Int × List Int -> Option (As [.bool])) (l : List (Int × List Int)) (least met : Int) (t71 : List (Int × List Int)) (t72 t73 : Int) (t125 : List Int) (t126 t127 : Int) (m : List (Int × Int)) (b : Int × List Int) : Option (As [.bool]) :=
  if lt t127 t126 = true then Option.bind (at? t125 t127) fun (y : Int) => if (!Ev.isV (.int .u16) (Ev.dget (.int .i64) m (add .i64 b.1 t127))) = true then j11 l least met t71 t72 t73 t125 t126 t127 true m b else j11 l least met t71 t72 t73 t125 t126 t127 (nei (Ev.gdV (.int .u16) (Ev.dget (.int .i64) m (add .i64 b.1 t127)) 0) y) m b else self5 l least met t71 t72 (add .i64 t73 1) m
def q50_ (self5 : List (Int × List Int) -> Int -> Int -> List (Int × List Int) -> Int -> Int -> List (Int × Int) -> Option (As [.bool])) (self10 : List (Int × List Int) -> Int -> Int -> List (Int × List Int) -> Int -> Int -> List Int -> Int -> Int -> List (Int × Int) -> Int × List Int -> Option (As [.bool])) (l : List (Int × List Int)) (least met : Int) (t71 : List (Int × List Int)) (t72 t73 : Int) (t125 : List Int) (t126 t127 : Int) (t147 : Bool) (m : List (Int × Int)) (b : Int × List Int) : Option (As [.bool]) :=
  if t147 = true then some (false, ()) else self10 l least (add .i64 met 1) t71 t72 t73 t125 t126 (add .i64 t127 1) m b
def q59_ (j1 : List Int -> List Bool -> List Int -> List Bool -> Option (As [.bool])) (w : List Int) (is' : List Bool) : Option (As [.bool]) :=
  amb (eqAs q5o_.rs) [j1 w is' (List.replicate 64 0) (List.replicate 64 false), j1 w is' (List.replicate 64 0) (List.replicate 64 false)]
def q58_ (u2 : List Bool -> List (Int × List Int) -> Bool -> Int -> Int -> Int -> Int -> List (Int × Int) -> Option (As [.bool])) (have' : List Bool) (l : List (Int × List Int)) (ok : Bool) (runs least t42 t43 : Int) (m : List (Int × Int)) : Option (As [.bool]) := q5h_ u2 have' l ok runs least t42 t43 m
def q4x_ (u5 : List (Int × List Int) -> Int -> Int -> List (Int × List Int) -> Int -> Int -> List (Int × Int) -> Option (As [.bool])) (u10 : List (Int × List Int) -> Int -> Int -> List (Int × List Int) -> Int -> Int -> List Int -> Int -> Int -> List (Int × Int) -> Int × List Int -> Option (As [.bool])) (l : List (Int × List Int)) (least met : Int) (t71 : List (Int × List Int)) (t72 t73 : Int) (t125 : List Int) (t126 t127 : Int) (t147 : Bool) (m : List (Int × Int)) (b : Int × List Int) : Option (As [.bool]) := q50_ u5 u10 l least met t71 t72 t73 t125 t126 t127 t147 m b
def q51_ (u5 : List (Int × List Int) -> Int -> Int -> List (Int × List Int) -> Int -> Int -> List (Int × Int) -> Option (As [.bool])) (l : List (Int × List Int)) (least met : Int) (t71 : List (Int × List Int)) (t72 t73 : Int) (t125 : List Int) (t126 t127 : Int) (m : List (Int × Int)) (b : Int × List Int) : Option (As [.bool]) :=
  loopF (fun (self : (List (Int × List Int)) × (Int) × (Int) × (List (Int × List Int)) × (Int) × (Int) × (List Int) × (Int) × (Int) × (List (Int × Int)) × (Int × List Int) -> Option (As [.bool])) (s : (List (Int × List Int)) × (Int) × (Int) × (List (Int × List Int)) × (Int) × (Int) × (List Int) × (Int) × (Int) × (List (Int × Int)) × (Int × List Int)) => q4y_ (q4x_ u5 (fun l least met t71 t72 t73 t125 t126 t127 m b => self (l, least, met, t71, t72, t73, t125, t126, t127, m, b))) u5 (fun l least met t71 t72 t73 t125 t126 t127 m b => self (l, least, met, t71, t72, t73, t125, t126, t127, m, b)) s.1 s.2.1 s.2.2.1 s.2.2.2.1 s.2.2.2.2.1 s.2.2.2.2.2.1 s.2.2.2.2.2.2.1 s.2.2.2.2.2.2.2.1 s.2.2.2.2.2.2.2.2.1 s.2.2.2.2.2.2.2.2.2.1 s.2.2.2.2.2.2.2.2.2.2) 18446744073709551616 (l, least, met, t71, t72, t73, t125, t126, t127, m, b)
def q4d_ (u5 : List (Int × List Int) -> Int -> Int -> List (Int × List Int) -> Int -> Int -> List (Int × Int) -> Option (As [.bool])) (l : List (Int × List Int)) (least met : Int) (t71 : List (Int × List Int)) (t72 t73 : Int) (m : List (Int × Int)) (b : Int × List Int) : Option (As [.bool]) := q5m_ (q51_ u5) u5 l least met t71 t72 t73 m b
def q5e_ (u5 : List (Int × List Int) -> Int -> Int -> List (Int × List Int) -> Int -> Int -> List (Int × Int) -> Option (As [.bool])) (l : List (Int × List Int)) (least met : Int) (t71 : List (Int × List Int)) (t72 t73 : Int) (t123 : Bool) (m : List (Int × Int)) (b : Int × List Int) : Option (As [.bool]) := q55_ (q4d_ u5) u5 l least met t71 t72 t73 t123 m b
def q5i_ (u5 : List (Int × List Int) -> Int -> Int -> List (Int × List Int) -> Int -> Int -> List (Int × Int) -> Option (As [.bool])) (l : List (Int × List Int)) (least met i : Int) (t71 : List (Int × List Int)) (t72 t73 : Int) (t87 : Bool) (m : List (Int × Int)) (b : Int × List Int) : Option (As [.bool]) := q53_ (q5e_ u5) (q4d_ u5) u5 l least met i t71 t72 t73 t87 m b
def q5f_ (l : List (Int × List Int)) (least met : Int) (m : List (Int × Int)) : Option (As [.bool]) := q5g_ l least met m
def q5b_ (l : List (Int × List Int)) (least met : Int) (t71 : List (Int × List Int)) (t72 t73 : Int) (m : List (Int × Int)) : Option (As [.bool]) :=
  loopF (fun (self : (List (Int × List Int)) × (Int) × (Int) × (List (Int × List Int)) × (Int) × (Int) × (List (Int × Int)) -> Option (As [.bool])) (s : (List (Int × List Int)) × (Int) × (Int) × (List (Int × List Int)) × (Int) × (Int) × (List (Int × Int))) => q5c_ (q5i_ (fun l least met t71 t72 t73 m => self (l, least, met, t71, t72, t73, m))) (q5f_) (fun l least met t71 t72 t73 m => self (l, least, met, t71, t72, t73, m)) s.1 s.2.1 s.2.2.1 s.2.2.2.1 s.2.2.2.2.1 s.2.2.2.2.2.1 s.2.2.2.2.2.2) 18446744073709551616 (l, least, met, t71, t72, t73, m)
def q5d_ (l : List (Int × List Int)) (ok : Bool) (least : Int) (m : List (Int × Int)) : Option (As [.bool]) := q54_ (q5b_) l ok least m
def q5j_ (have' : List Bool) (l : List (Int × List Int)) (ok : Bool) (runs least t42 t43 : Int) (m : List (Int × Int)) : Option (As [.bool]) :=
  loopF (fun (self : (List Bool) × (List (Int × List Int)) × (Bool) × (Int) × (Int) × (Int) × (Int) × (List (Int × Int)) -> Option (As [.bool])) (s : (List Bool) × (List (Int × List Int)) × (Bool) × (Int) × (Int) × (Int) × (Int) × (List (Int × Int))) => q5k_ (q58_ (fun have' l ok runs least t42 t43 m => self (have', l, ok, runs, least, t42, t43, m))) (q5d_) (fun have' l ok runs least t42 t43 m => self (have', l, ok, runs, least, t42, t43, m)) s.1 s.2.1 s.2.2.1 s.2.2.2.1 s.2.2.2.2.1 s.2.2.2.2.2.1 s.2.2.2.2.2.2.1 s.2.2.2.2.2.2.2) 18446744073709551616 (have', l, ok, runs, least, t42, t43, m)
def q56_ (w : List Int) (is' : List Bool) (words : List Int) (have' : List Bool) : Option (As [.bool]) := q57_ (q5j_) w is' words have'
def q88_ (x : As [.sl (.int .u16), .sl .bool]) : Option (As [.bool]) := q59_ q56_ x.1 x.2.1
end Go.Proofs.Lx
end
section
set_option maxRecDepth 100000
namespace Go.Proofs.Lx
open Go Go.RowKit Ev Sx
theorem rows_int {k : IntKind} {L L' : Lx} {w w' : World} : ∀ {xs : List Int} {cells : List Value}, RowsOf (rp (.int k)) L w cells xs -> RowsOf (rp (.int k)) L' w' cells xs
  | [], _, h => h
  | _ :: _, _, ⟨c, rest, h1, h2, h3⟩ => ⟨c, rest, h1, h2, rows_int h3⟩
abbrev cpD (e : TypeId) : Ev.Sh := ⟨[.d (.sl (.int .u16))], [], [.sl (.int .u16)], [.row 0], [(0, .row (.int .u16) e)], 1, [.sl (.int .u16)]⟩
abbrev cpR (e : TypeId) : Ev.Sh := ⟨[.row 0], [.row (.int .u16) e], [.sl (.int .u16)], [.row 1], [(0, .row (.int .u16) e), (1, .row (.int .u16) e)], 1, [.sl (.int .u16), .sl (.int .u16)]⟩
theorem copy_lent {P : Program} {I : World -> Prop} {f : FuncId} {e : TypeId} {mD : As (cpD e).ps -> Option (As (cpD e).rs)} {mR : As (cpR e).ps -> Option (As (cpR e).rs)} (h : CtOk P I f ⟨cpD e, mD⟩)
    (hm : ∀ x, mR x = (mD x).map fun y => (x.1, y.1, ())) : CtOk P I f ⟨cpR e, mR⟩ := by
  intro F w0 pl x y ss own vs hx hA hpl hI hL hE hD
  have hA : some ([SV.row 0], [(0, Ent.row (.int .u16) e x.1)]) = some (ss, own) := hA
  cases hA
  have hpl : pl.length = 1 := hpl
  have hx : mR x = some y := hx
  rw [hm] at hx
  obtain ⟨z, hz, rfl⟩ := Option.map_eq_some_iff.1 hx
  obtain ⟨xs, u⟩ := x
  obtain ⟨zs, u'⟩ := z
  obtain ⟨u, q, rfl, ⟨p, hp, rfl⟩, rfl⟩ := hD
  obtain ⟨p', hp', how⟩ := hE (0, .row (.int .u16) e xs) (by simp)
  have hp' : pl[0]? = some p' := hp'
  rw [hp] at hp'
  cases hp'
  have how : Ow (rp (.int .u16)) e (lx pl [(0, Ent.row (.int .u16) e xs)] ++ F) w0 p.a p.n p.c xs := how
  have hlx : lx pl [(0, Ent.row (.int .u16) e xs)] = [blk p.a] := by simp [lx, plb, hp]
  rw [hlx] at how
  have hmono : ∀ j, Bo [] [] w0 j -> Bo pl [(0, Ent.row (.int .u16) e xs)] w0 j := fun j hj => by
    rcases hj with hj | hj
    · cases hj
    · exact .inr hj
  have hblw : ∀ w', Blw (Bo [] [] w0) w0 w' -> Blw (Bo pl [(0, Ent.row (.int .u16) e xs)] w0) w0 w' := fun w' hw => ⟨hw.os, hw.tape, hw.output, hw.size, fun j hj hn => hw.block j hj (fun hb => hn (hmono j hb))⟩
  have hfar : ∀ j, blk p.a = some j -> some j ∉ F := fun j hj hF => (hL.far j hF).1 (.inl (by rw [hlx, hj]; simp))
  have hc := h F w0 [] (xs, ()) (zs, u') [.d (.sl (.int .u16)) xs] [] [.slice p.a p.n p.c] hz rfl rfl (fun w' hw => hI w' (hblw w' hw))
    ⟨List.Pairwise.nil, (fun j hj => by cases hj), (fun j hj => by cases hj), fun j hj => .inr hj, fun j hj => ⟨fun hb => by
      rcases hb with hb | hb
      · cases hb
      · have := (hL.far j hj).2; omega, (hL.far j hj).2⟩⟩ (fun e he => by cases he)
    ⟨_, [], rfl, ⟨[.slice p.a p.n p.c], how.freeze (L' := F) (fun j hj => .inl (List.mem_append_right _ hj)) hfar, rfl⟩, rfl⟩
  refine hc.mono fun en w' he => ?_
  obtain ⟨us, rfl, pl', rr, own', hf, _, hl, hb, hL2, hE2, hD2⟩ := he
  have hf : some ([SV.row 0], [(0, Ent.row (.int .u16) e zs)]) = some (rr, own') := hf
  cases hf
  obtain ⟨u2, q2, rfl, ⟨q, hq, rfl⟩, rfl⟩ := hD2
  obtain ⟨q', hq', how2⟩ := hE2 (0, .row (.int .u16) e zs) (by simp)
  have hq' : pl'[0]? = some q' := hq'
  rw [hq] at hq'
  cases hq'
  have how2 : Ow (rp (.int .u16)) e (lx pl' [(0, Ent.row (.int .u16) e zs)] ++ F) w' q.a q.n q.c zs := how2
  have hlx2 : lx pl' [(0, Ent.row (.int .u16) e zs)] = [blk q.a] := by simp [lx, plb, hq]
  rw [hlx2] at how2
  have h0 : (pl ++ [q])[0]? = some p := by rw [List.getElem?_append_left (by omega)]; exact hp
  have h1 : (pl ++ [q])[1]? = some q := by rw [List.getElem?_append_right (by omega), hpl]; rfl
  have hlx3 : lx (pl ++ [q]) [(0, Ent.row (.int .u16) e xs), (1, Ent.row (.int .u16) e zs)] = [blk p.a, blk q.a] := by
    show [plb (pl ++ [q]) 0, plb (pl ++ [q]) 1] = _
    unfold plb
    rw [h0, h1]
    rfl
  have hqge : ∀ j, blk q.a = some j -> w0.heap.size ≤ j := fun j hj => by
    rcases hL2.lo j (by rw [hlx2, hj]; simp) with hb | hb
    · cases hb
    · exact hb
  have hplt : ∀ j, blk p.a = some j -> j < w0.heap.size := fun j hj => hL.hi j (by rw [hlx, hj]; simp)
  have hfz : Fz [] w0 w' := hb.fz fun j hj hbo => by
    rcases hbo with hb | hb
    · cases hb
    · omega
  refine ⟨_, rfl, pl ++ [q], [.row 1], [(0, .row (.int .u16) e xs), (1, .row (.int .u16) e zs)], rfl, fun i p hi => by rw [List.getElem?_append_left (List.getElem?_eq_some_iff.1 hi).1]; exact hi, by simp [hpl], hblw w' hb, ⟨?_, ?_, ?_, hL.baseS hb.size, hL.farS hb.size⟩, ?_, ⟨_, [], rfl, ⟨q, h1, rfl⟩, rfl⟩⟩
  · rw [hlx3]
    simp only [List.pairwise_cons, List.mem_singleton, forall_eq, List.not_mem_nil, false_implies, implies_true, List.Pairwise.nil, and_true]
    intro j hj hj2
    have := hplt j hj
    have := hqge j hj2
    omega
  · intro j hj
    rw [hlx3] at hj
    simp at hj
    rcases hj with hj | hj
    · exact hL.lo j (by rw [hlx, hj]; simp)
    · exact .inr (hqge j hj.symm)
  · intro j hj
    rw [hlx3] at hj
    simp at hj
    rcases hj with hj | hj
    · exact Nat.lt_of_lt_of_le (hplt j hj.symm) hb.size
    · exact hL2.hi j (by rw [hlx2, hj]; simp)
  · intro en he
    rw [hlx3]
    simp at he
    rcases he with rfl | rfl
    · refine ⟨p, h0, how.1, how.2.step (M := []) hfz nilM (fun j hj => ?_) nilB⟩
      simp at hj
      rcases hj with hj | hj | hj
      · exact .inl (by rw [hj]; simp)
      · exact .inr (hqge j hj.symm)
      · exact .inl (by simp [hj])
    · obtain ⟨cells, h5, h6⟩ := how2.2
      exact ⟨q, h1, how2.1, cells, h5, rows_int h6⟩
end Go.Proofs.Lx
end
section
set_option maxRecDepth 100000
namespace Go.Proofs.Lx
open Go Go.Proofs Ev Sx
@[reducible] def q1e_ : Ev.Sh := cpR 32
def q1u_ (x : As q1e_.ps) : Option (As q1e_.rs) := (qb_ (x.1, ())).map fun y => (x.1, y.1, ())
theorem q4m_ : CtOk Try.prog (fun _ => True) 26 ⟨q1e_, q1u_⟩ := copy_lent q22_ (fun _ => rfl)
end Go.Proofs.Lx
end
section
open Go Go.Proofs Ev Sx
set_option maxRecDepth 100000
namespace Go.Proofs.Lx
abbrev QKT0 : Ty := (.pr (.int .i64) (.sl (.int .u16)))
@[reducible] def qf_ : Sh := ⟨[.d (.sl (.int .u16)), .d (.sl QKT0)], [], [.sl (.int .u16), .sl QKT0], [.row 0], [(0, .row (.int .u16) 32)], 1, [.sl (.int .u16)]⟩
def qn_ : Env := (cts [(26, (⟨q1b_, qb_⟩ : Ct))])
def qp_ : List (Nat × Hint) := [(58, ⟨[], [0, 12, 13, 14, 33, 34, 35, 36]⟩), (14950, ⟨[], [0, 6, 12, 13, 14, 19, 20, 21, 33, 34, 35, 36]⟩), (1913651, ⟨[.agd 33 (.int .i64), .agd 35 (.int .i64), .agd 36 .bool], [0, 6, 8, 9, 12, 13, 14, 19, 20, 21, 37]⟩)]
def qg_ (t12 : List (Int × List Int)) (t13 t14 : Int) (bank : List Int) : St := { fr := [(0, .row 0), (12, .d (.sl QKT0) t12), (13, .d (.int .i64) t13), (14, .d (.int .i64) t14)], nt := 45, up := [], own := [(0, .row (.int .u16) 32 bank)], nx := 1, log := [], ln := 0 }
def qz_ (t12 : List (Int × List Int)) (t13 t14 : Int) (t19 : List Int) (t20 t21 : Int) (bank : List Int) (x : Int × List Int) : St := { fr := [(0, .row 0), (6, .pb 1 0), (12, .d (.sl QKT0) t12), (13, .d (.int .i64) t13), (14, .d (.int .i64) t14), (19, .d (.sl (.int .u16)) t19), (20, .d (.int .i64) t20), (21, .d (.int .i64) t21)], nt := 45, up := [], own := [(0, .row (.int .u16) 32 bank), (1, .box 31 [.d (.int .i64) x.1, .d (.sl (.int .u16)) x.2])], nx := 2, log := [], ln := 0 }
def q40_ (w at' : Int) (t12 : List (Int × List Int)) (t13 t14 : Int) (t19 : List Int) (t20 t21 : Int) (t37 : Bool) (bank : List Int) (x : Int × List Int) : St := { fr := [(0, .row 0), (6, .pb 1 0), (8, .d (.int .u16) w), (9, .d (.int .i64) at'), (12, .d (.sl QKT0) t12), (13, .d (.int .i64) t13), (14, .d (.int .i64) t14), (19, .d (.sl (.int .u16)) t19), (20, .d (.int .i64) t20), (21, .d (.int .i64) t21), (37, .d .bool t37)], nt := 45, up := [], own := [(0, .row (.int .u16) 32 bank), (1, .box 31 [.d (.int .i64) x.1, .d (.sl (.int .u16)) x.2])], nx := 2, log := [], ln := 0 }
def q4w_ (j2 : List (Int × List Int) -> Int -> Int -> List Int -> Int -> Int -> List Int -> Int × List Int -> Option (As [.sl (.int .u16)])) (self1 : List (Int × List Int) -> Int -> Int -> List Int -> Option (As [.sl (.int .u16)])) (t12 : List (Int × List Int)) (t13 t14 : Int) (bank : List Int) : Option (As [.sl (.int .u16)]) :=
  if lt t14 t13 = true then Option.bind (at? t12 t14) fun (y : Int × List Int) => j2 t12 t13 t14 y.2 (Int.ofNat (List.length y.2)) 0 bank y else some (bank, ())
def q4t_ (j3 : Int -> Int -> List (Int × List Int) -> Int -> Int -> List Int -> Int -> Int -> Bool -> List Int -> Int × List Int -> Option (As [.sl (.int .u16)])) (self1 : List (Int × List Int) -> Int -> Int -> List Int -> Option (As [.sl (.int .u16)])) (self2 : List (Int × List Int) -> Int -> Int -> List Int -> Int -> Int -> List Int -> Int × List Int -> Option (As [.sl (.int .u16)])) (t12 : List (Int × List Int)) (t13 t14 : Int) (t19 : List Int) (t20 t21 : Int) (bank : List Int) (x : Int × List Int) : Option (As [.sl (.int .u16)]) :=
  if lt t21 t20 = true then Option.bind (at? t19 t21) fun (y : Int) => if ge (add .i64 x.1 t21) 0 = true then j3 y (add .i64 x.1 t21) t12 t13 t14 t19 t20 t21 (lt (add .i64 x.1 t21) (Int.ofNat (List.length bank))) bank x else j3 y (add .i64 x.1 t21) t12 t13 t14 t19 t20 t21 false bank x else self1 t12 t13 (add .i64 t14 1) bank
def q4v_ (self1 : List (Int × List Int) -> Int -> Int -> List Int -> Option (As [.sl (.int .u16)])) (self2 : List (Int × List Int) -> Int -> Int -> List Int -> Int -> Int -> List Int -> Int × List Int -> Option (As [.sl (.int .u16)])) (w at' : Int) (t12 : List (Int × List Int)) (t13 t14 : Int) (t19 : List Int) (t20 t21 : Int) (t37 : Bool) (bank : List Int) (x : Int × List Int) : Option (As [.sl (.int .u16)]) :=
  if t37 = true then Option.bind (at? bank at') fun (x_1 : Int) => Option.bind (at? bank at') fun (x_2 : Int) => self2 t12 t13 t14 t19 t20 (add .i64 t21 1) (List.set bank (Int.toNat at') w) x else self2 t12 t13 t14 t19 t20 (add .i64 t21 1) bank x
def q4s_ (j1 : List (Int × List Int) -> Int -> Int -> List Int -> Option (As [.sl (.int .u16)])) (bank : List Int) (l : List (Int × List Int)) : Option (As [.sl (.int .u16)]) :=
  Option.bind (qb_ (bank, ())) fun (y : List Int × Unit) => j1 l (Int.ofNat (List.length l)) 0 y.1
def q4g_ (u1 : List (Int × List Int) -> Int -> Int -> List Int -> Option (As [.sl (.int .u16)])) (u2 : List (Int × List Int) -> Int -> Int -> List Int -> Int -> Int -> List Int -> Int × List Int -> Option (As [.sl (.int .u16)])) (w at' : Int) (t12 : List (Int × List Int)) (t13 t14 : Int) (t19 : List Int) (t20 t21 : Int) (t37 : Bool) (bank : List Int) (x : Int × List Int) : Option (As [.sl (.int .u16)]) := q4v_ u1 u2 w at' t12 t13 t14 t19 t20 t21 t37 bank x
def q4h_ (u1 : List (Int × List Int) -> Int -> Int -> List Int -> Option (As [.sl (.int .u16)])) (t12 : List (Int × List Int)) (t13 t14 : Int) (t19 : List Int) (t20 t21 : Int) (bank : List Int) (x : Int × List Int) : Option (As [.sl (.int .u16)]) :=
  loopF (fun (self : (List (Int × List Int)) × (Int) × (Int) × (List Int) × (Int) × (Int) × (List Int) × (Int × List Int) -> Option (As [.sl (.int .u16)])) (s : (List (Int × List Int)) × (Int) × (Int) × (List Int) × (Int) × (Int) × (List Int) × (Int × List Int)) => q4t_ (q4g_ u1 (fun t12 t13 t14 t19 t20 t21 bank x => self (t12, t13, t14, t19, t20, t21, bank, x))) u1 (fun t12 t13 t14 t19 t20 t21 bank x => self (t12, t13, t14, t19, t20, t21, bank, x)) s.1 s.2.1 s.2.2.1 s.2.2.2.1 s.2.2.2.2.1 s.2.2.2.2.2.1 s.2.2.2.2.2.2.1 s.2.2.2.2.2.2.2) 18446744073709551616 (t12, t13, t14, t19, t20, t21, bank, x)
def q4i_ (t12 : List (Int × List Int)) (t13 t14 : Int) (bank : List Int) : Option (As [.sl (.int .u16)]) :=
  loopF (fun (self : (List (Int × List Int)) × (Int) × (Int) × (List Int) -> Option (As [.sl (.int .u16)])) (s : (List (Int × List Int)) × (Int) × (Int) × (List Int)) => q4w_ (q4h_ (fun t12 t13 t14 bank => self (t12, t13, t14, bank))) (fun t12 t13 t14 bank => self (t12, t13, t14, bank)) s.1 s.2.1 s.2.2.1 s.2.2.2) 18446744073709551616 (t12, t13, t14, bank)
def q24_ (x : As [.sl (.int .u16), .sl QKT0]) : Option (As [.sl (.int .u16)]) := q4s_ q4i_ x.1 x.2.1
theorem q6y_  (J w1 w2 w at' t12 t13 t14 t19 t20 t21 t37 bank x) : pfn Try.prog qn_ 6 18446744073709551616 (Ev.get qp_) 10 qf_ J 1913651 [w1, w2] (q40_ w at' t12 t13 t14 t19 t20 t21 t37 bank x) = q4v_ (fun t12 t13 t14 bank => w1 (qg_ t12 t13 t14 bank)) (fun t12 t13 t14 t19 t20 t21 bank x => w2 (qz_ t12 t13 t14 t19 t20 t21 bank x)) w at' t12 t13 t14 t19 t20 t21 t37 bank x := by kernel_rfl
theorem q77_  (J w1 w2 t12 t13 t14 t19 t20 t21 bank x) : pfn Try.prog qn_ 6 18446744073709551616 (Ev.get qp_) 10 qf_ J 14950 [w1, w2] (qz_ t12 t13 t14 t19 t20 t21 bank x) = q4t_ (fun w at' t12 t13 t14 t19 t20 t21 t37 bank x => J 1913651 [w1, w2] (q40_ w at' t12 t13 t14 t19 t20 t21 t37 bank x)) (fun t12 t13 t14 bank => w1 (qg_ t12 t13 t14 bank)) (fun t12 t13 t14 t19 t20 t21 bank x => w2 (qz_ t12 t13 t14 t19 t20 t21 bank x)) t12 t13 t14 t19 t20 t21 bank x := by kernel_rfl
theorem q78_  (J w1 t12 t13 t14 bank) : pfn Try.prog qn_ 6 18446744073709551616 (Ev.get qp_) 10 qf_ J 58 [w1] (qg_ t12 t13 t14 bank) = q4w_ (fun t12 t13 t14 t19 t20 t21 bank x => J 14950 [w1] (qz_ t12 t13 t14 t19 t20 t21 bank x)) (fun t12 t13 t14 bank => w1 (qg_ t12 t13 t14 bank)) t12 t13 t14 bank := by kernel_rfl
theorem q70_ (J : Orc (As [.sl (.int .u16)])) (x : As [.sl (.int .u16), .sl QKT0]) : rfn Try.prog qn_ 6 18446744073709551616 (Ev.get qp_) 10 qf_ J x = q4s_ (fun t12 t13 t14 bank => J 58 [] (qg_ t12 t13 t14 bank)) x.1 x.2.1 := by kernel_rfl
theorem q6v_  (w1 w2 w at' t12 t13 t14 t19 t20 t21 t37 bank x) : jfn Try.prog qn_ 6 18446744073709551616 (Ev.get qp_) 10 qf_ 1913651 [w1, w2] (q40_ w at' t12 t13 t14 t19 t20 t21 t37 bank x) = q4g_ (fun t12 t13 t14 bank => w1 (qg_ t12 t13 t14 bank)) (fun t12 t13 t14 t19 t20 t21 bank x => w2 (qz_ t12 t13 t14 t19 t20 t21 bank x)) w at' t12 t13 t14 t19 t20 t21 t37 bank x := by
  rw [pfn_eq (by decide)]
  rw [q6y_]
  rfl
theorem q7b_  (w1 t12 t13 t14 t19 t20 t21 bank x) : jfn Try.prog qn_ 6 18446744073709551616 (Ev.get qp_) 10 qf_ 14950 [w1] (qz_ t12 t13 t14 t19 t20 t21 bank x) = q4h_ (fun t12 t13 t14 bank => w1 (qg_ t12 t13 t14 bank)) t12 t13 t14 t19 t20 t21 bank x := by
  rw [pfn_eq (by decide)]
  rw [pfn_loop (by kernel_rfl)]
  refine qx_ (σ := (List (Int × List Int)) × (Int) × (Int) × (List Int) × (Int) × (Int) × (List Int) × (Int × List Int)) (mk := fun s => qz_ s.1 s.2.1 s.2.2.1 s.2.2.2.1 s.2.2.2.2.1 s.2.2.2.2.2.1 s.2.2.2.2.2.2.1 s.2.2.2.2.2.2.2) (fun w2 s => ?_) 18446744073709551616 (t12, t13, t14, t19, t20, t21, bank, x)
  have e3 : (fun w at' t12 t13 t14 t19 t20 t21 t37 bank x => (jfn Try.prog qn_ 6 18446744073709551616 (Ev.get qp_) 10 qf_) 1913651 [w1, w2] (q40_ w at' t12 t13 t14 t19 t20 t21 t37 bank x)) = q4g_ (fun t12 t13 t14 bank => w1 (qg_ t12 t13 t14 bank)) (fun t12 t13 t14 t19 t20 t21 bank x => w2 (qz_ t12 t13 t14 t19 t20 t21 bank x)) := by funext w at' t12 t13 t14 t19 t20 t21 t37 bank x; exact q6v_ w1 w2 w at' t12 t13 t14 t19 t20 t21 t37 bank x
  refine (q77_ _ w1 w2 s.1 s.2.1 s.2.2.1 s.2.2.2.1 s.2.2.2.2.1 s.2.2.2.2.2.1 s.2.2.2.2.2.2.1 s.2.2.2.2.2.2.2).trans ?_
  rw [e3]
theorem q74_  (t12 t13 t14 bank) : jfn Try.prog qn_ 6 18446744073709551616 (Ev.get qp_) 10 qf_ 58 [] (qg_ t12 t13 t14 bank) = q4i_ t12 t13 t14 bank := by
  rw [pfn_eq (by decide)]
  rw [pfn_loop (by kernel_rfl)]
  refine qx_ (σ := (List (Int × List Int)) × (Int) × (Int) × (List Int)) (mk := fun s => qg_ s.1 s.2.1 s.2.2.1 s.2.2.2) (fun w1 s => ?_) 18446744073709551616 (t12, t13, t14, bank)
  have e2 : (fun t12 t13 t14 t19 t20 t21 bank x => (jfn Try.prog qn_ 6 18446744073709551616 (Ev.get qp_) 10 qf_) 14950 [w1] (qz_ t12 t13 t14 t19 t20 t21 bank x)) = q4h_ (fun t12 t13 t14 bank => w1 (qg_ t12 t13 t14 bank)) := by funext t12 t13 t14 t19 t20 t21 bank x; exact q7b_ w1 t12 t13 t14 t19 t20 t21 bank x
  refine (q78_ _ w1 s.1 s.2.1 s.2.2.1 s.2.2.2).trans ?_
  rw [e2]
theorem q7q_ (x : As [.sl (.int .u16), .sl QKT0]) : evT Try.prog qn_ 6 18446744073709551616 (Ev.get qp_) 10 qf_ x = q24_ x := by
  have e1 : (fun t12 t13 t14 bank => (jfn Try.prog qn_ 6 18446744073709551616 (Ev.get qp_) 10 qf_) 58 [] (qg_ t12 t13 t14 bank)) = q4i_ := by funext t12 t13 t14 bank; exact q74_ t12 t13 t14 bank
  rw [rfn_eq, q70_, e1]
  rfl
theorem q6s_ : CtOk Try.prog (fun _ => True) 10 ⟨qf_, q24_⟩ := ct_of_ev (qv_ q22_ env_nil) q7q_
@[reducible] def qi_ : Sh := ⟨[.row 0, .d (.sl QKT0)], [.row (.int .u16) 32], [.sl QKT0, .sl (.int .u16)], [.row 1], [(0, .row (.int .u16) 32), (1, .row (.int .u16) 32)], 1, [.sl (.int .u16), .sl (.int .u16)]⟩
def qo_ : Env := (cts [(26, (⟨q1e_, q1u_⟩ : Ct))])
def qm_ : List (Nat × Hint) := [(58, ⟨[], [0, 12, 13, 14, 33, 34, 35, 36]⟩), (14950, ⟨[], [0, 6, 12, 13, 14, 19, 20, 21, 33, 34, 35, 36]⟩), (1913651, ⟨[.agd 33 (.int .i64), .agd 35 (.int .i64), .agd 36 .bool], [0, 6, 8, 9, 12, 13, 14, 19, 20, 21, 37]⟩)]
def qh_ (t12 : List (Int × List Int)) (t13 t14 : Int) (o bank : List Int) : St := { fr := [(0, .row 1), (12, .d (.sl QKT0) t12), (13, .d (.int .i64) t13), (14, .d (.int .i64) t14)], nt := 45, up := [], own := [(0, .row (.int .u16) 32 o), (1, .row (.int .u16) 32 bank)], nx := 2, log := [], ln := 1 }
def q10_ (t12 : List (Int × List Int)) (t13 t14 : Int) (t19 : List Int) (t20 t21 : Int) (o bank : List Int) (x : Int × List Int) : St := { fr := [(0, .row 1), (6, .pb 2 0), (12, .d (.sl QKT0) t12), (13, .d (.int .i64) t13), (14, .d (.int .i64) t14), (19, .d (.sl (.int .u16)) t19), (20, .d (.int .i64) t20), (21, .d (.int .i64) t21)], nt := 45, up := [], own := [(0, .row (.int .u16) 32 o), (1, .row (.int .u16) 32 bank), (2, .box 31 [.d (.int .i64) x.1, .d (.sl (.int .u16)) x.2])], nx := 3, log := [], ln := 1 }
def q3z_ (w at' : Int) (t12 : List (Int × List Int)) (t13 t14 : Int) (t19 : List Int) (t20 t21 : Int) (t37 : Bool) (o bank : List Int) (x : Int × List Int) : St := { fr := [(0, .row 1), (6, .pb 2 0), (8, .d (.int .u16) w), (9, .d (.int .i64) at'), (12, .d (.sl QKT0) t12), (13, .d (.int .i64) t13), (14, .d (.int .i64) t14), (19, .d (.sl (.int .u16)) t19), (20, .d (.int .i64) t20), (21, .d (.int .i64) t21), (37, .d .bool t37)], nt := 45, up := [], own := [(0, .row (.int .u16) 32 o), (1, .row (.int .u16) 32 bank), (2, .box 31 [.d (.int .i64) x.1, .d (.sl (.int .u16)) x.2])], nx := 3, log := [], ln := 1 }
def q25_ (j2 : List (Int × List Int) -> Int -> Int -> List Int -> Int -> Int -> List Int -> List Int -> Int × List Int -> Option (As [.sl (.int .u16), .sl (.int .u16)])) (self1 : List (Int × List Int) -> Int -> Int -> List Int -> List Int -> Option (As [.sl (.int .u16), .sl (.int .u16)])) (t12 : List (Int × List Int)) (t13 t14 : Int) (o bank : List Int) : Option (As [.sl (.int .u16), .sl (.int .u16)]) :=
  if lt t14 t13 = true then Option.bind (at? t12 t14) fun (y : Int × List Int) => j2 t12 t13 t14 y.2 (Int.ofNat (List.length y.2)) 0 o bank y else some (o, bank, ())
def q2a_ (j3 : Int -> Int -> List (Int × List Int) -> Int -> Int -> List Int -> Int -> Int -> Bool -> List Int -> List Int -> Int × List Int -> Option (As [.sl (.int .u16), .sl (.int .u16)])) (self1 : List (Int × List Int) -> Int -> Int -> List Int -> List Int -> Option (As [.sl (.int .u16), .sl (.int .u16)])) (self2 : List (Int × List Int) -> Int -> Int -> List Int -> Int -> Int -> List Int -> List Int -> Int × List Int -> Option (As [.sl (.int .u16), .sl (.int .u16)])) (t12 : List (Int × List Int)) (t13 t14 : Int) (t19 : List Int) (t20 t21 : Int) (o bank : List Int) (x : Int × List Int) : Option (As [.sl (.int .u16), .sl (.int .u16)]) :=
  if lt t21 t20 = true then Option.bind (at? t19 t21) fun (y : Int) => if ge (add .i64 x.1 t21) 0 = true then j3 y (add .i64 x.1 t21) t12 t13 t14 t19 t20 t21 (lt (add .i64 x.1 t21) (Int.ofNat (List.length bank))) o bank x else j3 y (add .i64 x.1 t21) t12 t13 t14 t19 t20 t21 false o bank x else self1 t12 t13 (add .i64 t14 1) o bank
def q3y_ (self1 : List (Int × List Int) -> Int -> Int -> List Int -> List Int -> Option (As [.sl (.int .u16), .sl (.int .u16)])) (self2 : List (Int × List Int) -> Int -> Int -> List Int -> Int -> Int -> List Int -> List Int -> Int × List Int -> Option (As [.sl (.int .u16), .sl (.int .u16)])) (w at' : Int) (t12 : List (Int × List Int)) (t13 t14 : Int) (t19 : List Int) (t20 t21 : Int) (t37 : Bool) (o bank : List Int) (x : Int × List Int) : Option (As [.sl (.int .u16), .sl (.int .u16)]) :=
  if t37 = true then Option.bind (at? bank at') fun (x_1 : Int) => Option.bind (at? bank at') fun (x_2 : Int) => self2 t12 t13 t14 t19 t20 (add .i64 t21 1) o (List.set bank (Int.toNat at') w) x else self2 t12 t13 t14 t19 t20 (add .i64 t21 1) o bank x
def q3u_ (j1 : List (Int × List Int) -> Int -> Int -> List Int -> List Int -> Option (As [.sl (.int .u16), .sl (.int .u16)])) (bank : List (Int × List Int)) (l : List Int) : Option (As [.sl (.int .u16), .sl (.int .u16)]) :=
  Option.bind (q1u_ (l, ())) fun (y : List Int × List Int × Unit) => j1 bank (Int.ofNat (List.length bank)) 0 y.1 y.2.1
def q29_ (u1 : List (Int × List Int) -> Int -> Int -> List Int -> List Int -> Option (As [.sl (.int .u16), .sl (.int .u16)])) (u2 : List (Int × List Int) -> Int -> Int -> List Int -> Int -> Int -> List Int -> List Int -> Int × List Int -> Option (As [.sl (.int .u16), .sl (.int .u16)])) (w at' : Int) (t12 : List (Int × List Int)) (t13 t14 : Int) (t19 : List Int) (t20 t21 : Int) (t37 : Bool) (o bank : List Int) (x : Int × List Int) : Option (As [.sl (.int .u16), .sl (.int .u16)]) := q3y_ u1 u2 w at' t12 t13 t14 t19 t20 t21 t37 o bank x
def q26_ (u1 : List (Int × List Int) -> Int -> Int -> List Int -> List Int -> Option (As [.sl (.int .u16), .sl (.int .u16)])) (t12 : List (Int × List Int)) (t13 t14 : Int) (t19 : List Int) (t20 t21 : Int) (o bank : List Int) (x : Int × List Int) : Option (As [.sl (.int .u16), .sl (.int .u16)]) :=
  loopF (fun (self : (List (Int × List Int)) × (Int) × (Int) × (List Int) × (Int) × (Int) × (List Int) × (List Int) × (Int × List Int) -> Option (As [.sl (.int .u16), .sl (.int .u16)])) (s : (List (Int × List Int)) × (Int) × (Int) × (List Int) × (Int) × (Int) × (List Int) × (List Int) × (Int × List Int)) => q2a_ (q29_ u1 (fun t12 t13 t14 t19 t20 t21 o bank x => self (t12, t13, t14, t19, t20, t21, o, bank, x))) u1 (fun t12 t13 t14 t19 t20 t21 o bank x => self (t12, t13, t14, t19, t20, t21, o, bank, x)) s.1 s.2.1 s.2.2.1 s.2.2.2.1 s.2.2.2.2.1 s.2.2.2.2.2.1 s.2.2.2.2.2.2.1 s.2.2.2.2.2.2.2.1 s.2.2.2.2.2.2.2.2) 18446744073709551616 (t12, t13, t14, t19, t20, t21, o, bank, x)
def q3c_ (t12 : List (Int × List Int)) (t13 t14 : Int) (o bank : List Int) : Option (As [.sl (.int .u16), .sl (.int .u16)]) :=
  loopF (fun (self : (List (Int × List Int)) × (Int) × (Int) × (List Int) × (List Int) -> Option (As [.sl (.int .u16), .sl (.int .u16)])) (s : (List (Int × List Int)) × (Int) × (Int) × (List Int) × (List Int)) => q25_ (q26_ (fun t12 t13 t14 o bank => self (t12, t13, t14, o, bank))) (fun t12 t13 t14 o bank => self (t12, t13, t14, o, bank)) s.1 s.2.1 s.2.2.1 s.2.2.2.1 s.2.2.2.2) 18446744073709551616 (t12, t13, t14, o, bank)
def q3k_ (x : As [.sl QKT0, .sl (.int .u16)]) : Option (As [.sl (.int .u16), .sl (.int .u16)]) := q3u_ q3c_ x.1 x.2.1
theorem q72_  (J w1 w2 w at' t12 t13 t14 t19 t20 t21 t37 o bank x) : pfn Try.prog qo_ 6 18446744073709551616 (Ev.get qm_) 10 qi_ J 1913651 [w1, w2] (q3z_ w at' t12 t13 t14 t19 t20 t21 t37 o bank x) = q3y_ (fun t12 t13 t14 o bank => w1 (qh_ t12 t13 t14 o bank)) (fun t12 t13 t14 t19 t20 t21 o bank x => w2 (q10_ t12 t13 t14 t19 t20 t21 o bank x)) w at' t12 t13 t14 t19 t20 t21 t37 o bank x := by kernel_rfl
theorem q6w_  (J w1 w2 t12 t13 t14 t19 t20 t21 o bank x) : pfn Try.prog qo_ 6 18446744073709551616 (Ev.get qm_) 10 qi_ J 14950 [w1, w2] (q10_ t12 t13 t14 t19 t20 t21 o bank x) = q2a_ (fun w at' t12 t13 t14 t19 t20 t21 t37 o bank x => J 1913651 [w1, w2] (q3z_ w at' t12 t13 t14 t19 t20 t21 t37 o bank x)) (fun t12 t13 t14 o bank => w1 (qh_ t12 t13 t14 o bank)) (fun t12 t13 t14 t19 t20 t21 o bank x => w2 (q10_ t12 t13 t14 t19 t20 t21 o bank x)) t12 t13 t14 t19 t20 t21 o bank x := by kernel_rfl
theorem q6t_  (J w1 t12 t13 t14 o bank) : pfn Try.prog qo_ 6 18446744073709551616 (Ev.get qm_) 10 qi_ J 58 [w1] (qh_ t12 t13 t14 o bank) = q25_ (fun t12 t13 t14 t19 t20 t21 o bank x => J 14950 [w1] (q10_ t12 t13 t14 t19 t20 t21 o bank x)) (fun t12 t13 t14 o bank => w1 (qh_ t12 t13 t14 o bank)) t12 t13 t14 o bank := by kernel_rfl
theorem q75_ (J : Orc (As [.sl (.int .u16), .sl (.int .u16)])) (x : As [.sl QKT0, .sl (.int .u16)]) : rfn Try.prog qo_ 6 18446744073709551616 (Ev.get qm_) 10 qi_ J x = q3u_ (fun t12 t13 t14 o bank => J 58 [] (qh_ t12 t13 t14 o bank)) x.1 x.2.1 := by kernel_rfl
theorem q6x_  (w1 w2 w at' t12 t13 t14 t19 t20 t21 t37 o bank x) : jfn Try.prog qo_ 6 18446744073709551616 (Ev.get qm_) 10 qi_ 1913651 [w1, w2] (q3z_ w at' t12 t13 t14 t19 t20 t21 t37 o bank x) = q29_ (fun t12 t13 t14 o bank => w1 (qh_ t12 t13 t14 o bank)) (fun t12 t13 t14 t19 t20 t21 o bank x => w2 (q10_ t12 t13 t14 t19 t20 t21 o bank x)) w at' t12 t13 t14 t19 t20 t21 t37 o bank x := by
  rw [pfn_eq (by decide)]
  rw [q72_]
  rfl
theorem q76_  (w1 t12 t13 t14 t19 t20 t21 o bank x) : jfn Try.prog qo_ 6 18446744073709551616 (Ev.get qm_) 10 qi_ 14950 [w1] (q10_ t12 t13 t14 t19 t20 t21 o bank x) = q26_ (fun t12 t13 t14 o bank => w1 (qh_ t12 t13 t14 o bank)) t12 t13 t14 t19 t20 t21 o bank x := by
  rw [pfn_eq (by decide)]
  rw [pfn_loop (by kernel_rfl)]
  refine qx_ (σ := (List (Int × List Int)) × (Int) × (Int) × (List Int) × (Int) × (Int) × (List Int) × (List Int) × (Int × List Int)) (mk := fun s => q10_ s.1 s.2.1 s.2.2.1 s.2.2.2.1 s.2.2.2.2.1 s.2.2.2.2.2.1 s.2.2.2.2.2.2.1 s.2.2.2.2.2.2.2.1 s.2.2.2.2.2.2.2.2) (fun w2 s => ?_) 18446744073709551616 (t12, t13, t14, t19, t20, t21, o, bank, x)
  have e3 : (fun w at' t12 t13 t14 t19 t20 t21 t37 o bank x => (jfn Try.prog qo_ 6 18446744073709551616 (Ev.get qm_) 10 qi_) 1913651 [w1, w2] (q3z_ w at' t12 t13 t14 t19 t20 t21 t37 o bank x)) = q29_ (fun t12 t13 t14 o bank => w1 (qh_ t12 t13 t14 o bank)) (fun t12 t13 t14 t19 t20 t21 o bank x => w2 (q10_ t12 t13 t14 t19 t20 t21 o bank x)) := by funext w at' t12 t13 t14 t19 t20 t21 t37 o bank x; exact q6x_ w1 w2 w at' t12 t13 t14 t19 t20 t21 t37 o bank x
  refine (q6w_ _ w1 w2 s.1 s.2.1 s.2.2.1 s.2.2.2.1 s.2.2.2.2.1 s.2.2.2.2.2.1 s.2.2.2.2.2.2.1 s.2.2.2.2.2.2.2.1 s.2.2.2.2.2.2.2.2).trans ?_
  rw [e3]
theorem q7d_  (t12 t13 t14 o bank) : jfn Try.prog qo_ 6 18446744073709551616 (Ev.get qm_) 10 qi_ 58 [] (qh_ t12 t13 t14 o bank) = q3c_ t12 t13 t14 o bank := by
  rw [pfn_eq (by decide)]
  rw [pfn_loop (by kernel_rfl)]
  refine qx_ (σ := (List (Int × List Int)) × (Int) × (Int) × (List Int) × (List Int)) (mk := fun s => qh_ s.1 s.2.1 s.2.2.1 s.2.2.2.1 s.2.2.2.2) (fun w1 s => ?_) 18446744073709551616 (t12, t13, t14, o, bank)
  have e2 : (fun t12 t13 t14 t19 t20 t21 o bank x => (jfn Try.prog qo_ 6 18446744073709551616 (Ev.get qm_) 10 qi_) 14950 [w1] (q10_ t12 t13 t14 t19 t20 t21 o bank x)) = q26_ (fun t12 t13 t14 o bank => w1 (qh_ t12 t13 t14 o bank)) := by funext t12 t13 t14 t19 t20 t21 o bank x; exact q76_ w1 t12 t13 t14 t19 t20 t21 o bank x
  refine (q6t_ _ w1 s.1 s.2.1 s.2.2.1 s.2.2.2.1 s.2.2.2.2).trans ?_
  rw [e2]
theorem q7g_ (x : As [.sl QKT0, .sl (.int .u16)]) : evT Try.prog qo_ 6 18446744073709551616 (Ev.get qm_) 10 qi_ x = q3k_ x := by
  have e1 : (fun t12 t13 t14 o bank => (jfn Try.prog qo_ 6 18446744073709551616 (Ev.get qm_) 10 qi_) 58 [] (qh_ t12 t13 t14 o bank)) = q3c_ := by funext t12 t13 t14 o bank; exact q7d_ t12 t13 t14 o bank
  rw [rfn_eq, q75_, e1]
  rfl
theorem q73_ : CtOk Try.prog (fun _ => True) 10 ⟨qi_, q3k_⟩ := ct_of_ev (qv_ q4m_ env_nil) q7g_
@[reducible] def q1d_ : Sh := ⟨[.row 0, .row 1], [.row (.int .u16) 32, .row (.int .u16) 32], [.sl (.int .u16), .sl (.int .u16)], [.d .bool], [(0, .row (.int .u16) 32), (1, .row (.int .u16) 32)], 0, [.bool, .sl (.int .u16), .sl (.int .u16)]⟩
def q2u_ : Env := (cts [])
def q2t_ : List (Nat × Hint) := [(58, ⟨[], [0, 1, 12, 13]⟩)]
def q1p_ (t12 t13 : Int) (a b : List Int) : St := { fr := [(0, .row 0), (1, .row 1), (12, .d (.int .i64) t12), (13, .d (.int .i64) t13)], nt := 26, up := [], own := [(0, .row (.int .u16) 32 a), (1, .row (.int .u16) 32 b)], nx := 2, log := [], ln := 2 }
def q1t_ (self1 : Int -> Int -> List Int -> List Int -> Option (As [.bool, .sl (.int .u16), .sl (.int .u16)])) (t12 t13 : Int) (a b : List Int) : Option (As [.bool, .sl (.int .u16), .sl (.int .u16)]) :=
  if lt t13 t12 = true then Option.bind (at? a t13) fun (x : Int) => Option.bind (at? a t13) fun (y : Int) => Option.bind (at? b t13) fun (x : Int) => Option.bind (at? b t13) fun (y_1 : Int) => if nei y y_1 = true then some (false, a, b, ()) else self1 t12 (add .i64 t13 1) a b else some (true, a, b, ())
def q3g_ (j1 : Int -> Int -> List Int -> List Int -> Option (As [.bool, .sl (.int .u16), .sl (.int .u16)])) (a b : List Int) : Option (As [.bool, .sl (.int .u16), .sl (.int .u16)]) :=
  if nei (Int.ofNat (List.length a)) (Int.ofNat (List.length b)) = true then some (false, a, b, ()) else j1 (Int.ofNat (List.length a)) 0 a b
def q2c_ (t12 t13 : Int) (a b : List Int) : Option (As [.bool, .sl (.int .u16), .sl (.int .u16)]) :=
  loopF (fun (self : (Int) × (Int) × (List Int) × (List Int) -> Option (As [.bool, .sl (.int .u16), .sl (.int .u16)])) (s : (Int) × (Int) × (List Int) × (List Int)) => q1t_ (fun t12 t13 a b => self (t12, t13, a, b)) s.1 s.2.1 s.2.2.1 s.2.2.2) 18446744073709551616 (t12, t13, a, b)
def q2i_ (x : As [.sl (.int .u16), .sl (.int .u16)]) : Option (As [.bool, .sl (.int .u16), .sl (.int .u16)]) := q3g_ q2c_ x.1 x.2.1
theorem q6h_  (J w1 t12 t13 a b) : pfn Try.prog q2u_ 6 18446744073709551616 (Ev.get q2t_) 11 q1d_ J 58 [w1] (q1p_ t12 t13 a b) = q1t_ (fun t12 t13 a b => w1 (q1p_ t12 t13 a b)) t12 t13 a b := by kernel_rfl
theorem q6b_ (J : Orc (As [.bool, .sl (.int .u16), .sl (.int .u16)])) (x : As [.sl (.int .u16), .sl (.int .u16)]) : rfn Try.prog q2u_ 6 18446744073709551616 (Ev.get q2t_) 11 q1d_ J x = q3g_ (fun t12 t13 a b => J 58 [] (q1p_ t12 t13 a b)) x.1 x.2.1 := by kernel_rfl
theorem q69_  (t12 t13 a b) : jfn Try.prog q2u_ 6 18446744073709551616 (Ev.get q2t_) 11 q1d_ 58 [] (q1p_ t12 t13 a b) = q2c_ t12 t13 a b := by
  rw [pfn_eq (by decide)]
  rw [pfn_loop (by kernel_rfl)]
  refine qx_ (σ := (Int) × (Int) × (List Int) × (List Int)) (mk := fun s => q1p_ s.1 s.2.1 s.2.2.1 s.2.2.2) (fun w1 s => ?_) 18446744073709551616 (t12, t13, a, b)
  refine (q6h_ _ w1 s.1 s.2.1 s.2.2.1 s.2.2.2).trans ?_
  rfl
theorem q6r_ (x : As [.sl (.int .u16), .sl (.int .u16)]) : evT Try.prog q2u_ 6 18446744073709551616 (Ev.get q2t_) 11 q1d_ x = q2i_ x := by
  have e1 : (fun t12 t13 a b => (jfn Try.prog q2u_ 6 18446744073709551616 (Ev.get q2t_) 11 q1d_) 58 [] (q1p_ t12 t13 a b)) = q2c_ := by funext t12 t13 a b; exact q69_ t12 t13 a b
  rw [rfn_eq, q6b_, e1]
  rfl
theorem q68_ : CtOk Try.prog (fun _ => True) 11 ⟨q1d_, q2i_⟩ := ct_of_ev env_nil q6r_
@[reducible] def q1a_ : Sh := ⟨[.row 0, .d (.sl (.int .u16))], [.row (.int .u16) 32], [.sl (.int .u16), .sl (.int .u16)], [.d .bool], [(0, .row (.int .u16) 32)], 0, [.bool, .sl (.int .u16)]⟩
def q2q_ : Env := (cts [])
def q2r_ : List (Nat × Hint) := [(58, ⟨[], [0, 1, 12, 13]⟩)]
def q1s_ (b : List Int) (t12 t13 : Int) (a : List Int) : St := { fr := [(0, .row 0), (1, .d (.sl (.int .u16)) b), (12, .d (.int .i64) t12), (13, .d (.int .i64) t13)], nt := 26, up := [], own := [(0, .row (.int .u16) 32 a)], nx := 1, log := [], ln := 1 }
def q1r_ (self1 : List Int -> Int -> Int -> List Int -> Option (As [.bool, .sl (.int .u16)])) (b : List Int) (t12 t13 : Int) (a : List Int) : Option (As [.bool, .sl (.int .u16)]) :=
  if lt t13 t12 = true then Option.bind (at? a t13) fun (x : Int) => Option.bind (at? a t13) fun (y : Int) => Option.bind (at? b t13) fun (y_1 : Int) => if nei y y_1 = true then some (false, a, ()) else self1 b t12 (add .i64 t13 1) a else some (true, a, ())
def q3f_ (j1 : List Int -> Int -> Int -> List Int -> Option (As [.bool, .sl (.int .u16)])) (a b : List Int) : Option (As [.bool, .sl (.int .u16)]) :=
  if nei (Int.ofNat (List.length b)) (Int.ofNat (List.length a)) = true then some (false, b, ()) else j1 a (Int.ofNat (List.length b)) 0 b
def q2d_ (b : List Int) (t12 t13 : Int) (a : List Int) : Option (As [.bool, .sl (.int .u16)]) :=
  loopF (fun (self : (List Int) × (Int) × (Int) × (List Int) -> Option (As [.bool, .sl (.int .u16)])) (s : (List Int) × (Int) × (Int) × (List Int)) => q1r_ (fun b t12 t13 a => self (b, t12, t13, a)) s.1 s.2.1 s.2.2.1 s.2.2.2) 18446744073709551616 (b, t12, t13, a)
def q2k_ (x : As [.sl (.int .u16), .sl (.int .u16)]) : Option (As [.bool, .sl (.int .u16)]) := q3f_ q2d_ x.1 x.2.1
theorem q6l_  (J w1 b t12 t13 a) : pfn Try.prog q2q_ 6 18446744073709551616 (Ev.get q2r_) 11 q1a_ J 58 [w1] (q1s_ b t12 t13 a) = q1r_ (fun b t12 t13 a => w1 (q1s_ b t12 t13 a)) b t12 t13 a := by kernel_rfl
theorem q67_ (J : Orc (As [.bool, .sl (.int .u16)])) (x : As [.sl (.int .u16), .sl (.int .u16)]) : rfn Try.prog q2q_ 6 18446744073709551616 (Ev.get q2r_) 11 q1a_ J x = q3f_ (fun b t12 t13 a => J 58 [] (q1s_ b t12 t13 a)) x.1 x.2.1 := by kernel_rfl
theorem q6i_  (b t12 t13 a) : jfn Try.prog q2q_ 6 18446744073709551616 (Ev.get q2r_) 11 q1a_ 58 [] (q1s_ b t12 t13 a) = q2d_ b t12 t13 a := by
  rw [pfn_eq (by decide)]
  rw [pfn_loop (by kernel_rfl)]
  refine qx_ (σ := (List Int) × (Int) × (Int) × (List Int)) (mk := fun s => q1s_ s.1 s.2.1 s.2.2.1 s.2.2.2) (fun w1 s => ?_) 18446744073709551616 (b, t12, t13, a)
  refine (q6l_ _ w1 s.1 s.2.1 s.2.2.1 s.2.2.2).trans ?_
  rfl
theorem q6p_ (x : As [.sl (.int .u16), .sl (.int .u16)]) : evT Try.prog q2q_ 6 18446744073709551616 (Ev.get q2r_) 11 q1a_ x = q2k_ x := by
  have e1 : (fun b t12 t13 a => (jfn Try.prog q2q_ 6 18446744073709551616 (Ev.get q2r_) 11 q1a_) 58 [] (q1s_ b t12 t13 a)) = q2d_ := by funext b t12 t13 a; exact q6i_ b t12 t13 a
  rw [rfn_eq, q67_, e1]
  rfl
theorem q6e_ : CtOk Try.prog (fun _ => True) 11 ⟨q1a_, q2k_⟩ := ct_of_ev env_nil q6p_
@[reducible] def q1c_ : Sh := ⟨[.d (.sl (.int .u16)), .row 0], [.row (.int .u16) 32], [.sl (.int .u16), .sl (.int .u16)], [.d .bool], [(0, .row (.int .u16) 32)], 0, [.bool, .sl (.int .u16)]⟩
def q2n_ : Env := (cts [])
def q2o_ : List (Nat × Hint) := [(58, ⟨[], [0, 1, 12, 13]⟩)]
def q1o_ (a : List Int) (t12 t13 : Int) (b : List Int) : St := { fr := [(0, .d (.sl (.int .u16)) a), (1, .row 0), (12, .d (.int .i64) t12), (13, .d (.int .i64) t13)], nt := 26, up := [], own := [(0, .row (.int .u16) 32 b)], nx := 1, log := [], ln := 1 }
def q1q_ (self1 : List Int -> Int -> Int -> List Int -> Option (As [.bool, .sl (.int .u16)])) (a : List Int) (t12 t13 : Int) (b : List Int) : Option (As [.bool, .sl (.int .u16)]) :=
  if lt t13 t12 = true then Option.bind (at? a t13) fun (y : Int) => Option.bind (at? b t13) fun (x : Int) => Option.bind (at? b t13) fun (y_1 : Int) => if nei y y_1 = true then some (false, b, ()) else self1 a t12 (add .i64 t13 1) b else some (true, b, ())
def q3h_ (j1 : List Int -> Int -> Int -> List Int -> Option (As [.bool, .sl (.int .u16)])) (a b : List Int) : Option (As [.bool, .sl (.int .u16)]) :=
  if nei (Int.ofNat (List.length a)) (Int.ofNat (List.length b)) = true then some (false, b, ()) else j1 a (Int.ofNat (List.length a)) 0 b
def q2b_ (a : List Int) (t12 t13 : Int) (b : List Int) : Option (As [.bool, .sl (.int .u16)]) :=
  loopF (fun (self : (List Int) × (Int) × (Int) × (List Int) -> Option (As [.bool, .sl (.int .u16)])) (s : (List Int) × (Int) × (Int) × (List Int)) => q1q_ (fun a t12 t13 b => self (a, t12, t13, b)) s.1 s.2.1 s.2.2.1 s.2.2.2) 18446744073709551616 (a, t12, t13, b)
def q2g_ (x : As [.sl (.int .u16), .sl (.int .u16)]) : Option (As [.bool, .sl (.int .u16)]) := q3h_ q2b_ x.1 x.2.1
theorem q6a_  (J w1 a t12 t13 b) : pfn Try.prog q2n_ 6 18446744073709551616 (Ev.get q2o_) 11 q1c_ J 58 [w1] (q1o_ a t12 t13 b) = q1q_ (fun a t12 t13 b => w1 (q1o_ a t12 t13 b)) a t12 t13 b := by kernel_rfl
theorem q6d_ (J : Orc (As [.bool, .sl (.int .u16)])) (x : As [.sl (.int .u16), .sl (.int .u16)]) : rfn Try.prog q2n_ 6 18446744073709551616 (Ev.get q2o_) 11 q1c_ J x = q3h_ (fun a t12 t13 b => J 58 [] (q1o_ a t12 t13 b)) x.1 x.2.1 := by kernel_rfl
theorem q6f_  (a t12 t13 b) : jfn Try.prog q2n_ 6 18446744073709551616 (Ev.get q2o_) 11 q1c_ 58 [] (q1o_ a t12 t13 b) = q2b_ a t12 t13 b := by
  rw [pfn_eq (by decide)]
  rw [pfn_loop (by kernel_rfl)]
  refine qx_ (σ := (List Int) × (Int) × (Int) × (List Int)) (mk := fun s => q1o_ s.1 s.2.1 s.2.2.1 s.2.2.2) (fun w1 s => ?_) 18446744073709551616 (a, t12, t13, b)
  refine (q6a_ _ w1 s.1 s.2.1 s.2.2.1 s.2.2.2).trans ?_
  rfl
theorem q6q_ (x : As [.sl (.int .u16), .sl (.int .u16)]) : evT Try.prog q2n_ 6 18446744073709551616 (Ev.get q2o_) 11 q1c_ x = q2g_ x := by
  have e1 : (fun a t12 t13 b => (jfn Try.prog q2n_ 6 18446744073709551616 (Ev.get q2o_) 11 q1c_) 58 [] (q1o_ a t12 t13 b)) = q2b_ := by funext a t12 t13 b; exact q6f_ a t12 t13 b
  rw [rfn_eq, q6d_, e1]
  rfl
theorem q6j_ : CtOk Try.prog (fun _ => True) 11 ⟨q1c_, q2g_⟩ := ct_of_ev env_nil q6q_
@[reducible] def q2_ : Sh := ⟨[.d (.sl (.int .u16)), .d (.sl QKT0), .d (.int .u8)], [], [.sl (.int .u16), .sl QKT0, .int .u8], [.d (.bool)], [], 0, [.bool]⟩
def q5_ : Env := (cts [(7000010, Ev.bxCt), (7000011, Ev.bxCt), (9, (⟨qy_, q16_⟩ : Ct)), (10, (⟨qi_, q3k_⟩ : Ct)), (10, (⟨qf_, q24_⟩ : Ct)), (11, (⟨q1d_, q2i_⟩ : Ct)), (11, (⟨q1a_, q2k_⟩ : Ct)), (11, (⟨q1c_, q2g_⟩ : Ct)), (11, (⟨q1f_, q2m_⟩ : Ct))])
def q4_ : List (Nat × Hint) := [(7, ⟨[], [0, 1, 2, 62, 63, 64, 65, 68, 69, 70, 71, 72, 75, 76, 77, 78, 79, 80, 81, 82, 83, 84, 85, 86, 89, 90, 91, 92, 93, 94, 112]⟩), (255, ⟨[], [0, 9, 112]⟩), (2042, ⟨[], [0, 9, 10, 97, 98, 112]⟩), (254, ⟨[], [0, 9, 10, 95, 112]⟩), (58, ⟨[], [0, 1, 2, 22, 23, 24, 33, 34, 35, 38, 39, 40, 62, 63, 64, 65, 68, 69, 70, 71, 72, 75, 76, 77, 78, 79, 80, 81, 82, 83, 84, 85, 86, 89, 90, 91, 92, 93, 94, 112]⟩), (3737, ⟨[.agd 34 (.int .i64), .agd 35 .bool, .agd 39 (.int .i64), .agd 40 .bool], [0, 1, 2, 22, 23, 24, 41]⟩), (6, ⟨[], [0, 1, 2, 20, 33, 34, 35, 38, 39, 40, 62, 63, 64, 65, 68, 69, 70, 71, 72, 75, 76, 77, 78, 79, 80, 81, 82, 83, 84, 85, 86, 89, 90, 91, 92, 93, 94, 112]⟩)]
def q34_ (bank : List Int) (l : List (Int × List Int)) (at' : Int) (t20 : Bool) : St := { fr := [(0, .d (.sl (.int .u16)) bank), (1, .d (.sl QKT0) l), (2, .d (.int .u8) at'), (20, .d .bool t20)], nt := 114, up := [], own := [], nx := 0, log := [], ln := 0 }
def qk_ (bank : List Int) (l : List (Int × List Int)) (at' : Int) (t22 : List (Int × List Int)) (t23 t24 : Int) : St := { fr := [(0, .d (.sl (.int .u16)) bank), (1, .d (.sl QKT0) l), (2, .d (.int .u8) at'), (22, .d (.sl QKT0) t22), (23, .d (.int .i64) t23), (24, .d (.int .i64) t24)], nt := 114, up := [], own := [], nx := 0, log := [], ln := 0 }
def q36_ (bank : List Int) (l : List (Int × List Int)) (at' : Int) (t22 : List (Int × List Int)) (t23 t24 : Int) (t41 : Bool) : St := { fr := [(0, .d (.sl (.int .u16)) bank), (1, .d (.sl QKT0) l), (2, .d (.int .u8) at'), (22, .d (.sl QKT0) t22), (23, .d (.int .i64) t23), (24, .d (.int .i64) t24), (41, .d .bool t41)], nt := 114, up := [], own := [], nx := 0, log := [], ln := 0 }
def q2z_ (bank : List Int) (l : List (Int × List Int)) (at' : Int) : St := { fr := [(0, .d (.sl (.int .u16)) bank), (1, .d (.sl QKT0) l), (2, .d (.int .u8) at')], nt := 114, up := [], own := [], nx := 0, log := [], ln := 0 }
def q31_ (bank : List Int) (t95 : Bool) (was all : List Int) : St := { fr := [(0, .d (.sl (.int .u16)) bank), (9, .row 0), (10, .row 1), (95, .d .bool t95)], nt := 114, up := [], own := [(0, .row (.int .u16) 32 was), (1, .row (.int .u16) 32 all)], nx := 2, log := [], ln := 0 }
def q1l_ (bank : List Int) (t97 t98 : Int) (was all : List Int) : St := { fr := [(0, .d (.sl (.int .u16)) bank), (9, .row 0), (10, .row 1), (97, .d (.int .i64) t97), (98, .d (.int .i64) t98)], nt := 114, up := [], own := [(0, .row (.int .u16) 32 was), (1, .row (.int .u16) 32 all)], nx := 2, log := [], ln := 0 }
def q35_ (bank was : List Int) : St := { fr := [(0, .d (.sl (.int .u16)) bank), (9, .row 0)], nt := 114, up := [], own := [(0, .row (.int .u16) 32 was)], nx := 1, log := [], ln := 0 }
def q33_ (j2 : List Int -> List (Int × List Int) -> Int -> List (Int × List Int) -> Int -> Int -> Option (As [.bool])) (bank : List Int) (l : List (Int × List Int)) (at' : Int) (t20 : Bool) : Option (As [.bool]) :=
  if t20 = true then Option.bind (q16_ ()) fun (y : Bool × Unit) => some (y.1, ()) else j2 bank l at' l (Int.ofNat (List.length l)) 0
def q1j_ (j3 : List Int -> List (Int × List Int) -> Int -> List (Int × List Int) -> Int -> Int -> Bool -> Option (As [.bool])) (j4 : List Int -> List (Int × List Int) -> Int -> Option (As [.bool])) (self2 : List Int -> List (Int × List Int) -> Int -> List (Int × List Int) -> Int -> Int -> Option (As [.bool])) (bank : List Int) (l : List (Int × List Int)) (at' : Int) (t22 : List (Int × List Int)) (t23 t24 : Int) : Option (As [.bool]) :=
  if lt t24 t23 = true then Option.bind (at? t22 t24) fun (y : Int × List Int) => if gt (Int.ofNat (List.length y.2)) 20 = true then j3 bank l at' t22 t23 t24 true else if lt y.1 (-50) = true then j3 bank l at' t22 t23 t24 true else j3 bank l at' t22 t23 t24 (gt y.1 200) else j4 bank l at'
def q2x_ (self2 : List Int -> List (Int × List Int) -> Int -> List (Int × List Int) -> Int -> Int -> Option (As [.bool])) (bank : List Int) (l : List (Int × List Int)) (at' : Int) (t22 : List (Int × List Int)) (t23 t24 : Int) (t41 : Bool) : Option (As [.bool]) :=
  if t41 = true then Option.bind (q16_ ()) fun (y : Bool × Unit) => some (y.1, ()) else self2 bank l at' t22 t23 (add .i64 t24 1)
def q30_ (j5 : List Int -> Bool -> List Int -> List Int -> Option (As [.bool])) (bank : List Int) (l : List (Int × List Int)) (at' : Int) : Option (As [.bool]) :=
  need (small (0 + List.length bank)) (Option.bind (q24_ (bank, l, ())) fun (y : List Int × Unit) => need (nei (add .i64 (Int.ofNat (List.length l)) 1) 0) (if nei (Int.ofNat (List.length y.1)) (Int.ofNat (List.length bank)) = true then j5 bank true bank y.1 else Option.bind (q2g_ (bank, bank, ())) fun (y_1 : Bool × List Int × Unit) => if (!y_1.1) = true then j5 bank true y_1.2.1 y.1 else Option.bind (q24_ (bank, [], ())) fun (y_2 : List Int × Unit) => Option.bind (q2k_ (bank, y_2.1, ())) fun (y_3 : Bool × List Int × Unit) => if (!y_3.1) = true then j5 bank true y_1.2.1 y.1 else Option.bind (cut l 0 (rem (cvt .i64 at') (add .i64 (Int.ofNat (List.length l)) 1))) fun (y_4 : List (Int × List Int)) => Option.bind (cut l (rem (cvt .i64 at') (add .i64 (Int.ofNat (List.length l)) 1)) (Int.ofNat (List.length l))) fun (y_5 : List (Int × List Int)) => Option.bind (q24_ (bank, y_4, ())) fun (y_6 : List Int × Unit) => Option.bind (q3k_ (y_5, y_6.1, ())) fun (y_7 : List Int × List Int × Unit) => Option.bind (q2i_ (y_7.2.1, y.1, ())) fun (y : Bool × List Int × List Int × Unit) => if (!y.1) = true then j5 bank true y_1.2.1 y.2.2.1 else Option.bind (q3k_ (l, y.2.2.1, ())) fun (y : List Int × List Int × Unit) => Option.bind (q2i_ (y.2.1, y.1, ())) fun (y : Bool × List Int × List Int × Unit) => j5 bank (!y.1) y_1.2.1 y.2.2.1))
def q32_ (j6 : List Int -> Int -> Int -> List Int -> List Int -> Option (As [.bool])) (bank : List Int) (t95 : Bool) (was all : List Int) : Option (As [.bool]) :=
  if t95 = true then some (false, ()) else j6 bank (Int.ofNat (List.length all)) 0 was all
def q1i_ (j7 : List Int -> List Int -> Option (As [.bool])) (self6 : List Int -> Int -> Int -> List Int -> List Int -> Option (As [.bool])) (bank : List Int) (t97 t98 : Int) (was all : List Int) : Option (As [.bool]) :=
  if lt t98 t97 = true then Option.bind (at? all t98) fun (x : Int) => Option.bind (at? all t98) fun (y : Int) => Option.bind (at? all t98) fun (x : Int) => Option.bind (at? all t98) fun (x : Int) => self6 bank t97 (add .i64 t98 1) was (List.set all (Int.toNat t98) (add .u16 y 1)) else j7 bank was
def q37_ (bank was : List Int) : Option (As [.bool]) :=
  Option.bind (q2g_ (bank, was, ())) fun (y : Bool × List Int × Unit) => if y.1 = true then Option.bind (q16_ ()) fun (y : Bool × Unit) => some (y.1, ()) else some (false, ())
def q2y_ (j1 : List Int -> List (Int × List Int) -> Int -> Bool -> Option (As [.bool])) (bank : List Int) (l : List (Int × List Int)) (at' : Int) : Option (As [.bool]) :=
  if gt (Int.ofNat (List.length bank)) 100 = true then j1 bank l at' true else j1 bank l at' (gt (Int.ofNat (List.length l)) 10)
def q1k_ (u2 : List Int -> List (Int × List Int) -> Int -> List (Int × List Int) -> Int -> Int -> Option (As [.bool])) (bank : List Int) (l : List (Int × List Int)) (at' : Int) (t22 : List (Int × List Int)) (t23 t24 : Int) (t41 : Bool) : Option (As [.bool]) := q2x_ u2 bank l at' t22 t23 t24 t41
def qu_ (bank was : List Int) : Option (As [.bool]) := q37_ bank was
def q21_ (bank : List Int) (t97 t98 : Int) (was all : List Int) : Option (As [.bool]) :=
  loopF (fun (self : (List Int) × (Int) × (Int) × (List Int) × (List Int) -> Option (As [.bool])) (s : (List Int) × (Int) × (Int) × (List Int) × (List Int)) => q1i_ (qu_) (fun bank t97 t98 was all => self (bank, t97, t98, was, all)) s.1 s.2.1 s.2.2.1 s.2.2.2.1 s.2.2.2.2) 18446744073709551616 (bank, t97, t98, was, all)
def q1h_ (bank : List Int) (t95 : Bool) (was all : List Int) : Option (As [.bool]) := q32_ (q21_) bank t95 was all
def q1g_ (bank : List Int) (l : List (Int × List Int)) (at' : Int) : Option (As [.bool]) := q30_ (q1h_) bank l at'
def q1z_ (bank : List Int) (l : List (Int × List Int)) (at' : Int) (t22 : List (Int × List Int)) (t23 t24 : Int) : Option (As [.bool]) :=
  loopF (fun (self : (List Int) × (List (Int × List Int)) × (Int) × (List (Int × List Int)) × (Int) × (Int) -> Option (As [.bool])) (s : (List Int) × (List (Int × List Int)) × (Int) × (List (Int × List Int)) × (Int) × (Int)) => q1j_ (q1k_ (fun bank l at' t22 t23 t24 => self (bank, l, at', t22, t23, t24))) (q1g_) (fun bank l at' t22 t23 t24 => self (bank, l, at', t22, t23, t24)) s.1 s.2.1 s.2.2.1 s.2.2.2.1 s.2.2.2.2.1 s.2.2.2.2.2) 18446744073709551616 (bank, l, at', t22, t23, t24)
def q20_ (bank : List Int) (l : List (Int × List Int)) (at' : Int) (t20 : Bool) : Option (As [.bool]) := q33_ (q1z_) bank l at' t20
def q3t_ (x : As [.sl (.int .u16), .sl QKT0, .int .u8]) : Option (As [.bool]) := q2y_ q20_ x.1 x.2.1 x.2.2.1
theorem q64_  (J w2 bank l at' t22 t23 t24 t41) : pfn Try.prog q5_ 6 18446744073709551616 (Ev.get q4_) 4 q2_ J 3737 [w2] (q36_ bank l at' t22 t23 t24 t41) = q2x_ (fun bank l at' t22 t23 t24 => w2 (qk_ bank l at' t22 t23 t24)) bank l at' t22 t23 t24 t41 := by kernel_rfl
theorem q66_  (J bank was) : pfn Try.prog q5_ 6 18446744073709551616 (Ev.get q4_) 4 q2_ J 255 [] (q35_ bank was) = q37_ bank was := by kernel_rfl
theorem q5y_  (J w6 bank t97 t98 was all) : pfn Try.prog q5_ 6 18446744073709551616 (Ev.get q4_) 4 q2_ J 2042 [w6] (q1l_ bank t97 t98 was all) = q1i_ (fun bank was => J 255 [] (q35_ bank was)) (fun bank t97 t98 was all => w6 (q1l_ bank t97 t98 was all)) bank t97 t98 was all := by kernel_rfl
theorem q63_  (J bank t95 was all) : pfn Try.prog q5_ 6 18446744073709551616 (Ev.get q4_) 4 q2_ J 254 [] (q31_ bank t95 was all) = q32_ (fun bank t97 t98 was all => J 2042 [] (q1l_ bank t97 t98 was all)) bank t95 was all := by kernel_rfl
theorem q61_  (J bank l at') : pfn Try.prog q5_ 6 18446744073709551616 (Ev.get q4_) 4 q2_ J 7 [] (q2z_ bank l at') = q30_ (fun bank t95 was all => J 254 [] (q31_ bank t95 was all)) bank l at' := by kernel_rfl
theorem q5t_  (J w2 bank l at' t22 t23 t24) : pfn Try.prog q5_ 6 18446744073709551616 (Ev.get q4_) 4 q2_ J 58 [w2] (qk_ bank l at' t22 t23 t24) = q1j_ (fun bank l at' t22 t23 t24 t41 => J 3737 [w2] (q36_ bank l at' t22 t23 t24 t41)) (fun bank l at' => J 7 [] (q2z_ bank l at')) (fun bank l at' t22 t23 t24 => w2 (qk_ bank l at' t22 t23 t24)) bank l at' t22 t23 t24 := by kernel_rfl
theorem q62_  (J bank l at' t20) : pfn Try.prog q5_ 6 18446744073709551616 (Ev.get q4_) 4 q2_ J 6 [] (q34_ bank l at' t20) = q33_ (fun bank l at' t22 t23 t24 => J 58 [] (qk_ bank l at' t22 t23 t24)) bank l at' t20 := by kernel_rfl
theorem q5s_ (J : Orc (As [.bool])) (x : As [.sl (.int .u16), .sl QKT0, .int .u8]) : rfn Try.prog q5_ 6 18446744073709551616 (Ev.get q4_) 4 q2_ J x = q2y_ (fun bank l at' t20 => J 6 [] (q34_ bank l at' t20)) x.1 x.2.1 x.2.2.1 := by kernel_rfl
theorem q5w_  (w2 bank l at' t22 t23 t24 t41) : jfn Try.prog q5_ 6 18446744073709551616 (Ev.get q4_) 4 q2_ 3737 [w2] (q36_ bank l at' t22 t23 t24 t41) = q1k_ (fun bank l at' t22 t23 t24 => w2 (qk_ bank l at' t22 t23 t24)) bank l at' t22 t23 t24 t41 := by
  rw [pfn_eq (by decide)]
  rw [q64_]
  rfl
theorem q5q_  (bank was) : jfn Try.prog q5_ 6 18446744073709551616 (Ev.get q4_) 4 q2_ 255 [] (q35_ bank was) = qu_ bank was := by
  rw [pfn_eq (by decide)]
  rw [q66_]
  rfl
theorem q5v_  (bank t97 t98 was all) : jfn Try.prog q5_ 6 18446744073709551616 (Ev.get q4_) 4 q2_ 2042 [] (q1l_ bank t97 t98 was all) = q21_ bank t97 t98 was all := by
  rw [pfn_eq (by decide)]
  rw [pfn_loop (by kernel_rfl)]
  refine qx_ (σ := (List Int) × (Int) × (Int) × (List Int) × (List Int)) (mk := fun s => q1l_ s.1 s.2.1 s.2.2.1 s.2.2.2.1 s.2.2.2.2) (fun w6 s => ?_) 18446744073709551616 (bank, t97, t98, was, all)
  have e7 : (fun bank was => (jfn Try.prog q5_ 6 18446744073709551616 (Ev.get q4_) 4 q2_) 255 [] (q35_ bank was)) = qu_ := by funext bank was; exact q5q_ bank was
  refine (q5y_ _ w6 s.1 s.2.1 s.2.2.1 s.2.2.2.1 s.2.2.2.2).trans ?_
  rw [e7]
theorem q5x_  (bank t95 was all) : jfn Try.prog q5_ 6 18446744073709551616 (Ev.get q4_) 4 q2_ 254 [] (q31_ bank t95 was all) = q1h_ bank t95 was all := by
  rw [pfn_eq (by decide)]
  have e6 : (fun bank t97 t98 was all => (jfn Try.prog q5_ 6 18446744073709551616 (Ev.get q4_) 4 q2_) 2042 [] (q1l_ bank t97 t98 was all)) = q21_ := by funext bank t97 t98 was all; exact q5v_ bank t97 t98 was all
  rw [q63_, e6]
  rfl
theorem q60_  (bank l at') : jfn Try.prog q5_ 6 18446744073709551616 (Ev.get q4_) 4 q2_ 7 [] (q2z_ bank l at') = q1g_ bank l at' := by
  rw [pfn_eq (by decide)]
  have e5 : (fun bank t95 was all => (jfn Try.prog q5_ 6 18446744073709551616 (Ev.get q4_) 4 q2_) 254 [] (q31_ bank t95 was all)) = q1h_ := by funext bank t95 was all; exact q5x_ bank t95 was all
  rw [q61_, e5]
  rfl
theorem q5u_  (bank l at' t22 t23 t24) : jfn Try.prog q5_ 6 18446744073709551616 (Ev.get q4_) 4 q2_ 58 [] (qk_ bank l at' t22 t23 t24) = q1z_ bank l at' t22 t23 t24 := by
  rw [pfn_eq (by decide)]
  rw [pfn_loop (by kernel_rfl)]
  refine qx_ (σ := (List Int) × (List (Int × List Int)) × (Int) × (List (Int × List Int)) × (Int) × (Int)) (mk := fun s => qk_ s.1 s.2.1 s.2.2.1 s.2.2.2.1 s.2.2.2.2.1 s.2.2.2.2.2) (fun w2 s => ?_) 18446744073709551616 (bank, l, at', t22, t23, t24)
  have e3 : (fun bank l at' t22 t23 t24 t41 => (jfn Try.prog q5_ 6 18446744073709551616 (Ev.get q4_) 4 q2_) 3737 [w2] (q36_ bank l at' t22 t23 t24 t41)) = q1k_ (fun bank l at' t22 t23 t24 => w2 (qk_ bank l at' t22 t23 t24)) := by funext bank l at' t22 t23 t24 t41; exact q5w_ w2 bank l at' t22 t23 t24 t41
  have e4 : (fun bank l at' => (jfn Try.prog q5_ 6 18446744073709551616 (Ev.get q4_) 4 q2_) 7 [] (q2z_ bank l at')) = q1g_ := by funext bank l at'; exact q60_ bank l at'
  refine (q5t_ _ w2 s.1 s.2.1 s.2.2.1 s.2.2.2.1 s.2.2.2.2.1 s.2.2.2.2.2).trans ?_
  rw [e3, e4]
theorem q5p_  (bank l at' t20) : jfn Try.prog q5_ 6 18446744073709551616 (Ev.get q4_) 4 q2_ 6 [] (q34_ bank l at' t20) = q20_ bank l at' t20 := by
  rw [pfn_eq (by decide)]
  have e2 : (fun bank l at' t22 t23 t24 => (jfn Try.prog q5_ 6 18446744073709551616 (Ev.get q4_) 4 q2_) 58 [] (qk_ bank l at' t22 t23 t24)) = q1z_ := by funext bank l at' t22 t23 t24; exact q5u_ bank l at' t22 t23 t24
  rw [q62_, e2]
  rfl
theorem q6c_ (x : As [.sl (.int .u16), .sl QKT0, .int .u8]) : evT Try.prog q5_ 6 18446744073709551616 (Ev.get q4_) 4 q2_ x = q3t_ x := by
  have e1 : (fun bank l at' t20 => (jfn Try.prog q5_ 6 18446744073709551616 (Ev.get q4_) 4 q2_) 6 [] (q34_ bank l at' t20)) = q20_ := by funext bank l at' t20; exact q5p_ bank l at' t20
  rw [rfn_eq, q5s_, e1]
  rfl
theorem q65_ : CtOk Try.prog (fun _ => True) 4 ⟨q2_, q3t_⟩ := ct_of_ev (qv_ Ev.bx_ok (qv_ Ev.bx_ok (qv_ q7c_ (qv_ q73_ (qv_ q6s_ (qv_ q68_ (qv_ q6e_ (qv_ q6j_ (qv_ q4j_ env_nil))))))))) q6c_
end Go.Proofs.Lx
end
section
namespace Pl
open Go Ev Sx
end Pl
end
section
namespace Pl
open Go Ev Sx
end Pl
end
section
set_option maxRecDepth 100000
namespace Go.Proofs.Lx
open Go Ev Sx Pl
def rise (es : List (Int × Int)) : Prop := (es.map (·.1)).Pairwise (· < ·)
theorem keqi {k : IntKind} {a b : Int} : keq (.int k) a b = true ↔ a = b := by simp [keq, eqi]
theorem dget_in {k : IntKind} : ∀ {m : List (Int × Int)} {a b : Int}, rise m -> (a, b) ∈ m -> dget (.int k) m a = some b
  | [], _, _, _, h => by cases h
  | (c, d) :: r, a, b, hr, h => by
    unfold rise at hr
    simp only [List.map_cons, List.pairwise_cons] at hr
    unfold dget
    rcases List.mem_cons.1 h with h | h
    · cases h
      rw [if_pos (keqi.2 rfl)]
    · have := hr.1 a (List.mem_map.2 ⟨_, h, rfl⟩)
      rw [if_neg (by rw [keqi]; omega)]
      exact dget_in hr.2 h
theorem sorted_rise {m : List (Int × Int)} (h : rise m) : sorted (m.map (·.1)) = m.map (·.1) :=
  List.mergeSort_of_pairwise (h.imp fun h => by simp; omega)
def stepV (v : Int) (l : List Bk) (z : Int) : Option (List Bk) :=
  if z < 0 ∨ 64 ≤ z then none else
  match l.getLast? with
  | none => some [(z, [v])]
  | some (a, ws) => if z ≠ a + (ws.length : Int) ∨ ws.length = 14 then (if l.length = 8 then none else some (l ++ [(z, [v])])) else some (l.dropLast ++ [(a, ws ++ [v])])
theorem stepV_eq (m : List (Int × Int)) (l : List Bk) (z : Int) : bkStep m l z = stepV (bkV m z) l z := rfl
def foldE : List (Int × Int) -> Option (List Bk) -> Option (List Bk)
  | [], r => r
  | e :: q, r => foldE q (r.bind fun l => stepV e.2 l e.1)
theorem bkAll_fold {m : List (Int × Int)} : ∀ {es : List (Int × Int)} {r : Option (List Bk)}, (∀ e ∈ es, dget kT m e.1 = some e.2) -> bkAll m (es.map (·.1)) r = foldE es r
  | [], _, _ => rfl
  | e :: q, r, h => by
    show bkAll m (q.map (·.1)) _ = foldE q _
    rw [bkAll_fold fun e he => h e (List.mem_cons_of_mem _ he)]
    have hv : bkV m e.1 = e.2 := by unfold bkV; rw [h e (List.mem_cons_self ..)]; rfl
    congr 1
    cases r with
    | none => rfl
    | some l => show bkStep m l e.1 = stepV e.2 l e.1; rw [stepV_eq, hv]
def resOf : Option (List Bk) -> List Bk × Bool
  | some l => (l, true)
  | none => ([], false)
theorem bkRes_eq (m : List (Int × Int)) : bkRes m = if m.length > 64 then ([], false) else resOf (bkAll m (sorted (m.map (·.1))) (some [])) := by
  unfold bkRes
  cases bkAll m (sorted (m.map (·.1))) (some []) <;> rfl
theorem bkRes_rise {m : List (Int × Int)} (h : rise m) (hl : m.length ≤ 64) : bkRes m = resOf (foldE m (some [])) := by
  rw [bkRes_eq, if_neg (by omega), sorted_rise h, bkAll_fold fun e he => dget_in h he]
theorem bkRes_far {m : List (Int × Int)} (h : rise m) (hk : ∀ e ∈ m, e.1 < 64) (v : Int) : bkRes (m ++ [(64, v)]) = ([], false) := by
  rw [bkRes_eq]
  split
  · rfl
  · have hr : rise (m ++ [(64, v)]) := by
      unfold rise
      rw [List.map_append, List.pairwise_append]
      refine ⟨h, by simp, fun a ha b hb => ?_⟩
      obtain ⟨e, he, rfl⟩ := List.mem_map.1 ha
      simp at hb
      have := hk e he
      omega
    rw [sorted_rise hr, List.map_append, List.map_singleton, bkAll_snoc]
    cases bkAll (m ++ [(64, v)]) (m.map (·.1)) (some []) with
    | none => rfl
    | some l =>
      have : bkStep (m ++ [(64, v)]) l 64 = none := by unfold bkStep; rw [if_pos (.inr (by decide))]
      show resOf (bkStep (m ++ [(64, v)]) l 64) = _
      rw [this]
      rfl
def nxt (b c : Bk) : Prop := b.1 + (b.2.length : Int) < c.1 ∨ (b.1 + (b.2.length : Int) = c.1 ∧ b.2.length = 14)
structure Good (l : List Bk) : Prop where
  len : ∀ b ∈ l, 1 ≤ b.2.length ∧ b.2.length ≤ 14
  chn : ∀ (j : Nat) (b c : Bk), l[j]? = some b -> l[j + 1]? = some c -> nxt b c
structure BI (i runs : Nat) (l : List Bk) : Prop where
  zero : runs = 0 -> ∀ a ws, l.getLast? = some (a, ws) -> a + (ws.length : Int) < i
  pos : runs ≠ 0 -> ∃ l' a ws, l = l' ++ [(a, ws)] ∧ a + (ws.length : Int) = i ∧ ws.length = (runs - 1) % 14 + 1
end Go.Proofs.Lx
end
section
set_option maxRecDepth 100000
namespace Go.Proofs.Lx
open Go Ev Sx Pl
def q2v_  := (fun (self : (List (Int × List Int)) × (List (Int × List Int)) × (Int) × (Int) -> Option (As [.bool])) (s : (List (Int × List Int)) × (List (Int × List Int)) × (Int) × (Int)) => q2j_ (q2f_ (fun a b t12 t13 => self (a, b, t12, t13))) (fun a b t12 t13 => self (a, b, t12, t13)) s.1 s.2.1 s.2.2.1 s.2.2.2)
theorem q4o_  (self : (List (Int × List Int)) × (List (Int × List Int)) × (Int) × (Int) -> Option (As [.bool])) (a : List (Int × List Int)) (b : List (Int × List Int)) (t12 : Int) (t13 : Int) : q2v_ self (a, b, t12, t13) = q2j_ (q2f_ (fun a b t12 t13 => self (a, b, t12, t13))) (fun a b t12 t13 => self (a, b, t12, t13)) a b t12 t13 := rfl
theorem q6g_  (a : List (Int × List Int)) (b : List (Int × List Int)) (t12 : Int) (t13 : Int) : q3j_ a b t12 t13 = loopF (q2v_) 18446744073709551616 (a, b, t12, t13) := rfl
def q3m_  := (fun (self : (List Int) × (List Int) × (Int) × (Int) -> Option (As [.bool])) (s : (List Int) × (List Int) × (Int) × (Int)) => q2l_ (fun a b t12 t13 => self (a, b, t12, t13)) s.1 s.2.1 s.2.2.1 s.2.2.2)
theorem q4n_  (self : (List Int) × (List Int) × (Int) × (Int) -> Option (As [.bool])) (a : List Int) (b : List Int) (t12 : Int) (t13 : Int) : q3m_ self (a, b, t12, t13) = q2l_ (fun a b t12 t13 => self (a, b, t12, t13)) a b t12 t13 := rfl
theorem q6k_  (a : List Int) (b : List Int) (t12 : Int) (t13 : Int) : q3i_ a b t12 t13 = loopF (q3m_) 18446744073709551616 (a, b, t12, t13) := rfl
def q3s_  := (fun (self : (List (Int × List Int)) × (Int) × (Int) × (List Int) -> Option (As [.sl (.int .u16)])) (s : (List (Int × List Int)) × (Int) × (Int) × (List Int)) => q3a_ (q39_ (fun t12 t13 t14 bank => self (t12, t13, t14, bank))) (fun t12 t13 t14 bank => self (t12, t13, t14, bank)) s.1 s.2.1 s.2.2.1 s.2.2.2)
theorem q4q_  (self : (List (Int × List Int)) × (Int) × (Int) × (List Int) -> Option (As [.sl (.int .u16)])) (t12 : List (Int × List Int)) (t13 : Int) (t14 : Int) (bank : List Int) : q3s_ self (t12, t13, t14, bank) = q3a_ (q39_ (fun t12 t13 t14 bank => self (t12, t13, t14, bank))) (fun t12 t13 t14 bank => self (t12, t13, t14, bank)) t12 t13 t14 bank := rfl
theorem q6o_  (t12 : List (Int × List Int)) (t13 : Int) (t14 : Int) (bank : List Int) : q3o_ t12 t13 t14 bank = loopF (q3s_) 18446744073709551616 (t12, t13, t14, bank) := rfl
def q3v_ (u1 : List (Int × List Int) -> Int -> Int -> List Int -> Option (As [.sl (.int .u16)])) := (fun (self : (List (Int × List Int)) × (Int) × (Int) × (List Int) × (Int) × (Int) × (List Int) × (Int × List Int) -> Option (As [.sl (.int .u16)])) (s : (List (Int × List Int)) × (Int) × (Int) × (List Int) × (Int) × (Int) × (List Int) × (Int × List Int)) => q3b_ (q38_ u1 (fun t12 t13 t14 t19 t20 t21 bank x => self (t12, t13, t14, t19, t20, t21, bank, x))) u1 (fun t12 t13 t14 t19 t20 t21 bank x => self (t12, t13, t14, t19, t20, t21, bank, x)) s.1 s.2.1 s.2.2.1 s.2.2.2.1 s.2.2.2.2.1 s.2.2.2.2.2.1 s.2.2.2.2.2.2.1 s.2.2.2.2.2.2.2)
theorem q4r_ (u1 : List (Int × List Int) -> Int -> Int -> List Int -> Option (As [.sl (.int .u16)])) (self : (List (Int × List Int)) × (Int) × (Int) × (List Int) × (Int) × (Int) × (List Int) × (Int × List Int) -> Option (As [.sl (.int .u16)])) (t12 : List (Int × List Int)) (t13 t14 : Int) (t19 : List Int) (t20 t21 : Int) (bank : List Int) (x : Int × List Int) : q3v_ u1 self (t12, t13, t14, t19, t20, t21, bank, x) = q3b_ (q38_ u1 (fun t12 t13 t14 t19 t20 t21 bank x => self (t12, t13, t14, t19, t20, t21, bank, x))) u1 (fun t12 t13 t14 t19 t20 t21 bank x => self (t12, t13, t14, t19, t20, t21, bank, x)) t12 t13 t14 t19 t20 t21 bank x := rfl
theorem q6n_ (u1 : List (Int × List Int) -> Int -> Int -> List Int -> Option (As [.sl (.int .u16)])) (t12 : List (Int × List Int)) (t13 t14 : Int) (t19 : List Int) (t20 t21 : Int) (bank : List Int) (x : Int × List Int) : q39_ u1 t12 t13 t14 t19 t20 t21 bank x = loopF (q3v_ u1) 18446744073709551616 (t12, t13, t14, t19, t20, t21, bank, x) := rfl
theorem regs_go (a b : List Int) (hl : a.length = b.length) (hs : a.length ≤ 1000000) : ∀ (k i n : Nat), i + k = a.length -> k < n -> loopF q3m_ n (a, b, Int.ofNat a.length, (i : Int)) = some (decide (a.drop i = b.drop i), ())
  | k, _, 0, _, h => by omega
  | 0, i, n + 1, h, _ => by
    rw [q9_, q4n_]
    unfold q2l_
    rw [if_neg (by rw [lt_iff, q1_]; omega), List.drop_eq_nil_of_le (by omega), List.drop_eq_nil_of_le (by omega)]
    simp
  | k + 1, i, n + 1, h, hn => by
    have hw : i < a.length := by omega
    have hv : i < b.length := by omega
    rw [q9_, q4n_]
    unfold q2l_
    rw [if_pos (by rw [lt_iff, q1_]; omega), at_get (List.getElem?_eq_getElem hw), Option.bind_some, at_get (List.getElem?_eq_getElem hv), Option.bind_some, List.drop_eq_getElem_cons hw, List.drop_eq_getElem_cons hv]
    rw [show add .i64 (i : Int) 1 = ((i + 1 : Nat) : Int) from succ64 (by omega)]
    have ih := regs_go a b hl hs k (i + 1) n (by omega) (by omega)
    show (if nei a[i] b[i] = true then _ else loopF q3m_ n (a, b, Int.ofNat a.length, ((i + 1 : Nat) : Int))) = _
    rw [ih]
    generalize a[i] = x, b[i] = y, a.drop (i + 1) = p, b.drop (i + 1) = q
    by_cases hc : x = y
    · rw [if_neg (by rw [qj_]; simp [hc])]
      simp [hc]
    · rw [if_pos (qj_.2 hc)]
      simp [hc]
theorem regs_eq (a b : List Int) (h1 : a.length ≤ 1000000) (h2 : b.length ≤ 1000000) : q2m_ (a, b, ()) = some (decide (a = b), ()) := by
  show q44_ q3i_ a b = _
  unfold q44_
  by_cases hl : a.length = b.length
  · rw [if_neg (by rw [qj_, q1_, q1_]; omega), q6k_]
    have := regs_go a b hl h1 a.length 0 18446744073709551616 (by omega) (by omega)
    simpa using this
  · rw [if_pos (by rw [qj_, q1_, q1_]; omega)]
    have : a ≠ b := fun e => hl (by rw [e])
    simp [this]
def SmB (l : List Bk) : Prop := l.length ≤ 1000000 ∧ ∀ b ∈ l, b.2.length ≤ 1000000
theorem same_go (a b : List Bk) (hl : a.length = b.length) (ha : SmB a) (hb : SmB b) : ∀ (k i n : Nat), i + k = a.length -> k < n -> loopF q2v_ n (a, b, Int.ofNat a.length, (i : Int)) = some (decide (a.drop i = b.drop i), ())
  | k, _, 0, _, h => by omega
  | 0, i, n + 1, h, _ => by
    rw [q9_, q4o_]
    unfold q2j_
    rw [if_neg (by rw [lt_iff, q1_]; omega), List.drop_eq_nil_of_le (by omega), List.drop_eq_nil_of_le (by omega)]
    simp
  | k + 1, i, n + 1, h, hn => by
    have hw : i < a.length := by omega
    have hv : i < b.length := by omega
    have h6 := ha.1
    rw [q9_, q4o_]
    unfold q2j_
    rw [if_pos (by rw [lt_iff, q1_]; omega), at_get (List.getElem?_eq_getElem hw), Option.bind_some, at_get (List.getElem?_eq_getElem hv), Option.bind_some, List.drop_eq_getElem_cons hw, List.drop_eq_getElem_cons hv, Option.bind_some, Option.bind_some,
      regs_eq _ _ (ha.2 _ (List.getElem_mem hw)) (hb.2 _ (List.getElem_mem hv)), Option.bind_some]
    have hk : ∀ c, q2f_ (fun a b t12 t13 => loopF q2v_ n (a, b, t12, t13)) a b (Int.ofNat a.length) (i : Int) c = if c = true then some (false, ()) else some (decide (a.drop (i + 1) = b.drop (i + 1)), ()) := fun c => by
      show q42_ _ a b _ _ c = _
      unfold q42_
      rw [show add .i64 (i : Int) 1 = ((i + 1 : Nat) : Int) from succ64 (by omega)]
      have ih := same_go a b hl ha hb k (i + 1) n (by omega) (by omega)
      show (if c = true then _ else loopF q2v_ n (a, b, Int.ofNat a.length, ((i + 1 : Nat) : Int))) = _
      rw [ih]
    rw [hk, hk]
    generalize a[i] = x, b[i] = y, a.drop (i + 1) = p, b.drop (i + 1) = q
    by_cases h1 : x.1 = y.1
    · rw [if_neg (by rw [qj_]; simp [h1])]
      by_cases h2 : x.2 = y.2
      · have : x = y := Prod.ext h1 h2
        simp [this]
      · have : ¬ x = y := fun e => h2 (by rw [e])
        simp [this, h2]
    · have : ¬ x = y := fun e => h1 (by rw [e])
      rw [if_pos (qj_.2 h1), if_pos rfl]
      simp [this]
theorem same_eq (a b : List Bk) (ha : SmB a) (hb : SmB b) : q48_ (a, b, ()) = some (decide (a = b), ()) := by
  show q43_ q3j_ a b = _
  unfold q43_
  by_cases hl : a.length = b.length
  · rw [if_neg (by rw [qj_, q1_, q1_]; omega), q6g_]
    have := same_go a b hl ha hb a.length 0 18446744073709551616 (by omega) (by have := ha.1; omega)
    simpa using this
  · rw [if_pos (by rw [qj_, q1_, q1_]; omega)]
    have : a ≠ b := fun e => hl (by rw [e])
    simp [this]
end Go.Proofs.Lx
end
section
set_option maxRecDepth 100000
namespace Go.Proofs.Lx
open Go Ev Sx Pl
def setW (bank : List Int) (a w : Int) : List Int := if 0 ≤ a ∧ a < (bank.length : Int) then bank.set a.toNat w else bank
theorem setW_len (bank : List Int) (a w : Int) : (setW bank a w).length = bank.length := by unfold setW; split <;> simp
def overW : List Int -> Int -> List Int -> List Int
  | bank, _, [] => bank
  | bank, a, w :: r => overW (setW bank a w) (a + 1) r
theorem overW_len : ∀ (ws bank : List Int) (a : Int), (overW bank a ws).length = bank.length
  | [], _, _ => rfl
  | w :: r, bank, a => by rw [overW, overW_len r, setW_len]
def over : List Int -> List Bk -> List Int
  | bank, [] => bank
  | bank, b :: r => over (overW bank b.1 b.2) r
theorem over_len : ∀ (l : List Bk) (bank : List Int), (over bank l).length = bank.length
  | [], _ => rfl
  | b :: r, bank => by rw [over, over_len r, overW_len]
theorem over_app : ∀ (l k : List Bk) (bank : List Int), over bank (l ++ k) = over (over bank l) k
  | [], _, _ => rfl
  | b :: r, k, bank => over_app r k _
def FitB (l : List Bk) : Prop := l.length ≤ 1000000 ∧ ∀ b ∈ l, b.2.length ≤ 1000000 ∧ -1000000 ≤ b.1 ∧ b.1 ≤ 1000000
theorem FitB.sm {l : List Bk} (h : FitB l) : SmB l := ⟨h.1, fun b hb => (h.2 b hb).1⟩
theorem at_some_in {α : Type} {s : List α} {i : Int} (h : 0 ≤ i ∧ i < (s.length : Int)) : ∃ c, at? s i = some c := by
  obtain ⟨n, rfl⟩ := Int.eq_ofNat_of_zero_le h.1
  exact ⟨_, at_get (List.getElem?_eq_getElem (show n < s.length by omega))⟩
theorem over_in (u1 : List Bk -> Int -> Int -> List Int -> Option (As [.sl (.int .u16)])) (l : List Bk) (j : Int) (x : Bk) (h1 : x.2.length ≤ 1000000) (h2 : -1000000 ≤ x.1 ∧ x.1 ≤ 1000000) :
    ∀ (k i n : Nat) (bank : List Int), i + k = x.2.length -> k < n -> bank.length ≤ 1000000 -> loopF (q3v_ u1) n (l, Int.ofNat l.length, j, x.2, Int.ofNat x.2.length, (i : Int), bank, x) = u1 l (Int.ofNat l.length) (add .i64 j 1) (overW bank (x.1 + (i : Int)) (x.2.drop i))
  | k, _, 0, _, _, h, _ => by omega
  | 0, i, n + 1, bank, h, _, hb => by
    rw [q9_, q4r_]
    unfold q3b_
    rw [if_neg (by rw [lt_iff, q1_]; omega), List.drop_eq_nil_of_le (by omega)]
    rfl
  | k + 1, i, n + 1, bank, h, hn, hb => by
    have hw : i < x.2.length := by omega
    rw [q9_, q4r_]
    unfold q3b_
    have ea : add .i64 x.1 (i : Int) = x.1 + (i : Int) := add64 (by omega) (by omega)
    rw [if_pos (by rw [lt_iff, q1_]; omega), at_get (List.getElem?_eq_getElem hw), Option.bind_some, ea, List.drop_eq_getElem_cons hw, overW, Int.add_assoc]
    have e1 : add .i64 (i : Int) 1 = ((i + 1 : Nat) : Int) := succ64 (by omega)
    have e2 : ((i : Int) + 1) = ((i + 1 : Nat) : Int) := by omega
    have ih := fun bank' hb' => over_in u1 l j x h1 h2 k (i + 1) n bank' (by omega) (by omega) hb'
    have step : ∀ c : Bool, c = decide (0 ≤ x.1 + (i : Int) ∧ x.1 + (i : Int) < (bank.length : Int)) -> q38_ u1 (fun t12 t13 t14 t19 t20 t21 bank x => loopF (q3v_ u1) n (t12, t13, t14, t19, t20, t21, bank, x)) x.2[i] (x.1 + (i : Int)) l (Int.ofNat l.length) j x.2 (Int.ofNat x.2.length) (i : Int) c bank x =
        u1 l (Int.ofNat l.length) (add .i64 j 1) (overW (setW bank (x.1 + (i : Int)) x.2[i]) (x.1 + ((i : Int) + 1)) (x.2.drop (i + 1))) := by
      intro c hc
      show q49_ u1 _ x.2[i] (x.1 + (i : Int)) l (Int.ofNat l.length) j x.2 (Int.ofNat x.2.length) (i : Int) c bank x = _
      unfold q49_
      rw [e1]
      by_cases hin : 0 ≤ x.1 + (i : Int) ∧ x.1 + (i : Int) < (bank.length : Int)
      · obtain ⟨v, hv⟩ := at_some_in hin
        rw [hc, if_pos (by simpa using hin), hv, Option.bind_some, Option.bind_some]
        have hs : setW bank (x.1 + (i : Int)) x.2[i] = bank.set (x.1 + (i : Int)).toNat x.2[i] := by unfold setW; rw [if_pos hin]
        rw [hs, e2]
        exact ih _ (by simpa using hb)
      · rw [hc, if_neg (by simpa using hin)]
        have hs : setW bank (x.1 + (i : Int)) x.2[i] = bank := by unfold setW; rw [if_neg hin]
        rw [hs, e2]
        exact ih _ hb
    by_cases h0 : 0 ≤ x.1 + (i : Int)
    · rw [if_pos (ge_iff.2 h0)]
      exact step _ (by simp [lt, h0])
    · rw [if_neg (by rw [ge_iff]; exact h0)]
      exact step _ (by simp [h0])
theorem over_out (l : List Bk) (h : FitB l) : ∀ (k j n : Nat) (bank : List Int), j + k = l.length -> k < n -> bank.length ≤ 1000000 -> loopF q3s_ n (l, Int.ofNat l.length, (j : Int), bank) = some (over bank (l.drop j), ())
  | k, _, 0, _, _, h, _ => by omega
  | 0, j, n + 1, bank, hj, _, hb => by
    rw [q9_, q4q_]
    unfold q3a_
    rw [if_neg (by rw [lt_iff, q1_]; omega), List.drop_eq_nil_of_le (by omega)]
    rfl
  | k + 1, j, n + 1, bank, hj, hn, hb => by
    have hw : j < l.length := by omega
    have h6 := h.1
    have h7 := h.2 _ (List.getElem_mem hw)
    rw [q9_, q4q_]
    unfold q3a_
    rw [if_pos (by rw [lt_iff, q1_]; omega), at_get (List.getElem?_eq_getElem hw), Option.bind_some, q6n_]
    have := over_in (fun t12 t13 t14 bank => loopF q3s_ n (t12, t13, t14, bank)) l (j : Int) l[j] h7.1 h7.2 l[j].2.length 0 18446744073709551616 bank (by omega) (by omega) hb
    refine Eq.trans this ?_
    rw [show add .i64 (j : Int) 1 = ((j + 1 : Nat) : Int) from succ64 (by omega)]
    refine (over_out l h k (j + 1) n _ (by omega) (by omega) (by rw [overW_len]; exact hb)).trans ?_
    rw [List.drop_eq_getElem_cons hw, over]
    simp
theorem eqAs_r {rs : List Ty} (a : Option (As rs)) : amb (eqAs rs) [a, a] = a := amb2 (eqAs_refl rs) a
theorem clone_n (s : List Int) (h : s.length ≤ 1000000) : qb_ (s, ()) = some (s, ()) := by
  show q23_ s = _
  unfold q23_
  by_cases h0 : s = []
  · subst h0
    rw [if_pos (by decide), need_t (by decide)]
    exact eqAs_r _
  · have : s.length ≠ 0 := fun e => h0 (List.eq_nil_of_length_eq_zero e)
    rw [if_neg (by rw [eqi_iff, q1_]; omega), need_small (by omega)]
theorem over_eq (bank : List Int) (l : List Bk) (hb : bank.length ≤ 1000000) (h : FitB l) : q45_ (bank, l, ()) = some (over bank l, ()) := by
  show q47_ q3o_ bank l = _
  unfold q47_
  rw [clone_n bank hb, Option.bind_some, q6o_]
  have := over_out l h l.length 0 18446744073709551616 bank (by omega) (by have := h.1; omega) hb
  simpa using this
theorem blocks_eq {m : List (Int × Int)} (h : m.all keyOk = true) : q1v_ (m, ()) = some ((bkRes m).1, (bkRes m).2, m, ()) := by
  show (if m.all keyOk = true then _ else _) = _
  rw [if_pos h]
theorem res1 : bkRes [(3, 7), (4, 8), (6, 9)] = ([(3, [7, 8]), (6, [9])], true) := by
  rw [bkRes_rise (by unfold rise; decide) (by decide)]
  decide
theorem res2 : bkRes [(64, 1)] = ([], false) := bkRes_far (m := []) (by unfold rise; decide) (by simp) 1
def m15 : List (Int × Int) := [(0, 0), (1, 1), (2, 2), (3, 3), (4, 4), (5, 5), (6, 6), (7, 7), (8, 8), (9, 9), (10, 10), (11, 11), (12, 12), (13, 13), (14, 14)]
theorem res3 : bkRes m15 = ([(0, [0, 1, 2, 3, 4, 5, 6, 7, 8, 9, 10, 11, 12, 13]), (14, [14])], true) := by
  rw [bkRes_rise (by unfold rise m15; decide) (by decide)]
  decide
theorem awake_loop (a : List Bk) (x : Bool) : q28_ a x 0 [] = q3r_ a x m15 := by kernel_rfl
theorem awake : q16_ () = some (true, ()) := by
  show q3q_ q28_ = _
  unfold q3q_
  rw [blocks_eq (by decide), res1, Option.bind_some]
  show q28_ [(3, [7, 8]), (6, [9])] true 0 [] = _
  rw [awake_loop]
  show q3x_ [(3, [7, 8]), (6, [9])] true m15 = _
  unfold q3x_
  rw [blocks_eq (m := m15) (by decide), res3, Option.bind_some, blocks_eq (by decide), res2, Option.bind_some, if_pos rfl, if_pos rfl, if_pos (by decide),
    same_eq _ _ ⟨by decide, by decide⟩ ⟨by decide, by decide⟩, Option.bind_some, if_pos (by decide), if_pos (by decide)]
  show Option.bind (some (0, [0, 1, 2, 3, 4, 5, 6, 7, 8, 9, 10, 11, 12, 13])) _ = _
  rw [Option.bind_some, if_pos (by decide)]
  show Option.bind (some (14, [14])) _ = _
  rw [Option.bind_some, if_pos (by decide), over_eq _ _ (by decide) ⟨by decide, by decide⟩, Option.bind_some, regs_eq _ _ (by rw [over_len]; decide) (by decide), Option.bind_some]
  decide
end Go.Proofs.Lx
end
section
set_option maxRecDepth 100000
namespace Go.Proofs.Lx
open Go Ev Sx Pl
def q2e_  := (fun (self : (List Int) × (List (Int × List Int)) × (Int) × (List (Int × List Int)) × (Int) × (Int) -> Option (As [.bool])) (s : (List Int) × (List (Int × List Int)) × (Int) × (List (Int × List Int)) × (Int) × (Int)) => q1j_ (q1k_ (fun bank l at' t22 t23 t24 => self (bank, l, at', t22, t23, t24))) (q1g_) (fun bank l at' t22 t23 t24 => self (bank, l, at', t22, t23, t24)) s.1 s.2.1 s.2.2.1 s.2.2.2.1 s.2.2.2.2.1 s.2.2.2.2.2)
theorem q4b_  (self : (List Int) × (List (Int × List Int)) × (Int) × (List (Int × List Int)) × (Int) × (Int) -> Option (As [.bool])) (bank : List Int) (l : List (Int × List Int)) (at' : Int) (t22 : List (Int × List Int)) (t23 : Int) (t24 : Int) : q2e_ self (bank, l, at', t22, t23, t24) = q1j_ (q1k_ (fun bank l at' t22 t23 t24 => self (bank, l, at', t22, t23, t24))) (q1g_) (fun bank l at' t22 t23 t24 => self (bank, l, at', t22, t23, t24)) bank l at' t22 t23 t24 := rfl
theorem q52_  (bank : List Int) (l : List (Int × List Int)) (at' : Int) (t22 : List (Int × List Int)) (t23 : Int) (t24 : Int) : q1z_ bank l at' t22 t23 t24 = loopF (q2e_) 18446744073709551616 (bank, l, at', t22, t23, t24) := rfl
def q3l_  := (fun (self : (List Int) × (Int) × (Int) × (List Int) × (List Int) -> Option (As [.bool])) (s : (List Int) × (Int) × (Int) × (List Int) × (List Int)) => q1i_ (qu_) (fun bank t97 t98 was all => self (bank, t97, t98, was, all)) s.1 s.2.1 s.2.2.1 s.2.2.2.1 s.2.2.2.2)
theorem q46_  (self : (List Int) × (Int) × (Int) × (List Int) × (List Int) -> Option (As [.bool])) (bank : List Int) (t97 : Int) (t98 : Int) (was : List Int) (all : List Int) : q3l_ self (bank, t97, t98, was, all) = q1i_ (qu_) (fun bank t97 t98 was all => self (bank, t97, t98, was, all)) bank t97 t98 was all := rfl
theorem q4z_  (bank : List Int) (t97 : Int) (t98 : Int) (was : List Int) (all : List Int) : q21_ bank t97 t98 was all = loopF (q3l_) 18446744073709551616 (bank, t97, t98, was, all) := rfl
def q3d_  := (fun (self : (List (Int × List Int)) × (Int) × (Int) × (List Int) × (List Int) -> Option (As [.sl (.int .u16), .sl (.int .u16)])) (s : (List (Int × List Int)) × (Int) × (Int) × (List Int) × (List Int)) => q25_ (q26_ (fun t12 t13 t14 o bank => self (t12, t13, t14, o, bank))) (fun t12 t13 t14 o bank => self (t12, t13, t14, o, bank)) s.1 s.2.1 s.2.2.1 s.2.2.2.1 s.2.2.2.2)
theorem q4l_  (self : (List (Int × List Int)) × (Int) × (Int) × (List Int) × (List Int) -> Option (As [.sl (.int .u16), .sl (.int .u16)])) (t12 : List (Int × List Int)) (t13 : Int) (t14 : Int) (o : List Int) (bank : List Int) : q3d_ self (t12, t13, t14, o, bank) = q25_ (q26_ (fun t12 t13 t14 o bank => self (t12, t13, t14, o, bank))) (fun t12 t13 t14 o bank => self (t12, t13, t14, o, bank)) t12 t13 t14 o bank := rfl
theorem q5z_  (t12 : List (Int × List Int)) (t13 : Int) (t14 : Int) (o : List Int) (bank : List Int) : q3c_ t12 t13 t14 o bank = loopF (q3d_) 18446744073709551616 (t12, t13, t14, o, bank) := rfl
def q3e_ (u1 : List (Int × List Int) -> Int -> Int -> List Int -> List Int -> Option (As [.sl (.int .u16), .sl (.int .u16)])) := (fun (self : (List (Int × List Int)) × (Int) × (Int) × (List Int) × (Int) × (Int) × (List Int) × (List Int) × (Int × List Int) -> Option (As [.sl (.int .u16), .sl (.int .u16)])) (s : (List (Int × List Int)) × (Int) × (Int) × (List Int) × (Int) × (Int) × (List Int) × (List Int) × (Int × List Int)) => q2a_ (q29_ u1 (fun t12 t13 t14 t19 t20 t21 o bank x => self (t12, t13, t14, t19, t20, t21, o, bank, x))) u1 (fun t12 t13 t14 t19 t20 t21 o bank x => self (t12, t13, t14, t19, t20, t21, o, bank, x)) s.1 s.2.1 s.2.2.1 s.2.2.2.1 s.2.2.2.2.1 s.2.2.2.2.2.1 s.2.2.2.2.2.2.1 s.2.2.2.2.2.2.2.1 s.2.2.2.2.2.2.2.2)
theorem q4k_ (u1 : List (Int × List Int) -> Int -> Int -> List Int -> List Int -> Option (As [.sl (.int .u16), .sl (.int .u16)])) (self : (List (Int × List Int)) × (Int) × (Int) × (List Int) × (Int) × (Int) × (List Int) × (List Int) × (Int × List Int) -> Option (As [.sl (.int .u16), .sl (.int .u16)])) (t12 : List (Int × List Int)) (t13 t14 : Int) (t19 : List Int) (t20 t21 : Int) (o bank : List Int) (x : Int × List Int) : q3e_ u1 self (t12, t13, t14, t19, t20, t21, o, bank, x) = q2a_ (q29_ u1 (fun t12 t13 t14 t19 t20 t21 o bank x => self (t12, t13, t14, t19, t20, t21, o, bank, x))) u1 (fun t12 t13 t14 t19 t20 t21 o bank x => self (t12, t13, t14, t19, t20, t21, o, bank, x)) t12 t13 t14 t19 t20 t21 o bank x := rfl
theorem q5r_ (u1 : List (Int × List Int) -> Int -> Int -> List Int -> List Int -> Option (As [.sl (.int .u16), .sl (.int .u16)])) (t12 : List (Int × List Int)) (t13 t14 : Int) (t19 : List Int) (t20 t21 : Int) (o bank : List Int) (x : Int × List Int) : q26_ u1 t12 t13 t14 t19 t20 t21 o bank x = loopF (q3e_ u1) 18446744073709551616 (t12, t13, t14, t19, t20, t21, o, bank, x) := rfl
def q2w_  := (fun (self : (Int) × (Int) × (List Int) × (List Int) -> Option (As [.bool, .sl (.int .u16), .sl (.int .u16)])) (s : (Int) × (Int) × (List Int) × (List Int)) => q1t_ (fun t12 t13 a b => self (t12, t13, a, b)) s.1 s.2.1 s.2.2.1 s.2.2.2)
theorem q4c_  (self : (Int) × (Int) × (List Int) × (List Int) -> Option (As [.bool, .sl (.int .u16), .sl (.int .u16)])) (t12 : Int) (t13 : Int) (a : List Int) (b : List Int) : q2w_ self (t12, t13, a, b) = q1t_ (fun t12 t13 a b => self (t12, t13, a, b)) t12 t13 a b := rfl
theorem q5a_  (t12 : Int) (t13 : Int) (a : List Int) (b : List Int) : q2c_ t12 t13 a b = loopF (q2w_) 18446744073709551616 (t12, t13, a, b) := rfl
def q2s_  := (fun (self : (List Int) × (Int) × (Int) × (List Int) -> Option (As [.bool, .sl (.int .u16)])) (s : (List Int) × (Int) × (Int) × (List Int)) => q1r_ (fun b t12 t13 a => self (b, t12, t13, a)) s.1 s.2.1 s.2.2.1 s.2.2.2)
theorem q4f_  (self : (List Int) × (Int) × (Int) × (List Int) -> Option (As [.bool, .sl (.int .u16)])) (b : List Int) (t12 : Int) (t13 : Int) (a : List Int) : q2s_ self (b, t12, t13, a) = q1r_ (fun b t12 t13 a => self (b, t12, t13, a)) b t12 t13 a := rfl
theorem q5n_  (b : List Int) (t12 : Int) (t13 : Int) (a : List Int) : q2d_ b t12 t13 a = loopF (q2s_) 18446744073709551616 (b, t12, t13, a) := rfl
def q2p_  := (fun (self : (List Int) × (Int) × (Int) × (List Int) -> Option (As [.bool, .sl (.int .u16)])) (s : (List Int) × (Int) × (Int) × (List Int)) => q1q_ (fun a t12 t13 b => self (a, t12, t13, b)) s.1 s.2.1 s.2.2.1 s.2.2.2)
theorem q4e_  (self : (List Int) × (Int) × (Int) × (List Int) -> Option (As [.bool, .sl (.int .u16)])) (a : List Int) (t12 : Int) (t13 : Int) (b : List Int) : q2p_ self (a, t12, t13, b) = q1q_ (fun a t12 t13 b => self (a, t12, t13, b)) a t12 t13 b := rfl
theorem q5l_  (a : List Int) (t12 : Int) (t13 : Int) (b : List Int) : q2b_ a t12 t13 b = loopF (q2p_) 18446744073709551616 (a, t12, t13, b) := rfl
theorem over_n (bank : List Int) (l : List Bk) (hb : bank.length ≤ 1000000) (h : FitB l) : q24_ (bank, l, ()) = some (over bank l, ()) := (show q24_ (bank, l, ()) = q45_ (bank, l, ()) from rfl).trans (over_eq bank l hb h)
theorem clone_r (s : List Int) (h : s.length ≤ 1000000) : q1u_ (s, ()) = some (s, s, ()) := by
  show (qb_ (s, ())).map _ = _
  rw [clone_n s h]
  rfl
theorem overr_in (u1 : List Bk -> Int -> Int -> List Int -> List Int -> Option (As [.sl (.int .u16), .sl (.int .u16)])) (o : List Int) (l : List Bk) (j : Int) (x : Bk) (h1 : x.2.length ≤ 1000000) (h2 : -1000000 ≤ x.1 ∧ x.1 ≤ 1000000) :
    ∀ (k i n : Nat) (bank : List Int), i + k = x.2.length -> k < n -> bank.length ≤ 1000000 -> loopF (q3e_ u1) n (l, Int.ofNat l.length, j, x.2, Int.ofNat x.2.length, (i : Int), o, bank, x) = u1 l (Int.ofNat l.length) (add .i64 j 1) o (overW bank (x.1 + (i : Int)) (x.2.drop i))
  | k, _, 0, _, _, h, _ => by omega
  | 0, i, n + 1, bank, h, _, hb => by
    rw [q9_, q4k_]
    unfold q2a_
    rw [if_neg (by rw [lt_iff, q1_]; omega), List.drop_eq_nil_of_le (by omega)]
    rfl
  | k + 1, i, n + 1, bank, h, hn, hb => by
    have hw : i < x.2.length := by omega
    rw [q9_, q4k_]
    unfold q2a_
    have ea : add .i64 x.1 (i : Int) = x.1 + (i : Int) := add64 (by omega) (by omega)
    rw [if_pos (by rw [lt_iff, q1_]; omega), at_get (List.getElem?_eq_getElem hw), Option.bind_some, ea, List.drop_eq_getElem_cons hw, overW, Int.add_assoc]
    have e1 : add .i64 (i : Int) 1 = ((i + 1 : Nat) : Int) := succ64 (by omega)
    have e2 : ((i : Int) + 1) = ((i + 1 : Nat) : Int) := by omega
    have ih := fun bank' hb' => overr_in u1 o l j x h1 h2 k (i + 1) n bank' (by omega) (by omega) hb'
    have step : ∀ c : Bool, c = decide (0 ≤ x.1 + (i : Int) ∧ x.1 + (i : Int) < (bank.length : Int)) -> q29_ u1 (fun t12 t13 t14 t19 t20 t21 o bank x => loopF (q3e_ u1) n (t12, t13, t14, t19, t20, t21, o, bank, x)) x.2[i] (x.1 + (i : Int)) l (Int.ofNat l.length) j x.2 (Int.ofNat x.2.length) (i : Int) c o bank x =
        u1 l (Int.ofNat l.length) (add .i64 j 1) o (overW (setW bank (x.1 + (i : Int)) x.2[i]) (x.1 + ((i : Int) + 1)) (x.2.drop (i + 1))) := by
      intro c hc
      show q3y_ u1 _ x.2[i] (x.1 + (i : Int)) l (Int.ofNat l.length) j x.2 (Int.ofNat x.2.length) (i : Int) c o bank x = _
      unfold q3y_
      rw [e1]
      by_cases hin : 0 ≤ x.1 + (i : Int) ∧ x.1 + (i : Int) < (bank.length : Int)
      · obtain ⟨v, hv⟩ := at_some_in hin
        rw [hc, if_pos (by simpa using hin), hv, Option.bind_some, Option.bind_some]
        have hs : setW bank (x.1 + (i : Int)) x.2[i] = bank.set (x.1 + (i : Int)).toNat x.2[i] := by unfold setW; rw [if_pos hin]
        rw [hs, e2]
        exact ih _ (by simpa using hb)
      · rw [hc, if_neg (by simpa using hin)]
        have hs : setW bank (x.1 + (i : Int)) x.2[i] = bank := by unfold setW; rw [if_neg hin]
        rw [hs, e2]
        exact ih _ hb
    by_cases h0 : 0 ≤ x.1 + (i : Int)
    · rw [if_pos (ge_iff.2 h0)]
      exact step _ (by simp [lt, h0])
    · rw [if_neg (by rw [ge_iff]; exact h0)]
      exact step _ (by simp [h0])
theorem overr_out (o : List Int) (l : List Bk) (h : FitB l) : ∀ (k j n : Nat) (bank : List Int), j + k = l.length -> k < n -> bank.length ≤ 1000000 -> loopF q3d_ n (l, Int.ofNat l.length, (j : Int), o, bank) = some (o, over bank (l.drop j), ())
  | k, _, 0, _, _, h, _ => by omega
  | 0, j, n + 1, bank, hj, _, hb => by
    rw [q9_, q4l_]
    unfold q25_
    rw [if_neg (by rw [lt_iff, q1_]; omega), List.drop_eq_nil_of_le (by omega)]
    rfl
  | k + 1, j, n + 1, bank, hj, hn, hb => by
    have hw : j < l.length := by omega
    have h6 := h.1
    have h7 := h.2 _ (List.getElem_mem hw)
    rw [q9_, q4l_]
    unfold q25_
    rw [if_pos (by rw [lt_iff, q1_]; omega), at_get (List.getElem?_eq_getElem hw), Option.bind_some, q5r_]
    have := overr_in (fun t12 t13 t14 o bank => loopF q3d_ n (t12, t13, t14, o, bank)) o l (j : Int) l[j] h7.1 h7.2 l[j].2.length 0 18446744073709551616 bank (by omega) (by omega) hb
    refine Eq.trans this ?_
    rw [show add .i64 (j : Int) 1 = ((j + 1 : Nat) : Int) from succ64 (by omega)]
    refine (overr_out o l h k (j + 1) n _ (by omega) (by omega) (by rw [overW_len]; exact hb)).trans ?_
    rw [List.drop_eq_getElem_cons hw, over]
    simp
theorem over_r (bank : List Int) (l : List Bk) (hb : bank.length ≤ 1000000) (h : FitB l) : q3k_ (l, bank, ()) = some (bank, over bank l, ()) := by
  show q3u_ q3c_ l bank = _
  unfold q3u_
  rw [clone_r bank hb, Option.bind_some, q5z_]
  have := overr_out bank l h l.length 0 18446744073709551616 bank (by omega) (by have := h.1; omega) hb
  simpa using this
theorem regsrr_go (a b : List Int) (hl : a.length = b.length) (hs : a.length ≤ 1000000) : ∀ (k i n : Nat), i + k = a.length -> k < n -> loopF q2w_ n (Int.ofNat a.length, (i : Int), a, b) = some (decide (a.drop i = b.drop i), a, b, ())
  | k, _, 0, _, h => by omega
  | 0, i, n + 1, h, _ => by
    rw [q9_, q4c_]
    unfold q1t_
    rw [if_neg (by rw [lt_iff, q1_]; omega), List.drop_eq_nil_of_le (by omega), List.drop_eq_nil_of_le (by omega)]
    simp
  | k + 1, i, n + 1, h, hn => by
    have hw : i < a.length := by omega
    have hv : i < b.length := by omega
    rw [q9_, q4c_]
    unfold q1t_
    rw [if_pos (by rw [lt_iff, q1_]; omega), at_get (List.getElem?_eq_getElem hw), at_get (List.getElem?_eq_getElem hv), Option.bind_some, Option.bind_some, Option.bind_some, Option.bind_some, List.drop_eq_getElem_cons hw, List.drop_eq_getElem_cons hv]
    rw [show add .i64 (i : Int) 1 = ((i + 1 : Nat) : Int) from succ64 (by omega)]
    have ih := regsrr_go a b hl hs k (i + 1) n (by omega) (by omega)
    show (if nei a[i] b[i] = true then _ else loopF q2w_ n (Int.ofNat a.length, ((i + 1 : Nat) : Int), a, b)) = _
    rw [ih]
    generalize a[i] = x, b[i] = y, a.drop (i + 1) = p, b.drop (i + 1) = q
    by_cases hc : x = y
    · rw [if_neg (by rw [qj_]; simp [hc])]
      simp [hc]
    · rw [if_pos (qj_.2 hc)]
      simp [hc]
theorem regs_rr (a b : List Int) (h1 : a.length ≤ 1000000) (h2 : b.length ≤ 1000000) : q2i_ (a, b, ()) = some (decide (a = b), a, b, ()) := by
  show q3g_ q2c_ a b = _
  unfold q3g_
  by_cases hl : a.length = b.length
  · rw [if_neg (by rw [qj_, q1_, q1_]; omega), q5a_]
    have := regsrr_go a b hl h1 a.length 0 18446744073709551616 (by omega) (by omega)
    simpa using this
  · rw [if_pos (by rw [qj_, q1_, q1_]; omega)]
    have : a ≠ b := fun e => hl (by rw [e])
    simp [this]
theorem regsrd_go (a b : List Int) (hl : a.length = b.length) (hs : a.length ≤ 1000000) : ∀ (k i n : Nat), i + k = a.length -> k < n -> loopF q2s_ n (b, Int.ofNat a.length, (i : Int), a) = some (decide (a.drop i = b.drop i), a, ())
  | k, _, 0, _, h => by omega
  | 0, i, n + 1, h, _ => by
    rw [q9_, q4f_]
    unfold q1r_
    rw [if_neg (by rw [lt_iff, q1_]; omega), List.drop_eq_nil_of_le (by omega), List.drop_eq_nil_of_le (by omega)]
    simp
  | k + 1, i, n + 1, h, hn => by
    have hw : i < a.length := by omega
    have hv : i < b.length := by omega
    rw [q9_, q4f_]
    unfold q1r_
    rw [if_pos (by rw [lt_iff, q1_]; omega), at_get (List.getElem?_eq_getElem hw), at_get (List.getElem?_eq_getElem hv), Option.bind_some, Option.bind_some, Option.bind_some, List.drop_eq_getElem_cons hw, List.drop_eq_getElem_cons hv]
    rw [show add .i64 (i : Int) 1 = ((i + 1 : Nat) : Int) from succ64 (by omega)]
    have ih := regsrd_go a b hl hs k (i + 1) n (by omega) (by omega)
    show (if nei a[i] b[i] = true then _ else loopF q2s_ n (b, Int.ofNat a.length, ((i + 1 : Nat) : Int), a)) = _
    rw [ih]
    generalize a[i] = x, b[i] = y, a.drop (i + 1) = p, b.drop (i + 1) = q
    by_cases hc : x = y
    · rw [if_neg (by rw [qj_]; simp [hc])]
      simp [hc]
    · rw [if_pos (qj_.2 hc)]
      simp [hc]
theorem regs_rd (a b : List Int) (h1 : a.length ≤ 1000000) (h2 : b.length ≤ 1000000) : q2k_ (b, a, ()) = some (decide (a = b), a, ()) := by
  show q3f_ q2d_ b a = _
  unfold q3f_
  by_cases hl : a.length = b.length
  · rw [if_neg (by rw [qj_, q1_, q1_]; omega), q5n_]
    have := regsrd_go a b hl h1 a.length 0 18446744073709551616 (by omega) (by omega)
    simpa using this
  · rw [if_pos (by rw [qj_, q1_, q1_]; omega)]
    have : a ≠ b := fun e => hl (by rw [e])
    simp [this]
theorem regsdr_go (a b : List Int) (hl : a.length = b.length) (hs : a.length ≤ 1000000) : ∀ (k i n : Nat), i + k = a.length -> k < n -> loopF q2p_ n (a, Int.ofNat a.length, (i : Int), b) = some (decide (a.drop i = b.drop i), b, ())
  | k, _, 0, _, h => by omega
  | 0, i, n + 1, h, _ => by
    rw [q9_, q4e_]
    unfold q1q_
    rw [if_neg (by rw [lt_iff, q1_]; omega), List.drop_eq_nil_of_le (by omega), List.drop_eq_nil_of_le (by omega)]
    simp
  | k + 1, i, n + 1, h, hn => by
    have hw : i < a.length := by omega
    have hv : i < b.length := by omega
    rw [q9_, q4e_]
    unfold q1q_
    rw [if_pos (by rw [lt_iff, q1_]; omega), at_get (List.getElem?_eq_getElem hw), at_get (List.getElem?_eq_getElem hv), Option.bind_some, Option.bind_some, Option.bind_some, List.drop_eq_getElem_cons hw, List.drop_eq_getElem_cons hv]
    rw [show add .i64 (i : Int) 1 = ((i + 1 : Nat) : Int) from succ64 (by omega)]
    have ih := regsdr_go a b hl hs k (i + 1) n (by omega) (by omega)
    show (if nei a[i] b[i] = true then _ else loopF q2p_ n (a, Int.ofNat a.length, ((i + 1 : Nat) : Int), b)) = _
    rw [ih]
    generalize a[i] = x, b[i] = y, a.drop (i + 1) = p, b.drop (i + 1) = q
    by_cases hc : x = y
    · rw [if_neg (by rw [qj_]; simp [hc])]
      simp [hc]
    · rw [if_pos (qj_.2 hc)]
      simp [hc]
theorem regs_dr (a b : List Int) (h1 : a.length ≤ 1000000) (h2 : b.length ≤ 1000000) : q2g_ (a, b, ()) = some (decide (a = b), b, ()) := by
  show q3h_ q2b_ a b = _
  unfold q3h_
  by_cases hl : a.length = b.length
  · rw [if_neg (by rw [qj_, q1_, q1_]; omega), q5l_]
    have := regsdr_go a b hl h1 a.length 0 18446744073709551616 (by omega) (by omega)
    simpa using this
  · rw [if_pos (by rw [qj_, q1_, q1_]; omega)]
    have : a ≠ b := fun e => hl (by rw [e])
    simp [this]
def gW (i : Int) : Int -> List Int -> Int -> Int
  | _, [], x => x
  | a, w :: r, x => gW i (a + 1) r (if a = i then w else x)
def gL (i : Int) : List Bk -> Int -> Int
  | [], x => x
  | b :: r, x => gL i r (gW i b.1 b.2 x)
theorem gW_ci (i : Int) : ∀ (ws : List Int) (a : Int), (∀ x, gW i a ws x = x) ∨ ∃ c, ∀ x, gW i a ws x = c
  | [], _ => .inl fun _ => rfl
  | w :: r, a => by
    rcases gW_ci i r (a + 1) with h | ⟨c, h⟩
    · by_cases e : a = i
      · exact .inr ⟨w, fun x => by rw [gW, if_pos e, h]⟩
      · exact .inl fun x => by rw [gW, if_neg e, h]
    · exact .inr ⟨c, fun x => by rw [gW, h]⟩
theorem gL_ci (i : Int) : ∀ l : List Bk, (∀ x, gL i l x = x) ∨ ∃ c, ∀ x, gL i l x = c
  | [] => .inl fun _ => rfl
  | b :: r => by
    rcases gL_ci i r with h | ⟨c, h⟩
    · rcases gW_ci i b.2 b.1 with h2 | ⟨c, h2⟩
      · exact .inl fun x => by rw [gL, h, h2]
      · exact .inr ⟨c, fun x => by rw [gL, h, h2]⟩
    · exact .inr ⟨c, fun x => by rw [gL, h]⟩
theorem setW_get (bank : List Int) (a w : Int) (i : Nat) : (setW bank a w)[i]? = (bank[i]?).map fun x => if a = (i : Int) then w else x := by
  unfold setW
  by_cases h : 0 ≤ a ∧ a < (bank.length : Int)
  · rw [if_pos h]
    obtain ⟨n, rfl⟩ := Int.eq_ofNat_of_zero_le h.1
    rw [Int.toNat_natCast, List.getElem?_set]
    by_cases hi : n = i
    · subst hi
      rw [if_pos rfl, if_pos (by omega), List.getElem?_eq_getElem (show n < bank.length by omega)]
      simp
    · rw [if_neg hi]
      cases bank[i]? with
      | none => rfl
      | some x => simp only [Option.map_some]; rw [if_neg (by omega)]
  · rw [if_neg h]
    cases hb : bank[i]? with
    | none => rfl
    | some x =>
      have := (List.getElem?_eq_some_iff.1 hb).1
      simp only [Option.map_some]
      rw [if_neg (by omega)]
theorem overW_get : ∀ (ws bank : List Int) (a : Int) (i : Nat), (overW bank a ws)[i]? = (bank[i]?).map (gW i a ws)
  | [], bank, _, i => by cases h : bank[i]? <;> simp [overW, gW, h]
  | w :: r, bank, a, i => by
    rw [overW, overW_get r, setW_get]
    cases bank[i]? <;> rfl
theorem over_get : ∀ (l : List Bk) (bank : List Int) (i : Nat), (over bank l)[i]? = (bank[i]?).map (gL i l)
  | [], bank, i => by cases h : bank[i]? <;> simp [over, gL, h]
  | b :: r, bank, i => by
    rw [over, over_get r, overW_get]
    cases bank[i]? <;> rfl
theorem over_idem (l : List Bk) (bank : List Int) : over (over bank l) l = over bank l := by
  refine List.ext_getElem? fun i => ?_
  rw [over_get, over_get]
  cases bank[i]? with
  | none => rfl
  | some x =>
    simp only [Option.map_some]
    rcases gL_ci i l with h | ⟨c, h⟩
    · rw [h]
    · rw [h, h]
end Go.Proofs.Lx
end
