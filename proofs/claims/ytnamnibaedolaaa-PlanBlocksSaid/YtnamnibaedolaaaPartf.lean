/- Proved in the last of these 7 parts (this is part 6): PlanBlocks: whatever the registers and whichever of them are there, the law returns true.. Conditions: those of the given statement, and no others. -/
import Derived.Test.YtnamnibaedolaaaParte
import Derived.Test.YtnamnibaedolaaaProg
set_option linter.unusedVariables false
set_option linter.unusedSimpArgs false
set_option linter.unusedSectionVars false
section
set_option maxRecDepth 100000
namespace Go.Proofs.Lx
open Go Go.Proofs Go.RowKit Ev Sx
theorem cw_wide {P : Program} {c : Code} {Q : Exit -> Act -> World -> Prop} {l : List Value} {w : World} (h : CW P c Q l w) (n : Nat) : c.wpIn Fence.wide n P Q (mk l) w := wpIn_wide.2 (wpIn_wide.1 (h none))
theorem dm_keys {L : Lx} {w : World} : ∀ {vs : List (Int × Value)} {m : List (Int × Int)}, DmD (kt := kT) (vt := uT) L w vs m -> vs.map (·.1) = m.map (·.1)
  | [], _, h => by cases h; rfl
  | _ :: _, _, ⟨b, q, h1, h2, _, h3⟩ => by subst h1; simp only [List.map_cons]; rw [h2, dm_keys h3]
def between (i j : Nat) : Lx := (List.range' i (j - i)).map some
theorem between_mem {i j k : Nat} : some k ∈ between i j ↔ i ≤ k ∧ k < j := by
  unfold between
  simp [List.mem_range']
  constructor
  · rintro ⟨a, h1, h2⟩; omega
  · rintro ⟨h1, h2⟩; exact ⟨k - i, by omega, by omega⟩
theorem q3t_ {I : World -> Prop} : CtOk Try.prog I 8 ⟨q1d_, qq_⟩ := by
  intro F w0 pl0 x y ss own vs hx hA hpl hI0 hL hE hD
  obtain ⟨m, u0⟩ := x
  have hx : (if m.all keyOk = true then some ((bkRes m).1, (bkRes m).2, m, ()) else none) = some y := hx
  split at hx
  case isFalse => cases hx
  rename_i hkeys
  cases hx
  have hA : some ([SV.mp 0], [(0, Ent.dm kT uT m)]) = some (ss, own) := hA
  cases hA
  have hpl : pl0.length = 1 := hpl
  obtain ⟨u, q, rfl, ⟨g, n, c, hp0, rfl⟩, rfl⟩ := hD
  obtain ⟨B0, hB0⟩ : ∃ B0, B0 = Bo pl0 [(0, Ent.dm kT uT m)] w0 := ⟨_, rfl⟩
  have hst0 : Sto B0 pl0 F pl0 [(0, .dm kT uT m)] w0 := by
    subst hB0
    exact ⟨hL.pair, hL.lo, hL.hi, fun k hk => ⟨fun hx => (hL.far k hk).1 (hL.lo k hx), (hL.far k hk).2⟩, fun _ _ h => h, hE⟩
  have hbase : ∀ k, w0.heap.size ≤ k -> B0 k := fun k hk => by subst hB0; exact .inr hk
  have hbo : ∀ {p1 : List Ev.Place} {F1 : Lx} {pl : List Ev.Place} {own : List (Nat × Ent)} {w : World}, w0.heap.size ≤ w.heap.size -> Sto B0 p1 F1 pl own w -> ∀ k, Bo pl own w k -> B0 k := fun hs hst k hk => by
    rcases hk with hk | hk
    · exact hst.lo k hk
    · exact hbase k (Nat.le_trans hs hk)
  refine (callsIn_wide (n := 2)).1 ?_
  refine callsIn_of_wp_marks Try.func8 bk_eq trivial ?_ rfl
  obtain ⟨l0, hl0⟩ : ∃ l0 : List Value, l0 = .map (some g) :: List.replicate 73 undef := ⟨_, rfl⟩
  have hact : (⟨[Value.map (some g)].toArray ++ Array.replicate (Try.f8.ntmps - [Value.map (some g)].toArray.size) undef, []⟩ : Act) = mk l0 := by
    subst hl0
    show (⟨[Value.map (some g)].toArray ++ Array.replicate 73 undef, []⟩ : Act) = mk (.map (some g) :: List.replicate 73 undef)
    simp [mk]
  rw [hact]
  generalize hR : (fun (e : Ending) (w' : World) => ∃ us, e = .returned (retV us) ∧ After q1d_ ((bkRes m).1, (bkRes m).2, m, ()) F w0 pl0 [(0, Ent.dm kT uT m)] w' us) = R
  have hRe : ∀ {W : World} {us : List Value}, After q1d_ ((bkRes m).1, (bkRes m).2, m, ()) F w0 pl0 [(0, Ent.dm kT uT m)] W us -> R (.returned (retV us)) W := fun h => by subst hR; exact ⟨_, rfl, h⟩
  have hfr0 : FrD pl0 (lx pl0 [(0, Ent.dm kT uT m)] ++ F) w0 [(0, .mp 0)] l0 := frD_cons (by subst hl0; exact ⟨g, n, c, hp0, rfl⟩) frD_nil
  have r1 := run_piece (S := bkS0 m) (l := l0) bkEnv_ok (hbo (Nat.le_refl _) hst0) hst0 rfl (show 1 = pl0.length from hpl.symm) (show 1 = pl0.length from hpl.symm) (by subst hl0; rfl) hfr0 (p1_eq m)
  refine wpIn_seq (Code.wpIn_mono ?_ (cw_wide r1 2))
  rintro e a w1 ⟨pl1, l1, rfl, rfl, hl1, hn1, st1, fr1, bl1⟩
  have bw1 : Blw B0 w0 w1 := blw_mono bl1 (hbo (Nat.le_refl _) hst0)
  refine wpIn_seq ?_
  by_cases hlen : m.length > 64
  · -- too many
    have r2 := run_piece (S := bkS1 m) (l := l1) bkEnv_ok (hbo bw1.size st1) st1 rfl hn1.symm (show 1 = pl0.length from hpl.symm) hl1 fr1 ((p2_eq m).trans (if_pos (by simp [gt]; omega)))
    refine Code.wpIn_mono ?_ (cw_wide r2 2)
    rintro e a w2 ⟨pl2, l2, rfl, rfl, hl2, hn2, st2, fr2, bl2⟩
    have bw2 : Blw B0 w0 w2 := bw1.trans (blw_mono bl2 (hbo bw1.size st1))
    obtain ⟨S1, z1, z2, z3⟩ := n1_fin m
    obtain ⟨pl', us, z4, z5, z6⟩ := fin_res (S := bkS1 m) (hbo bw2.size st2) st2 rfl hn2.symm (show 1 = pl0.length from hpl.symm) hl2 fr2 z1 z3
    refine z6 R (hRe ?_)
    have : bkRes m = ([], false) := by unfold bkRes; rw [if_pos hlen]
    rw [this]
    subst hB0
    exact fin_after hpl hL (fun p hp => by
      have := z4.pre 0 ⟨some ⟨g, 0, none⟩, n, c⟩ hp0
      rw [this] at hp
      rw [hp0]
      exact hp) (fun _ h => h) z4 z2 bw2 z5
  have r2 := run_piece (S := bkS1 m) (l := l1) bkEnv_ok (hbo bw1.size st1) st1 rfl hn1.symm (show 1 = pl0.length from hpl.symm) hl1 fr1 ((p2_eq m).trans (if_neg (by simp [gt]; omega)))
  refine Code.wpIn_mono ?_ (cw_wide r2 2)
  rintro e a w2 ⟨pl2, l2, rfl, rfl, hl2, hn2, st2, fr2, bl2⟩
  have bw2 : Blw B0 w0 w2 := bw1.trans (blw_mono bl2 (hbo bw1.size st1))
  have r3 := run_piece (S := bkS1 m) (l := l2) bkEnv_ok (hbo bw2.size st2) st2 rfl hn2.symm (show 1 = pl0.length from hpl.symm) hl2 fr2 (p3_eq m)
  refine wpIn_seq (Code.wpIn_mono ?_ (cw_wide r3 2))
  rintro e a w3 ⟨pl3, l3, rfl, rfl, hl3, hn3, st3, fr3, bl3⟩
  have bw3 : Blw B0 w0 w3 := bw2.trans (blw_mono bl3 (hbo bw2.size st2))
  have r4 := run_piece (S := bkS3 m) (l := l3) bkEnv_ok (hbo bw3.size st3) st3 rfl hn3.symm (show 1 = pl0.length from hpl.symm) hl3 fr3 (p4_eq m)
  refine wpIn_seq (wpIn_seq (Code.wpIn_mono ?_ (cw_wide r4 2)))
  rintro e a w4 ⟨pl4, l4, rfl, rfl, hl4, hn4, st4, fr4, bl4⟩
  have bw4 : Blw B0 w0 w4 := bw3.trans (blw_mono bl4 (hbo bw3.size st3))
  have hn4 : pl4.length = 8 := hn4
  have hl4 : l4.length = 74 := hl4
  obtain ⟨p0, hp0e⟩ : ∃ p0, p0 = pl4.take 6 := ⟨_, rfl⟩
  have hp0l : p0.length = 6 := by rw [hp0e, List.length_take]; omega
  have hp0p : ∀ (i : Nat) (p : Ev.Place), p0[i]? = some p -> pl4[i]? = some p := fun i p h => by
    rw [hp0e] at h
    have hi := (List.getElem?_eq_some_iff.1 h).1
    rw [List.length_take] at hi
    rw [List.getElem?_take_of_lt (by omega)] at h
    exact h
  have hp0b : ∀ (i : Nat) (p : Ev.Place), i < 6 -> pl4[i]? = some p -> p0[i]? = some p := fun i p hi h => by rw [hp0e, List.getElem?_take_of_lt hi]; exact h
  have dpb : ∀ {t i : Nat}, i < 6 -> Ev.get bkFr t = some (.pb i 0) -> Den p0 [] default (.pb i 0) (l4.getD t undef) := fun hi hg => by
    obtain ⟨a, b, c, h1, h2⟩ := fr4 _ _ hg
    exact ⟨a, b, c, hp0b _ _ hi h1, h2⟩
  have hs : Slots p0 l4 := ⟨hl4, hp0l, dpb (by decide) rfl, dpb (by decide) rfl, dpb (by decide) rfl, by
    obtain ⟨us, vs, h1, ⟨v, q, h2, ⟨a, b, c, h3, h4⟩, h5⟩, h6⟩ := fr4 11 _ rfl
    exact ⟨us, vs, h1, ⟨v, q, h2, ⟨a, b, c, hp0b _ _ (by decide) h3, h4⟩, h5⟩, h6⟩, dpb (by decide) rfl⟩
  obtain ⟨g0, n0, c0, vs, e1, e2, e3⟩ := st4.ent (0, .dm kT uT m) (by simp [bkSt, bkOwn])
  obtain ⟨Bm, nm, cm, us, b1, b2, ⟨v, r, rfl, ⟨g', n', c', b3, rfl⟩, rfl⟩, b4⟩ := st4.ent (4, .box 24 [.mp 0]) (by simp [bkSt, bkOwn])
  obtain rfl : g' = g0 := by rw [b3] at e1; cases e1; rfl
  have hvk := dm_keys e3
  have hvl : vs.length = m.length := by have := congrArg List.length hvk; simpa using this
  have hvr : ∀ e ∈ vs, inR e.1 := fun e he => by
    have h1 : e.1 ∈ m.map (·.1) := by rw [<- hvk]; exact List.mem_map_of_mem (f := fun x : Int × Value => x.1) he
    obtain ⟨e', h2, h3⟩ := List.mem_map.1 h1
    rw [<- h3]
    exact keyOk_iff.1 (List.all_eq_true.1 hkeys e' h2)
  have hf11 : (mk l4).eval (.tmp 11) = .func (.func 40) #[] #[.pointer (some ⟨Bm, 0, none⟩)] := by
    rw [eval_mk]
    obtain ⟨us, vs, h1, ⟨v, q, h2, ⟨a, b, c, h3, h4⟩, h5⟩, h6⟩ := fr4 11 _ rfl
    rw [b1] at h3
    cases h3
    cases h1
    cases h5
    subst h2 h4
    exact h6
  refine wpIn_block (wpIn_rangeFunc ?_)
  intro fn hfn
  obtain ⟨W1, hW1⟩ : ∃ W1, (w4.alloc (.deferred (some []))).alloc (.loop (bkRec fn l4 w4.heap.size .ready none)) = W1 := ⟨_, rfl⟩
  have hs1 : W1.heap.size = w4.heap.size + 2 := by rw [<- hW1]; simp
  have hfz1 : Fz [] w4 W1 := by rw [<- hW1]; exact (Fz.alloc _ _ _).trans (Fz.alloc _ _ _)
  have hD1 : W1.heap[w4.heap.size]? = some (.deferred (some [])) := by
    rw [<- hW1]; exact (Below.heap_alloc _ _ _ (by simp)).trans (World.alloc_heap_new w4 _)
  have hr1 : W1.heap[w4.heap.size + 1]? = some (.loop (bkRec fn l4 w4.heap.size .ready none)) := by
    rw [<- hW1]; have := World.alloc_heap_new (w4.alloc (.deferred (some []))) (.loop (bkRec fn l4 w4.heap.size .ready none)); rwa [World.size_alloc] at this
  have hmap1 : MapIs (keyV (.int .i64)) (fun v : Value => v) W1 g' vs := by
    have hlt := e2.lt
    obtain ⟨es, cl, a, b, c⟩ := e2
    exact ⟨es, cl, (hfz1.block _ hlt nilN).trans a, b, c⟩
  have hcell1 : W1.cell? ⟨Bm, 0, none⟩ = some (.map (some g')) := (b2.step hfz1 nilN).cell rfl
  have hkeys2 : sorted (vs.map (·.1)) = sorted (m.map (·.1)) := by rw [hvk]
  refine ⟨w4.heap.size + 1, [{ target := .collected w4.heap.size, args := #[] }], W1, { target := .fn (.func 40) #[.pointer (some ⟨Bm, 0, none⟩)], args := #[.func (.yield (w4.heap.size + 1)) #[] #[]] }, W1, 40,
    #[.func (.yield (w4.heap.size + 1)) #[] #[]] ++ #[.pointer (some ⟨Bm, 0, none⟩)], W1, ?_, ?_, fun _ _ => trivial, ?_, (fun h => by cases h), ?_⟩
  · rw [<- hW1]; exact run_enterLoop_outer _ _ _ _ _
  · simp only [resolve, hf11]
    simp [go_sem]
  · have := enters_of Try.func40 (by kernel_rfl) rfl
    simp [invoke, go_sem, this]
  · -- the rounds
    let FF : World -> Lx := fun Z => F ++ between w4.heap.size Z.heap.size
    have hFm : ∀ Z k, some k ∈ FF Z ↔ some k ∈ F ∨ (w4.heap.size ≤ k ∧ k < Z.heap.size) := fun Z k => by
      show some k ∈ F ++ between _ _ ↔ _
      rw [List.mem_append, between_mem]
    have key := keys_it 1 (w4.heap.size + 1) Bm g' (Nat.le_refl _) W1 hmap1 hvr (by omega) hcell1
      (fun Z pre W => ∃ pl b xs a ws, Sto B0 p0 (FF Z) pl (bkOwn m nilV false b xs a ws) W ∧ pl.length = 8 ∧ BkI b xs a ws ∧ W.heap[w4.heap.size]? = some (.deferred (some [])) ∧ Blw B0 w0 W ∧ W1.heap.size ≤ Z.heap.size ∧
        bkAll m pre (some []) = some (bkX b xs a ws) ∧ W.heap[w4.heap.size + 1]? = some (.loop (bkRec fn l4 w4.heap.size .ready none)) ∧ ∀ k, W1.heap.size ≤ k -> k < Z.heap.size -> W.heap[k]? = Z.heap[k]?)
      (fun Z pre W => ∃ pl b xs a ws, Sto B0 p0 (FF Z) pl (bkOwn m nilV false b xs a ws) W ∧ pl.length = 8 ∧ BkI b xs a ws ∧ W.heap[w4.heap.size]? = some (.deferred (some [])) ∧ Blw B0 w0 W ∧ W1.heap.size ≤ Z.heap.size ∧
        bkAll m pre (some []) = none ∧ W.heap[w4.heap.size + 1]? = some (.loop (bkRec fn l4 w4.heap.size .done (some .ret))))
      (fun Z hZ => by
        have hz : Fz [] w4 Z := hfz1.trans (Fz.of_below hZ [])
        refine ⟨pl4, false, [], 0, [], ?_, hn4, BkI.start, (hZ.block _ (by omega)).trans hD1, bw4.trans (blw_fz hz (fun k hk => by cases hk)), hZ.size, rfl, (hZ.block _ (by omega)).trans hr1, fun k _ _ => rfl⟩
        refine (st4.sub (List.Sublist.refl _) hp0p).grow hz fun k hk => ?_
        rcases (hFm Z k).1 hk with h | ⟨h1, h2⟩
        · exact ⟨.inl h, Nat.lt_of_lt_of_le (st4.far k h).2 hz.size⟩
        · exact ⟨.inr h1, h2⟩)
      (fun Z pre W hJ k h1 h2 => by
        obtain ⟨_, _, _, _, _, _, _, _, _, _, _, _, _, h⟩ := hJ
        exact h k h1 h2)
      (fun Z pre x W hJ => by
        obtain ⟨pl, b, xs, a, ws, j1, j2, j3, j4, j5, j6, j7, j8, j9⟩ := hJ
        have hlb : some (w4.heap.size + 1) ∈ FF Z := (hFm Z _).2 (.inr ⟨by omega, by omega⟩)
        obtain ⟨fn', tmps, asg, bd, y1, y2⟩ := round (x := x) j1 j2 hs j3 j8 hlb (hbase _ (by have := bw4.size; omega)) (fun k hk => hbase k (Nat.le_trans j5.size hk))
        refine ⟨fn', tmps, asg, bd, y1, y2.mono ?_⟩
        rintro e W' ⟨pl', b', xs', a', ws', k1, k2, k3, k4, k5, k6⟩
        have kD : W'.heap[w4.heap.size]? = some (.deferred (some [])) := (k5 _ ((hFm Z _).2 (.inr ⟨Nat.le_refl _, by omega⟩)) (by omega)).trans j4
        rcases k6 with ⟨rfl, k7, k8⟩ | ⟨rfl, k7, k8⟩
        · refine .inl ⟨rfl, pl', b', xs', a', ws', k1, k2, k3, kD, j5.trans k4, j6, ?_, k8, fun k h1 h2 => ?_⟩
          · rw [bkAll_snoc, j7]
            exact k7
          · exact (k5 k ((hFm Z k).2 (.inr ⟨by omega, h2⟩)) (by omega)).trans (j9 k h1 h2)
        · refine .inr ⟨rfl, pl', b', xs', a', ws', k1, k2, k3, kD, j5.trans k4, j6, ?_, k8⟩
          rw [bkAll_snoc, j7]
          exact k7)
    refine key.mono ?_
    rintro e W2 ⟨⟨v0, rfl⟩, Z, hJ⟩
    have leave : ∀ (pl : List Ev.Place) (cc : SV) (ok b : Bool) (xs : List Bk) (a : Int) (ws : List Int) (l' : List Value) (W : World) (L : List Bk), Sto B0 p0 (FF Z) pl (bkOwn m cc ok b xs a ws) W -> pl.length = 8 -> Slots p0 l' -> W.heap[w4.heap.size]? = some (.deferred (some [])) -> Blw B0 w0 W -> W1.heap.size ≤ Z.heap.size -> bkRes m = (L, ok) ->
        (∃ S1, nrm Try.prog ⟨[.frb 2], [2, 3]⟩ (bkSt bkFr 6 m cc ok b xs a ws) = some S1 ∧ (0, Ent.dm kT uT m) ∈ S1.own ∧ resK Try.prog S1 Try.f8.results.toList (fun ss => some ss) = some [.d (.sl bT) L, .d .bool ok]) ->
        bodyPostM Fence.wide 2 Try.prog Try.f8 R .ret ⟨l'.toArray, [{ target := .collected w4.heap.size, args := #[] }]⟩ W := by
      intro pl cc ok b xs a ws l' W L k1 k2 k3 k4 k5 k6 k7 ⟨S1, z1, z2, z3⟩
      have hf6 := fz_putObj W w4.heap.size (.deferred none)
      have hDF : some w4.heap.size ∈ FF Z := (hFm Z _).2 (.inr ⟨Nat.le_refl _, by omega⟩)
      have k1' := k1.turn (hf6.sub fun k hk => by simp at hk; subst hk; exact hDF)
      have k5' : Blw B0 w0 (W.putObj w4.heap.size (.deferred none)) := k5.trans (blw_fz hf6 (fun k hk => by simp at hk; subst hk; exact hbase _ bw4.size))
      obtain ⟨pl', us, z4, z5, z6⟩ := fin_res (S := bkSt bkFr 6 m cc ok b xs a ws) (l := l') (hbo k5'.size k1') k1' rfl k2.symm (show 6 = p0.length from hp0l.symm) k3.len (k3.fr k1'.pre (fun _ _ => rfl)) z1 z3
      refine ⟨by simp, .inl ⟨_, _, rfl, run_takeDeferred k4, ?_⟩⟩
      refine z6 R (hRe ?_)
      rw [k7]
      subst hB0
      exact fin_after hpl hL (fun p hp => by
        have := z4.pre 0 ⟨some ⟨g, 0, none⟩, n, c⟩ (hp0b _ _ (by decide) (st4.pre 0 _ hp0))
        rw [this] at hp
        rw [hp0]
        exact hp) (fun k hk => (hFm Z k).2 (.inl hk)) z4 z2 k5' z5
    rcases hJ with ⟨pl, b, xs, a, ws, j1, j2, j3, j4, j5, j6, j7, j8, j9⟩ | ⟨k, hk, pl, b, xs, a, ws, j1, j2, j3, j4, j5, j6, j7, j8⟩
    · have hend := run_endLoop (P := Try.prog) j8 (by simp [bkRec])
      have hf5 := fz_putObj W2 (w4.heap.size + 1) (.loop { bkRec fn l4 w4.heap.size .ready none with state := .exhausted })
      have hlb : some (w4.heap.size + 1) ∈ FF Z := (hFm Z _).2 (.inr ⟨by omega, by omega⟩)
      refine ⟨none, _, hend, ?_⟩
      have j1' := j1.turn (hf5.sub fun k hk => by simp at hk; subst hk; exact hlb)
      have j5' := j5.trans (blw_fz hf5 (fun k hk => by simp at hk; subst hk; exact hbase _ (by have := bw4.size; omega)))
      refine tail_wp (ds := [{ target := .collected w4.heap.size, args := #[] }]) j1' j2 hs (fun k hk => hbase k (Nat.le_trans j5'.size hk)) fun W' l' t1 t2 t3 t4 => ?_
      refine leave pl _ _ b xs a ws l' W' _ t1 j2 t2 ((t4 _ ((hFm Z _).2 (.inr ⟨Nat.le_refl _, by omega⟩))).trans ((World.putObj_heap_other (by omega)).trans j4)) (j5'.trans t3) j6 ?_ (n3_fin m b xs a ws)
      unfold bkRes
      rw [if_neg hlen, <- hkeys2, j7]
    · have hend := run_endLoop (P := Try.prog) j8 (by simp [bkRec])
      have hf5 := fz_putObj W2 (w4.heap.size + 1) (.loop { bkRec fn l4 w4.heap.size .done (some .ret) with state := .exhausted })
      have hlb : some (w4.heap.size + 1) ∈ FF Z := (hFm Z _).2 (.inr ⟨by omega, by omega⟩)
      refine ⟨some .ret, _, hend, ?_⟩
      have j1' := j1.turn (hf5.sub fun k hk => by simp at hk; subst hk; exact hlb)
      have j5' := j5.trans (blw_fz hf5 (fun k hk => by simp at hk; subst hk; exact hbase _ (by have := bw4.size; omega)))
      refine wpIn_ret ?_
      refine leave pl _ _ b xs a ws l4 _ _ j1' j2 hs ((World.putObj_heap_other (by omega)).trans j4) j5' j6 ?_ (n2_fin m b xs a ws)
      unfold bkRes
      rw [if_neg hlen, <- hkeys2, <- List.take_append_drop k (sorted (vs.map (·.1))), bkAll_app, j7, bkAll_none]
end Go.Proofs.Lx
end
section
open Go Go.Proofs Ev Sx
set_option maxRecDepth 100000
namespace Go.Proofs.Lx
abbrev QJT0 : Ty := (.pr (.int .i64) (.sl (.int .u16)))
abbrev QJT1 : Ty := (.pr (.int .i64) (.int .u16))
@[reducible] def q15_ : Sh := ⟨[.d (.sl (.int .u16)), .d (.sl .bool)], [], [.sl (.int .u16), .sl .bool], [.mp 0], [(0, .dm (.int .i64) (.int .u16))], 1, [.sl QJT1]⟩
def q1q_ : Env := (cts [])
def q1p_ : List (Nat × Hint) := [(58, ⟨[], [0, 1, 5, 9, 10, 18, 19, 20, 21]⟩), (3737, ⟨[.agd 18 (.sl .bool), .agd 19 (.int .i64), .agd 21 .bool], [0, 1, 5, 6, 9, 10, 22]⟩)]
def q1a_ (w : List Int) (is' : List Bool) (t9 t10 : Int) (out : List (Int × Int)) : St := { fr := [(0, .d (.sl (.int .u16)) w), (1, .d (.sl .bool) is'), (5, .mp 0), (9, .d (.int .i64) t9), (10, .d (.int .i64) t10)], nt := 31, up := [], own := [(0, .dm (.int .i64) (.int .u16) out)], nx := 1, log := [], ln := 0 }
def q38_ (w : List Int) (is' : List Bool) (i t9 t10 : Int) (t22 : Bool) (out : List (Int × Int)) : St := { fr := [(0, .d (.sl (.int .u16)) w), (1, .d (.sl .bool) is'), (5, .mp 0), (6, .d (.int .i64) i), (9, .d (.int .i64) t9), (10, .d (.int .i64) t10), (22, .d .bool t22)], nt := 31, up := [], own := [(0, .dm (.int .i64) (.int .u16) out)], nx := 1, log := [], ln := 0 }
def q2h_ (j2 : List Int -> List Bool -> Int -> Int -> Int -> Bool -> List (Int × Int) -> Option (As [.sl QJT1])) (self1 : List Int -> List Bool -> Int -> Int -> List (Int × Int) -> Option (As [.sl QJT1])) (w : List Int) (is' : List Bool) (t9 t10 : Int) (out : List (Int × Int)) : Option (As [.sl QJT1]) :=
  if lt t10 t9 = true then if lt t10 (Int.ofNat (List.length is')) = true then Option.bind (at? is' t10) fun (y : Bool) => j2 w is' t10 t9 t10 y out else j2 w is' t10 t9 t10 false out else some (out, ())
def q39_ (self1 : List Int -> List Bool -> Int -> Int -> List (Int × Int) -> Option (As [.sl QJT1])) (w : List Int) (is' : List Bool) (i t9 t10 : Int) (t22 : Bool) (out : List (Int × Int)) : Option (As [.sl QJT1]) :=
  if t22 = true then Option.bind (at? w i) fun (y : Int) => self1 w is' t9 (add .i64 t10 1) (Ev.dput (.int .i64) out i y) else self1 w is' t9 (add .i64 t10 1) out
def q4j_ (j1 : List Int -> List Bool -> Int -> Int -> List (Int × Int) -> Option (As [.sl QJT1])) (w : List Int) (is' : List Bool) : Option (As [.sl QJT1]) :=
  j1 w is' (Int.ofNat (List.length w)) 0 []
def q2u_ (u1 : List Int -> List Bool -> Int -> Int -> List (Int × Int) -> Option (As [.sl QJT1])) (w : List Int) (is' : List Bool) (i t9 t10 : Int) (t22 : Bool) (out : List (Int × Int)) : Option (As [.sl QJT1]) := q39_ u1 w is' i t9 t10 t22 out
def q2t_ (w : List Int) (is' : List Bool) (t9 t10 : Int) (out : List (Int × Int)) : Option (As [.sl QJT1]) :=
  loopF (fun (self : (List Int) × (List Bool) × (Int) × (Int) × (List (Int × Int)) -> Option (As [.sl QJT1])) (s : (List Int) × (List Bool) × (Int) × (Int) × (List (Int × Int))) => q2h_ (q2u_ (fun w is' t9 t10 out => self (w, is', t9, t10, out))) (fun w is' t9 t10 out => self (w, is', t9, t10, out)) s.1 s.2.1 s.2.2.1 s.2.2.2.1 s.2.2.2.2) 18446744073709551616 (w, is', t9, t10, out)
def q3h_ (x : As [.sl (.int .u16), .sl .bool]) : Option (As [.sl QJT1]) := q4j_ q2t_ x.1 x.2.1
theorem q57_  (J w1 w is' i t9 t10 t22 out) : pfn Try.prog q1q_ 6 18446744073709551616 (Ev.get q1p_) 7 q15_ J 3737 [w1] (q38_ w is' i t9 t10 t22 out) = q39_ (fun w is' t9 t10 out => w1 (q1a_ w is' t9 t10 out)) w is' i t9 t10 t22 out := by kernel_rfl
theorem q5d_  (J w1 w is' t9 t10 out) : pfn Try.prog q1q_ 6 18446744073709551616 (Ev.get q1p_) 7 q15_ J 58 [w1] (q1a_ w is' t9 t10 out) = q2h_ (fun w is' i t9 t10 t22 out => J 3737 [w1] (q38_ w is' i t9 t10 t22 out)) (fun w is' t9 t10 out => w1 (q1a_ w is' t9 t10 out)) w is' t9 t10 out := by kernel_rfl
theorem q5j_ (J : Orc (As [.sl QJT1])) (x : As [.sl (.int .u16), .sl .bool]) : rfn Try.prog q1q_ 6 18446744073709551616 (Ev.get q1p_) 7 q15_ J x = q4j_ (fun w is' t9 t10 out => J 58 [] (q1a_ w is' t9 t10 out)) x.1 x.2.1 := by kernel_rfl
theorem q5h_  (w1 w is' i t9 t10 t22 out) : jfn Try.prog q1q_ 6 18446744073709551616 (Ev.get q1p_) 7 q15_ 3737 [w1] (q38_ w is' i t9 t10 t22 out) = q2u_ (fun w is' t9 t10 out => w1 (q1a_ w is' t9 t10 out)) w is' i t9 t10 t22 out := by
  rw [pfn_eq (by decide)]
  rw [q57_]
  rfl
theorem q56_  (w is' t9 t10 out) : jfn Try.prog q1q_ 6 18446744073709551616 (Ev.get q1p_) 7 q15_ 58 [] (q1a_ w is' t9 t10 out) = q2t_ w is' t9 t10 out := by
  rw [pfn_eq (by decide)]
  rw [pfn_loop (by kernel_rfl)]
  refine loopF_sim (σ := (List Int) × (List Bool) × (Int) × (Int) × (List (Int × Int))) (mk := fun s => q1a_ s.1 s.2.1 s.2.2.1 s.2.2.2.1 s.2.2.2.2) (fun w1 s => ?_) 18446744073709551616 (w, is', t9, t10, out)
  have e2 : (fun w is' i t9 t10 t22 out => (jfn Try.prog q1q_ 6 18446744073709551616 (Ev.get q1p_) 7 q15_) 3737 [w1] (q38_ w is' i t9 t10 t22 out)) = q2u_ (fun w is' t9 t10 out => w1 (q1a_ w is' t9 t10 out)) := by funext w is' i t9 t10 t22 out; exact q5h_ w1 w is' i t9 t10 t22 out
  refine (q5d_ _ w1 s.1 s.2.1 s.2.2.1 s.2.2.2.1 s.2.2.2.2).trans ?_
  rw [e2]
theorem q5n_ (x : As [.sl (.int .u16), .sl .bool]) : evT Try.prog q1q_ 6 18446744073709551616 (Ev.get q1p_) 7 q15_ x = q3h_ x := by
  have e1 : (fun w is' t9 t10 out => (jfn Try.prog q1q_ 6 18446744073709551616 (Ev.get q1p_) 7 q15_) 58 [] (q1a_ w is' t9 t10 out)) = q2t_ := by funext w is' t9 t10 out; exact q56_ w is' t9 t10 out
  rw [rfn_eq, q5j_, e1]
  rfl
theorem q5e_ : CtOk Try.prog (fun _ => True) 7 ⟨q15_, q3h_⟩ := ct_of_ev env_nil q5n_
@[reducible] def q1t_ : Sh := ⟨[.d (.sl (.int .u16))], [], [.sl (.int .u16)], [.row 0], [(0, .row (.int .u16) 32)], 1, [.sl (.int .u16)]⟩
def q1o_ (s : List Int) : Option (As [.sl (.int .u16)]) :=
  if eqi (Int.ofNat (List.length s)) 0 = true then amb (eqAs q1t_.rs) [some ([], ()), need (small (0 + List.length s)) (some (s, ()))] else need (small (0 + List.length s)) (some (s, ()))
def q1h_ (x : As [.sl (.int .u16)]) : Option (As [.sl (.int .u16)]) := q1o_ x.1
theorem q3i_ : CtOk Try.prog (fun _ => True) 26 ⟨q1t_, q1h_⟩ := ctn env_nil 6 fun J x => by kernel_rfl
@[reducible] def ql_ : Sh := ⟨[.d (.sl (.int .u16)), .d (.sl QJT0)], [], [.sl (.int .u16), .sl QJT0], [.d (.sl (.int .u16))], [], 0, [.sl (.int .u16)]⟩
def qz_ : Env := (cts [(26, (⟨q1t_, q1h_⟩ : Ct))])
def q10_ : List (Nat × Hint) := [(58, ⟨[], [0, 12, 13, 14, 33, 34, 35, 36]⟩), (14950, ⟨[], [0, 6, 12, 13, 14, 19, 20, 21, 33, 34, 35, 36]⟩), (1913651, ⟨[.agd 33 (.int .i64), .agd 35 (.int .i64), .agd 36 .bool], [0, 6, 8, 9, 12, 13, 14, 19, 20, 21, 37]⟩)]
def qk_ (t12 : List (Int × List Int)) (t13 t14 : Int) (bank : List Int) : St := { fr := [(0, .row 0), (12, .d (.sl QJT0) t12), (13, .d (.int .i64) t13), (14, .d (.int .i64) t14)], nt := 45, up := [], own := [(0, .row (.int .u16) 32 bank)], nx := 1, log := [], ln := 0 }
def q19_ (t12 : List (Int × List Int)) (t13 t14 : Int) (t19 : List Int) (t20 t21 : Int) (bank : List Int) (x : Int × List Int) : St := { fr := [(0, .row 0), (6, .pb 1 0), (12, .d (.sl QJT0) t12), (13, .d (.int .i64) t13), (14, .d (.int .i64) t14), (19, .d (.sl (.int .u16)) t19), (20, .d (.int .i64) t20), (21, .d (.int .i64) t21)], nt := 45, up := [], own := [(0, .row (.int .u16) 32 bank), (1, .box 31 [.d (.int .i64) x.1, .d (.sl (.int .u16)) x.2])], nx := 2, log := [], ln := 0 }
def q3d_ (w at' : Int) (t12 : List (Int × List Int)) (t13 t14 : Int) (t19 : List Int) (t20 t21 : Int) (t37 : Bool) (bank : List Int) (x : Int × List Int) : St := { fr := [(0, .row 0), (6, .pb 1 0), (8, .d (.int .u16) w), (9, .d (.int .i64) at'), (12, .d (.sl QJT0) t12), (13, .d (.int .i64) t13), (14, .d (.int .i64) t14), (19, .d (.sl (.int .u16)) t19), (20, .d (.int .i64) t20), (21, .d (.int .i64) t21), (37, .d .bool t37)], nt := 45, up := [], own := [(0, .row (.int .u16) 32 bank), (1, .box 31 [.d (.int .i64) x.1, .d (.sl (.int .u16)) x.2])], nx := 2, log := [], ln := 0 }
def q2j_ (j2 : List (Int × List Int) -> Int -> Int -> List Int -> Int -> Int -> List Int -> Int × List Int -> Option (As [.sl (.int .u16)])) (self1 : List (Int × List Int) -> Int -> Int -> List Int -> Option (As [.sl (.int .u16)])) (t12 : List (Int × List Int)) (t13 t14 : Int) (bank : List Int) : Option (As [.sl (.int .u16)]) :=
  if lt t14 t13 = true then Option.bind (at? t12 t14) fun (y : Int × List Int) => j2 t12 t13 t14 y.2 (Int.ofNat (List.length y.2)) 0 bank y else some (bank, ())
def q2f_ (j3 : Int -> Int -> List (Int × List Int) -> Int -> Int -> List Int -> Int -> Int -> Bool -> List Int -> Int × List Int -> Option (As [.sl (.int .u16)])) (self1 : List (Int × List Int) -> Int -> Int -> List Int -> Option (As [.sl (.int .u16)])) (self2 : List (Int × List Int) -> Int -> Int -> List Int -> Int -> Int -> List Int -> Int × List Int -> Option (As [.sl (.int .u16)])) (t12 : List (Int × List Int)) (t13 t14 : Int) (t19 : List Int) (t20 t21 : Int) (bank : List Int) (x : Int × List Int) : Option (As [.sl (.int .u16)]) :=
  if lt t21 t20 = true then Option.bind (at? t19 t21) fun (y : Int) => if ge (add .i64 x.1 t21) 0 = true then j3 y (add .i64 x.1 t21) t12 t13 t14 t19 t20 t21 (lt (add .i64 x.1 t21) (Int.ofNat (List.length bank))) bank x else j3 y (add .i64 x.1 t21) t12 t13 t14 t19 t20 t21 false bank x else self1 t12 t13 (add .i64 t14 1) bank
def q3b_ (self1 : List (Int × List Int) -> Int -> Int -> List Int -> Option (As [.sl (.int .u16)])) (self2 : List (Int × List Int) -> Int -> Int -> List Int -> Int -> Int -> List Int -> Int × List Int -> Option (As [.sl (.int .u16)])) (w at' : Int) (t12 : List (Int × List Int)) (t13 t14 : Int) (t19 : List Int) (t20 t21 : Int) (t37 : Bool) (bank : List Int) (x : Int × List Int) : Option (As [.sl (.int .u16)]) :=
  if t37 = true then Option.bind (at? bank at') fun (x_1 : Int) => Option.bind (at? bank at') fun (x_2 : Int) => self2 t12 t13 t14 t19 t20 (add .i64 t21 1) (List.set bank (Int.toNat at') w) x else self2 t12 t13 t14 t19 t20 (add .i64 t21 1) bank x
def q3c_ (j1 : List (Int × List Int) -> Int -> Int -> List Int -> Option (As [.sl (.int .u16)])) (bank : List Int) (l : List (Int × List Int)) : Option (As [.sl (.int .u16)]) :=
  Option.bind (q1h_ (bank, ())) fun (y : List Int × Unit) => j1 l (Int.ofNat (List.length l)) 0 y.1
def q2i_ (u1 : List (Int × List Int) -> Int -> Int -> List Int -> Option (As [.sl (.int .u16)])) (u2 : List (Int × List Int) -> Int -> Int -> List Int -> Int -> Int -> List Int -> Int × List Int -> Option (As [.sl (.int .u16)])) (w at' : Int) (t12 : List (Int × List Int)) (t13 t14 : Int) (t19 : List Int) (t20 t21 : Int) (t37 : Bool) (bank : List Int) (x : Int × List Int) : Option (As [.sl (.int .u16)]) := q3b_ u1 u2 w at' t12 t13 t14 t19 t20 t21 t37 bank x
def q2g_ (u1 : List (Int × List Int) -> Int -> Int -> List Int -> Option (As [.sl (.int .u16)])) (t12 : List (Int × List Int)) (t13 t14 : Int) (t19 : List Int) (t20 t21 : Int) (bank : List Int) (x : Int × List Int) : Option (As [.sl (.int .u16)]) :=
  loopF (fun (self : (List (Int × List Int)) × (Int) × (Int) × (List Int) × (Int) × (Int) × (List Int) × (Int × List Int) -> Option (As [.sl (.int .u16)])) (s : (List (Int × List Int)) × (Int) × (Int) × (List Int) × (Int) × (Int) × (List Int) × (Int × List Int)) => q2f_ (q2i_ u1 (fun t12 t13 t14 t19 t20 t21 bank x => self (t12, t13, t14, t19, t20, t21, bank, x))) u1 (fun t12 t13 t14 t19 t20 t21 bank x => self (t12, t13, t14, t19, t20, t21, bank, x)) s.1 s.2.1 s.2.2.1 s.2.2.2.1 s.2.2.2.2.1 s.2.2.2.2.2.1 s.2.2.2.2.2.2.1 s.2.2.2.2.2.2.2) 18446744073709551616 (t12, t13, t14, t19, t20, t21, bank, x)
def q2q_ (t12 : List (Int × List Int)) (t13 t14 : Int) (bank : List Int) : Option (As [.sl (.int .u16)]) :=
  loopF (fun (self : (List (Int × List Int)) × (Int) × (Int) × (List Int) -> Option (As [.sl (.int .u16)])) (s : (List (Int × List Int)) × (Int) × (Int) × (List Int)) => q2j_ (q2g_ (fun t12 t13 t14 bank => self (t12, t13, t14, bank))) (fun t12 t13 t14 bank => self (t12, t13, t14, bank)) s.1 s.2.1 s.2.2.1 s.2.2.2) 18446744073709551616 (t12, t13, t14, bank)
def q3g_ (x : As [.sl (.int .u16), .sl QJT0]) : Option (As [.sl (.int .u16)]) := q3c_ q2q_ x.1 x.2.1
theorem q59_  (J w1 w2 w at' t12 t13 t14 t19 t20 t21 t37 bank x) : pfn Try.prog qz_ 6 18446744073709551616 (Ev.get q10_) 10 ql_ J 1913651 [w1, w2] (q3d_ w at' t12 t13 t14 t19 t20 t21 t37 bank x) = q3b_ (fun t12 t13 t14 bank => w1 (qk_ t12 t13 t14 bank)) (fun t12 t13 t14 t19 t20 t21 bank x => w2 (q19_ t12 t13 t14 t19 t20 t21 bank x)) w at' t12 t13 t14 t19 t20 t21 t37 bank x := by kernel_rfl
theorem q5f_  (J w1 w2 t12 t13 t14 t19 t20 t21 bank x) : pfn Try.prog qz_ 6 18446744073709551616 (Ev.get q10_) 10 ql_ J 14950 [w1, w2] (q19_ t12 t13 t14 t19 t20 t21 bank x) = q2f_ (fun w at' t12 t13 t14 t19 t20 t21 t37 bank x => J 1913651 [w1, w2] (q3d_ w at' t12 t13 t14 t19 t20 t21 t37 bank x)) (fun t12 t13 t14 bank => w1 (qk_ t12 t13 t14 bank)) (fun t12 t13 t14 t19 t20 t21 bank x => w2 (q19_ t12 t13 t14 t19 t20 t21 bank x)) t12 t13 t14 t19 t20 t21 bank x := by kernel_rfl
theorem q5a_  (J w1 t12 t13 t14 bank) : pfn Try.prog qz_ 6 18446744073709551616 (Ev.get q10_) 10 ql_ J 58 [w1] (qk_ t12 t13 t14 bank) = q2j_ (fun t12 t13 t14 t19 t20 t21 bank x => J 14950 [w1] (q19_ t12 t13 t14 t19 t20 t21 bank x)) (fun t12 t13 t14 bank => w1 (qk_ t12 t13 t14 bank)) t12 t13 t14 bank := by kernel_rfl
theorem q5k_ (J : Orc (As [.sl (.int .u16)])) (x : As [.sl (.int .u16), .sl QJT0]) : rfn Try.prog qz_ 6 18446744073709551616 (Ev.get q10_) 10 ql_ J x = q3c_ (fun t12 t13 t14 bank => J 58 [] (qk_ t12 t13 t14 bank)) x.1 x.2.1 := by kernel_rfl
theorem q5b_  (w1 w2 w at' t12 t13 t14 t19 t20 t21 t37 bank x) : jfn Try.prog qz_ 6 18446744073709551616 (Ev.get q10_) 10 ql_ 1913651 [w1, w2] (q3d_ w at' t12 t13 t14 t19 t20 t21 t37 bank x) = q2i_ (fun t12 t13 t14 bank => w1 (qk_ t12 t13 t14 bank)) (fun t12 t13 t14 t19 t20 t21 bank x => w2 (q19_ t12 t13 t14 t19 t20 t21 bank x)) w at' t12 t13 t14 t19 t20 t21 t37 bank x := by
  rw [pfn_eq (by decide)]
  rw [q59_]
  rfl
theorem q5c_  (w1 t12 t13 t14 t19 t20 t21 bank x) : jfn Try.prog qz_ 6 18446744073709551616 (Ev.get q10_) 10 ql_ 14950 [w1] (q19_ t12 t13 t14 t19 t20 t21 bank x) = q2g_ (fun t12 t13 t14 bank => w1 (qk_ t12 t13 t14 bank)) t12 t13 t14 t19 t20 t21 bank x := by
  rw [pfn_eq (by decide)]
  rw [pfn_loop (by kernel_rfl)]
  refine loopF_sim (σ := (List (Int × List Int)) × (Int) × (Int) × (List Int) × (Int) × (Int) × (List Int) × (Int × List Int)) (mk := fun s => q19_ s.1 s.2.1 s.2.2.1 s.2.2.2.1 s.2.2.2.2.1 s.2.2.2.2.2.1 s.2.2.2.2.2.2.1 s.2.2.2.2.2.2.2) (fun w2 s => ?_) 18446744073709551616 (t12, t13, t14, t19, t20, t21, bank, x)
  have e3 : (fun w at' t12 t13 t14 t19 t20 t21 t37 bank x => (jfn Try.prog qz_ 6 18446744073709551616 (Ev.get q10_) 10 ql_) 1913651 [w1, w2] (q3d_ w at' t12 t13 t14 t19 t20 t21 t37 bank x)) = q2i_ (fun t12 t13 t14 bank => w1 (qk_ t12 t13 t14 bank)) (fun t12 t13 t14 t19 t20 t21 bank x => w2 (q19_ t12 t13 t14 t19 t20 t21 bank x)) := by funext w at' t12 t13 t14 t19 t20 t21 t37 bank x; exact q5b_ w1 w2 w at' t12 t13 t14 t19 t20 t21 t37 bank x
  refine (q5f_ _ w1 w2 s.1 s.2.1 s.2.2.1 s.2.2.2.1 s.2.2.2.2.1 s.2.2.2.2.2.1 s.2.2.2.2.2.2.1 s.2.2.2.2.2.2.2).trans ?_
  rw [e3]
theorem q58_  (t12 t13 t14 bank) : jfn Try.prog qz_ 6 18446744073709551616 (Ev.get q10_) 10 ql_ 58 [] (qk_ t12 t13 t14 bank) = q2q_ t12 t13 t14 bank := by
  rw [pfn_eq (by decide)]
  rw [pfn_loop (by kernel_rfl)]
  refine loopF_sim (σ := (List (Int × List Int)) × (Int) × (Int) × (List Int)) (mk := fun s => qk_ s.1 s.2.1 s.2.2.1 s.2.2.2) (fun w1 s => ?_) 18446744073709551616 (t12, t13, t14, bank)
  have e2 : (fun t12 t13 t14 t19 t20 t21 bank x => (jfn Try.prog qz_ 6 18446744073709551616 (Ev.get q10_) 10 ql_) 14950 [w1] (q19_ t12 t13 t14 t19 t20 t21 bank x)) = q2g_ (fun t12 t13 t14 bank => w1 (qk_ t12 t13 t14 bank)) := by funext t12 t13 t14 t19 t20 t21 bank x; exact q5c_ w1 t12 t13 t14 t19 t20 t21 bank x
  refine (q5a_ _ w1 s.1 s.2.1 s.2.2.1 s.2.2.2).trans ?_
  rw [e2]
theorem q5m_ (x : As [.sl (.int .u16), .sl QJT0]) : evT Try.prog qz_ 6 18446744073709551616 (Ev.get q10_) 10 ql_ x = q3g_ x := by
  have e1 : (fun t12 t13 t14 bank => (jfn Try.prog qz_ 6 18446744073709551616 (Ev.get q10_) 10 ql_) 58 [] (qk_ t12 t13 t14 bank)) = q2q_ := by funext t12 t13 t14 bank; exact q58_ t12 t13 t14 bank
  rw [rfn_eq, q5k_, e1]
  rfl
theorem q5g_ : CtOk Try.prog (fun _ => True) 10 ⟨ql_, q3g_⟩ := ct_of_ev (env_cons q3i_ env_nil) q5m_
@[reducible] def q1k_ : Sh := ⟨[.d (.sl (.int .u16)), .d (.sl (.int .u16))], [], [.sl (.int .u16), .sl (.int .u16)], [.d (.bool)], [], 0, [.bool]⟩
def q2s_ : Env := (cts [])
def q2r_ : List (Nat × Hint) := [(58, ⟨[], [0, 1, 12, 13]⟩)]
def q29_ (a b : List Int) (t12 t13 : Int) : St := { fr := [(0, .d (.sl (.int .u16)) a), (1, .d (.sl (.int .u16)) b), (12, .d (.int .i64) t12), (13, .d (.int .i64) t13)], nt := 26, up := [], own := [], nx := 0, log := [], ln := 0 }
def q2c_ (self1 : List Int -> List Int -> Int -> Int -> Option (As [.bool])) (a b : List Int) (t12 t13 : Int) : Option (As [.bool]) :=
  if lt t13 t12 = true then Option.bind (at? a t13) fun (y : Int) => Option.bind (at? b t13) fun (y_1 : Int) => if nei y y_1 = true then some (false, ()) else self1 a b t12 (add .i64 t13 1) else some (true, ())
def q37_ (j1 : List Int -> List Int -> Int -> Int -> Option (As [.bool])) (a b : List Int) : Option (As [.bool]) :=
  if nei (Int.ofNat (List.length a)) (Int.ofNat (List.length b)) = true then some (false, ()) else j1 a b (Int.ofNat (List.length a)) 0
def q2n_ (a b : List Int) (t12 t13 : Int) : Option (As [.bool]) :=
  loopF (fun (self : (List Int) × (List Int) × (Int) × (Int) -> Option (As [.bool])) (s : (List Int) × (List Int) × (Int) × (Int)) => q2c_ (fun a b t12 t13 => self (a, b, t12, t13)) s.1 s.2.1 s.2.2.1 s.2.2.2) 18446744073709551616 (a, b, t12, t13)
def q2l_ (x : As [.sl (.int .u16), .sl (.int .u16)]) : Option (As [.bool]) := q37_ q2n_ x.1 x.2.1
theorem q54_  (J w1 a b t12 t13) : pfn Try.prog q2s_ 6 18446744073709551616 (Ev.get q2r_) 11 q1k_ J 58 [w1] (q29_ a b t12 t13) = q2c_ (fun a b t12 t13 => w1 (q29_ a b t12 t13)) a b t12 t13 := by kernel_rfl
theorem q52_ (J : Orc (As [.bool])) (x : As [.sl (.int .u16), .sl (.int .u16)]) : rfn Try.prog q2s_ 6 18446744073709551616 (Ev.get q2r_) 11 q1k_ J x = q37_ (fun a b t12 t13 => J 58 [] (q29_ a b t12 t13)) x.1 x.2.1 := by kernel_rfl
theorem q4x_  (a b t12 t13) : jfn Try.prog q2s_ 6 18446744073709551616 (Ev.get q2r_) 11 q1k_ 58 [] (q29_ a b t12 t13) = q2n_ a b t12 t13 := by
  rw [pfn_eq (by decide)]
  rw [pfn_loop (by kernel_rfl)]
  refine loopF_sim (σ := (List Int) × (List Int) × (Int) × (Int)) (mk := fun s => q29_ s.1 s.2.1 s.2.2.1 s.2.2.2) (fun w1 s => ?_) 18446744073709551616 (a, b, t12, t13)
  refine (q54_ _ w1 s.1 s.2.1 s.2.2.1 s.2.2.2).trans ?_
  rfl
theorem q5l_ (x : As [.sl (.int .u16), .sl (.int .u16)]) : evT Try.prog q2s_ 6 18446744073709551616 (Ev.get q2r_) 11 q1k_ x = q2l_ x := by
  have e1 : (fun a b t12 t13 => (jfn Try.prog q2s_ 6 18446744073709551616 (Ev.get q2r_) 11 q1k_) 58 [] (q29_ a b t12 t13)) = q2n_ := by funext a b t12 t13; exact q4x_ a b t12 t13
  rw [rfn_eq, q52_, e1]
  rfl
theorem q3y_ : CtOk Try.prog (fun _ => True) 11 ⟨q1k_, q2l_⟩ := ct_of_ev env_nil q5l_
@[reducible] def q11_ : Sh := ⟨[.d (.sl QJT0), .d (.sl QJT0)], [], [.sl QJT0, .sl QJT0], [.d (.bool)], [], 0, [.bool]⟩
def q1j_ : Env := (cts [(11, (⟨q1k_, q2l_⟩ : Ct))])
def q1i_ : List (Nat × Hint) := [(58, ⟨[], [0, 1, 12, 13, 28, 29, 30, 31, 32, 33, 34, 35, 36, 37, 38, 39]⟩), (3737, ⟨[.agd 28 (.sl QJT0), .agd 29 (.int .i64), .agd 32 (.sl (.int .u16)), .agd 33 (.sl QJT0), .agd 34 (.int .i64), .agd 37 (.sl (.int .u16)), .agd 38 .bool, .agd 39 .bool], [0, 1, 12, 13, 40]⟩)]
def q12_ (a b : List (Int × List Int)) (t12 t13 : Int) : St := { fr := [(0, .d (.sl QJT0) a), (1, .d (.sl QJT0) b), (12, .d (.int .i64) t12), (13, .d (.int .i64) t13)], nt := 42, up := [], own := [], nx := 0, log := [], ln := 0 }
def q36_ (a b : List (Int × List Int)) (t12 t13 : Int) (t40 : Bool) : St := { fr := [(0, .d (.sl QJT0) a), (1, .d (.sl QJT0) b), (12, .d (.int .i64) t12), (13, .d (.int .i64) t13), (40, .d .bool t40)], nt := 42, up := [], own := [], nx := 0, log := [], ln := 0 }
def q2b_ (j2 : List (Int × List Int) -> List (Int × List Int) -> Int -> Int -> Bool -> Option (As [.bool])) (self1 : List (Int × List Int) -> List (Int × List Int) -> Int -> Int -> Option (As [.bool])) (a b : List (Int × List Int)) (t12 t13 : Int) : Option (As [.bool]) :=
  if lt t13 t12 = true then Option.bind (at? a t13) fun (y : Int × List Int) => Option.bind (at? b t13) fun (y_1 : Int × List Int) => if nei y.1 y_1.1 = true then j2 a b t12 t13 true else Option.bind (at? a t13) fun (y : Int × List Int) => Option.bind (at? b t13) fun (y_2 : Int × List Int) => Option.bind (q2l_ (y.2, y_2.2, ())) fun (y : Bool × Unit) => j2 a b t12 t13 !y.1 else some (true, ())
def q34_ (self1 : List (Int × List Int) -> List (Int × List Int) -> Int -> Int -> Option (As [.bool])) (a b : List (Int × List Int)) (t12 t13 : Int) (t40 : Bool) : Option (As [.bool]) :=
  if t40 = true then some (false, ()) else self1 a b t12 (add .i64 t13 1)
def q35_ (j1 : List (Int × List Int) -> List (Int × List Int) -> Int -> Int -> Option (As [.bool])) (a b : List (Int × List Int)) : Option (As [.bool]) :=
  if nei (Int.ofNat (List.length a)) (Int.ofNat (List.length b)) = true then some (false, ()) else j1 a b (Int.ofNat (List.length a)) 0
def q2a_ (u1 : List (Int × List Int) -> List (Int × List Int) -> Int -> Int -> Option (As [.bool])) (a b : List (Int × List Int)) (t12 t13 : Int) (t40 : Bool) : Option (As [.bool]) := q34_ u1 a b t12 t13 t40
def q2m_ (a b : List (Int × List Int)) (t12 t13 : Int) : Option (As [.bool]) :=
  loopF (fun (self : (List (Int × List Int)) × (List (Int × List Int)) × (Int) × (Int) -> Option (As [.bool])) (s : (List (Int × List Int)) × (List (Int × List Int)) × (Int) × (Int)) => q2b_ (q2a_ (fun a b t12 t13 => self (a, b, t12, t13))) (fun a b t12 t13 => self (a, b, t12, t13)) s.1 s.2.1 s.2.2.1 s.2.2.2) 18446744073709551616 (a, b, t12, t13)
def q3a_ (x : As [.sl QJT0, .sl QJT0]) : Option (As [.bool]) := q35_ q2m_ x.1 x.2.1
theorem q53_  (J w1 a b t12 t13 t40) : pfn Try.prog q1j_ 6 18446744073709551616 (Ev.get q1i_) 16 q11_ J 3737 [w1] (q36_ a b t12 t13 t40) = q34_ (fun a b t12 t13 => w1 (q12_ a b t12 t13)) a b t12 t13 t40 := by kernel_rfl
theorem q4z_  (J w1 a b t12 t13) : pfn Try.prog q1j_ 6 18446744073709551616 (Ev.get q1i_) 16 q11_ J 58 [w1] (q12_ a b t12 t13) = q2b_ (fun a b t12 t13 t40 => J 3737 [w1] (q36_ a b t12 t13 t40)) (fun a b t12 t13 => w1 (q12_ a b t12 t13)) a b t12 t13 := by kernel_rfl
theorem q51_ (J : Orc (As [.bool])) (x : As [.sl QJT0, .sl QJT0]) : rfn Try.prog q1j_ 6 18446744073709551616 (Ev.get q1i_) 16 q11_ J x = q35_ (fun a b t12 t13 => J 58 [] (q12_ a b t12 t13)) x.1 x.2.1 := by kernel_rfl
theorem q4w_  (w1 a b t12 t13 t40) : jfn Try.prog q1j_ 6 18446744073709551616 (Ev.get q1i_) 16 q11_ 3737 [w1] (q36_ a b t12 t13 t40) = q2a_ (fun a b t12 t13 => w1 (q12_ a b t12 t13)) a b t12 t13 t40 := by
  rw [pfn_eq (by decide)]
  rw [q53_]
  rfl
theorem q50_  (a b t12 t13) : jfn Try.prog q1j_ 6 18446744073709551616 (Ev.get q1i_) 16 q11_ 58 [] (q12_ a b t12 t13) = q2m_ a b t12 t13 := by
  rw [pfn_eq (by decide)]
  rw [pfn_loop (by kernel_rfl)]
  refine loopF_sim (σ := (List (Int × List Int)) × (List (Int × List Int)) × (Int) × (Int)) (mk := fun s => q12_ s.1 s.2.1 s.2.2.1 s.2.2.2) (fun w1 s => ?_) 18446744073709551616 (a, b, t12, t13)
  have e2 : (fun a b t12 t13 t40 => (jfn Try.prog q1j_ 6 18446744073709551616 (Ev.get q1i_) 16 q11_) 3737 [w1] (q36_ a b t12 t13 t40)) = q2a_ (fun a b t12 t13 => w1 (q12_ a b t12 t13)) := by funext a b t12 t13 t40; exact q4w_ w1 a b t12 t13 t40
  refine (q4z_ _ w1 s.1 s.2.1 s.2.2.1 s.2.2.2).trans ?_
  rw [e2]
theorem q5i_ (x : As [.sl QJT0, .sl QJT0]) : evT Try.prog q1j_ 6 18446744073709551616 (Ev.get q1i_) 16 q11_ x = q3a_ x := by
  have e1 : (fun a b t12 t13 => (jfn Try.prog q1j_ 6 18446744073709551616 (Ev.get q1i_) 16 q11_) 58 [] (q12_ a b t12 t13)) = q2m_ := by funext a b t12 t13; exact q50_ a b t12 t13
  rw [rfn_eq, q51_, e1]
  rfl
theorem q4y_ : CtOk Try.prog (fun _ => True) 16 ⟨q11_, q3a_⟩ := ct_of_ev (env_cons q3y_ env_nil) q5i_
@[reducible] def qp_ : Sh := ⟨[], [], [], [.d (.bool)], [], 0, [.bool]⟩
def q1c_ : Env := (cts [(8, (⟨q1d_, qq_⟩ : Ct)), (10, (⟨ql_, q3g_⟩ : Ct)), (11, (⟨q1k_, q2l_⟩ : Ct)), (16, (⟨q11_, q3a_⟩ : Ct))])
def q1e_ : List (Nat × Hint) := [(15, ⟨[], [1, 2, 3, 37, 40, 41, 44, 45, 46, 47, 48, 49, 50, 53, 54, 55, 58, 59, 60, 61, 62, 63, 66, 67, 68, 69, 70, 73, 74, 75, 76, 77]⟩), (122, ⟨[], [1, 2, 3, 16, 37, 40, 41, 44, 45, 46, 47, 48, 49, 50, 53, 54, 55, 58, 59, 60, 61, 62, 63, 66, 67, 68, 69, 70, 73, 74, 75, 76, 77]⟩)]
def q1r_ (a : List (Int × List Int)) (x : Bool) (t16 : Int) (m : List (Int × Int)) : St := { fr := [(1, .d (.sl QJT0) a), (2, .d .bool x), (3, .mp 0), (16, .d (.int .i64) t16)], nt := 79, up := [], own := [(0, .dm (.int .i64) (.int .u16) m)], nx := 1, log := [], ln := 0 }
def q30_ (a : List (Int × List Int)) (x : Bool) (m : List (Int × Int)) : St := { fr := [(1, .d (.sl QJT0) a), (2, .d .bool x), (3, .mp 0)], nt := 79, up := [], own := [(0, .dm (.int .i64) (.int .u16) m)], nx := 1, log := [], ln := 0 }
def q3s_ (j2 : List (Int × List Int) -> Bool -> List (Int × Int) -> Option (As [.bool])) (self1 : List (Int × List Int) -> Bool -> Int -> List (Int × Int) -> Option (As [.bool])) (a : List (Int × List Int)) (x : Bool) (t16 : Int) (m : List (Int × Int)) : Option (As [.bool]) :=
  if lt t16 15 = true then self1 a x (add .i64 t16 1) (Ev.dput (.int .i64) m t16 (cvt .u16 t16)) else j2 a x m
def q2x_ (a : List (Int × List Int)) (x : Bool) (m : List (Int × Int)) : Option (As [.bool]) :=
  Option.bind (qq_ (m, ())) fun (y : List (Int × List Int) × Bool × List (Int × Int) × Unit) => Option.bind (qq_ ([(64, 1)], ())) fun (y_1 : List (Int × List Int) × Bool × List (Int × Int) × Unit) => if x = true then if y.2.1 = true then if (!y_1.2.1) = true then Option.bind (q3a_ (a, [(3, [7, 8]), (6, [9])], ())) fun (y_2 : Bool × Unit) => if y_2.1 = true then if eqi (Int.ofNat (List.length y.1)) 2 = true then Option.bind (at? y.1 0) fun (y_3 : Int × List Int) => if eqi (Int.ofNat (List.length y_3.2)) 14 = true then Option.bind (at? y.1 1) fun (y : Int × List Int) => if eqi y.1 14 = true then Option.bind (q3g_ ([0, 0, 0, 0, 0, 0, 0], a, ())) fun (y : List Int × Unit) => Option.bind (q2l_ (y.1, [0, 0, 0, 7, 8, 0, 9], ())) fun (y : Bool × Unit) => some (y.1, ()) else some (false, ()) else some (false, ()) else some (false, ()) else some (false, ()) else some (false, ()) else some (false, ()) else some (false, ())
def q2w_ (j1 : List (Int × List Int) -> Bool -> Int -> List (Int × Int) -> Option (As [.bool])) : Option (As [.bool]) :=
  Option.bind (qq_ ([(3, 7), (4, 8), (6, 9)], ())) fun (y : List (Int × List Int) × Bool × List (Int × Int) × Unit) => j1 y.1 y.2.1 0 []
def q2v_ (a : List (Int × List Int)) (x : Bool) (m : List (Int × Int)) : Option (As [.bool]) := q2x_ a x m
def q1s_ (a : List (Int × List Int)) (x : Bool) (t16 : Int) (m : List (Int × Int)) : Option (As [.bool]) :=
  loopF (fun (self : (List (Int × List Int)) × (Bool) × (Int) × (List (Int × Int)) -> Option (As [.bool])) (s : (List (Int × List Int)) × (Bool) × (Int) × (List (Int × Int))) => q3s_ (q2v_) (fun a x t16 m => self (a, x, t16, m)) s.1 s.2.1 s.2.2.1 s.2.2.2) 18446744073709551616 (a, x, t16, m)
def q2o_ (x : As []) : Option (As [.bool]) := q2w_ q1s_
theorem q4v_  (J a x m) : pfn Try.prog q1c_ 6 18446744073709551616 (Ev.get q1e_) 9 qp_ J 15 [] (q30_ a x m) = q2x_ a x m := by kernel_rfl
theorem q4s_  (J w1 a x t16 m) : pfn Try.prog q1c_ 6 18446744073709551616 (Ev.get q1e_) 9 qp_ J 122 [w1] (q1r_ a x t16 m) = q3s_ (fun a x m => J 15 [] (q30_ a x m)) (fun a x t16 m => w1 (q1r_ a x t16 m)) a x t16 m := by kernel_rfl
theorem q4r_ (J : Orc (As [.bool])) (x : As []) : rfn Try.prog q1c_ 6 18446744073709551616 (Ev.get q1e_) 9 qp_ J x = q2w_ (fun a x t16 m => J 122 [] (q1r_ a x t16 m)) := by kernel_rfl
theorem q4q_  (a x m) : jfn Try.prog q1c_ 6 18446744073709551616 (Ev.get q1e_) 9 qp_ 15 [] (q30_ a x m) = q2v_ a x m := by
  rw [pfn_eq (by decide)]
  rw [q4v_]
  rfl
theorem q4u_  (a x t16 m) : jfn Try.prog q1c_ 6 18446744073709551616 (Ev.get q1e_) 9 qp_ 122 [] (q1r_ a x t16 m) = q1s_ a x t16 m := by
  rw [pfn_eq (by decide)]
  rw [pfn_loop (by kernel_rfl)]
  refine loopF_sim (σ := (List (Int × List Int)) × (Bool) × (Int) × (List (Int × Int))) (mk := fun s => q1r_ s.1 s.2.1 s.2.2.1 s.2.2.2) (fun w1 s => ?_) 18446744073709551616 (a, x, t16, m)
  have e2 : (fun a x m => (jfn Try.prog q1c_ 6 18446744073709551616 (Ev.get q1e_) 9 qp_) 15 [] (q30_ a x m)) = q2v_ := by funext a x m; exact q4q_ a x m
  refine (q4s_ _ w1 s.1 s.2.1 s.2.2.1 s.2.2.2).trans ?_
  rw [e2]
theorem q55_ (x : As []) : evT Try.prog q1c_ 6 18446744073709551616 (Ev.get q1e_) 9 qp_ x = q2o_ x := by
  have e1 : (fun a x t16 m => (jfn Try.prog q1c_ 6 18446744073709551616 (Ev.get q1e_) 9 qp_) 122 [] (q1r_ a x t16 m)) = q1s_ := by funext a x t16 m; exact q4u_ a x t16 m
  rw [rfn_eq, q4r_, e1]
  rfl
theorem q4t_ : CtOk Try.prog (fun _ => True) 9 ⟨qp_, q2o_⟩ := ct_of_ev (env_cons q3t_ (env_cons q5g_ (env_cons q3y_ (env_cons q4y_ env_nil)))) q55_
@[reducible] def q0_ : Sh := ⟨[.d (.sl (.int .u16)), .d (.sl .bool)], [], [.sl (.int .u16), .sl .bool], [.d (.bool)], [], 0, [.bool]⟩
def q2_ : Env := (cts [(7, (⟨q15_, q3h_⟩ : Ct)), (8, (⟨q1d_, qq_⟩ : Ct)), (9, (⟨qp_, q2o_⟩ : Ct))])
def q1_ : List (Nat × Hint) := [(3, ⟨[], [0, 1, 5, 6, 69, 83, 84, 85, 86, 109, 110, 111, 112, 113, 114, 115, 116, 117, 118, 119, 120, 121, 122, 144, 145, 146, 171, 172, 173, 174, 177, 178, 181, 182, 185]⟩), (255, ⟨[], [7, 8, 9, 11, 69, 83, 84, 85, 86, 109, 110, 111, 112, 113, 114, 115, 116, 117, 118, 119, 120, 121, 122, 144, 145, 146, 171, 172, 173, 174, 177, 178, 181, 182, 185]⟩), (4095, ⟨[], [7, 8, 11, 13, 171, 172, 173, 174, 177, 178, 181, 182, 185]⟩), (32762, ⟨[], [7, 8, 11, 13, 71, 72, 73, 83, 84, 85, 86, 109, 110, 111, 112, 113, 114, 115, 116, 117, 118, 119, 120, 121, 122, 144, 145, 146, 171, 172, 173, 174, 177, 178, 181, 182, 185]⟩), (4193587, ⟨[], [7, 8, 11, 13, 15, 71, 72, 73, 83, 84, 85, 86, 109, 110, 111, 112, 113, 114, 115, 116, 117, 118, 119, 120, 121, 122, 144, 145, 146, 171, 172, 173, 174, 177, 178, 181, 182, 185]⟩), (33548702, ⟨[], [7, 8, 11, 13, 15, 71, 72, 73, 83, 84, 85, 86, 109, 110, 111, 112, 113, 114, 115, 116, 117, 118, 119, 120, 121, 122, 125, 126, 127, 144, 145, 146, 171, 172, 173, 174, 177, 178, 181, 182, 185]⟩), (8588467813, ⟨[.agd 144 (.int .u16), .agd 145 (.int .u16), .agd 146 .bool], [7, 8, 11, 13, 15, 71, 72, 73, 125, 126, 127, 147]⟩), (67097397, ⟨[.agd 110 (.int .i64), .agd 111 (.int .i64), .agd 112 .bool, .agd 113 .bool, .agd 114 (.sl QJT0), .agd 115 (.int .i64), .agd 116 (.int .i64), .agd 119 (.sl (.int .u16)), .agd 120 (.int .i64), .agd 121 .bool, .agd 122 .bool], [7, 8, 11, 13, 15, 71, 72, 73, 123]⟩), (4193586, ⟨[.agd 84 (.sl (.int .u16)), .agd 85 (.int .i64), .agd 86 .bool], [7, 8, 11, 13, 14, 15, 71, 72, 73, 87]⟩), (2042, ⟨[], [6, 7, 8, 9, 10, 11, 42, 43, 69, 83, 84, 85, 86, 109, 110, 111, 112, 113, 114, 115, 116, 117, 118, 119, 120, 121, 122, 144, 145, 146, 171, 172, 173, 174, 177, 178, 181, 182, 185]⟩), (261427, ⟨[], [6, 7, 8, 9, 10, 11, 42, 43, 69, 83, 84, 85, 86, 109, 110, 111, 112, 113, 114, 115, 116, 117, 118, 119, 120, 121, 122, 144, 145, 146, 171, 172, 173, 174, 177, 178, 181, 182, 185]⟩)]
def q28_ (w : List Int) (is' : List Bool) (words : List Int) (have' : List Bool) : St := { fr := [(0, .d (.sl (.int .u16)) w), (1, .d (.sl .bool) is'), (5, .row 0), (6, .row 1)], nt := 187, up := [], own := [(0, .row (.int .u16) 32 words), (1, .row .bool 4 have')], nx := 2, log := [], ln := 0 }
def qf_ (have' : List Bool) (l : List (Int × List Int)) (ok : Bool) (runs least t42 t43 : Int) (m : List (Int × Int)) : St := { fr := [(6, .d (.sl .bool) have'), (7, .mp 0), (8, .d (.sl QJT0) l), (9, .d .bool ok), (10, .d (.int .i64) runs), (11, .d (.int .i64) least), (42, .d (.int .i64) t42), (43, .d (.int .i64) t43)], nt := 187, up := [], own := [(0, .dm (.int .i64) (.int .u16) m)], nx := 1, log := [], ln := 0 }
def q25_ (have' : List Bool) (l : List (Int × List Int)) (ok : Bool) (runs least t42 t43 : Int) (m : List (Int × Int)) : St := { fr := [(6, .d (.sl .bool) have'), (7, .mp 0), (8, .d (.sl QJT0) l), (9, .d .bool ok), (10, .d (.int .i64) runs), (11, .d (.int .i64) least), (42, .d (.int .i64) t42), (43, .d (.int .i64) t43)], nt := 187, up := [], own := [(0, .dm (.int .i64) (.int .u16) m)], nx := 1, log := [], ln := 0 }
def q27_ (l : List (Int × List Int)) (ok : Bool) (least : Int) (m : List (Int × Int)) : St := { fr := [(7, .mp 0), (8, .d (.sl QJT0) l), (9, .d .bool ok), (11, .d (.int .i64) least)], nt := 187, up := [], own := [(0, .dm (.int .i64) (.int .u16) m)], nx := 1, log := [], ln := 0 }
def q4_ (l : List (Int × List Int)) (least met : Int) (t71 : List (Int × List Int)) (t72 t73 : Int) (m : List (Int × Int)) : St := { fr := [(7, .mp 0), (8, .d (.sl QJT0) l), (11, .d (.int .i64) least), (13, .d (.int .i64) met), (71, .d (.sl QJT0) t71), (72, .d (.int .i64) t72), (73, .d (.int .i64) t73)], nt := 187, up := [], own := [(0, .dm (.int .i64) (.int .u16) m)], nx := 1, log := [], ln := 0 }
def q22_ (l : List (Int × List Int)) (least met i : Int) (t71 : List (Int × List Int)) (t72 t73 : Int) (t87 : Bool) (m : List (Int × Int)) (b : Int × List Int) : St := { fr := [(7, .mp 0), (8, .d (.sl QJT0) l), (11, .d (.int .i64) least), (13, .d (.int .i64) met), (14, .d (.int .i64) i), (15, .pb 1 0), (71, .d (.sl QJT0) t71), (72, .d (.int .i64) t72), (73, .d (.int .i64) t73), (87, .d .bool t87)], nt := 187, up := [], own := [(0, .dm (.int .i64) (.int .u16) m), (1, .box 31 [.d (.int .i64) b.1, .d (.sl (.int .u16)) b.2])], nx := 2, log := [], ln := 0 }
def q26_ (l : List (Int × List Int)) (least met : Int) (m : List (Int × Int)) : St := { fr := [(7, .mp 0), (8, .d (.sl QJT0) l), (11, .d (.int .i64) least), (13, .d (.int .i64) met)], nt := 187, up := [], own := [(0, .dm (.int .i64) (.int .u16) m)], nx := 1, log := [], ln := 0 }
def q1y_ (l : List (Int × List Int)) (least met : Int) (t71 : List (Int × List Int)) (t72 t73 : Int) (t123 : Bool) (m : List (Int × Int)) (b : Int × List Int) : St := { fr := [(7, .mp 0), (8, .d (.sl QJT0) l), (11, .d (.int .i64) least), (13, .d (.int .i64) met), (15, .pb 1 0), (71, .d (.sl QJT0) t71), (72, .d (.int .i64) t72), (73, .d (.int .i64) t73), (123, .d .bool t123)], nt := 187, up := [], own := [(0, .dm (.int .i64) (.int .u16) m), (1, .box 31 [.d (.int .i64) b.1, .d (.sl (.int .u16)) b.2])], nx := 2, log := [], ln := 0 }
def qu_ (l : List (Int × List Int)) (least met : Int) (t71 : List (Int × List Int)) (t72 t73 : Int) (m : List (Int × Int)) (b : Int × List Int) : St := { fr := [(7, .mp 0), (8, .d (.sl QJT0) l), (11, .d (.int .i64) least), (13, .d (.int .i64) met), (15, .pb 1 0), (71, .d (.sl QJT0) t71), (72, .d (.int .i64) t72), (73, .d (.int .i64) t73)], nt := 187, up := [], own := [(0, .dm (.int .i64) (.int .u16) m), (1, .box 31 [.d (.int .i64) b.1, .d (.sl (.int .u16)) b.2])], nx := 2, log := [], ln := 0 }
def qb_ (l : List (Int × List Int)) (least met : Int) (t71 : List (Int × List Int)) (t72 t73 : Int) (t125 : List Int) (t126 t127 : Int) (m : List (Int × Int)) (b : Int × List Int) : St := { fr := [(7, .mp 0), (8, .d (.sl QJT0) l), (11, .d (.int .i64) least), (13, .d (.int .i64) met), (15, .pb 1 0), (71, .d (.sl QJT0) t71), (72, .d (.int .i64) t72), (73, .d (.int .i64) t73), (125, .d (.sl (.int .u16)) t125), (126, .d (.int .i64) t126), (127, .d (.int .i64) t127)], nt := 187, up := [], own := [(0, .dm (.int .i64) (.int .u16) m), (1, .box 31 [.d (.int .i64) b.1, .d (.sl (.int .u16)) b.2])], nx := 2, log := [], ln := 0 }
def q1n_ (l : List (Int × List Int)) (least met : Int) (t71 : List (Int × List Int)) (t72 t73 : Int) (t125 : List Int) (t126 t127 : Int) (t147 : Bool) (m : List (Int × Int)) (b : Int × List Int) : St := { fr := [(7, .mp 0), (8, .d (.sl QJT0) l), (11, .d (.int .i64) least), (13, .d (.int .i64) met), (15, .pb 1 0), (71, .d (.sl QJT0) t71), (72, .d (.int .i64) t72), (73, .d (.int .i64) t73), (125, .d (.sl (.int .u16)) t125), (126, .d (.int .i64) t126), (127, .d (.int .i64) t127), (147, .d .bool t147)], nt := 187, up := [], own := [(0, .dm (.int .i64) (.int .u16) m), (1, .box 31 [.d (.int .i64) b.1, .d (.sl (.int .u16)) b.2])], nx := 2, log := [], ln := 0 }
def q1x_ (j2 : List Bool -> List (Int × List Int) -> Bool -> Int -> Int -> Int -> Int -> List (Int × Int) -> Option (As [.bool])) (w : List Int) (is' : List Bool) (words : List Int) (have' : List Bool) : Option (As [.bool]) :=
  need (le (Int.ofNat (0 + List.length words)) (Int.ofNat (List.length words))) (need (le (Int.ofNat (0 + List.length have')) (Int.ofNat (List.length have'))) (Option.bind (q3h_ (List.take (Int.toNat (Int.ofNat (List.length words))) w ++ List.drop (0 + List.length (List.take (Int.toNat (Int.ofNat (List.length words))) w)) words, List.take (Int.toNat (Int.ofNat (List.length have'))) is' ++ List.drop (0 + List.length (List.take (Int.toNat (Int.ofNat (List.length have'))) is')) have', ())) fun (y : List (Int × Int) × Unit) => Option.bind (qq_ (y.1, ())) fun (y : List (Int × List Int) × Bool × List (Int × Int) × Unit) => j2 (List.take (Int.toNat (Int.ofNat (List.length have'))) is' ++ List.drop (0 + List.length (List.take (Int.toNat (Int.ofNat (List.length have'))) is')) have') y.1 y.2.1 0 0 (Int.ofNat (List.length (List.take (Int.toNat (Int.ofNat (List.length have'))) is' ++ List.drop (0 + List.length (List.take (Int.toNat (Int.ofNat (List.length have'))) is')) have'))) 0 y.2.2.1))
def qx_ (j3 : List Bool -> List (Int × List Int) -> Bool -> Int -> Int -> Int -> Int -> List (Int × Int) -> Option (As [.bool])) (j4 : List (Int × List Int) -> Bool -> Int -> List (Int × Int) -> Option (As [.bool])) (self2 : List Bool -> List (Int × List Int) -> Bool -> Int -> Int -> Int -> Int -> List (Int × Int) -> Option (As [.bool])) (have' : List Bool) (l : List (Int × List Int)) (ok : Bool) (runs least t42 t43 : Int) (m : List (Int × Int)) : Option (As [.bool]) :=
  if lt t43 t42 = true then Option.bind (at? have' t43) fun (y : Bool) => if (!y) = true then self2 have' l ok 0 least t42 (add .i64 t43 1) m else if eqi (rem runs 14) 0 = true then j3 have' l ok runs (add .i64 least 1) t42 t43 m else j3 have' l ok runs least t42 t43 m else j4 l ok least m
def q21_ (self2 : List Bool -> List (Int × List Int) -> Bool -> Int -> Int -> Int -> Int -> List (Int × Int) -> Option (As [.bool])) (have' : List Bool) (l : List (Int × List Int)) (ok : Bool) (runs least t42 t43 : Int) (m : List (Int × Int)) : Option (As [.bool]) :=
  self2 have' l ok (add .i64 runs 1) least t42 (add .i64 t43 1) m
def q24_ (j5 : List (Int × List Int) -> Int -> Int -> List (Int × List Int) -> Int -> Int -> List (Int × Int) -> Option (As [.bool])) (l : List (Int × List Int)) (ok : Bool) (least : Int) (m : List (Int × Int)) : Option (As [.bool]) :=
  if Sx.neb ok (le least 8) = true then some (false, ()) else if (!ok) = true then if eqi (Int.ofNat (List.length l)) 0 = true then Option.bind (q2o_ ()) fun (y : Bool × Unit) => some (y.1, ()) else some (false, ()) else j5 l least 0 l (Int.ofNat (List.length l)) 0 m
def qs_ (j6 : List (Int × List Int) -> Int -> Int -> Int -> List (Int × List Int) -> Int -> Int -> Bool -> List (Int × Int) -> Int × List Int -> Option (As [.bool])) (j7 : List (Int × List Int) -> Int -> Int -> List (Int × Int) -> Option (As [.bool])) (self5 : List (Int × List Int) -> Int -> Int -> List (Int × List Int) -> Int -> Int -> List (Int × Int) -> Option (As [.bool])) (l : List (Int × List Int)) (least met : Int) (t71 : List (Int × List Int)) (t72 t73 : Int) (m : List (Int × Int)) : Option (As [.bool]) :=
  if lt t73 t72 = true then Option.bind (at? t71 t73) fun (y : Int × List Int) => if lt (Int.ofNat (List.length y.2)) 1 = true then j6 l least met t73 t71 t72 t73 true m y else j6 l least met t73 t71 t72 t73 (gt (Int.ofNat (List.length y.2)) 14) m y else j7 l least met m
def q23_ (j8 : List (Int × List Int) -> Int -> Int -> List (Int × List Int) -> Int -> Int -> Bool -> List (Int × Int) -> Int × List Int -> Option (As [.bool])) (j9 : List (Int × List Int) -> Int -> Int -> List (Int × List Int) -> Int -> Int -> List (Int × Int) -> Int × List Int -> Option (As [.bool])) (self5 : List (Int × List Int) -> Int -> Int -> List (Int × List Int) -> Int -> Int -> List (Int × Int) -> Option (As [.bool])) (l : List (Int × List Int)) (least met i : Int) (t71 : List (Int × List Int)) (t72 t73 : Int) (t87 : Bool) (m : List (Int × Int)) (b : Int × List Int) : Option (As [.bool]) :=
  if t87 = true then some (false, ()) else if gt i 0 = true then Option.bind (at? l (Sx.sub .i64 i 1)) fun (y : Int × List Int) => Option.bind (at? l (Sx.sub .i64 i 1)) fun (y_1 : Int × List Int) => if lt b.1 (add .i64 y.1 (Int.ofNat (List.length y_1.2))) = true then j8 l least met t71 t72 t73 true m b else if eqi b.1 (add .i64 y.1 (Int.ofNat (List.length y_1.2))) = true then Option.bind (at? l (Sx.sub .i64 i 1)) fun (y : Int × List Int) => j8 l least met t71 t72 t73 (lt (Int.ofNat (List.length y.2)) 14) m b else j8 l least met t71 t72 t73 false m b else j9 l least met t71 t72 t73 m b
def q1z_ (l : List (Int × List Int)) (least met : Int) (m : List (Int × Int)) : Option (As [.bool]) :=
  Option.bind (qq_ (Ev.dput (.int .i64) m 64 1, ())) fun (y : List (Int × List Int) × Bool × List (Int × Int) × Unit) => Option.bind (qq_ (Ev.dput (.int .i64) (Ev.ddel (.int .i64) y.2.2.1 64) (-1) 1, ())) fun (y_1 : List (Int × List Int) × Bool × List (Int × Int) × Unit) => if eqi met (Sx.sub .i64 (Int.ofNat (List.length y_1.2.2.1)) 1) = true then if eqi (Int.ofNat (List.length l)) least = true then if (!y.2.1) = true then if (!y_1.2.1) = true then Option.bind (q2o_ ()) fun (y : Bool × Unit) => some (y.1, ()) else some (false, ()) else some (false, ()) else some (false, ()) else some (false, ())
def q20_ (j9 : List (Int × List Int) -> Int -> Int -> List (Int × List Int) -> Int -> Int -> List (Int × Int) -> Int × List Int -> Option (As [.bool])) (self5 : List (Int × List Int) -> Int -> Int -> List (Int × List Int) -> Int -> Int -> List (Int × Int) -> Option (As [.bool])) (l : List (Int × List Int)) (least met : Int) (t71 : List (Int × List Int)) (t72 t73 : Int) (t123 : Bool) (m : List (Int × Int)) (b : Int × List Int) : Option (As [.bool]) :=
  if t123 = true then some (false, ()) else j9 l least met t71 t72 t73 m b
def q1u_ (j10 : List (Int × List Int) -> Int -> Int -> List (Int × List Int) -> Int -> Int -> List Int -> Int -> Int -> List (Int × Int) -> Int × List Int -> Option (As [.bool])) (self5 : List (Int × List Int) -> Int -> Int -> List (Int × List Int) -> Int -> Int -> List (Int × Int) -> Option (As [.bool])) (l : List (Int × List Int)) (least met : Int) (t71 : List (Int × List Int)) (t72 t73 : Int) (m : List (Int × Int)) (b : Int × List Int) : Option (As [.bool]) :=
  j10 l least met t71 t72 t73 b.2 (Int.ofNat (List.length b.2)) 0 m b
def qr_ (j11 : List (Int × List Int) -> Int -> Int -> List (Int × List Int) -> Int -> Int -> List Int -> Int -> Int -> Bool -> List (Int × Int) -> Int × List Int -> Option (As [.bool])) (self5 : List (Int × List Int) -> Int -> Int -> List (Int × List Int) -> Int -> Int -> List (Int × Int) -> Option (As [.bool])) (self10 : List (Int × List Int) -> Int -> Int -> List (Int × List Int) -> Int -> Int -> List Int -> Int -> Int -> List (Int × Int) -> Int × List Int -> Option (As [.bool])) (l : List (Int × List Int)) (least met : Int) (t71 : List (Int × List Int)) (t72 t73 : Int) (t125 : List Int) (t126 t127 : Int) (m : List (Int × Int)) (b : Int × List Int) : Option (As [.bool]) :=
  if lt t127 t126 = true then Option.bind (at? t125 t127) fun (y : Int) => if (!Ev.isV (.int .u16) (Ev.dget (.int .i64) m (add .i64 b.1 t127))) = true then j11 l least met t71 t72 t73 t125 t126 t127 true m b else j11 l least met t71 t72 t73 t125 t126 t127 (nei (Ev.gdV (.int .u16) (Ev.dget (.int .i64) m (add .i64 b.1 t127)) 0) y) m b else self5 l least met t71 t72 (add .i64 t73 1) m
def q1m_ (self5 : List (Int × List Int) -> Int -> Int -> List (Int × List Int) -> Int -> Int -> List (Int × Int) -> Option (As [.bool])) (self10 : List (Int × List Int) -> Int -> Int -> List (Int × List Int) -> Int -> Int -> List Int -> Int -> Int -> List (Int × Int) -> Int × List Int -> Option (As [.bool])) (l : List (Int × List Int)) (least met : Int) (t71 : List (Int × List Int)) (t72 t73 : Int) (t125 : List Int) (t126 t127 : Int) (t147 : Bool) (m : List (Int × Int)) (b : Int × List Int) : Option (As [.bool]) :=
  if t147 = true then some (false, ()) else self10 l least (add .i64 met 1) t71 t72 t73 t125 t126 (add .i64 t127 1) m b
def q1w_ (j1 : List Int -> List Bool -> List Int -> List Bool -> Option (As [.bool])) (w : List Int) (is' : List Bool) : Option (As [.bool]) :=
  amb (eqAs q0_.rs) [j1 w is' (List.replicate 64 0) (List.replicate 64 false), j1 w is' (List.replicate 64 0) (List.replicate 64 false)]
def qy_ (u2 : List Bool -> List (Int × List Int) -> Bool -> Int -> Int -> Int -> Int -> List (Int × Int) -> Option (As [.bool])) (have' : List Bool) (l : List (Int × List Int)) (ok : Bool) (runs least t42 t43 : Int) (m : List (Int × Int)) : Option (As [.bool]) := q21_ u2 have' l ok runs least t42 t43 m
def q18_ (u5 : List (Int × List Int) -> Int -> Int -> List (Int × List Int) -> Int -> Int -> List (Int × Int) -> Option (As [.bool])) (u10 : List (Int × List Int) -> Int -> Int -> List (Int × List Int) -> Int -> Int -> List Int -> Int -> Int -> List (Int × Int) -> Int × List Int -> Option (As [.bool])) (l : List (Int × List Int)) (least met : Int) (t71 : List (Int × List Int)) (t72 t73 : Int) (t125 : List Int) (t126 t127 : Int) (t147 : Bool) (m : List (Int × Int)) (b : Int × List Int) : Option (As [.bool]) := q1m_ u5 u10 l least met t71 t72 t73 t125 t126 t127 t147 m b
def q1b_ (u5 : List (Int × List Int) -> Int -> Int -> List (Int × List Int) -> Int -> Int -> List (Int × Int) -> Option (As [.bool])) (l : List (Int × List Int)) (least met : Int) (t71 : List (Int × List Int)) (t72 t73 : Int) (t125 : List Int) (t126 t127 : Int) (m : List (Int × Int)) (b : Int × List Int) : Option (As [.bool]) :=
  loopF (fun (self : (List (Int × List Int)) × (Int) × (Int) × (List (Int × List Int)) × (Int) × (Int) × (List Int) × (Int) × (Int) × (List (Int × Int)) × (Int × List Int) -> Option (As [.bool])) (s : (List (Int × List Int)) × (Int) × (Int) × (List (Int × List Int)) × (Int) × (Int) × (List Int) × (Int) × (Int) × (List (Int × Int)) × (Int × List Int)) => qr_ (q18_ u5 (fun l least met t71 t72 t73 t125 t126 t127 m b => self (l, least, met, t71, t72, t73, t125, t126, t127, m, b))) u5 (fun l least met t71 t72 t73 t125 t126 t127 m b => self (l, least, met, t71, t72, t73, t125, t126, t127, m, b)) s.1 s.2.1 s.2.2.1 s.2.2.2.1 s.2.2.2.2.1 s.2.2.2.2.2.1 s.2.2.2.2.2.2.1 s.2.2.2.2.2.2.2.1 s.2.2.2.2.2.2.2.2.1 s.2.2.2.2.2.2.2.2.2.1 s.2.2.2.2.2.2.2.2.2.2) 18446744073709551616 (l, least, met, t71, t72, t73, t125, t126, t127, m, b)
def qg_ (u5 : List (Int × List Int) -> Int -> Int -> List (Int × List Int) -> Int -> Int -> List (Int × Int) -> Option (As [.bool])) (l : List (Int × List Int)) (least met : Int) (t71 : List (Int × List Int)) (t72 t73 : Int) (m : List (Int × Int)) (b : Int × List Int) : Option (As [.bool]) := q1u_ (q1b_ u5) u5 l least met t71 t72 t73 m b
def q1f_ (u5 : List (Int × List Int) -> Int -> Int -> List (Int × List Int) -> Int -> Int -> List (Int × Int) -> Option (As [.bool])) (l : List (Int × List Int)) (least met : Int) (t71 : List (Int × List Int)) (t72 t73 : Int) (t123 : Bool) (m : List (Int × Int)) (b : Int × List Int) : Option (As [.bool]) := q20_ (qg_ u5) u5 l least met t71 t72 t73 t123 m b
def q1g_ (u5 : List (Int × List Int) -> Int -> Int -> List (Int × List Int) -> Int -> Int -> List (Int × Int) -> Option (As [.bool])) (l : List (Int × List Int)) (least met i : Int) (t71 : List (Int × List Int)) (t72 t73 : Int) (t87 : Bool) (m : List (Int × Int)) (b : Int × List Int) : Option (As [.bool]) := q23_ (q1f_ u5) (qg_ u5) u5 l least met i t71 t72 t73 t87 m b
def qh_ (l : List (Int × List Int)) (least met : Int) (m : List (Int × Int)) : Option (As [.bool]) := q1z_ l least met m
def qv_ (l : List (Int × List Int)) (least met : Int) (t71 : List (Int × List Int)) (t72 t73 : Int) (m : List (Int × Int)) : Option (As [.bool]) :=
  loopF (fun (self : (List (Int × List Int)) × (Int) × (Int) × (List (Int × List Int)) × (Int) × (Int) × (List (Int × Int)) -> Option (As [.bool])) (s : (List (Int × List Int)) × (Int) × (Int) × (List (Int × List Int)) × (Int) × (Int) × (List (Int × Int))) => qs_ (q1g_ (fun l least met t71 t72 t73 m => self (l, least, met, t71, t72, t73, m))) (qh_) (fun l least met t71 t72 t73 m => self (l, least, met, t71, t72, t73, m)) s.1 s.2.1 s.2.2.1 s.2.2.2.1 s.2.2.2.2.1 s.2.2.2.2.2.1 s.2.2.2.2.2.2) 18446744073709551616 (l, least, met, t71, t72, t73, m)
def qw_ (l : List (Int × List Int)) (ok : Bool) (least : Int) (m : List (Int × Int)) : Option (As [.bool]) := q24_ (qv_) l ok least m
def qt_ (have' : List Bool) (l : List (Int × List Int)) (ok : Bool) (runs least t42 t43 : Int) (m : List (Int × Int)) : Option (As [.bool]) :=
  loopF (fun (self : (List Bool) × (List (Int × List Int)) × (Bool) × (Int) × (Int) × (Int) × (Int) × (List (Int × Int)) -> Option (As [.bool])) (s : (List Bool) × (List (Int × List Int)) × (Bool) × (Int) × (Int) × (Int) × (Int) × (List (Int × Int))) => qx_ (qy_ (fun have' l ok runs least t42 t43 m => self (have', l, ok, runs, least, t42, t43, m))) (qw_) (fun have' l ok runs least t42 t43 m => self (have', l, ok, runs, least, t42, t43, m)) s.1 s.2.1 s.2.2.1 s.2.2.2.1 s.2.2.2.2.1 s.2.2.2.2.2.1 s.2.2.2.2.2.2.1 s.2.2.2.2.2.2.2) 18446744073709551616 (have', l, ok, runs, least, t42, t43, m)
def q1v_ (w : List Int) (is' : List Bool) (words : List Int) (have' : List Bool) : Option (As [.bool]) := q1x_ (qt_) w is' words have'
def q2k_ (x : As [.sl (.int .u16), .sl .bool]) : Option (As [.bool]) := q1w_ q1v_ x.1 x.2.1
theorem q47_  (J w2 have' l ok runs least t42 t43 m) : pfn Try.prog q2_ 6 18446744073709551616 (Ev.get q1_) 3 q0_ J 261427 [w2] (q25_ have' l ok runs least t42 t43 m) = q21_ (fun have' l ok runs least t42 t43 m => w2 (qf_ have' l ok runs least t42 t43 m)) have' l ok runs least t42 t43 m := by kernel_rfl
theorem q3v_  (J w5 w10 l least met t71 t72 t73 t125 t126 t127 t147 m b) : pfn Try.prog q2_ 6 18446744073709551616 (Ev.get q1_) 3 q0_ J 8588467813 [w5, w10] (q1n_ l least met t71 t72 t73 t125 t126 t127 t147 m b) = q1m_ (fun l least met t71 t72 t73 m => w5 (q4_ l least met t71 t72 t73 m)) (fun l least met t71 t72 t73 t125 t126 t127 m b => w10 (qb_ l least met t71 t72 t73 t125 t126 t127 m b)) l least met t71 t72 t73 t125 t126 t127 t147 m b := by kernel_rfl
theorem q3w_  (J w5 w10 l least met t71 t72 t73 t125 t126 t127 m b) : pfn Try.prog q2_ 6 18446744073709551616 (Ev.get q1_) 3 q0_ J 33548702 [w5, w10] (qb_ l least met t71 t72 t73 t125 t126 t127 m b) = qr_ (fun l least met t71 t72 t73 t125 t126 t127 t147 m b => J 8588467813 [w5, w10] (q1n_ l least met t71 t72 t73 t125 t126 t127 t147 m b)) (fun l least met t71 t72 t73 m => w5 (q4_ l least met t71 t72 t73 m)) (fun l least met t71 t72 t73 t125 t126 t127 m b => w10 (qb_ l least met t71 t72 t73 t125 t126 t127 m b)) l least met t71 t72 t73 t125 t126 t127 m b := by kernel_rfl
theorem q44_  (J w5 l least met t71 t72 t73 m b) : pfn Try.prog q2_ 6 18446744073709551616 (Ev.get q1_) 3 q0_ J 4193587 [w5] (qu_ l least met t71 t72 t73 m b) = q1u_ (fun l least met t71 t72 t73 t125 t126 t127 m b => J 33548702 [w5] (qb_ l least met t71 t72 t73 t125 t126 t127 m b)) (fun l least met t71 t72 t73 m => w5 (q4_ l least met t71 t72 t73 m)) l least met t71 t72 t73 m b := by kernel_rfl
theorem q4g_  (J w5 l least met t71 t72 t73 t123 m b) : pfn Try.prog q2_ 6 18446744073709551616 (Ev.get q1_) 3 q0_ J 67097397 [w5] (q1y_ l least met t71 t72 t73 t123 m b) = q20_ (fun l least met t71 t72 t73 m b => J 4193587 [w5] (qu_ l least met t71 t72 t73 m b)) (fun l least met t71 t72 t73 m => w5 (q4_ l least met t71 t72 t73 m)) l least met t71 t72 t73 t123 m b := by kernel_rfl
theorem q46_  (J w5 l least met i t71 t72 t73 t87 m b) : pfn Try.prog q2_ 6 18446744073709551616 (Ev.get q1_) 3 q0_ J 4193586 [w5] (q22_ l least met i t71 t72 t73 t87 m b) = q23_ (fun l least met t71 t72 t73 t123 m b => J 67097397 [w5] (q1y_ l least met t71 t72 t73 t123 m b)) (fun l least met t71 t72 t73 m b => J 4193587 [w5] (qu_ l least met t71 t72 t73 m b)) (fun l least met t71 t72 t73 m => w5 (q4_ l least met t71 t72 t73 m)) l least met i t71 t72 t73 t87 m b := by kernel_rfl
theorem q40_  (J l least met m) : pfn Try.prog q2_ 6 18446744073709551616 (Ev.get q1_) 3 q0_ J 4095 [] (q26_ l least met m) = q1z_ l least met m := by kernel_rfl
theorem q4c_  (J w5 l least met t71 t72 t73 m) : pfn Try.prog q2_ 6 18446744073709551616 (Ev.get q1_) 3 q0_ J 32762 [w5] (q4_ l least met t71 t72 t73 m) = qs_ (fun l least met i t71 t72 t73 t87 m b => J 4193586 [w5] (q22_ l least met i t71 t72 t73 t87 m b)) (fun l least met m => J 4095 [] (q26_ l least met m)) (fun l least met t71 t72 t73 m => w5 (q4_ l least met t71 t72 t73 m)) l least met t71 t72 t73 m := by kernel_rfl
theorem q43_  (J l ok least m) : pfn Try.prog q2_ 6 18446744073709551616 (Ev.get q1_) 3 q0_ J 255 [] (q27_ l ok least m) = q24_ (fun l least met t71 t72 t73 m => J 32762 [] (q4_ l least met t71 t72 t73 m)) l ok least m := by kernel_rfl
theorem q4d_  (J w2 have' l ok runs least t42 t43 m) : pfn Try.prog q2_ 6 18446744073709551616 (Ev.get q1_) 3 q0_ J 2042 [w2] (qf_ have' l ok runs least t42 t43 m) = qx_ (fun have' l ok runs least t42 t43 m => J 261427 [w2] (q25_ have' l ok runs least t42 t43 m)) (fun l ok least m => J 255 [] (q27_ l ok least m)) (fun have' l ok runs least t42 t43 m => w2 (qf_ have' l ok runs least t42 t43 m)) have' l ok runs least t42 t43 m := by kernel_rfl
theorem q4h_  (J w is' words have') : pfn Try.prog q2_ 6 18446744073709551616 (Ev.get q1_) 3 q0_ J 3 [] (q28_ w is' words have') = q1x_ (fun have' l ok runs least t42 t43 m => J 2042 [] (qf_ have' l ok runs least t42 t43 m)) w is' words have' := by kernel_rfl
theorem q4e_ (J : Orc (As [.bool])) (x : As [.sl (.int .u16), .sl .bool]) : rfn Try.prog q2_ 6 18446744073709551616 (Ev.get q1_) 3 q0_ J x = q1w_ (fun w is' words have' => J 3 [] (q28_ w is' words have')) x.1 x.2.1 := by kernel_rfl
theorem q4a_  (w2 have' l ok runs least t42 t43 m) : jfn Try.prog q2_ 6 18446744073709551616 (Ev.get q1_) 3 q0_ 261427 [w2] (q25_ have' l ok runs least t42 t43 m) = qy_ (fun have' l ok runs least t42 t43 m => w2 (qf_ have' l ok runs least t42 t43 m)) have' l ok runs least t42 t43 m := by
  rw [pfn_eq (by decide)]
  rw [q47_]
  rfl
theorem q3u_  (w5 w10 l least met t71 t72 t73 t125 t126 t127 t147 m b) : jfn Try.prog q2_ 6 18446744073709551616 (Ev.get q1_) 3 q0_ 8588467813 [w5, w10] (q1n_ l least met t71 t72 t73 t125 t126 t127 t147 m b) = q18_ (fun l least met t71 t72 t73 m => w5 (q4_ l least met t71 t72 t73 m)) (fun l least met t71 t72 t73 t125 t126 t127 m b => w10 (qb_ l least met t71 t72 t73 t125 t126 t127 m b)) l least met t71 t72 t73 t125 t126 t127 t147 m b := by
  rw [pfn_eq (by decide)]
  rw [q3v_]
  rfl
theorem q3x_  (w5 l least met t71 t72 t73 t125 t126 t127 m b) : jfn Try.prog q2_ 6 18446744073709551616 (Ev.get q1_) 3 q0_ 33548702 [w5] (qb_ l least met t71 t72 t73 t125 t126 t127 m b) = q1b_ (fun l least met t71 t72 t73 m => w5 (q4_ l least met t71 t72 t73 m)) l least met t71 t72 t73 t125 t126 t127 m b := by
  rw [pfn_eq (by decide)]
  rw [pfn_loop (by kernel_rfl)]
  refine loopF_sim (σ := (List (Int × List Int)) × (Int) × (Int) × (List (Int × List Int)) × (Int) × (Int) × (List Int) × (Int) × (Int) × (List (Int × Int)) × (Int × List Int)) (mk := fun s => qb_ s.1 s.2.1 s.2.2.1 s.2.2.2.1 s.2.2.2.2.1 s.2.2.2.2.2.1 s.2.2.2.2.2.2.1 s.2.2.2.2.2.2.2.1 s.2.2.2.2.2.2.2.2.1 s.2.2.2.2.2.2.2.2.2.1 s.2.2.2.2.2.2.2.2.2.2) (fun w10 s => ?_) 18446744073709551616 (l, least, met, t71, t72, t73, t125, t126, t127, m, b)
  have e11 : (fun l least met t71 t72 t73 t125 t126 t127 t147 m b => (jfn Try.prog q2_ 6 18446744073709551616 (Ev.get q1_) 3 q0_) 8588467813 [w5, w10] (q1n_ l least met t71 t72 t73 t125 t126 t127 t147 m b)) = q18_ (fun l least met t71 t72 t73 m => w5 (q4_ l least met t71 t72 t73 m)) (fun l least met t71 t72 t73 t125 t126 t127 m b => w10 (qb_ l least met t71 t72 t73 t125 t126 t127 m b)) := by funext l least met t71 t72 t73 t125 t126 t127 t147 m b; exact q3u_ w5 w10 l least met t71 t72 t73 t125 t126 t127 t147 m b
  refine (q3w_ _ w5 w10 s.1 s.2.1 s.2.2.1 s.2.2.2.1 s.2.2.2.2.1 s.2.2.2.2.2.1 s.2.2.2.2.2.2.1 s.2.2.2.2.2.2.2.1 s.2.2.2.2.2.2.2.2.1 s.2.2.2.2.2.2.2.2.2.1 s.2.2.2.2.2.2.2.2.2.2).trans ?_
  rw [e11]
theorem q3e_  (w5 l least met t71 t72 t73 m b) : jfn Try.prog q2_ 6 18446744073709551616 (Ev.get q1_) 3 q0_ 4193587 [w5] (qu_ l least met t71 t72 t73 m b) = qg_ (fun l least met t71 t72 t73 m => w5 (q4_ l least met t71 t72 t73 m)) l least met t71 t72 t73 m b := by
  rw [pfn_eq (by decide)]
  have e10 : (fun l least met t71 t72 t73 t125 t126 t127 m b => (jfn Try.prog q2_ 6 18446744073709551616 (Ev.get q1_) 3 q0_) 33548702 [w5] (qb_ l least met t71 t72 t73 t125 t126 t127 m b)) = q1b_ (fun l least met t71 t72 t73 m => w5 (q4_ l least met t71 t72 t73 m)) := by funext l least met t71 t72 t73 t125 t126 t127 m b; exact q3x_ w5 l least met t71 t72 t73 t125 t126 t127 m b
  rw [q44_, e10]
  rfl
theorem q41_  (w5 l least met t71 t72 t73 t123 m b) : jfn Try.prog q2_ 6 18446744073709551616 (Ev.get q1_) 3 q0_ 67097397 [w5] (q1y_ l least met t71 t72 t73 t123 m b) = q1f_ (fun l least met t71 t72 t73 m => w5 (q4_ l least met t71 t72 t73 m)) l least met t71 t72 t73 t123 m b := by
  rw [pfn_eq (by decide)]
  have e9 : (fun l least met t71 t72 t73 m b => (jfn Try.prog q2_ 6 18446744073709551616 (Ev.get q1_) 3 q0_) 4193587 [w5] (qu_ l least met t71 t72 t73 m b)) = qg_ (fun l least met t71 t72 t73 m => w5 (q4_ l least met t71 t72 t73 m)) := by funext l least met t71 t72 t73 m b; exact q3e_ w5 l least met t71 t72 t73 m b
  rw [q4g_, e9]
  rfl
theorem q4f_  (w5 l least met i t71 t72 t73 t87 m b) : jfn Try.prog q2_ 6 18446744073709551616 (Ev.get q1_) 3 q0_ 4193586 [w5] (q22_ l least met i t71 t72 t73 t87 m b) = q1g_ (fun l least met t71 t72 t73 m => w5 (q4_ l least met t71 t72 t73 m)) l least met i t71 t72 t73 t87 m b := by
  rw [pfn_eq (by decide)]
  have e8 : (fun l least met t71 t72 t73 t123 m b => (jfn Try.prog q2_ 6 18446744073709551616 (Ev.get q1_) 3 q0_) 67097397 [w5] (q1y_ l least met t71 t72 t73 t123 m b)) = q1f_ (fun l least met t71 t72 t73 m => w5 (q4_ l least met t71 t72 t73 m)) := by funext l least met t71 t72 t73 t123 m b; exact q41_ w5 l least met t71 t72 t73 t123 m b
  have e9 : (fun l least met t71 t72 t73 m b => (jfn Try.prog q2_ 6 18446744073709551616 (Ev.get q1_) 3 q0_) 4193587 [w5] (qu_ l least met t71 t72 t73 m b)) = qg_ (fun l least met t71 t72 t73 m => w5 (q4_ l least met t71 t72 t73 m)) := by funext l least met t71 t72 t73 m b; exact q3e_ w5 l least met t71 t72 t73 m b
  rw [q46_, e8, e9]
  rfl
theorem q4b_  (l least met m) : jfn Try.prog q2_ 6 18446744073709551616 (Ev.get q1_) 3 q0_ 4095 [] (q26_ l least met m) = qh_ l least met m := by
  rw [pfn_eq (by decide)]
  rw [q40_]
  rfl
theorem q48_  (l least met t71 t72 t73 m) : jfn Try.prog q2_ 6 18446744073709551616 (Ev.get q1_) 3 q0_ 32762 [] (q4_ l least met t71 t72 t73 m) = qv_ l least met t71 t72 t73 m := by
  rw [pfn_eq (by decide)]
  rw [pfn_loop (by kernel_rfl)]
  refine loopF_sim (σ := (List (Int × List Int)) × (Int) × (Int) × (List (Int × List Int)) × (Int) × (Int) × (List (Int × Int))) (mk := fun s => q4_ s.1 s.2.1 s.2.2.1 s.2.2.2.1 s.2.2.2.2.1 s.2.2.2.2.2.1 s.2.2.2.2.2.2) (fun w5 s => ?_) 18446744073709551616 (l, least, met, t71, t72, t73, m)
  have e6 : (fun l least met i t71 t72 t73 t87 m b => (jfn Try.prog q2_ 6 18446744073709551616 (Ev.get q1_) 3 q0_) 4193586 [w5] (q22_ l least met i t71 t72 t73 t87 m b)) = q1g_ (fun l least met t71 t72 t73 m => w5 (q4_ l least met t71 t72 t73 m)) := by funext l least met i t71 t72 t73 t87 m b; exact q4f_ w5 l least met i t71 t72 t73 t87 m b
  have e7 : (fun l least met m => (jfn Try.prog q2_ 6 18446744073709551616 (Ev.get q1_) 3 q0_) 4095 [] (q26_ l least met m)) = qh_ := by funext l least met m; exact q4b_ l least met m
  refine (q4c_ _ w5 s.1 s.2.1 s.2.2.1 s.2.2.2.1 s.2.2.2.2.1 s.2.2.2.2.2.1 s.2.2.2.2.2.2).trans ?_
  rw [e6, e7]
theorem q45_  (l ok least m) : jfn Try.prog q2_ 6 18446744073709551616 (Ev.get q1_) 3 q0_ 255 [] (q27_ l ok least m) = qw_ l ok least m := by
  rw [pfn_eq (by decide)]
  have e5 : (fun l least met t71 t72 t73 m => (jfn Try.prog q2_ 6 18446744073709551616 (Ev.get q1_) 3 q0_) 32762 [] (q4_ l least met t71 t72 t73 m)) = qv_ := by funext l least met t71 t72 t73 m; exact q48_ l least met t71 t72 t73 m
  rw [q43_, e5]
  rfl
theorem q3z_  (have' l ok runs least t42 t43 m) : jfn Try.prog q2_ 6 18446744073709551616 (Ev.get q1_) 3 q0_ 2042 [] (qf_ have' l ok runs least t42 t43 m) = qt_ have' l ok runs least t42 t43 m := by
  rw [pfn_eq (by decide)]
  rw [pfn_loop (by kernel_rfl)]
  refine loopF_sim (σ := (List Bool) × (List (Int × List Int)) × (Bool) × (Int) × (Int) × (Int) × (Int) × (List (Int × Int))) (mk := fun s => qf_ s.1 s.2.1 s.2.2.1 s.2.2.2.1 s.2.2.2.2.1 s.2.2.2.2.2.1 s.2.2.2.2.2.2.1 s.2.2.2.2.2.2.2) (fun w2 s => ?_) 18446744073709551616 (have', l, ok, runs, least, t42, t43, m)
  have e3 : (fun have' l ok runs least t42 t43 m => (jfn Try.prog q2_ 6 18446744073709551616 (Ev.get q1_) 3 q0_) 261427 [w2] (q25_ have' l ok runs least t42 t43 m)) = qy_ (fun have' l ok runs least t42 t43 m => w2 (qf_ have' l ok runs least t42 t43 m)) := by funext have' l ok runs least t42 t43 m; exact q4a_ w2 have' l ok runs least t42 t43 m
  have e4 : (fun l ok least m => (jfn Try.prog q2_ 6 18446744073709551616 (Ev.get q1_) 3 q0_) 255 [] (q27_ l ok least m)) = qw_ := by funext l ok least m; exact q45_ l ok least m
  refine (q4d_ _ w2 s.1 s.2.1 s.2.2.1 s.2.2.2.1 s.2.2.2.2.1 s.2.2.2.2.2.1 s.2.2.2.2.2.2.1 s.2.2.2.2.2.2.2).trans ?_
  rw [e3, e4]
theorem q42_  (w is' words have') : jfn Try.prog q2_ 6 18446744073709551616 (Ev.get q1_) 3 q0_ 3 [] (q28_ w is' words have') = q1v_ w is' words have' := by
  rw [pfn_eq (by decide)]
  have e2 : (fun have' l ok runs least t42 t43 m => (jfn Try.prog q2_ 6 18446744073709551616 (Ev.get q1_) 3 q0_) 2042 [] (qf_ have' l ok runs least t42 t43 m)) = qt_ := by funext have' l ok runs least t42 t43 m; exact q3z_ have' l ok runs least t42 t43 m
  rw [q4h_, e2]
  rfl
theorem q4i_ (x : As [.sl (.int .u16), .sl .bool]) : evT Try.prog q2_ 6 18446744073709551616 (Ev.get q1_) 3 q0_ x = q2k_ x := by
  have e1 : (fun w is' words have' => (jfn Try.prog q2_ 6 18446744073709551616 (Ev.get q1_) 3 q0_) 3 [] (q28_ w is' words have')) = q1v_ := by funext w is' words have'; exact q42_ w is' words have'
  rw [rfn_eq, q4e_, e1]
  rfl
theorem q49_ : CtOk Try.prog (fun _ => True) 3 ⟨q0_, q2k_⟩ := ct_of_ev (env_cons q5e_ (env_cons q3t_ (env_cons q4t_ env_nil))) q4i_
end Go.Proofs.Lx
end
section
namespace Pl
open Go Ev Sx
end Pl
end
section
namespace Pl
open Go Ev Sx
end Pl
end
section
set_option maxRecDepth 100000
namespace Go.Proofs.Lx
open Go Ev Sx Pl
def ents : Nat -> List Int -> List Bool -> List (Int × Int)
  | i, w :: ws, b :: bs => if b = true then ((i : Int), w) :: ents (i + 1) ws bs else ents (i + 1) ws bs
  | _, _, _ => []
def rise (es : List (Int × Int)) : Prop := (es.map (·.1)).Pairwise (· < ·)
theorem ents_lo : ∀ {i : Nat} {ws : List Int} {bs : List Bool} {e : Int × Int}, e ∈ ents i ws bs -> (i : Int) ≤ e.1 ∧ e.1 < i + bs.length
  | i, w :: ws, b :: bs, e, h => by
    unfold ents at h
    have hr : ∀ {e}, e ∈ ents (i + 1) ws bs -> (i : Int) ≤ e.1 ∧ e.1 < i + (b :: bs).length := fun h => by
      have := ents_lo h
      simp only [List.length_cons]
      omega
    split at h
    · rcases List.mem_cons.1 h with h | h
      · subst h; simp only [List.length_cons]; omega
      · exact hr h
    · exact hr h
  | _, [], _, _, h => by simp [ents] at h
  | _, _ :: _, [], _, h => by simp [ents] at h
theorem ents_rise : ∀ {i : Nat} {ws : List Int} {bs : List Bool}, rise (ents i ws bs)
  | i, w :: ws, b :: bs => by
    unfold ents
    split
    · unfold rise
      simp only [List.map_cons, List.pairwise_cons]
      refine ⟨fun k hk => ?_, ents_rise⟩
      obtain ⟨e, he, rfl⟩ := List.mem_map.1 hk
      have := ents_lo he
      omega
    · exact ents_rise
  | _, [], _ => by simp [ents, rise]
  | _, _ :: _, [] => by simp [ents, rise]
theorem ents_len : ∀ {i : Nat} {ws : List Int} {bs : List Bool}, (ents i ws bs).length ≤ bs.length
  | i, w :: ws, b :: bs => by
    unfold ents
    have := @ents_len (i + 1) ws bs
    split <;> simp only [List.length_cons] <;> omega
  | _, [], _ => by simp [ents]
  | _, _ :: _, [] => by simp [ents]
theorem keqi {k : IntKind} {a b : Int} : keq (.int k) a b = true ↔ a = b := by simp [keq, eqi]
theorem dget_in {k : IntKind} : ∀ {m : List (Int × Int)} {a b : Int}, rise m -> (a, b) ∈ m -> dget (.int k) m a = some b
  | [], _, _, _, h => by cases h
  | (c, d) :: r, a, b, hr, h => by
    unfold rise at hr
    simp only [List.map_cons, List.pairwise_cons] at hr
    unfold dget
    rcases List.mem_cons.1 h with h | h
    · cases h
      rw [if_pos (keqi.2 rfl)]
    · have := hr.1 a (List.mem_map.2 ⟨_, h, rfl⟩)
      rw [if_neg (by rw [keqi]; omega)]
      exact dget_in hr.2 h
theorem dput_out {k : IntKind} : ∀ {m : List (Int × Int)} {a b : Int}, (∀ e ∈ m, e.1 ≠ a) -> dput (.int k) m a b = m ++ [(a, b)]
  | [], _, _, _ => rfl
  | (c, d) :: r, a, b, h => by
    unfold dput
    rw [if_neg (by rw [keqi]; exact h _ (List.mem_cons_self ..)), dput_out fun e he => h e (List.mem_cons_of_mem _ he)]
    rfl
theorem ddel_last {k : IntKind} : ∀ {m : List (Int × Int)} {a b : Int}, (∀ e ∈ m, e.1 ≠ a) -> ddel (.int k) (m ++ [(a, b)]) a = m
  | [], _, _, _ => by simp [ddel, keqi]
  | (c, d) :: r, a, b, h => by
    show ddel (.int k) ((c, d) :: (r ++ [(a, b)])) a = _
    unfold ddel
    rw [if_neg (by rw [keqi]; exact h _ (List.mem_cons_self ..)), ddel_last fun e he => h e (List.mem_cons_of_mem _ he)]
theorem sorted_rise {m : List (Int × Int)} (h : rise m) : sorted (m.map (·.1)) = m.map (·.1) :=
  List.mergeSort_of_pairwise (h.imp fun h => by simp; omega)
def stepV (v : Int) (l : List Bk) (z : Int) : Option (List Bk) :=
  if z < 0 ∨ 64 ≤ z then none else
  match l.getLast? with
  | none => some [(z, [v])]
  | some (a, ws) => if z ≠ a + (ws.length : Int) ∨ ws.length = 14 then (if l.length = 8 then none else some (l ++ [(z, [v])])) else some (l.dropLast ++ [(a, ws ++ [v])])
theorem stepV_eq (m : List (Int × Int)) (l : List Bk) (z : Int) : bkStep m l z = stepV (bkV m z) l z := rfl
def foldE : List (Int × Int) -> Option (List Bk) -> Option (List Bk)
  | [], r => r
  | e :: q, r => foldE q (r.bind fun l => stepV e.2 l e.1)
theorem bkAll_fold {m : List (Int × Int)} : ∀ {es : List (Int × Int)} {r : Option (List Bk)}, (∀ e ∈ es, dget kT m e.1 = some e.2) -> bkAll m (es.map (·.1)) r = foldE es r
  | [], _, _ => rfl
  | e :: q, r, h => by
    show bkAll m (q.map (·.1)) _ = foldE q _
    rw [bkAll_fold fun e he => h e (List.mem_cons_of_mem _ he)]
    have hv : bkV m e.1 = e.2 := by unfold bkV; rw [h e (List.mem_cons_self ..)]; rfl
    congr 1
    cases r with
    | none => rfl
    | some l => show bkStep m l e.1 = stepV e.2 l e.1; rw [stepV_eq, hv]
def resOf : Option (List Bk) -> List Bk × Bool
  | some l => (l, true)
  | none => ([], false)
theorem bkRes_eq (m : List (Int × Int)) : bkRes m = if m.length > 64 then ([], false) else resOf (bkAll m (sorted (m.map (·.1))) (some [])) := by
  unfold bkRes
  cases bkAll m (sorted (m.map (·.1))) (some []) <;> rfl
theorem bkRes_rise {m : List (Int × Int)} (h : rise m) (hl : m.length ≤ 64) : bkRes m = resOf (foldE m (some [])) := by
  rw [bkRes_eq, if_neg (by omega), sorted_rise h, bkAll_fold fun e he => dget_in h he]
theorem bkRes_far {m : List (Int × Int)} (h : rise m) (hk : ∀ e ∈ m, e.1 < 64) (v : Int) : bkRes (m ++ [(64, v)]) = ([], false) := by
  rw [bkRes_eq]
  split
  · rfl
  · have hr : rise (m ++ [(64, v)]) := by
      unfold rise
      rw [List.map_append, List.pairwise_append]
      refine ⟨h, by simp, fun a ha b hb => ?_⟩
      obtain ⟨e, he, rfl⟩ := List.mem_map.1 ha
      simp at hb
      have := hk e he
      omega
    rw [sorted_rise hr, List.map_append, List.map_singleton, bkAll_snoc]
    cases bkAll (m ++ [(64, v)]) (m.map (·.1)) (some []) with
    | none => rfl
    | some l =>
      have : bkStep (m ++ [(64, v)]) l 64 = none := by unfold bkStep; rw [if_pos (.inr (by decide))]
      show resOf (bkStep (m ++ [(64, v)]) l 64) = _
      rw [this]
      rfl
theorem bkRes_below {m : List (Int × Int)} (h : rise m) (hk : ∀ e ∈ m, 0 ≤ e.1) (v : Int) : bkRes (m ++ [(-1, v)]) = ([], false) := by
  rw [bkRes_eq]
  split
  · rfl
  · have hs : sorted ((m ++ [(-1, v)]).map (fun e : Int × Int => e.1)) = -1 :: m.map (fun e : Int × Int => e.1) := by
      have hp : ((m ++ [(-1, v)]).map (fun e : Int × Int => e.1)).Perm (-1 :: m.map (fun e : Int × Int => e.1)) := by
        rw [List.map_append]
        exact List.perm_append_comm
      have e1 := mergeSort_of_perm_i hp
      have e2 : (-1 :: m.map (fun e : Int × Int => e.1)).mergeSort leI = -1 :: m.map (fun e : Int × Int => e.1) := List.mergeSort_of_pairwise (by
        rw [List.pairwise_cons]
        refine ⟨fun a ha => ?_, h.imp fun h => by simp [leI]; omega⟩
        obtain ⟨e, he, rfl⟩ := List.mem_map.1 ha
        have := hk e he
        simp [leI]
        omega)
      exact e1.trans e2
    have : bkStep (m ++ [(-1, v)]) [] (-1) = none := by unfold bkStep; rw [if_pos (.inl (by decide))]
    rw [hs]
    show resOf (bkAll (m ++ [(-1, v)]) (m.map (·.1)) (bkStep (m ++ [(-1, v)]) [] (-1))) = _
    rw [this, bkAll_none]
    rfl
def fl : Int -> List Int -> List (Int × Int)
  | a, w :: r => (a, w) :: fl (a + 1) r
  | _, [] => []
theorem fl_snoc : ∀ (a : Int) (ws : List Int) (v : Int), fl a (ws ++ [v]) = fl a ws ++ [(a + (ws.length : Int), v)]
  | a, [], v => by simp [fl]
  | a, w :: r, v => by
    show (a, w) :: fl (a + 1) (r ++ [v]) = (a, w) :: (fl (a + 1) r ++ _)
    rw [fl_snoc (a + 1) r v]
    have : a + 1 + (r.length : Int) = a + ((w :: r).length : Int) := by simp only [List.length_cons]; omega
    rw [this]
def flat (l : List Bk) : List (Int × Int) := l.flatMap fun b => fl b.1 b.2
def nxt (b c : Bk) : Prop := b.1 + (b.2.length : Int) < c.1 ∨ (b.1 + (b.2.length : Int) = c.1 ∧ b.2.length = 14)
structure Good (l : List Bk) : Prop where
  len : ∀ b ∈ l, 1 ≤ b.2.length ∧ b.2.length ≤ 14
  chn : ∀ (j : Nat) (b c : Bk), l[j]? = some b -> l[j + 1]? = some c -> nxt b c
def rl : List Bool -> Nat × Nat -> Nat × Nat
  | [], p => p
  | b :: q, p => rl q (if b = true then (p.1 + 1, if p.1 % 14 = 0 then p.2 + 1 else p.2) else (0, p.2))
structure BI (i runs : Nat) (l : List Bk) : Prop where
  zero : runs = 0 -> ∀ a ws, l.getLast? = some (a, ws) -> a + (ws.length : Int) < i
  pos : runs ≠ 0 -> ∃ l' a ws, l = l' ++ [(a, ws)] ∧ a + (ws.length : Int) = i ∧ ws.length = (runs - 1) % 14 + 1
def InvB (i runs least : Nat) (done : List (Int × Int)) : Option (List Bk) -> Prop
  | none => 9 ≤ least
  | some l => Good l ∧ l.length = least ∧ l.length ≤ 8 ∧ flat l = done ∧ BI i runs l
theorem good_snoc {l : List Bk} {x : Bk} (h : Good l) (h1 : 1 ≤ x.2.length) (h2 : x.2.length ≤ 14) (h3 : ∀ b, l.getLast? = some b -> nxt b x) : Good (l ++ [x]) := by
  refine ⟨fun b hb => ?_, fun j b c hb hc => ?_⟩
  · rcases List.mem_append.1 hb with hb | hb
    · exact h.len b hb
    · simp at hb; subst hb; exact ⟨h1, h2⟩
  · rcases Nat.lt_trichotomy (j + 1) l.length with hj | hj | hj
    · rw [List.getElem?_append_left (by omega)] at hb
      rw [List.getElem?_append_left hj] at hc
      exact h.chn j b c hb hc
    · rw [List.getElem?_append_left (by omega)] at hb
      rw [List.getElem?_append_right (by omega), hj] at hc
      simp at hc
      subst hc
      refine h3 b ?_
      rw [List.getLast?_eq_getElem?, <- hb]
      congr 1
      omega
    · rw [List.getElem?_append_right (by omega)] at hc
      rw [List.getElem?_eq_none (by simp; omega)] at hc
      cases hc
theorem good_grow {l : List Bk} {a : Int} {ws : List Int} {v : Int} (h : Good (l ++ [(a, ws)])) (h2 : ws.length < 14) : Good (l ++ [(a, ws ++ [v])]) := by
  have h0 : Good l := ⟨fun b hb => h.len b (List.mem_append_left _ hb), fun j b c hb hc => h.chn j b c (by rw [List.getElem?_append_left (List.getElem?_eq_some_iff.1 hb).1]; exact hb) (by rw [List.getElem?_append_left (List.getElem?_eq_some_iff.1 hc).1]; exact hc)⟩
  refine good_snoc h0 (by simp) (by simp; omega) fun b hb => ?_
  rw [List.getLast?_eq_getElem?] at hb
  have hlt := (List.getElem?_eq_some_iff.1 hb).1
  have := h.chn (l.length - 1) b (a, ws) (by rw [List.getElem?_append_left hlt]; exact hb) (by rw [show l.length - 1 + 1 = l.length by omega, List.getElem?_append_right (Nat.le_refl _)]; simp)
  exact this
theorem flat_snoc (l : List Bk) (b : Bk) : flat (l ++ [b]) = flat l ++ fl b.1 b.2 := by simp [flat]
theorem stepB {i runs least : Nat} {done : List (Int × Int)} {B : Option (List Bk)} (h : InvB i runs least done B) (hi : i < 64) (v : Int) :
    InvB (i + 1) (runs + 1) (if runs % 14 = 0 then least + 1 else least) (done ++ [((i : Int), v)]) (B.bind fun l => stepV v l i) := by
  cases B with
  | none =>
    show 9 ≤ _
    have : 9 ≤ least := h
    split <;> omega
  | some l =>
    obtain ⟨h1, h2, h3, h4, h5⟩ := h
    show InvB _ _ _ _ (stepV v l i)
    have push : runs % 14 = 0 -> (∀ b, l.getLast? = some b -> nxt b ((i : Int), [v])) -> InvB (i + 1) (runs + 1) (if runs % 14 = 0 then least + 1 else least) (done ++ [((i : Int), v)]) (if l.length = 8 then none else some (l ++ [((i : Int), [v])])) := by
      intro hr hn
      rw [if_pos hr]
      by_cases h8 : l.length = 8
      · rw [if_pos h8]
        show 9 ≤ _
        omega
      · rw [if_neg h8]
        refine ⟨good_snoc h1 (by simp) (by simp) hn, by simp [h2], by simp; omega, by rw [flat_snoc, h4]; rfl, ⟨fun h => by omega, fun _ => ⟨l, i, [v], rfl, by simp, by simp; omega⟩⟩⟩
    have hin : ¬ ((i : Int) < 0 ∨ 64 ≤ (i : Int)) := by omega
    cases hl : l.getLast? with
    | none =>
      have hnil : l = [] := List.getLast?_eq_none_iff.1 hl
      subst hnil
      have hr : runs = 0 := by
        rcases Nat.eq_zero_or_pos runs with h | h
        · exact h
        · obtain ⟨l', a, ws, h6, _⟩ := h5.pos (by omega)
          simp at h6
      have e : stepV v [] i = some ([] ++ [((i : Int), [v])]) := by unfold stepV; rw [if_neg hin]; rfl
      rw [e]
      exact push (by rw [hr]) (fun b hb => by simp at hb)
    | some b =>
      obtain ⟨a, ws⟩ := b
      have hmem : (a, ws) ∈ l := List.mem_of_getLast? hl
      have hlen := h1.len _ hmem
      simp only at hlen
      have e : stepV v l i = if (i : Int) ≠ a + (ws.length : Int) ∨ ws.length = 14 then (if l.length = 8 then none else some (l ++ [((i : Int), [v])])) else some (l.dropLast ++ [(a, ws ++ [v])]) := by
        unfold stepV
        rw [if_neg hin, hl]
      rw [e]
      by_cases hr : runs = 0
      · have hz := h5.zero hr a ws hl
        rw [if_pos (show (i : Int) ≠ a + (ws.length : Int) ∨ ws.length = 14 from .inl (by omega))]
        refine push (by rw [hr]) fun b hb => ?_
        rw [hl] at hb
        cases hb
        exact .inl hz
      · obtain ⟨l', a', ws', h6, h7, h8⟩ := h5.pos hr
        have he : (a', ws') = (a, ws) := by
          rw [h6, List.getLast?_append] at hl
          simpa using hl
        cases he
        by_cases h14 : ws.length = 14
        · rw [if_pos (show (i : Int) ≠ a + (ws.length : Int) ∨ ws.length = 14 from .inr h14)]
          refine push (by omega) fun b hb => ?_
          rw [hl] at hb
          cases hb
          exact .inr ⟨h7, h14⟩
        · rw [if_neg (show ¬ ((i : Int) ≠ a + (ws.length : Int) ∨ ws.length = 14) by omega), if_neg (show ¬ runs % 14 = 0 by omega)]
          have hd : l.dropLast = l' := by rw [h6]; simp
          rw [hd]
          rw [h6] at h1 h2 h3 h4
          refine ⟨good_grow h1 (by omega), by simpa using h2, by simpa using h3, ?_, ⟨fun h => by omega, fun _ => ⟨l', a, ws ++ [v], rfl, by simp; omega, by simp; omega⟩⟩⟩
          rw [flat_snoc] at h4 ⊢
          show flat l' ++ fl a (ws ++ [v]) = _
          rw [fl_snoc, <- List.append_assoc]
          have h4 : flat l' ++ fl a ws = done := h4
          rw [h4, h7]
theorem gapB {i runs least : Nat} {done : List (Int × Int)} {B : Option (List Bk)} (h : InvB i runs least done B) : InvB (i + 1) 0 least done B := by
  cases B with
  | none => exact h
  | some l =>
    obtain ⟨h1, h2, h3, h4, h5⟩ := h
    refine ⟨h1, h2, h3, h4, ⟨fun _ a ws hl => ?_, fun h => absurd rfl h⟩⟩
    by_cases hr : runs = 0
    · have := h5.zero hr a ws hl
      omega
    · obtain ⟨l', a', ws', h6, h7, h8⟩ := h5.pos hr
      have he : (a', ws') = (a, ws) := by
        rw [h6, List.getLast?_append] at hl
        simpa using hl
      cases he
      omega
theorem allB : ∀ (ws : List Int) (bs : List Bool) (i runs least : Nat) (done : List (Int × Int)) (B : Option (List Bk)), ws.length = bs.length -> i + bs.length ≤ 64 -> InvB i runs least done B ->
    InvB (i + bs.length) (rl bs (runs, least)).1 (rl bs (runs, least)).2 (done ++ ents i ws bs) (foldE (ents i ws bs) B)
  | [], [], i, runs, least, done, B, _, _, h => by simpa [rl, ents, foldE] using h
  | [], _ :: _, _, _, _, _, _, h, _, _ => by simp at h
  | _ :: _, [], _, _, _, _, _, h, _, _ => by simp at h
  | w :: ws, b :: bs, i, runs, least, done, B, hl, hi, h => by
    simp only [List.length_cons] at hl hi ⊢
    cases b with
    | true =>
      have := allB ws bs (i + 1) (runs + 1) (if runs % 14 = 0 then least + 1 else least) _ _ (by omega) (by omega) (stepB h (by omega) w)
      rw [show i + (bs.length + 1) = i + 1 + bs.length by omega]
      simp only [rl, ents, foldE, if_true]
      rw [List.append_assoc] at this
      exact this
    | false =>
      have := allB ws bs (i + 1) 0 least done B (by omega) (by omega) (gapB h)
      rw [show i + (bs.length + 1) = i + 1 + bs.length by omega]
      simp only [rl, ents, Bool.false_eq_true, if_false]
      exact this
theorem startB : InvB 0 0 0 [] (some []) := ⟨⟨(fun b hb => by cases hb), (fun j b c hb => by simp at hb)⟩, rfl, by simp, rfl, ⟨(fun _ a ws h => by simp at h), fun h => absurd rfl h⟩⟩
end Go.Proofs.Lx
end
section
set_option maxRecDepth 100000
namespace Go.Proofs.Lx
open Go Ev Sx Pl
def q3f_  := (fun (self : (List Int) × (List Bool) × (Int) × (Int) × (List (Int × Int)) -> Option (As [.sl (.pr (.int .i64) (.int .u16))])) (s : (List Int) × (List Bool) × (Int) × (Int) × (List (Int × Int))) => q2h_ (q2u_ (fun w is' t9 t10 out => self (w, is', t9, t10, out))) (fun w is' t9 t10 out => self (w, is', t9, t10, out)) s.1 s.2.1 s.2.2.1 s.2.2.2.1 s.2.2.2.2)
theorem q3m_  (self : (List Int) × (List Bool) × (Int) × (Int) × (List (Int × Int)) -> Option (As [.sl (.pr (.int .i64) (.int .u16))])) (w : List Int) (is' : List Bool) (t9 : Int) (t10 : Int) (out : List (Int × Int)) : q3f_ self (w, is', t9, t10, out) = q2h_ (q2u_ (fun w is' t9 t10 out => self (w, is', t9, t10, out))) (fun w is' t9 t10 out => self (w, is', t9, t10, out)) w is' t9 t10 out := rfl
theorem q4o_  (w : List Int) (is' : List Bool) (t9 : Int) (t10 : Int) (out : List (Int × Int)) : q2t_ w is' t9 t10 out = loopF (q3f_) 18446744073709551616 (w, is', t9, t10, out) := rfl
def q14_  := (fun (self : (List Bool) × (List (Int × List Int)) × (Bool) × (Int) × (Int) × (Int) × (Int) × (List (Int × Int)) -> Option (As [.bool])) (s : (List Bool) × (List (Int × List Int)) × (Bool) × (Int) × (Int) × (Int) × (Int) × (List (Int × Int))) => qx_ (qy_ (fun have' l ok runs least t42 t43 m => self (have', l, ok, runs, least, t42, t43, m))) (qw_) (fun have' l ok runs least t42 t43 m => self (have', l, ok, runs, least, t42, t43, m)) s.1 s.2.1 s.2.2.1 s.2.2.2.1 s.2.2.2.2.1 s.2.2.2.2.2.1 s.2.2.2.2.2.2.1 s.2.2.2.2.2.2.2)
theorem q32_  (self : (List Bool) × (List (Int × List Int)) × (Bool) × (Int) × (Int) × (Int) × (Int) × (List (Int × Int)) -> Option (As [.bool])) (have' : List Bool) (l : List (Int × List Int)) (ok : Bool) (runs : Int) (least : Int) (t42 : Int) (t43 : Int) (m : List (Int × Int)) : q14_ self (have', l, ok, runs, least, t42, t43, m) = qx_ (qy_ (fun have' l ok runs least t42 t43 m => self (have', l, ok, runs, least, t42, t43, m))) (qw_) (fun have' l ok runs least t42 t43 m => self (have', l, ok, runs, least, t42, t43, m)) have' l ok runs least t42 t43 m := rfl
theorem q3r_  (have' : List Bool) (l : List (Int × List Int)) (ok : Bool) (runs : Int) (least : Int) (t42 : Int) (t43 : Int) (m : List (Int × Int)) : qt_ have' l ok runs least t42 t43 m = loopF (q14_) 18446744073709551616 (have', l, ok, runs, least, t42, t43, m) := rfl
def q1l_  := (fun (self : (List (Int × List Int)) × (Int) × (Int) × (List (Int × List Int)) × (Int) × (Int) × (List (Int × Int)) -> Option (As [.bool])) (s : (List (Int × List Int)) × (Int) × (Int) × (List (Int × List Int)) × (Int) × (Int) × (List (Int × Int))) => qs_ (q1g_ (fun l least met t71 t72 t73 m => self (l, least, met, t71, t72, t73, m))) (qh_) (fun l least met t71 t72 t73 m => self (l, least, met, t71, t72, t73, m)) s.1 s.2.1 s.2.2.1 s.2.2.2.1 s.2.2.2.2.1 s.2.2.2.2.2.1 s.2.2.2.2.2.2)
theorem q33_  (self : (List (Int × List Int)) × (Int) × (Int) × (List (Int × List Int)) × (Int) × (Int) × (List (Int × Int)) -> Option (As [.bool])) (l : List (Int × List Int)) (least : Int) (met : Int) (t71 : List (Int × List Int)) (t72 : Int) (t73 : Int) (m : List (Int × Int)) : q1l_ self (l, least, met, t71, t72, t73, m) = qs_ (q1g_ (fun l least met t71 t72 t73 m => self (l, least, met, t71, t72, t73, m))) (qh_) (fun l least met t71 t72 t73 m => self (l, least, met, t71, t72, t73, m)) l least met t71 t72 t73 m := rfl
theorem q3q_  (l : List (Int × List Int)) (least : Int) (met : Int) (t71 : List (Int × List Int)) (t72 : Int) (t73 : Int) (m : List (Int × Int)) : qv_ l least met t71 t72 t73 m = loopF (q1l_) 18446744073709551616 (l, least, met, t71, t72, t73, m) := rfl
def q2e_ (u5 : List (Int × List Int) -> Int -> Int -> List (Int × List Int) -> Int -> Int -> List (Int × Int) -> Option (As [.bool])) := (fun (self : (List (Int × List Int)) × (Int) × (Int) × (List (Int × List Int)) × (Int) × (Int) × (List Int) × (Int) × (Int) × (List (Int × Int)) × (Int × List Int) -> Option (As [.bool])) (s : (List (Int × List Int)) × (Int) × (Int) × (List (Int × List Int)) × (Int) × (Int) × (List Int) × (Int) × (Int) × (List (Int × Int)) × (Int × List Int)) => qr_ (q18_ u5 (fun l least met t71 t72 t73 t125 t126 t127 m b => self (l, least, met, t71, t72, t73, t125, t126, t127, m, b))) u5 (fun l least met t71 t72 t73 t125 t126 t127 m b => self (l, least, met, t71, t72, t73, t125, t126, t127, m, b)) s.1 s.2.1 s.2.2.1 s.2.2.2.1 s.2.2.2.2.1 s.2.2.2.2.2.1 s.2.2.2.2.2.2.1 s.2.2.2.2.2.2.2.1 s.2.2.2.2.2.2.2.2.1 s.2.2.2.2.2.2.2.2.2.1 s.2.2.2.2.2.2.2.2.2.2)
theorem q31_ (u5 : List (Int × List Int) -> Int -> Int -> List (Int × List Int) -> Int -> Int -> List (Int × Int) -> Option (As [.bool])) (self : (List (Int × List Int)) × (Int) × (Int) × (List (Int × List Int)) × (Int) × (Int) × (List Int) × (Int) × (Int) × (List (Int × Int)) × (Int × List Int) -> Option (As [.bool])) (l : List (Int × List Int)) (least met : Int) (t71 : List (Int × List Int)) (t72 t73 : Int) (t125 : List Int) (t126 t127 : Int) (m : List (Int × Int)) (b : Int × List Int) : q2e_ u5 self (l, least, met, t71, t72, t73, t125, t126, t127, m, b) = qr_ (q18_ u5 (fun l least met t71 t72 t73 t125 t126 t127 m b => self (l, least, met, t71, t72, t73, t125, t126, t127, m, b))) u5 (fun l least met t71 t72 t73 t125 t126 t127 m b => self (l, least, met, t71, t72, t73, t125, t126, t127, m, b)) l least met t71 t72 t73 t125 t126 t127 m b := rfl
theorem q3l_ (u5 : List (Int × List Int) -> Int -> Int -> List (Int × List Int) -> Int -> Int -> List (Int × Int) -> Option (As [.bool])) (l : List (Int × List Int)) (least met : Int) (t71 : List (Int × List Int)) (t72 t73 : Int) (t125 : List Int) (t126 t127 : Int) (m : List (Int × Int)) (b : Int × List Int) : q1b_ u5 l least met t71 t72 t73 t125 t126 t127 m b = loopF (q2e_ u5) 18446744073709551616 (l, least, met, t71, t72, t73, t125, t126, t127, m, b) := rfl
def q2d_  := (fun (self : (List (Int × List Int)) × (List (Int × List Int)) × (Int) × (Int) -> Option (As [.bool])) (s : (List (Int × List Int)) × (List (Int × List Int)) × (Int) × (Int)) => q2b_ (q2a_ (fun a b t12 t13 => self (a, b, t12, t13))) (fun a b t12 t13 => self (a, b, t12, t13)) s.1 s.2.1 s.2.2.1 s.2.2.2)
theorem q3j_  (self : (List (Int × List Int)) × (List (Int × List Int)) × (Int) × (Int) -> Option (As [.bool])) (a : List (Int × List Int)) (b : List (Int × List Int)) (t12 : Int) (t13 : Int) : q2d_ self (a, b, t12, t13) = q2b_ (q2a_ (fun a b t12 t13 => self (a, b, t12, t13))) (fun a b t12 t13 => self (a, b, t12, t13)) a b t12 t13 := rfl
theorem q4l_  (a : List (Int × List Int)) (b : List (Int × List Int)) (t12 : Int) (t13 : Int) : q2m_ a b t12 t13 = loopF (q2d_) 18446744073709551616 (a, b, t12, t13) := rfl
def q2p_  := (fun (self : (List Int) × (List Int) × (Int) × (Int) -> Option (As [.bool])) (s : (List Int) × (List Int) × (Int) × (Int)) => q2c_ (fun a b t12 t13 => self (a, b, t12, t13)) s.1 s.2.1 s.2.2.1 s.2.2.2)
theorem q3k_  (self : (List Int) × (List Int) × (Int) × (Int) -> Option (As [.bool])) (a : List Int) (b : List Int) (t12 : Int) (t13 : Int) : q2p_ self (a, b, t12, t13) = q2c_ (fun a b t12 t13 => self (a, b, t12, t13)) a b t12 t13 := rfl
theorem q4k_  (a : List Int) (b : List Int) (t12 : Int) (t13 : Int) : q2n_ a b t12 t13 = loopF (q2p_) 18446744073709551616 (a, b, t12, t13) := rfl
def q2z_  := (fun (self : (List (Int × List Int)) × (Int) × (Int) × (List Int) -> Option (As [.sl (.int .u16)])) (s : (List (Int × List Int)) × (Int) × (Int) × (List Int)) => q2j_ (q2g_ (fun t12 t13 t14 bank => self (t12, t13, t14, bank))) (fun t12 t13 t14 bank => self (t12, t13, t14, bank)) s.1 s.2.1 s.2.2.1 s.2.2.2)
theorem q3p_  (self : (List (Int × List Int)) × (Int) × (Int) × (List Int) -> Option (As [.sl (.int .u16)])) (t12 : List (Int × List Int)) (t13 : Int) (t14 : Int) (bank : List Int) : q2z_ self (t12, t13, t14, bank) = q2j_ (q2g_ (fun t12 t13 t14 bank => self (t12, t13, t14, bank))) (fun t12 t13 t14 bank => self (t12, t13, t14, bank)) t12 t13 t14 bank := rfl
theorem q4n_  (t12 : List (Int × List Int)) (t13 : Int) (t14 : Int) (bank : List Int) : q2q_ t12 t13 t14 bank = loopF (q2z_) 18446744073709551616 (t12, t13, t14, bank) := rfl
def q2y_ (u1 : List (Int × List Int) -> Int -> Int -> List Int -> Option (As [.sl (.int .u16)])) := (fun (self : (List (Int × List Int)) × (Int) × (Int) × (List Int) × (Int) × (Int) × (List Int) × (Int × List Int) -> Option (As [.sl (.int .u16)])) (s : (List (Int × List Int)) × (Int) × (Int) × (List Int) × (Int) × (Int) × (List Int) × (Int × List Int)) => q2f_ (q2i_ u1 (fun t12 t13 t14 t19 t20 t21 bank x => self (t12, t13, t14, t19, t20, t21, bank, x))) u1 (fun t12 t13 t14 t19 t20 t21 bank x => self (t12, t13, t14, t19, t20, t21, bank, x)) s.1 s.2.1 s.2.2.1 s.2.2.2.1 s.2.2.2.2.1 s.2.2.2.2.2.1 s.2.2.2.2.2.2.1 s.2.2.2.2.2.2.2)
theorem q3n_ (u1 : List (Int × List Int) -> Int -> Int -> List Int -> Option (As [.sl (.int .u16)])) (self : (List (Int × List Int)) × (Int) × (Int) × (List Int) × (Int) × (Int) × (List Int) × (Int × List Int) -> Option (As [.sl (.int .u16)])) (t12 : List (Int × List Int)) (t13 t14 : Int) (t19 : List Int) (t20 t21 : Int) (bank : List Int) (x : Int × List Int) : q2y_ u1 self (t12, t13, t14, t19, t20, t21, bank, x) = q2f_ (q2i_ u1 (fun t12 t13 t14 t19 t20 t21 bank x => self (t12, t13, t14, t19, t20, t21, bank, x))) u1 (fun t12 t13 t14 t19 t20 t21 bank x => self (t12, t13, t14, t19, t20, t21, bank, x)) t12 t13 t14 t19 t20 t21 bank x := rfl
theorem q4p_ (u1 : List (Int × List Int) -> Int -> Int -> List Int -> Option (As [.sl (.int .u16)])) (t12 : List (Int × List Int)) (t13 t14 : Int) (t19 : List Int) (t20 t21 : Int) (bank : List Int) (x : Int × List Int) : q2g_ u1 t12 t13 t14 t19 t20 t21 bank x = loopF (q2y_ u1) 18446744073709551616 (t12, t13, t14, t19, t20, t21, bank, x) := rfl
theorem row_go (W : List Int) (V : List Bool) (hl : W.length = V.length) (hs : W.length ≤ 1000000) : ∀ (k i n : Nat) (out : List (Int × Int)), i + k = W.length -> k < n -> (∀ e ∈ out, e.1 < (i : Int)) ->
    loopF q3f_ n (W, V, Int.ofNat W.length, (i : Int), out) = some (out ++ ents i (W.drop i) (V.drop i), ())
  | k, _, 0, _, _, h, _ => by omega
  | 0, i, n + 1, out, h, _, ho => by
    rw [qi_, q3m_]
    unfold q2h_
    rw [if_neg (by rw [lt_iff, q9_]; omega), List.drop_eq_nil_of_le (by omega)]
    simp [ents]
  | k + 1, i, n + 1, out, h, hn, ho => by
    have hw : i < W.length := by omega
    have hv : i < V.length := by omega
    have ew : W[i]? = some W[i] := List.getElem?_eq_getElem hw
    have ev : V[i]? = some V[i] := List.getElem?_eq_getElem hv
    rw [qi_, q3m_]
    unfold q2h_
    rw [if_pos (by rw [lt_iff, q9_]; omega), if_pos (by rw [lt_iff, q9_]; omega), at_get ev, Option.bind_some]
    show q39_ _ W V (i : Int) (Int.ofNat W.length) (i : Int) V[i] out = _
    unfold q39_
    rw [List.drop_eq_getElem_cons hw, List.drop_eq_getElem_cons hv, at_get ew, Option.bind_some, show add .i64 (i : Int) 1 = ((i + 1 : Nat) : Int) from succ64 (by omega)]
    cases hb : V[i] with
    | true =>
      rw [if_pos rfl, dput_out (fun e he => by have := ho e he; omega)]
      refine (row_go W V hl hs k (i + 1) n _ (by omega) (by omega) (fun e he => by
        rcases List.mem_append.1 he with he | he
        · have := ho e he; omega
        · simp at he; subst he; omega)).trans ?_
      simp [ents]
    | false =>
      rw [if_neg (by simp)]
      refine (row_go W V hl hs k (i + 1) n _ (by omega) (by omega) (fun e he => by have := ho e he; omega)).trans ?_
      simp [ents]
theorem row_eq (W : List Int) (V : List Bool) (hl : W.length = V.length) (hs : W.length ≤ 1000000) : q3h_ (W, V, ()) = some (ents 0 W V, ()) := by
  show q2t_ W V (Int.ofNat W.length) 0 [] = _
  rw [q4o_]
  have := row_go W V hl hs W.length 0 18446744073709551616 [] (by omega) (by omega) (fun e he => by cases he)
  simpa using this
theorem regs_go (a b : List Int) (hl : a.length = b.length) (hs : a.length ≤ 1000000) : ∀ (k i n : Nat), i + k = a.length -> k < n -> loopF q2p_ n (a, b, Int.ofNat a.length, (i : Int)) = some (decide (a.drop i = b.drop i), ())
  | k, _, 0, _, h => by omega
  | 0, i, n + 1, h, _ => by
    rw [qi_, q3k_]
    unfold q2c_
    rw [if_neg (by rw [lt_iff, q9_]; omega), List.drop_eq_nil_of_le (by omega), List.drop_eq_nil_of_le (by omega)]
    simp
  | k + 1, i, n + 1, h, hn => by
    have hw : i < a.length := by omega
    have hv : i < b.length := by omega
    rw [qi_, q3k_]
    unfold q2c_
    rw [if_pos (by rw [lt_iff, q9_]; omega), at_get (List.getElem?_eq_getElem hw), Option.bind_some, at_get (List.getElem?_eq_getElem hv), Option.bind_some, List.drop_eq_getElem_cons hw, List.drop_eq_getElem_cons hv]
    rw [show add .i64 (i : Int) 1 = ((i + 1 : Nat) : Int) from succ64 (by omega)]
    have ih := regs_go a b hl hs k (i + 1) n (by omega) (by omega)
    show (if nei a[i] b[i] = true then _ else loopF q2p_ n (a, b, Int.ofNat a.length, ((i + 1 : Nat) : Int))) = _
    rw [ih]
    generalize a[i] = x, b[i] = y, a.drop (i + 1) = p, b.drop (i + 1) = q
    by_cases hc : x = y
    · rw [if_neg (by rw [nei_iff]; simp [hc])]
      simp [hc]
    · rw [if_pos (nei_iff.2 hc)]
      simp [hc]
theorem regs_eq (a b : List Int) (h1 : a.length ≤ 1000000) (h2 : b.length ≤ 1000000) : q2l_ (a, b, ()) = some (decide (a = b), ()) := by
  show q37_ q2n_ a b = _
  unfold q37_
  by_cases hl : a.length = b.length
  · rw [if_neg (by rw [nei_iff, q9_, q9_]; omega), q4k_]
    have := regs_go a b hl h1 a.length 0 18446744073709551616 (by omega) (by omega)
    simpa using this
  · rw [if_pos (by rw [nei_iff, q9_, q9_]; omega)]
    have : a ≠ b := fun e => hl (by rw [e])
    simp [this]
def SmB (l : List Bk) : Prop := l.length ≤ 1000000 ∧ ∀ b ∈ l, b.2.length ≤ 1000000
theorem same_go (a b : List Bk) (hl : a.length = b.length) (ha : SmB a) (hb : SmB b) : ∀ (k i n : Nat), i + k = a.length -> k < n -> loopF q2d_ n (a, b, Int.ofNat a.length, (i : Int)) = some (decide (a.drop i = b.drop i), ())
  | k, _, 0, _, h => by omega
  | 0, i, n + 1, h, _ => by
    rw [qi_, q3j_]
    unfold q2b_
    rw [if_neg (by rw [lt_iff, q9_]; omega), List.drop_eq_nil_of_le (by omega), List.drop_eq_nil_of_le (by omega)]
    simp
  | k + 1, i, n + 1, h, hn => by
    have hw : i < a.length := by omega
    have hv : i < b.length := by omega
    have h6 := ha.1
    rw [qi_, q3j_]
    unfold q2b_
    rw [if_pos (by rw [lt_iff, q9_]; omega), at_get (List.getElem?_eq_getElem hw), Option.bind_some, at_get (List.getElem?_eq_getElem hv), Option.bind_some, List.drop_eq_getElem_cons hw, List.drop_eq_getElem_cons hv, Option.bind_some, Option.bind_some,
      regs_eq _ _ (ha.2 _ (List.getElem_mem hw)) (hb.2 _ (List.getElem_mem hv)), Option.bind_some]
    have hk : ∀ c, q2a_ (fun a b t12 t13 => loopF q2d_ n (a, b, t12, t13)) a b (Int.ofNat a.length) (i : Int) c = if c = true then some (false, ()) else some (decide (a.drop (i + 1) = b.drop (i + 1)), ()) := fun c => by
      show q34_ _ a b _ _ c = _
      unfold q34_
      rw [show add .i64 (i : Int) 1 = ((i + 1 : Nat) : Int) from succ64 (by omega)]
      have ih := same_go a b hl ha hb k (i + 1) n (by omega) (by omega)
      show (if c = true then _ else loopF q2d_ n (a, b, Int.ofNat a.length, ((i + 1 : Nat) : Int))) = _
      rw [ih]
    rw [hk, hk]
    generalize a[i] = x, b[i] = y, a.drop (i + 1) = p, b.drop (i + 1) = q
    by_cases h1 : x.1 = y.1
    · rw [if_neg (by rw [nei_iff]; simp [h1])]
      by_cases h2 : x.2 = y.2
      · have : x = y := Prod.ext h1 h2
        simp [this]
      · have : ¬ x = y := fun e => h2 (by rw [e])
        simp [this, h2]
    · have : ¬ x = y := fun e => h1 (by rw [e])
      rw [if_pos (nei_iff.2 h1), if_pos rfl]
      simp [this]
theorem same_eq (a b : List Bk) (ha : SmB a) (hb : SmB b) : q3a_ (a, b, ()) = some (decide (a = b), ()) := by
  show q35_ q2m_ a b = _
  unfold q35_
  by_cases hl : a.length = b.length
  · rw [if_neg (by rw [nei_iff, q9_, q9_]; omega), q4l_]
    have := same_go a b hl ha hb a.length 0 18446744073709551616 (by omega) (by have := ha.1; omega)
    simpa using this
  · rw [if_pos (by rw [nei_iff, q9_, q9_]; omega)]
    have : a ≠ b := fun e => hl (by rw [e])
    simp [this]
end Go.Proofs.Lx
end
section
set_option maxRecDepth 100000
namespace Go.Proofs.Lx
open Go Ev Sx Pl
def setW (bank : List Int) (a w : Int) : List Int := if 0 ≤ a ∧ a < (bank.length : Int) then bank.set a.toNat w else bank
theorem setW_len (bank : List Int) (a w : Int) : (setW bank a w).length = bank.length := by unfold setW; split <;> simp
def overW : List Int -> Int -> List Int -> List Int
  | bank, _, [] => bank
  | bank, a, w :: r => overW (setW bank a w) (a + 1) r
theorem overW_len : ∀ (ws bank : List Int) (a : Int), (overW bank a ws).length = bank.length
  | [], _, _ => rfl
  | w :: r, bank, a => by rw [overW, overW_len r, setW_len]
def over : List Int -> List Bk -> List Int
  | bank, [] => bank
  | bank, b :: r => over (overW bank b.1 b.2) r
theorem over_len : ∀ (l : List Bk) (bank : List Int), (over bank l).length = bank.length
  | [], _ => rfl
  | b :: r, bank => by rw [over, over_len r, overW_len]
def FitB (l : List Bk) : Prop := l.length ≤ 1000000 ∧ ∀ b ∈ l, b.2.length ≤ 1000000 ∧ -1000000 ≤ b.1 ∧ b.1 ≤ 1000000
theorem FitB.sm {l : List Bk} (h : FitB l) : SmB l := ⟨h.1, fun b hb => (h.2 b hb).1⟩
theorem at_some_in {α : Type} {s : List α} {i : Int} (h : 0 ≤ i ∧ i < (s.length : Int)) : ∃ c, at? s i = some c := by
  obtain ⟨n, rfl⟩ := Int.eq_ofNat_of_zero_le h.1
  exact ⟨_, at_get (List.getElem?_eq_getElem (show n < s.length by omega))⟩
theorem over_in (u1 : List Bk -> Int -> Int -> List Int -> Option (As [.sl (.int .u16)])) (l : List Bk) (j : Int) (x : Bk) (h1 : x.2.length ≤ 1000000) (h2 : -1000000 ≤ x.1 ∧ x.1 ≤ 1000000) :
    ∀ (k i n : Nat) (bank : List Int), i + k = x.2.length -> k < n -> bank.length ≤ 1000000 -> loopF (q2y_ u1) n (l, Int.ofNat l.length, j, x.2, Int.ofNat x.2.length, (i : Int), bank, x) = u1 l (Int.ofNat l.length) (add .i64 j 1) (overW bank (x.1 + (i : Int)) (x.2.drop i))
  | k, _, 0, _, _, h, _ => by omega
  | 0, i, n + 1, bank, h, _, hb => by
    rw [qi_, q3n_]
    unfold q2f_
    rw [if_neg (by rw [lt_iff, q9_]; omega), List.drop_eq_nil_of_le (by omega)]
    rfl
  | k + 1, i, n + 1, bank, h, hn, hb => by
    have hw : i < x.2.length := by omega
    rw [qi_, q3n_]
    unfold q2f_
    have ea : add .i64 x.1 (i : Int) = x.1 + (i : Int) := add64 (by omega) (by omega)
    rw [if_pos (by rw [lt_iff, q9_]; omega), at_get (List.getElem?_eq_getElem hw), Option.bind_some, ea, List.drop_eq_getElem_cons hw, overW, Int.add_assoc]
    have e1 : add .i64 (i : Int) 1 = ((i + 1 : Nat) : Int) := succ64 (by omega)
    have e2 : ((i : Int) + 1) = ((i + 1 : Nat) : Int) := by omega
    have ih := fun bank' hb' => over_in u1 l j x h1 h2 k (i + 1) n bank' (by omega) (by omega) hb'
    have step : ∀ c : Bool, c = decide (0 ≤ x.1 + (i : Int) ∧ x.1 + (i : Int) < (bank.length : Int)) -> q2i_ u1 (fun t12 t13 t14 t19 t20 t21 bank x => loopF (q2y_ u1) n (t12, t13, t14, t19, t20, t21, bank, x)) x.2[i] (x.1 + (i : Int)) l (Int.ofNat l.length) j x.2 (Int.ofNat x.2.length) (i : Int) c bank x =
        u1 l (Int.ofNat l.length) (add .i64 j 1) (overW (setW bank (x.1 + (i : Int)) x.2[i]) (x.1 + ((i : Int) + 1)) (x.2.drop (i + 1))) := by
      intro c hc
      show q3b_ u1 _ x.2[i] (x.1 + (i : Int)) l (Int.ofNat l.length) j x.2 (Int.ofNat x.2.length) (i : Int) c bank x = _
      unfold q3b_
      rw [e1]
      by_cases hin : 0 ≤ x.1 + (i : Int) ∧ x.1 + (i : Int) < (bank.length : Int)
      · obtain ⟨v, hv⟩ := at_some_in hin
        rw [hc, if_pos (by simpa using hin), hv, Option.bind_some, Option.bind_some]
        have hs : setW bank (x.1 + (i : Int)) x.2[i] = bank.set (x.1 + (i : Int)).toNat x.2[i] := by unfold setW; rw [if_pos hin]
        rw [hs, e2]
        exact ih _ (by simpa using hb)
      · rw [hc, if_neg (by simpa using hin)]
        have hs : setW bank (x.1 + (i : Int)) x.2[i] = bank := by unfold setW; rw [if_neg hin]
        rw [hs, e2]
        exact ih _ hb
    by_cases h0 : 0 ≤ x.1 + (i : Int)
    · rw [if_pos (ge_iff.2 h0)]
      exact step _ (by simp [lt, h0])
    · rw [if_neg (by rw [ge_iff]; exact h0)]
      exact step _ (by simp [h0])
theorem over_out (l : List Bk) (h : FitB l) : ∀ (k j n : Nat) (bank : List Int), j + k = l.length -> k < n -> bank.length ≤ 1000000 -> loopF q2z_ n (l, Int.ofNat l.length, (j : Int), bank) = some (over bank (l.drop j), ())
  | k, _, 0, _, _, h, _ => by omega
  | 0, j, n + 1, bank, hj, _, hb => by
    rw [qi_, q3p_]
    unfold q2j_
    rw [if_neg (by rw [lt_iff, q9_]; omega), List.drop_eq_nil_of_le (by omega)]
    rfl
  | k + 1, j, n + 1, bank, hj, hn, hb => by
    have hw : j < l.length := by omega
    have h6 := h.1
    have h7 := h.2 _ (List.getElem_mem hw)
    rw [qi_, q3p_]
    unfold q2j_
    rw [if_pos (by rw [lt_iff, q9_]; omega), at_get (List.getElem?_eq_getElem hw), Option.bind_some, q4p_]
    have := over_in (fun t12 t13 t14 bank => loopF q2z_ n (t12, t13, t14, bank)) l (j : Int) l[j] h7.1 h7.2 l[j].2.length 0 18446744073709551616 bank (by omega) (by omega) hb
    refine Eq.trans this ?_
    rw [show add .i64 (j : Int) 1 = ((j + 1 : Nat) : Int) from succ64 (by omega)]
    refine (over_out l h k (j + 1) n _ (by omega) (by omega) (by rw [overW_len]; exact hb)).trans ?_
    rw [List.drop_eq_getElem_cons hw, over]
    simp
theorem eqAs_r {rs : List Ty} (a : Option (As rs)) : amb (eqAs rs) [a, a] = a := amb2 (eqAs_refl rs) a
theorem clone_n (s : List Int) (h : s.length ≤ 1000000) : q1h_ (s, ()) = some (s, ()) := by
  show q1o_ s = _
  unfold q1o_
  by_cases h0 : s = []
  · subst h0
    rw [if_pos (by decide), need_t (by decide)]
    exact eqAs_r _
  · have : s.length ≠ 0 := fun e => h0 (List.eq_nil_of_length_eq_zero e)
    rw [if_neg (by rw [eqi_iff, q9_]; omega), need_small (by omega)]
theorem over_eq (bank : List Int) (l : List Bk) (hb : bank.length ≤ 1000000) (h : FitB l) : q3g_ (bank, l, ()) = some (over bank l, ()) := by
  show q3c_ q2q_ bank l = _
  unfold q3c_
  rw [clone_n bank hb, Option.bind_some, q4n_]
  have := over_out l h l.length 0 18446744073709551616 bank (by omega) (by have := h.1; omega) hb
  simpa using this
theorem blocks_eq {m : List (Int × Int)} (h : m.all keyOk = true) : qq_ (m, ()) = some ((bkRes m).1, (bkRes m).2, m, ()) := by
  show (if m.all keyOk = true then _ else _) = _
  rw [if_pos h]
theorem res1 : bkRes [(3, 7), (4, 8), (6, 9)] = ([(3, [7, 8]), (6, [9])], true) := by
  rw [bkRes_rise (by unfold rise; decide) (by decide)]
  decide
theorem res2 : bkRes [(64, 1)] = ([], false) := bkRes_far (m := []) (by unfold rise; decide) (by simp) 1
def m15 : List (Int × Int) := [(0, 0), (1, 1), (2, 2), (3, 3), (4, 4), (5, 5), (6, 6), (7, 7), (8, 8), (9, 9), (10, 10), (11, 11), (12, 12), (13, 13), (14, 14)]
theorem res3 : bkRes m15 = ([(0, [0, 1, 2, 3, 4, 5, 6, 7, 8, 9, 10, 11, 12, 13]), (14, [14])], true) := by
  rw [bkRes_rise (by unfold rise m15; decide) (by decide)]
  decide
theorem awake_loop (a : List Bk) (x : Bool) : q1s_ a x 0 [] = q2v_ a x m15 := by kernel_rfl
theorem awake : q2o_ () = some (true, ()) := by
  show q2w_ q1s_ = _
  unfold q2w_
  rw [blocks_eq (by decide), res1, Option.bind_some]
  show q1s_ [(3, [7, 8]), (6, [9])] true 0 [] = _
  rw [awake_loop]
  show q2x_ [(3, [7, 8]), (6, [9])] true m15 = _
  unfold q2x_
  rw [blocks_eq (m := m15) (by decide), res3, Option.bind_some, blocks_eq (by decide), res2, Option.bind_some, if_pos rfl, if_pos rfl, if_pos (by decide),
    same_eq _ _ ⟨by decide, by decide⟩ ⟨by decide, by decide⟩, Option.bind_some, if_pos (by decide), if_pos (by decide)]
  show Option.bind (some (0, [0, 1, 2, 3, 4, 5, 6, 7, 8, 9, 10, 11, 12, 13])) _ = _
  rw [Option.bind_some, if_pos (by decide)]
  show Option.bind (some (14, [14])) _ = _
  rw [Option.bind_some, if_pos (by decide), over_eq _ _ (by decide) ⟨by decide, by decide⟩, Option.bind_some, regs_eq _ _ (by rw [over_len]; decide) (by decide), Option.bind_some]
  decide
end Go.Proofs.Lx
end
section
set_option maxRecDepth 100000
namespace Go.Proofs.Lx
open Go Ev Sx Pl
theorem rl_le : ∀ (bs : List Bool) (p : Nat × Nat), (rl bs p).2 ≤ p.2 + bs.length
  | [], p => by simp [rl]
  | b :: q, p => by
    have := rl_le q (if b = true then (p.1 + 1, if p.1 % 14 = 0 then p.2 + 1 else p.2) else (0, p.2))
    simp only [rl, List.length_cons]
    split at this
    · simp only at this
      split at this <;> rename_i h <;> simp_all <;> omega
    · simp_all
      omega
theorem k2_go (V : List Bool) (hV : V.length = 64) (l : List Bk) (ok : Bool) (m : List (Int × Int)) : ∀ (k i n runs least : Nat), i + k = 64 -> k < n -> runs ≤ i -> least ≤ i ->
    loopF q14_ n (V, l, ok, (runs : Int), (least : Int), Int.ofNat V.length, (i : Int), m) = qw_ l ok ((rl (V.drop i) (runs, least)).2 : Nat) m
  | k, _, 0, _, _, _, h, _, _ => by omega
  | 0, i, n + 1, runs, least, h, _, _, _ => by
    rw [qi_, q32_]
    unfold qx_
    rw [if_neg (by rw [lt_iff, q9_]; omega), List.drop_eq_nil_of_le (by omega)]
    rfl
  | k + 1, i, n + 1, runs, least, h, hn, h1, h2 => by
    have hw : i < V.length := by omega
    rw [qi_, q32_]
    unfold qx_
    have e1 : add .i64 (i : Int) 1 = ((i + 1 : Nat) : Int) := succ64 (by omega)
    have e2 : add .i64 (runs : Int) 1 = ((runs + 1 : Nat) : Int) := succ64 (by omega)
    have e3 : add .i64 (least : Int) 1 = ((least + 1 : Nat) : Int) := succ64 (by omega)
    have e4 : rem (runs : Int) 14 = ((runs % 14 : Nat) : Int) := by
      unfold rem
      rw [Int.tmod_eq_emod_of_nonneg (by omega)]
      omega
    have e5 : ∀ c : Int, qy_ (fun have' l ok runs least t42 t43 m => loopF q14_ n (have', l, ok, runs, least, t42, t43, m)) V l ok (runs : Int) c (Int.ofNat V.length) (i : Int) m = loopF q14_ n (V, l, ok, ((runs + 1 : Nat) : Int), c, Int.ofNat V.length, ((i + 1 : Nat) : Int), m) := fun c => by
      show q21_ _ V l ok (runs : Int) c (Int.ofNat V.length) (i : Int) m = _
      unfold q21_
      rw [e1, e2]
    rw [if_pos (by rw [lt_iff, q9_]; omega), at_get (List.getElem?_eq_getElem hw), Option.bind_some, e4, e1, e3, e5, e5, List.drop_eq_getElem_cons hw]
    cases V[i] with
    | false =>
      rw [if_pos (by decide)]
      exact k2_go V hV l ok m k (i + 1) n 0 least (by omega) (by omega) (by omega) (by omega)
    | true =>
      rw [if_neg (by decide)]
      by_cases hr : runs % 14 = 0
      · rw [if_pos (by rw [eqi_iff]; omega)]
        refine (k2_go V hV l ok m k (i + 1) n (runs + 1) (least + 1) (by omega) (by omega) (by omega) (by omega)).trans ?_
        simp [rl, hr]
      · rw [if_neg (by rw [eqi_iff]; omega)]
        refine (k2_go V hV l ok m k (i + 1) n (runs + 1) least (by omega) (by omega) (by omega) (by omega)).trans ?_
        simp [rl, hr]
theorem fl_at : ∀ {ws : List Int} {a : Int} {i : Nat} {x : Int}, ws[i]? = some x -> (a + (i : Int), x) ∈ fl a ws
  | [], _, _, _, h => by simp at h
  | w :: r, a, 0, x, h => by simp at h; subst h; simp [fl]
  | w :: r, a, i + 1, x, h => by
    have := fl_at (a := a + 1) (show r[i]? = some x by simpa using h)
    rw [show a + 1 + (i : Int) = a + ((i + 1 : Nat) : Int) by omega] at this
    exact List.mem_cons_of_mem _ this
theorem fl_length : ∀ (a : Int) (ws : List Int), (fl a ws).length = ws.length
  | _, [] => rfl
  | a, _ :: r => by simp [fl, fl_length (a + 1) r]
theorem k10_go (u5 : List Bk -> Int -> Int -> List Bk -> Int -> Int -> List (Int × Int) -> Option (As [.bool])) (l : List Bk) (least j : Int) (m : List (Int × Int)) (b : Bk) (hb : b.2.length ≤ 14) (hr : -1000 ≤ b.1 ∧ b.1 ≤ 1000)
    (hd : ∀ (i : Nat) (x : Int), b.2[i]? = some x -> dget kT m (b.1 + (i : Int)) = some x) : ∀ (k i n met : Nat), i + k = b.2.length -> k < n -> met + k ≤ 1000000 ->
    loopF (q2e_ u5) n (l, least, (met : Int), l, Int.ofNat l.length, j, b.2, Int.ofNat b.2.length, (i : Int), m, b) = u5 l least ((met + k : Nat) : Int) l (Int.ofNat l.length) (add .i64 j 1) m
  | k, _, 0, _, _, h, _ => by omega
  | 0, i, n + 1, met, h, _, _ => by
    rw [qi_, q31_]
    unfold qr_
    rw [if_neg (by rw [lt_iff, q9_]; omega)]
    rfl
  | k + 1, i, n + 1, met, h, hn, hm => by
    have hw : i < b.2.length := by omega
    have ew : b.2[i]? = some b.2[i] := List.getElem?_eq_getElem hw
    rw [qi_, q31_]
    unfold qr_
    have e1 : add .i64 b.1 (i : Int) = b.1 + (i : Int) := add64 (by omega) (by omega)
    rw [if_pos (by rw [lt_iff, q9_]; omega), at_get ew, Option.bind_some, e1, hd i _ ew]
    rw [if_neg (by simp [isV])]
    show q1m_ u5 _ l least (met : Int) l (Int.ofNat l.length) j b.2 (Int.ofNat b.2.length) (i : Int) (nei b.2[i] b.2[i]) m b = _
    unfold q1m_
    rw [if_neg (by rw [nei_iff]; simp), show add .i64 (met : Int) 1 = ((met + 1 : Nat) : Int) from succ64 (by omega), show add .i64 (i : Int) 1 = ((i + 1 : Nat) : Int) from succ64 (by omega)]
    refine (k10_go u5 l least j m b hb hr hd k (i + 1) n (met + 1) (by omega) (by omega) (by omega)).trans ?_
    rw [show met + 1 + k = met + (k + 1) by omega]
theorem k5_go (l : List Bk) (hg : Good l) (h8 : l.length ≤ 8) (least : Int) (m : List (Int × Int)) (hr : ∀ b ∈ l, -1000 ≤ b.1 ∧ b.1 ≤ 1000)
    (hd : ∀ b ∈ l, ∀ (i : Nat) (x : Int), b.2[i]? = some x -> dget kT m (b.1 + (i : Int)) = some x) : ∀ (k j n met : Nat), j + k = l.length -> k < n -> met + (flat (l.drop j)).length ≤ 1000 ->
    loopF q1l_ n (l, least, (met : Int), l, Int.ofNat l.length, (j : Int), m) = qh_ l least ((met + (flat (l.drop j)).length : Nat) : Int) m
  | k, _, 0, _, _, h, _ => by omega
  | 0, j, n + 1, met, h, _, _ => by
    rw [qi_, q33_]
    unfold qs_
    rw [if_neg (by rw [lt_iff, q9_]; omega), List.drop_eq_nil_of_le (by omega)]
    rfl
  | k + 1, j, n + 1, met, h, hn, hm => by
    have hw : j < l.length := by omega
    have hmem := List.getElem_mem hw
    have hlen := hg.len _ hmem
    have hrb := hr _ hmem
    have ew : l[j]? = some l[j] := List.getElem?_eq_getElem hw
    rw [qi_, q33_]
    unfold qs_
    rw [if_pos (by rw [lt_iff, q9_]; omega), at_get ew, Option.bind_some, if_neg (by rw [lt_iff, q9_]; omega)]
    have hgt : gt (Int.ofNat l[j].2.length) 14 = false := by
      rw [gt_dec, q9_]
      simp
      omega
    rw [hgt]
    have hfl : (flat (l.drop j)).length = l[j].2.length + (flat (l.drop (j + 1))).length := by
      rw [List.drop_eq_getElem_cons hw]
      show (fl l[j].1 l[j].2 ++ flat (l.drop (j + 1))).length = _
      rw [List.length_append, fl_length]
    obtain ⟨u5, hu5⟩ : ∃ u5, u5 = (fun l least met t71 t72 t73 m => loopF q1l_ n (l, least, met, t71, t72, t73, m)) := ⟨_, rfl⟩
    rw [<- hu5]
    have h9 : qg_ u5 l least (met : Int) l (Int.ofNat l.length) (j : Int) m l[j] = qh_ l least ((met + (flat (l.drop j)).length : Nat) : Int) m := by
      show q1u_ (q1b_ u5) u5 l least (met : Int) l (Int.ofNat l.length) (j : Int) m l[j] = _
      unfold q1u_
      rw [q3l_]
      refine (k10_go u5 l least (j : Int) m l[j] hlen.2 hrb (hd _ hmem) l[j].2.length 0 18446744073709551616 met (by omega) (by omega) (by omega)).trans ?_
      rw [hu5, show add .i64 (j : Int) 1 = ((j + 1 : Nat) : Int) from succ64 (by omega)]
      refine (k5_go l hg h8 least m hr hd k (j + 1) n (met + l[j].2.length) (by omega) (by omega) ?_).trans ?_
      · omega
      · rw [hfl, Nat.add_assoc]
    show q23_ (q1f_ u5) (qg_ u5) u5 l least (met : Int) (j : Int) l (Int.ofNat l.length) (j : Int) false m l[j] = _
    unfold q23_
    rw [if_neg (by decide)]
    by_cases hj : j = 0
    · rw [if_neg (by rw [gt_iff]; omega)]
      exact h9
    · have hj1 : j - 1 < l.length := by omega
      have e1 : Sx.sub .i64 (j : Int) 1 = ((j - 1 : Nat) : Int) := by rw [sub64 (by omega) (by omega)]; omega
      have eq1 : l[j - 1]? = some l[j - 1] := List.getElem?_eq_getElem hj1
      have hrc := hr _ (List.getElem_mem hj1)
      have hlc := hg.len _ (List.getElem_mem hj1)
      have hn := hg.chn (j - 1) _ _ eq1 (by rw [show j - 1 + 1 = j by omega]; exact ew)
      have h88 : ∀ c, c = false -> q1f_ u5 l least (met : Int) l (Int.ofNat l.length) (j : Int) c m l[j] = qg_ u5 l least (met : Int) l (Int.ofNat l.length) (j : Int) m l[j] := fun c hc => by
        show q20_ (qg_ u5) u5 l least (met : Int) l (Int.ofNat l.length) (j : Int) c m l[j] = _
        unfold q20_
        rw [hc, if_neg (by decide)]
      have e2 : add .i64 l[j - 1].1 (Int.ofNat l[j - 1].2.length) = l[j - 1].1 + (l[j - 1].2.length : Int) := add64 (by rw [q9_]; omega) (by rw [q9_]; omega)
      rw [if_pos (by rw [gt_iff]; omega), e1, at_get eq1, Option.bind_some, Option.bind_some, Option.bind_some, e2]
      rcases hn with hn | ⟨hn, h14⟩
      · rw [if_neg (by rw [lt_iff]; omega), if_neg (by rw [eqi_iff]; omega), h88 _ rfl]
        exact h9
      · rw [if_neg (by rw [lt_iff]; omega), if_pos (by rw [eqi_iff]; omega), h88 _ (by rw [lt_dec, q9_]; simp; omega)]
        exact h9
theorem k7_eq {es : List (Int × Int)} (hr : rise es) (hk : ∀ e ∈ es, 0 ≤ e.1 ∧ e.1 < 64) (hl : es.length ≤ 64) (l : List Bk) : qh_ l (l.length : Int) (es.length : Int) es = some (true, ()) := by
  show q1z_ l (l.length : Int) (es.length : Int) es = _
  unfold q1z_
  have ok : ∀ v, (∀ e ∈ es ++ [v], keyOk e = true) ↔ keyOk v = true := fun v => by
    constructor
    · intro h; exact h v (by simp)
    · intro h e he
      rcases List.mem_append.1 he with he | he
      · have := hk e he
        rw [keyOk_iff]
        exact ⟨by omega, by omega⟩
      · simp at he; subst he; exact h
  rw [dput_out (fun e he => by have := hk e he; omega), blocks_eq (List.all_eq_true.2 ((ok _).2 (by decide))), bkRes_far hr (fun e he => (hk e he).2), Option.bind_some]
  show (qq_ (dput (.int .i64) (ddel (.int .i64) (es ++ [(64, 1)]) 64) (-1) 1, ())).bind _ = _
  rw [ddel_last (fun e he => by have := hk e he; omega), dput_out (fun e he => by have := hk e he; omega), blocks_eq (List.all_eq_true.2 ((ok _).2 (by decide))), bkRes_below hr (fun e he => (hk e he).1), Option.bind_some]
  have e1 : Sx.sub .i64 (Int.ofNat (es ++ [((-1 : Int), (1 : Int))]).length) 1 = (es.length : Int) := by
    rw [q9_, sub64 (by omega) (by simp; omega)]
    simp
  rw [if_pos (by rw [eqi_iff]; exact e1.symm), if_pos (by rw [eqi_iff]; rfl), if_pos (by rfl), if_pos (by rfl), awake]
  rfl
theorem planBlocks_law (w : List Int) (is' : List Bool) : q2k_ (w, is', ()) = some (true, ()) := by
  show q1w_ q1v_ w is' = _
  unfold q1w_
  have he : ∀ a : Option (As [.bool]), amb (eqAs [.bool]) [a, a] = a := fun a => amb2 (eqAs_refl [.bool]) a
  refine (he _).trans ?_
  show q1x_ qt_ w is' (List.replicate 64 0) (List.replicate 64 false) = _
  unfold q1x_
  rw [need_t (by decide), need_t (by decide)]
  obtain ⟨W, hW⟩ : ∃ W, W = List.take (Int.toNat (Int.ofNat (List.replicate 64 (0 : Int)).length)) w ++ List.drop (0 + List.length (List.take (Int.toNat (Int.ofNat (List.replicate 64 (0 : Int)).length)) w)) (List.replicate 64 0) := ⟨_, rfl⟩
  obtain ⟨V, hV⟩ : ∃ V, V = List.take (Int.toNat (Int.ofNat (List.replicate 64 false).length)) is' ++ List.drop (0 + List.length (List.take (Int.toNat (Int.ofNat (List.replicate 64 false).length)) is')) (List.replicate 64 false) := ⟨_, rfl⟩
  have hWl : W.length = 64 := by rw [hW]; simp; omega
  have hVl : V.length = 64 := by rw [hV]; simp; omega
  rw [<- hW, <- hV, row_eq W V (by omega) (by omega), Option.bind_some]
  have hr := @ents_rise 0 W V
  have hk : ∀ e ∈ ents 0 W V, 0 ≤ e.1 ∧ e.1 < 64 := fun e he => by have := ents_lo he; omega
  have hl : (ents 0 W V).length ≤ 64 := by have := @ents_len 0 W V; omega
  show (qq_ (ents 0 W V, ())).bind _ = _
  rw [blocks_eq (List.all_eq_true.2 fun e he => by have := hk e he; rw [keyOk_iff]; exact ⟨by omega, by omega⟩), Option.bind_some, bkRes_rise hr hl]
  have hB := allB W V 0 0 0 [] (some []) (by omega) (by omega) startB
  rw [List.nil_append] at hB
  generalize hE : ents 0 W V = es at hr hk hl hB
  show qt_ V (resOf (foldE es (some []))).1 (resOf (foldE es (some []))).2 0 0 (Int.ofNat V.length) 0 es = _
  rw [q3r_]
  refine (k2_go V hVl _ _ es 64 0 18446744073709551616 0 0 (by omega) (by omega) (by omega) (by omega)).trans ?_
  rw [List.drop_zero]
  have hle := rl_le V (0, 0)
  generalize (rl V (0, 0)).1 = runs, (rl V (0, 0)).2 = least at hB hle ⊢
  show q24_ qv_ _ _ (least : Int) es = _
  unfold q24_
  cases hF : foldE es (some []) with
  | none =>
    rw [hF] at hB
    have hB : 9 ≤ least := hB
    show (if Sx.neb false (le (least : Int) 8) = true then _ else _) = _
    rw [if_neg (by rw [le_dec]; simp [Sx.neb]; omega), if_pos (by rfl)]
    show (if eqi (Int.ofNat ([] : List Bk).length) 0 = true then _ else _) = _
    rw [if_pos (by decide), awake]
    rfl
  | some l =>
    rw [hF] at hB
    obtain ⟨b1, b2, b3, b4, b5⟩ := hB
    show (if Sx.neb true (le (least : Int) 8) = true then _ else _) = _
    rw [if_neg (by rw [le_dec]; simp [Sx.neb]; omega), if_neg (by simp [resOf])]
    show qv_ l (least : Int) 0 l (Int.ofNat l.length) 0 es = _
    have hin : ∀ b ∈ l, ∀ (i : Nat) (x : Int), b.2[i]? = some x -> (b.1 + (i : Int), x) ∈ es := fun b hb i x hx => by
      rw [<- b4]
      exact List.mem_flatMap.2 ⟨b, hb, fl_at hx⟩
    rw [q3q_]
    refine (k5_go l b1 b3 (least : Int) es (fun b hb => ?_) (fun b hb i x hx => dget_in hr (hin b hb i x hx)) l.length 0 18446744073709551616 0 (by omega) (by omega) (by rw [List.drop_zero, b4]; omega)).trans ?_
    · have h1 := (b1.len b hb).1
      have := hk _ (hin b hb 0 b.2[0] (List.getElem?_eq_getElem (by omega)))
      simp at this
      omega
    · rw [List.drop_zero, b4, Nat.zero_add, <- b2]
      exact k7_eq hr hk hl l
theorem planBlocks_row (x : As [.sl (.int .u16), .sl .bool]) (_ : Rw.okA [.sl (.int .u16), .sl .bool] x) : q2k_ x = some (true, ()) := planBlocks_law x.1 x.2.1
end Go.Proofs.Lx
end
