/- Proved in the last of these 9 parts (this is part 7): record by record registers show of a job what comes behind what they showed, for any records and any numbers that wait. Conditions: those of the given statement, and no others. -/
import Derived.Test.YtaojmefkpcdpnaaParte
import Derived.Test.YtaojmefkpcdpnaaPartf
import Derived.Test.YtaojmefkpcdpnaaProg
set_option linter.unusedVariables false
set_option linter.unusedSimpArgs false
set_option linter.unusedSectionVars false
section
/- Contracts, made by a program. -/
open Go Go.Proofs Ev Sx
set_option maxRecDepth 100000
namespace Go.Proofs.Lx
/-! law29_alone -/
@[reducible] def law29_alone_s : Sh := ⟨[.d (.pr (.sl .bool) LAT4), .d (.sl (.int .u16))], [], [.pr (.sl .bool) LAT4, .sl (.int .u16)], [.d (.bool)], [], 0, [.bool]⟩
def law29_alone_e : Env := (cts [(16, (⟨law06_Regs_s, law06_Regs⟩ : Ct))])
def law29_alone_h : List (Nat × Hint) := []
def law29_alone_m0 (m : List Bool × List Bool × List Int × List Int) (r : List Int) : Option (As [.bool]) :=
  Option.bind (law06_Regs (m.2.2.1, r, ())) fun (y : Bool × Unit) => if y.1 = true then some (eqi (add .i64 (add .i64 (Int.ofNat (List.length m.1)) (Int.ofNat (List.length m.2.1))) (Int.ofNat (List.length m.2.2.2))) 0, ()) else some (false, ())
def law29_alone (x : As [.pr (.sl .bool) LAT4, .sl (.int .u16)]) : Option (As [.bool]) := law29_alone_m0 x.1 x.2.1
theorem law29_alone_c0 (J : Orc (As [.bool])) (x : As [.pr (.sl .bool) LAT4, .sl (.int .u16)]) : rfn Try.prog law29_alone_e 6 18446744073709551616 (Ev.get law29_alone_h) 18 law29_alone_s J x = law29_alone_m0 x.1 x.2.1 := by kernel_rfl
theorem law29_alone_t (x : As [.pr (.sl .bool) LAT4, .sl (.int .u16)]) : evT Try.prog law29_alone_e 6 18446744073709551616 (Ev.get law29_alone_h) 18 law29_alone_s x = law29_alone x := by
  rw [rfn_eq, law29_alone_c0]
  rfl
theorem law29_alone_ok : CtOk Try.prog (fun _ => True) 18 ⟨law29_alone_s, law29_alone⟩ := ct_of_ev (env_cons law06_Regs_ok env_nil) law29_alone_t
/-! law06_Same -/
@[reducible] def law06_Same_s : Sh := ⟨[.d (.sl (.int .u8)), .d (.sl (.int .u8))], [], [.sl (.int .u8), .sl (.int .u8)], [.d (.bool)], [], 0, [.bool]⟩
def law06_Same_e : Env := (cts [])
def law06_Same_h : List (Nat × Hint) := []
def law06_Same_m0 (a : List Int) (b : List Int) : Option (As [.bool]) :=
  some (eqs (Sx.toS a) (Sx.toS b), ())
def law06_Same (x : As [.sl (.int .u8), .sl (.int .u8)]) : Option (As [.bool]) := law06_Same_m0 x.1 x.2.1
theorem law06_Same_c0 (J : Orc (As [.bool])) (x : As [.sl (.int .u8), .sl (.int .u8)]) : rfn Try.prog law06_Same_e 6 18446744073709551616 (Ev.get law06_Same_h) 19 law06_Same_s J x = law06_Same_m0 x.1 x.2.1 := by kernel_rfl
theorem law06_Same_t (x : As [.sl (.int .u8), .sl (.int .u8)]) : evT Try.prog law06_Same_e 6 18446744073709551616 (Ev.get law06_Same_h) 19 law06_Same_s x = law06_Same x := by
  rw [rfn_eq, law06_Same_c0]
  rfl
theorem law06_Same_ok : CtOk Try.prog (fun _ => True) 19 ⟨law06_Same_s, law06_Same⟩ := ct_of_ev env_nil law06_Same_t
/-! law29_awake -/
@[reducible] def law29_awake_s : Sh := ⟨[], [], [], [.d (.bool)], [], 0, [.bool]⟩
def law29_awake_e : Env := (cts [(9, (⟨view_Mem_s, view_Mem⟩ : Ct)), (12, (⟨view_Serve_s, view_Serve⟩ : Ct)), (17, (⟨view_Space_s, view_Space⟩ : Ct)), (18, (⟨law29_alone_s, law29_alone⟩ : Ct)), (19, (⟨law06_Same_s, law06_Same⟩ : Ct))])
def law29_awake_h : List (Nat × Hint) := []
def law29_awake_m0 : Option (As [.bool]) :=
  Option.bind (view_Space ()) fun (y : (List LAT2 × List LAT2 × List LAT2 × List LAT2) × Unit) => Option.bind (view_Mem ([(65537, 3, [], 2)], [], ())) fun (y_1 : (List Bool × List Bool × List Int × List Int) × Unit) => Option.bind (law29_alone (y_1.1, [1, 1, 1, 1, 2, 3, 0, 0, 0, 0, 0, 0, 0, 0, 0, 0, 0, 0, 0, 0, 0, 0, 0, 0, 0, 0, 0, 0, 0, 0, 0, 0, 0, 0, 0, 0, 0, 0, 0, 0, 0, 0, 0, 0, 0, 0, 0, 0, 0, 0], ())) fun (y_2 : Bool × Unit) => if y_2.1 = true then if eqi (Int.ofNat (List.length y.1.2.2.1)) 1 = true then Option.bind (at? y.1.2.2.1 0) fun (y_3 : Int × Int × Bool × Bool × Bool) => if (eqi y_3.1 0 && (eqi y_3.2.1 50 && (Sx.eqb y_3.2.2.1 true && (Sx.eqb y_3.2.2.2.1 false && (Sx.eqb y_3.2.2.2.2 false && true))))) = true then if eqi (add .i64 (add .i64 (Int.ofNat (List.length y.1.1)) (Int.ofNat (List.length y.1.2.1))) (Int.ofNat (List.length y.1.2.2.2))) 0 = true then Option.bind (view_Serve ([(65537, 3, [], 2)], [], [3, 0, 0, 0, 2], ())) fun (y : List Int × Unit) => Option.bind (law06_Same (y.1, [3, 4, 0, 1, 0, 1], ())) fun (y : Bool × Unit) => if y.1 = true then Option.bind (view_Serve ([(65537, 3, [], 2)], [], [6, 0, 0, 0, 1], ())) fun (y : List Int × Unit) => Option.bind (law06_Same (y.1, [134, 2], ())) fun (y : Bool × Unit) => if y.1 = true then Option.bind (view_Serve ([(65537, 3, [], 2)], [], [3, 0, 49, 0, 2], ())) fun (y : List Int × Unit) => Option.bind (law06_Same (y.1, [131, 2], ())) fun (y : Bool × Unit) => some (y.1, ()) else some (false, ()) else some (false, ()) else some (false, ()) else some (false, ()) else some (false, ()) else some (false, ())
def law29_awake (x : As []) : Option (As [.bool]) := law29_awake_m0
theorem law29_awake_c0 (J : Orc (As [.bool])) (x : As []) : rfn Try.prog law29_awake_e 6 18446744073709551616 (Ev.get law29_awake_h) 6 law29_awake_s J x = law29_awake_m0 := by kernel_rfl
theorem law29_awake_t (x : As []) : evT Try.prog law29_awake_e 6 18446744073709551616 (Ev.get law29_awake_h) 6 law29_awake_s x = law29_awake x := by
  rw [rfn_eq, law29_awake_c0]
  rfl
theorem law29_awake_ok : CtOk Try.prog (fun _ => True) 6 ⟨law29_awake_s, law29_awake⟩ := ct_of_ev (env_cons view_Mem_ok (env_cons view_Serve_ok (env_cons view_Space_ok (env_cons law29_alone_ok (env_cons law06_Same_ok env_nil))))) law29_awake_t
/-! words_Wide -/
@[reducible] def words_Wide_s : Sh := ⟨[.d (.int .u16), .d (.int .u16)], [], [.int .u16, .int .u16], [.d (.int .u32)], [], 0, [.int .u32]⟩
def words_Wide_e : Env := (cts [])
def words_Wide_h : List (Nat × Hint) := []
def words_Wide_m0 (high : Int) (low : Int) : Option (As [.int .u32]) :=
  some (Sx.bor .u32 (Sx.shl .u32 (cvt .u32 high) 16) (cvt .u32 low), ())
def words_Wide (x : As [.int .u16, .int .u16]) : Option (As [.int .u32]) := words_Wide_m0 x.1 x.2.1
theorem words_Wide_c0 (J : Orc (As [.int .u32])) (x : As [.int .u16, .int .u16]) : rfn Try.prog words_Wide_e 6 18446744073709551616 (Ev.get words_Wide_h) 23 words_Wide_s J x = words_Wide_m0 x.1 x.2.1 := by kernel_rfl
theorem words_Wide_t (x : As [.int .u16, .int .u16]) : evT Try.prog words_Wide_e 6 18446744073709551616 (Ev.get words_Wide_h) 23 words_Wide_s x = words_Wide x := by
  rw [rfn_eq, words_Wide_c0]
  rfl
theorem words_Wide_ok : CtOk Try.prog (fun _ => True) 23 ⟨words_Wide_s, words_Wide⟩ := ct_of_ev env_nil words_Wide_t
/-! view_possible -/
@[reducible] def view_possible_s : Sh := ⟨[.d LAT6], [], [.pr (.int .u32) (.pr (.int .u16) (.int .u16))], [.d (.bool)], [], 0, [.bool]⟩
def view_possible_e : Env := (cts [])
def view_possible_h : List (Nat × Hint) := []
def view_possible_m0 (x : Int × Int × Int) : Option (As [.bool]) :=
  if ge x.2.1 1 = true then if le x.2.1 6 = true then if ge x.2.2 1 = true then some (le x.2.2 255, ()) else some (false, ()) else some (false, ()) else some (false, ())
def view_possible (x : As [.pr (.int .u32) (.pr (.int .u16) (.int .u16))]) : Option (As [.bool]) := view_possible_m0 x.1
theorem view_possible_c0 (J : Orc (As [.bool])) (x : As [.pr (.int .u32) (.pr (.int .u16) (.int .u16))]) : rfn Try.prog view_possible_e 6 18446744073709551616 (Ev.get view_possible_h) 24 view_possible_s J x = view_possible_m0 x.1 := by kernel_rfl
theorem view_possible_t (x : As [.pr (.int .u32) (.pr (.int .u16) (.int .u16))]) : evT Try.prog view_possible_e 6 18446744073709551616 (Ev.get view_possible_h) 24 view_possible_s x = view_possible x := by
  rw [rfn_eq, view_possible_c0]
  rfl
theorem view_possible_ok : CtOk Try.prog (fun _ => True) 24 ⟨view_possible_s, view_possible⟩ := ct_of_ev env_nil view_possible_t
/-! view_Read -/
@[reducible] def view_Read_s : Sh := ⟨[.d (.pr (.sl .bool) LAT4)], [], [.pr (.sl .bool) LAT4], [.d (.sl LAT6), .d (.bool)], [], 0, [.sl LAT6, .bool]⟩
def view_Read_e : Env := (cts [(23, (⟨words_Wide_s, words_Wide⟩ : Ct)), (24, (⟨view_possible_s, view_possible⟩ : Ct))])
def view_Read_h : List (Nat × Hint) := [(255, ⟨[], [4, 5, 7]⟩), (511, ⟨[], [7]⟩), (4090, ⟨[], [7, 103, 104, 105]⟩), (2042, ⟨[.row 7 43], [4, 5, 6, 7, 55, 56]⟩), (261427, ⟨[], [4, 5, 6, 7, 10, 55, 56, 88, 89, 90]⟩), (1045710, ⟨[], [4, 5, 7, 10, 55, 56, 91]⟩), (6, ⟨[], [1, 34, 88, 89, 90]⟩)]
def view_Read_k1 (t34 : Bool) (m : List Bool × List Bool × List Int × List Int) : St := { fr := [(1, .pb 0 0), (34, .d .bool t34)], nt := 113, up := [], own := [(0, .box 39 [.d (.sl .bool) m.1, .d (.sl .bool) m.2.1, .d (.sl (.int .u16)) m.2.2.1, .d (.sl (.int .u16)) m.2.2.2])], nx := 1, log := [], ln := 0 }
def view_Read_k2 (h : List Int) (shown : Int) (before : Int) (t55 : Int) (t56 : Int) (l : List (Int × Int × Int)) : St := { fr := [(4, .d (.sl (.int .u16)) h), (5, .d (.int .i64) shown), (6, .d (.int .u32) before), (7, .row 0), (55, .d (.int .i64) t55), (56, .d (.int .i64) t56)], nt := 113, up := [], own := [(0, .row LAT6 43 l)], nx := 1, log := [], ln := 0 }
def view_Read_k3 (h : List Int) (shown : Int) (before : Int) (t55 : Int) (t56 : Int) (l : List (Int × Int × Int)) (x : Int × Int × Int) : St := { fr := [(4, .d (.sl (.int .u16)) h), (5, .d (.int .i64) shown), (6, .d (.int .u32) before), (7, .row 0), (10, .pb 1 0), (55, .d (.int .i64) t55), (56, .d (.int .i64) t56)], nt := 113, up := [], own := [(0, .row LAT6 43 l), (1, .box 43 [.d (.int .u32) x.1, .d (.int .u16) x.2.1, .d (.int .u16) x.2.2])], nx := 2, log := [], ln := 0 }
def view_Read_k4 (h : List Int) (shown : Int) (l : List (Int × Int × Int)) : St := { fr := [(4, .d (.sl (.int .u16)) h), (5, .d (.int .i64) shown), (7, .row 0)], nt := 113, up := [], own := [(0, .row LAT6 43 l)], nx := 1, log := [], ln := 0 }
def view_Read_k5 (h : List Int) (shown : Int) (t55 : Int) (t56 : Int) (t91 : Bool) (l : List (Int × Int × Int)) (x : Int × Int × Int) : St := { fr := [(4, .d (.sl (.int .u16)) h), (5, .d (.int .i64) shown), (7, .row 0), (10, .pb 1 0), (55, .d (.int .i64) t55), (56, .d (.int .i64) t56), (91, .d .bool t91)], nt := 113, up := [], own := [(0, .row LAT6 43 l), (1, .box 43 [.d (.int .u32) x.1, .d (.int .u16) x.2.1, .d (.int .u16) x.2.2])], nx := 2, log := [], ln := 0 }
def view_Read_k6 (t103 : List Int) (t104 : Int) (t105 : Int) (l : List (Int × Int × Int)) : St := { fr := [(7, .row 0), (103, .d (.sl (.int .u16)) t103), (104, .d (.int .i64) t104), (105, .d (.int .i64) t105)], nt := 113, up := [], own := [(0, .row LAT6 43 l)], nx := 1, log := [], ln := 0 }
def view_Read_k7 (l : List (Int × Int × Int)) : St := { fr := [(7, .row 0)], nt := 113, up := [], own := [(0, .row LAT6 43 l)], nx := 1, log := [], ln := 0 }
def view_Read_m1 (j2 : List Int → Int → Int → Int → Int → List (Int × Int × Int) → Option (As [.sl LAT6, .bool])) (t34 : Bool) (m : List Bool × List Bool × List Int × List Int) : Option (As [.sl LAT6, .bool]) :=
  if t34 = true then some ([], false, ()) else Option.bind (at? m.2.2.1 1) fun (y : Int) => Option.bind (at? m.2.2.1 0) fun (y_1 : Int) => if nei (cvt .i64 y) (if lt 12 (cvt .i64 y_1) = true then 12 else cvt .i64 y_1) = true then some ([], false, ()) else Option.bind (at? m.2.2.1 0) fun (y_2 : Int) => j2 m.2.2.1 (cvt .i64 y) (cvt .u32 (Sx.sub .i64 (cvt .i64 y_2) (cvt .i64 y))) (cvt .i64 y) 0 []
def view_Read_m2 (j3 : List Int → Int → Int → Int → Int → List (Int × Int × Int) → Int × Int × Int → Option (As [.sl LAT6, .bool])) (j4 : List Int → Int → List (Int × Int × Int) → Option (As [.sl LAT6, .bool])) (self2 : List Int → Int → Int → Int → Int → List (Int × Int × Int) → Option (As [.sl LAT6, .bool])) (h : List Int) (shown : Int) (before : Int) (t55 : Int) (t56 : Int) (l : List (Int × Int × Int)) : Option (As [.sl LAT6, .bool]) :=
  if lt t56 t55 = true then Option.bind (at? h (add .i64 2 (mul .i64 4 t56))) fun (y : Int) => Option.bind (at? h (add .i64 (add .i64 2 (mul .i64 4 t56)) 1)) fun (y_1 : Int) => Option.bind (at? h (add .i64 (add .i64 2 (mul .i64 4 t56)) 2)) fun (y_2 : Int) => Option.bind (at? h (add .i64 (add .i64 2 (mul .i64 4 t56)) 3)) fun (y_3 : Int) => amb (eqAs view_Read_s.rs) [Option.bind (words_Wide (y, y_1, ())) fun (y : Int × Unit) => j3 h shown before t55 t56 l (y.1, y_2, y_3), Option.bind (words_Wide (y, y_1, ())) fun (y : Int × Unit) => j3 h shown before t55 t56 l (y.1, y_2, y_3)] else j4 h shown l
def view_Read_m3 (j5 : List Int → Int → Int → Int → Bool → List (Int × Int × Int) → Int × Int × Int → Option (As [.sl LAT6, .bool])) (self2 : List Int → Int → Int → Int → Int → List (Int × Int × Int) → Option (As [.sl LAT6, .bool])) (h : List Int) (shown : Int) (before : Int) (t55 : Int) (t56 : Int) (l : List (Int × Int × Int)) (x : Int × Int × Int) : Option (As [.sl LAT6, .bool]) :=
  if le x.1 before = true then j5 h shown t55 t56 true l x else Option.bind (view_possible (x, ())) fun (y : Bool × Unit) => j5 h shown t55 t56 (!y.1) l x
def view_Read_m4 (j6 : List Int → Int → Int → List (Int × Int × Int) → Option (As [.sl LAT6, .bool])) (h : List Int) (shown : Int) (l : List (Int × Int × Int)) : Option (As [.sl LAT6, .bool]) :=
  Option.bind (cut h (add .i64 2 (mul .i64 4 shown)) (Int.ofNat (List.length h))) fun (y : List Int) => j6 y (Int.ofNat (List.length y)) 0 l
def view_Read_m5 (self2 : List Int → Int → Int → Int → Int → List (Int × Int × Int) → Option (As [.sl LAT6, .bool])) (h : List Int) (shown : Int) (t55 : Int) (t56 : Int) (t91 : Bool) (l : List (Int × Int × Int)) (x : Int × Int × Int) : Option (As [.sl LAT6, .bool]) :=
  if t91 = true then some ([], false, ()) else need (small (List.length l + Nat.succ 0)) (self2 h shown x.1 t55 (add .i64 t56 1) (l ++ [x]))
def view_Read_m6 (j7 : List (Int × Int × Int) → Option (As [.sl LAT6, .bool])) (self6 : List Int → Int → Int → List (Int × Int × Int) → Option (As [.sl LAT6, .bool])) (t103 : List Int) (t104 : Int) (t105 : Int) (l : List (Int × Int × Int)) : Option (As [.sl LAT6, .bool]) :=
  if lt t105 t104 = true then Option.bind (at? t103 t105) fun (y : Int) => if nei y 0 = true then some ([], false, ()) else self6 t103 t104 (add .i64 t105 1) l else j7 l
def view_Read_m7 (l : List (Int × Int × Int)) : Option (As [.sl LAT6, .bool]) :=
  some (l, true, ())
def view_Read_m0 (j1 : Bool → List Bool × List Bool × List Int × List Int → Option (As [.sl LAT6, .bool])) (m : List Bool × List Bool × List Int × List Int) : Option (As [.sl LAT6, .bool]) :=
  if nei (Int.ofNat (List.length m.1)) 0 = true then j1 true m else if nei (Int.ofNat (List.length m.2.1)) 0 = true then j1 true m else if nei (Int.ofNat (List.length m.2.2.2)) 0 = true then j1 true m else j1 (nei (Int.ofNat (List.length m.2.2.1)) 50) m
def view_Read_K5 (u2 : List Int → Int → Int → Int → Int → List (Int × Int × Int) → Option (As [.sl LAT6, .bool])) (h : List Int) (shown : Int) (t55 : Int) (t56 : Int) (t91 : Bool) (l : List (Int × Int × Int)) (x : Int × Int × Int) : Option (As [.sl LAT6, .bool]) := view_Read_m5 u2 h shown t55 t56 t91 l x
def view_Read_K3 (u2 : List Int → Int → Int → Int → Int → List (Int × Int × Int) → Option (As [.sl LAT6, .bool])) (h : List Int) (shown : Int) (before : Int) (t55 : Int) (t56 : Int) (l : List (Int × Int × Int)) (x : Int × Int × Int) : Option (As [.sl LAT6, .bool]) := view_Read_m3 (view_Read_K5 u2) u2 h shown before t55 t56 l x
def view_Read_K7 (l : List (Int × Int × Int)) : Option (As [.sl LAT6, .bool]) := view_Read_m7 l
def view_Read_K6 (t103 : List Int) (t104 : Int) (t105 : Int) (l : List (Int × Int × Int)) : Option (As [.sl LAT6, .bool]) :=
  loopF (fun (self : (List Int) × (Int) × (Int) × (List (Int × Int × Int)) → Option (As [.sl LAT6, .bool])) (s : (List Int) × (Int) × (Int) × (List (Int × Int × Int))) => view_Read_m6 (view_Read_K7) (fun t103 t104 t105 l => self (t103, t104, t105, l)) s.1 s.2.1 s.2.2.1 s.2.2.2) 18446744073709551616 (t103, t104, t105, l)
def view_Read_K4 (h : List Int) (shown : Int) (l : List (Int × Int × Int)) : Option (As [.sl LAT6, .bool]) := view_Read_m4 (view_Read_K6) h shown l
def view_Read_K2 (h : List Int) (shown : Int) (before : Int) (t55 : Int) (t56 : Int) (l : List (Int × Int × Int)) : Option (As [.sl LAT6, .bool]) :=
  loopF (fun (self : (List Int) × (Int) × (Int) × (Int) × (Int) × (List (Int × Int × Int)) → Option (As [.sl LAT6, .bool])) (s : (List Int) × (Int) × (Int) × (Int) × (Int) × (List (Int × Int × Int))) => view_Read_m2 (view_Read_K3 (fun h shown before t55 t56 l => self (h, shown, before, t55, t56, l))) (view_Read_K4) (fun h shown before t55 t56 l => self (h, shown, before, t55, t56, l)) s.1 s.2.1 s.2.2.1 s.2.2.2.1 s.2.2.2.2.1 s.2.2.2.2.2) 18446744073709551616 (h, shown, before, t55, t56, l)
def view_Read_K1 (t34 : Bool) (m : List Bool × List Bool × List Int × List Int) : Option (As [.sl LAT6, .bool]) := view_Read_m1 (view_Read_K2) t34 m
def view_Read (x : As [.pr (.sl .bool) LAT4]) : Option (As [.sl LAT6, .bool]) := view_Read_m0 view_Read_K1 x.1
theorem view_Read_c5 (J : Orc (As [.sl LAT6, .bool])) (w2 : St → Option (As [.sl LAT6, .bool])) (h : List Int) (shown : Int) (t55 : Int) (t56 : Int) (t91 : Bool) (l : List (Int × Int × Int)) (x : Int × Int × Int) : pfn Try.prog view_Read_e 6 18446744073709551616 (Ev.get view_Read_h) 8 view_Read_s J 1045710 [w2] (view_Read_k5 h shown t55 t56 t91 l x) = view_Read_m5 (fun h shown before t55 t56 l => w2 (view_Read_k2 h shown before t55 t56 l)) h shown t55 t56 t91 l x := by kernel_rfl
theorem view_Read_c3 (J : Orc (As [.sl LAT6, .bool])) (w2 : St → Option (As [.sl LAT6, .bool])) (h : List Int) (shown : Int) (before : Int) (t55 : Int) (t56 : Int) (l : List (Int × Int × Int)) (x : Int × Int × Int) : pfn Try.prog view_Read_e 6 18446744073709551616 (Ev.get view_Read_h) 8 view_Read_s J 261427 [w2] (view_Read_k3 h shown before t55 t56 l x) = view_Read_m3 (fun h shown t55 t56 t91 l x => J 1045710 [w2] (view_Read_k5 h shown t55 t56 t91 l x)) (fun h shown before t55 t56 l => w2 (view_Read_k2 h shown before t55 t56 l)) h shown before t55 t56 l x := by kernel_rfl
theorem view_Read_c7 (J : Orc (As [.sl LAT6, .bool])) (l : List (Int × Int × Int)) : pfn Try.prog view_Read_e 6 18446744073709551616 (Ev.get view_Read_h) 8 view_Read_s J 511 [] (view_Read_k7 l) = view_Read_m7 l := by kernel_rfl
theorem view_Read_c6 (J : Orc (As [.sl LAT6, .bool])) (w6 : St → Option (As [.sl LAT6, .bool])) (t103 : List Int) (t104 : Int) (t105 : Int) (l : List (Int × Int × Int)) : pfn Try.prog view_Read_e 6 18446744073709551616 (Ev.get view_Read_h) 8 view_Read_s J 4090 [w6] (view_Read_k6 t103 t104 t105 l) = view_Read_m6 (fun l => J 511 [] (view_Read_k7 l)) (fun t103 t104 t105 l => w6 (view_Read_k6 t103 t104 t105 l)) t103 t104 t105 l := by kernel_rfl
theorem view_Read_c4 (J : Orc (As [.sl LAT6, .bool])) (h : List Int) (shown : Int) (l : List (Int × Int × Int)) : pfn Try.prog view_Read_e 6 18446744073709551616 (Ev.get view_Read_h) 8 view_Read_s J 255 [] (view_Read_k4 h shown l) = view_Read_m4 (fun t103 t104 t105 l => J 4090 [] (view_Read_k6 t103 t104 t105 l)) h shown l := by kernel_rfl
theorem view_Read_c2 (J : Orc (As [.sl LAT6, .bool])) (w2 : St → Option (As [.sl LAT6, .bool])) (h : List Int) (shown : Int) (before : Int) (t55 : Int) (t56 : Int) (l : List (Int × Int × Int)) : pfn Try.prog view_Read_e 6 18446744073709551616 (Ev.get view_Read_h) 8 view_Read_s J 2042 [w2] (view_Read_k2 h shown before t55 t56 l) = view_Read_m2 (fun h shown before t55 t56 l x => J 261427 [w2] (view_Read_k3 h shown before t55 t56 l x)) (fun h shown l => J 255 [] (view_Read_k4 h shown l)) (fun h shown before t55 t56 l => w2 (view_Read_k2 h shown before t55 t56 l)) h shown before t55 t56 l := by kernel_rfl
theorem view_Read_c1 (J : Orc (As [.sl LAT6, .bool])) (t34 : Bool) (m : List Bool × List Bool × List Int × List Int) : pfn Try.prog view_Read_e 6 18446744073709551616 (Ev.get view_Read_h) 8 view_Read_s J 6 [] (view_Read_k1 t34 m) = view_Read_m1 (fun h shown before t55 t56 l => J 2042 [] (view_Read_k2 h shown before t55 t56 l)) t34 m := by kernel_rfl
theorem view_Read_c0 (J : Orc (As [.sl LAT6, .bool])) (x : As [.pr (.sl .bool) LAT4]) : rfn Try.prog view_Read_e 6 18446744073709551616 (Ev.get view_Read_h) 8 view_Read_s J x = view_Read_m0 (fun t34 m => J 6 [] (view_Read_k1 t34 m)) x.1 := by kernel_rfl
theorem view_Read_g5 (w2 : St → Option (As [.sl LAT6, .bool])) (h : List Int) (shown : Int) (t55 : Int) (t56 : Int) (t91 : Bool) (l : List (Int × Int × Int)) (x : Int × Int × Int) : jfn Try.prog view_Read_e 6 18446744073709551616 (Ev.get view_Read_h) 8 view_Read_s 1045710 [w2] (view_Read_k5 h shown t55 t56 t91 l x) = view_Read_K5 (fun h shown before t55 t56 l => w2 (view_Read_k2 h shown before t55 t56 l)) h shown t55 t56 t91 l x := by
  rw [pfn_eq (by decide)]
  rw [view_Read_c5]
  rfl
theorem view_Read_g3 (w2 : St → Option (As [.sl LAT6, .bool])) (h : List Int) (shown : Int) (before : Int) (t55 : Int) (t56 : Int) (l : List (Int × Int × Int)) (x : Int × Int × Int) : jfn Try.prog view_Read_e 6 18446744073709551616 (Ev.get view_Read_h) 8 view_Read_s 261427 [w2] (view_Read_k3 h shown before t55 t56 l x) = view_Read_K3 (fun h shown before t55 t56 l => w2 (view_Read_k2 h shown before t55 t56 l)) h shown before t55 t56 l x := by
  rw [pfn_eq (by decide)]
  have e5 : (fun h shown t55 t56 t91 l x => (jfn Try.prog view_Read_e 6 18446744073709551616 (Ev.get view_Read_h) 8 view_Read_s) 1045710 [w2] (view_Read_k5 h shown t55 t56 t91 l x)) = view_Read_K5 (fun h shown before t55 t56 l => w2 (view_Read_k2 h shown before t55 t56 l)) := funext fun h => funext fun shown => funext fun t55 => funext fun t56 => funext fun t91 => funext fun l => funext fun x => view_Read_g5 w2 h shown t55 t56 t91 l x
  rw [view_Read_c3, e5]
  rfl
theorem view_Read_g7 (l : List (Int × Int × Int)) : jfn Try.prog view_Read_e 6 18446744073709551616 (Ev.get view_Read_h) 8 view_Read_s 511 [] (view_Read_k7 l) = view_Read_K7 l := by
  rw [pfn_eq (by decide)]
  rw [view_Read_c7]
  rfl
theorem view_Read_g6 (t103 : List Int) (t104 : Int) (t105 : Int) (l : List (Int × Int × Int)) : jfn Try.prog view_Read_e 6 18446744073709551616 (Ev.get view_Read_h) 8 view_Read_s 4090 [] (view_Read_k6 t103 t104 t105 l) = view_Read_K6 t103 t104 t105 l := by
  rw [pfn_eq (by decide)]
  rw [pfn_loop (by kernel_rfl)]
  refine loopF_sim (σ := (List Int) × (Int) × (Int) × (List (Int × Int × Int))) (mk := fun s => view_Read_k6 s.1 s.2.1 s.2.2.1 s.2.2.2) (fun w6 s => ?_) 18446744073709551616 (t103, t104, t105, l)
  have e7 : (fun l => (jfn Try.prog view_Read_e 6 18446744073709551616 (Ev.get view_Read_h) 8 view_Read_s) 511 [] (view_Read_k7 l)) = view_Read_K7 := funext fun l => view_Read_g7 l
  refine (view_Read_c6 _ w6 s.1 s.2.1 s.2.2.1 s.2.2.2).trans ?_
  rw [e7]
theorem view_Read_g4 (h : List Int) (shown : Int) (l : List (Int × Int × Int)) : jfn Try.prog view_Read_e 6 18446744073709551616 (Ev.get view_Read_h) 8 view_Read_s 255 [] (view_Read_k4 h shown l) = view_Read_K4 h shown l := by
  rw [pfn_eq (by decide)]
  have e6 : (fun t103 t104 t105 l => (jfn Try.prog view_Read_e 6 18446744073709551616 (Ev.get view_Read_h) 8 view_Read_s) 4090 [] (view_Read_k6 t103 t104 t105 l)) = view_Read_K6 := funext fun t103 => funext fun t104 => funext fun t105 => funext fun l => view_Read_g6 t103 t104 t105 l
  rw [view_Read_c4, e6]
  rfl
theorem view_Read_g2 (h : List Int) (shown : Int) (before : Int) (t55 : Int) (t56 : Int) (l : List (Int × Int × Int)) : jfn Try.prog view_Read_e 6 18446744073709551616 (Ev.get view_Read_h) 8 view_Read_s 2042 [] (view_Read_k2 h shown before t55 t56 l) = view_Read_K2 h shown before t55 t56 l := by
  rw [pfn_eq (by decide)]
  rw [pfn_loop (by kernel_rfl)]
  refine loopF_sim (σ := (List Int) × (Int) × (Int) × (Int) × (Int) × (List (Int × Int × Int))) (mk := fun s => view_Read_k2 s.1 s.2.1 s.2.2.1 s.2.2.2.1 s.2.2.2.2.1 s.2.2.2.2.2) (fun w2 s => ?_) 18446744073709551616 (h, shown, before, t55, t56, l)
  have e3 : (fun h shown before t55 t56 l x => (jfn Try.prog view_Read_e 6 18446744073709551616 (Ev.get view_Read_h) 8 view_Read_s) 261427 [w2] (view_Read_k3 h shown before t55 t56 l x)) = view_Read_K3 (fun h shown before t55 t56 l => w2 (view_Read_k2 h shown before t55 t56 l)) := funext fun h => funext fun shown => funext fun before => funext fun t55 => funext fun t56 => funext fun l => funext fun x => view_Read_g3 w2 h shown before t55 t56 l x
  have e4 : (fun h shown l => (jfn Try.prog view_Read_e 6 18446744073709551616 (Ev.get view_Read_h) 8 view_Read_s) 255 [] (view_Read_k4 h shown l)) = view_Read_K4 := funext fun h => funext fun shown => funext fun l => view_Read_g4 h shown l
  refine (view_Read_c2 _ w2 s.1 s.2.1 s.2.2.1 s.2.2.2.1 s.2.2.2.2.1 s.2.2.2.2.2).trans ?_
  rw [e3, e4]
theorem view_Read_g1 (t34 : Bool) (m : List Bool × List Bool × List Int × List Int) : jfn Try.prog view_Read_e 6 18446744073709551616 (Ev.get view_Read_h) 8 view_Read_s 6 [] (view_Read_k1 t34 m) = view_Read_K1 t34 m := by
  rw [pfn_eq (by decide)]
  have e2 : (fun h shown before t55 t56 l => (jfn Try.prog view_Read_e 6 18446744073709551616 (Ev.get view_Read_h) 8 view_Read_s) 2042 [] (view_Read_k2 h shown before t55 t56 l)) = view_Read_K2 := funext fun h => funext fun shown => funext fun before => funext fun t55 => funext fun t56 => funext fun l => view_Read_g2 h shown before t55 t56 l
  rw [view_Read_c1, e2]
  rfl
theorem view_Read_t (x : As [.pr (.sl .bool) LAT4]) : evT Try.prog view_Read_e 6 18446744073709551616 (Ev.get view_Read_h) 8 view_Read_s x = view_Read x := by
  have e1 : (fun t34 m => (jfn Try.prog view_Read_e 6 18446744073709551616 (Ev.get view_Read_h) 8 view_Read_s) 6 [] (view_Read_k1 t34 m)) = view_Read_K1 := funext fun t34 => funext fun m => view_Read_g1 t34 m
  rw [rfn_eq, view_Read_c0, e1]
  rfl
theorem view_Read_ok : CtOk Try.prog (fun _ => True) 8 ⟨view_Read_s, view_Read⟩ := ct_of_ev (env_cons words_Wide_ok (env_cons view_possible_ok env_nil)) view_Read_t
/-! ledger_Right -/
def ledger_Right_m1 (j2 : List LAT7 → Int → Int → Bool → Int × Int × List Int × Int → Option (As [.bool])) (self1 : Int → List LAT7 → Int → Int → Option (As [.bool])) (last : Int) (t6 : List LAT7) (t7 : Int) (t8 : Int) : Option (As [.bool]) :=
  if lt t8 t7 = true then Option.bind (at? t6 t8) fun (y : Int × Int × List Int × Int) => if le y.1 last = true then j2 t6 t7 t8 true y else if eqi y.2.1 0 = true then j2 t6 t7 t8 true y else j2 t6 t7 t8 (gt (Int.ofNat (List.length y.2.2.1)) 8192) y else some (true, ())
def ledger_Right_m2 (j3 : List LAT7 → Int → Int → Bool → Int × Int × List Int × Int → Option (As [.bool])) (self1 : Int → List LAT7 → Int → Int → Option (As [.bool])) (t6 : List LAT7) (t7 : Int) (t8 : Int) (t26 : Bool) (j : Int × Int × List Int × Int) : Option (As [.bool]) :=
  if t26 = true then some (false, ()) else if lt j.2.2.2 1 = true then j3 t6 t7 t8 true j else j3 t6 t7 t8 (gt j.2.2.2 5) j
def ledger_Right_m3 (self1 : Int → List LAT7 → Int → Int → Option (As [.bool])) (t6 : List LAT7) (t7 : Int) (t8 : Int) (t34 : Bool) (j : Int × Int × List Int × Int) : Option (As [.bool]) :=
  if t34 = true then some (false, ()) else self1 j.1 t6 t7 (add .i64 t8 1)
def ledger_Right_m0 (j1 : Int → List LAT7 → Int → Int → Option (As [.bool])) (l : List LAT7) : Option (As [.bool]) :=
  j1 0 l (Int.ofNat (List.length l)) 0
def ledger_Right_K3 (u1 : Int → List LAT7 → Int → Int → Option (As [.bool])) (t6 : List LAT7) (t7 : Int) (t8 : Int) (t34 : Bool) (j : Int × Int × List Int × Int) : Option (As [.bool]) := ledger_Right_m3 u1 t6 t7 t8 t34 j
def ledger_Right_K2 (u1 : Int → List LAT7 → Int → Int → Option (As [.bool])) (t6 : List LAT7) (t7 : Int) (t8 : Int) (t26 : Bool) (j : Int × Int × List Int × Int) : Option (As [.bool]) := ledger_Right_m2 (ledger_Right_K3 u1) u1 t6 t7 t8 t26 j
def ledger_Right_K1 (last : Int) (t6 : List LAT7) (t7 : Int) (t8 : Int) : Option (As [.bool]) :=
  loopF (fun (self : (Int) × (List LAT7) × (Int) × (Int) → Option (As [.bool])) (s : (Int) × (List LAT7) × (Int) × (Int)) => ledger_Right_m1 (ledger_Right_K2 (fun last t6 t7 t8 => self (last, t6, t7, t8))) (fun last t6 t7 t8 => self (last, t6, t7, t8)) s.1 s.2.1 s.2.2.1 s.2.2.2) 18446744073709551616 (last, t6, t7, t8)
def ledger_Right (x : As [.sl LAT5]) : Option (As [.bool]) := ledger_Right_m0 ledger_Right_K1 x.1
/-! ledger_at_z1 -/
@[reducible] def ledger_at_z1_s : Sh := ⟨[.d LAT5, .d (.int .u32)], [], [.pr (.int .u32) LAT10, .int .u32], [.d (.int .i64)], [], 0, [.int .i64]⟩
def ledger_at_z1_e : Env := (cts [])
def ledger_at_z1_h : List (Nat × Hint) := []
def ledger_at_z1_m0 (j : Int × Int × List Int × Int) (tx : Int) : Option (As [.int .i64]) :=
  if lt j.1 tx = true then some (-1, ()) else if gt j.1 tx = true then some (1, ()) else some (0, ())
def ledger_at_z1 (x : As [.pr (.int .u32) LAT10, .int .u32]) : Option (As [.int .i64]) := ledger_at_z1_m0 x.1 x.2.1
theorem ledger_at_z1_c0 (J : Orc (As [.int .i64])) (x : As [.pr (.int .u32) LAT10, .int .u32]) : rfn Try.prog ledger_at_z1_e 6 18446744073709551616 (Ev.get ledger_at_z1_h) 51 ledger_at_z1_s J x = ledger_at_z1_m0 x.1 x.2.1 := by kernel_rfl
theorem ledger_at_z1_t (x : As [.pr (.int .u32) LAT10, .int .u32]) : evT Try.prog ledger_at_z1_e 6 18446744073709551616 (Ev.get ledger_at_z1_h) 51 ledger_at_z1_s x = ledger_at_z1 x := by
  rw [rfn_eq, ledger_at_z1_c0]
  rfl
theorem ledger_at_z1_ok : CtOk Try.prog (fun _ => True) 51 ⟨ledger_at_z1_s, ledger_at_z1⟩ := ct_of_ev env_nil ledger_at_z1_t
/-! slices_BinarySearchFunc_Guint32 -/
def slices_BinarySearchFunc_Guint32_m1 (j2 : List LAT7 → Int → Int → Int → Option (As [.int .i64, .bool])) (self1 : List LAT7 → Int → Int → Int → Int → Option (As [.int .i64, .bool])) (x : List LAT7) (target : Int) (n : Int) (i : Int) (j : Int) : Option (As [.int .i64, .bool]) :=
  if lt i j = true then Option.bind (at? x (cvt .i64 (Sx.shr .u64 (cvt .u64 (add .i64 i j)) 1))) fun (y : Int × Int × List Int × Int) => Option.bind (ledger_at_z1 (y, target, ())) fun (y : Int × Unit) => if lt y.1 0 = true then self1 x target n (add .i64 (cvt .i64 (Sx.shr .u64 (cvt .u64 (add .i64 i j)) 1)) 1) j else self1 x target n i (cvt .i64 (Sx.shr .u64 (cvt .u64 (add .i64 i j)) 1)) else j2 x target n i
def slices_BinarySearchFunc_Guint32_m2 (x : List LAT7) (target : Int) (n : Int) (i : Int) : Option (As [.int .i64, .bool]) :=
  if lt i n = true then Option.bind (at? x i) fun (y : Int × Int × List Int × Int) => Option.bind (ledger_at_z1 (y, target, ())) fun (y : Int × Unit) => some (i, eqi y.1 0, ()) else some (i, false, ())
def slices_BinarySearchFunc_Guint32_m0 (j1 : List LAT7 → Int → Int → Int → Int → Option (As [.int .i64, .bool])) (x : List LAT7) (target : Int) : Option (As [.int .i64, .bool]) :=
  j1 x target (Int.ofNat (List.length x)) 0 (Int.ofNat (List.length x))
def slices_BinarySearchFunc_Guint32_K2 (x : List LAT7) (target : Int) (n : Int) (i : Int) : Option (As [.int .i64, .bool]) := slices_BinarySearchFunc_Guint32_m2 x target n i
def slices_BinarySearchFunc_Guint32_K1 (x : List LAT7) (target : Int) (n : Int) (i : Int) (j : Int) : Option (As [.int .i64, .bool]) :=
  loopF (fun (self : (List LAT7) × (Int) × (Int) × (Int) × (Int) → Option (As [.int .i64, .bool])) (s : (List LAT7) × (Int) × (Int) × (Int) × (Int)) => slices_BinarySearchFunc_Guint32_m1 (slices_BinarySearchFunc_Guint32_K2) (fun x target n i j => self (x, target, n, i, j)) s.1 s.2.1 s.2.2.1 s.2.2.2.1 s.2.2.2.2) 18446744073709551616 (x, target, n, i, j)
def slices_BinarySearchFunc_Guint32 (x : As [.sl LAT5, .int .u32]) : Option (As [.int .i64, .bool]) := slices_BinarySearchFunc_Guint32_m0 slices_BinarySearchFunc_Guint32_K1 x.1 x.2.1
/-! ledger_at -/
def ledger_at_m0 (l : List LAT7) (tx : Int) : Option (As [.int .i64]) :=
  Option.bind (slices_BinarySearchFunc_Guint32 (l, tx, ())) fun (y : Int × Bool × Unit) => some (y.1, ())
def ledger_at (x : As [.sl LAT5, .int .u32]) : Option (As [.int .i64]) := ledger_at_m0 x.1 x.2.1
/-! ledger_Find -/
def ledger_Find_m1 (i : Int) (t22 : Bool) : Option (As [.int .i64, .bool]) :=
  if t22 = true then some (0, false, ()) else some (i, true, ())
def ledger_Find_m0 (j1 : Int → Bool → Option (As [.int .i64, .bool])) (l : List LAT7) (tx : Int) : Option (As [.int .i64, .bool]) :=
  Option.bind (ledger_at (l, tx, ())) fun (y : Int × Unit) => if ge y.1 (Int.ofNat (List.length l)) = true then j1 y.1 true else Option.bind (at? l y.1) fun (y_1 : Int × Int × List Int × Int) => j1 y.1 (nei y_1.1 tx)
def ledger_Find_K1 (i : Int) (t22 : Bool) : Option (As [.int .i64, .bool]) := ledger_Find_m1 i t22
def ledger_Find (x : As [.sl LAT5, .int .u32]) : Option (As [.int .i64, .bool]) := ledger_Find_m0 ledger_Find_K1 x.1 x.2.1
/-! status_Tell_z1 -/
def status_Tell_z1_m0 (tx : Int) (v : List Int) : Option (As [.bool, .sl (.int .u32)]) :=
  Option.bind (slices_Contains_Guint32 (v, tx, ())) fun (y : Bool × Unit) => some (y.1, v, ())
def status_Tell_z1 (x : As [.int .u32, .sl (.int .u32)]) : Option (As [.bool, .sl (.int .u32)]) := status_Tell_z1_m0 x.1 x.2.1
/-! status_report -/
def status_report_m1 (t15 : Bool) (o : List Int) (j : Int × Int × List Int × Int) (reports : List (List UInt8)) : Option (As [.str, .sl (.int .u32)]) :=
  if t15 = true then some ([119, 97, 105, 116, 105, 110, 103], o, ()) else if ge (cvt .i64 j.2.2.2) 6 = true then some ([], o, ()) else need (lt j.2.2.2 6) (Option.bind (at? reports j.2.2.2) fun (x : List UInt8) => Option.bind (at? reports j.2.2.2) fun (y : List UInt8) => some (y, o, ()))
def status_report_m0 (j1 : Bool → List Int → Int × Int × List Int × Int → List (List UInt8) → Option (As [.str, .sl (.int .u32)])) (j : Int × Int × List Int × Int) (waits : List Int) : Option (As [.str, .sl (.int .u32)]) :=
  if eqi j.2.2.2 1 = true then Option.bind (status_Tell_z1 (j.1, waits, ())) fun (y : Bool × List Int × Unit) => j1 y.1 y.2.1 j [[], [114, 117, 110, 110, 105, 110, 103], [99, 111, 109, 109, 105, 116, 116, 101, 100], [97, 98, 111, 114, 116, 101, 100], [99, 111, 109, 109, 105, 116, 116, 101, 100, 32, 100, 111, 110, 101], [97, 98, 111, 114, 116, 101, 100, 32, 100, 111, 110, 101]] else j1 false waits j [[], [114, 117, 110, 110, 105, 110, 103], [99, 111, 109, 109, 105, 116, 116, 101, 100], [97, 98, 111, 114, 116, 101, 100], [99, 111, 109, 109, 105, 116, 116, 101, 100, 32, 100, 111, 110, 101], [97, 98, 111, 114, 116, 101, 100, 32, 100, 111, 110, 101]]
def status_report_K1 (t15 : Bool) (o : List Int) (j : Int × Int × List Int × Int) (reports : List (List UInt8)) : Option (As [.str, .sl (.int .u32)]) := status_report_m1 t15 o j reports
def status_report (x : As [.pr (.int .u32) LAT10, .sl (.int .u32)]) : Option (As [.str, .sl (.int .u32)]) := status_report_m0 status_report_K1 x.1 x.2.1
/-! status_Tell -/
def status_Tell_m0 (l : List LAT7) (waits : List Int) (tx : Int) : Option (As [.str]) :=
  Option.bind (ledger_Find (l, tx, ())) fun (y : Int × Bool × Unit) => if (!y.2.1) = true then some ([117, 110, 107, 110, 111, 119, 110], ()) else Option.bind (at? l y.1) fun (y : Int × Int × List Int × Int) => Option.bind (status_report (y, waits, ())) fun (y : List UInt8 × List Int × Unit) => some (y.1, ())
def status_Tell (x : As [.sl LAT5, .sl (.int .u32), .int .u32]) : Option (As [.str]) := status_Tell_m0 x.1 x.2.1 x.2.2.1
/-! law29_ViewAgrees -/
def law29_ViewAgrees_m1 (j2 : List LAT7 → List Int → List (Int × Int × Int) → Int → Bool → Option (As [.bool])) (l : List LAT7) (waits : List Int) (t25 : Bool) : Option (As [.bool]) :=
  if t25 = true then Option.bind (law29_awake ()) fun (y : Bool × Unit) => some (y.1, ()) else Option.bind (view_Mem (l, waits, ())) fun (y : (List Bool × List Bool × List Int × List Int) × Unit) => Option.bind (view_Read (y.1, ())) fun (y_1 : List (Int × Int × Int) × Bool × Unit) => if (!y_1.2.1) = true then j2 l waits y_1.1 (if lt 12 (Int.ofNat (List.length l)) = true then 12 else Int.ofNat (List.length l)) true else if nei (Int.ofNat (List.length y_1.1)) (if lt 12 (Int.ofNat (List.length l)) = true then 12 else Int.ofNat (List.length l)) = true then j2 l waits y_1.1 (if lt 12 (Int.ofNat (List.length l)) = true then 12 else Int.ofNat (List.length l)) true else if nei (Int.ofNat (List.length y.1.2.2.1)) 50 = true then j2 l waits y_1.1 (if lt 12 (Int.ofNat (List.length l)) = true then 12 else Int.ofNat (List.length l)) true else Option.bind (at? y.1.2.2.1 0) fun (y_2 : Int) => if nei (cvt .i64 y_2) (Int.ofNat (List.length l)) = true then j2 l waits y_1.1 (if lt 12 (Int.ofNat (List.length l)) = true then 12 else Int.ofNat (List.length l)) true else Option.bind (at? y.1.2.2.1 1) fun (y : Int) => j2 l waits y_1.1 (if lt 12 (Int.ofNat (List.length l)) = true then 12 else Int.ofNat (List.length l)) (nei (cvt .i64 y) (if lt 12 (Int.ofNat (List.length l)) = true then 12 else Int.ofNat (List.length l)))
def law29_ViewAgrees_m2 (j3 : List LAT7 → List Int → Int → List (Int × Int × Int) → Int → Int → List (List UInt8) → Option (As [.bool])) (l : List LAT7) (waits : List Int) (lines : List (Int × Int × Int)) (n : Int) (t70 : Bool) : Option (As [.bool]) :=
  if t70 = true then some (false, ()) else j3 l waits n lines (Int.ofNat (List.length lines)) 0 [[], [114, 117, 110, 110, 105, 110, 103], [99, 111, 109, 109, 105, 116, 116, 101, 100], [97, 98, 111, 114, 116, 101, 100], [99, 111, 109, 109, 105, 116, 116, 101, 100, 32, 100, 111, 110, 101], [97, 98, 111, 114, 116, 101, 100, 32, 100, 111, 110, 101], [119, 97, 105, 116, 105, 110, 103]]
def law29_ViewAgrees_m3 (j4 : List LAT7 → List Int → Int → List (Int × Int × Int) → Int → Int → Bool → List (List UInt8) → Option (As [.bool])) (self3 : List LAT7 → List Int → Int → List (Int × Int × Int) → Int → Int → List (List UInt8) → Option (As [.bool])) (l : List LAT7) (waits : List Int) (n : Int) (t72 : List (Int × Int × Int)) (t73 : Int) (t74 : Int) (words : List (List UInt8)) : Option (As [.bool]) :=
  if lt t74 t73 = true then Option.bind (at? t72 t74) fun (y : Int × Int × Int) => Option.bind (at? l (add .i64 (Sx.sub .i64 (Int.ofNat (List.length l)) n) t74)) fun (y_1 : Int × Int × List Int × Int) => if nei y.1 y_1.1 = true then j4 l waits n t72 t73 t74 true words else if nei y.2.2 (cvt .u16 y_1.2.1) = true then j4 l waits n t72 t73 t74 true words else if lt y.2.1 1 = true then j4 l waits n t72 t73 t74 true words else if gt y.2.1 6 = true then j4 l waits n t72 t73 t74 true words else Option.bind (at? words y.2.1) fun (x : List UInt8) => Option.bind (at? words y.2.1) fun (y_2 : List UInt8) => Option.bind (status_Tell (l, waits, y.1, ())) fun (y : List UInt8 × Unit) => j4 l waits n t72 t73 t74 (nes y_2 y.1) words else Option.bind (law29_awake ()) fun (y : Bool × Unit) => some (y.1, ())
def law29_ViewAgrees_m4 (self3 : List LAT7 → List Int → Int → List (Int × Int × Int) → Int → Int → List (List UInt8) → Option (As [.bool])) (l : List LAT7) (waits : List Int) (n : Int) (t72 : List (Int × Int × Int)) (t73 : Int) (t74 : Int) (t123 : Bool) (words : List (List UInt8)) : Option (As [.bool]) :=
  if t123 = true then some (false, ()) else self3 l waits n t72 t73 (add .i64 t74 1) words
def law29_ViewAgrees_m0 (j1 : List LAT7 → List Int → Bool → Option (As [.bool])) (l : List LAT7) (waits : List Int) : Option (As [.bool]) :=
  if gt (Int.ofNat (List.length l)) 60 = true then j1 l waits true else if gt (Int.ofNat (List.length waits)) 60 = true then j1 l waits true else Option.bind (ledger_Right (l, ())) fun (y : Bool × Unit) => j1 l waits !y.1
def law29_ViewAgrees_K4 (u3 : List LAT7 → List Int → Int → List (Int × Int × Int) → Int → Int → List (List UInt8) → Option (As [.bool])) (l : List LAT7) (waits : List Int) (n : Int) (t72 : List (Int × Int × Int)) (t73 : Int) (t74 : Int) (t123 : Bool) (words : List (List UInt8)) : Option (As [.bool]) := law29_ViewAgrees_m4 u3 l waits n t72 t73 t74 t123 words
def law29_ViewAgrees_K3 (l : List LAT7) (waits : List Int) (n : Int) (t72 : List (Int × Int × Int)) (t73 : Int) (t74 : Int) (words : List (List UInt8)) : Option (As [.bool]) :=
  loopF (fun (self : (List LAT7) × (List Int) × (Int) × (List (Int × Int × Int)) × (Int) × (Int) × (List (List UInt8)) → Option (As [.bool])) (s : (List LAT7) × (List Int) × (Int) × (List (Int × Int × Int)) × (Int) × (Int) × (List (List UInt8))) => law29_ViewAgrees_m3 (law29_ViewAgrees_K4 (fun l waits n t72 t73 t74 words => self (l, waits, n, t72, t73, t74, words))) (fun l waits n t72 t73 t74 words => self (l, waits, n, t72, t73, t74, words)) s.1 s.2.1 s.2.2.1 s.2.2.2.1 s.2.2.2.2.1 s.2.2.2.2.2.1 s.2.2.2.2.2.2) 18446744073709551616 (l, waits, n, t72, t73, t74, words)
def law29_ViewAgrees_K2 (l : List LAT7) (waits : List Int) (lines : List (Int × Int × Int)) (n : Int) (t70 : Bool) : Option (As [.bool]) := law29_ViewAgrees_m2 (law29_ViewAgrees_K3) l waits lines n t70
def law29_ViewAgrees_K1 (l : List LAT7) (waits : List Int) (t25 : Bool) : Option (As [.bool]) := law29_ViewAgrees_m1 (law29_ViewAgrees_K2) l waits t25
def law29_ViewAgrees (x : As [.sl LAT5, .sl (.int .u32)]) : Option (As [.bool]) := law29_ViewAgrees_m0 law29_ViewAgrees_K1 x.1 x.2.1
end Go.Proofs.Lx

end

section
/- Contracts, made by a program. -/
open Go Go.Proofs Ev Sx
set_option maxRecDepth 100000
namespace Go.Proofs.Lx
abbrev LFT0 : Ty := (.pr (.int .u32) (.pr (.int .u8) (.pr (.sl (.int .u8)) (.int .u8))))
abbrev LFT1 : Type := (Int × Int × List Int × Int)
abbrev LFT2 : Type := ((Int × Bool × Int) × Int)
abbrev LFT3 : Type := (Int × Int × Int × Bool × List Int)
abbrev LFT4 : Ty := (.pr (.int .u32) (.pr (.int .u8) (.pr .bool (.sl (.int .u8)))))
abbrev LFT5 : Ty := (.pr (.int .u8) (.pr .bool (.int .u8)))
abbrev LFT6 : Ty := (.sl (.pr (.int .u32) (.pr (.int .u16) (.int .u16))))
/-! slices_BinarySearchFunc_Guint32_r -/
@[reducible] def slices_BinarySearchFunc_Guint32_r_s : Sh := ⟨[.row 0, .d (.int .u32), .fn (.func 51) [] []], [.row LFT0 48], [.int .u32, .sl LFT0], [.d (.int .i64), .d (.bool)], [(0, .row LFT0 48)], 0, [.int .i64, .bool, .sl LFT0]⟩
def slices_BinarySearchFunc_Guint32_r_e : Env := (cts [(51, (⟨ledger_at_z1_s, ledger_at_z1⟩ : Ct))])
def slices_BinarySearchFunc_Guint32_r_h : List (Nat × Hint) := [(15, ⟨[], [0, 1, 2, 8, 9, 40, 41, 42, 43, 44, 45, 46, 47]⟩), (60, ⟨[], [0, 1, 2, 8, 9, 10, 40, 41, 42, 43, 44, 45, 46, 47]⟩)]
def slices_BinarySearchFunc_Guint32_r_k1 (target : Int) (n : Int) (i : Int) (j : Int) (x : List LFT1) : St := { fr := [(0, .row 0), (1, .d (.int .u32) target), (2, .fn (.func 51) [] []), (8, .d (.int .i64) n), (9, .d (.int .i64) i), (10, .d (.int .i64) j)], nt := 49, up := [], own := [(0, .row LFT0 48 x)], nx := 1, log := [], ln := 1 }
def slices_BinarySearchFunc_Guint32_r_k2 (target : Int) (n : Int) (i : Int) (x : List LFT1) : St := { fr := [(0, .row 0), (1, .d (.int .u32) target), (2, .fn (.func 51) [] []), (8, .d (.int .i64) n), (9, .d (.int .i64) i)], nt := 49, up := [], own := [(0, .row LFT0 48 x)], nx := 1, log := [], ln := 1 }
def slices_BinarySearchFunc_Guint32_r_m1 (j2 : Int → Int → Int → List LFT1 → Option (As [.int .i64, .bool, .sl LFT0])) (self1 : Int → Int → Int → Int → List LFT1 → Option (As [.int .i64, .bool, .sl LFT0])) (target : Int) (n : Int) (i : Int) (j : Int) (x : List LFT1) : Option (As [.int .i64, .bool, .sl LFT0]) :=
  if lt i j = true then Option.bind (at? x (cvt .i64 (Sx.shr .u64 (cvt .u64 (add .i64 i j)) 1))) fun (x_1 : Int × Int × List Int × Int) => Option.bind (at? x (cvt .i64 (Sx.shr .u64 (cvt .u64 (add .i64 i j)) 1))) fun (y : Int × Int × List Int × Int) => Option.bind (ledger_at_z1 (y, target, ())) fun (y : Int × Unit) => if lt y.1 0 = true then self1 target n (add .i64 (cvt .i64 (Sx.shr .u64 (cvt .u64 (add .i64 i j)) 1)) 1) j x else self1 target n i (cvt .i64 (Sx.shr .u64 (cvt .u64 (add .i64 i j)) 1)) x else j2 target n i x
def slices_BinarySearchFunc_Guint32_r_m2 (target : Int) (n : Int) (i : Int) (x : List LFT1) : Option (As [.int .i64, .bool, .sl LFT0]) :=
  if lt i n = true then Option.bind (at? x i) fun (x_1 : Int × Int × List Int × Int) => Option.bind (at? x i) fun (y : Int × Int × List Int × Int) => Option.bind (ledger_at_z1 (y, target, ())) fun (y : Int × Unit) => some (i, eqi y.1 0, x, ()) else some (i, false, x, ())
def slices_BinarySearchFunc_Guint32_r_m0 (j1 : Int → Int → Int → Int → List LFT1 → Option (As [.int .i64, .bool, .sl LFT0])) (x : Int) (target : List LFT1) : Option (As [.int .i64, .bool, .sl LFT0]) :=
  j1 x (Int.ofNat (List.length target)) 0 (Int.ofNat (List.length target)) target
def slices_BinarySearchFunc_Guint32_r_K2 (target : Int) (n : Int) (i : Int) (x : List LFT1) : Option (As [.int .i64, .bool, .sl LFT0]) := slices_BinarySearchFunc_Guint32_r_m2 target n i x
def slices_BinarySearchFunc_Guint32_r_K1 (target : Int) (n : Int) (i : Int) (j : Int) (x : List LFT1) : Option (As [.int .i64, .bool, .sl LFT0]) :=
  loopF (fun (self : (Int) × (Int) × (Int) × (Int) × (List LFT1) → Option (As [.int .i64, .bool, .sl LFT0])) (s : (Int) × (Int) × (Int) × (Int) × (List LFT1)) => slices_BinarySearchFunc_Guint32_r_m1 (slices_BinarySearchFunc_Guint32_r_K2) (fun target n i j x => self (target, n, i, j, x)) s.1 s.2.1 s.2.2.1 s.2.2.2.1 s.2.2.2.2) 18446744073709551616 (target, n, i, j, x)
def slices_BinarySearchFunc_Guint32_r (x : As [.int .u32, .sl LFT0]) : Option (As [.int .i64, .bool, .sl LFT0]) := slices_BinarySearchFunc_Guint32_r_m0 slices_BinarySearchFunc_Guint32_r_K1 x.1 x.2.1
theorem slices_BinarySearchFunc_Guint32_r_c2 (J : Orc (As [.int .i64, .bool, .sl LFT0])) (target : Int) (n : Int) (i : Int) (x : List LFT1) : pfn Try.prog slices_BinarySearchFunc_Guint32_r_e 6 18446744073709551616 (Ev.get slices_BinarySearchFunc_Guint32_r_h) 50 slices_BinarySearchFunc_Guint32_r_s J 15 [] (slices_BinarySearchFunc_Guint32_r_k2 target n i x) = slices_BinarySearchFunc_Guint32_r_m2 target n i x := by kernel_rfl
theorem slices_BinarySearchFunc_Guint32_r_c1 (J : Orc (As [.int .i64, .bool, .sl LFT0])) (w1 : St → Option (As [.int .i64, .bool, .sl LFT0])) (target : Int) (n : Int) (i : Int) (j : Int) (x : List LFT1) : pfn Try.prog slices_BinarySearchFunc_Guint32_r_e 6 18446744073709551616 (Ev.get slices_BinarySearchFunc_Guint32_r_h) 50 slices_BinarySearchFunc_Guint32_r_s J 60 [w1] (slices_BinarySearchFunc_Guint32_r_k1 target n i j x) = slices_BinarySearchFunc_Guint32_r_m1 (fun target n i x => J 15 [] (slices_BinarySearchFunc_Guint32_r_k2 target n i x)) (fun target n i j x => w1 (slices_BinarySearchFunc_Guint32_r_k1 target n i j x)) target n i j x := by kernel_rfl
theorem slices_BinarySearchFunc_Guint32_r_c0 (J : Orc (As [.int .i64, .bool, .sl LFT0])) (x : As [.int .u32, .sl LFT0]) : rfn Try.prog slices_BinarySearchFunc_Guint32_r_e 6 18446744073709551616 (Ev.get slices_BinarySearchFunc_Guint32_r_h) 50 slices_BinarySearchFunc_Guint32_r_s J x = slices_BinarySearchFunc_Guint32_r_m0 (fun target n i j x => J 60 [] (slices_BinarySearchFunc_Guint32_r_k1 target n i j x)) x.1 x.2.1 := by kernel_rfl
theorem slices_BinarySearchFunc_Guint32_r_g2 (target : Int) (n : Int) (i : Int) (x : List LFT1) : jfn Try.prog slices_BinarySearchFunc_Guint32_r_e 6 18446744073709551616 (Ev.get slices_BinarySearchFunc_Guint32_r_h) 50 slices_BinarySearchFunc_Guint32_r_s 15 [] (slices_BinarySearchFunc_Guint32_r_k2 target n i x) = slices_BinarySearchFunc_Guint32_r_K2 target n i x := by
  rw [pfn_eq (by decide)]
  rw [slices_BinarySearchFunc_Guint32_r_c2]
  rfl
theorem slices_BinarySearchFunc_Guint32_r_g1 (target : Int) (n : Int) (i : Int) (j : Int) (x : List LFT1) : jfn Try.prog slices_BinarySearchFunc_Guint32_r_e 6 18446744073709551616 (Ev.get slices_BinarySearchFunc_Guint32_r_h) 50 slices_BinarySearchFunc_Guint32_r_s 60 [] (slices_BinarySearchFunc_Guint32_r_k1 target n i j x) = slices_BinarySearchFunc_Guint32_r_K1 target n i j x := by
  rw [pfn_eq (by decide)]
  rw [pfn_loop (by kernel_rfl)]
  refine loopF_sim (σ := (Int) × (Int) × (Int) × (Int) × (List LFT1)) (mk := fun s => slices_BinarySearchFunc_Guint32_r_k1 s.1 s.2.1 s.2.2.1 s.2.2.2.1 s.2.2.2.2) (fun w1 s => ?_) 18446744073709551616 (target, n, i, j, x)
  have e2 : (fun target n i x => (jfn Try.prog slices_BinarySearchFunc_Guint32_r_e 6 18446744073709551616 (Ev.get slices_BinarySearchFunc_Guint32_r_h) 50 slices_BinarySearchFunc_Guint32_r_s) 15 [] (slices_BinarySearchFunc_Guint32_r_k2 target n i x)) = slices_BinarySearchFunc_Guint32_r_K2 := funext fun target => funext fun n => funext fun i => funext fun x => slices_BinarySearchFunc_Guint32_r_g2 target n i x
  refine (slices_BinarySearchFunc_Guint32_r_c1 _ w1 s.1 s.2.1 s.2.2.1 s.2.2.2.1 s.2.2.2.2).trans ?_
  rw [e2]
theorem slices_BinarySearchFunc_Guint32_r_t (x : As [.int .u32, .sl LFT0]) : evT Try.prog slices_BinarySearchFunc_Guint32_r_e 6 18446744073709551616 (Ev.get slices_BinarySearchFunc_Guint32_r_h) 50 slices_BinarySearchFunc_Guint32_r_s x = slices_BinarySearchFunc_Guint32_r x := by
  have e1 : (fun target n i j x => (jfn Try.prog slices_BinarySearchFunc_Guint32_r_e 6 18446744073709551616 (Ev.get slices_BinarySearchFunc_Guint32_r_h) 50 slices_BinarySearchFunc_Guint32_r_s) 60 [] (slices_BinarySearchFunc_Guint32_r_k1 target n i j x)) = slices_BinarySearchFunc_Guint32_r_K1 := funext fun target => funext fun n => funext fun i => funext fun j => funext fun x => slices_BinarySearchFunc_Guint32_r_g1 target n i j x
  rw [rfn_eq, slices_BinarySearchFunc_Guint32_r_c0, e1]
  rfl
theorem slices_BinarySearchFunc_Guint32_r_ok : CtOk Try.prog (fun _ => True) 50 ⟨slices_BinarySearchFunc_Guint32_r_s, slices_BinarySearchFunc_Guint32_r⟩ := ct_of_ev (env_cons ledger_at_z1_ok env_nil) slices_BinarySearchFunc_Guint32_r_t
/-! ledger_at_r -/
@[reducible] def ledger_at_r_s : Sh := ⟨[.row 0, .d (.int .u32)], [.row LFT0 48], [.int .u32, .sl LFT0], [.d (.int .i64)], [(0, .row LFT0 48)], 0, [.int .i64, .sl LFT0]⟩
def ledger_at_r_e : Env := (cts [(50, (⟨slices_BinarySearchFunc_Guint32_r_s, slices_BinarySearchFunc_Guint32_r⟩ : Ct)), (51, (⟨ledger_at_z1_s, ledger_at_z1⟩ : Ct))])
def ledger_at_r_h : List (Nat × Hint) := []
def ledger_at_r_m0 (l : Int) (tx : List LFT1) : Option (As [.int .i64, .sl LFT0]) :=
  Option.bind (slices_BinarySearchFunc_Guint32_r (l, tx, ())) fun (y : Int × Bool × List LFT1 × Unit) => some (y.1, y.2.2.1, ())
def ledger_at_r (x : As [.int .u32, .sl LFT0]) : Option (As [.int .i64, .sl LFT0]) := ledger_at_r_m0 x.1 x.2.1
theorem ledger_at_r_c0 (J : Orc (As [.int .i64, .sl LFT0])) (x : As [.int .u32, .sl LFT0]) : rfn Try.prog ledger_at_r_e 6 18446744073709551616 (Ev.get ledger_at_r_h) 42 ledger_at_r_s J x = ledger_at_r_m0 x.1 x.2.1 := by kernel_rfl
theorem ledger_at_r_t (x : As [.int .u32, .sl LFT0]) : evT Try.prog ledger_at_r_e 6 18446744073709551616 (Ev.get ledger_at_r_h) 42 ledger_at_r_s x = ledger_at_r x := by
  rw [rfn_eq, ledger_at_r_c0]
  rfl
theorem ledger_at_r_ok : CtOk Try.prog (fun _ => True) 42 ⟨ledger_at_r_s, ledger_at_r⟩ := ct_of_ev (env_cons slices_BinarySearchFunc_Guint32_r_ok (env_cons ledger_at_z1_ok env_nil)) ledger_at_r_t
/-! ledger_Find_r -/
@[reducible] def ledger_Find_r_s : Sh := ⟨[.row 0, .d (.int .u32)], [.row LFT0 48], [.int .u32, .sl LFT0], [.d (.int .i64), .d (.bool)], [(0, .row LFT0 48)], 0, [.int .i64, .bool, .sl LFT0]⟩
def ledger_Find_r_e : Env := (cts [(42, (⟨ledger_at_r_s, ledger_at_r⟩ : Ct))])
def ledger_Find_r_h : List (Nat × Hint) := [(14, ⟨[], [6, 22]⟩)]
def ledger_Find_r_k1 (i : Int) (t22 : Bool) (o : List LFT1) : St := { fr := [(6, .d (.int .i64) i), (22, .d .bool t22)], nt := 24, up := [], own := [(0, .row LFT0 48 o)], nx := 1, log := [], ln := 1 }
def ledger_Find_r_m1 (i : Int) (t22 : Bool) (o : List LFT1) : Option (As [.int .i64, .bool, .sl LFT0]) :=
  if t22 = true then some (0, false, o, ()) else some (i, true, o, ())
def ledger_Find_r_m0 (j1 : Int → Bool → List LFT1 → Option (As [.int .i64, .bool, .sl LFT0])) (l : Int) (tx : List LFT1) : Option (As [.int .i64, .bool, .sl LFT0]) :=
  Option.bind (ledger_at_r (l, tx, ())) fun (y : Int × List LFT1 × Unit) => if ge y.1 (Int.ofNat (List.length y.2.1)) = true then j1 y.1 true y.2.1 else Option.bind (at? y.2.1 y.1) fun (x : Int × Int × List Int × Int) => Option.bind (at? y.2.1 y.1) fun (y_1 : Int × Int × List Int × Int) => j1 y.1 (nei y_1.1 l) y.2.1
def ledger_Find_r_K1 (i : Int) (t22 : Bool) (o : List LFT1) : Option (As [.int .i64, .bool, .sl LFT0]) := ledger_Find_r_m1 i t22 o
def ledger_Find_r (x : As [.int .u32, .sl LFT0]) : Option (As [.int .i64, .bool, .sl LFT0]) := ledger_Find_r_m0 ledger_Find_r_K1 x.1 x.2.1
theorem ledger_Find_r_c1 (J : Orc (As [.int .i64, .bool, .sl LFT0])) (i : Int) (t22 : Bool) (o : List LFT1) : pfn Try.prog ledger_Find_r_e 6 18446744073709551616 (Ev.get ledger_Find_r_h) 28 ledger_Find_r_s J 14 [] (ledger_Find_r_k1 i t22 o) = ledger_Find_r_m1 i t22 o := by kernel_rfl
theorem ledger_Find_r_c0 (J : Orc (As [.int .i64, .bool, .sl LFT0])) (x : As [.int .u32, .sl LFT0]) : rfn Try.prog ledger_Find_r_e 6 18446744073709551616 (Ev.get ledger_Find_r_h) 28 ledger_Find_r_s J x = ledger_Find_r_m0 (fun i t22 o => J 14 [] (ledger_Find_r_k1 i t22 o)) x.1 x.2.1 := by kernel_rfl
theorem ledger_Find_r_g1 (i : Int) (t22 : Bool) (o : List LFT1) : jfn Try.prog ledger_Find_r_e 6 18446744073709551616 (Ev.get ledger_Find_r_h) 28 ledger_Find_r_s 14 [] (ledger_Find_r_k1 i t22 o) = ledger_Find_r_K1 i t22 o := by
  rw [pfn_eq (by decide)]
  rw [ledger_Find_r_c1]
  rfl
theorem ledger_Find_r_t (x : As [.int .u32, .sl LFT0]) : evT Try.prog ledger_Find_r_e 6 18446744073709551616 (Ev.get ledger_Find_r_h) 28 ledger_Find_r_s x = ledger_Find_r x := by
  have e1 : (fun i t22 o => (jfn Try.prog ledger_Find_r_e 6 18446744073709551616 (Ev.get ledger_Find_r_h) 28 ledger_Find_r_s) 14 [] (ledger_Find_r_k1 i t22 o)) = ledger_Find_r_K1 := funext fun i => funext fun t22 => funext fun o => ledger_Find_r_g1 i t22 o
  rw [rfn_eq, ledger_Find_r_c0, e1]
  rfl
theorem ledger_Find_r_ok : CtOk Try.prog (fun _ => True) 28 ⟨ledger_Find_r_s, ledger_Find_r⟩ := ct_of_ev (env_cons ledger_at_r_ok env_nil) ledger_Find_r_t
/-! nvlog_shape -/
@[reducible] def nvlog_shape_s : Sh := ⟨[.d (.int .u8)], [], [.int .u8], [.d (.pr .bool (.pr .bool .bool)), .d (.bool)], [], 0, [.pr .bool (.pr .bool .bool), .bool]⟩
def nvlog_shape_e : Env := (cts [])
def nvlog_shape_h : List (Nat × Hint) := []
def nvlog_shape_m0 (what : Int) : Option (As [.pr .bool (.pr .bool .bool), .bool]) :=
  some (Ev.gdV (.pr .bool (.pr .bool .bool)) (if eqi 1 what = true then some (false, false, false) else if eqi 2 what = true then some (true, false, true) else if eqi 3 what = true then some (false, true, false) else if eqi 4 what = true then some (false, false, false) else Option.none) (false, false, false), Ev.isV (.pr .bool (.pr .bool .bool)) (if eqi 1 what = true then some (false, false, false) else if eqi 2 what = true then some (true, false, true) else if eqi 3 what = true then some (false, true, false) else if eqi 4 what = true then some (false, false, false) else Option.none), ())
def nvlog_shape (x : As [.int .u8]) : Option (As [.pr .bool (.pr .bool .bool), .bool]) := nvlog_shape_m0 x.1
theorem nvlog_shape_c0 (J : Orc (As [.pr .bool (.pr .bool .bool), .bool])) (x : As [.int .u8]) : rfn Try.prog nvlog_shape_e 6 18446744073709551616 (Ev.get nvlog_shape_h) 49 nvlog_shape_s J x = nvlog_shape_m0 x.1 := by kernel_rfl
theorem nvlog_shape_t (x : As [.int .u8]) : evT Try.prog nvlog_shape_e 6 18446744073709551616 (Ev.get nvlog_shape_h) 49 nvlog_shape_s x = nvlog_shape x := by
  rw [rfn_eq, nvlog_shape_c0]
  rfl
theorem nvlog_shape_ok : CtOk Try.prog (fun _ => True) 49 ⟨nvlog_shape_s, nvlog_shape⟩ := ct_of_ev env_nil nvlog_shape_t
/-! nvlog_Right -/
@[reducible] def nvlog_Right_s : Sh := ⟨[.d (.pr (.int .u8) LFT4)], [], [.pr (.int .u8) LFT4], [.d (.bool)], [], 0, [.bool]⟩
def nvlog_Right_e : Env := (cts [(49, (⟨nvlog_shape_s, nvlog_shape⟩ : Ct))])
def nvlog_Right_h : List (Nat × Hint) := [(14, ⟨[], [1, 3, 29, 35, 36, 37, 38, 39, 40, 41, 42]⟩)]
def nvlog_Right_k1 (t29 : Bool) (x : Int × Int × Int × Bool × List Int) (f : Bool × Bool × Bool) : St := { fr := [(1, .pb 0 0), (3, .pb 1 0), (29, .d .bool t29)], nt := 44, up := [], own := [(0, .box 29 [.d (.int .u8) x.1, .d (.int .u32) x.2.1, .d (.int .u8) x.2.2.1, .d .bool x.2.2.2.1, .d (.sl (.int .u8)) x.2.2.2.2]), (1, .box 132 [.d .bool f.1, .d .bool f.2.1, .d .bool f.2.2])], nx := 2, log := [], ln := 0 }
def nvlog_Right_m1 (t29 : Bool) (x : Int × Int × Int × Bool × List Int) (f : Bool × Bool × Bool) : Option (As [.bool]) :=
  if t29 = true then some (false, ()) else if eqi (Int.ofNat (List.length x.2.2.2.2)) 0 = true then some (true, ()) else if f.2.2 = true then some (le (Int.ofNat (List.length x.2.2.2.2)) 8192, ()) else some (false, ())
def nvlog_Right_m0 (j1 : Bool → Int × Int × Int × Bool × List Int → Bool × Bool × Bool → Option (As [.bool])) (x : Int × Int × Int × Bool × List Int) : Option (As [.bool]) :=
  Option.bind (nvlog_shape (x.1, ())) fun (y : (Bool × Bool × Bool) × Bool × Unit) => if (!y.2.1) = true then j1 true x y.1 else if Sx.neb y.1.1 (gt x.2.2.1 0) = true then j1 true x y.1 else if x.2.2.2.1 = true then j1 (!y.1.2.1) x y.1 else j1 false x y.1
def nvlog_Right_K1 (t29 : Bool) (x : Int × Int × Int × Bool × List Int) (f : Bool × Bool × Bool) : Option (As [.bool]) := nvlog_Right_m1 t29 x f
def nvlog_Right (x : As [.pr (.int .u8) LFT4]) : Option (As [.bool]) := nvlog_Right_m0 nvlog_Right_K1 x.1
theorem nvlog_Right_c1 (J : Orc (As [.bool])) (t29 : Bool) (x : Int × Int × Int × Bool × List Int) (f : Bool × Bool × Bool) : pfn Try.prog nvlog_Right_e 6 18446744073709551616 (Ev.get nvlog_Right_h) 39 nvlog_Right_s J 14 [] (nvlog_Right_k1 t29 x f) = nvlog_Right_m1 t29 x f := by kernel_rfl
theorem nvlog_Right_c0 (J : Orc (As [.bool])) (x : As [.pr (.int .u8) LFT4]) : rfn Try.prog nvlog_Right_e 6 18446744073709551616 (Ev.get nvlog_Right_h) 39 nvlog_Right_s J x = nvlog_Right_m0 (fun t29 x f => J 14 [] (nvlog_Right_k1 t29 x f)) x.1 := by kernel_rfl
theorem nvlog_Right_g1 (t29 : Bool) (x : Int × Int × Int × Bool × List Int) (f : Bool × Bool × Bool) : jfn Try.prog nvlog_Right_e 6 18446744073709551616 (Ev.get nvlog_Right_h) 39 nvlog_Right_s 14 [] (nvlog_Right_k1 t29 x f) = nvlog_Right_K1 t29 x f := by
  rw [pfn_eq (by decide)]
  rw [nvlog_Right_c1]
  rfl
theorem nvlog_Right_t (x : As [.pr (.int .u8) LFT4]) : evT Try.prog nvlog_Right_e 6 18446744073709551616 (Ev.get nvlog_Right_h) 39 nvlog_Right_s x = nvlog_Right x := by
  have e1 : (fun t29 x f => (jfn Try.prog nvlog_Right_e 6 18446744073709551616 (Ev.get nvlog_Right_h) 39 nvlog_Right_s) 14 [] (nvlog_Right_k1 t29 x f)) = nvlog_Right_K1 := funext fun t29 => funext fun x => funext fun f => nvlog_Right_g1 t29 x f
  rw [rfn_eq, nvlog_Right_c0, e1]
  rfl
theorem nvlog_Right_ok : CtOk Try.prog (fun _ => True) 39 ⟨nvlog_Right_s, nvlog_Right⟩ := ct_of_ev (env_cons nvlog_shape_ok env_nil) nvlog_Right_t
/-! slices_Clone_Gbyte -/
@[reducible] def slices_Clone_Gbyte_s : Sh := ⟨[.d (.sl (.int .u8))], [], [.sl (.int .u8)], [.d (.sl (.int .u8))], [], 0, [.sl (.int .u8)]⟩
def slices_Clone_Gbyte_e : Env := (cts [])
def slices_Clone_Gbyte_h : List (Nat × Hint) := []
def slices_Clone_Gbyte_m0 (s : List Int) : Option (As [.sl (.int .u8)]) :=
  if eqi (Int.ofNat (List.length s)) 0 = true then amb (eqAs slices_Clone_Gbyte_s.rs) [some ([], ()), need (small (0 + List.length s)) (some (s, ()))] else need (small (0 + List.length s)) (some (s, ()))
def slices_Clone_Gbyte (x : As [.sl (.int .u8)]) : Option (As [.sl (.int .u8)]) := slices_Clone_Gbyte_m0 x.1
theorem slices_Clone_Gbyte_c0 (J : Orc (As [.sl (.int .u8)])) (x : As [.sl (.int .u8)]) : rfn Try.prog slices_Clone_Gbyte_e 6 18446744073709551616 (Ev.get slices_Clone_Gbyte_h) 40 slices_Clone_Gbyte_s J x = slices_Clone_Gbyte_m0 x.1 := by kernel_rfl
theorem slices_Clone_Gbyte_t (x : As [.sl (.int .u8)]) : evT Try.prog slices_Clone_Gbyte_e 6 18446744073709551616 (Ev.get slices_Clone_Gbyte_h) 40 slices_Clone_Gbyte_s x = slices_Clone_Gbyte x := by
  rw [rfn_eq, slices_Clone_Gbyte_c0]
  rfl
theorem slices_Clone_Gbyte_ok : CtOk Try.prog (fun _ => True) 40 ⟨slices_Clone_Gbyte_s, slices_Clone_Gbyte⟩ := ct_of_ev env_nil slices_Clone_Gbyte_t
/-! ledger_put -/
@[reducible] def ledger_put_s : Sh := ⟨[.row 0, .d (.pr (.int .u8) LFT4), .mp 1], [.row LFT0 48, .dm LFT5 (.int .u8)], [.pr (.int .u8) LFT4, .sl LFT0, .sl (.pr LFT5 (.int .u8))], [.d (.sl LFT0), .d (.bool)], [(1, .dm LFT5 (.int .u8))], 0, [.sl LFT0, .bool, .sl (.pr LFT5 (.int .u8))]⟩
def ledger_put_e : Env := (cts [(28, (⟨ledger_Find_r_s, ledger_Find_r⟩ : Ct)), (39, (⟨nvlog_Right_s, nvlog_Right⟩ : Ct)), (40, (⟨slices_Clone_Gbyte_s, slices_Clone_Gbyte⟩ : Ct))])
def ledger_put_h : List (Nat × Hint) := [(245, ⟨[], [0, 2, 4, 8, 47, 48, 49, 50]⟩), (1966, ⟨[], [0, 4, 9, 51]⟩)]
def ledger_put_k1 (last : Int) (l : List LFT1) (m : List LFT2) (x : Int × Int × Int × Bool × List Int) : St := { fr := [(0, .row 0), (2, .mp 1), (4, .pb 2 0), (8, .d (.int .u32) last)], nt := 96, up := [], own := [(0, .row LFT0 48 l), (1, .dm LFT5 (.int .u8) m), (2, .box 29 [.d (.int .u8) x.1, .d (.int .u32) x.2.1, .d (.int .u8) x.2.2.1, .d .bool x.2.2.2.1, .d (.sl (.int .u8)) x.2.2.2.2])], nx := 3, log := [], ln := 2 }
def ledger_put_k2 (stand : Int) (t51 : Bool) (l : List LFT1) (o : List LFT2) (x : Int × Int × Int × Bool × List Int) : St := { fr := [(0, .row 0), (4, .pb 2 0), (9, .d (.int .u8) stand), (51, .d .bool t51)], nt := 96, up := [], own := [(0, .row LFT0 48 l), (1, .dm LFT5 (.int .u8) o), (2, .box 29 [.d (.int .u8) x.1, .d (.int .u32) x.2.1, .d (.int .u8) x.2.2.1, .d .bool x.2.2.2.1, .d (.sl (.int .u8)) x.2.2.2.2])], nx := 3, log := [], ln := 2 }
def ledger_put_m1 (j2 : Int → Bool → List LFT1 → List LFT2 → Int × Int × Int × Bool × List Int → Option (As [.sl LFT0, .bool, .sl (.pr LFT5 (.int .u8))])) (last : Int) (l : List LFT1) (m : List LFT2) (x : Int × Int × Int × Bool × List Int) : Option (As [.sl LFT0, .bool, .sl (.pr LFT5 (.int .u8))]) :=
  if (!Ev.isV (.int .u8) (Ev.dget LFT5 m (x.1, x.2.2.2.1, 0))) = true then j2 (Ev.gdV (.int .u8) (Ev.dget LFT5 m (x.1, x.2.2.2.1, 0)) 0) true l m x else j2 (Ev.gdV (.int .u8) (Ev.dget LFT5 m (x.1, x.2.2.2.1, 0)) 0) (le x.2.1 last) l m x
def ledger_put_m2 (stand : Int) (t51 : Bool) (l : List LFT1) (o : List LFT2) (x : Int × Int × Int × Bool × List Int) : Option (As [.sl LFT0, .bool, .sl (.pr LFT5 (.int .u8))]) :=
  if t51 = true then some ([], false, o, ()) else Option.bind (slices_Clone_Gbyte (x.2.2.2.2, ())) fun (y : List Int × Unit) => need (small (List.length l + Nat.succ 0)) (some (l ++ [(x.2.1, x.2.2.1, y.1, stand)], true, o, ()))
def ledger_put_m0 (j1 : Int → List LFT1 → List LFT2 → Int × Int × Int × Bool × List Int → Option (As [.sl LFT0, .bool, .sl (.pr LFT5 (.int .u8))])) (l : Int × Int × Int × Bool × List Int) (x : List LFT1) (m : List LFT2) : Option (As [.sl LFT0, .bool, .sl (.pr LFT5 (.int .u8))]) :=
  Option.bind (nvlog_Right (l, ())) fun (y : Bool × Unit) => if (!y.1) = true then some ([], false, m, ()) else if eqi l.1 1 = true then some (x, true, m, ()) else if eqi l.1 2 = true then if gt (Int.ofNat (List.length x)) 0 = true then Option.bind (at? x (Sx.sub .i64 (Int.ofNat (List.length x)) 1)) fun (x_1 : Int × Int × List Int × Int) => Option.bind (at? x (Sx.sub .i64 (Int.ofNat (List.length x)) 1)) fun (y : Int × Int × List Int × Int) => j1 y.1 x m l else j1 0 x m l else Option.bind (ledger_Find_r (l.2.1, x, ())) fun (y : Int × Bool × List LFT1 × Unit) => if (!y.2.1) = true then some ([], false, m, ()) else Option.bind (at? y.2.2.1 y.1) fun (x_1 : Int × Int × List Int × Int) => Option.bind (at? y.2.2.1 y.1) fun (y_1 : Int × Int × List Int × Int) => if (!Ev.isV (.int .u8) (Ev.dget LFT5 m (l.1, l.2.2.2.1, y_1.2.2.2))) = true then some ([], false, m, ()) else Option.bind (at? y.2.2.1 y.1) fun (x : Int × Int × List Int × Int) => Option.bind (at? y.2.2.1 y.1) fun (x : Int × Int × List Int × Int) => some (List.set y.2.2.1 (Int.toNat y.1) (x.1, x.2.1, x.2.2.1, Ev.gdV (.int .u8) (Ev.dget LFT5 m (l.1, l.2.2.2.1, y_1.2.2.2)) 0), true, m, ())
def ledger_put_K2 (stand : Int) (t51 : Bool) (l : List LFT1) (o : List LFT2) (x : Int × Int × Int × Bool × List Int) : Option (As [.sl LFT0, .bool, .sl (.pr LFT5 (.int .u8))]) := ledger_put_m2 stand t51 l o x
def ledger_put_K1 (last : Int) (l : List LFT1) (m : List LFT2) (x : Int × Int × Int × Bool × List Int) : Option (As [.sl LFT0, .bool, .sl (.pr LFT5 (.int .u8))]) := ledger_put_m1 (ledger_put_K2) last l m x
def ledger_put (x : As [.pr (.int .u8) LFT4, .sl LFT0, .sl (.pr LFT5 (.int .u8))]) : Option (As [.sl LFT0, .bool, .sl (.pr LFT5 (.int .u8))]) := ledger_put_m0 ledger_put_K1 x.1 x.2.1 x.2.2.1
theorem ledger_put_c2 (J : Orc (As [.sl LFT0, .bool, .sl (.pr LFT5 (.int .u8))])) (stand : Int) (t51 : Bool) (l : List LFT1) (o : List LFT2) (x : Int × Int × Int × Bool × List Int) : pfn Try.prog ledger_put_e 6 18446744073709551616 (Ev.get ledger_put_h) 20 ledger_put_s J 1966 [] (ledger_put_k2 stand t51 l o x) = ledger_put_m2 stand t51 l o x := by kernel_rfl
theorem ledger_put_c1 (J : Orc (As [.sl LFT0, .bool, .sl (.pr LFT5 (.int .u8))])) (last : Int) (l : List LFT1) (m : List LFT2) (x : Int × Int × Int × Bool × List Int) : pfn Try.prog ledger_put_e 6 18446744073709551616 (Ev.get ledger_put_h) 20 ledger_put_s J 245 [] (ledger_put_k1 last l m x) = ledger_put_m1 (fun stand t51 l o x => J 1966 [] (ledger_put_k2 stand t51 l o x)) last l m x := by kernel_rfl
theorem ledger_put_c0 (J : Orc (As [.sl LFT0, .bool, .sl (.pr LFT5 (.int .u8))])) (x : As [.pr (.int .u8) LFT4, .sl LFT0, .sl (.pr LFT5 (.int .u8))]) : rfn Try.prog ledger_put_e 6 18446744073709551616 (Ev.get ledger_put_h) 20 ledger_put_s J x = ledger_put_m0 (fun last l m x => J 245 [] (ledger_put_k1 last l m x)) x.1 x.2.1 x.2.2.1 := by kernel_rfl
theorem ledger_put_g2 (stand : Int) (t51 : Bool) (l : List LFT1) (o : List LFT2) (x : Int × Int × Int × Bool × List Int) : jfn Try.prog ledger_put_e 6 18446744073709551616 (Ev.get ledger_put_h) 20 ledger_put_s 1966 [] (ledger_put_k2 stand t51 l o x) = ledger_put_K2 stand t51 l o x := by
  rw [pfn_eq (by decide)]
  rw [ledger_put_c2]
  rfl
theorem ledger_put_g1 (last : Int) (l : List LFT1) (m : List LFT2) (x : Int × Int × Int × Bool × List Int) : jfn Try.prog ledger_put_e 6 18446744073709551616 (Ev.get ledger_put_h) 20 ledger_put_s 245 [] (ledger_put_k1 last l m x) = ledger_put_K1 last l m x := by
  rw [pfn_eq (by decide)]
  have e2 : (fun stand t51 l o x => (jfn Try.prog ledger_put_e 6 18446744073709551616 (Ev.get ledger_put_h) 20 ledger_put_s) 1966 [] (ledger_put_k2 stand t51 l o x)) = ledger_put_K2 := funext fun stand => funext fun t51 => funext fun l => funext fun o => funext fun x => ledger_put_g2 stand t51 l o x
  rw [ledger_put_c1, e2]
  rfl
theorem ledger_put_t (x : As [.pr (.int .u8) LFT4, .sl LFT0, .sl (.pr LFT5 (.int .u8))]) : evT Try.prog ledger_put_e 6 18446744073709551616 (Ev.get ledger_put_h) 20 ledger_put_s x = ledger_put x := by
  have e1 : (fun last l m x => (jfn Try.prog ledger_put_e 6 18446744073709551616 (Ev.get ledger_put_h) 20 ledger_put_s) 245 [] (ledger_put_k1 last l m x)) = ledger_put_K1 := funext fun last => funext fun l => funext fun m => funext fun x => ledger_put_g1 last l m x
  rw [rfn_eq, ledger_put_c0, e1]
  rfl
theorem ledger_put_ok : CtOk Try.prog (fun _ => True) 20 ⟨ledger_put_s, ledger_put⟩ := ct_of_ev (env_cons ledger_Find_r_ok (env_cons nvlog_Right_ok (env_cons slices_Clone_Gbyte_ok env_nil))) ledger_put_t
/-! ledger_own -/
@[reducible] def ledger_own_s : Sh := ⟨[.d (.sl LFT0)], [], [.sl LFT0], [.row 0], [(0, .row LFT0 48)], 1, [.sl LFT0]⟩
def ledger_own_e : Env := (cts [(40, (⟨slices_Clone_Gbyte_s, slices_Clone_Gbyte⟩ : Ct))])
def ledger_own_h : List (Nat × Hint) := [(58, ⟨[], [3, 12, 13, 14]⟩)]
def ledger_own_k1 (t12 : List LFT1) (t13 : Int) (t14 : Int) (r : List LFT1) : St := { fr := [(3, .row 0), (12, .d (.sl LFT0) t12), (13, .d (.int .i64) t13), (14, .d (.int .i64) t14)], nt := 29, up := [], own := [(0, .row LFT0 48 r)], nx := 1, log := [], ln := 0 }
def ledger_own_m1 (self1 : List LFT1 → Int → Int → List LFT1 → Option (As [.sl LFT0])) (t12 : List LFT1) (t13 : Int) (t14 : Int) (r : List LFT1) : Option (As [.sl LFT0]) :=
  if lt t14 t13 = true then Option.bind (at? t12 t14) fun (y : Int × Int × List Int × Int) => Option.bind (slices_Clone_Gbyte (y.2.2.1, ())) fun (y_1 : List Int × Unit) => Option.bind (at? r t14) fun (x : Int × Int × List Int × Int) => Option.bind (at? r t14) fun (x : Int × Int × List Int × Int) => self1 t12 t13 (add .i64 t14 1) (List.set r (Int.toNat t14) (y.1, y.2.1, y_1.1, y.2.2.2)) else some (r, ())
def ledger_own_m0 (j1 : List LFT1 → Int → Int → List LFT1 → Option (As [.sl LFT0])) (l : List LFT1) : Option (As [.sl LFT0]) :=
  need (Ev.capOk (Int.ofNat (List.length l)) (add .i64 (Int.ofNat (List.length l)) 1)) (need (small (Int.toNat (add .i64 (Int.ofNat (List.length l)) 1))) (j1 l (Int.ofNat (List.length l)) 0 (List.replicate (Int.toNat (Int.ofNat (List.length l))) (0, 0, [], 0))))
def ledger_own_K1 (t12 : List LFT1) (t13 : Int) (t14 : Int) (r : List LFT1) : Option (As [.sl LFT0]) :=
  loopF (fun (self : (List LFT1) × (Int) × (Int) × (List LFT1) → Option (As [.sl LFT0])) (s : (List LFT1) × (Int) × (Int) × (List LFT1)) => ledger_own_m1 (fun t12 t13 t14 r => self (t12, t13, t14, r)) s.1 s.2.1 s.2.2.1 s.2.2.2) 18446744073709551616 (t12, t13, t14, r)
def ledger_own (x : As [.sl LFT0]) : Option (As [.sl LFT0]) := ledger_own_m0 ledger_own_K1 x.1
theorem ledger_own_c1 (J : Orc (As [.sl LFT0])) (w1 : St → Option (As [.sl LFT0])) (t12 : List LFT1) (t13 : Int) (t14 : Int) (r : List LFT1) : pfn Try.prog ledger_own_e 6 18446744073709551616 (Ev.get ledger_own_h) 21 ledger_own_s J 58 [w1] (ledger_own_k1 t12 t13 t14 r) = ledger_own_m1 (fun t12 t13 t14 r => w1 (ledger_own_k1 t12 t13 t14 r)) t12 t13 t14 r := by kernel_rfl
theorem ledger_own_c0 (J : Orc (As [.sl LFT0])) (x : As [.sl LFT0]) : rfn Try.prog ledger_own_e 6 18446744073709551616 (Ev.get ledger_own_h) 21 ledger_own_s J x = ledger_own_m0 (fun t12 t13 t14 r => J 58 [] (ledger_own_k1 t12 t13 t14 r)) x.1 := by kernel_rfl
theorem ledger_own_g1 (t12 : List LFT1) (t13 : Int) (t14 : Int) (r : List LFT1) : jfn Try.prog ledger_own_e 6 18446744073709551616 (Ev.get ledger_own_h) 21 ledger_own_s 58 [] (ledger_own_k1 t12 t13 t14 r) = ledger_own_K1 t12 t13 t14 r := by
  rw [pfn_eq (by decide)]
  rw [pfn_loop (by kernel_rfl)]
  refine loopF_sim (σ := (List LFT1) × (Int) × (Int) × (List LFT1)) (mk := fun s => ledger_own_k1 s.1 s.2.1 s.2.2.1 s.2.2.2) (fun w1 s => ?_) 18446744073709551616 (t12, t13, t14, r)
  refine (ledger_own_c1 _ w1 s.1 s.2.1 s.2.2.1 s.2.2.2).trans ?_
  rfl
theorem ledger_own_t (x : As [.sl LFT0]) : evT Try.prog ledger_own_e 6 18446744073709551616 (Ev.get ledger_own_h) 21 ledger_own_s x = ledger_own x := by
  have e1 : (fun t12 t13 t14 r => (jfn Try.prog ledger_own_e 6 18446744073709551616 (Ev.get ledger_own_h) 21 ledger_own_s) 58 [] (ledger_own_k1 t12 t13 t14 r)) = ledger_own_K1 := funext fun t12 => funext fun t13 => funext fun t14 => funext fun r => ledger_own_g1 t12 t13 t14 r
  rw [rfn_eq, ledger_own_c0, e1]
  rfl
theorem ledger_own_ok : CtOk Try.prog (fun _ => True) 21 ⟨ledger_own_s, ledger_own⟩ := ct_of_ev (env_cons slices_Clone_Gbyte_ok env_nil) ledger_own_t
/-! ledger_Add -/
@[reducible] def ledger_Add_s : Sh := ⟨[.d (.sl LFT0), .d (.pr (.int .u8) LFT4)], [], [.sl LFT0, .pr (.int .u8) LFT4], [.d (.sl LFT0), .d (.int .i64)], [], 0, [.sl LFT0, .int .i64]⟩
def ledger_Add_e : Env := (cts [(20, (⟨ledger_put_s, ledger_put⟩ : Ct)), (21, (⟨ledger_own_s, ledger_own⟩ : Ct))])
def ledger_Add_h : List (Nat × Hint) := []
def ledger_Add_m0 (l : List LFT1) (x : Int × Int × Int × Bool × List Int) : Option (As [.sl LFT0, .int .i64]) :=
  Option.bind (ledger_own (l, ())) fun (y : List LFT1 × Unit) => amb (eqAs ledger_Add_s.rs) [amb (eqAs ledger_Add_s.rs) [amb (eqAs ledger_Add_s.rs) [amb (eqAs ledger_Add_s.rs) [Option.bind (ledger_put (x, y.1, [((2, false, 0), 1), ((3, true, 1), 2), ((3, false, 1), 3), ((4, false, 2), 4), ((4, false, 3), 5)], ())) fun (y : List LFT1 × Bool × List LFT2 × Unit) => if (!y.2.1) = true then some ([], 230, ()) else some (y.1, 0, ()), Option.bind (ledger_put (x, y.1, [((2, false, 0), 1), ((3, true, 1), 2), ((3, false, 1), 3), ((4, false, 3), 5), ((4, false, 2), 4)], ())) fun (y : List LFT1 × Bool × List LFT2 × Unit) => if (!y.2.1) = true then some ([], 230, ()) else some (y.1, 0, ())], amb (eqAs ledger_Add_s.rs) [amb (eqAs ledger_Add_s.rs) [Option.bind (ledger_put (x, y.1, [((2, false, 0), 1), ((3, true, 1), 2), ((4, false, 2), 4), ((3, false, 1), 3), ((4, false, 3), 5)], ())) fun (y : List LFT1 × Bool × List LFT2 × Unit) => if (!y.2.1) = true then some ([], 230, ()) else some (y.1, 0, ()), Option.bind (ledger_put (x, y.1, [((2, false, 0), 1), ((3, true, 1), 2), ((4, false, 2), 4), ((4, false, 3), 5), ((3, false, 1), 3)], ())) fun (y : List LFT1 × Bool × List LFT2 × Unit) => if (!y.2.1) = true then some ([], 230, ()) else some (y.1, 0, ())], amb (eqAs ledger_Add_s.rs) [Option.bind (ledger_put (x, y.1, [((2, false, 0), 1), ((3, true, 1), 2), ((4, false, 3), 5), ((3, false, 1), 3), ((4, false, 2), 4)], ())) fun (y : List LFT1 × Bool × List LFT2 × Unit) => if (!y.2.1) = true then some ([], 230, ()) else some (y.1, 0, ()), Option.bind (ledger_put (x, y.1, [((2, false, 0), 1), ((3, true, 1), 2), ((4, false, 3), 5), ((4, false, 2), 4), ((3, false, 1), 3)], ())) fun (y : List LFT1 × Bool × List LFT2 × Unit) => if (!y.2.1) = true then some ([], 230, ()) else some (y.1, 0, ())]]], amb (eqAs ledger_Add_s.rs) [amb (eqAs ledger_Add_s.rs) [amb (eqAs ledger_Add_s.rs) [Option.bind (ledger_put (x, y.1, [((2, false, 0), 1), ((3, false, 1), 3), ((3, true, 1), 2), ((4, false, 2), 4), ((4, false, 3), 5)], ())) fun (y : List LFT1 × Bool × List LFT2 × Unit) => if (!y.2.1) = true then some ([], 230, ()) else some (y.1, 0, ()), Option.bind (ledger_put (x, y.1, [((2, false, 0), 1), ((3, false, 1), 3), ((3, true, 1), 2), ((4, false, 3), 5), ((4, false, 2), 4)], ())) fun (y : List LFT1 × Bool × List LFT2 × Unit) => if (!y.2.1) = true then some ([], 230, ()) else some (y.1, 0, ())], amb (eqAs ledger_Add_s.rs) [amb (eqAs ledger_Add_s.rs) [Option.bind (ledger_put (x, y.1, [((2, false, 0), 1), ((3, false, 1), 3), ((4, false, 2), 4), ((3, true, 1), 2), ((4, false, 3), 5)], ())) fun (y : List LFT1 × Bool × List LFT2 × Unit) => if (!y.2.1) = true then some ([], 230, ()) else some (y.1, 0, ()), Option.bind (ledger_put (x, y.1, [((2, false, 0), 1), ((3, false, 1), 3), ((4, false, 2), 4), ((4, false, 3), 5), ((3, true, 1), 2)], ())) fun (y : List LFT1 × Bool × List LFT2 × Unit) => if (!y.2.1) = true then some ([], 230, ()) else some (y.1, 0, ())], amb (eqAs ledger_Add_s.rs) [Option.bind (ledger_put (x, y.1, [((2, false, 0), 1), ((3, false, 1), 3), ((4, false, 3), 5), ((3, true, 1), 2), ((4, false, 2), 4)], ())) fun (y : List LFT1 × Bool × List LFT2 × Unit) => if (!y.2.1) = true then some ([], 230, ()) else some (y.1, 0, ()), Option.bind (ledger_put (x, y.1, [((2, false, 0), 1), ((3, false, 1), 3), ((4, false, 3), 5), ((4, false, 2), 4), ((3, true, 1), 2)], ())) fun (y : List LFT1 × Bool × List LFT2 × Unit) => if (!y.2.1) = true then some ([], 230, ()) else some (y.1, 0, ())]]], amb (eqAs ledger_Add_s.rs) [amb (eqAs ledger_Add_s.rs) [amb (eqAs ledger_Add_s.rs) [Option.bind (ledger_put (x, y.1, [((2, false, 0), 1), ((4, false, 2), 4), ((3, true, 1), 2), ((3, false, 1), 3), ((4, false, 3), 5)], ())) fun (y : List LFT1 × Bool × List LFT2 × Unit) => if (!y.2.1) = true then some ([], 230, ()) else some (y.1, 0, ()), Option.bind (ledger_put (x, y.1, [((2, false, 0), 1), ((4, false, 2), 4), ((3, true, 1), 2), ((4, false, 3), 5), ((3, false, 1), 3)], ())) fun (y : List LFT1 × Bool × List LFT2 × Unit) => if (!y.2.1) = true then some ([], 230, ()) else some (y.1, 0, ())], amb (eqAs ledger_Add_s.rs) [amb (eqAs ledger_Add_s.rs) [Option.bind (ledger_put (x, y.1, [((2, false, 0), 1), ((4, false, 2), 4), ((3, false, 1), 3), ((3, true, 1), 2), ((4, false, 3), 5)], ())) fun (y : List LFT1 × Bool × List LFT2 × Unit) => if (!y.2.1) = true then some ([], 230, ()) else some (y.1, 0, ()), Option.bind (ledger_put (x, y.1, [((2, false, 0), 1), ((4, false, 2), 4), ((3, false, 1), 3), ((4, false, 3), 5), ((3, true, 1), 2)], ())) fun (y : List LFT1 × Bool × List LFT2 × Unit) => if (!y.2.1) = true then some ([], 230, ()) else some (y.1, 0, ())], amb (eqAs ledger_Add_s.rs) [Option.bind (ledger_put (x, y.1, [((2, false, 0), 1), ((4, false, 2), 4), ((4, false, 3), 5), ((3, true, 1), 2), ((3, false, 1), 3)], ())) fun (y : List LFT1 × Bool × List LFT2 × Unit) => if (!y.2.1) = true then some ([], 230, ()) else some (y.1, 0, ()), Option.bind (ledger_put (x, y.1, [((2, false, 0), 1), ((4, false, 2), 4), ((4, false, 3), 5), ((3, false, 1), 3), ((3, true, 1), 2)], ())) fun (y : List LFT1 × Bool × List LFT2 × Unit) => if (!y.2.1) = true then some ([], 230, ()) else some (y.1, 0, ())]]], amb (eqAs ledger_Add_s.rs) [amb (eqAs ledger_Add_s.rs) [Option.bind (ledger_put (x, y.1, [((2, false, 0), 1), ((4, false, 3), 5), ((3, true, 1), 2), ((3, false, 1), 3), ((4, false, 2), 4)], ())) fun (y : List LFT1 × Bool × List LFT2 × Unit) => if (!y.2.1) = true then some ([], 230, ()) else some (y.1, 0, ()), Option.bind (ledger_put (x, y.1, [((2, false, 0), 1), ((4, false, 3), 5), ((3, true, 1), 2), ((4, false, 2), 4), ((3, false, 1), 3)], ())) fun (y : List LFT1 × Bool × List LFT2 × Unit) => if (!y.2.1) = true then some ([], 230, ()) else some (y.1, 0, ())], amb (eqAs ledger_Add_s.rs) [amb (eqAs ledger_Add_s.rs) [Option.bind (ledger_put (x, y.1, [((2, false, 0), 1), ((4, false, 3), 5), ((3, false, 1), 3), ((3, true, 1), 2), ((4, false, 2), 4)], ())) fun (y : List LFT1 × Bool × List LFT2 × Unit) => if (!y.2.1) = true then some ([], 230, ()) else some (y.1, 0, ()), Option.bind (ledger_put (x, y.1, [((2, false, 0), 1), ((4, false, 3), 5), ((3, false, 1), 3), ((4, false, 2), 4), ((3, true, 1), 2)], ())) fun (y : List LFT1 × Bool × List LFT2 × Unit) => if (!y.2.1) = true then some ([], 230, ()) else some (y.1, 0, ())], amb (eqAs ledger_Add_s.rs) [Option.bind (ledger_put (x, y.1, [((2, false, 0), 1), ((4, false, 3), 5), ((4, false, 2), 4), ((3, true, 1), 2), ((3, false, 1), 3)], ())) fun (y : List LFT1 × Bool × List LFT2 × Unit) => if (!y.2.1) = true then some ([], 230, ()) else some (y.1, 0, ()), Option.bind (ledger_put (x, y.1, [((2, false, 0), 1), ((4, false, 3), 5), ((4, false, 2), 4), ((3, false, 1), 3), ((3, true, 1), 2)], ())) fun (y : List LFT1 × Bool × List LFT2 × Unit) => if (!y.2.1) = true then some ([], 230, ()) else some (y.1, 0, ())]]]]]], amb (eqAs ledger_Add_s.rs) [amb (eqAs ledger_Add_s.rs) [amb (eqAs ledger_Add_s.rs) [amb (eqAs ledger_Add_s.rs) [Option.bind (ledger_put (x, y.1, [((3, true, 1), 2), ((2, false, 0), 1), ((3, false, 1), 3), ((4, false, 2), 4), ((4, false, 3), 5)], ())) fun (y : List LFT1 × Bool × List LFT2 × Unit) => if (!y.2.1) = true then some ([], 230, ()) else some (y.1, 0, ()), Option.bind (ledger_put (x, y.1, [((3, true, 1), 2), ((2, false, 0), 1), ((3, false, 1), 3), ((4, false, 3), 5), ((4, false, 2), 4)], ())) fun (y : List LFT1 × Bool × List LFT2 × Unit) => if (!y.2.1) = true then some ([], 230, ()) else some (y.1, 0, ())], amb (eqAs ledger_Add_s.rs) [amb (eqAs ledger_Add_s.rs) [Option.bind (ledger_put (x, y.1, [((3, true, 1), 2), ((2, false, 0), 1), ((4, false, 2), 4), ((3, false, 1), 3), ((4, false, 3), 5)], ())) fun (y : List LFT1 × Bool × List LFT2 × Unit) => if (!y.2.1) = true then some ([], 230, ()) else some (y.1, 0, ()), Option.bind (ledger_put (x, y.1, [((3, true, 1), 2), ((2, false, 0), 1), ((4, false, 2), 4), ((4, false, 3), 5), ((3, false, 1), 3)], ())) fun (y : List LFT1 × Bool × List LFT2 × Unit) => if (!y.2.1) = true then some ([], 230, ()) else some (y.1, 0, ())], amb (eqAs ledger_Add_s.rs) [Option.bind (ledger_put (x, y.1, [((3, true, 1), 2), ((2, false, 0), 1), ((4, false, 3), 5), ((3, false, 1), 3), ((4, false, 2), 4)], ())) fun (y : List LFT1 × Bool × List LFT2 × Unit) => if (!y.2.1) = true then some ([], 230, ()) else some (y.1, 0, ()), Option.bind (ledger_put (x, y.1, [((3, true, 1), 2), ((2, false, 0), 1), ((4, false, 3), 5), ((4, false, 2), 4), ((3, false, 1), 3)], ())) fun (y : List LFT1 × Bool × List LFT2 × Unit) => if (!y.2.1) = true then some ([], 230, ()) else some (y.1, 0, ())]]], amb (eqAs ledger_Add_s.rs) [amb (eqAs ledger_Add_s.rs) [amb (eqAs ledger_Add_s.rs) [Option.bind (ledger_put (x, y.1, [((3, true, 1), 2), ((3, false, 1), 3), ((2, false, 0), 1), ((4, false, 2), 4), ((4, false, 3), 5)], ())) fun (y : List LFT1 × Bool × List LFT2 × Unit) => if (!y.2.1) = true then some ([], 230, ()) else some (y.1, 0, ()), Option.bind (ledger_put (x, y.1, [((3, true, 1), 2), ((3, false, 1), 3), ((2, false, 0), 1), ((4, false, 3), 5), ((4, false, 2), 4)], ())) fun (y : List LFT1 × Bool × List LFT2 × Unit) => if (!y.2.1) = true then some ([], 230, ()) else some (y.1, 0, ())], amb (eqAs ledger_Add_s.rs) [amb (eqAs ledger_Add_s.rs) [Option.bind (ledger_put (x, y.1, [((3, true, 1), 2), ((3, false, 1), 3), ((4, false, 2), 4), ((2, false, 0), 1), ((4, false, 3), 5)], ())) fun (y : List LFT1 × Bool × List LFT2 × Unit) => if (!y.2.1) = true then some ([], 230, ()) else some (y.1, 0, ()), Option.bind (ledger_put (x, y.1, [((3, true, 1), 2), ((3, false, 1), 3), ((4, false, 2), 4), ((4, false, 3), 5), ((2, false, 0), 1)], ())) fun (y : List LFT1 × Bool × List LFT2 × Unit) => if (!y.2.1) = true then some ([], 230, ()) else some (y.1, 0, ())], amb (eqAs ledger_Add_s.rs) [Option.bind (ledger_put (x, y.1, [((3, true, 1), 2), ((3, false, 1), 3), ((4, false, 3), 5), ((2, false, 0), 1), ((4, false, 2), 4)], ())) fun (y : List LFT1 × Bool × List LFT2 × Unit) => if (!y.2.1) = true then some ([], 230, ()) else some (y.1, 0, ()), Option.bind (ledger_put (x, y.1, [((3, true, 1), 2), ((3, false, 1), 3), ((4, false, 3), 5), ((4, false, 2), 4), ((2, false, 0), 1)], ())) fun (y : List LFT1 × Bool × List LFT2 × Unit) => if (!y.2.1) = true then some ([], 230, ()) else some (y.1, 0, ())]]], amb (eqAs ledger_Add_s.rs) [amb (eqAs ledger_Add_s.rs) [amb (eqAs ledger_Add_s.rs) [Option.bind (ledger_put (x, y.1, [((3, true, 1), 2), ((4, false, 2), 4), ((2, false, 0), 1), ((3, false, 1), 3), ((4, false, 3), 5)], ())) fun (y : List LFT1 × Bool × List LFT2 × Unit) => if (!y.2.1) = true then some ([], 230, ()) else some (y.1, 0, ()), Option.bind (ledger_put (x, y.1, [((3, true, 1), 2), ((4, false, 2), 4), ((2, false, 0), 1), ((4, false, 3), 5), ((3, false, 1), 3)], ())) fun (y : List LFT1 × Bool × List LFT2 × Unit) => if (!y.2.1) = true then some ([], 230, ()) else some (y.1, 0, ())], amb (eqAs ledger_Add_s.rs) [amb (eqAs ledger_Add_s.rs) [Option.bind (ledger_put (x, y.1, [((3, true, 1), 2), ((4, false, 2), 4), ((3, false, 1), 3), ((2, false, 0), 1), ((4, false, 3), 5)], ())) fun (y : List LFT1 × Bool × List LFT2 × Unit) => if (!y.2.1) = true then some ([], 230, ()) else some (y.1, 0, ()), Option.bind (ledger_put (x, y.1, [((3, true, 1), 2), ((4, false, 2), 4), ((3, false, 1), 3), ((4, false, 3), 5), ((2, false, 0), 1)], ())) fun (y : List LFT1 × Bool × List LFT2 × Unit) => if (!y.2.1) = true then some ([], 230, ()) else some (y.1, 0, ())], amb (eqAs ledger_Add_s.rs) [Option.bind (ledger_put (x, y.1, [((3, true, 1), 2), ((4, false, 2), 4), ((4, false, 3), 5), ((2, false, 0), 1), ((3, false, 1), 3)], ())) fun (y : List LFT1 × Bool × List LFT2 × Unit) => if (!y.2.1) = true then some ([], 230, ()) else some (y.1, 0, ()), Option.bind (ledger_put (x, y.1, [((3, true, 1), 2), ((4, false, 2), 4), ((4, false, 3), 5), ((3, false, 1), 3), ((2, false, 0), 1)], ())) fun (y : List LFT1 × Bool × List LFT2 × Unit) => if (!y.2.1) = true then some ([], 230, ()) else some (y.1, 0, ())]]], amb (eqAs ledger_Add_s.rs) [amb (eqAs ledger_Add_s.rs) [Option.bind (ledger_put (x, y.1, [((3, true, 1), 2), ((4, false, 3), 5), ((2, false, 0), 1), ((3, false, 1), 3), ((4, false, 2), 4)], ())) fun (y : List LFT1 × Bool × List LFT2 × Unit) => if (!y.2.1) = true then some ([], 230, ()) else some (y.1, 0, ()), Option.bind (ledger_put (x, y.1, [((3, true, 1), 2), ((4, false, 3), 5), ((2, false, 0), 1), ((4, false, 2), 4), ((3, false, 1), 3)], ())) fun (y : List LFT1 × Bool × List LFT2 × Unit) => if (!y.2.1) = true then some ([], 230, ()) else some (y.1, 0, ())], amb (eqAs ledger_Add_s.rs) [amb (eqAs ledger_Add_s.rs) [Option.bind (ledger_put (x, y.1, [((3, true, 1), 2), ((4, false, 3), 5), ((3, false, 1), 3), ((2, false, 0), 1), ((4, false, 2), 4)], ())) fun (y : List LFT1 × Bool × List LFT2 × Unit) => if (!y.2.1) = true then some ([], 230, ()) else some (y.1, 0, ()), Option.bind (ledger_put (x, y.1, [((3, true, 1), 2), ((4, false, 3), 5), ((3, false, 1), 3), ((4, false, 2), 4), ((2, false, 0), 1)], ())) fun (y : List LFT1 × Bool × List LFT2 × Unit) => if (!y.2.1) = true then some ([], 230, ()) else some (y.1, 0, ())], amb (eqAs ledger_Add_s.rs) [Option.bind (ledger_put (x, y.1, [((3, true, 1), 2), ((4, false, 3), 5), ((4, false, 2), 4), ((2, false, 0), 1), ((3, false, 1), 3)], ())) fun (y : List LFT1 × Bool × List LFT2 × Unit) => if (!y.2.1) = true then some ([], 230, ()) else some (y.1, 0, ()), Option.bind (ledger_put (x, y.1, [((3, true, 1), 2), ((4, false, 3), 5), ((4, false, 2), 4), ((3, false, 1), 3), ((2, false, 0), 1)], ())) fun (y : List LFT1 × Bool × List LFT2 × Unit) => if (!y.2.1) = true then some ([], 230, ()) else some (y.1, 0, ())]]]]]], amb (eqAs ledger_Add_s.rs) [amb (eqAs ledger_Add_s.rs) [amb (eqAs ledger_Add_s.rs) [amb (eqAs ledger_Add_s.rs) [Option.bind (ledger_put (x, y.1, [((3, false, 1), 3), ((2, false, 0), 1), ((3, true, 1), 2), ((4, false, 2), 4), ((4, false, 3), 5)], ())) fun (y : List LFT1 × Bool × List LFT2 × Unit) => if (!y.2.1) = true then some ([], 230, ()) else some (y.1, 0, ()), Option.bind (ledger_put (x, y.1, [((3, false, 1), 3), ((2, false, 0), 1), ((3, true, 1), 2), ((4, false, 3), 5), ((4, false, 2), 4)], ())) fun (y : List LFT1 × Bool × List LFT2 × Unit) => if (!y.2.1) = true then some ([], 230, ()) else some (y.1, 0, ())], amb (eqAs ledger_Add_s.rs) [amb (eqAs ledger_Add_s.rs) [Option.bind (ledger_put (x, y.1, [((3, false, 1), 3), ((2, false, 0), 1), ((4, false, 2), 4), ((3, true, 1), 2), ((4, false, 3), 5)], ())) fun (y : List LFT1 × Bool × List LFT2 × Unit) => if (!y.2.1) = true then some ([], 230, ()) else some (y.1, 0, ()), Option.bind (ledger_put (x, y.1, [((3, false, 1), 3), ((2, false, 0), 1), ((4, false, 2), 4), ((4, false, 3), 5), ((3, true, 1), 2)], ())) fun (y : List LFT1 × Bool × List LFT2 × Unit) => if (!y.2.1) = true then some ([], 230, ()) else some (y.1, 0, ())], amb (eqAs ledger_Add_s.rs) [Option.bind (ledger_put (x, y.1, [((3, false, 1), 3), ((2, false, 0), 1), ((4, false, 3), 5), ((3, true, 1), 2), ((4, false, 2), 4)], ())) fun (y : List LFT1 × Bool × List LFT2 × Unit) => if (!y.2.1) = true then some ([], 230, ()) else some (y.1, 0, ()), Option.bind (ledger_put (x, y.1, [((3, false, 1), 3), ((2, false, 0), 1), ((4, false, 3), 5), ((4, false, 2), 4), ((3, true, 1), 2)], ())) fun (y : List LFT1 × Bool × List LFT2 × Unit) => if (!y.2.1) = true then some ([], 230, ()) else some (y.1, 0, ())]]], amb (eqAs ledger_Add_s.rs) [amb (eqAs ledger_Add_s.rs) [amb (eqAs ledger_Add_s.rs) [Option.bind (ledger_put (x, y.1, [((3, false, 1), 3), ((3, true, 1), 2), ((2, false, 0), 1), ((4, false, 2), 4), ((4, false, 3), 5)], ())) fun (y : List LFT1 × Bool × List LFT2 × Unit) => if (!y.2.1) = true then some ([], 230, ()) else some (y.1, 0, ()), Option.bind (ledger_put (x, y.1, [((3, false, 1), 3), ((3, true, 1), 2), ((2, false, 0), 1), ((4, false, 3), 5), ((4, false, 2), 4)], ())) fun (y : List LFT1 × Bool × List LFT2 × Unit) => if (!y.2.1) = true then some ([], 230, ()) else some (y.1, 0, ())], amb (eqAs ledger_Add_s.rs) [amb (eqAs ledger_Add_s.rs) [Option.bind (ledger_put (x, y.1, [((3, false, 1), 3), ((3, true, 1), 2), ((4, false, 2), 4), ((2, false, 0), 1), ((4, false, 3), 5)], ())) fun (y : List LFT1 × Bool × List LFT2 × Unit) => if (!y.2.1) = true then some ([], 230, ()) else some (y.1, 0, ()), Option.bind (ledger_put (x, y.1, [((3, false, 1), 3), ((3, true, 1), 2), ((4, false, 2), 4), ((4, false, 3), 5), ((2, false, 0), 1)], ())) fun (y : List LFT1 × Bool × List LFT2 × Unit) => if (!y.2.1) = true then some ([], 230, ()) else some (y.1, 0, ())], amb (eqAs ledger_Add_s.rs) [Option.bind (ledger_put (x, y.1, [((3, false, 1), 3), ((3, true, 1), 2), ((4, false, 3), 5), ((2, false, 0), 1), ((4, false, 2), 4)], ())) fun (y : List LFT1 × Bool × List LFT2 × Unit) => if (!y.2.1) = true then some ([], 230, ()) else some (y.1, 0, ()), Option.bind (ledger_put (x, y.1, [((3, false, 1), 3), ((3, true, 1), 2), ((4, false, 3), 5), ((4, false, 2), 4), ((2, false, 0), 1)], ())) fun (y : List LFT1 × Bool × List LFT2 × Unit) => if (!y.2.1) = true then some ([], 230, ()) else some (y.1, 0, ())]]], amb (eqAs ledger_Add_s.rs) [amb (eqAs ledger_Add_s.rs) [amb (eqAs ledger_Add_s.rs) [Option.bind (ledger_put (x, y.1, [((3, false, 1), 3), ((4, false, 2), 4), ((2, false, 0), 1), ((3, true, 1), 2), ((4, false, 3), 5)], ())) fun (y : List LFT1 × Bool × List LFT2 × Unit) => if (!y.2.1) = true then some ([], 230, ()) else some (y.1, 0, ()), Option.bind (ledger_put (x, y.1, [((3, false, 1), 3), ((4, false, 2), 4), ((2, false, 0), 1), ((4, false, 3), 5), ((3, true, 1), 2)], ())) fun (y : List LFT1 × Bool × List LFT2 × Unit) => if (!y.2.1) = true then some ([], 230, ()) else some (y.1, 0, ())], amb (eqAs ledger_Add_s.rs) [amb (eqAs ledger_Add_s.rs) [Option.bind (ledger_put (x, y.1, [((3, false, 1), 3), ((4, false, 2), 4), ((3, true, 1), 2), ((2, false, 0), 1), ((4, false, 3), 5)], ())) fun (y : List LFT1 × Bool × List LFT2 × Unit) => if (!y.2.1) = true then some ([], 230, ()) else some (y.1, 0, ()), Option.bind (ledger_put (x, y.1, [((3, false, 1), 3), ((4, false, 2), 4), ((3, true, 1), 2), ((4, false, 3), 5), ((2, false, 0), 1)], ())) fun (y : List LFT1 × Bool × List LFT2 × Unit) => if (!y.2.1) = true then some ([], 230, ()) else some (y.1, 0, ())], amb (eqAs ledger_Add_s.rs) [Option.bind (ledger_put (x, y.1, [((3, false, 1), 3), ((4, false, 2), 4), ((4, false, 3), 5), ((2, false, 0), 1), ((3, true, 1), 2)], ())) fun (y : List LFT1 × Bool × List LFT2 × Unit) => if (!y.2.1) = true then some ([], 230, ()) else some (y.1, 0, ()), Option.bind (ledger_put (x, y.1, [((3, false, 1), 3), ((4, false, 2), 4), ((4, false, 3), 5), ((3, true, 1), 2), ((2, false, 0), 1)], ())) fun (y : List LFT1 × Bool × List LFT2 × Unit) => if (!y.2.1) = true then some ([], 230, ()) else some (y.1, 0, ())]]], amb (eqAs ledger_Add_s.rs) [amb (eqAs ledger_Add_s.rs) [Option.bind (ledger_put (x, y.1, [((3, false, 1), 3), ((4, false, 3), 5), ((2, false, 0), 1), ((3, true, 1), 2), ((4, false, 2), 4)], ())) fun (y : List LFT1 × Bool × List LFT2 × Unit) => if (!y.2.1) = true then some ([], 230, ()) else some (y.1, 0, ()), Option.bind (ledger_put (x, y.1, [((3, false, 1), 3), ((4, false, 3), 5), ((2, false, 0), 1), ((4, false, 2), 4), ((3, true, 1), 2)], ())) fun (y : List LFT1 × Bool × List LFT2 × Unit) => if (!y.2.1) = true then some ([], 230, ()) else some (y.1, 0, ())], amb (eqAs ledger_Add_s.rs) [amb (eqAs ledger_Add_s.rs) [Option.bind (ledger_put (x, y.1, [((3, false, 1), 3), ((4, false, 3), 5), ((3, true, 1), 2), ((2, false, 0), 1), ((4, false, 2), 4)], ())) fun (y : List LFT1 × Bool × List LFT2 × Unit) => if (!y.2.1) = true then some ([], 230, ()) else some (y.1, 0, ()), Option.bind (ledger_put (x, y.1, [((3, false, 1), 3), ((4, false, 3), 5), ((3, true, 1), 2), ((4, false, 2), 4), ((2, false, 0), 1)], ())) fun (y : List LFT1 × Bool × List LFT2 × Unit) => if (!y.2.1) = true then some ([], 230, ()) else some (y.1, 0, ())], amb (eqAs ledger_Add_s.rs) [Option.bind (ledger_put (x, y.1, [((3, false, 1), 3), ((4, false, 3), 5), ((4, false, 2), 4), ((2, false, 0), 1), ((3, true, 1), 2)], ())) fun (y : List LFT1 × Bool × List LFT2 × Unit) => if (!y.2.1) = true then some ([], 230, ()) else some (y.1, 0, ()), Option.bind (ledger_put (x, y.1, [((3, false, 1), 3), ((4, false, 3), 5), ((4, false, 2), 4), ((3, true, 1), 2), ((2, false, 0), 1)], ())) fun (y : List LFT1 × Bool × List LFT2 × Unit) => if (!y.2.1) = true then some ([], 230, ()) else some (y.1, 0, ())]]]]]], amb (eqAs ledger_Add_s.rs) [amb (eqAs ledger_Add_s.rs) [amb (eqAs ledger_Add_s.rs) [amb (eqAs ledger_Add_s.rs) [Option.bind (ledger_put (x, y.1, [((4, false, 2), 4), ((2, false, 0), 1), ((3, true, 1), 2), ((3, false, 1), 3), ((4, false, 3), 5)], ())) fun (y : List LFT1 × Bool × List LFT2 × Unit) => if (!y.2.1) = true then some ([], 230, ()) else some (y.1, 0, ()), Option.bind (ledger_put (x, y.1, [((4, false, 2), 4), ((2, false, 0), 1), ((3, true, 1), 2), ((4, false, 3), 5), ((3, false, 1), 3)], ())) fun (y : List LFT1 × Bool × List LFT2 × Unit) => if (!y.2.1) = true then some ([], 230, ()) else some (y.1, 0, ())], amb (eqAs ledger_Add_s.rs) [amb (eqAs ledger_Add_s.rs) [Option.bind (ledger_put (x, y.1, [((4, false, 2), 4), ((2, false, 0), 1), ((3, false, 1), 3), ((3, true, 1), 2), ((4, false, 3), 5)], ())) fun (y : List LFT1 × Bool × List LFT2 × Unit) => if (!y.2.1) = true then some ([], 230, ()) else some (y.1, 0, ()), Option.bind (ledger_put (x, y.1, [((4, false, 2), 4), ((2, false, 0), 1), ((3, false, 1), 3), ((4, false, 3), 5), ((3, true, 1), 2)], ())) fun (y : List LFT1 × Bool × List LFT2 × Unit) => if (!y.2.1) = true then some ([], 230, ()) else some (y.1, 0, ())], amb (eqAs ledger_Add_s.rs) [Option.bind (ledger_put (x, y.1, [((4, false, 2), 4), ((2, false, 0), 1), ((4, false, 3), 5), ((3, true, 1), 2), ((3, false, 1), 3)], ())) fun (y : List LFT1 × Bool × List LFT2 × Unit) => if (!y.2.1) = true then some ([], 230, ()) else some (y.1, 0, ()), Option.bind (ledger_put (x, y.1, [((4, false, 2), 4), ((2, false, 0), 1), ((4, false, 3), 5), ((3, false, 1), 3), ((3, true, 1), 2)], ())) fun (y : List LFT1 × Bool × List LFT2 × Unit) => if (!y.2.1) = true then some ([], 230, ()) else some (y.1, 0, ())]]], amb (eqAs ledger_Add_s.rs) [amb (eqAs ledger_Add_s.rs) [amb (eqAs ledger_Add_s.rs) [Option.bind (ledger_put (x, y.1, [((4, false, 2), 4), ((3, true, 1), 2), ((2, false, 0), 1), ((3, false, 1), 3), ((4, false, 3), 5)], ())) fun (y : List LFT1 × Bool × List LFT2 × Unit) => if (!y.2.1) = true then some ([], 230, ()) else some (y.1, 0, ()), Option.bind (ledger_put (x, y.1, [((4, false, 2), 4), ((3, true, 1), 2), ((2, false, 0), 1), ((4, false, 3), 5), ((3, false, 1), 3)], ())) fun (y : List LFT1 × Bool × List LFT2 × Unit) => if (!y.2.1) = true then some ([], 230, ()) else some (y.1, 0, ())], amb (eqAs ledger_Add_s.rs) [amb (eqAs ledger_Add_s.rs) [Option.bind (ledger_put (x, y.1, [((4, false, 2), 4), ((3, true, 1), 2), ((3, false, 1), 3), ((2, false, 0), 1), ((4, false, 3), 5)], ())) fun (y : List LFT1 × Bool × List LFT2 × Unit) => if (!y.2.1) = true then some ([], 230, ()) else some (y.1, 0, ()), Option.bind (ledger_put (x, y.1, [((4, false, 2), 4), ((3, true, 1), 2), ((3, false, 1), 3), ((4, false, 3), 5), ((2, false, 0), 1)], ())) fun (y : List LFT1 × Bool × List LFT2 × Unit) => if (!y.2.1) = true then some ([], 230, ()) else some (y.1, 0, ())], amb (eqAs ledger_Add_s.rs) [Option.bind (ledger_put (x, y.1, [((4, false, 2), 4), ((3, true, 1), 2), ((4, false, 3), 5), ((2, false, 0), 1), ((3, false, 1), 3)], ())) fun (y : List LFT1 × Bool × List LFT2 × Unit) => if (!y.2.1) = true then some ([], 230, ()) else some (y.1, 0, ()), Option.bind (ledger_put (x, y.1, [((4, false, 2), 4), ((3, true, 1), 2), ((4, false, 3), 5), ((3, false, 1), 3), ((2, false, 0), 1)], ())) fun (y : List LFT1 × Bool × List LFT2 × Unit) => if (!y.2.1) = true then some ([], 230, ()) else some (y.1, 0, ())]]], amb (eqAs ledger_Add_s.rs) [amb (eqAs ledger_Add_s.rs) [amb (eqAs ledger_Add_s.rs) [Option.bind (ledger_put (x, y.1, [((4, false, 2), 4), ((3, false, 1), 3), ((2, false, 0), 1), ((3, true, 1), 2), ((4, false, 3), 5)], ())) fun (y : List LFT1 × Bool × List LFT2 × Unit) => if (!y.2.1) = true then some ([], 230, ()) else some (y.1, 0, ()), Option.bind (ledger_put (x, y.1, [((4, false, 2), 4), ((3, false, 1), 3), ((2, false, 0), 1), ((4, false, 3), 5), ((3, true, 1), 2)], ())) fun (y : List LFT1 × Bool × List LFT2 × Unit) => if (!y.2.1) = true then some ([], 230, ()) else some (y.1, 0, ())], amb (eqAs ledger_Add_s.rs) [amb (eqAs ledger_Add_s.rs) [Option.bind (ledger_put (x, y.1, [((4, false, 2), 4), ((3, false, 1), 3), ((3, true, 1), 2), ((2, false, 0), 1), ((4, false, 3), 5)], ())) fun (y : List LFT1 × Bool × List LFT2 × Unit) => if (!y.2.1) = true then some ([], 230, ()) else some (y.1, 0, ()), Option.bind (ledger_put (x, y.1, [((4, false, 2), 4), ((3, false, 1), 3), ((3, true, 1), 2), ((4, false, 3), 5), ((2, false, 0), 1)], ())) fun (y : List LFT1 × Bool × List LFT2 × Unit) => if (!y.2.1) = true then some ([], 230, ()) else some (y.1, 0, ())], amb (eqAs ledger_Add_s.rs) [Option.bind (ledger_put (x, y.1, [((4, false, 2), 4), ((3, false, 1), 3), ((4, false, 3), 5), ((2, false, 0), 1), ((3, true, 1), 2)], ())) fun (y : List LFT1 × Bool × List LFT2 × Unit) => if (!y.2.1) = true then some ([], 230, ()) else some (y.1, 0, ()), Option.bind (ledger_put (x, y.1, [((4, false, 2), 4), ((3, false, 1), 3), ((4, false, 3), 5), ((3, true, 1), 2), ((2, false, 0), 1)], ())) fun (y : List LFT1 × Bool × List LFT2 × Unit) => if (!y.2.1) = true then some ([], 230, ()) else some (y.1, 0, ())]]], amb (eqAs ledger_Add_s.rs) [amb (eqAs ledger_Add_s.rs) [Option.bind (ledger_put (x, y.1, [((4, false, 2), 4), ((4, false, 3), 5), ((2, false, 0), 1), ((3, true, 1), 2), ((3, false, 1), 3)], ())) fun (y : List LFT1 × Bool × List LFT2 × Unit) => if (!y.2.1) = true then some ([], 230, ()) else some (y.1, 0, ()), Option.bind (ledger_put (x, y.1, [((4, false, 2), 4), ((4, false, 3), 5), ((2, false, 0), 1), ((3, false, 1), 3), ((3, true, 1), 2)], ())) fun (y : List LFT1 × Bool × List LFT2 × Unit) => if (!y.2.1) = true then some ([], 230, ()) else some (y.1, 0, ())], amb (eqAs ledger_Add_s.rs) [amb (eqAs ledger_Add_s.rs) [Option.bind (ledger_put (x, y.1, [((4, false, 2), 4), ((4, false, 3), 5), ((3, true, 1), 2), ((2, false, 0), 1), ((3, false, 1), 3)], ())) fun (y : List LFT1 × Bool × List LFT2 × Unit) => if (!y.2.1) = true then some ([], 230, ()) else some (y.1, 0, ()), Option.bind (ledger_put (x, y.1, [((4, false, 2), 4), ((4, false, 3), 5), ((3, true, 1), 2), ((3, false, 1), 3), ((2, false, 0), 1)], ())) fun (y : List LFT1 × Bool × List LFT2 × Unit) => if (!y.2.1) = true then some ([], 230, ()) else some (y.1, 0, ())], amb (eqAs ledger_Add_s.rs) [Option.bind (ledger_put (x, y.1, [((4, false, 2), 4), ((4, false, 3), 5), ((3, false, 1), 3), ((2, false, 0), 1), ((3, true, 1), 2)], ())) fun (y : List LFT1 × Bool × List LFT2 × Unit) => if (!y.2.1) = true then some ([], 230, ()) else some (y.1, 0, ()), Option.bind (ledger_put (x, y.1, [((4, false, 2), 4), ((4, false, 3), 5), ((3, false, 1), 3), ((3, true, 1), 2), ((2, false, 0), 1)], ())) fun (y : List LFT1 × Bool × List LFT2 × Unit) => if (!y.2.1) = true then some ([], 230, ()) else some (y.1, 0, ())]]]]]], amb (eqAs ledger_Add_s.rs) [amb (eqAs ledger_Add_s.rs) [amb (eqAs ledger_Add_s.rs) [Option.bind (ledger_put (x, y.1, [((4, false, 3), 5), ((2, false, 0), 1), ((3, true, 1), 2), ((3, false, 1), 3), ((4, false, 2), 4)], ())) fun (y : List LFT1 × Bool × List LFT2 × Unit) => if (!y.2.1) = true then some ([], 230, ()) else some (y.1, 0, ()), Option.bind (ledger_put (x, y.1, [((4, false, 3), 5), ((2, false, 0), 1), ((3, true, 1), 2), ((4, false, 2), 4), ((3, false, 1), 3)], ())) fun (y : List LFT1 × Bool × List LFT2 × Unit) => if (!y.2.1) = true then some ([], 230, ()) else some (y.1, 0, ())], amb (eqAs ledger_Add_s.rs) [amb (eqAs ledger_Add_s.rs) [Option.bind (ledger_put (x, y.1, [((4, false, 3), 5), ((2, false, 0), 1), ((3, false, 1), 3), ((3, true, 1), 2), ((4, false, 2), 4)], ())) fun (y : List LFT1 × Bool × List LFT2 × Unit) => if (!y.2.1) = true then some ([], 230, ()) else some (y.1, 0, ()), Option.bind (ledger_put (x, y.1, [((4, false, 3), 5), ((2, false, 0), 1), ((3, false, 1), 3), ((4, false, 2), 4), ((3, true, 1), 2)], ())) fun (y : List LFT1 × Bool × List LFT2 × Unit) => if (!y.2.1) = true then some ([], 230, ()) else some (y.1, 0, ())], amb (eqAs ledger_Add_s.rs) [Option.bind (ledger_put (x, y.1, [((4, false, 3), 5), ((2, false, 0), 1), ((4, false, 2), 4), ((3, true, 1), 2), ((3, false, 1), 3)], ())) fun (y : List LFT1 × Bool × List LFT2 × Unit) => if (!y.2.1) = true then some ([], 230, ()) else some (y.1, 0, ()), Option.bind (ledger_put (x, y.1, [((4, false, 3), 5), ((2, false, 0), 1), ((4, false, 2), 4), ((3, false, 1), 3), ((3, true, 1), 2)], ())) fun (y : List LFT1 × Bool × List LFT2 × Unit) => if (!y.2.1) = true then some ([], 230, ()) else some (y.1, 0, ())]]], amb (eqAs ledger_Add_s.rs) [amb (eqAs ledger_Add_s.rs) [amb (eqAs ledger_Add_s.rs) [Option.bind (ledger_put (x, y.1, [((4, false, 3), 5), ((3, true, 1), 2), ((2, false, 0), 1), ((3, false, 1), 3), ((4, false, 2), 4)], ())) fun (y : List LFT1 × Bool × List LFT2 × Unit) => if (!y.2.1) = true then some ([], 230, ()) else some (y.1, 0, ()), Option.bind (ledger_put (x, y.1, [((4, false, 3), 5), ((3, true, 1), 2), ((2, false, 0), 1), ((4, false, 2), 4), ((3, false, 1), 3)], ())) fun (y : List LFT1 × Bool × List LFT2 × Unit) => if (!y.2.1) = true then some ([], 230, ()) else some (y.1, 0, ())], amb (eqAs ledger_Add_s.rs) [amb (eqAs ledger_Add_s.rs) [Option.bind (ledger_put (x, y.1, [((4, false, 3), 5), ((3, true, 1), 2), ((3, false, 1), 3), ((2, false, 0), 1), ((4, false, 2), 4)], ())) fun (y : List LFT1 × Bool × List LFT2 × Unit) => if (!y.2.1) = true then some ([], 230, ()) else some (y.1, 0, ()), Option.bind (ledger_put (x, y.1, [((4, false, 3), 5), ((3, true, 1), 2), ((3, false, 1), 3), ((4, false, 2), 4), ((2, false, 0), 1)], ())) fun (y : List LFT1 × Bool × List LFT2 × Unit) => if (!y.2.1) = true then some ([], 230, ()) else some (y.1, 0, ())], amb (eqAs ledger_Add_s.rs) [Option.bind (ledger_put (x, y.1, [((4, false, 3), 5), ((3, true, 1), 2), ((4, false, 2), 4), ((2, false, 0), 1), ((3, false, 1), 3)], ())) fun (y : List LFT1 × Bool × List LFT2 × Unit) => if (!y.2.1) = true then some ([], 230, ()) else some (y.1, 0, ()), Option.bind (ledger_put (x, y.1, [((4, false, 3), 5), ((3, true, 1), 2), ((4, false, 2), 4), ((3, false, 1), 3), ((2, false, 0), 1)], ())) fun (y : List LFT1 × Bool × List LFT2 × Unit) => if (!y.2.1) = true then some ([], 230, ()) else some (y.1, 0, ())]]], amb (eqAs ledger_Add_s.rs) [amb (eqAs ledger_Add_s.rs) [amb (eqAs ledger_Add_s.rs) [Option.bind (ledger_put (x, y.1, [((4, false, 3), 5), ((3, false, 1), 3), ((2, false, 0), 1), ((3, true, 1), 2), ((4, false, 2), 4)], ())) fun (y : List LFT1 × Bool × List LFT2 × Unit) => if (!y.2.1) = true then some ([], 230, ()) else some (y.1, 0, ()), Option.bind (ledger_put (x, y.1, [((4, false, 3), 5), ((3, false, 1), 3), ((2, false, 0), 1), ((4, false, 2), 4), ((3, true, 1), 2)], ())) fun (y : List LFT1 × Bool × List LFT2 × Unit) => if (!y.2.1) = true then some ([], 230, ()) else some (y.1, 0, ())], amb (eqAs ledger_Add_s.rs) [amb (eqAs ledger_Add_s.rs) [Option.bind (ledger_put (x, y.1, [((4, false, 3), 5), ((3, false, 1), 3), ((3, true, 1), 2), ((2, false, 0), 1), ((4, false, 2), 4)], ())) fun (y : List LFT1 × Bool × List LFT2 × Unit) => if (!y.2.1) = true then some ([], 230, ()) else some (y.1, 0, ()), Option.bind (ledger_put (x, y.1, [((4, false, 3), 5), ((3, false, 1), 3), ((3, true, 1), 2), ((4, false, 2), 4), ((2, false, 0), 1)], ())) fun (y : List LFT1 × Bool × List LFT2 × Unit) => if (!y.2.1) = true then some ([], 230, ()) else some (y.1, 0, ())], amb (eqAs ledger_Add_s.rs) [Option.bind (ledger_put (x, y.1, [((4, false, 3), 5), ((3, false, 1), 3), ((4, false, 2), 4), ((2, false, 0), 1), ((3, true, 1), 2)], ())) fun (y : List LFT1 × Bool × List LFT2 × Unit) => if (!y.2.1) = true then some ([], 230, ()) else some (y.1, 0, ()), Option.bind (ledger_put (x, y.1, [((4, false, 3), 5), ((3, false, 1), 3), ((4, false, 2), 4), ((3, true, 1), 2), ((2, false, 0), 1)], ())) fun (y : List LFT1 × Bool × List LFT2 × Unit) => if (!y.2.1) = true then some ([], 230, ()) else some (y.1, 0, ())]]], amb (eqAs ledger_Add_s.rs) [amb (eqAs ledger_Add_s.rs) [Option.bind (ledger_put (x, y.1, [((4, false, 3), 5), ((4, false, 2), 4), ((2, false, 0), 1), ((3, true, 1), 2), ((3, false, 1), 3)], ())) fun (y : List LFT1 × Bool × List LFT2 × Unit) => if (!y.2.1) = true then some ([], 230, ()) else some (y.1, 0, ()), Option.bind (ledger_put (x, y.1, [((4, false, 3), 5), ((4, false, 2), 4), ((2, false, 0), 1), ((3, false, 1), 3), ((3, true, 1), 2)], ())) fun (y : List LFT1 × Bool × List LFT2 × Unit) => if (!y.2.1) = true then some ([], 230, ()) else some (y.1, 0, ())], amb (eqAs ledger_Add_s.rs) [amb (eqAs ledger_Add_s.rs) [Option.bind (ledger_put (x, y.1, [((4, false, 3), 5), ((4, false, 2), 4), ((3, true, 1), 2), ((2, false, 0), 1), ((3, false, 1), 3)], ())) fun (y : List LFT1 × Bool × List LFT2 × Unit) => if (!y.2.1) = true then some ([], 230, ()) else some (y.1, 0, ()), Option.bind (ledger_put (x, y.1, [((4, false, 3), 5), ((4, false, 2), 4), ((3, true, 1), 2), ((3, false, 1), 3), ((2, false, 0), 1)], ())) fun (y : List LFT1 × Bool × List LFT2 × Unit) => if (!y.2.1) = true then some ([], 230, ()) else some (y.1, 0, ())], amb (eqAs ledger_Add_s.rs) [Option.bind (ledger_put (x, y.1, [((4, false, 3), 5), ((4, false, 2), 4), ((3, false, 1), 3), ((2, false, 0), 1), ((3, true, 1), 2)], ())) fun (y : List LFT1 × Bool × List LFT2 × Unit) => if (!y.2.1) = true then some ([], 230, ()) else some (y.1, 0, ()), Option.bind (ledger_put (x, y.1, [((4, false, 3), 5), ((4, false, 2), 4), ((3, false, 1), 3), ((3, true, 1), 2), ((2, false, 0), 1)], ())) fun (y : List LFT1 × Bool × List LFT2 × Unit) => if (!y.2.1) = true then some ([], 230, ()) else some (y.1, 0, ())]]]]]]]]]]
def ledger_Add (x : As [.sl LFT0, .pr (.int .u8) LFT4]) : Option (As [.sl LFT0, .int .i64]) := ledger_Add_m0 x.1 x.2.1
theorem ledger_Add_c0 (J : Orc (As [.sl LFT0, .int .i64])) (x : As [.sl LFT0, .pr (.int .u8) LFT4]) : rfn Try.prog ledger_Add_e 6 18446744073709551616 (Ev.get ledger_Add_h) 7 ledger_Add_s J x = ledger_Add_m0 x.1 x.2.1 := by kernel_rfl
theorem ledger_Add_t (x : As [.sl LFT0, .pr (.int .u8) LFT4]) : evT Try.prog ledger_Add_e 6 18446744073709551616 (Ev.get ledger_Add_h) 7 ledger_Add_s x = ledger_Add x := by
  rw [rfn_eq, ledger_Add_c0]
  rfl
theorem ledger_Add_ok : CtOk Try.prog (fun _ => True) 7 ⟨ledger_Add_s, ledger_Add⟩ := ct_of_ev (env_cons ledger_put_ok (env_cons ledger_own_ok env_nil)) ledger_Add_t
/-! law29_ViewForward -/
@[reducible] def law29_ViewForward_s : Sh := ⟨[.d (.sl (.pr (.int .u8) LFT4)), .d (.sl (.int .u32))], [], [.sl (.pr (.int .u8) LFT4), .sl (.int .u32)], [.d (.bool)], [], 0, [.bool]⟩
def law29_ViewForward_e : Env := (cts [(6, (⟨law29_awake_s, law29_awake⟩ : Ct)), (7, (⟨ledger_Add_s, ledger_Add⟩ : Ct)), (8, (⟨view_Read_s, view_Read⟩ : Ct)), (9, (⟨view_Mem_s, view_Mem⟩ : Ct))])
def law29_ViewForward_h : List (Nat × Hint) := [(122, ⟨[.agd 5 (.sl LFT0)], [1, 5, 28, 29, 30]⟩), (1002751, ⟨[], [1, 8, 10, 12, 14, 28, 29, 30, 64, 65, 68, 69, 70, 71, 72, 75, 76, 77, 78, 79, 80, 88, 89, 90, 111, 112, 113, 114, 115, 116, 117, 118, 119, 120, 121, 122, 123, 124, 125, 126, 127, 128, 131, 132, 133, 134, 135, 136, 137, 138, 139, 140, 141, 142, 143, 144, 145, 146, 154, 155, 156, 157, 158, 161, 162]⟩), (16044026, ⟨[], [1, 8, 12, 28, 29, 30, 64, 65, 68, 69, 70, 71, 72, 75, 76, 77, 78, 79, 80, 88, 89, 90, 94, 95, 96, 111, 112, 113, 114, 115, 116, 117, 118, 119, 120, 121, 122, 123, 124, 125, 126, 127, 128, 131, 132, 133, 134, 135, 136, 137, 138, 139, 140, 141, 142, 143, 144, 145, 146, 154, 155, 156, 157, 158, 161, 162]⟩), (2053635379, ⟨[.agd 112 (.int .u16), .agd 113 .bool, .agd 114 .bool, .agd 118 .bool, .agd 119 .bool, .agd 121 (.int .u16), .agd 122 .bool, .agd 123 .bool, .agd 127 .bool, .agd 128 .bool, .agd 125 (.int .u16), .agd 126 .bool, .agd 132 (.int .u16), .agd 133 .bool, .agd 134 .bool, .agd 138 .bool, .agd 139 .bool, .agd 141 (.int .u16), .agd 143 (.int .u16), .agd 144 (.int .u16), .agd 145 .bool, .agd 146 .bool, .agd 136 (.int .u16), .agd 137 .bool, .agd 116 (.int .u16), .agd 117 .bool], [1, 8, 12, 16, 17, 18, 28, 29, 30, 94, 95, 96]⟩), (4107270759, ⟨[.agd 155 (.int .u16), .agd 157 (.int .u16), .agd 158 .bool, .agd 161 .bool, .agd 162 .bool], [1, 8, 12, 28, 29, 30, 94, 95, 96, 163]⟩), (2005502, ⟨[.agd 88 LFT6, .agd 89 (.int .i64), .agd 90 .bool], [1, 8, 10, 12, 14, 28, 29, 30, 91]⟩), (501374, ⟨[.agd 64 .bool, .agd 65 .bool, .agd 68 LFT6, .agd 69 (.int .i64), .agd 70 LFT6, .agd 71 (.int .i64), .agd 72 .bool, .agd 75 LFT6, .agd 76 (.int .i64), .agd 77 LFT6, .agd 78 (.int .i64), .agd 79 (.int .i64), .agd 80 .bool], [1, 5, 8, 10, 12, 28, 29, 30, 81]⟩), (6, ⟨[], [0, 1, 26, 64, 65, 68, 69, 70, 71, 72, 75, 76, 77, 78, 79, 80, 88, 89, 90, 111, 112, 113, 114, 115, 116, 117, 118, 119, 120, 121, 122, 123, 124, 125, 126, 127, 128, 131, 132, 133, 134, 135, 136, 137, 138, 139, 140, 141, 142, 143, 144, 145, 146, 154, 155, 156, 157, 158, 161, 162]⟩)]
def law29_ViewForward_k1 (l : List LFT3) (waits : List Int) (t26 : Bool) : St := { fr := [(0, .d (.sl (.pr (.int .u8) LFT4)) l), (1, .d (.sl (.int .u32)) waits), (26, .d .bool t26)], nt := 168, up := [], own := [], nx := 0, log := [], ln := 0 }
def law29_ViewForward_k2 (waits : List Int) (jobs : List LFT1) (t28 : List LFT3) (t29 : Int) (t30 : Int) : St := { fr := [(1, .d (.sl (.int .u32)) waits), (5, .d (.sl LFT0) jobs), (28, .d (.sl (.pr (.int .u8) LFT4)) t28), (29, .d (.int .i64) t29), (30, .d (.int .i64) t30)], nt := 168, up := [], own := [], nx := 0, log := [], ln := 0 }
def law29_ViewForward_k3 (waits : List Int) (jobs : List LFT1) (next : List LFT1) (a : List (Int × Int × Int)) (b : List (Int × Int × Int)) (t28 : List LFT3) (t29 : Int) (t30 : Int) (t81 : Bool) : St := { fr := [(1, .d (.sl (.int .u32)) waits), (5, .d (.sl LFT0) jobs), (8, .d (.sl LFT0) next), (10, .d LFT6 a), (12, .d LFT6 b), (28, .d (.sl (.pr (.int .u8) LFT4)) t28), (29, .d (.int .i64) t29), (30, .d (.int .i64) t30), (81, .d .bool t81)], nt := 168, up := [], own := [], nx := 0, log := [], ln := 0 }
def law29_ViewForward_k4 (waits : List Int) (next : List LFT1) (a : List (Int × Int × Int)) (b : List (Int × Int × Int)) (out : Int) (t28 : List LFT3) (t29 : Int) (t30 : Int) (t91 : Bool) : St := { fr := [(1, .d (.sl (.int .u32)) waits), (8, .d (.sl LFT0) next), (10, .d LFT6 a), (12, .d LFT6 b), (14, .d (.int .i64) out), (28, .d (.sl (.pr (.int .u8) LFT4)) t28), (29, .d (.int .i64) t29), (30, .d (.int .i64) t30), (91, .d .bool t91)], nt := 168, up := [], own := [], nx := 0, log := [], ln := 0 }
def law29_ViewForward_k5 (waits : List Int) (next : List LFT1) (a : List (Int × Int × Int)) (b : List (Int × Int × Int)) (out : Int) (t28 : List LFT3) (t29 : Int) (t30 : Int) : St := { fr := [(1, .d (.sl (.int .u32)) waits), (8, .d (.sl LFT0) next), (10, .d LFT6 a), (12, .d LFT6 b), (14, .d (.int .i64) out), (28, .d (.sl (.pr (.int .u8) LFT4)) t28), (29, .d (.int .i64) t29), (30, .d (.int .i64) t30)], nt := 168, up := [], own := [], nx := 0, log := [], ln := 0 }
def law29_ViewForward_k6 (waits : List Int) (next : List LFT1) (b : List (Int × Int × Int)) (t28 : List LFT3) (t29 : Int) (t30 : Int) (t94 : List (Int × Int × Int)) (t95 : Int) (t96 : Int) : St := { fr := [(1, .d (.sl (.int .u32)) waits), (8, .d (.sl LFT0) next), (12, .d LFT6 b), (28, .d (.sl (.pr (.int .u8) LFT4)) t28), (29, .d (.int .i64) t29), (30, .d (.int .i64) t30), (94, .d LFT6 t94), (95, .d (.int .i64) t95), (96, .d (.int .i64) t96)], nt := 168, up := [], own := [], nx := 0, log := [], ln := 0 }
def law29_ViewForward_k7 (waits : List Int) (next : List LFT1) (b : List (Int × Int × Int)) (stays : Bool) (t28 : List LFT3) (t29 : Int) (t30 : Int) (t94 : List (Int × Int × Int)) (t95 : Int) (t96 : Int) (x : Int × Int × Int) (y : Int × Int × Int) : St := { fr := [(1, .d (.sl (.int .u32)) waits), (8, .d (.sl LFT0) next), (12, .d LFT6 b), (16, .pb 0 0), (17, .pb 1 0), (18, .d .bool stays), (28, .d (.sl (.pr (.int .u8) LFT4)) t28), (29, .d (.int .i64) t29), (30, .d (.int .i64) t30), (94, .d LFT6 t94), (95, .d (.int .i64) t95), (96, .d (.int .i64) t96)], nt := 168, up := [], own := [(0, .box 43 [.d (.int .u32) x.1, .d (.int .u16) x.2.1, .d (.int .u16) x.2.2]), (1, .box 43 [.d (.int .u32) y.1, .d (.int .u16) y.2.1, .d (.int .u16) y.2.2])], nx := 2, log := [], ln := 0 }
def law29_ViewForward_k8 (waits : List Int) (next : List LFT1) (b : List (Int × Int × Int)) (t28 : List LFT3) (t29 : Int) (t30 : Int) (t94 : List (Int × Int × Int)) (t95 : Int) (t96 : Int) (t163 : Bool) : St := { fr := [(1, .d (.sl (.int .u32)) waits), (8, .d (.sl LFT0) next), (12, .d LFT6 b), (28, .d (.sl (.pr (.int .u8) LFT4)) t28), (29, .d (.int .i64) t29), (30, .d (.int .i64) t30), (94, .d LFT6 t94), (95, .d (.int .i64) t95), (96, .d (.int .i64) t96), (163, .d .bool t163)], nt := 168, up := [], own := [], nx := 0, log := [], ln := 0 }
def law29_ViewForward_m1 (j2 : List Int → List LFT1 → List LFT3 → Int → Int → Option (As [.bool])) (l : List LFT3) (waits : List Int) (t26 : Bool) : Option (As [.bool]) :=
  if t26 = true then Option.bind (law29_awake ()) fun (y : Bool × Unit) => some (y.1, ()) else j2 waits [] l (Int.ofNat (List.length l)) 0
def law29_ViewForward_m2 (j3 : List Int → List LFT1 → List LFT1 → List (Int × Int × Int) → List (Int × Int × Int) → List LFT3 → Int → Int → Bool → Option (As [.bool])) (self2 : List Int → List LFT1 → List LFT3 → Int → Int → Option (As [.bool])) (waits : List Int) (jobs : List LFT1) (t28 : List LFT3) (t29 : Int) (t30 : Int) : Option (As [.bool]) :=
  if lt t30 t29 = true then Option.bind (at? t28 t30) fun (y : Int × Int × Int × Bool × List Int) => if gt (Int.ofNat (List.length y.2.2.2.2)) 300 = true then Option.bind (law29_awake ()) fun (y : Bool × Unit) => some (y.1, ()) else Option.bind (ledger_Add (jobs, y, ())) fun (y : List LFT1 × Int × Unit) => if nei y.2.1 0 = true then self2 waits jobs t28 t29 (add .i64 t30 1) else Option.bind (view_Mem (jobs, waits, ())) fun (y_1 : (List Bool × List Bool × List Int × List Int) × Unit) => Option.bind (view_Read (y_1.1, ())) fun (y_2 : List (Int × Int × Int) × Bool × Unit) => Option.bind (view_Mem (y.1, waits, ())) fun (y_3 : (List Bool × List Bool × List Int × List Int) × Unit) => Option.bind (view_Read (y_3.1, ())) fun (y_4 : List (Int × Int × Int) × Bool × Unit) => if (!y_2.2.1) = true then j3 waits jobs y.1 y_2.1 y_4.1 t28 t29 t30 true else if (!y_4.2.1) = true then j3 waits jobs y.1 y_2.1 y_4.1 t28 t29 t30 true else if lt (Int.ofNat (List.length y_4.1)) (Int.ofNat (List.length y_2.1)) = true then j3 waits jobs y.1 y_2.1 y_4.1 t28 t29 t30 true else j3 waits jobs y.1 y_2.1 y_4.1 t28 t29 t30 (gt (Int.ofNat (List.length y_4.1)) (add .i64 (Int.ofNat (List.length y_2.1)) 1)) else Option.bind (law29_awake ()) fun (y : Bool × Unit) => some (y.1, ())
def law29_ViewForward_m3 (j4 : List Int → List LFT1 → List (Int × Int × Int) → List (Int × Int × Int) → Int → List LFT3 → Int → Int → Bool → Option (As [.bool])) (self2 : List Int → List LFT1 → List LFT3 → Int → Int → Option (As [.bool])) (waits : List Int) (jobs : List LFT1) (next : List LFT1) (a : List (Int × Int × Int)) (b : List (Int × Int × Int)) (t28 : List LFT3) (t29 : Int) (t30 : Int) (t81 : Bool) : Option (As [.bool]) :=
  if t81 = true then some (false, ()) else if gt (Int.ofNat (List.length next)) (Int.ofNat (List.length jobs)) = true then j4 waits next a b 0 t28 t29 t30 (eqi (Int.ofNat (List.length a)) 12) else j4 waits next a b 0 t28 t29 t30 false
def law29_ViewForward_m4 (j5 : List Int → List LFT1 → List (Int × Int × Int) → List (Int × Int × Int) → Int → List LFT3 → Int → Int → Option (As [.bool])) (self2 : List Int → List LFT1 → List LFT3 → Int → Int → Option (As [.bool])) (waits : List Int) (next : List LFT1) (a : List (Int × Int × Int)) (b : List (Int × Int × Int)) (out : Int) (t28 : List LFT3) (t29 : Int) (t30 : Int) (t91 : Bool) : Option (As [.bool]) :=
  if t91 = true then j5 waits next a b 1 t28 t29 t30 else j5 waits next a b out t28 t29 t30
def law29_ViewForward_m5 (j6 : List Int → List LFT1 → List (Int × Int × Int) → List LFT3 → Int → Int → List (Int × Int × Int) → Int → Int → Option (As [.bool])) (self2 : List Int → List LFT1 → List LFT3 → Int → Int → Option (As [.bool])) (waits : List Int) (next : List LFT1) (a : List (Int × Int × Int)) (b : List (Int × Int × Int)) (out : Int) (t28 : List LFT3) (t29 : Int) (t30 : Int) : Option (As [.bool]) :=
  Option.bind (cut a out (Int.ofNat (List.length a))) fun (y : List (Int × Int × Int)) => j6 waits next b t28 t29 t30 y (Int.ofNat (List.length y)) 0
def law29_ViewForward_m6 (j7 : List Int → List LFT1 → List (Int × Int × Int) → Bool → List LFT3 → Int → Int → List (Int × Int × Int) → Int → Int → Int × Int × Int → Int × Int × Int → Option (As [.bool])) (self2 : List Int → List LFT1 → List LFT3 → Int → Int → Option (As [.bool])) (self6 : List Int → List LFT1 → List (Int × Int × Int) → List LFT3 → Int → Int → List (Int × Int × Int) → Int → Int → Option (As [.bool])) (waits : List Int) (next : List LFT1) (b : List (Int × Int × Int)) (t28 : List LFT3) (t29 : Int) (t30 : Int) (t94 : List (Int × Int × Int)) (t95 : Int) (t96 : Int) : Option (As [.bool]) :=
  if lt t96 t95 = true then Option.bind (at? t94 t96) fun (y : Int × Int × Int) => Option.bind (at? b t96) fun (y_1 : Int × Int × Int) => if eqi y.2.1 y_1.2.1 = true then j7 waits next b true t28 t29 t30 t94 t95 t96 y y_1 else if eqi y.2.1 1 = true then if eqi y_1.2.1 2 = true then j7 waits next b true t28 t29 t30 t94 t95 t96 y y_1 else if eqi y_1.2.1 3 = true then j7 waits next b true t28 t29 t30 t94 t95 t96 y y_1 else if eqi y.2.1 2 = true then j7 waits next b (eqi y_1.2.1 (add .u16 y.2.1 2)) t28 t29 t30 t94 t95 t96 y y_1 else if eqi y.2.1 3 = true then j7 waits next b (eqi y_1.2.1 (add .u16 y.2.1 2)) t28 t29 t30 t94 t95 t96 y y_1 else j7 waits next b false t28 t29 t30 t94 t95 t96 y y_1 else if eqi y.2.1 6 = true then if eqi y_1.2.1 2 = true then j7 waits next b true t28 t29 t30 t94 t95 t96 y y_1 else if eqi y_1.2.1 3 = true then j7 waits next b true t28 t29 t30 t94 t95 t96 y y_1 else if eqi y.2.1 2 = true then j7 waits next b (eqi y_1.2.1 (add .u16 y.2.1 2)) t28 t29 t30 t94 t95 t96 y y_1 else if eqi y.2.1 3 = true then j7 waits next b (eqi y_1.2.1 (add .u16 y.2.1 2)) t28 t29 t30 t94 t95 t96 y y_1 else j7 waits next b false t28 t29 t30 t94 t95 t96 y y_1 else if eqi y.2.1 2 = true then j7 waits next b (eqi y_1.2.1 (add .u16 y.2.1 2)) t28 t29 t30 t94 t95 t96 y y_1 else if eqi y.2.1 3 = true then j7 waits next b (eqi y_1.2.1 (add .u16 y.2.1 2)) t28 t29 t30 t94 t95 t96 y y_1 else j7 waits next b false t28 t29 t30 t94 t95 t96 y y_1 else self2 waits next t28 t29 (add .i64 t30 1)
def law29_ViewForward_m7 (j8 : List Int → List LFT1 → List (Int × Int × Int) → List LFT3 → Int → Int → List (Int × Int × Int) → Int → Int → Bool → Option (As [.bool])) (self2 : List Int → List LFT1 → List LFT3 → Int → Int → Option (As [.bool])) (self6 : List Int → List LFT1 → List (Int × Int × Int) → List LFT3 → Int → Int → List (Int × Int × Int) → Int → Int → Option (As [.bool])) (waits : List Int) (next : List LFT1) (b : List (Int × Int × Int)) (stays : Bool) (t28 : List LFT3) (t29 : Int) (t30 : Int) (t94 : List (Int × Int × Int)) (t95 : Int) (t96 : Int) (x : Int × Int × Int) (y : Int × Int × Int) : Option (As [.bool]) :=
  if nei x.1 y.1 = true then j8 waits next b t28 t29 t30 t94 t95 t96 true else if nei x.2.2 y.2.2 = true then j8 waits next b t28 t29 t30 t94 t95 t96 true else j8 waits next b t28 t29 t30 t94 t95 t96 !stays
def law29_ViewForward_m8 (self2 : List Int → List LFT1 → List LFT3 → Int → Int → Option (As [.bool])) (self6 : List Int → List LFT1 → List (Int × Int × Int) → List LFT3 → Int → Int → List (Int × Int × Int) → Int → Int → Option (As [.bool])) (waits : List Int) (next : List LFT1) (b : List (Int × Int × Int)) (t28 : List LFT3) (t29 : Int) (t30 : Int) (t94 : List (Int × Int × Int)) (t95 : Int) (t96 : Int) (t163 : Bool) : Option (As [.bool]) :=
  if t163 = true then some (false, ()) else self6 waits next b t28 t29 t30 t94 t95 (add .i64 t96 1)
def law29_ViewForward_m0 (j1 : List LFT3 → List Int → Bool → Option (As [.bool])) (l : List LFT3) (waits : List Int) : Option (As [.bool]) :=
  if gt (Int.ofNat (List.length l)) 80 = true then j1 l waits true else j1 l waits (gt (Int.ofNat (List.length waits)) 60)
def law29_ViewForward_K8 (u2 : List Int → List LFT1 → List LFT3 → Int → Int → Option (As [.bool])) (u6 : List Int → List LFT1 → List (Int × Int × Int) → List LFT3 → Int → Int → List (Int × Int × Int) → Int → Int → Option (As [.bool])) (waits : List Int) (next : List LFT1) (b : List (Int × Int × Int)) (t28 : List LFT3) (t29 : Int) (t30 : Int) (t94 : List (Int × Int × Int)) (t95 : Int) (t96 : Int) (t163 : Bool) : Option (As [.bool]) := law29_ViewForward_m8 u2 u6 waits next b t28 t29 t30 t94 t95 t96 t163
def law29_ViewForward_K7 (u2 : List Int → List LFT1 → List LFT3 → Int → Int → Option (As [.bool])) (u6 : List Int → List LFT1 → List (Int × Int × Int) → List LFT3 → Int → Int → List (Int × Int × Int) → Int → Int → Option (As [.bool])) (waits : List Int) (next : List LFT1) (b : List (Int × Int × Int)) (stays : Bool) (t28 : List LFT3) (t29 : Int) (t30 : Int) (t94 : List (Int × Int × Int)) (t95 : Int) (t96 : Int) (x : Int × Int × Int) (y : Int × Int × Int) : Option (As [.bool]) := law29_ViewForward_m7 (law29_ViewForward_K8 u2 u6) u2 u6 waits next b stays t28 t29 t30 t94 t95 t96 x y
def law29_ViewForward_K6 (u2 : List Int → List LFT1 → List LFT3 → Int → Int → Option (As [.bool])) (waits : List Int) (next : List LFT1) (b : List (Int × Int × Int)) (t28 : List LFT3) (t29 : Int) (t30 : Int) (t94 : List (Int × Int × Int)) (t95 : Int) (t96 : Int) : Option (As [.bool]) :=
  loopF (fun (self : (List Int) × (List LFT1) × (List (Int × Int × Int)) × (List LFT3) × (Int) × (Int) × (List (Int × Int × Int)) × (Int) × (Int) → Option (As [.bool])) (s : (List Int) × (List LFT1) × (List (Int × Int × Int)) × (List LFT3) × (Int) × (Int) × (List (Int × Int × Int)) × (Int) × (Int)) => law29_ViewForward_m6 (law29_ViewForward_K7 u2 (fun waits next b t28 t29 t30 t94 t95 t96 => self (waits, next, b, t28, t29, t30, t94, t95, t96))) u2 (fun waits next b t28 t29 t30 t94 t95 t96 => self (waits, next, b, t28, t29, t30, t94, t95, t96)) s.1 s.2.1 s.2.2.1 s.2.2.2.1 s.2.2.2.2.1 s.2.2.2.2.2.1 s.2.2.2.2.2.2.1 s.2.2.2.2.2.2.2.1 s.2.2.2.2.2.2.2.2) 18446744073709551616 (waits, next, b, t28, t29, t30, t94, t95, t96)
def law29_ViewForward_K5 (u2 : List Int → List LFT1 → List LFT3 → Int → Int → Option (As [.bool])) (waits : List Int) (next : List LFT1) (a : List (Int × Int × Int)) (b : List (Int × Int × Int)) (out : Int) (t28 : List LFT3) (t29 : Int) (t30 : Int) : Option (As [.bool]) := law29_ViewForward_m5 (law29_ViewForward_K6 u2) u2 waits next a b out t28 t29 t30
def law29_ViewForward_K4 (u2 : List Int → List LFT1 → List LFT3 → Int → Int → Option (As [.bool])) (waits : List Int) (next : List LFT1) (a : List (Int × Int × Int)) (b : List (Int × Int × Int)) (out : Int) (t28 : List LFT3) (t29 : Int) (t30 : Int) (t91 : Bool) : Option (As [.bool]) := law29_ViewForward_m4 (law29_ViewForward_K5 u2) u2 waits next a b out t28 t29 t30 t91
def law29_ViewForward_K3 (u2 : List Int → List LFT1 → List LFT3 → Int → Int → Option (As [.bool])) (waits : List Int) (jobs : List LFT1) (next : List LFT1) (a : List (Int × Int × Int)) (b : List (Int × Int × Int)) (t28 : List LFT3) (t29 : Int) (t30 : Int) (t81 : Bool) : Option (As [.bool]) := law29_ViewForward_m3 (law29_ViewForward_K4 u2) u2 waits jobs next a b t28 t29 t30 t81
def law29_ViewForward_K2 (waits : List Int) (jobs : List LFT1) (t28 : List LFT3) (t29 : Int) (t30 : Int) : Option (As [.bool]) :=
  loopF (fun (self : (List Int) × (List LFT1) × (List LFT3) × (Int) × (Int) → Option (As [.bool])) (s : (List Int) × (List LFT1) × (List LFT3) × (Int) × (Int)) => law29_ViewForward_m2 (law29_ViewForward_K3 (fun waits jobs t28 t29 t30 => self (waits, jobs, t28, t29, t30))) (fun waits jobs t28 t29 t30 => self (waits, jobs, t28, t29, t30)) s.1 s.2.1 s.2.2.1 s.2.2.2.1 s.2.2.2.2) 18446744073709551616 (waits, jobs, t28, t29, t30)
def law29_ViewForward_K1 (l : List LFT3) (waits : List Int) (t26 : Bool) : Option (As [.bool]) := law29_ViewForward_m1 (law29_ViewForward_K2) l waits t26
def law29_ViewForward (x : As [.sl (.pr (.int .u8) LFT4), .sl (.int .u32)]) : Option (As [.bool]) := law29_ViewForward_m0 law29_ViewForward_K1 x.1 x.2.1
theorem law29_ViewForward_c8 (J : Orc (As [.bool])) (w2 : St → Option (As [.bool])) (w6 : St → Option (As [.bool])) (waits : List Int) (next : List LFT1) (b : List (Int × Int × Int)) (t28 : List LFT3) (t29 : Int) (t30 : Int) (t94 : List (Int × Int × Int)) (t95 : Int) (t96 : Int) (t163 : Bool) : pfn Try.prog law29_ViewForward_e 6 18446744073709551616 (Ev.get law29_ViewForward_h) 3 law29_ViewForward_s J 4107270759 [w2, w6] (law29_ViewForward_k8 waits next b t28 t29 t30 t94 t95 t96 t163) = law29_ViewForward_m8 (fun waits jobs t28 t29 t30 => w2 (law29_ViewForward_k2 waits jobs t28 t29 t30)) (fun waits next b t28 t29 t30 t94 t95 t96 => w6 (law29_ViewForward_k6 waits next b t28 t29 t30 t94 t95 t96)) waits next b t28 t29 t30 t94 t95 t96 t163 := by kernel_rfl
theorem law29_ViewForward_c7 (J : Orc (As [.bool])) (w2 : St → Option (As [.bool])) (w6 : St → Option (As [.bool])) (waits : List Int) (next : List LFT1) (b : List (Int × Int × Int)) (stays : Bool) (t28 : List LFT3) (t29 : Int) (t30 : Int) (t94 : List (Int × Int × Int)) (t95 : Int) (t96 : Int) (x : Int × Int × Int) (y : Int × Int × Int) : pfn Try.prog law29_ViewForward_e 6 18446744073709551616 (Ev.get law29_ViewForward_h) 3 law29_ViewForward_s J 2053635379 [w2, w6] (law29_ViewForward_k7 waits next b stays t28 t29 t30 t94 t95 t96 x y) = law29_ViewForward_m7 (fun waits next b t28 t29 t30 t94 t95 t96 t163 => J 4107270759 [w2, w6] (law29_ViewForward_k8 waits next b t28 t29 t30 t94 t95 t96 t163)) (fun waits jobs t28 t29 t30 => w2 (law29_ViewForward_k2 waits jobs t28 t29 t30)) (fun waits next b t28 t29 t30 t94 t95 t96 => w6 (law29_ViewForward_k6 waits next b t28 t29 t30 t94 t95 t96)) waits next b stays t28 t29 t30 t94 t95 t96 x y := by kernel_rfl
theorem law29_ViewForward_c6 (J : Orc (As [.bool])) (w2 : St → Option (As [.bool])) (w6 : St → Option (As [.bool])) (waits : List Int) (next : List LFT1) (b : List (Int × Int × Int)) (t28 : List LFT3) (t29 : Int) (t30 : Int) (t94 : List (Int × Int × Int)) (t95 : Int) (t96 : Int) : pfn Try.prog law29_ViewForward_e 6 18446744073709551616 (Ev.get law29_ViewForward_h) 3 law29_ViewForward_s J 16044026 [w2, w6] (law29_ViewForward_k6 waits next b t28 t29 t30 t94 t95 t96) = law29_ViewForward_m6 (fun waits next b stays t28 t29 t30 t94 t95 t96 x y => J 2053635379 [w2, w6] (law29_ViewForward_k7 waits next b stays t28 t29 t30 t94 t95 t96 x y)) (fun waits jobs t28 t29 t30 => w2 (law29_ViewForward_k2 waits jobs t28 t29 t30)) (fun waits next b t28 t29 t30 t94 t95 t96 => w6 (law29_ViewForward_k6 waits next b t28 t29 t30 t94 t95 t96)) waits next b t28 t29 t30 t94 t95 t96 := by kernel_rfl
theorem law29_ViewForward_c5 (J : Orc (As [.bool])) (w2 : St → Option (As [.bool])) (waits : List Int) (next : List LFT1) (a : List (Int × Int × Int)) (b : List (Int × Int × Int)) (out : Int) (t28 : List LFT3) (t29 : Int) (t30 : Int) : pfn Try.prog law29_ViewForward_e 6 18446744073709551616 (Ev.get law29_ViewForward_h) 3 law29_ViewForward_s J 1002751 [w2] (law29_ViewForward_k5 waits next a b out t28 t29 t30) = law29_ViewForward_m5 (fun waits next b t28 t29 t30 t94 t95 t96 => J 16044026 [w2] (law29_ViewForward_k6 waits next b t28 t29 t30 t94 t95 t96)) (fun waits jobs t28 t29 t30 => w2 (law29_ViewForward_k2 waits jobs t28 t29 t30)) waits next a b out t28 t29 t30 := by kernel_rfl
theorem law29_ViewForward_c4 (J : Orc (As [.bool])) (w2 : St → Option (As [.bool])) (waits : List Int) (next : List LFT1) (a : List (Int × Int × Int)) (b : List (Int × Int × Int)) (out : Int) (t28 : List LFT3) (t29 : Int) (t30 : Int) (t91 : Bool) : pfn Try.prog law29_ViewForward_e 6 18446744073709551616 (Ev.get law29_ViewForward_h) 3 law29_ViewForward_s J 2005502 [w2] (law29_ViewForward_k4 waits next a b out t28 t29 t30 t91) = law29_ViewForward_m4 (fun waits next a b out t28 t29 t30 => J 1002751 [w2] (law29_ViewForward_k5 waits next a b out t28 t29 t30)) (fun waits jobs t28 t29 t30 => w2 (law29_ViewForward_k2 waits jobs t28 t29 t30)) waits next a b out t28 t29 t30 t91 := by kernel_rfl
theorem law29_ViewForward_c3 (J : Orc (As [.bool])) (w2 : St → Option (As [.bool])) (waits : List Int) (jobs : List LFT1) (next : List LFT1) (a : List (Int × Int × Int)) (b : List (Int × Int × Int)) (t28 : List LFT3) (t29 : Int) (t30 : Int) (t81 : Bool) : pfn Try.prog law29_ViewForward_e 6 18446744073709551616 (Ev.get law29_ViewForward_h) 3 law29_ViewForward_s J 501374 [w2] (law29_ViewForward_k3 waits jobs next a b t28 t29 t30 t81) = law29_ViewForward_m3 (fun waits next a b out t28 t29 t30 t91 => J 2005502 [w2] (law29_ViewForward_k4 waits next a b out t28 t29 t30 t91)) (fun waits jobs t28 t29 t30 => w2 (law29_ViewForward_k2 waits jobs t28 t29 t30)) waits jobs next a b t28 t29 t30 t81 := by kernel_rfl
theorem law29_ViewForward_c2 (J : Orc (As [.bool])) (w2 : St → Option (As [.bool])) (waits : List Int) (jobs : List LFT1) (t28 : List LFT3) (t29 : Int) (t30 : Int) : pfn Try.prog law29_ViewForward_e 6 18446744073709551616 (Ev.get law29_ViewForward_h) 3 law29_ViewForward_s J 122 [w2] (law29_ViewForward_k2 waits jobs t28 t29 t30) = law29_ViewForward_m2 (fun waits jobs next a b t28 t29 t30 t81 => J 501374 [w2] (law29_ViewForward_k3 waits jobs next a b t28 t29 t30 t81)) (fun waits jobs t28 t29 t30 => w2 (law29_ViewForward_k2 waits jobs t28 t29 t30)) waits jobs t28 t29 t30 := by kernel_rfl
theorem law29_ViewForward_c1 (J : Orc (As [.bool])) (l : List LFT3) (waits : List Int) (t26 : Bool) : pfn Try.prog law29_ViewForward_e 6 18446744073709551616 (Ev.get law29_ViewForward_h) 3 law29_ViewForward_s J 6 [] (law29_ViewForward_k1 l waits t26) = law29_ViewForward_m1 (fun waits jobs t28 t29 t30 => J 122 [] (law29_ViewForward_k2 waits jobs t28 t29 t30)) l waits t26 := by kernel_rfl
theorem law29_ViewForward_c0 (J : Orc (As [.bool])) (x : As [.sl (.pr (.int .u8) LFT4), .sl (.int .u32)]) : rfn Try.prog law29_ViewForward_e 6 18446744073709551616 (Ev.get law29_ViewForward_h) 3 law29_ViewForward_s J x = law29_ViewForward_m0 (fun l waits t26 => J 6 [] (law29_ViewForward_k1 l waits t26)) x.1 x.2.1 := by kernel_rfl
theorem law29_ViewForward_g8 (w2 : St → Option (As [.bool])) (w6 : St → Option (As [.bool])) (waits : List Int) (next : List LFT1) (b : List (Int × Int × Int)) (t28 : List LFT3) (t29 : Int) (t30 : Int) (t94 : List (Int × Int × Int)) (t95 : Int) (t96 : Int) (t163 : Bool) : jfn Try.prog law29_ViewForward_e 6 18446744073709551616 (Ev.get law29_ViewForward_h) 3 law29_ViewForward_s 4107270759 [w2, w6] (law29_ViewForward_k8 waits next b t28 t29 t30 t94 t95 t96 t163) = law29_ViewForward_K8 (fun waits jobs t28 t29 t30 => w2 (law29_ViewForward_k2 waits jobs t28 t29 t30)) (fun waits next b t28 t29 t30 t94 t95 t96 => w6 (law29_ViewForward_k6 waits next b t28 t29 t30 t94 t95 t96)) waits next b t28 t29 t30 t94 t95 t96 t163 := by
  rw [pfn_eq (by decide)]
  rw [law29_ViewForward_c8]
  rfl
theorem law29_ViewForward_g7 (w2 : St → Option (As [.bool])) (w6 : St → Option (As [.bool])) (waits : List Int) (next : List LFT1) (b : List (Int × Int × Int)) (stays : Bool) (t28 : List LFT3) (t29 : Int) (t30 : Int) (t94 : List (Int × Int × Int)) (t95 : Int) (t96 : Int) (x : Int × Int × Int) (y : Int × Int × Int) : jfn Try.prog law29_ViewForward_e 6 18446744073709551616 (Ev.get law29_ViewForward_h) 3 law29_ViewForward_s 2053635379 [w2, w6] (law29_ViewForward_k7 waits next b stays t28 t29 t30 t94 t95 t96 x y) = law29_ViewForward_K7 (fun waits jobs t28 t29 t30 => w2 (law29_ViewForward_k2 waits jobs t28 t29 t30)) (fun waits next b t28 t29 t30 t94 t95 t96 => w6 (law29_ViewForward_k6 waits next b t28 t29 t30 t94 t95 t96)) waits next b stays t28 t29 t30 t94 t95 t96 x y := by
  rw [pfn_eq (by decide)]
  have e8 : (fun waits next b t28 t29 t30 t94 t95 t96 t163 => (jfn Try.prog law29_ViewForward_e 6 18446744073709551616 (Ev.get law29_ViewForward_h) 3 law29_ViewForward_s) 4107270759 [w2, w6] (law29_ViewForward_k8 waits next b t28 t29 t30 t94 t95 t96 t163)) = law29_ViewForward_K8 (fun waits jobs t28 t29 t30 => w2 (law29_ViewForward_k2 waits jobs t28 t29 t30)) (fun waits next b t28 t29 t30 t94 t95 t96 => w6 (law29_ViewForward_k6 waits next b t28 t29 t30 t94 t95 t96)) := funext fun waits => funext fun next => funext fun b => funext fun t28 => funext fun t29 => funext fun t30 => funext fun t94 => funext fun t95 => funext fun t96 => funext fun t163 => law29_ViewForward_g8 w2 w6 waits next b t28 t29 t30 t94 t95 t96 t163
  rw [law29_ViewForward_c7, e8]
  rfl
theorem law29_ViewForward_g6 (w2 : St → Option (As [.bool])) (waits : List Int) (next : List LFT1) (b : List (Int × Int × Int)) (t28 : List LFT3) (t29 : Int) (t30 : Int) (t94 : List (Int × Int × Int)) (t95 : Int) (t96 : Int) : jfn Try.prog law29_ViewForward_e 6 18446744073709551616 (Ev.get law29_ViewForward_h) 3 law29_ViewForward_s 16044026 [w2] (law29_ViewForward_k6 waits next b t28 t29 t30 t94 t95 t96) = law29_ViewForward_K6 (fun waits jobs t28 t29 t30 => w2 (law29_ViewForward_k2 waits jobs t28 t29 t30)) waits next b t28 t29 t30 t94 t95 t96 := by
  rw [pfn_eq (by decide)]
  rw [pfn_loop (by kernel_rfl)]
  refine loopF_sim (σ := (List Int) × (List LFT1) × (List (Int × Int × Int)) × (List LFT3) × (Int) × (Int) × (List (Int × Int × Int)) × (Int) × (Int)) (mk := fun s => law29_ViewForward_k6 s.1 s.2.1 s.2.2.1 s.2.2.2.1 s.2.2.2.2.1 s.2.2.2.2.2.1 s.2.2.2.2.2.2.1 s.2.2.2.2.2.2.2.1 s.2.2.2.2.2.2.2.2) (fun w6 s => ?_) 18446744073709551616 (waits, next, b, t28, t29, t30, t94, t95, t96)
  have e7 : (fun waits next b stays t28 t29 t30 t94 t95 t96 x y => (jfn Try.prog law29_ViewForward_e 6 18446744073709551616 (Ev.get law29_ViewForward_h) 3 law29_ViewForward_s) 2053635379 [w2, w6] (law29_ViewForward_k7 waits next b stays t28 t29 t30 t94 t95 t96 x y)) = law29_ViewForward_K7 (fun waits jobs t28 t29 t30 => w2 (law29_ViewForward_k2 waits jobs t28 t29 t30)) (fun waits next b t28 t29 t30 t94 t95 t96 => w6 (law29_ViewForward_k6 waits next b t28 t29 t30 t94 t95 t96)) := funext fun waits => funext fun next => funext fun b => funext fun stays => funext fun t28 => funext fun t29 => funext fun t30 => funext fun t94 => funext fun t95 => funext fun t96 => funext fun x => funext fun y => law29_ViewForward_g7 w2 w6 waits next b stays t28 t29 t30 t94 t95 t96 x y
  refine (law29_ViewForward_c6 _ w2 w6 s.1 s.2.1 s.2.2.1 s.2.2.2.1 s.2.2.2.2.1 s.2.2.2.2.2.1 s.2.2.2.2.2.2.1 s.2.2.2.2.2.2.2.1 s.2.2.2.2.2.2.2.2).trans ?_
  rw [e7]
theorem law29_ViewForward_g5 (w2 : St → Option (As [.bool])) (waits : List Int) (next : List LFT1) (a : List (Int × Int × Int)) (b : List (Int × Int × Int)) (out : Int) (t28 : List LFT3) (t29 : Int) (t30 : Int) : jfn Try.prog law29_ViewForward_e 6 18446744073709551616 (Ev.get law29_ViewForward_h) 3 law29_ViewForward_s 1002751 [w2] (law29_ViewForward_k5 waits next a b out t28 t29 t30) = law29_ViewForward_K5 (fun waits jobs t28 t29 t30 => w2 (law29_ViewForward_k2 waits jobs t28 t29 t30)) waits next a b out t28 t29 t30 := by
  rw [pfn_eq (by decide)]
  have e6 : (fun waits next b t28 t29 t30 t94 t95 t96 => (jfn Try.prog law29_ViewForward_e 6 18446744073709551616 (Ev.get law29_ViewForward_h) 3 law29_ViewForward_s) 16044026 [w2] (law29_ViewForward_k6 waits next b t28 t29 t30 t94 t95 t96)) = law29_ViewForward_K6 (fun waits jobs t28 t29 t30 => w2 (law29_ViewForward_k2 waits jobs t28 t29 t30)) := funext fun waits => funext fun next => funext fun b => funext fun t28 => funext fun t29 => funext fun t30 => funext fun t94 => funext fun t95 => funext fun t96 => law29_ViewForward_g6 w2 waits next b t28 t29 t30 t94 t95 t96
  rw [law29_ViewForward_c5, e6]
  rfl
theorem law29_ViewForward_g4 (w2 : St → Option (As [.bool])) (waits : List Int) (next : List LFT1) (a : List (Int × Int × Int)) (b : List (Int × Int × Int)) (out : Int) (t28 : List LFT3) (t29 : Int) (t30 : Int) (t91 : Bool) : jfn Try.prog law29_ViewForward_e 6 18446744073709551616 (Ev.get law29_ViewForward_h) 3 law29_ViewForward_s 2005502 [w2] (law29_ViewForward_k4 waits next a b out t28 t29 t30 t91) = law29_ViewForward_K4 (fun waits jobs t28 t29 t30 => w2 (law29_ViewForward_k2 waits jobs t28 t29 t30)) waits next a b out t28 t29 t30 t91 := by
  rw [pfn_eq (by decide)]
  have e5 : (fun waits next a b out t28 t29 t30 => (jfn Try.prog law29_ViewForward_e 6 18446744073709551616 (Ev.get law29_ViewForward_h) 3 law29_ViewForward_s) 1002751 [w2] (law29_ViewForward_k5 waits next a b out t28 t29 t30)) = law29_ViewForward_K5 (fun waits jobs t28 t29 t30 => w2 (law29_ViewForward_k2 waits jobs t28 t29 t30)) := funext fun waits => funext fun next => funext fun a => funext fun b => funext fun out => funext fun t28 => funext fun t29 => funext fun t30 => law29_ViewForward_g5 w2 waits next a b out t28 t29 t30
  rw [law29_ViewForward_c4, e5]
  rfl
theorem law29_ViewForward_g3 (w2 : St → Option (As [.bool])) (waits : List Int) (jobs : List LFT1) (next : List LFT1) (a : List (Int × Int × Int)) (b : List (Int × Int × Int)) (t28 : List LFT3) (t29 : Int) (t30 : Int) (t81 : Bool) : jfn Try.prog law29_ViewForward_e 6 18446744073709551616 (Ev.get law29_ViewForward_h) 3 law29_ViewForward_s 501374 [w2] (law29_ViewForward_k3 waits jobs next a b t28 t29 t30 t81) = law29_ViewForward_K3 (fun waits jobs t28 t29 t30 => w2 (law29_ViewForward_k2 waits jobs t28 t29 t30)) waits jobs next a b t28 t29 t30 t81 := by
  rw [pfn_eq (by decide)]
  have e4 : (fun waits next a b out t28 t29 t30 t91 => (jfn Try.prog law29_ViewForward_e 6 18446744073709551616 (Ev.get law29_ViewForward_h) 3 law29_ViewForward_s) 2005502 [w2] (law29_ViewForward_k4 waits next a b out t28 t29 t30 t91)) = law29_ViewForward_K4 (fun waits jobs t28 t29 t30 => w2 (law29_ViewForward_k2 waits jobs t28 t29 t30)) := funext fun waits => funext fun next => funext fun a => funext fun b => funext fun out => funext fun t28 => funext fun t29 => funext fun t30 => funext fun t91 => law29_ViewForward_g4 w2 waits next a b out t28 t29 t30 t91
  rw [law29_ViewForward_c3, e4]
  rfl
theorem law29_ViewForward_g2 (waits : List Int) (jobs : List LFT1) (t28 : List LFT3) (t29 : Int) (t30 : Int) : jfn Try.prog law29_ViewForward_e 6 18446744073709551616 (Ev.get law29_ViewForward_h) 3 law29_ViewForward_s 122 [] (law29_ViewForward_k2 waits jobs t28 t29 t30) = law29_ViewForward_K2 waits jobs t28 t29 t30 := by
  rw [pfn_eq (by decide)]
  rw [pfn_loop (by kernel_rfl)]
  refine loopF_sim (σ := (List Int) × (List LFT1) × (List LFT3) × (Int) × (Int)) (mk := fun s => law29_ViewForward_k2 s.1 s.2.1 s.2.2.1 s.2.2.2.1 s.2.2.2.2) (fun w2 s => ?_) 18446744073709551616 (waits, jobs, t28, t29, t30)
  have e3 : (fun waits jobs next a b t28 t29 t30 t81 => (jfn Try.prog law29_ViewForward_e 6 18446744073709551616 (Ev.get law29_ViewForward_h) 3 law29_ViewForward_s) 501374 [w2] (law29_ViewForward_k3 waits jobs next a b t28 t29 t30 t81)) = law29_ViewForward_K3 (fun waits jobs t28 t29 t30 => w2 (law29_ViewForward_k2 waits jobs t28 t29 t30)) := funext fun waits => funext fun jobs => funext fun next => funext fun a => funext fun b => funext fun t28 => funext fun t29 => funext fun t30 => funext fun t81 => law29_ViewForward_g3 w2 waits jobs next a b t28 t29 t30 t81
  refine (law29_ViewForward_c2 _ w2 s.1 s.2.1 s.2.2.1 s.2.2.2.1 s.2.2.2.2).trans ?_
  rw [e3]
theorem law29_ViewForward_g1 (l : List LFT3) (waits : List Int) (t26 : Bool) : jfn Try.prog law29_ViewForward_e 6 18446744073709551616 (Ev.get law29_ViewForward_h) 3 law29_ViewForward_s 6 [] (law29_ViewForward_k1 l waits t26) = law29_ViewForward_K1 l waits t26 := by
  rw [pfn_eq (by decide)]
  have e2 : (fun waits jobs t28 t29 t30 => (jfn Try.prog law29_ViewForward_e 6 18446744073709551616 (Ev.get law29_ViewForward_h) 3 law29_ViewForward_s) 122 [] (law29_ViewForward_k2 waits jobs t28 t29 t30)) = law29_ViewForward_K2 := funext fun waits => funext fun jobs => funext fun t28 => funext fun t29 => funext fun t30 => law29_ViewForward_g2 waits jobs t28 t29 t30
  rw [law29_ViewForward_c1, e2]
  rfl
theorem law29_ViewForward_t (x : As [.sl (.pr (.int .u8) LFT4), .sl (.int .u32)]) : evT Try.prog law29_ViewForward_e 6 18446744073709551616 (Ev.get law29_ViewForward_h) 3 law29_ViewForward_s x = law29_ViewForward x := by
  have e1 : (fun l waits t26 => (jfn Try.prog law29_ViewForward_e 6 18446744073709551616 (Ev.get law29_ViewForward_h) 3 law29_ViewForward_s) 6 [] (law29_ViewForward_k1 l waits t26)) = law29_ViewForward_K1 := funext fun l => funext fun waits => funext fun t26 => law29_ViewForward_g1 l waits t26
  rw [rfn_eq, law29_ViewForward_c0, e1]
  rfl
theorem law29_ViewForward_ok : CtOk Try.prog (fun _ => True) 3 ⟨law29_ViewForward_s, law29_ViewForward⟩ := ct_of_ev (env_cons law29_awake_ok (env_cons ledger_Add_ok (env_cons view_Read_ok (env_cons view_Mem_ok env_nil)))) law29_ViewForward_t
end Go.Proofs.Lx

end

section
/- Plain laws: a kit of lemmas about what the models are made of. -/
namespace Pl
open Go Ev Sx
set_option maxRecDepth 10000

/-! ### loops -/
theorem loopF_succ {σ R : Type} (F : (σ → Option R) → σ → Option R) (n : Nat) (s : σ) : loopF F (n + 1) s = F (loopF F n) s := rfl
/-- a loop is G, where each step is, if the next ones are -/
theorem loopF_eq {σ R : Type} {F : (σ → Option R) → σ → Option R} {Inv : σ → Prop} {μ : σ → Nat} {G : σ → Option R}
    (step : ∀ self s, Inv s → (∀ s', Inv s' → μ s' < μ s → self s' = G s') → F self s = G s) : ∀ (n : Nat) (s : σ), Inv s → μ s < n → loopF F n s = G s
  | 0, s, _, h => by omega
  | n + 1, s, hs, h => by
    rw [loopF_succ]
    exact step _ s hs fun s' hs' hlt => loopF_eq step n s' hs' (by omega)
/-! ### numbers -/
theorem w64 {x : Int} (h1 : -9223372036854775808 ≤ x) (h2 : x ≤ 9223372036854775807) : IntKind.i64.wrap x = x := by
  simp only [IntKind.wrap, IntKind.signed, IntKind.bits]
  simp
  omega
theorem wu16 {x : Int} (h1 : 0 ≤ x) (h2 : x ≤ 65535) : IntKind.u16.wrap x = x := by
  simp only [IntKind.wrap, IntKind.signed, IntKind.bits]
  simp
  omega
theorem wu64 {x : Int} (h1 : 0 ≤ x) (h2 : x ≤ 18446744073709551615) : IntKind.u64.wrap x = x := by
  simp only [IntKind.wrap, IntKind.signed, IntKind.bits]
  simp
  omega
theorem add64 {a b : Int} (h1 : -9223372036854775808 ≤ a + b) (h2 : a + b ≤ 9223372036854775807) : add .i64 a b = a + b := w64 h1 h2
theorem sub64 {a b : Int} (h1 : -9223372036854775808 ≤ a - b) (h2 : a - b ≤ 9223372036854775807) : sub .i64 a b = a - b := w64 h1 h2
theorem mul64 {a b : Int} (h1 : -9223372036854775808 ≤ a * b) (h2 : a * b ≤ 9223372036854775807) : mul .i64 a b = a * b := w64 h1 h2
theorem cvt64 {a : Int} (h1 : -9223372036854775808 ≤ a) (h2 : a ≤ 9223372036854775807) : cvt .i64 a = a := w64 h1 h2
theorem succ64 {n : Nat} (h : n < 4611686018427387904) : add .i64 (n : Int) 1 = ((n + 1 : Nat) : Int) := by rw [add64 (by omega) (by omega)]; rfl
theorem addn64 {n m : Nat} (h : n + m < 4611686018427387904) : add .i64 (n : Int) (m : Int) = ((n + m : Nat) : Int) := by rw [add64 (by omega) (by omega)]; rfl
theorem ofNat_eq (n : Nat) : Int.ofNat n = (n : Int) := rfl
theorem lt_iff {a b : Int} : lt a b = true ↔ a < b := by simp [lt]
theorem le_iff {a b : Int} : le a b = true ↔ a ≤ b := by simp [le]
theorem gt_iff {a b : Int} : gt a b = true ↔ b < a := by simp [gt]
theorem ge_iff {a b : Int} : ge a b = true ↔ b ≤ a := by simp [ge]
theorem eqi_iff {a b : Int} : eqi a b = true ↔ a = b := by simp [eqi]
theorem nei_iff {a b : Int} : nei a b = true ↔ a ≠ b := by simp [nei]
theorem small_iff {n : Nat} : small n = true ↔ n ≤ 1073741824 := by simp [small]
theorem lt_dec (a b : Int) : lt a b = decide (a < b) := rfl
theorem le_dec (a b : Int) : le a b = decide (a ≤ b) := rfl
theorem gt_dec (a b : Int) : gt a b = decide (b < a) := rfl
theorem ge_dec (a b : Int) : ge a b = decide (b ≤ a) := rfl
theorem need_t {b : Bool} {β : Type} {k : Option β} (h : b = true) : need b k = k := by unfold need; rw [if_pos h]
theorem need_small {n : Nat} {β : Type} {k : Option β} (h : n ≤ 1073741824) : need (small n) k = k := need_t (small_iff.2 h)
/-! ### rows -/
theorem at_get {α : Type} {s : List α} {i : Nat} {c : α} (h : s[i]? = some c) : at? s (i : Int) = some c := by
  unfold at?
  simp [h]
theorem at_app {α : Type} (p : List α) (c : α) (q : List α) : at? (p ++ c :: q) (p.length : Int) = some c := at_get (by simp)
theorem drop_nil {α : Type} {s : List α} {i : Nat} (h : s.drop i = []) : s.length ≤ i := by
  have := congrArg List.length h
  simp at this
  omega
theorem cut_nat {α : Type} {xs : List α} {i j : Nat} (h1 : i ≤ j) (h2 : j ≤ xs.length) : cut xs (i : Int) (j : Int) = some ((xs.take j).drop i) := by
  unfold cut
  rw [if_pos ⟨by omega, by omega, by omega⟩]
  simp
theorem cut_from {α : Type} {xs : List α} {i : Nat} (h : i ≤ xs.length) : cut xs (i : Int) (Int.ofNat xs.length) = some (xs.drop i) := by
  rw [ofNat_eq, cut_nat h (Nat.le_refl _)]
  simp
/-! ### bytes -/
theorem eqV_refl : ∀ (t : Ty) (x : Vl t), eqV t x x = true := by
  have hl : ∀ {α : Type} {f : α → α → Bool}, (∀ a, f a a = true) → ∀ x : List α, eqL f x x = true := fun h x => by
    induction x with
    | nil => rfl
    | cons a q ih => simp [eqL, h, ih]
  intro t
  induction t with
  | int k => intro x; simp [eqV, eqi]
  | bool => intro x; simp [eqV, eqb]
  | str => intro x; simp [eqV, eqs]
  | sl t ih => intro x; exact hl ih x
  | pr a b iha ihb => intro x; simp [eqV, iha, ihb]
  | wr a ih => intro x; exact ih x
  | un => intro x; rfl
  | ar n t ih => intro x; exact hl ih x
theorem eqAs_refl : ∀ (rs : List Ty) (x : As rs), eqAs rs x x = true
  | [], _ => rfl
  | t :: r, x => by simp [eqAs, eqV_refl, eqAs_refl r]
theorem amb2 {R : Type} {eq : R → R → Bool} (h : ∀ x, eq x x = true) (a : Option R) : amb eq [a, a] = a := by
  cases a <;> simp [amb, ambC, h]
end Pl

end

section
/- Plain laws: rows walked by loops, numbers of 8 and 16 bits. -/
namespace Pl
open Go Ev Sx
/-! ### loops over rows -/
/-- what such a loop is, if it may end early -/
def goL {α β R : Type} (body : β → α → (β → Option R) → Option R) (fin : β → Option R) : List α → β → Option R
  | [], acc => fin acc
  | x :: r, acc => body acc x (goL body fin r)
theorem loop_go {σ R α β : Type} {F : (σ → Option R) → σ → Option R} {mk : Nat → β → σ} {xs : List α} {body : β → α → (β → Option R) → Option R} {fin : β → Option R}
    (hs : ∀ self i acc x, xs[i]? = some x → F self (mk i acc) = body acc x fun a => self (mk (i + 1) a))
    (he : ∀ self acc, F self (mk xs.length acc) = fin acc) :
    ∀ (k i : Nat) (acc : β) (n : Nat), i + k = xs.length → k < n → loopF F n (mk i acc) = goL body fin (xs.drop i) acc
  | _, _, _, 0, _, hn => by omega
  | 0, i, acc, n + 1, h, _ => by
    have : i = xs.length := by omega
    subst this
    rw [loopF_succ, he, List.drop_length]
    rfl
  | k + 1, i, acc, n + 1, h, hn => by
    have hx : xs[i]? = some (xs[i]'(by omega)) := List.getElem?_eq_getElem (by omega)
    rw [loopF_succ, hs _ _ _ _ hx, List.drop_eq_getElem_cons (show i < xs.length by omega)]
    show _ = body acc _ (goL body fin (xs.drop (i + 1)))
    congr 1
    funext a
    exact loop_go hs he k (i + 1) a n (by omega) (by omega)
/-! ### numbers of 8 and 16 bits -/
theorem wr16 (x : Int) : IntKind.u16.wrap x = x % 65536 := by
  simp only [IntKind.wrap, IntKind.signed, IntKind.bits]
  simp
theorem cvt16 (x : Int) : cvt .u16 x = x % 65536 := wr16 x
end Pl

end

section
/- The ledger, as plain Lean: right, found by number. -/
namespace Go.Proofs.Lx
open Go Ev Sx Pl
set_option maxRecDepth 100000
abbrev TJob := Int × Int × List Int × Int
def rightJ : Int → List TJob → Bool
  | _, [] => true
  | b, j :: r => decide (b < j.1 ∧ j.2.1 ≠ 0 ∧ j.2.2.1.length ≤ 8192 ∧ 1 ≤ j.2.2.2 ∧ j.2.2.2 ≤ 5) && rightJ j.1 r
theorem rightJ_cons (b : Int) (j : TJob) (r : List TJob) : rightJ b (j :: r) = (decide (b < j.1 ∧ j.2.1 ≠ 0 ∧ j.2.2.1.length ≤ 8192 ∧ 1 ≤ j.2.2.2 ∧ j.2.2.2 ≤ 5) && rightJ j.1 r) := rfl
/-- rising numbers -/
abbrev Rise (l : List TJob) : Prop := l.Pairwise (fun a b => a.1 < b.1)
theorem rightJ_mem : ∀ {l : List TJob} {b : Int}, rightJ b l = true → ∀ j ∈ l, j.2.1 ≠ 0 ∧ j.2.2.1.length ≤ 8192 ∧ 1 ≤ j.2.2.2 ∧ j.2.2.2 ≤ 5
  | [], _, _ => by simp
  | j :: r, b, h => by
    rw [rightJ_cons] at h
    rw [Bool.and_eq_true, decide_eq_true_eq] at h
    intro x hx
    rcases List.mem_cons.1 hx with e | e
    · rw [e]; exact h.1.2
    · exact rightJ_mem h.2 x e
theorem rise_get {l : List TJob} (h : Rise l) {i k : Nat} {x y : TJob} (hi : l[i]? = some x) (hk : l[k]? = some y) (hlt : i < k) : x.1 < y.1 := by
  obtain ⟨a, rfl⟩ := List.getElem?_eq_some_iff.1 hi
  obtain ⟨b, rfl⟩ := List.getElem?_eq_some_iff.1 hk
  exact List.pairwise_iff_getElem.1 h i k a b hlt
theorem half64 {i j : Nat} (h : i + j < 1000000000000) : cvt .i64 (Sx.shr .u64 (cvt .u64 (add .i64 (i : Int) (j : Int))) 1) = (((i + j) / 2 : Nat) : Int) := by
  rw [addn64 (by omega)]
  have e1 : cvt .u64 (((i + j : Nat) : Int)) = ((i + j : Nat) : Int) := wu64 (by omega) (by omega)
  have e2 : Sx.shr .u64 ((i + j : Nat) : Int) 1 = (((i + j) / 2 : Nat) : Int) := by
    unfold Sx.shr
    have : min (1 : Int).toNat IntKind.u64.bits = 1 := rfl
    rw [this, Int.fdiv_eq_ediv_of_nonneg _ (by decide)]
    omega
  rw [e1, e2, cvt64 (by omega) (by omega)]
theorem cmp_eq (j : TJob) (t : Int) : ledger_at_z1 (j, t, ()) = some ((if j.1 < t then -1 else if t < j.1 then 1 else 0), ()) := by
  show ledger_at_z1_m0 j t = _
  unfold ledger_at_z1_m0
  simp only [lt_dec, gt_dec, decide_eq_true_eq]
  split
  · rfl
  · split <;> rfl
theorem lb_ex {l : List TJob} (h : Rise l) (t : Int) : ∃ i : Nat, i ≤ l.length ∧ ∀ k x, l[k]? = some x → (x.1 < t ↔ k < i) := by
  induction l with
  | nil => exact ⟨0, Nat.le_refl _, by simp⟩
  | cons j r ih =>
    obtain ⟨i, h1, h2⟩ := ih h.of_cons
    by_cases hj : j.1 < t
    · refine ⟨i + 1, by simpa using h1, fun k x hk => ?_⟩
      cases k with
      | zero => simp at hk; subst hk; simp [hj]
      | succ k => rw [h2 k x (by simpa using hk)]; omega
    · refine ⟨0, by omega, fun k x hk => ?_⟩
      cases k with
      | zero => simp at hk; subst hk; simp [hj]
      | succ k =>
        have := rise_get h (i := 0) (k := k + 1) rfl hk (by omega)
        omega
end Go.Proofs.Lx

end

section
/- Plain laws: more loops. -/
namespace Pl
open Go Ev Sx
/-- a loop whose states are known -/
theorem loop_dt {σ R : Type} {F : (σ → Option R) → σ → Option R} {mk : Nat → σ} {N : Nat} {r : Option R} (hs : ∀ self i, i < N → F self (mk i) = self (mk (i + 1))) (he : ∀ self, F self (mk N) = r) :
    ∀ (k i n : Nat), i + k = N → k < n → loopF F n (mk i) = r
  | _, _, 0, _, h => by omega
  | 0, i, n + 1, h, _ => by
    have : i = N := by omega
    subst this
    rw [loopF_succ, he]
  | k + 1, i, n + 1, h, hn => by rw [loopF_succ, hs _ _ (by omega), loop_dt hs he k (i + 1) n (by omega) (by omega)]
/-- what a loop is that may end early, and says where -/
def goI {α β R : Type} (body : Nat → β → α → (β → Option R) → Option R) (fin : β → Option R) : Nat → List α → β → Option R
  | _, [], acc => fin acc
  | i, x :: r, acc => body i acc x (goI body fin (i + 1) r)
theorem loop_goi {σ R α β : Type} {F : (σ → Option R) → σ → Option R} {mk : Nat → β → σ} {xs : List α} {body : Nat → β → α → (β → Option R) → Option R} {fin : β → Option R}
    (hs : ∀ self i acc x, xs[i]? = some x → F self (mk i acc) = body i acc x fun a => self (mk (i + 1) a))
    (he : ∀ self acc, F self (mk xs.length acc) = fin acc) :
    ∀ (k i : Nat) (acc : β) (n : Nat), i + k = xs.length → k < n → loopF F n (mk i acc) = goI body fin i (xs.drop i) acc
  | _, _, _, 0, _, hn => by omega
  | 0, i, acc, n + 1, h, _ => by
    have : i = xs.length := by omega
    subst this
    rw [loopF_succ, he, List.drop_length]
    rfl
  | k + 1, i, acc, n + 1, h, hn => by
    have hx : xs[i]? = some (xs[i]'(by omega)) := List.getElem?_eq_getElem (by omega)
    rw [loopF_succ, hs _ _ _ _ hx, List.drop_eq_getElem_cons (show i < xs.length by omega)]
    show _ = body i acc _ (goI body fin (i + 1) (xs.drop (i + 1)))
    congr 1
    funext a
    exact loop_goi hs he k (i + 1) a n (by omega) (by omega)
theorem set_at {α : Type} (p : List α) (x y : α) (q : List α) : (p ++ x :: q).set p.length y = p ++ y :: q := by
  rw [List.set_append_right _ _ (Nat.le_refl _), Nat.sub_self]
  rfl
end Pl

end

section
/- What is told of jobs, and what registers show, as plain Lean. -/
namespace Go.Proofs.Lx
open Go Ev Sx Pl
set_option maxRecDepth 100000
/-! ### among some -/
def idxI (v : Int) : Nat → List Int → Int
  | _, [] => -1
  | i, x :: r => if v = x then (i : Int) else idxI v (i + 1) r
theorem idxI_cons (v x : Int) (i : Nat) (r : List Int) : idxI v i (x :: r) = if v = x then (i : Int) else idxI v (i + 1) r := rfl
theorem idxI_ge (v : Int) : ∀ (r : List Int) (i : Nat), 0 ≤ idxI v i r ↔ v ∈ r
  | [], _ => by simp [idxI]
  | x :: r, i => by
    unfold idxI
    rw [List.mem_cons]
    by_cases h : v = x
    · rw [if_pos h]; simp [h]
    · rw [if_neg h, idxI_ge v r]; simp [h]
theorem index_eq {s : List Int} (hl : s.length ≤ 1000000) (v : Int) : slices_Index_Guint32 (s, v, ()) = some (idxI v 0 s, ()) := by
  have key : ∀ (r : List Int) (i : Nat), goI (R := Int × Unit) (fun i (_ : Unit) (x : Int) k => if v = x then some ((i : Int), ()) else k ()) (fun _ => some (-1, ())) i r () = some (idxI v i r, ()) := by
    intro r
    induction r with
    | nil => intro i; rfl
    | cons x r ih =>
      intro i
      show (if v = x then _ else goI _ _ (i + 1) r ()) = _
      rw [ih, idxI_cons]
      split <;> rfl
  show slices_Index_Guint32_K1 s v (Int.ofNat s.length) ((0 : Nat) : Int) = _
  rw [← key]
  unfold slices_Index_Guint32_K1
  refine loop_goi (xs := s) (mk := fun i _ => (s, v, Int.ofNat s.length, (i : Int))) ?_ ?_ s.length 0 () _ (by omega) (by omega)
  · intro self i _ x hx
    have hi := (List.getElem?_eq_some_iff.1 hx).1
    show slices_Index_Guint32_m1 _ s v (Int.ofNat s.length) (i : Int) = _
    unfold slices_Index_Guint32_m1
    rw [if_pos (by rw [lt_iff, ofNat_eq]; omega), at_get hx, Option.bind_some, succ64 (by omega)]
    simp only [eqi_iff]
  · intro self _
    show slices_Index_Guint32_m1 _ s v (Int.ofNat s.length) (s.length : Int) = _
    unfold slices_Index_Guint32_m1
    rw [if_neg (by rw [lt_iff, ofNat_eq]; omega)]
theorem contains_eq {s : List Int} (hl : s.length ≤ 1000000) (v : Int) : slices_Contains_Guint32 (s, v, ()) = some (decide (v ∈ s), ()) := by
  show slices_Contains_Guint32_m0 s v = _
  unfold slices_Contains_Guint32_m0
  rw [index_eq hl, Option.bind_some]
  have : ge (idxI v 0 s) 0 = decide (v ∈ s) := by
    rw [Bool.eq_iff_iff, ge_iff, decide_eq_true_eq]
    exact idxI_ge v s 0
  rw [this]
/-! ### told -/
/-- how a job is shown to stand -/
def stW (waits : List Int) (j : TJob) : Int := if j.2.2.2 = 1 ∧ j.1 ∈ waits then 6 else j.2.2.2
/-! ### shown -/
def shownS (l : List TJob) : List TJob := l.drop (l.length - 12)
def lineS (waits : List Int) (j : TJob) : List Int := [j.1 / 65536, j.1 % 65536, stW waits j, j.2.1]
def h0 (l : List TJob) (n : Int) : List Int := [n, (shownS l).length]
def memH (l : List TJob) (waits : List Int) : List Int := (if 65535 < l.length then 65535 else (l.length : Int)) :: ((shownS l).length : Int) :: ((shownS l).flatMap (lineS waits) ++ List.replicate (4 * (12 - (shownS l).length)) 0)
theorem shown_len (l : List TJob) : (shownS l).length ≤ 12 ∧ (shownS l).length ≤ l.length ∧ (l.length ≤ 12 → (shownS l).length = l.length) ∧ (12 ≤ l.length → (shownS l).length = 12) := by
  unfold shownS
  rw [List.length_drop]
  omega
theorem flat4 {α β : Type} {f : α → List β} (hf : ∀ x, (f x).length = 4) : ∀ l : List α, (l.flatMap f).length = 4 * l.length
  | [] => rfl
  | x :: l => by rw [List.flatMap_cons, List.length_append, hf, flat4 hf l, List.length_cons]; omega
theorem line4 (waits : List Int) (j : TJob) : (lineS waits j).length = 4 := rfl
theorem memH_len (l : List TJob) (waits : List Int) : (memH l waits).length = 50 := by
  have := shown_len l
  unfold memH
  rw [List.length_cons, List.length_cons, List.length_append, flat4 (line4 waits), List.length_replicate]
  omega
theorem parts_eq {x : Int} (h1 : 0 ≤ x) (h2 : x < 4294967296) : words_Parts (x, ()) = some (x / 65536, x % 65536, ()) := by
  show words_Parts_m0 x = _
  unfold words_Parts_m0
  have : Sx.shr .u32 x 16 = x / 65536 := by
    unfold Sx.shr
    have : min (16 : Int).toNat IntKind.u32.bits = 16 := rfl
    rw [this, Int.fdiv_eq_ediv_of_nonneg _ (by decide)]
    rfl
  rw [this, cvt16, cvt16, Int.emod_eq_of_lt (by omega) (by omega)]
def OkJ (j : TJob) : Prop := 0 ≤ j.1 ∧ j.1 < 4294967296 ∧ 0 ≤ j.2.1 ∧ j.2.1 < 256 ∧ 0 ≤ j.2.2.2 ∧ j.2.2.2 < 256
/-- what a memory is, so far -/
def memP (a b : Int) (waits : List Int) (s : List TJob) (i : Nat) : List Int := (a :: b :: (s.take i).flatMap (lineS waits)) ++ List.replicate (4 * (12 - i)) 0
theorem four_set {P Q : List Int} (p q r s z0 z1 z2 z3 : Int) {n : Nat} (hn : P.length = n) :
    at? (P ++ z0 :: z1 :: z2 :: z3 :: Q) (n : Int) = some z0 ∧
    at? (List.set (P ++ z0 :: z1 :: z2 :: z3 :: Q) n p) ((n + 1 : Nat) : Int) = some z1 ∧
    at? (List.set (List.set (P ++ z0 :: z1 :: z2 :: z3 :: Q) n p) (n + 1) q) ((n + 2 : Nat) : Int) = some z2 ∧
    at? (List.set (List.set (List.set (P ++ z0 :: z1 :: z2 :: z3 :: Q) n p) (n + 1) q) (n + 2) r) ((n + 3 : Nat) : Int) = some z3 ∧
    List.set (List.set (List.set (List.set (P ++ z0 :: z1 :: z2 :: z3 :: Q) n p) (n + 1) q) (n + 2) r) (n + 3) s = P ++ p :: q :: r :: s :: Q := by
  subst hn
  have e1 : List.set (P ++ z0 :: z1 :: z2 :: z3 :: Q) P.length p = P ++ p :: z1 :: z2 :: z3 :: Q := set_at _ _ _ _
  have e2 : List.set (P ++ p :: z1 :: z2 :: z3 :: Q) (P.length + 1) q = P ++ p :: q :: z2 :: z3 :: Q := by
    rw [List.set_append_right _ _ (by omega)]; congr 1; rw [show P.length + 1 - P.length = 1 by omega]; rfl
  have e3 : List.set (P ++ p :: q :: z2 :: z3 :: Q) (P.length + 2) r = P ++ p :: q :: r :: z3 :: Q := by
    rw [List.set_append_right _ _ (by omega)]; congr 1; rw [show P.length + 2 - P.length = 2 by omega]; rfl
  have e4 : List.set (P ++ p :: q :: r :: z3 :: Q) (P.length + 3) s = P ++ p :: q :: r :: s :: Q := by
    rw [List.set_append_right _ _ (by omega)]; congr 1; rw [show P.length + 3 - P.length = 3 by omega]; rfl
  have g : ∀ (k : Nat) (L : List Int) (z : Int), L[k]? = some z → at? (P ++ L) ((P.length + k : Nat) : Int) = some z := fun k L z h => at_get (by rw [List.getElem?_append_right (by omega), show P.length + k - P.length = k by omega]; exact h)
  rw [e1, e2, e3, e4]
  exact ⟨g 0 _ _ rfl, g 1 _ _ rfl, g 2 _ _ rfl, g 3 _ _ rfl, rfl⟩
theorem vmem_eq {l : List TJob} (hl : l.length ≤ 1000000) {waits : List Int} (hw : waits.length ≤ 1000000) (ho : ∀ j ∈ l, OkJ j) : view_Mem (l, waits, ()) = some (([], [], memH l waits, []), ()) := by
  obtain ⟨n1, n2, n3, n4⟩ := shown_len l
  have hlast : view_last_Gapi_Job (l, 12, ()) = some (shownS l, ()) := by
    show view_last_Gapi_Job_m0 l 12 = _
    unfold view_last_Gapi_Job_m0
    have e : (if gt 0 (sub .i64 (Int.ofNat l.length) 12) = true then 0 else sub .i64 (Int.ofNat l.length) 12) = ((l.length - 12 : Nat) : Int) := by
      rw [ofNat_eq, sub64 (by omega) (by omega)]
      by_cases h : l.length < 12
      · rw [if_pos (by rw [gt_iff]; omega)]; omega
      · rw [if_neg (by rw [gt_iff]; omega)]; omega
    rw [e, cut_from (by omega)]
    rfl
  show view_Mem_m0 view_Mem_K1 l waits = _
  unfold view_Mem_m0
  rw [hlast, Option.bind_some]
  dsimp only
  have ea : cvt .u16 (if lt 65535 (Int.ofNat l.length) = true then 65535 else Int.ofNat l.length) = (if 65535 < l.length then 65535 else (l.length : Int)) := by
    rw [ofNat_eq, cvt16]
    by_cases h : 65535 < l.length
    · rw [if_pos (by rw [lt_iff]; omega), if_pos h]; rfl
    · rw [if_neg (by rw [lt_iff]; omega), if_neg h]; omega
  have eb : cvt .u16 (Int.ofNat (shownS l).length) = ((shownS l).length : Int) := by
    rw [ofNat_eq, cvt16]; omega
  rw [ea, eb]
  unfold memH
  generalize (if 65535 < l.length then 65535 else (l.length : Int)) = a
  show view_Mem_K1 waits (shownS l) (Int.ofNat (shownS l).length) ((0 : Nat) : Int) (memP a (shownS l).length waits (shownS l) 0) = _
  have fin : some ((([] : List Bool), ([] : List Bool), a :: ((shownS l).length : Int) :: ((shownS l).flatMap (lineS waits) ++ List.replicate (4 * (12 - (shownS l).length)) 0), ([] : List Int)), ()) = view_Mem_K3 (memP a (shownS l).length waits (shownS l) (shownS l).length) := by
    unfold memP view_Mem_K3 view_Mem_m3
    rw [List.take_length]
    rfl
  rw [fin]
  unfold view_Mem_K1
  have hsub : ∀ j ∈ shownS l, OkJ j := fun j hj => ho j (List.mem_of_mem_drop hj)
  generalize hS : shownS l = S at *
  refine loop_dt (N := S.length) (mk := fun i => (waits, S, Int.ofNat S.length, (i : Int), memP a (S.length : Int) waits S i)) ?_ ?_ S.length 0 _ (by omega) (by omega)
  · intro self i hi
    have hj := List.getElem?_eq_getElem hi
    have hok := hsub _ (List.getElem_mem hi)
    generalize hjj : S[i] = j at hj hok
    show view_Mem_m1 _ _ _ waits S (Int.ofNat S.length) (i : Int) (memP a (S.length : Int) waits S i) = _
    unfold view_Mem_m1
    rw [if_pos (by rw [lt_iff, ofNat_eq]; omega), at_get hj, Option.bind_some, parts_eq hok.1 hok.2.1, Option.bind_some]
    dsimp only
    have hP : (a :: (S.length : Int) :: (S.take i).flatMap (lineS waits)).length = 2 + 4 * i := by
      rw [List.length_cons, List.length_cons, flat4 (line4 waits), List.length_take]; omega
    have hR : List.replicate (4 * (12 - i)) (0 : Int) = 0 :: 0 :: 0 :: 0 :: List.replicate (4 * (12 - (i + 1))) 0 := by
      rw [show 4 * (12 - i) = 4 * (12 - (i + 1)) + 4 by omega]
      rfl
    have hm : memP a (S.length : Int) waits S i = (a :: (S.length : Int) :: (S.take i).flatMap (lineS waits)) ++ 0 :: 0 :: 0 :: 0 :: List.replicate (4 * (12 - (i + 1))) 0 := by
      unfold memP
      rw [hR]
    obtain ⟨g0, g1, g2, g3, g4⟩ := four_set (P := a :: (S.length : Int) :: (S.take i).flatMap (lineS waits)) (Q := List.replicate (4 * (12 - (i + 1))) 0) (j.1 / 65536) (j.1 % 65536) (stW waits j) j.2.1 0 0 0 0 hP
    rw [← hm] at g0 g1 g2 g3 g4
    have e0 : add .i64 2 (mul .i64 4 (i : Int)) = ((2 + 4 * i : Nat) : Int) := by
      rw [mul64 (by omega) (by omega), add64 (by omega) (by omega)]; omega
    have e1 : add .i64 ((2 + 4 * i : Nat) : Int) 1 = ((2 + 4 * i + 1 : Nat) : Int) := succ64 (by omega)
    have e2 : add .i64 ((2 + 4 * i : Nat) : Int) 2 = ((2 + 4 * i + 2 : Nat) : Int) := by rw [add64 (by omega) (by omega)]; omega
    have e3 : add .i64 ((2 + 4 * i : Nat) : Int) 3 = ((2 + 4 * i + 3 : Nat) : Int) := by rw [add64 (by omega) (by omega)]; omega
    rw [e0, e1]
    simp only [Int.toNat_natCast]
    rw [g0, Option.bind_some, Option.bind_some, g1, Option.bind_some, Option.bind_some]
    have K4 : ∀ st, st = stW waits j → view_Mem_K4 (fun waits t25 t26 t27 h => self (waits, t25, t26, t27, h)) waits ((2 + 4 * i : Nat) : Int) st S (Int.ofNat S.length) (i : Int) (List.set (List.set (memP a (S.length : Int) waits S i) (2 + 4 * i) (j.1 / 65536)) (2 + 4 * i + 1) (j.1 % 65536)) j = self (waits, S, Int.ofNat S.length, ((i + 1 : Nat) : Int), memP a (S.length : Int) waits S (i + 1)) := by
      intro st hst
      unfold view_Mem_K4 view_Mem_m4
      have hc : cvt .u16 st = stW waits j := by
        rw [hst, cvt16]
        unfold stW
        have := hok.2.2.2.2
        split <;> omega
      have hd : cvt .u16 j.2.1 = j.2.1 := by
        have := hok.2.2
        rw [cvt16]; omega
      rw [e2, e3]
      simp only [Int.toNat_natCast]
      rw [g2, Option.bind_some, Option.bind_some, hc, g3, Option.bind_some, Option.bind_some, hd, g4, succ64 (by omega)]
      congr 1
      unfold memP
      rw [List.take_succ_eq_append_getElem hi, hjj, List.flatMap_append]
      simp [lineS]
    have K2 : ∀ t, (t = true → stW waits j = 6) → (t = false → stW waits j = j.2.2.2) → view_Mem_K2 (fun waits t25 t26 t27 h => self (waits, t25, t26, t27, h)) waits ((2 + 4 * i : Nat) : Int) j.2.2.2 S (Int.ofNat S.length) (i : Int) t (List.set (List.set (memP a (S.length : Int) waits S i) (2 + 4 * i) (j.1 / 65536)) (2 + 4 * i + 1) (j.1 % 65536)) j = self (waits, S, Int.ofNat S.length, ((i + 1 : Nat) : Int), memP a (S.length : Int) waits S (i + 1)) := by
      intro t ht hf
      unfold view_Mem_K2 view_Mem_m2
      cases t with
      | true => rw [if_pos rfl]; exact K4 _ (ht rfl).symm
      | false => rw [if_neg (by decide)]; exact K4 _ (hf rfl).symm
    by_cases h : j.2.2.2 = 1
    · rw [if_pos (eqi_iff.2 h), contains_eq hw, Option.bind_some]
      refine K2 _ (fun ht => ?_) (fun ht => ?_)
      · unfold stW
        rw [if_pos ⟨h, of_decide_eq_true ht⟩]
      · unfold stW
        rw [if_neg (fun e => of_decide_eq_false ht e.2)]
    · rw [if_neg (fun e => h (eqi_iff.1 e))]
      refine K2 false (fun ht => by cases ht) (fun _ => ?_)
      unfold stW
      rw [if_neg (fun e => h e.1)]
  · intro self
    show view_Mem_m1 _ _ _ waits S (Int.ofNat S.length) (S.length : Int) _ = _
    unfold view_Mem_m1
    rw [if_neg (by rw [lt_iff, ofNat_eq]; omega)]
end Go.Proofs.Lx

end
