/- Proved in the last of these 8 parts (this is part 7): what registers show of a job is what lines of text say of it, for any ledger and any numbers that wait. Conditions: those of the given statement, and no others. -/
import Derived.Test.YtaojmefkpcdpnaaPartd
import Derived.Test.YtaojmefkpcdpnaaPartf
import Derived.Test.YtaojmefkpcdpnaaProg
set_option linter.unusedVariables false
set_option linter.unusedSimpArgs false
set_option linter.unusedSectionVars false
section
/- Contracts, made by a program. -/
open Go Go.Proofs Ev Sx
set_option maxRecDepth 100000
namespace Go.Proofs.Lx
/-! law29_alone -/
@[reducible] def law29_alone_s : Sh := ⟨[.d (.pr (.sl .bool) LAT4), .d (.sl (.int .u16))], [], [.pr (.sl .bool) LAT4, .sl (.int .u16)], [.d (.bool)], [], 0, [.bool]⟩
def law29_alone_e : Env := (cts [(16, (⟨law06_Regs_s, law06_Regs⟩ : Ct))])
def law29_alone_h : List (Nat × Hint) := []
def law29_alone_m0 (m : List Bool × List Bool × List Int × List Int) (r : List Int) : Option (As [.bool]) :=
  Option.bind (law06_Regs (m.2.2.1, r, ())) fun (y : Bool × Unit) => if y.1 = true then some (eqi (add .i64 (add .i64 (Int.ofNat (List.length m.1)) (Int.ofNat (List.length m.2.1))) (Int.ofNat (List.length m.2.2.2))) 0, ()) else some (false, ())
def law29_alone (x : As [.pr (.sl .bool) LAT4, .sl (.int .u16)]) : Option (As [.bool]) := law29_alone_m0 x.1 x.2.1
theorem law29_alone_c0 (J : Orc (As [.bool])) (x : As [.pr (.sl .bool) LAT4, .sl (.int .u16)]) : rfn Try.prog law29_alone_e 6 18446744073709551616 (Ev.get law29_alone_h) 18 law29_alone_s J x = law29_alone_m0 x.1 x.2.1 := by kernel_rfl
theorem law29_alone_t (x : As [.pr (.sl .bool) LAT4, .sl (.int .u16)]) : evT Try.prog law29_alone_e 6 18446744073709551616 (Ev.get law29_alone_h) 18 law29_alone_s x = law29_alone x := by
  rw [rfn_eq, law29_alone_c0]
  rfl
theorem law29_alone_ok : CtOk Try.prog (fun _ => True) 18 ⟨law29_alone_s, law29_alone⟩ := ct_of_ev (env_cons law06_Regs_ok env_nil) law29_alone_t
/-! law06_Same -/
@[reducible] def law06_Same_s : Sh := ⟨[.d (.sl (.int .u8)), .d (.sl (.int .u8))], [], [.sl (.int .u8), .sl (.int .u8)], [.d (.bool)], [], 0, [.bool]⟩
def law06_Same_e : Env := (cts [])
def law06_Same_h : List (Nat × Hint) := []
def law06_Same_m0 (a : List Int) (b : List Int) : Option (As [.bool]) :=
  some (eqs (Sx.toS a) (Sx.toS b), ())
def law06_Same (x : As [.sl (.int .u8), .sl (.int .u8)]) : Option (As [.bool]) := law06_Same_m0 x.1 x.2.1
theorem law06_Same_c0 (J : Orc (As [.bool])) (x : As [.sl (.int .u8), .sl (.int .u8)]) : rfn Try.prog law06_Same_e 6 18446744073709551616 (Ev.get law06_Same_h) 19 law06_Same_s J x = law06_Same_m0 x.1 x.2.1 := by kernel_rfl
theorem law06_Same_t (x : As [.sl (.int .u8), .sl (.int .u8)]) : evT Try.prog law06_Same_e 6 18446744073709551616 (Ev.get law06_Same_h) 19 law06_Same_s x = law06_Same x := by
  rw [rfn_eq, law06_Same_c0]
  rfl
theorem law06_Same_ok : CtOk Try.prog (fun _ => True) 19 ⟨law06_Same_s, law06_Same⟩ := ct_of_ev env_nil law06_Same_t
/-! law29_awake -/
@[reducible] def law29_awake_s : Sh := ⟨[], [], [], [.d (.bool)], [], 0, [.bool]⟩
def law29_awake_e : Env := (cts [(9, (⟨view_Mem_s, view_Mem⟩ : Ct)), (12, (⟨view_Serve_s, view_Serve⟩ : Ct)), (17, (⟨view_Space_s, view_Space⟩ : Ct)), (18, (⟨law29_alone_s, law29_alone⟩ : Ct)), (19, (⟨law06_Same_s, law06_Same⟩ : Ct))])
def law29_awake_h : List (Nat × Hint) := []
def law29_awake_m0 : Option (As [.bool]) :=
  Option.bind (view_Space ()) fun (y : (List LAT2 × List LAT2 × List LAT2 × List LAT2) × Unit) => Option.bind (view_Mem ([(65537, 3, [], 2)], [], ())) fun (y_1 : (List Bool × List Bool × List Int × List Int) × Unit) => Option.bind (law29_alone (y_1.1, [1, 1, 1, 1, 2, 3, 0, 0, 0, 0, 0, 0, 0, 0, 0, 0, 0, 0, 0, 0, 0, 0, 0, 0, 0, 0, 0, 0, 0, 0, 0, 0, 0, 0, 0, 0, 0, 0, 0, 0, 0, 0, 0, 0, 0, 0, 0, 0, 0, 0], ())) fun (y_2 : Bool × Unit) => if y_2.1 = true then if eqi (Int.ofNat (List.length y.1.2.2.1)) 1 = true then Option.bind (at? y.1.2.2.1 0) fun (y_3 : Int × Int × Bool × Bool × Bool) => if (eqi y_3.1 0 && (eqi y_3.2.1 50 && (Sx.eqb y_3.2.2.1 true && (Sx.eqb y_3.2.2.2.1 false && (Sx.eqb y_3.2.2.2.2 false && true))))) = true then if eqi (add .i64 (add .i64 (Int.ofNat (List.length y.1.1)) (Int.ofNat (List.length y.1.2.1))) (Int.ofNat (List.length y.1.2.2.2))) 0 = true then Option.bind (view_Serve ([(65537, 3, [], 2)], [], [3, 0, 0, 0, 2], ())) fun (y : List Int × Unit) => Option.bind (law06_Same (y.1, [3, 4, 0, 1, 0, 1], ())) fun (y : Bool × Unit) => if y.1 = true then Option.bind (view_Serve ([(65537, 3, [], 2)], [], [6, 0, 0, 0, 1], ())) fun (y : List Int × Unit) => Option.bind (law06_Same (y.1, [134, 2], ())) fun (y : Bool × Unit) => if y.1 = true then Option.bind (view_Serve ([(65537, 3, [], 2)], [], [3, 0, 49, 0, 2], ())) fun (y : List Int × Unit) => Option.bind (law06_Same (y.1, [131, 2], ())) fun (y : Bool × Unit) => some (y.1, ()) else some (false, ()) else some (false, ()) else some (false, ()) else some (false, ()) else some (false, ()) else some (false, ())
def law29_awake (x : As []) : Option (As [.bool]) := law29_awake_m0
theorem law29_awake_c0 (J : Orc (As [.bool])) (x : As []) : rfn Try.prog law29_awake_e 6 18446744073709551616 (Ev.get law29_awake_h) 6 law29_awake_s J x = law29_awake_m0 := by kernel_rfl
theorem law29_awake_t (x : As []) : evT Try.prog law29_awake_e 6 18446744073709551616 (Ev.get law29_awake_h) 6 law29_awake_s x = law29_awake x := by
  rw [rfn_eq, law29_awake_c0]
  rfl
theorem law29_awake_ok : CtOk Try.prog (fun _ => True) 6 ⟨law29_awake_s, law29_awake⟩ := ct_of_ev (env_cons view_Mem_ok (env_cons view_Serve_ok (env_cons view_Space_ok (env_cons law29_alone_ok (env_cons law06_Same_ok env_nil))))) law29_awake_t
/-! words_Wide -/
@[reducible] def words_Wide_s : Sh := ⟨[.d (.int .u16), .d (.int .u16)], [], [.int .u16, .int .u16], [.d (.int .u32)], [], 0, [.int .u32]⟩
def words_Wide_e : Env := (cts [])
def words_Wide_h : List (Nat × Hint) := []
def words_Wide_m0 (high : Int) (low : Int) : Option (As [.int .u32]) :=
  some (Sx.bor .u32 (Sx.shl .u32 (cvt .u32 high) 16) (cvt .u32 low), ())
def words_Wide (x : As [.int .u16, .int .u16]) : Option (As [.int .u32]) := words_Wide_m0 x.1 x.2.1
theorem words_Wide_c0 (J : Orc (As [.int .u32])) (x : As [.int .u16, .int .u16]) : rfn Try.prog words_Wide_e 6 18446744073709551616 (Ev.get words_Wide_h) 23 words_Wide_s J x = words_Wide_m0 x.1 x.2.1 := by kernel_rfl
theorem words_Wide_t (x : As [.int .u16, .int .u16]) : evT Try.prog words_Wide_e 6 18446744073709551616 (Ev.get words_Wide_h) 23 words_Wide_s x = words_Wide x := by
  rw [rfn_eq, words_Wide_c0]
  rfl
theorem words_Wide_ok : CtOk Try.prog (fun _ => True) 23 ⟨words_Wide_s, words_Wide⟩ := ct_of_ev env_nil words_Wide_t
/-! view_possible -/
@[reducible] def view_possible_s : Sh := ⟨[.d LAT6], [], [.pr (.int .u32) (.pr (.int .u16) (.int .u16))], [.d (.bool)], [], 0, [.bool]⟩
def view_possible_e : Env := (cts [])
def view_possible_h : List (Nat × Hint) := []
def view_possible_m0 (x : Int × Int × Int) : Option (As [.bool]) :=
  if ge x.2.1 1 = true then if le x.2.1 6 = true then if ge x.2.2 1 = true then some (le x.2.2 255, ()) else some (false, ()) else some (false, ()) else some (false, ())
def view_possible (x : As [.pr (.int .u32) (.pr (.int .u16) (.int .u16))]) : Option (As [.bool]) := view_possible_m0 x.1
theorem view_possible_c0 (J : Orc (As [.bool])) (x : As [.pr (.int .u32) (.pr (.int .u16) (.int .u16))]) : rfn Try.prog view_possible_e 6 18446744073709551616 (Ev.get view_possible_h) 24 view_possible_s J x = view_possible_m0 x.1 := by kernel_rfl
theorem view_possible_t (x : As [.pr (.int .u32) (.pr (.int .u16) (.int .u16))]) : evT Try.prog view_possible_e 6 18446744073709551616 (Ev.get view_possible_h) 24 view_possible_s x = view_possible x := by
  rw [rfn_eq, view_possible_c0]
  rfl
theorem view_possible_ok : CtOk Try.prog (fun _ => True) 24 ⟨view_possible_s, view_possible⟩ := ct_of_ev env_nil view_possible_t
/-! view_Read -/
@[reducible] def view_Read_s : Sh := ⟨[.d (.pr (.sl .bool) LAT4)], [], [.pr (.sl .bool) LAT4], [.d (.sl LAT6), .d (.bool)], [], 0, [.sl LAT6, .bool]⟩
def view_Read_e : Env := (cts [(23, (⟨words_Wide_s, words_Wide⟩ : Ct)), (24, (⟨view_possible_s, view_possible⟩ : Ct))])
def view_Read_h : List (Nat × Hint) := [(255, ⟨[], [4, 5, 7]⟩), (511, ⟨[], [7]⟩), (4090, ⟨[], [7, 103, 104, 105]⟩), (2042, ⟨[.row 7 43], [4, 5, 6, 7, 55, 56]⟩), (261427, ⟨[], [4, 5, 6, 7, 10, 55, 56, 88, 89, 90]⟩), (1045710, ⟨[], [4, 5, 7, 10, 55, 56, 91]⟩), (6, ⟨[], [1, 34, 88, 89, 90]⟩)]
def view_Read_k1 (t34 : Bool) (m : List Bool × List Bool × List Int × List Int) : St := { fr := [(1, .pb 0 0), (34, .d .bool t34)], nt := 113, up := [], own := [(0, .box 39 [.d (.sl .bool) m.1, .d (.sl .bool) m.2.1, .d (.sl (.int .u16)) m.2.2.1, .d (.sl (.int .u16)) m.2.2.2])], nx := 1, log := [], ln := 0 }
def view_Read_k2 (h : List Int) (shown : Int) (before : Int) (t55 : Int) (t56 : Int) (l : List (Int × Int × Int)) : St := { fr := [(4, .d (.sl (.int .u16)) h), (5, .d (.int .i64) shown), (6, .d (.int .u32) before), (7, .row 0), (55, .d (.int .i64) t55), (56, .d (.int .i64) t56)], nt := 113, up := [], own := [(0, .row LAT6 43 l)], nx := 1, log := [], ln := 0 }
def view_Read_k3 (h : List Int) (shown : Int) (before : Int) (t55 : Int) (t56 : Int) (l : List (Int × Int × Int)) (x : Int × Int × Int) : St := { fr := [(4, .d (.sl (.int .u16)) h), (5, .d (.int .i64) shown), (6, .d (.int .u32) before), (7, .row 0), (10, .pb 1 0), (55, .d (.int .i64) t55), (56, .d (.int .i64) t56)], nt := 113, up := [], own := [(0, .row LAT6 43 l), (1, .box 43 [.d (.int .u32) x.1, .d (.int .u16) x.2.1, .d (.int .u16) x.2.2])], nx := 2, log := [], ln := 0 }
def view_Read_k4 (h : List Int) (shown : Int) (l : List (Int × Int × Int)) : St := { fr := [(4, .d (.sl (.int .u16)) h), (5, .d (.int .i64) shown), (7, .row 0)], nt := 113, up := [], own := [(0, .row LAT6 43 l)], nx := 1, log := [], ln := 0 }
def view_Read_k5 (h : List Int) (shown : Int) (t55 : Int) (t56 : Int) (t91 : Bool) (l : List (Int × Int × Int)) (x : Int × Int × Int) : St := { fr := [(4, .d (.sl (.int .u16)) h), (5, .d (.int .i64) shown), (7, .row 0), (10, .pb 1 0), (55, .d (.int .i64) t55), (56, .d (.int .i64) t56), (91, .d .bool t91)], nt := 113, up := [], own := [(0, .row LAT6 43 l), (1, .box 43 [.d (.int .u32) x.1, .d (.int .u16) x.2.1, .d (.int .u16) x.2.2])], nx := 2, log := [], ln := 0 }
def view_Read_k6 (t103 : List Int) (t104 : Int) (t105 : Int) (l : List (Int × Int × Int)) : St := { fr := [(7, .row 0), (103, .d (.sl (.int .u16)) t103), (104, .d (.int .i64) t104), (105, .d (.int .i64) t105)], nt := 113, up := [], own := [(0, .row LAT6 43 l)], nx := 1, log := [], ln := 0 }
def view_Read_k7 (l : List (Int × Int × Int)) : St := { fr := [(7, .row 0)], nt := 113, up := [], own := [(0, .row LAT6 43 l)], nx := 1, log := [], ln := 0 }
def view_Read_m1 (j2 : List Int → Int → Int → Int → Int → List (Int × Int × Int) → Option (As [.sl LAT6, .bool])) (t34 : Bool) (m : List Bool × List Bool × List Int × List Int) : Option (As [.sl LAT6, .bool]) :=
  if t34 = true then some ([], false, ()) else Option.bind (at? m.2.2.1 1) fun (y : Int) => Option.bind (at? m.2.2.1 0) fun (y_1 : Int) => if nei (cvt .i64 y) (if lt 12 (cvt .i64 y_1) = true then 12 else cvt .i64 y_1) = true then some ([], false, ()) else Option.bind (at? m.2.2.1 0) fun (y_2 : Int) => j2 m.2.2.1 (cvt .i64 y) (cvt .u32 (Sx.sub .i64 (cvt .i64 y_2) (cvt .i64 y))) (cvt .i64 y) 0 []
def view_Read_m2 (j3 : List Int → Int → Int → Int → Int → List (Int × Int × Int) → Int × Int × Int → Option (As [.sl LAT6, .bool])) (j4 : List Int → Int → List (Int × Int × Int) → Option (As [.sl LAT6, .bool])) (self2 : List Int → Int → Int → Int → Int → List (Int × Int × Int) → Option (As [.sl LAT6, .bool])) (h : List Int) (shown : Int) (before : Int) (t55 : Int) (t56 : Int) (l : List (Int × Int × Int)) : Option (As [.sl LAT6, .bool]) :=
  if lt t56 t55 = true then Option.bind (at? h (add .i64 2 (mul .i64 4 t56))) fun (y : Int) => Option.bind (at? h (add .i64 (add .i64 2 (mul .i64 4 t56)) 1)) fun (y_1 : Int) => Option.bind (at? h (add .i64 (add .i64 2 (mul .i64 4 t56)) 2)) fun (y_2 : Int) => Option.bind (at? h (add .i64 (add .i64 2 (mul .i64 4 t56)) 3)) fun (y_3 : Int) => amb (eqAs view_Read_s.rs) [Option.bind (words_Wide (y, y_1, ())) fun (y : Int × Unit) => j3 h shown before t55 t56 l (y.1, y_2, y_3), Option.bind (words_Wide (y, y_1, ())) fun (y : Int × Unit) => j3 h shown before t55 t56 l (y.1, y_2, y_3)] else j4 h shown l
def view_Read_m3 (j5 : List Int → Int → Int → Int → Bool → List (Int × Int × Int) → Int × Int × Int → Option (As [.sl LAT6, .bool])) (self2 : List Int → Int → Int → Int → Int → List (Int × Int × Int) → Option (As [.sl LAT6, .bool])) (h : List Int) (shown : Int) (before : Int) (t55 : Int) (t56 : Int) (l : List (Int × Int × Int)) (x : Int × Int × Int) : Option (As [.sl LAT6, .bool]) :=
  if le x.1 before = true then j5 h shown t55 t56 true l x else Option.bind (view_possible (x, ())) fun (y : Bool × Unit) => j5 h shown t55 t56 (!y.1) l x
def view_Read_m4 (j6 : List Int → Int → Int → List (Int × Int × Int) → Option (As [.sl LAT6, .bool])) (h : List Int) (shown : Int) (l : List (Int × Int × Int)) : Option (As [.sl LAT6, .bool]) :=
  Option.bind (cut h (add .i64 2 (mul .i64 4 shown)) (Int.ofNat (List.length h))) fun (y : List Int) => j6 y (Int.ofNat (List.length y)) 0 l
def view_Read_m5 (self2 : List Int → Int → Int → Int → Int → List (Int × Int × Int) → Option (As [.sl LAT6, .bool])) (h : List Int) (shown : Int) (t55 : Int) (t56 : Int) (t91 : Bool) (l : List (Int × Int × Int)) (x : Int × Int × Int) : Option (As [.sl LAT6, .bool]) :=
  if t91 = true then some ([], false, ()) else need (small (List.length l + Nat.succ 0)) (self2 h shown x.1 t55 (add .i64 t56 1) (l ++ [x]))
def view_Read_m6 (j7 : List (Int × Int × Int) → Option (As [.sl LAT6, .bool])) (self6 : List Int → Int → Int → List (Int × Int × Int) → Option (As [.sl LAT6, .bool])) (t103 : List Int) (t104 : Int) (t105 : Int) (l : List (Int × Int × Int)) : Option (As [.sl LAT6, .bool]) :=
  if lt t105 t104 = true then Option.bind (at? t103 t105) fun (y : Int) => if nei y 0 = true then some ([], false, ()) else self6 t103 t104 (add .i64 t105 1) l else j7 l
def view_Read_m7 (l : List (Int × Int × Int)) : Option (As [.sl LAT6, .bool]) :=
  some (l, true, ())
def view_Read_m0 (j1 : Bool → List Bool × List Bool × List Int × List Int → Option (As [.sl LAT6, .bool])) (m : List Bool × List Bool × List Int × List Int) : Option (As [.sl LAT6, .bool]) :=
  if nei (Int.ofNat (List.length m.1)) 0 = true then j1 true m else if nei (Int.ofNat (List.length m.2.1)) 0 = true then j1 true m else if nei (Int.ofNat (List.length m.2.2.2)) 0 = true then j1 true m else j1 (nei (Int.ofNat (List.length m.2.2.1)) 50) m
def view_Read_K5 (u2 : List Int → Int → Int → Int → Int → List (Int × Int × Int) → Option (As [.sl LAT6, .bool])) (h : List Int) (shown : Int) (t55 : Int) (t56 : Int) (t91 : Bool) (l : List (Int × Int × Int)) (x : Int × Int × Int) : Option (As [.sl LAT6, .bool]) := view_Read_m5 u2 h shown t55 t56 t91 l x
def view_Read_K3 (u2 : List Int → Int → Int → Int → Int → List (Int × Int × Int) → Option (As [.sl LAT6, .bool])) (h : List Int) (shown : Int) (before : Int) (t55 : Int) (t56 : Int) (l : List (Int × Int × Int)) (x : Int × Int × Int) : Option (As [.sl LAT6, .bool]) := view_Read_m3 (view_Read_K5 u2) u2 h shown before t55 t56 l x
def view_Read_K7 (l : List (Int × Int × Int)) : Option (As [.sl LAT6, .bool]) := view_Read_m7 l
def view_Read_K6 (t103 : List Int) (t104 : Int) (t105 : Int) (l : List (Int × Int × Int)) : Option (As [.sl LAT6, .bool]) :=
  loopF (fun (self : (List Int) × (Int) × (Int) × (List (Int × Int × Int)) → Option (As [.sl LAT6, .bool])) (s : (List Int) × (Int) × (Int) × (List (Int × Int × Int))) => view_Read_m6 (view_Read_K7) (fun t103 t104 t105 l => self (t103, t104, t105, l)) s.1 s.2.1 s.2.2.1 s.2.2.2) 18446744073709551616 (t103, t104, t105, l)
def view_Read_K4 (h : List Int) (shown : Int) (l : List (Int × Int × Int)) : Option (As [.sl LAT6, .bool]) := view_Read_m4 (view_Read_K6) h shown l
def view_Read_K2 (h : List Int) (shown : Int) (before : Int) (t55 : Int) (t56 : Int) (l : List (Int × Int × Int)) : Option (As [.sl LAT6, .bool]) :=
  loopF (fun (self : (List Int) × (Int) × (Int) × (Int) × (Int) × (List (Int × Int × Int)) → Option (As [.sl LAT6, .bool])) (s : (List Int) × (Int) × (Int) × (Int) × (Int) × (List (Int × Int × Int))) => view_Read_m2 (view_Read_K3 (fun h shown before t55 t56 l => self (h, shown, before, t55, t56, l))) (view_Read_K4) (fun h shown before t55 t56 l => self (h, shown, before, t55, t56, l)) s.1 s.2.1 s.2.2.1 s.2.2.2.1 s.2.2.2.2.1 s.2.2.2.2.2) 18446744073709551616 (h, shown, before, t55, t56, l)
def view_Read_K1 (t34 : Bool) (m : List Bool × List Bool × List Int × List Int) : Option (As [.sl LAT6, .bool]) := view_Read_m1 (view_Read_K2) t34 m
def view_Read (x : As [.pr (.sl .bool) LAT4]) : Option (As [.sl LAT6, .bool]) := view_Read_m0 view_Read_K1 x.1
theorem view_Read_c5 (J : Orc (As [.sl LAT6, .bool])) (w2 : St → Option (As [.sl LAT6, .bool])) (h : List Int) (shown : Int) (t55 : Int) (t56 : Int) (t91 : Bool) (l : List (Int × Int × Int)) (x : Int × Int × Int) : pfn Try.prog view_Read_e 6 18446744073709551616 (Ev.get view_Read_h) 8 view_Read_s J 1045710 [w2] (view_Read_k5 h shown t55 t56 t91 l x) = view_Read_m5 (fun h shown before t55 t56 l => w2 (view_Read_k2 h shown before t55 t56 l)) h shown t55 t56 t91 l x := by kernel_rfl
theorem view_Read_c3 (J : Orc (As [.sl LAT6, .bool])) (w2 : St → Option (As [.sl LAT6, .bool])) (h : List Int) (shown : Int) (before : Int) (t55 : Int) (t56 : Int) (l : List (Int × Int × Int)) (x : Int × Int × Int) : pfn Try.prog view_Read_e 6 18446744073709551616 (Ev.get view_Read_h) 8 view_Read_s J 261427 [w2] (view_Read_k3 h shown before t55 t56 l x) = view_Read_m3 (fun h shown t55 t56 t91 l x => J 1045710 [w2] (view_Read_k5 h shown t55 t56 t91 l x)) (fun h shown before t55 t56 l => w2 (view_Read_k2 h shown before t55 t56 l)) h shown before t55 t56 l x := by kernel_rfl
theorem view_Read_c7 (J : Orc (As [.sl LAT6, .bool])) (l : List (Int × Int × Int)) : pfn Try.prog view_Read_e 6 18446744073709551616 (Ev.get view_Read_h) 8 view_Read_s J 511 [] (view_Read_k7 l) = view_Read_m7 l := by kernel_rfl
theorem view_Read_c6 (J : Orc (As [.sl LAT6, .bool])) (w6 : St → Option (As [.sl LAT6, .bool])) (t103 : List Int) (t104 : Int) (t105 : Int) (l : List (Int × Int × Int)) : pfn Try.prog view_Read_e 6 18446744073709551616 (Ev.get view_Read_h) 8 view_Read_s J 4090 [w6] (view_Read_k6 t103 t104 t105 l) = view_Read_m6 (fun l => J 511 [] (view_Read_k7 l)) (fun t103 t104 t105 l => w6 (view_Read_k6 t103 t104 t105 l)) t103 t104 t105 l := by kernel_rfl
theorem view_Read_c4 (J : Orc (As [.sl LAT6, .bool])) (h : List Int) (shown : Int) (l : List (Int × Int × Int)) : pfn Try.prog view_Read_e 6 18446744073709551616 (Ev.get view_Read_h) 8 view_Read_s J 255 [] (view_Read_k4 h shown l) = view_Read_m4 (fun t103 t104 t105 l => J 4090 [] (view_Read_k6 t103 t104 t105 l)) h shown l := by kernel_rfl
theorem view_Read_c2 (J : Orc (As [.sl LAT6, .bool])) (w2 : St → Option (As [.sl LAT6, .bool])) (h : List Int) (shown : Int) (before : Int) (t55 : Int) (t56 : Int) (l : List (Int × Int × Int)) : pfn Try.prog view_Read_e 6 18446744073709551616 (Ev.get view_Read_h) 8 view_Read_s J 2042 [w2] (view_Read_k2 h shown before t55 t56 l) = view_Read_m2 (fun h shown before t55 t56 l x => J 261427 [w2] (view_Read_k3 h shown before t55 t56 l x)) (fun h shown l => J 255 [] (view_Read_k4 h shown l)) (fun h shown before t55 t56 l => w2 (view_Read_k2 h shown before t55 t56 l)) h shown before t55 t56 l := by kernel_rfl
theorem view_Read_c1 (J : Orc (As [.sl LAT6, .bool])) (t34 : Bool) (m : List Bool × List Bool × List Int × List Int) : pfn Try.prog view_Read_e 6 18446744073709551616 (Ev.get view_Read_h) 8 view_Read_s J 6 [] (view_Read_k1 t34 m) = view_Read_m1 (fun h shown before t55 t56 l => J 2042 [] (view_Read_k2 h shown before t55 t56 l)) t34 m := by kernel_rfl
theorem view_Read_c0 (J : Orc (As [.sl LAT6, .bool])) (x : As [.pr (.sl .bool) LAT4]) : rfn Try.prog view_Read_e 6 18446744073709551616 (Ev.get view_Read_h) 8 view_Read_s J x = view_Read_m0 (fun t34 m => J 6 [] (view_Read_k1 t34 m)) x.1 := by kernel_rfl
theorem view_Read_g5 (w2 : St → Option (As [.sl LAT6, .bool])) (h : List Int) (shown : Int) (t55 : Int) (t56 : Int) (t91 : Bool) (l : List (Int × Int × Int)) (x : Int × Int × Int) : jfn Try.prog view_Read_e 6 18446744073709551616 (Ev.get view_Read_h) 8 view_Read_s 1045710 [w2] (view_Read_k5 h shown t55 t56 t91 l x) = view_Read_K5 (fun h shown before t55 t56 l => w2 (view_Read_k2 h shown before t55 t56 l)) h shown t55 t56 t91 l x := by
  rw [pfn_eq (by decide)]
  rw [view_Read_c5]
  rfl
theorem view_Read_g3 (w2 : St → Option (As [.sl LAT6, .bool])) (h : List Int) (shown : Int) (before : Int) (t55 : Int) (t56 : Int) (l : List (Int × Int × Int)) (x : Int × Int × Int) : jfn Try.prog view_Read_e 6 18446744073709551616 (Ev.get view_Read_h) 8 view_Read_s 261427 [w2] (view_Read_k3 h shown before t55 t56 l x) = view_Read_K3 (fun h shown before t55 t56 l => w2 (view_Read_k2 h shown before t55 t56 l)) h shown before t55 t56 l x := by
  rw [pfn_eq (by decide)]
  have e5 : (fun h shown t55 t56 t91 l x => (jfn Try.prog view_Read_e 6 18446744073709551616 (Ev.get view_Read_h) 8 view_Read_s) 1045710 [w2] (view_Read_k5 h shown t55 t56 t91 l x)) = view_Read_K5 (fun h shown before t55 t56 l => w2 (view_Read_k2 h shown before t55 t56 l)) := funext fun h => funext fun shown => funext fun t55 => funext fun t56 => funext fun t91 => funext fun l => funext fun x => view_Read_g5 w2 h shown t55 t56 t91 l x
  rw [view_Read_c3, e5]
  rfl
theorem view_Read_g7 (l : List (Int × Int × Int)) : jfn Try.prog view_Read_e 6 18446744073709551616 (Ev.get view_Read_h) 8 view_Read_s 511 [] (view_Read_k7 l) = view_Read_K7 l := by
  rw [pfn_eq (by decide)]
  rw [view_Read_c7]
  rfl
theorem view_Read_g6 (t103 : List Int) (t104 : Int) (t105 : Int) (l : List (Int × Int × Int)) : jfn Try.prog view_Read_e 6 18446744073709551616 (Ev.get view_Read_h) 8 view_Read_s 4090 [] (view_Read_k6 t103 t104 t105 l) = view_Read_K6 t103 t104 t105 l := by
  rw [pfn_eq (by decide)]
  rw [pfn_loop (by kernel_rfl)]
  refine loopF_sim (σ := (List Int) × (Int) × (Int) × (List (Int × Int × Int))) (mk := fun s => view_Read_k6 s.1 s.2.1 s.2.2.1 s.2.2.2) (fun w6 s => ?_) 18446744073709551616 (t103, t104, t105, l)
  have e7 : (fun l => (jfn Try.prog view_Read_e 6 18446744073709551616 (Ev.get view_Read_h) 8 view_Read_s) 511 [] (view_Read_k7 l)) = view_Read_K7 := funext fun l => view_Read_g7 l
  refine (view_Read_c6 _ w6 s.1 s.2.1 s.2.2.1 s.2.2.2).trans ?_
  rw [e7]
theorem view_Read_g4 (h : List Int) (shown : Int) (l : List (Int × Int × Int)) : jfn Try.prog view_Read_e 6 18446744073709551616 (Ev.get view_Read_h) 8 view_Read_s 255 [] (view_Read_k4 h shown l) = view_Read_K4 h shown l := by
  rw [pfn_eq (by decide)]
  have e6 : (fun t103 t104 t105 l => (jfn Try.prog view_Read_e 6 18446744073709551616 (Ev.get view_Read_h) 8 view_Read_s) 4090 [] (view_Read_k6 t103 t104 t105 l)) = view_Read_K6 := funext fun t103 => funext fun t104 => funext fun t105 => funext fun l => view_Read_g6 t103 t104 t105 l
  rw [view_Read_c4, e6]
  rfl
theorem view_Read_g2 (h : List Int) (shown : Int) (before : Int) (t55 : Int) (t56 : Int) (l : List (Int × Int × Int)) : jfn Try.prog view_Read_e 6 18446744073709551616 (Ev.get view_Read_h) 8 view_Read_s 2042 [] (view_Read_k2 h shown before t55 t56 l) = view_Read_K2 h shown before t55 t56 l := by
  rw [pfn_eq (by decide)]
  rw [pfn_loop (by kernel_rfl)]
  refine loopF_sim (σ := (List Int) × (Int) × (Int) × (Int) × (Int) × (List (Int × Int × Int))) (mk := fun s => view_Read_k2 s.1 s.2.1 s.2.2.1 s.2.2.2.1 s.2.2.2.2.1 s.2.2.2.2.2) (fun w2 s => ?_) 18446744073709551616 (h, shown, before, t55, t56, l)
  have e3 : (fun h shown before t55 t56 l x => (jfn Try.prog view_Read_e 6 18446744073709551616 (Ev.get view_Read_h) 8 view_Read_s) 261427 [w2] (view_Read_k3 h shown before t55 t56 l x)) = view_Read_K3 (fun h shown before t55 t56 l => w2 (view_Read_k2 h shown before t55 t56 l)) := funext fun h => funext fun shown => funext fun before => funext fun t55 => funext fun t56 => funext fun l => funext fun x => view_Read_g3 w2 h shown before t55 t56 l x
  have e4 : (fun h shown l => (jfn Try.prog view_Read_e 6 18446744073709551616 (Ev.get view_Read_h) 8 view_Read_s) 255 [] (view_Read_k4 h shown l)) = view_Read_K4 := funext fun h => funext fun shown => funext fun l => view_Read_g4 h shown l
  refine (view_Read_c2 _ w2 s.1 s.2.1 s.2.2.1 s.2.2.2.1 s.2.2.2.2.1 s.2.2.2.2.2).trans ?_
  rw [e3, e4]
theorem view_Read_g1 (t34 : Bool) (m : List Bool × List Bool × List Int × List Int) : jfn Try.prog view_Read_e 6 18446744073709551616 (Ev.get view_Read_h) 8 view_Read_s 6 [] (view_Read_k1 t34 m) = view_Read_K1 t34 m := by
  rw [pfn_eq (by decide)]
  have e2 : (fun h shown before t55 t56 l => (jfn Try.prog view_Read_e 6 18446744073709551616 (Ev.get view_Read_h) 8 view_Read_s) 2042 [] (view_Read_k2 h shown before t55 t56 l)) = view_Read_K2 := funext fun h => funext fun shown => funext fun before => funext fun t55 => funext fun t56 => funext fun l => view_Read_g2 h shown before t55 t56 l
  rw [view_Read_c1, e2]
  rfl
theorem view_Read_t (x : As [.pr (.sl .bool) LAT4]) : evT Try.prog view_Read_e 6 18446744073709551616 (Ev.get view_Read_h) 8 view_Read_s x = view_Read x := by
  have e1 : (fun t34 m => (jfn Try.prog view_Read_e 6 18446744073709551616 (Ev.get view_Read_h) 8 view_Read_s) 6 [] (view_Read_k1 t34 m)) = view_Read_K1 := funext fun t34 => funext fun m => view_Read_g1 t34 m
  rw [rfn_eq, view_Read_c0, e1]
  rfl
theorem view_Read_ok : CtOk Try.prog (fun _ => True) 8 ⟨view_Read_s, view_Read⟩ := ct_of_ev (env_cons words_Wide_ok (env_cons view_possible_ok env_nil)) view_Read_t
/-! ledger_Right -/
@[reducible] def ledger_Right_s : Sh := ⟨[.d (.sl LAT5)], [], [.sl LAT5], [.d (.bool)], [], 0, [.bool]⟩
def ledger_Right_e : Env := (cts [])
def ledger_Right_h : List (Nat × Hint) := [(58, ⟨[], [3, 6, 7, 8, 17, 18, 19, 22, 23, 24, 25, 31, 32, 33]⟩), (14950, ⟨[], [5, 6, 7, 8, 34]⟩), (7474, ⟨[], [5, 6, 7, 8, 26]⟩)]
def ledger_Right_k1 (last : Int) (t6 : List LAT7) (t7 : Int) (t8 : Int) : St := { fr := [(3, .d (.int .u32) last), (6, .d (.sl LAT5) t6), (7, .d (.int .i64) t7), (8, .d (.int .i64) t8)], nt := 38, up := [], own := [], nx := 0, log := [], ln := 0 }
def ledger_Right_k2 (t6 : List LAT7) (t7 : Int) (t8 : Int) (t26 : Bool) (j : Int × Int × List Int × Int) : St := { fr := [(5, .pb 0 0), (6, .d (.sl LAT5) t6), (7, .d (.int .i64) t7), (8, .d (.int .i64) t8), (26, .d .bool t26)], nt := 38, up := [], own := [(0, .box 48 [.d (.int .u32) j.1, .d (.int .u8) j.2.1, .d (.sl (.int .u8)) j.2.2.1, .d (.int .u8) j.2.2.2])], nx := 1, log := [], ln := 0 }
def ledger_Right_k3 (t6 : List LAT7) (t7 : Int) (t8 : Int) (t34 : Bool) (j : Int × Int × List Int × Int) : St := { fr := [(5, .pb 0 0), (6, .d (.sl LAT5) t6), (7, .d (.int .i64) t7), (8, .d (.int .i64) t8), (34, .d .bool t34)], nt := 38, up := [], own := [(0, .box 48 [.d (.int .u32) j.1, .d (.int .u8) j.2.1, .d (.sl (.int .u8)) j.2.2.1, .d (.int .u8) j.2.2.2])], nx := 1, log := [], ln := 0 }
def ledger_Right_m1 (j2 : List LAT7 → Int → Int → Bool → Int × Int × List Int × Int → Option (As [.bool])) (self1 : Int → List LAT7 → Int → Int → Option (As [.bool])) (last : Int) (t6 : List LAT7) (t7 : Int) (t8 : Int) : Option (As [.bool]) :=
  if lt t8 t7 = true then Option.bind (at? t6 t8) fun (y : Int × Int × List Int × Int) => if le y.1 last = true then j2 t6 t7 t8 true y else if eqi y.2.1 0 = true then j2 t6 t7 t8 true y else j2 t6 t7 t8 (gt (Int.ofNat (List.length y.2.2.1)) 8192) y else some (true, ())
def ledger_Right_m2 (j3 : List LAT7 → Int → Int → Bool → Int × Int × List Int × Int → Option (As [.bool])) (self1 : Int → List LAT7 → Int → Int → Option (As [.bool])) (t6 : List LAT7) (t7 : Int) (t8 : Int) (t26 : Bool) (j : Int × Int × List Int × Int) : Option (As [.bool]) :=
  if t26 = true then some (false, ()) else if lt j.2.2.2 1 = true then j3 t6 t7 t8 true j else j3 t6 t7 t8 (gt j.2.2.2 5) j
def ledger_Right_m3 (self1 : Int → List LAT7 → Int → Int → Option (As [.bool])) (t6 : List LAT7) (t7 : Int) (t8 : Int) (t34 : Bool) (j : Int × Int × List Int × Int) : Option (As [.bool]) :=
  if t34 = true then some (false, ()) else self1 j.1 t6 t7 (add .i64 t8 1)
def ledger_Right_m0 (j1 : Int → List LAT7 → Int → Int → Option (As [.bool])) (l : List LAT7) : Option (As [.bool]) :=
  j1 0 l (Int.ofNat (List.length l)) 0
def ledger_Right_K3 (u1 : Int → List LAT7 → Int → Int → Option (As [.bool])) (t6 : List LAT7) (t7 : Int) (t8 : Int) (t34 : Bool) (j : Int × Int × List Int × Int) : Option (As [.bool]) := ledger_Right_m3 u1 t6 t7 t8 t34 j
def ledger_Right_K2 (u1 : Int → List LAT7 → Int → Int → Option (As [.bool])) (t6 : List LAT7) (t7 : Int) (t8 : Int) (t26 : Bool) (j : Int × Int × List Int × Int) : Option (As [.bool]) := ledger_Right_m2 (ledger_Right_K3 u1) u1 t6 t7 t8 t26 j
def ledger_Right_K1 (last : Int) (t6 : List LAT7) (t7 : Int) (t8 : Int) : Option (As [.bool]) :=
  loopF (fun (self : (Int) × (List LAT7) × (Int) × (Int) → Option (As [.bool])) (s : (Int) × (List LAT7) × (Int) × (Int)) => ledger_Right_m1 (ledger_Right_K2 (fun last t6 t7 t8 => self (last, t6, t7, t8))) (fun last t6 t7 t8 => self (last, t6, t7, t8)) s.1 s.2.1 s.2.2.1 s.2.2.2) 18446744073709551616 (last, t6, t7, t8)
def ledger_Right (x : As [.sl LAT5]) : Option (As [.bool]) := ledger_Right_m0 ledger_Right_K1 x.1
theorem ledger_Right_c3 (J : Orc (As [.bool])) (w1 : St → Option (As [.bool])) (t6 : List LAT7) (t7 : Int) (t8 : Int) (t34 : Bool) (j : Int × Int × List Int × Int) : pfn Try.prog ledger_Right_e 6 18446744073709551616 (Ev.get ledger_Right_h) 10 ledger_Right_s J 14950 [w1] (ledger_Right_k3 t6 t7 t8 t34 j) = ledger_Right_m3 (fun last t6 t7 t8 => w1 (ledger_Right_k1 last t6 t7 t8)) t6 t7 t8 t34 j := by kernel_rfl
theorem ledger_Right_c2 (J : Orc (As [.bool])) (w1 : St → Option (As [.bool])) (t6 : List LAT7) (t7 : Int) (t8 : Int) (t26 : Bool) (j : Int × Int × List Int × Int) : pfn Try.prog ledger_Right_e 6 18446744073709551616 (Ev.get ledger_Right_h) 10 ledger_Right_s J 7474 [w1] (ledger_Right_k2 t6 t7 t8 t26 j) = ledger_Right_m2 (fun t6 t7 t8 t34 j => J 14950 [w1] (ledger_Right_k3 t6 t7 t8 t34 j)) (fun last t6 t7 t8 => w1 (ledger_Right_k1 last t6 t7 t8)) t6 t7 t8 t26 j := by kernel_rfl
theorem ledger_Right_c1 (J : Orc (As [.bool])) (w1 : St → Option (As [.bool])) (last : Int) (t6 : List LAT7) (t7 : Int) (t8 : Int) : pfn Try.prog ledger_Right_e 6 18446744073709551616 (Ev.get ledger_Right_h) 10 ledger_Right_s J 58 [w1] (ledger_Right_k1 last t6 t7 t8) = ledger_Right_m1 (fun t6 t7 t8 t26 j => J 7474 [w1] (ledger_Right_k2 t6 t7 t8 t26 j)) (fun last t6 t7 t8 => w1 (ledger_Right_k1 last t6 t7 t8)) last t6 t7 t8 := by kernel_rfl
theorem ledger_Right_c0 (J : Orc (As [.bool])) (x : As [.sl LAT5]) : rfn Try.prog ledger_Right_e 6 18446744073709551616 (Ev.get ledger_Right_h) 10 ledger_Right_s J x = ledger_Right_m0 (fun last t6 t7 t8 => J 58 [] (ledger_Right_k1 last t6 t7 t8)) x.1 := by kernel_rfl
theorem ledger_Right_g3 (w1 : St → Option (As [.bool])) (t6 : List LAT7) (t7 : Int) (t8 : Int) (t34 : Bool) (j : Int × Int × List Int × Int) : jfn Try.prog ledger_Right_e 6 18446744073709551616 (Ev.get ledger_Right_h) 10 ledger_Right_s 14950 [w1] (ledger_Right_k3 t6 t7 t8 t34 j) = ledger_Right_K3 (fun last t6 t7 t8 => w1 (ledger_Right_k1 last t6 t7 t8)) t6 t7 t8 t34 j := by
  rw [pfn_eq (by decide)]
  rw [ledger_Right_c3]
  rfl
theorem ledger_Right_g2 (w1 : St → Option (As [.bool])) (t6 : List LAT7) (t7 : Int) (t8 : Int) (t26 : Bool) (j : Int × Int × List Int × Int) : jfn Try.prog ledger_Right_e 6 18446744073709551616 (Ev.get ledger_Right_h) 10 ledger_Right_s 7474 [w1] (ledger_Right_k2 t6 t7 t8 t26 j) = ledger_Right_K2 (fun last t6 t7 t8 => w1 (ledger_Right_k1 last t6 t7 t8)) t6 t7 t8 t26 j := by
  rw [pfn_eq (by decide)]
  have e3 : (fun t6 t7 t8 t34 j => (jfn Try.prog ledger_Right_e 6 18446744073709551616 (Ev.get ledger_Right_h) 10 ledger_Right_s) 14950 [w1] (ledger_Right_k3 t6 t7 t8 t34 j)) = ledger_Right_K3 (fun last t6 t7 t8 => w1 (ledger_Right_k1 last t6 t7 t8)) := funext fun t6 => funext fun t7 => funext fun t8 => funext fun t34 => funext fun j => ledger_Right_g3 w1 t6 t7 t8 t34 j
  rw [ledger_Right_c2, e3]
  rfl
theorem ledger_Right_g1 (last : Int) (t6 : List LAT7) (t7 : Int) (t8 : Int) : jfn Try.prog ledger_Right_e 6 18446744073709551616 (Ev.get ledger_Right_h) 10 ledger_Right_s 58 [] (ledger_Right_k1 last t6 t7 t8) = ledger_Right_K1 last t6 t7 t8 := by
  rw [pfn_eq (by decide)]
  rw [pfn_loop (by kernel_rfl)]
  refine loopF_sim (σ := (Int) × (List LAT7) × (Int) × (Int)) (mk := fun s => ledger_Right_k1 s.1 s.2.1 s.2.2.1 s.2.2.2) (fun w1 s => ?_) 18446744073709551616 (last, t6, t7, t8)
  have e2 : (fun t6 t7 t8 t26 j => (jfn Try.prog ledger_Right_e 6 18446744073709551616 (Ev.get ledger_Right_h) 10 ledger_Right_s) 7474 [w1] (ledger_Right_k2 t6 t7 t8 t26 j)) = ledger_Right_K2 (fun last t6 t7 t8 => w1 (ledger_Right_k1 last t6 t7 t8)) := funext fun t6 => funext fun t7 => funext fun t8 => funext fun t26 => funext fun j => ledger_Right_g2 w1 t6 t7 t8 t26 j
  refine (ledger_Right_c1 _ w1 s.1 s.2.1 s.2.2.1 s.2.2.2).trans ?_
  rw [e2]
theorem ledger_Right_t (x : As [.sl LAT5]) : evT Try.prog ledger_Right_e 6 18446744073709551616 (Ev.get ledger_Right_h) 10 ledger_Right_s x = ledger_Right x := by
  have e1 : (fun last t6 t7 t8 => (jfn Try.prog ledger_Right_e 6 18446744073709551616 (Ev.get ledger_Right_h) 10 ledger_Right_s) 58 [] (ledger_Right_k1 last t6 t7 t8)) = ledger_Right_K1 := funext fun last => funext fun t6 => funext fun t7 => funext fun t8 => ledger_Right_g1 last t6 t7 t8
  rw [rfn_eq, ledger_Right_c0, e1]
  rfl
theorem ledger_Right_ok : CtOk Try.prog (fun _ => True) 10 ⟨ledger_Right_s, ledger_Right⟩ := ct_of_ev env_nil ledger_Right_t
/-! ledger_at_z1 -/
@[reducible] def ledger_at_z1_s : Sh := ⟨[.d LAT5, .d (.int .u32)], [], [.pr (.int .u32) LAT10, .int .u32], [.d (.int .i64)], [], 0, [.int .i64]⟩
def ledger_at_z1_e : Env := (cts [])
def ledger_at_z1_h : List (Nat × Hint) := []
def ledger_at_z1_m0 (j : Int × Int × List Int × Int) (tx : Int) : Option (As [.int .i64]) :=
  if lt j.1 tx = true then some (-1, ()) else if gt j.1 tx = true then some (1, ()) else some (0, ())
def ledger_at_z1 (x : As [.pr (.int .u32) LAT10, .int .u32]) : Option (As [.int .i64]) := ledger_at_z1_m0 x.1 x.2.1
theorem ledger_at_z1_c0 (J : Orc (As [.int .i64])) (x : As [.pr (.int .u32) LAT10, .int .u32]) : rfn Try.prog ledger_at_z1_e 6 18446744073709551616 (Ev.get ledger_at_z1_h) 51 ledger_at_z1_s J x = ledger_at_z1_m0 x.1 x.2.1 := by kernel_rfl
theorem ledger_at_z1_t (x : As [.pr (.int .u32) LAT10, .int .u32]) : evT Try.prog ledger_at_z1_e 6 18446744073709551616 (Ev.get ledger_at_z1_h) 51 ledger_at_z1_s x = ledger_at_z1 x := by
  rw [rfn_eq, ledger_at_z1_c0]
  rfl
theorem ledger_at_z1_ok : CtOk Try.prog (fun _ => True) 51 ⟨ledger_at_z1_s, ledger_at_z1⟩ := ct_of_ev env_nil ledger_at_z1_t
/-! slices_BinarySearchFunc_Guint32 -/
@[reducible] def slices_BinarySearchFunc_Guint32_s : Sh := ⟨[.d (.sl LAT5), .d (.int .u32), .fn (.func 51) [] []], [], [.sl LAT5, .int .u32], [.d (.int .i64), .d (.bool)], [], 0, [.int .i64, .bool]⟩
def slices_BinarySearchFunc_Guint32_e : Env := (cts [(51, (⟨ledger_at_z1_s, ledger_at_z1⟩ : Ct))])
def slices_BinarySearchFunc_Guint32_h : List (Nat × Hint) := [(15, ⟨[], [0, 1, 2, 8, 9, 40, 41, 42, 43, 44, 45, 46, 47]⟩), (60, ⟨[], [0, 1, 2, 8, 9, 10, 40, 41, 42, 43, 44, 45, 46, 47]⟩)]
def slices_BinarySearchFunc_Guint32_k1 (x : List LAT7) (target : Int) (n : Int) (i : Int) (j : Int) : St := { fr := [(0, .d (.sl LAT5) x), (1, .d (.int .u32) target), (2, .fn (.func 51) [] []), (8, .d (.int .i64) n), (9, .d (.int .i64) i), (10, .d (.int .i64) j)], nt := 49, up := [], own := [], nx := 0, log := [], ln := 0 }
def slices_BinarySearchFunc_Guint32_k2 (x : List LAT7) (target : Int) (n : Int) (i : Int) : St := { fr := [(0, .d (.sl LAT5) x), (1, .d (.int .u32) target), (2, .fn (.func 51) [] []), (8, .d (.int .i64) n), (9, .d (.int .i64) i)], nt := 49, up := [], own := [], nx := 0, log := [], ln := 0 }
def slices_BinarySearchFunc_Guint32_m1 (j2 : List LAT7 → Int → Int → Int → Option (As [.int .i64, .bool])) (self1 : List LAT7 → Int → Int → Int → Int → Option (As [.int .i64, .bool])) (x : List LAT7) (target : Int) (n : Int) (i : Int) (j : Int) : Option (As [.int .i64, .bool]) :=
  if lt i j = true then Option.bind (at? x (cvt .i64 (Sx.shr .u64 (cvt .u64 (add .i64 i j)) 1))) fun (y : Int × Int × List Int × Int) => Option.bind (ledger_at_z1 (y, target, ())) fun (y : Int × Unit) => if lt y.1 0 = true then self1 x target n (add .i64 (cvt .i64 (Sx.shr .u64 (cvt .u64 (add .i64 i j)) 1)) 1) j else self1 x target n i (cvt .i64 (Sx.shr .u64 (cvt .u64 (add .i64 i j)) 1)) else j2 x target n i
def slices_BinarySearchFunc_Guint32_m2 (x : List LAT7) (target : Int) (n : Int) (i : Int) : Option (As [.int .i64, .bool]) :=
  if lt i n = true then Option.bind (at? x i) fun (y : Int × Int × List Int × Int) => Option.bind (ledger_at_z1 (y, target, ())) fun (y : Int × Unit) => some (i, eqi y.1 0, ()) else some (i, false, ())
def slices_BinarySearchFunc_Guint32_m0 (j1 : List LAT7 → Int → Int → Int → Int → Option (As [.int .i64, .bool])) (x : List LAT7) (target : Int) : Option (As [.int .i64, .bool]) :=
  j1 x target (Int.ofNat (List.length x)) 0 (Int.ofNat (List.length x))
def slices_BinarySearchFunc_Guint32_K2 (x : List LAT7) (target : Int) (n : Int) (i : Int) : Option (As [.int .i64, .bool]) := slices_BinarySearchFunc_Guint32_m2 x target n i
def slices_BinarySearchFunc_Guint32_K1 (x : List LAT7) (target : Int) (n : Int) (i : Int) (j : Int) : Option (As [.int .i64, .bool]) :=
  loopF (fun (self : (List LAT7) × (Int) × (Int) × (Int) × (Int) → Option (As [.int .i64, .bool])) (s : (List LAT7) × (Int) × (Int) × (Int) × (Int)) => slices_BinarySearchFunc_Guint32_m1 (slices_BinarySearchFunc_Guint32_K2) (fun x target n i j => self (x, target, n, i, j)) s.1 s.2.1 s.2.2.1 s.2.2.2.1 s.2.2.2.2) 18446744073709551616 (x, target, n, i, j)
def slices_BinarySearchFunc_Guint32 (x : As [.sl LAT5, .int .u32]) : Option (As [.int .i64, .bool]) := slices_BinarySearchFunc_Guint32_m0 slices_BinarySearchFunc_Guint32_K1 x.1 x.2.1
theorem slices_BinarySearchFunc_Guint32_c2 (J : Orc (As [.int .i64, .bool])) (x : List LAT7) (target : Int) (n : Int) (i : Int) : pfn Try.prog slices_BinarySearchFunc_Guint32_e 6 18446744073709551616 (Ev.get slices_BinarySearchFunc_Guint32_h) 50 slices_BinarySearchFunc_Guint32_s J 15 [] (slices_BinarySearchFunc_Guint32_k2 x target n i) = slices_BinarySearchFunc_Guint32_m2 x target n i := by kernel_rfl
theorem slices_BinarySearchFunc_Guint32_c1 (J : Orc (As [.int .i64, .bool])) (w1 : St → Option (As [.int .i64, .bool])) (x : List LAT7) (target : Int) (n : Int) (i : Int) (j : Int) : pfn Try.prog slices_BinarySearchFunc_Guint32_e 6 18446744073709551616 (Ev.get slices_BinarySearchFunc_Guint32_h) 50 slices_BinarySearchFunc_Guint32_s J 60 [w1] (slices_BinarySearchFunc_Guint32_k1 x target n i j) = slices_BinarySearchFunc_Guint32_m1 (fun x target n i => J 15 [] (slices_BinarySearchFunc_Guint32_k2 x target n i)) (fun x target n i j => w1 (slices_BinarySearchFunc_Guint32_k1 x target n i j)) x target n i j := by kernel_rfl
theorem slices_BinarySearchFunc_Guint32_c0 (J : Orc (As [.int .i64, .bool])) (x : As [.sl LAT5, .int .u32]) : rfn Try.prog slices_BinarySearchFunc_Guint32_e 6 18446744073709551616 (Ev.get slices_BinarySearchFunc_Guint32_h) 50 slices_BinarySearchFunc_Guint32_s J x = slices_BinarySearchFunc_Guint32_m0 (fun x target n i j => J 60 [] (slices_BinarySearchFunc_Guint32_k1 x target n i j)) x.1 x.2.1 := by kernel_rfl
theorem slices_BinarySearchFunc_Guint32_g2 (x : List LAT7) (target : Int) (n : Int) (i : Int) : jfn Try.prog slices_BinarySearchFunc_Guint32_e 6 18446744073709551616 (Ev.get slices_BinarySearchFunc_Guint32_h) 50 slices_BinarySearchFunc_Guint32_s 15 [] (slices_BinarySearchFunc_Guint32_k2 x target n i) = slices_BinarySearchFunc_Guint32_K2 x target n i := by
  rw [pfn_eq (by decide)]
  rw [slices_BinarySearchFunc_Guint32_c2]
  rfl
theorem slices_BinarySearchFunc_Guint32_g1 (x : List LAT7) (target : Int) (n : Int) (i : Int) (j : Int) : jfn Try.prog slices_BinarySearchFunc_Guint32_e 6 18446744073709551616 (Ev.get slices_BinarySearchFunc_Guint32_h) 50 slices_BinarySearchFunc_Guint32_s 60 [] (slices_BinarySearchFunc_Guint32_k1 x target n i j) = slices_BinarySearchFunc_Guint32_K1 x target n i j := by
  rw [pfn_eq (by decide)]
  rw [pfn_loop (by kernel_rfl)]
  refine loopF_sim (σ := (List LAT7) × (Int) × (Int) × (Int) × (Int)) (mk := fun s => slices_BinarySearchFunc_Guint32_k1 s.1 s.2.1 s.2.2.1 s.2.2.2.1 s.2.2.2.2) (fun w1 s => ?_) 18446744073709551616 (x, target, n, i, j)
  have e2 : (fun x target n i => (jfn Try.prog slices_BinarySearchFunc_Guint32_e 6 18446744073709551616 (Ev.get slices_BinarySearchFunc_Guint32_h) 50 slices_BinarySearchFunc_Guint32_s) 15 [] (slices_BinarySearchFunc_Guint32_k2 x target n i)) = slices_BinarySearchFunc_Guint32_K2 := funext fun x => funext fun target => funext fun n => funext fun i => slices_BinarySearchFunc_Guint32_g2 x target n i
  refine (slices_BinarySearchFunc_Guint32_c1 _ w1 s.1 s.2.1 s.2.2.1 s.2.2.2.1 s.2.2.2.2).trans ?_
  rw [e2]
theorem slices_BinarySearchFunc_Guint32_t (x : As [.sl LAT5, .int .u32]) : evT Try.prog slices_BinarySearchFunc_Guint32_e 6 18446744073709551616 (Ev.get slices_BinarySearchFunc_Guint32_h) 50 slices_BinarySearchFunc_Guint32_s x = slices_BinarySearchFunc_Guint32 x := by
  have e1 : (fun x target n i j => (jfn Try.prog slices_BinarySearchFunc_Guint32_e 6 18446744073709551616 (Ev.get slices_BinarySearchFunc_Guint32_h) 50 slices_BinarySearchFunc_Guint32_s) 60 [] (slices_BinarySearchFunc_Guint32_k1 x target n i j)) = slices_BinarySearchFunc_Guint32_K1 := funext fun x => funext fun target => funext fun n => funext fun i => funext fun j => slices_BinarySearchFunc_Guint32_g1 x target n i j
  rw [rfn_eq, slices_BinarySearchFunc_Guint32_c0, e1]
  rfl
theorem slices_BinarySearchFunc_Guint32_ok : CtOk Try.prog (fun _ => True) 50 ⟨slices_BinarySearchFunc_Guint32_s, slices_BinarySearchFunc_Guint32⟩ := ct_of_ev (env_cons ledger_at_z1_ok env_nil) slices_BinarySearchFunc_Guint32_t
/-! ledger_at -/
@[reducible] def ledger_at_s : Sh := ⟨[.d (.sl LAT5), .d (.int .u32)], [], [.sl LAT5, .int .u32], [.d (.int .i64)], [], 0, [.int .i64]⟩
def ledger_at_e : Env := (cts [(50, (⟨slices_BinarySearchFunc_Guint32_s, slices_BinarySearchFunc_Guint32⟩ : Ct)), (51, (⟨ledger_at_z1_s, ledger_at_z1⟩ : Ct))])
def ledger_at_h : List (Nat × Hint) := []
def ledger_at_m0 (l : List LAT7) (tx : Int) : Option (As [.int .i64]) :=
  Option.bind (slices_BinarySearchFunc_Guint32 (l, tx, ())) fun (y : Int × Bool × Unit) => some (y.1, ())
def ledger_at (x : As [.sl LAT5, .int .u32]) : Option (As [.int .i64]) := ledger_at_m0 x.1 x.2.1
theorem ledger_at_c0 (J : Orc (As [.int .i64])) (x : As [.sl LAT5, .int .u32]) : rfn Try.prog ledger_at_e 6 18446744073709551616 (Ev.get ledger_at_h) 42 ledger_at_s J x = ledger_at_m0 x.1 x.2.1 := by kernel_rfl
theorem ledger_at_t (x : As [.sl LAT5, .int .u32]) : evT Try.prog ledger_at_e 6 18446744073709551616 (Ev.get ledger_at_h) 42 ledger_at_s x = ledger_at x := by
  rw [rfn_eq, ledger_at_c0]
  rfl
theorem ledger_at_ok : CtOk Try.prog (fun _ => True) 42 ⟨ledger_at_s, ledger_at⟩ := ct_of_ev (env_cons slices_BinarySearchFunc_Guint32_ok (env_cons ledger_at_z1_ok env_nil)) ledger_at_t
/-! ledger_Find -/
@[reducible] def ledger_Find_s : Sh := ⟨[.d (.sl LAT5), .d (.int .u32)], [], [.sl LAT5, .int .u32], [.d (.int .i64), .d (.bool)], [], 0, [.int .i64, .bool]⟩
def ledger_Find_e : Env := (cts [(42, (⟨ledger_at_s, ledger_at⟩ : Ct))])
def ledger_Find_h : List (Nat × Hint) := [(14, ⟨[], [6, 22]⟩)]
def ledger_Find_k1 (i : Int) (t22 : Bool) : St := { fr := [(6, .d (.int .i64) i), (22, .d .bool t22)], nt := 24, up := [], own := [], nx := 0, log := [], ln := 0 }
def ledger_Find_m1 (i : Int) (t22 : Bool) : Option (As [.int .i64, .bool]) :=
  if t22 = true then some (0, false, ()) else some (i, true, ())
def ledger_Find_m0 (j1 : Int → Bool → Option (As [.int .i64, .bool])) (l : List LAT7) (tx : Int) : Option (As [.int .i64, .bool]) :=
  Option.bind (ledger_at (l, tx, ())) fun (y : Int × Unit) => if ge y.1 (Int.ofNat (List.length l)) = true then j1 y.1 true else Option.bind (at? l y.1) fun (y_1 : Int × Int × List Int × Int) => j1 y.1 (nei y_1.1 tx)
def ledger_Find_K1 (i : Int) (t22 : Bool) : Option (As [.int .i64, .bool]) := ledger_Find_m1 i t22
def ledger_Find (x : As [.sl LAT5, .int .u32]) : Option (As [.int .i64, .bool]) := ledger_Find_m0 ledger_Find_K1 x.1 x.2.1
theorem ledger_Find_c1 (J : Orc (As [.int .i64, .bool])) (i : Int) (t22 : Bool) : pfn Try.prog ledger_Find_e 6 18446744073709551616 (Ev.get ledger_Find_h) 28 ledger_Find_s J 14 [] (ledger_Find_k1 i t22) = ledger_Find_m1 i t22 := by kernel_rfl
theorem ledger_Find_c0 (J : Orc (As [.int .i64, .bool])) (x : As [.sl LAT5, .int .u32]) : rfn Try.prog ledger_Find_e 6 18446744073709551616 (Ev.get ledger_Find_h) 28 ledger_Find_s J x = ledger_Find_m0 (fun i t22 => J 14 [] (ledger_Find_k1 i t22)) x.1 x.2.1 := by kernel_rfl
theorem ledger_Find_g1 (i : Int) (t22 : Bool) : jfn Try.prog ledger_Find_e 6 18446744073709551616 (Ev.get ledger_Find_h) 28 ledger_Find_s 14 [] (ledger_Find_k1 i t22) = ledger_Find_K1 i t22 := by
  rw [pfn_eq (by decide)]
  rw [ledger_Find_c1]
  rfl
theorem ledger_Find_t (x : As [.sl LAT5, .int .u32]) : evT Try.prog ledger_Find_e 6 18446744073709551616 (Ev.get ledger_Find_h) 28 ledger_Find_s x = ledger_Find x := by
  have e1 : (fun i t22 => (jfn Try.prog ledger_Find_e 6 18446744073709551616 (Ev.get ledger_Find_h) 28 ledger_Find_s) 14 [] (ledger_Find_k1 i t22)) = ledger_Find_K1 := funext fun i => funext fun t22 => ledger_Find_g1 i t22
  rw [rfn_eq, ledger_Find_c0, e1]
  rfl
theorem ledger_Find_ok : CtOk Try.prog (fun _ => True) 28 ⟨ledger_Find_s, ledger_Find⟩ := ct_of_ev (env_cons ledger_at_ok env_nil) ledger_Find_t
/-! status_Tell_z1 -/
@[reducible] def status_Tell_z1_s : Sh := ⟨[.d (.int .u32), .pb 0 0], [.box 23 [.d (.sl (.int .u32))]], [.int .u32, .sl (.int .u32)], [.d (.bool)], [(0, .box 23 [.d (.sl (.int .u32))])], 0, [.bool, .sl (.int .u32)]⟩
def status_Tell_z1_e : Env := (cts [(27, (⟨slices_Contains_Guint32_s, slices_Contains_Guint32⟩ : Ct))])
def status_Tell_z1_h : List (Nat × Hint) := []
def status_Tell_z1_m0 (tx : Int) (v : List Int) : Option (As [.bool, .sl (.int .u32)]) :=
  Option.bind (slices_Contains_Guint32 (v, tx, ())) fun (y : Bool × Unit) => some (y.1, v, ())
def status_Tell_z1 (x : As [.int .u32, .sl (.int .u32)]) : Option (As [.bool, .sl (.int .u32)]) := status_Tell_z1_m0 x.1 x.2.1
theorem status_Tell_z1_c0 (J : Orc (As [.bool, .sl (.int .u32)])) (x : As [.int .u32, .sl (.int .u32)]) : rfn Try.prog status_Tell_z1_e 6 18446744073709551616 (Ev.get status_Tell_z1_h) 30 status_Tell_z1_s J x = status_Tell_z1_m0 x.1 x.2.1 := by kernel_rfl
theorem status_Tell_z1_t (x : As [.int .u32, .sl (.int .u32)]) : evT Try.prog status_Tell_z1_e 6 18446744073709551616 (Ev.get status_Tell_z1_h) 30 status_Tell_z1_s x = status_Tell_z1 x := by
  rw [rfn_eq, status_Tell_z1_c0]
  rfl
theorem status_Tell_z1_ok : CtOk Try.prog (fun _ => True) 30 ⟨status_Tell_z1_s, status_Tell_z1⟩ := ct_of_ev (env_cons slices_Contains_Guint32_ok env_nil) status_Tell_z1_t
/-! status_report -/
@[reducible] def status_report_s : Sh := ⟨[.d LAT5, .fn (.func 30) [] [.pb 0 0]], [.box 23 [.d (.sl (.int .u32))]], [.pr (.int .u32) LAT10, .sl (.int .u32)], [.d (.str)], [(0, .box 23 [.d (.sl (.int .u32))])], 0, [.str, .sl (.int .u32)]⟩
def status_report_e : Env := (cts [(30, (⟨status_Tell_z1_s, status_Tell_z1⟩ : Ct))])
def status_report_h : List (Nat × Hint) := [(14, ⟨[], [2, 5, 15]⟩)]
def status_report_k1 (t15 : Bool) (o : List Int) (j : Int × Int × List Int × Int) (reports : List (List UInt8)) : St := { fr := [(2, .pb 1 0), (5, .pb 2 0), (15, .d .bool t15)], nt := 24, up := [], own := [(0, .box 23 [.d (.sl (.int .u32)) o]), (1, .box 48 [.d (.int .u32) j.1, .d (.int .u8) j.2.1, .d (.sl (.int .u8)) j.2.2.1, .d (.int .u8) j.2.2.2]), (2, .row .str 115 reports)], nx := 3, log := [], ln := 1 }
def status_report_m1 (t15 : Bool) (o : List Int) (j : Int × Int × List Int × Int) (reports : List (List UInt8)) : Option (As [.str, .sl (.int .u32)]) :=
  if t15 = true then some ([119, 97, 105, 116, 105, 110, 103], o, ()) else if ge (cvt .i64 j.2.2.2) 6 = true then some ([], o, ()) else need (lt j.2.2.2 6) (Option.bind (at? reports j.2.2.2) fun (x : List UInt8) => Option.bind (at? reports j.2.2.2) fun (y : List UInt8) => some (y, o, ()))
def status_report_m0 (j1 : Bool → List Int → Int × Int × List Int × Int → List (List UInt8) → Option (As [.str, .sl (.int .u32)])) (j : Int × Int × List Int × Int) (waits : List Int) : Option (As [.str, .sl (.int .u32)]) :=
  if eqi j.2.2.2 1 = true then Option.bind (status_Tell_z1 (j.1, waits, ())) fun (y : Bool × List Int × Unit) => j1 y.1 y.2.1 j [[], [114, 117, 110, 110, 105, 110, 103], [99, 111, 109, 109, 105, 116, 116, 101, 100], [97, 98, 111, 114, 116, 101, 100], [99, 111, 109, 109, 105, 116, 116, 101, 100, 32, 100, 111, 110, 101], [97, 98, 111, 114, 116, 101, 100, 32, 100, 111, 110, 101]] else j1 false waits j [[], [114, 117, 110, 110, 105, 110, 103], [99, 111, 109, 109, 105, 116, 116, 101, 100], [97, 98, 111, 114, 116, 101, 100], [99, 111, 109, 109, 105, 116, 116, 101, 100, 32, 100, 111, 110, 101], [97, 98, 111, 114, 116, 101, 100, 32, 100, 111, 110, 101]]
def status_report_K1 (t15 : Bool) (o : List Int) (j : Int × Int × List Int × Int) (reports : List (List UInt8)) : Option (As [.str, .sl (.int .u32)]) := status_report_m1 t15 o j reports
def status_report (x : As [.pr (.int .u32) LAT10, .sl (.int .u32)]) : Option (As [.str, .sl (.int .u32)]) := status_report_m0 status_report_K1 x.1 x.2.1
theorem status_report_c1 (J : Orc (As [.str, .sl (.int .u32)])) (t15 : Bool) (o : List Int) (j : Int × Int × List Int × Int) (reports : List (List UInt8)) : pfn Try.prog status_report_e 6 18446744073709551616 (Ev.get status_report_h) 29 status_report_s J 14 [] (status_report_k1 t15 o j reports) = status_report_m1 t15 o j reports := by kernel_rfl
theorem status_report_c0 (J : Orc (As [.str, .sl (.int .u32)])) (x : As [.pr (.int .u32) LAT10, .sl (.int .u32)]) : rfn Try.prog status_report_e 6 18446744073709551616 (Ev.get status_report_h) 29 status_report_s J x = status_report_m0 (fun t15 o j reports => J 14 [] (status_report_k1 t15 o j reports)) x.1 x.2.1 := by kernel_rfl
theorem status_report_g1 (t15 : Bool) (o : List Int) (j : Int × Int × List Int × Int) (reports : List (List UInt8)) : jfn Try.prog status_report_e 6 18446744073709551616 (Ev.get status_report_h) 29 status_report_s 14 [] (status_report_k1 t15 o j reports) = status_report_K1 t15 o j reports := by
  rw [pfn_eq (by decide)]
  rw [status_report_c1]
  rfl
theorem status_report_t (x : As [.pr (.int .u32) LAT10, .sl (.int .u32)]) : evT Try.prog status_report_e 6 18446744073709551616 (Ev.get status_report_h) 29 status_report_s x = status_report x := by
  have e1 : (fun t15 o j reports => (jfn Try.prog status_report_e 6 18446744073709551616 (Ev.get status_report_h) 29 status_report_s) 14 [] (status_report_k1 t15 o j reports)) = status_report_K1 := funext fun t15 => funext fun o => funext fun j => funext fun reports => status_report_g1 t15 o j reports
  rw [rfn_eq, status_report_c0, e1]
  rfl
theorem status_report_ok : CtOk Try.prog (fun _ => True) 29 ⟨status_report_s, status_report⟩ := ct_of_ev (env_cons status_Tell_z1_ok env_nil) status_report_t
/-! status_Tell -/
@[reducible] def status_Tell_s : Sh := ⟨[.d (.sl LAT5), .d (.sl (.int .u32)), .d (.int .u32)], [], [.sl LAT5, .sl (.int .u32), .int .u32], [.d (.str)], [], 0, [.str]⟩
def status_Tell_e : Env := (cts [(28, (⟨ledger_Find_s, ledger_Find⟩ : Ct)), (29, (⟨status_report_s, status_report⟩ : Ct)), (30, (⟨status_Tell_z1_s, status_Tell_z1⟩ : Ct))])
def status_Tell_h : List (Nat × Hint) := []
def status_Tell_m0 (l : List LAT7) (waits : List Int) (tx : Int) : Option (As [.str]) :=
  Option.bind (ledger_Find (l, tx, ())) fun (y : Int × Bool × Unit) => if (!y.2.1) = true then some ([117, 110, 107, 110, 111, 119, 110], ()) else Option.bind (at? l y.1) fun (y : Int × Int × List Int × Int) => Option.bind (status_report (y, waits, ())) fun (y : List UInt8 × List Int × Unit) => some (y.1, ())
def status_Tell (x : As [.sl LAT5, .sl (.int .u32), .int .u32]) : Option (As [.str]) := status_Tell_m0 x.1 x.2.1 x.2.2.1
theorem status_Tell_c0 (J : Orc (As [.str])) (x : As [.sl LAT5, .sl (.int .u32), .int .u32]) : rfn Try.prog status_Tell_e 6 18446744073709551616 (Ev.get status_Tell_h) 11 status_Tell_s J x = status_Tell_m0 x.1 x.2.1 x.2.2.1 := by kernel_rfl
theorem status_Tell_t (x : As [.sl LAT5, .sl (.int .u32), .int .u32]) : evT Try.prog status_Tell_e 6 18446744073709551616 (Ev.get status_Tell_h) 11 status_Tell_s x = status_Tell x := by
  rw [rfn_eq, status_Tell_c0]
  rfl
theorem status_Tell_ok : CtOk Try.prog (fun _ => True) 11 ⟨status_Tell_s, status_Tell⟩ := ct_of_ev (env_cons ledger_Find_ok (env_cons status_report_ok (env_cons status_Tell_z1_ok env_nil))) status_Tell_t
/-! law29_ViewAgrees -/
@[reducible] def law29_ViewAgrees_s : Sh := ⟨[.d (.sl LAT5), .d (.sl (.int .u32))], [], [.sl LAT5, .sl (.int .u32)], [.d (.bool)], [], 0, [.bool]⟩
def law29_ViewAgrees_e : Env := (cts [(6, (⟨law29_awake_s, law29_awake⟩ : Ct)), (8, (⟨view_Read_s, view_Read⟩ : Ct)), (9, (⟨view_Mem_s, view_Mem⟩ : Ct)), (10, (⟨ledger_Right_s, ledger_Right⟩ : Ct)), (11, (⟨status_Tell_s, status_Tell⟩ : Ct))])
def law29_ViewAgrees_h : List (Nat × Hint) := [(2042, ⟨[], [0, 1, 8, 9, 72, 73, 74, 94, 95, 96, 97, 98, 99, 102, 103, 104, 107, 108, 109, 112, 113, 114, 115, 116, 117, 118, 119, 120, 121, 122]⟩), (261427, ⟨[], [0, 1, 8, 9, 72, 73, 74, 123]⟩), (126, ⟨[], [0, 1, 6, 8, 70, 94, 95, 96, 97, 98, 99, 102, 103, 104, 107, 108, 109, 112, 113, 114, 115, 116, 117, 118, 119, 120, 121, 122]⟩), (6, ⟨[], [0, 1, 25, 41, 42, 43, 44, 47, 48, 49, 50, 53, 54, 55, 56, 57, 58, 59, 60, 63, 64, 65, 66, 67, 68, 69, 94, 95, 96, 97, 98, 99, 102, 103, 104, 107, 108, 109, 112, 113, 114, 115, 116, 117, 118, 119, 120, 121, 122]⟩)]
def law29_ViewAgrees_k1 (l : List LAT7) (waits : List Int) (t25 : Bool) : St := { fr := [(0, .d (.sl LAT5) l), (1, .d (.sl (.int .u32)) waits), (25, .d .bool t25)], nt := 126, up := [], own := [], nx := 0, log := [], ln := 0 }
def law29_ViewAgrees_k2 (l : List LAT7) (waits : List Int) (lines : List (Int × Int × Int)) (n : Int) (t70 : Bool) : St := { fr := [(0, .d (.sl LAT5) l), (1, .d (.sl (.int .u32)) waits), (6, .d (.sl LAT6) lines), (8, .d (.int .i64) n), (70, .d .bool t70)], nt := 126, up := [], own := [], nx := 0, log := [], ln := 0 }
def law29_ViewAgrees_k3 (l : List LAT7) (waits : List Int) (n : Int) (t72 : List (Int × Int × Int)) (t73 : Int) (t74 : Int) (words : List (List UInt8)) : St := { fr := [(0, .d (.sl LAT5) l), (1, .d (.sl (.int .u32)) waits), (8, .d (.int .i64) n), (9, .row 0), (72, .d (.sl LAT6) t72), (73, .d (.int .i64) t73), (74, .d (.int .i64) t74)], nt := 126, up := [], own := [(0, .row .str 9 words)], nx := 1, log := [], ln := 0 }
def law29_ViewAgrees_k4 (l : List LAT7) (waits : List Int) (n : Int) (t72 : List (Int × Int × Int)) (t73 : Int) (t74 : Int) (t123 : Bool) (words : List (List UInt8)) : St := { fr := [(0, .d (.sl LAT5) l), (1, .d (.sl (.int .u32)) waits), (8, .d (.int .i64) n), (9, .row 0), (72, .d (.sl LAT6) t72), (73, .d (.int .i64) t73), (74, .d (.int .i64) t74), (123, .d .bool t123)], nt := 126, up := [], own := [(0, .row .str 9 words)], nx := 1, log := [], ln := 0 }
def law29_ViewAgrees_m1 (j2 : List LAT7 → List Int → List (Int × Int × Int) → Int → Bool → Option (As [.bool])) (l : List LAT7) (waits : List Int) (t25 : Bool) : Option (As [.bool]) :=
  if t25 = true then Option.bind (law29_awake ()) fun (y : Bool × Unit) => some (y.1, ()) else Option.bind (view_Mem (l, waits, ())) fun (y : (List Bool × List Bool × List Int × List Int) × Unit) => Option.bind (view_Read (y.1, ())) fun (y_1 : List (Int × Int × Int) × Bool × Unit) => if (!y_1.2.1) = true then j2 l waits y_1.1 (if lt 12 (Int.ofNat (List.length l)) = true then 12 else Int.ofNat (List.length l)) true else if nei (Int.ofNat (List.length y_1.1)) (if lt 12 (Int.ofNat (List.length l)) = true then 12 else Int.ofNat (List.length l)) = true then j2 l waits y_1.1 (if lt 12 (Int.ofNat (List.length l)) = true then 12 else Int.ofNat (List.length l)) true else if nei (Int.ofNat (List.length y.1.2.2.1)) 50 = true then j2 l waits y_1.1 (if lt 12 (Int.ofNat (List.length l)) = true then 12 else Int.ofNat (List.length l)) true else Option.bind (at? y.1.2.2.1 0) fun (y_2 : Int) => if nei (cvt .i64 y_2) (Int.ofNat (List.length l)) = true then j2 l waits y_1.1 (if lt 12 (Int.ofNat (List.length l)) = true then 12 else Int.ofNat (List.length l)) true else Option.bind (at? y.1.2.2.1 1) fun (y : Int) => j2 l waits y_1.1 (if lt 12 (Int.ofNat (List.length l)) = true then 12 else Int.ofNat (List.length l)) (nei (cvt .i64 y) (if lt 12 (Int.ofNat (List.length l)) = true then 12 else Int.ofNat (List.length l)))
def law29_ViewAgrees_m2 (j3 : List LAT7 → List Int → Int → List (Int × Int × Int) → Int → Int → List (List UInt8) → Option (As [.bool])) (l : List LAT7) (waits : List Int) (lines : List (Int × Int × Int)) (n : Int) (t70 : Bool) : Option (As [.bool]) :=
  if t70 = true then some (false, ()) else j3 l waits n lines (Int.ofNat (List.length lines)) 0 [[], [114, 117, 110, 110, 105, 110, 103], [99, 111, 109, 109, 105, 116, 116, 101, 100], [97, 98, 111, 114, 116, 101, 100], [99, 111, 109, 109, 105, 116, 116, 101, 100, 32, 100, 111, 110, 101], [97, 98, 111, 114, 116, 101, 100, 32, 100, 111, 110, 101], [119, 97, 105, 116, 105, 110, 103]]
def law29_ViewAgrees_m3 (j4 : List LAT7 → List Int → Int → List (Int × Int × Int) → Int → Int → Bool → List (List UInt8) → Option (As [.bool])) (self3 : List LAT7 → List Int → Int → List (Int × Int × Int) → Int → Int → List (List UInt8) → Option (As [.bool])) (l : List LAT7) (waits : List Int) (n : Int) (t72 : List (Int × Int × Int)) (t73 : Int) (t74 : Int) (words : List (List UInt8)) : Option (As [.bool]) :=
  if lt t74 t73 = true then Option.bind (at? t72 t74) fun (y : Int × Int × Int) => Option.bind (at? l (add .i64 (Sx.sub .i64 (Int.ofNat (List.length l)) n) t74)) fun (y_1 : Int × Int × List Int × Int) => if nei y.1 y_1.1 = true then j4 l waits n t72 t73 t74 true words else if nei y.2.2 (cvt .u16 y_1.2.1) = true then j4 l waits n t72 t73 t74 true words else if lt y.2.1 1 = true then j4 l waits n t72 t73 t74 true words else if gt y.2.1 6 = true then j4 l waits n t72 t73 t74 true words else Option.bind (at? words y.2.1) fun (x : List UInt8) => Option.bind (at? words y.2.1) fun (y_2 : List UInt8) => Option.bind (status_Tell (l, waits, y.1, ())) fun (y : List UInt8 × Unit) => j4 l waits n t72 t73 t74 (nes y_2 y.1) words else Option.bind (law29_awake ()) fun (y : Bool × Unit) => some (y.1, ())
def law29_ViewAgrees_m4 (self3 : List LAT7 → List Int → Int → List (Int × Int × Int) → Int → Int → List (List UInt8) → Option (As [.bool])) (l : List LAT7) (waits : List Int) (n : Int) (t72 : List (Int × Int × Int)) (t73 : Int) (t74 : Int) (t123 : Bool) (words : List (List UInt8)) : Option (As [.bool]) :=
  if t123 = true then some (false, ()) else self3 l waits n t72 t73 (add .i64 t74 1) words
def law29_ViewAgrees_m0 (j1 : List LAT7 → List Int → Bool → Option (As [.bool])) (l : List LAT7) (waits : List Int) : Option (As [.bool]) :=
  if gt (Int.ofNat (List.length l)) 60 = true then j1 l waits true else if gt (Int.ofNat (List.length waits)) 60 = true then j1 l waits true else Option.bind (ledger_Right (l, ())) fun (y : Bool × Unit) => j1 l waits !y.1
def law29_ViewAgrees_K4 (u3 : List LAT7 → List Int → Int → List (Int × Int × Int) → Int → Int → List (List UInt8) → Option (As [.bool])) (l : List LAT7) (waits : List Int) (n : Int) (t72 : List (Int × Int × Int)) (t73 : Int) (t74 : Int) (t123 : Bool) (words : List (List UInt8)) : Option (As [.bool]) := law29_ViewAgrees_m4 u3 l waits n t72 t73 t74 t123 words
def law29_ViewAgrees_K3 (l : List LAT7) (waits : List Int) (n : Int) (t72 : List (Int × Int × Int)) (t73 : Int) (t74 : Int) (words : List (List UInt8)) : Option (As [.bool]) :=
  loopF (fun (self : (List LAT7) × (List Int) × (Int) × (List (Int × Int × Int)) × (Int) × (Int) × (List (List UInt8)) → Option (As [.bool])) (s : (List LAT7) × (List Int) × (Int) × (List (Int × Int × Int)) × (Int) × (Int) × (List (List UInt8))) => law29_ViewAgrees_m3 (law29_ViewAgrees_K4 (fun l waits n t72 t73 t74 words => self (l, waits, n, t72, t73, t74, words))) (fun l waits n t72 t73 t74 words => self (l, waits, n, t72, t73, t74, words)) s.1 s.2.1 s.2.2.1 s.2.2.2.1 s.2.2.2.2.1 s.2.2.2.2.2.1 s.2.2.2.2.2.2) 18446744073709551616 (l, waits, n, t72, t73, t74, words)
def law29_ViewAgrees_K2 (l : List LAT7) (waits : List Int) (lines : List (Int × Int × Int)) (n : Int) (t70 : Bool) : Option (As [.bool]) := law29_ViewAgrees_m2 (law29_ViewAgrees_K3) l waits lines n t70
def law29_ViewAgrees_K1 (l : List LAT7) (waits : List Int) (t25 : Bool) : Option (As [.bool]) := law29_ViewAgrees_m1 (law29_ViewAgrees_K2) l waits t25
def law29_ViewAgrees (x : As [.sl LAT5, .sl (.int .u32)]) : Option (As [.bool]) := law29_ViewAgrees_m0 law29_ViewAgrees_K1 x.1 x.2.1
theorem law29_ViewAgrees_c4 (J : Orc (As [.bool])) (w3 : St → Option (As [.bool])) (l : List LAT7) (waits : List Int) (n : Int) (t72 : List (Int × Int × Int)) (t73 : Int) (t74 : Int) (t123 : Bool) (words : List (List UInt8)) : pfn Try.prog law29_ViewAgrees_e 6 18446744073709551616 (Ev.get law29_ViewAgrees_h) 4 law29_ViewAgrees_s J 261427 [w3] (law29_ViewAgrees_k4 l waits n t72 t73 t74 t123 words) = law29_ViewAgrees_m4 (fun l waits n t72 t73 t74 words => w3 (law29_ViewAgrees_k3 l waits n t72 t73 t74 words)) l waits n t72 t73 t74 t123 words := by kernel_rfl
theorem law29_ViewAgrees_c3 (J : Orc (As [.bool])) (w3 : St → Option (As [.bool])) (l : List LAT7) (waits : List Int) (n : Int) (t72 : List (Int × Int × Int)) (t73 : Int) (t74 : Int) (words : List (List UInt8)) : pfn Try.prog law29_ViewAgrees_e 6 18446744073709551616 (Ev.get law29_ViewAgrees_h) 4 law29_ViewAgrees_s J 2042 [w3] (law29_ViewAgrees_k3 l waits n t72 t73 t74 words) = law29_ViewAgrees_m3 (fun l waits n t72 t73 t74 t123 words => J 261427 [w3] (law29_ViewAgrees_k4 l waits n t72 t73 t74 t123 words)) (fun l waits n t72 t73 t74 words => w3 (law29_ViewAgrees_k3 l waits n t72 t73 t74 words)) l waits n t72 t73 t74 words := by kernel_rfl
theorem law29_ViewAgrees_c2 (J : Orc (As [.bool])) (l : List LAT7) (waits : List Int) (lines : List (Int × Int × Int)) (n : Int) (t70 : Bool) : pfn Try.prog law29_ViewAgrees_e 6 18446744073709551616 (Ev.get law29_ViewAgrees_h) 4 law29_ViewAgrees_s J 126 [] (law29_ViewAgrees_k2 l waits lines n t70) = law29_ViewAgrees_m2 (fun l waits n t72 t73 t74 words => J 2042 [] (law29_ViewAgrees_k3 l waits n t72 t73 t74 words)) l waits lines n t70 := by kernel_rfl
theorem law29_ViewAgrees_c1 (J : Orc (As [.bool])) (l : List LAT7) (waits : List Int) (t25 : Bool) : pfn Try.prog law29_ViewAgrees_e 6 18446744073709551616 (Ev.get law29_ViewAgrees_h) 4 law29_ViewAgrees_s J 6 [] (law29_ViewAgrees_k1 l waits t25) = law29_ViewAgrees_m1 (fun l waits lines n t70 => J 126 [] (law29_ViewAgrees_k2 l waits lines n t70)) l waits t25 := by kernel_rfl
theorem law29_ViewAgrees_c0 (J : Orc (As [.bool])) (x : As [.sl LAT5, .sl (.int .u32)]) : rfn Try.prog law29_ViewAgrees_e 6 18446744073709551616 (Ev.get law29_ViewAgrees_h) 4 law29_ViewAgrees_s J x = law29_ViewAgrees_m0 (fun l waits t25 => J 6 [] (law29_ViewAgrees_k1 l waits t25)) x.1 x.2.1 := by kernel_rfl
theorem law29_ViewAgrees_g4 (w3 : St → Option (As [.bool])) (l : List LAT7) (waits : List Int) (n : Int) (t72 : List (Int × Int × Int)) (t73 : Int) (t74 : Int) (t123 : Bool) (words : List (List UInt8)) : jfn Try.prog law29_ViewAgrees_e 6 18446744073709551616 (Ev.get law29_ViewAgrees_h) 4 law29_ViewAgrees_s 261427 [w3] (law29_ViewAgrees_k4 l waits n t72 t73 t74 t123 words) = law29_ViewAgrees_K4 (fun l waits n t72 t73 t74 words => w3 (law29_ViewAgrees_k3 l waits n t72 t73 t74 words)) l waits n t72 t73 t74 t123 words := by
  rw [pfn_eq (by decide)]
  rw [law29_ViewAgrees_c4]
  rfl
theorem law29_ViewAgrees_g3 (l : List LAT7) (waits : List Int) (n : Int) (t72 : List (Int × Int × Int)) (t73 : Int) (t74 : Int) (words : List (List UInt8)) : jfn Try.prog law29_ViewAgrees_e 6 18446744073709551616 (Ev.get law29_ViewAgrees_h) 4 law29_ViewAgrees_s 2042 [] (law29_ViewAgrees_k3 l waits n t72 t73 t74 words) = law29_ViewAgrees_K3 l waits n t72 t73 t74 words := by
  rw [pfn_eq (by decide)]
  rw [pfn_loop (by kernel_rfl)]
  refine loopF_sim (σ := (List LAT7) × (List Int) × (Int) × (List (Int × Int × Int)) × (Int) × (Int) × (List (List UInt8))) (mk := fun s => law29_ViewAgrees_k3 s.1 s.2.1 s.2.2.1 s.2.2.2.1 s.2.2.2.2.1 s.2.2.2.2.2.1 s.2.2.2.2.2.2) (fun w3 s => ?_) 18446744073709551616 (l, waits, n, t72, t73, t74, words)
  have e4 : (fun l waits n t72 t73 t74 t123 words => (jfn Try.prog law29_ViewAgrees_e 6 18446744073709551616 (Ev.get law29_ViewAgrees_h) 4 law29_ViewAgrees_s) 261427 [w3] (law29_ViewAgrees_k4 l waits n t72 t73 t74 t123 words)) = law29_ViewAgrees_K4 (fun l waits n t72 t73 t74 words => w3 (law29_ViewAgrees_k3 l waits n t72 t73 t74 words)) := funext fun l => funext fun waits => funext fun n => funext fun t72 => funext fun t73 => funext fun t74 => funext fun t123 => funext fun words => law29_ViewAgrees_g4 w3 l waits n t72 t73 t74 t123 words
  refine (law29_ViewAgrees_c3 _ w3 s.1 s.2.1 s.2.2.1 s.2.2.2.1 s.2.2.2.2.1 s.2.2.2.2.2.1 s.2.2.2.2.2.2).trans ?_
  rw [e4]
theorem law29_ViewAgrees_g2 (l : List LAT7) (waits : List Int) (lines : List (Int × Int × Int)) (n : Int) (t70 : Bool) : jfn Try.prog law29_ViewAgrees_e 6 18446744073709551616 (Ev.get law29_ViewAgrees_h) 4 law29_ViewAgrees_s 126 [] (law29_ViewAgrees_k2 l waits lines n t70) = law29_ViewAgrees_K2 l waits lines n t70 := by
  rw [pfn_eq (by decide)]
  have e3 : (fun l waits n t72 t73 t74 words => (jfn Try.prog law29_ViewAgrees_e 6 18446744073709551616 (Ev.get law29_ViewAgrees_h) 4 law29_ViewAgrees_s) 2042 [] (law29_ViewAgrees_k3 l waits n t72 t73 t74 words)) = law29_ViewAgrees_K3 := funext fun l => funext fun waits => funext fun n => funext fun t72 => funext fun t73 => funext fun t74 => funext fun words => law29_ViewAgrees_g3 l waits n t72 t73 t74 words
  rw [law29_ViewAgrees_c2, e3]
  rfl
theorem law29_ViewAgrees_g1 (l : List LAT7) (waits : List Int) (t25 : Bool) : jfn Try.prog law29_ViewAgrees_e 6 18446744073709551616 (Ev.get law29_ViewAgrees_h) 4 law29_ViewAgrees_s 6 [] (law29_ViewAgrees_k1 l waits t25) = law29_ViewAgrees_K1 l waits t25 := by
  rw [pfn_eq (by decide)]
  have e2 : (fun l waits lines n t70 => (jfn Try.prog law29_ViewAgrees_e 6 18446744073709551616 (Ev.get law29_ViewAgrees_h) 4 law29_ViewAgrees_s) 126 [] (law29_ViewAgrees_k2 l waits lines n t70)) = law29_ViewAgrees_K2 := funext fun l => funext fun waits => funext fun lines => funext fun n => funext fun t70 => law29_ViewAgrees_g2 l waits lines n t70
  rw [law29_ViewAgrees_c1, e2]
  rfl
theorem law29_ViewAgrees_t (x : As [.sl LAT5, .sl (.int .u32)]) : evT Try.prog law29_ViewAgrees_e 6 18446744073709551616 (Ev.get law29_ViewAgrees_h) 4 law29_ViewAgrees_s x = law29_ViewAgrees x := by
  have e1 : (fun l waits t25 => (jfn Try.prog law29_ViewAgrees_e 6 18446744073709551616 (Ev.get law29_ViewAgrees_h) 4 law29_ViewAgrees_s) 6 [] (law29_ViewAgrees_k1 l waits t25)) = law29_ViewAgrees_K1 := funext fun l => funext fun waits => funext fun t25 => law29_ViewAgrees_g1 l waits t25
  rw [rfn_eq, law29_ViewAgrees_c0, e1]
  rfl
theorem law29_ViewAgrees_ok : CtOk Try.prog (fun _ => True) 4 ⟨law29_ViewAgrees_s, law29_ViewAgrees⟩ := ct_of_ev (env_cons law29_awake_ok (env_cons view_Read_ok (env_cons view_Mem_ok (env_cons ledger_Right_ok (env_cons status_Tell_ok env_nil))))) law29_ViewAgrees_t
end Go.Proofs.Lx

end

section
/- Plain laws: a kit of lemmas about what the models are made of. -/
namespace Pl
open Go Ev Sx
set_option maxRecDepth 10000

/-! ### loops -/
theorem loopF_succ {σ R : Type} (F : (σ → Option R) → σ → Option R) (n : Nat) (s : σ) : loopF F (n + 1) s = F (loopF F n) s := rfl
/-- a loop is G, where each step is, if the next ones are -/
theorem loopF_eq {σ R : Type} {F : (σ → Option R) → σ → Option R} {Inv : σ → Prop} {μ : σ → Nat} {G : σ → Option R}
    (step : ∀ self s, Inv s → (∀ s', Inv s' → μ s' < μ s → self s' = G s') → F self s = G s) : ∀ (n : Nat) (s : σ), Inv s → μ s < n → loopF F n s = G s
  | 0, s, _, h => by omega
  | n + 1, s, hs, h => by
    rw [loopF_succ]
    exact step _ s hs fun s' hs' hlt => loopF_eq step n s' hs' (by omega)
/-! ### numbers -/
theorem w64 {x : Int} (h1 : -9223372036854775808 ≤ x) (h2 : x ≤ 9223372036854775807) : IntKind.i64.wrap x = x := by
  simp only [IntKind.wrap, IntKind.signed, IntKind.bits]
  simp
  omega
theorem wu64 {x : Int} (h1 : 0 ≤ x) (h2 : x ≤ 18446744073709551615) : IntKind.u64.wrap x = x := by
  simp only [IntKind.wrap, IntKind.signed, IntKind.bits]
  simp
  omega
theorem add64 {a b : Int} (h1 : -9223372036854775808 ≤ a + b) (h2 : a + b ≤ 9223372036854775807) : add .i64 a b = a + b := w64 h1 h2
theorem sub64 {a b : Int} (h1 : -9223372036854775808 ≤ a - b) (h2 : a - b ≤ 9223372036854775807) : sub .i64 a b = a - b := w64 h1 h2
theorem mul64 {a b : Int} (h1 : -9223372036854775808 ≤ a * b) (h2 : a * b ≤ 9223372036854775807) : mul .i64 a b = a * b := w64 h1 h2
theorem cvt64 {a : Int} (h1 : -9223372036854775808 ≤ a) (h2 : a ≤ 9223372036854775807) : cvt .i64 a = a := w64 h1 h2
theorem succ64 {n : Nat} (h : n < 4611686018427387904) : add .i64 (n : Int) 1 = ((n + 1 : Nat) : Int) := by rw [add64 (by omega) (by omega)]; rfl
theorem addn64 {n m : Nat} (h : n + m < 4611686018427387904) : add .i64 (n : Int) (m : Int) = ((n + m : Nat) : Int) := by rw [add64 (by omega) (by omega)]; rfl
theorem ofNat_eq (n : Nat) : Int.ofNat n = (n : Int) := rfl
theorem lt_iff {a b : Int} : lt a b = true ↔ a < b := by simp [lt]
theorem le_iff {a b : Int} : le a b = true ↔ a ≤ b := by simp [le]
theorem gt_iff {a b : Int} : gt a b = true ↔ b < a := by simp [gt]
theorem ge_iff {a b : Int} : ge a b = true ↔ b ≤ a := by simp [ge]
theorem eqi_iff {a b : Int} : eqi a b = true ↔ a = b := by simp [eqi]
theorem nei_iff {a b : Int} : nei a b = true ↔ a ≠ b := by simp [nei]
theorem nes_iff {a b : List UInt8} : nes a b = true ↔ a ≠ b := by simp [nes]
theorem small_iff {n : Nat} : small n = true ↔ n ≤ 1073741824 := by simp [small]
theorem lt_dec (a b : Int) : lt a b = decide (a < b) := rfl
theorem le_dec (a b : Int) : le a b = decide (a ≤ b) := rfl
theorem gt_dec (a b : Int) : gt a b = decide (b < a) := rfl
theorem ge_dec (a b : Int) : ge a b = decide (b ≤ a) := rfl
theorem need_t {b : Bool} {β : Type} {k : Option β} (h : b = true) : need b k = k := by unfold need; rw [if_pos h]
theorem need_small {n : Nat} {β : Type} {k : Option β} (h : n ≤ 1073741824) : need (small n) k = k := need_t (small_iff.2 h)
/-! ### rows -/
theorem at_get {α : Type} {s : List α} {i : Nat} {c : α} (h : s[i]? = some c) : at? s (i : Int) = some c := by
  unfold at?
  simp [h]
theorem drop_nil {α : Type} {s : List α} {i : Nat} (h : s.drop i = []) : s.length ≤ i := by
  have := congrArg List.length h
  simp at this
  omega
theorem cut_nat {α : Type} {xs : List α} {i j : Nat} (h1 : i ≤ j) (h2 : j ≤ xs.length) : cut xs (i : Int) (j : Int) = some ((xs.take j).drop i) := by
  unfold cut
  rw [if_pos ⟨by omega, by omega, by omega⟩]
  simp
theorem cut_from {α : Type} {xs : List α} {i : Nat} (h : i ≤ xs.length) : cut xs (i : Int) (Int.ofNat xs.length) = some (xs.drop i) := by
  rw [ofNat_eq, cut_nat h (Nat.le_refl _)]
  simp
/-! ### bytes -/
theorem eqV_refl : ∀ (t : Ty) (x : Vl t), eqV t x x = true := by
  have hl : ∀ {α : Type} {f : α → α → Bool}, (∀ a, f a a = true) → ∀ x : List α, eqL f x x = true := fun h x => by
    induction x with
    | nil => rfl
    | cons a q ih => simp [eqL, h, ih]
  intro t
  induction t with
  | int k => intro x; simp [eqV, eqi]
  | bool => intro x; simp [eqV, eqb]
  | str => intro x; simp [eqV, eqs]
  | sl t ih => intro x; exact hl ih x
  | pr a b iha ihb => intro x; simp [eqV, iha, ihb]
  | wr a ih => intro x; exact ih x
  | un => intro x; rfl
  | ar n t ih => intro x; exact hl ih x
theorem eqAs_refl : ∀ (rs : List Ty) (x : As rs), eqAs rs x x = true
  | [], _ => rfl
  | t :: r, x => by simp [eqAs, eqV_refl, eqAs_refl r]
theorem amb2 {R : Type} {eq : R → R → Bool} (h : ∀ x, eq x x = true) (a : Option R) : amb eq [a, a] = a := by
  cases a <;> simp [amb, ambC, h]
end Pl

end

section
/- Plain laws: rows walked by loops, numbers of 8 and 16 bits. -/
namespace Pl
open Go Ev Sx
/-! ### loops over rows -/
/-- what such a loop is, if it may end early -/
def goL {α β R : Type} (body : β → α → (β → Option R) → Option R) (fin : β → Option R) : List α → β → Option R
  | [], acc => fin acc
  | x :: r, acc => body acc x (goL body fin r)
theorem loop_go {σ R α β : Type} {F : (σ → Option R) → σ → Option R} {mk : Nat → β → σ} {xs : List α} {body : β → α → (β → Option R) → Option R} {fin : β → Option R}
    (hs : ∀ self i acc x, xs[i]? = some x → F self (mk i acc) = body acc x fun a => self (mk (i + 1) a))
    (he : ∀ self acc, F self (mk xs.length acc) = fin acc) :
    ∀ (k i : Nat) (acc : β) (n : Nat), i + k = xs.length → k < n → loopF F n (mk i acc) = goL body fin (xs.drop i) acc
  | _, _, _, 0, _, hn => by omega
  | 0, i, acc, n + 1, h, _ => by
    have : i = xs.length := by omega
    subst this
    rw [loopF_succ, he, List.drop_length]
    rfl
  | k + 1, i, acc, n + 1, h, hn => by
    have hx : xs[i]? = some (xs[i]'(by omega)) := List.getElem?_eq_getElem (by omega)
    rw [loopF_succ, hs _ _ _ _ hx, List.drop_eq_getElem_cons (show i < xs.length by omega)]
    show _ = body acc _ (goL body fin (xs.drop (i + 1)))
    congr 1
    funext a
    exact loop_go hs he k (i + 1) a n (by omega) (by omega)
/-! ### numbers of 8 and 16 bits -/
theorem wr16 (x : Int) : IntKind.u16.wrap x = x % 65536 := by
  simp only [IntKind.wrap, IntKind.signed, IntKind.bits]
  simp
theorem cvt16 (x : Int) : cvt .u16 x = x % 65536 := wr16 x
end Pl

end

section
/- The ledger, as plain Lean: right, found by number. -/
namespace Go.Proofs.Lx
open Go Ev Sx Pl
set_option maxRecDepth 100000
abbrev TJob := Int × Int × List Int × Int
def rightJ : Int → List TJob → Bool
  | _, [] => true
  | b, j :: r => decide (b < j.1 ∧ j.2.1 ≠ 0 ∧ j.2.2.1.length ≤ 8192 ∧ 1 ≤ j.2.2.2 ∧ j.2.2.2 ≤ 5) && rightJ j.1 r
theorem rightJ_cons (b : Int) (j : TJob) (r : List TJob) : rightJ b (j :: r) = (decide (b < j.1 ∧ j.2.1 ≠ 0 ∧ j.2.2.1.length ≤ 8192 ∧ 1 ≤ j.2.2.2 ∧ j.2.2.2 ≤ 5) && rightJ j.1 r) := rfl
theorem rightJ_go : ∀ (r : List TJob) (b : Int), goL (R := Bool × Unit) (fun (b : Int) (j : TJob) k => if b < j.1 ∧ j.2.1 ≠ 0 ∧ j.2.2.1.length ≤ 8192 ∧ 1 ≤ j.2.2.2 ∧ j.2.2.2 ≤ 5 then k j.1 else some (false, ())) (fun _ => some (true, ())) r b = some (rightJ b r, ())
  | [], _ => rfl
  | j :: r, b => by
    show (if _ then goL _ _ r j.1 else _) = _
    rw [rightJ_go r j.1, rightJ_cons]
    split
    · rename_i h
      rw [decide_eq_true h, Bool.true_and]
    · rename_i h
      rw [decide_eq_false h, Bool.false_and]
theorem lright_eq {l : List TJob} (hl : l.length ≤ 1000000) : ledger_Right (l, ()) = some (rightJ 0 l, ()) := by
  show ledger_Right_K1 0 l (Int.ofNat l.length) 0 = _
  rw [← rightJ_go]
  unfold ledger_Right_K1
  refine loop_go (xs := l) (mk := fun i b => (b, l, Int.ofNat l.length, (i : Int))) ?_ ?_ l.length 0 0 _ (by omega) (by omega)
  · intro self i b j hj
    have hi := (List.getElem?_eq_some_iff.1 hj).1
    show ledger_Right_m1 _ _ b l (Int.ofNat l.length) (i : Int) = _
    unfold ledger_Right_m1
    rw [if_pos (by rw [lt_iff, ofNat_eq]; omega), at_get hj, Option.bind_some]
    have K3 : ∀ t, ledger_Right_K3 (fun last t6 t7 t8 => self (last, t6, t7, t8)) l (Int.ofNat l.length) (i : Int) t j = if t = true then some (false, ()) else self (j.1, l, Int.ofNat l.length, ((i + 1 : Nat) : Int)) := fun t => by
      unfold ledger_Right_K3 ledger_Right_m3
      rw [succ64 (by omega)]
    have K2 : ∀ t, ledger_Right_K2 (fun last t6 t7 t8 => self (last, t6, t7, t8)) l (Int.ofNat l.length) (i : Int) t j = if t = true then some (false, ()) else if 1 ≤ j.2.2.2 ∧ j.2.2.2 ≤ 5 then self (j.1, l, Int.ofNat l.length, ((i + 1 : Nat) : Int)) else some (false, ()) := fun t => by
      unfold ledger_Right_K2 ledger_Right_m2
      rw [K3, K3]
      simp only [lt_dec, gt_dec, decide_eq_true_eq]
      grind
    rw [K2, K2]
    simp only [le_dec, eqi_iff, gt_dec, decide_eq_true_eq, ofNat_eq]
    grind
  · intro self b
    show ledger_Right_m1 _ _ b l (Int.ofNat l.length) (l.length : Int) = _
    unfold ledger_Right_m1
    rw [if_neg (by rw [lt_iff, ofNat_eq]; omega)]
/-- rising numbers -/
abbrev Rise (l : List TJob) : Prop := l.Pairwise (fun a b => a.1 < b.1)
theorem rightJ_rise : ∀ {l : List TJob} {b : Int}, rightJ b l = true → Rise l ∧ ∀ j ∈ l, b < j.1
  | [], _, _ => ⟨.nil, by simp⟩
  | j :: r, b, h => by
    rw [rightJ_cons] at h
    rw [Bool.and_eq_true, decide_eq_true_eq] at h
    obtain ⟨h1, h2⟩ := rightJ_rise h.2
    refine ⟨.cons h2 h1, fun x hx => ?_⟩
    rcases List.mem_cons.1 hx with e | e
    · rw [e]; exact h.1.1
    · have := h2 x e
      omega
theorem rightJ_mem : ∀ {l : List TJob} {b : Int}, rightJ b l = true → ∀ j ∈ l, j.2.1 ≠ 0 ∧ j.2.2.1.length ≤ 8192 ∧ 1 ≤ j.2.2.2 ∧ j.2.2.2 ≤ 5
  | [], _, _ => by simp
  | j :: r, b, h => by
    rw [rightJ_cons] at h
    rw [Bool.and_eq_true, decide_eq_true_eq] at h
    intro x hx
    rcases List.mem_cons.1 hx with e | e
    · rw [e]; exact h.1.2
    · exact rightJ_mem h.2 x e
theorem rise_get {l : List TJob} (h : Rise l) {i k : Nat} {x y : TJob} (hi : l[i]? = some x) (hk : l[k]? = some y) (hlt : i < k) : x.1 < y.1 := by
  obtain ⟨a, rfl⟩ := List.getElem?_eq_some_iff.1 hi
  obtain ⟨b, rfl⟩ := List.getElem?_eq_some_iff.1 hk
  exact List.pairwise_iff_getElem.1 h i k a b hlt
theorem half64 {i j : Nat} (h : i + j < 1000000000000) : cvt .i64 (Sx.shr .u64 (cvt .u64 (add .i64 (i : Int) (j : Int))) 1) = (((i + j) / 2 : Nat) : Int) := by
  rw [addn64 (by omega)]
  have e1 : cvt .u64 (((i + j : Nat) : Int)) = ((i + j : Nat) : Int) := wu64 (by omega) (by omega)
  have e2 : Sx.shr .u64 ((i + j : Nat) : Int) 1 = (((i + j) / 2 : Nat) : Int) := by
    unfold Sx.shr
    have : min (1 : Int).toNat IntKind.u64.bits = 1 := rfl
    rw [this, Int.fdiv_eq_ediv_of_nonneg _ (by decide)]
    omega
  rw [e1, e2, cvt64 (by omega) (by omega)]
theorem cmp_eq (j : TJob) (t : Int) : ledger_at_z1 (j, t, ()) = some ((if j.1 < t then -1 else if t < j.1 then 1 else 0), ()) := by
  show ledger_at_z1_m0 j t = _
  unfold ledger_at_z1_m0
  simp only [lt_dec, gt_dec, decide_eq_true_eq]
  split
  · rfl
  · split <;> rfl
theorem lb_ex {l : List TJob} (h : Rise l) (t : Int) : ∃ i : Nat, i ≤ l.length ∧ ∀ k x, l[k]? = some x → (x.1 < t ↔ k < i) := by
  induction l with
  | nil => exact ⟨0, Nat.le_refl _, by simp⟩
  | cons j r ih =>
    obtain ⟨i, h1, h2⟩ := ih h.of_cons
    by_cases hj : j.1 < t
    · refine ⟨i + 1, by simpa using h1, fun k x hk => ?_⟩
      cases k with
      | zero => simp at hk; subst hk; simp [hj]
      | succ k => rw [h2 k x (by simpa using hk)]; omega
    · refine ⟨0, by omega, fun k x hk => ?_⟩
      cases k with
      | zero => simp at hk; subst hk; simp [hj]
      | succ k =>
        have := rise_get h (i := 0) (k := k + 1) rfl hk (by omega)
        omega
theorem bs_eq {l : List TJob} (hs : Rise l) (hl : l.length ≤ 1000000) (t : Int) : ∃ i : Nat, i ≤ l.length ∧ (∀ k x, l[k]? = some x → (x.1 < t ↔ k < i)) ∧ ∃ b, slices_BinarySearchFunc_Guint32 (l, t, ()) = some ((i : Int), b, ()) := by
  obtain ⟨i, h1, h2⟩ := lb_ex hs t
  refine ⟨i, h1, h2, ?_⟩
  have fin : ∃ b, slices_BinarySearchFunc_Guint32_K2 l t (Int.ofNat l.length) (i : Int) = some ((i : Int), b, ()) := by
    unfold slices_BinarySearchFunc_Guint32_K2 slices_BinarySearchFunc_Guint32_m2
    by_cases hi : i < l.length
    · rw [if_pos (by rw [lt_iff, ofNat_eq]; omega), at_get (List.getElem?_eq_getElem hi), Option.bind_some, cmp_eq]
      exact ⟨_, rfl⟩
    · rw [if_neg (by rw [lt_iff, ofNat_eq]; omega)]
      exact ⟨_, rfl⟩
  obtain ⟨b, hb⟩ := fin
  refine ⟨b, ?_⟩
  show slices_BinarySearchFunc_Guint32_K1 l t (Int.ofNat l.length) ((0 : Nat) : Int) (l.length : Int) = _
  unfold slices_BinarySearchFunc_Guint32_K1
  refine loopF_eq (Inv := fun s => ∃ p q : Nat, s = (l, t, Int.ofNat l.length, (p : Int), (q : Int)) ∧ p ≤ i ∧ i ≤ q ∧ q ≤ l.length) (μ := fun s => (s.2.2.2.2 - s.2.2.2.1).toNat) (G := fun _ => some ((i : Int), b, ())) ?_ _ _ ⟨0, l.length, rfl, Nat.zero_le _, h1, Nat.le_refl _⟩ (by dsimp only; omega)
  rintro self s ⟨p, q, rfl, hp, hq, hn⟩ ih
  show slices_BinarySearchFunc_Guint32_m1 _ _ l t (Int.ofNat l.length) (p : Int) (q : Int) = _
  unfold slices_BinarySearchFunc_Guint32_m1
  by_cases hpq : p < q
  · have hm : (p + q) / 2 < l.length := by omega
    have hg := List.getElem?_eq_getElem hm
    rw [if_pos (by rw [lt_iff]; omega), half64 (by omega), at_get hg, Option.bind_some, cmp_eq, Option.bind_some]
    dsimp only
    have := h2 _ _ hg
    by_cases hc : (l[(p + q) / 2]'hm).1 < t
    · rw [if_pos hc, if_pos (by decide), succ64 (by omega)]
      exact ih _ ⟨(p + q) / 2 + 1, q, rfl, by omega, hq, hn⟩ (by dsimp only; omega)
    · rw [if_neg hc]
      have e : ∀ x : Int, x = (if t < (l[(p + q) / 2]'hm).1 then 1 else 0) → ¬ (lt x 0 = true) := fun x hx => by
        rw [lt_iff, hx]
        split <;> decide
      rw [if_neg (e _ rfl)]
      exact ih _ ⟨p, (p + q) / 2, rfl, hp, by omega, by omega⟩ (by dsimp only; omega)
  · rw [if_neg (by rw [lt_iff]; omega)]
    have : p = i := by omega
    rw [this]
    exact hb
theorem find_yes {l : List TJob} (hs : Rise l) (hl : l.length ≤ 1000000) {i : Nat} {j : TJob} (hj : l[i]? = some j) : ledger_Find (l, j.1, ()) = some ((i : Int), true, ()) := by
  obtain ⟨k, h1, h2, b, h3⟩ := bs_eq hs hl j.1
  have hi := (List.getElem?_eq_some_iff.1 hj).1
  have e : k = i := by
    have := h2 i j hj
    by_cases hk : k < l.length
    · have a1 := h2 k _ (List.getElem?_eq_getElem hk)
      rcases Nat.lt_trichotomy k i with h | h | h
      · have := rise_get hs (List.getElem?_eq_getElem hk) hj h
        omega
      · exact h
      · omega
    · omega
  subst e
  show ledger_Find_m0 ledger_Find_K1 l j.1 = _
  unfold ledger_Find_m0 ledger_at
  show Option.bind (Option.bind (slices_BinarySearchFunc_Guint32 (l, j.1, ())) _) _ = _
  rw [h3, Option.bind_some, Option.bind_some]
  dsimp only
  rw [if_neg (by rw [ge_iff, ofNat_eq]; omega), at_get hj, Option.bind_some]
  have : nei j.1 j.1 = false := by simp [nei]
  rw [this]
  rfl
end Go.Proofs.Lx

end

section
/- Plain laws: more loops. -/
namespace Pl
open Go Ev Sx
/-- a loop whose states are known -/
theorem loop_dt {σ R : Type} {F : (σ → Option R) → σ → Option R} {mk : Nat → σ} {N : Nat} {r : Option R} (hs : ∀ self i, i < N → F self (mk i) = self (mk (i + 1))) (he : ∀ self, F self (mk N) = r) :
    ∀ (k i n : Nat), i + k = N → k < n → loopF F n (mk i) = r
  | _, _, 0, _, h => by omega
  | 0, i, n + 1, h, _ => by
    have : i = N := by omega
    subst this
    rw [loopF_succ, he]
  | k + 1, i, n + 1, h, hn => by rw [loopF_succ, hs _ _ (by omega), loop_dt hs he k (i + 1) n (by omega) (by omega)]
/-- what a loop is that may end early, and says where -/
def goI {α β R : Type} (body : Nat → β → α → (β → Option R) → Option R) (fin : β → Option R) : Nat → List α → β → Option R
  | _, [], acc => fin acc
  | i, x :: r, acc => body i acc x (goI body fin (i + 1) r)
theorem loop_goi {σ R α β : Type} {F : (σ → Option R) → σ → Option R} {mk : Nat → β → σ} {xs : List α} {body : Nat → β → α → (β → Option R) → Option R} {fin : β → Option R}
    (hs : ∀ self i acc x, xs[i]? = some x → F self (mk i acc) = body i acc x fun a => self (mk (i + 1) a))
    (he : ∀ self acc, F self (mk xs.length acc) = fin acc) :
    ∀ (k i : Nat) (acc : β) (n : Nat), i + k = xs.length → k < n → loopF F n (mk i acc) = goI body fin i (xs.drop i) acc
  | _, _, _, 0, _, hn => by omega
  | 0, i, acc, n + 1, h, _ => by
    have : i = xs.length := by omega
    subst this
    rw [loopF_succ, he, List.drop_length]
    rfl
  | k + 1, i, acc, n + 1, h, hn => by
    have hx : xs[i]? = some (xs[i]'(by omega)) := List.getElem?_eq_getElem (by omega)
    rw [loopF_succ, hs _ _ _ _ hx, List.drop_eq_getElem_cons (show i < xs.length by omega)]
    show _ = body i acc _ (goI body fin (i + 1) (xs.drop (i + 1)))
    congr 1
    funext a
    exact loop_goi hs he k (i + 1) a n (by omega) (by omega)
theorem set_at {α : Type} (p : List α) (x y : α) (q : List α) : (p ++ x :: q).set p.length y = p ++ y :: q := by
  rw [List.set_append_right _ _ (Nat.le_refl _), Nat.sub_self]
  rfl
end Pl

end

section
/- What is told of jobs, and what registers show, as plain Lean. -/
namespace Go.Proofs.Lx
open Go Ev Sx Pl
set_option maxRecDepth 100000
/-! ### among some -/
def idxI (v : Int) : Nat → List Int → Int
  | _, [] => -1
  | i, x :: r => if v = x then (i : Int) else idxI v (i + 1) r
theorem idxI_cons (v x : Int) (i : Nat) (r : List Int) : idxI v i (x :: r) = if v = x then (i : Int) else idxI v (i + 1) r := rfl
theorem idxI_ge (v : Int) : ∀ (r : List Int) (i : Nat), 0 ≤ idxI v i r ↔ v ∈ r
  | [], _ => by simp [idxI]
  | x :: r, i => by
    unfold idxI
    rw [List.mem_cons]
    by_cases h : v = x
    · rw [if_pos h]; simp [h]
    · rw [if_neg h, idxI_ge v r]; simp [h]
theorem index_eq {s : List Int} (hl : s.length ≤ 1000000) (v : Int) : slices_Index_Guint32 (s, v, ()) = some (idxI v 0 s, ()) := by
  have key : ∀ (r : List Int) (i : Nat), goI (R := Int × Unit) (fun i (_ : Unit) (x : Int) k => if v = x then some ((i : Int), ()) else k ()) (fun _ => some (-1, ())) i r () = some (idxI v i r, ()) := by
    intro r
    induction r with
    | nil => intro i; rfl
    | cons x r ih =>
      intro i
      show (if v = x then _ else goI _ _ (i + 1) r ()) = _
      rw [ih, idxI_cons]
      split <;> rfl
  show slices_Index_Guint32_K1 s v (Int.ofNat s.length) ((0 : Nat) : Int) = _
  rw [← key]
  unfold slices_Index_Guint32_K1
  refine loop_goi (xs := s) (mk := fun i _ => (s, v, Int.ofNat s.length, (i : Int))) ?_ ?_ s.length 0 () _ (by omega) (by omega)
  · intro self i _ x hx
    have hi := (List.getElem?_eq_some_iff.1 hx).1
    show slices_Index_Guint32_m1 _ s v (Int.ofNat s.length) (i : Int) = _
    unfold slices_Index_Guint32_m1
    rw [if_pos (by rw [lt_iff, ofNat_eq]; omega), at_get hx, Option.bind_some, succ64 (by omega)]
    simp only [eqi_iff]
  · intro self _
    show slices_Index_Guint32_m1 _ s v (Int.ofNat s.length) (s.length : Int) = _
    unfold slices_Index_Guint32_m1
    rw [if_neg (by rw [lt_iff, ofNat_eq]; omega)]
theorem contains_eq {s : List Int} (hl : s.length ≤ 1000000) (v : Int) : slices_Contains_Guint32 (s, v, ()) = some (decide (v ∈ s), ()) := by
  show slices_Contains_Guint32_m0 s v = _
  unfold slices_Contains_Guint32_m0
  rw [index_eq hl, Option.bind_some]
  have : ge (idxI v 0 s) 0 = decide (v ∈ s) := by
    rw [Bool.eq_iff_iff, ge_iff, decide_eq_true_eq]
    exact idxI_ge v s 0
  rw [this]
/-! ### told -/
/-- how a job is shown to stand -/
def stW (waits : List Int) (j : TJob) : Int := if j.2.2.2 = 1 ∧ j.1 ∈ waits then 6 else j.2.2.2
def wRun : List UInt8 := [114, 117, 110, 110, 105, 110, 103]
def wCom : List UInt8 := [99, 111, 109, 109, 105, 116, 116, 101, 100]
def wAbo : List UInt8 := [97, 98, 111, 114, 116, 101, 100]
def wComD : List UInt8 := [99, 111, 109, 109, 105, 116, 116, 101, 100, 32, 100, 111, 110, 101]
def wAboD : List UInt8 := [97, 98, 111, 114, 116, 101, 100, 32, 100, 111, 110, 101]
def wWai : List UInt8 := [119, 97, 105, 116, 105, 110, 103]
def nameS (k : Int) : List UInt8 := if k = 1 then wRun else if k = 2 then wCom else if k = 3 then wAbo else if k = 4 then wComD else if k = 5 then wAboD else wWai
theorem report_eq {waits : List Int} (hl : waits.length ≤ 1000000) {j : TJob} (h1 : 1 ≤ j.2.2.2) (h2 : j.2.2.2 ≤ 5) : status_report (j, waits, ()) = some (nameS (stW waits j), waits, ()) := by
  have K : ∀ t, (t = true → stW waits j = 6) → (t = false → stW waits j = j.2.2.2) → status_report_K1 t waits j [[], wRun, wCom, wAbo, wComD, wAboD] = some (nameS (stW waits j), waits, ()) := by
    intro t ht hf
    unfold status_report_K1 status_report_m1
    cases t with
    | true => rw [if_pos rfl, ht rfl]; rfl
    | false =>
      rw [hf rfl, if_neg (by decide), cvt64 (by omega) (by omega), if_neg (by rw [ge_iff]; omega), need_t (by rw [lt_iff]; omega)]
      rcases (by omega : j.2.2.2 = 1 ∨ j.2.2.2 = 2 ∨ j.2.2.2 = 3 ∨ j.2.2.2 = 4 ∨ j.2.2.2 = 5) with h | h | h | h | h <;> rw [h] <;> rfl
  show status_report_m0 status_report_K1 j waits = _
  unfold status_report_m0
  by_cases h : j.2.2.2 = 1
  · have hz : status_Tell_z1 (j.1, waits, ()) = some (decide (j.1 ∈ waits), waits, ()) := by
      show status_Tell_z1_m0 j.1 waits = _
      unfold status_Tell_z1_m0
      rw [contains_eq hl]
      rfl
    rw [if_pos (eqi_iff.2 h), hz, Option.bind_some]
    refine K _ (fun ht => ?_) (fun ht => ?_)
    · unfold stW
      rw [if_pos ⟨h, of_decide_eq_true ht⟩]
    · unfold stW
      rw [if_neg (fun e => of_decide_eq_false ht e.2)]
  · rw [if_neg (fun e => h (eqi_iff.1 e))]
    refine K false (fun ht => by cases ht) (fun _ => ?_)
    unfold stW
    rw [if_neg (fun e => h e.1)]
theorem tell_yes {l : List TJob} (hs : Rise l) (hl : l.length ≤ 1000000) {waits : List Int} (hw : waits.length ≤ 1000000) {i : Nat} {j : TJob} (hj : l[i]? = some j) (h1 : 1 ≤ j.2.2.2) (h2 : j.2.2.2 ≤ 5) : status_Tell (l, waits, j.1, ()) = some (nameS (stW waits j), ()) := by
  show status_Tell_m0 l waits j.1 = _
  unfold status_Tell_m0
  rw [find_yes hs hl hj, Option.bind_some]
  dsimp only
  rw [if_neg (by decide), at_get hj, Option.bind_some, report_eq hw h1 h2]
  rfl
/-! ### shown -/
def shownS (l : List TJob) : List TJob := l.drop (l.length - 12)
def lineS (waits : List Int) (j : TJob) : List Int := [j.1 / 65536, j.1 % 65536, stW waits j, j.2.1]
def h0 (l : List TJob) (n : Int) : List Int := [n, (shownS l).length]
def memH (l : List TJob) (waits : List Int) : List Int := (if 65535 < l.length then 65535 else (l.length : Int)) :: ((shownS l).length : Int) :: ((shownS l).flatMap (lineS waits) ++ List.replicate (4 * (12 - (shownS l).length)) 0)
theorem shown_len (l : List TJob) : (shownS l).length ≤ 12 ∧ (shownS l).length ≤ l.length ∧ (l.length ≤ 12 → (shownS l).length = l.length) ∧ (12 ≤ l.length → (shownS l).length = 12) := by
  unfold shownS
  rw [List.length_drop]
  omega
theorem flat4 {α β : Type} {f : α → List β} (hf : ∀ x, (f x).length = 4) : ∀ l : List α, (l.flatMap f).length = 4 * l.length
  | [] => rfl
  | x :: l => by rw [List.flatMap_cons, List.length_append, hf, flat4 hf l, List.length_cons]; omega
theorem line4 (waits : List Int) (j : TJob) : (lineS waits j).length = 4 := rfl
theorem memH_len (l : List TJob) (waits : List Int) : (memH l waits).length = 50 := by
  have := shown_len l
  unfold memH
  rw [List.length_cons, List.length_cons, List.length_append, flat4 (line4 waits), List.length_replicate]
  omega
theorem parts_eq {x : Int} (h1 : 0 ≤ x) (h2 : x < 4294967296) : words_Parts (x, ()) = some (x / 65536, x % 65536, ()) := by
  show words_Parts_m0 x = _
  unfold words_Parts_m0
  have : Sx.shr .u32 x 16 = x / 65536 := by
    unfold Sx.shr
    have : min (16 : Int).toNat IntKind.u32.bits = 16 := rfl
    rw [this, Int.fdiv_eq_ediv_of_nonneg _ (by decide)]
    rfl
  rw [this, cvt16, cvt16, Int.emod_eq_of_lt (by omega) (by omega)]
def OkJ (j : TJob) : Prop := 0 ≤ j.1 ∧ j.1 < 4294967296 ∧ 0 ≤ j.2.1 ∧ j.2.1 < 256 ∧ 0 ≤ j.2.2.2 ∧ j.2.2.2 < 256
/-- what a memory is, so far -/
def memP (a b : Int) (waits : List Int) (s : List TJob) (i : Nat) : List Int := (a :: b :: (s.take i).flatMap (lineS waits)) ++ List.replicate (4 * (12 - i)) 0
theorem four_set {P Q : List Int} (p q r s z0 z1 z2 z3 : Int) {n : Nat} (hn : P.length = n) :
    at? (P ++ z0 :: z1 :: z2 :: z3 :: Q) (n : Int) = some z0 ∧
    at? (List.set (P ++ z0 :: z1 :: z2 :: z3 :: Q) n p) ((n + 1 : Nat) : Int) = some z1 ∧
    at? (List.set (List.set (P ++ z0 :: z1 :: z2 :: z3 :: Q) n p) (n + 1) q) ((n + 2 : Nat) : Int) = some z2 ∧
    at? (List.set (List.set (List.set (P ++ z0 :: z1 :: z2 :: z3 :: Q) n p) (n + 1) q) (n + 2) r) ((n + 3 : Nat) : Int) = some z3 ∧
    List.set (List.set (List.set (List.set (P ++ z0 :: z1 :: z2 :: z3 :: Q) n p) (n + 1) q) (n + 2) r) (n + 3) s = P ++ p :: q :: r :: s :: Q := by
  subst hn
  have e1 : List.set (P ++ z0 :: z1 :: z2 :: z3 :: Q) P.length p = P ++ p :: z1 :: z2 :: z3 :: Q := set_at _ _ _ _
  have e2 : List.set (P ++ p :: z1 :: z2 :: z3 :: Q) (P.length + 1) q = P ++ p :: q :: z2 :: z3 :: Q := by
    rw [List.set_append_right _ _ (by omega)]; congr 1; rw [show P.length + 1 - P.length = 1 by omega]; rfl
  have e3 : List.set (P ++ p :: q :: z2 :: z3 :: Q) (P.length + 2) r = P ++ p :: q :: r :: z3 :: Q := by
    rw [List.set_append_right _ _ (by omega)]; congr 1; rw [show P.length + 2 - P.length = 2 by omega]; rfl
  have e4 : List.set (P ++ p :: q :: r :: z3 :: Q) (P.length + 3) s = P ++ p :: q :: r :: s :: Q := by
    rw [List.set_append_right _ _ (by omega)]; congr 1; rw [show P.length + 3 - P.length = 3 by omega]; rfl
  have g : ∀ (k : Nat) (L : List Int) (z : Int), L[k]? = some z → at? (P ++ L) ((P.length + k : Nat) : Int) = some z := fun k L z h => at_get (by rw [List.getElem?_append_right (by omega), show P.length + k - P.length = k by omega]; exact h)
  rw [e1, e2, e3, e4]
  exact ⟨g 0 _ _ rfl, g 1 _ _ rfl, g 2 _ _ rfl, g 3 _ _ rfl, rfl⟩
theorem vmem_eq {l : List TJob} (hl : l.length ≤ 1000000) {waits : List Int} (hw : waits.length ≤ 1000000) (ho : ∀ j ∈ l, OkJ j) : view_Mem (l, waits, ()) = some (([], [], memH l waits, []), ()) := by
  obtain ⟨n1, n2, n3, n4⟩ := shown_len l
  have hlast : view_last_Gapi_Job (l, 12, ()) = some (shownS l, ()) := by
    show view_last_Gapi_Job_m0 l 12 = _
    unfold view_last_Gapi_Job_m0
    have e : (if gt 0 (sub .i64 (Int.ofNat l.length) 12) = true then 0 else sub .i64 (Int.ofNat l.length) 12) = ((l.length - 12 : Nat) : Int) := by
      rw [ofNat_eq, sub64 (by omega) (by omega)]
      by_cases h : l.length < 12
      · rw [if_pos (by rw [gt_iff]; omega)]; omega
      · rw [if_neg (by rw [gt_iff]; omega)]; omega
    rw [e, cut_from (by omega)]
    rfl
  show view_Mem_m0 view_Mem_K1 l waits = _
  unfold view_Mem_m0
  rw [hlast, Option.bind_some]
  dsimp only
  have ea : cvt .u16 (if lt 65535 (Int.ofNat l.length) = true then 65535 else Int.ofNat l.length) = (if 65535 < l.length then 65535 else (l.length : Int)) := by
    rw [ofNat_eq, cvt16]
    by_cases h : 65535 < l.length
    · rw [if_pos (by rw [lt_iff]; omega), if_pos h]; rfl
    · rw [if_neg (by rw [lt_iff]; omega), if_neg h]; omega
  have eb : cvt .u16 (Int.ofNat (shownS l).length) = ((shownS l).length : Int) := by
    rw [ofNat_eq, cvt16]; omega
  rw [ea, eb]
  unfold memH
  generalize (if 65535 < l.length then 65535 else (l.length : Int)) = a
  show view_Mem_K1 waits (shownS l) (Int.ofNat (shownS l).length) ((0 : Nat) : Int) (memP a (shownS l).length waits (shownS l) 0) = _
  have fin : some ((([] : List Bool), ([] : List Bool), a :: ((shownS l).length : Int) :: ((shownS l).flatMap (lineS waits) ++ List.replicate (4 * (12 - (shownS l).length)) 0), ([] : List Int)), ()) = view_Mem_K3 (memP a (shownS l).length waits (shownS l) (shownS l).length) := by
    unfold memP view_Mem_K3 view_Mem_m3
    rw [List.take_length]
    rfl
  rw [fin]
  unfold view_Mem_K1
  have hsub : ∀ j ∈ shownS l, OkJ j := fun j hj => ho j (List.mem_of_mem_drop hj)
  generalize hS : shownS l = S at *
  refine loop_dt (N := S.length) (mk := fun i => (waits, S, Int.ofNat S.length, (i : Int), memP a (S.length : Int) waits S i)) ?_ ?_ S.length 0 _ (by omega) (by omega)
  · intro self i hi
    have hj := List.getElem?_eq_getElem hi
    have hok := hsub _ (List.getElem_mem hi)
    generalize hjj : S[i] = j at hj hok
    show view_Mem_m1 _ _ _ waits S (Int.ofNat S.length) (i : Int) (memP a (S.length : Int) waits S i) = _
    unfold view_Mem_m1
    rw [if_pos (by rw [lt_iff, ofNat_eq]; omega), at_get hj, Option.bind_some, parts_eq hok.1 hok.2.1, Option.bind_some]
    dsimp only
    have hP : (a :: (S.length : Int) :: (S.take i).flatMap (lineS waits)).length = 2 + 4 * i := by
      rw [List.length_cons, List.length_cons, flat4 (line4 waits), List.length_take]; omega
    have hR : List.replicate (4 * (12 - i)) (0 : Int) = 0 :: 0 :: 0 :: 0 :: List.replicate (4 * (12 - (i + 1))) 0 := by
      rw [show 4 * (12 - i) = 4 * (12 - (i + 1)) + 4 by omega]
      rfl
    have hm : memP a (S.length : Int) waits S i = (a :: (S.length : Int) :: (S.take i).flatMap (lineS waits)) ++ 0 :: 0 :: 0 :: 0 :: List.replicate (4 * (12 - (i + 1))) 0 := by
      unfold memP
      rw [hR]
    obtain ⟨g0, g1, g2, g3, g4⟩ := four_set (P := a :: (S.length : Int) :: (S.take i).flatMap (lineS waits)) (Q := List.replicate (4 * (12 - (i + 1))) 0) (j.1 / 65536) (j.1 % 65536) (stW waits j) j.2.1 0 0 0 0 hP
    rw [← hm] at g0 g1 g2 g3 g4
    have e0 : add .i64 2 (mul .i64 4 (i : Int)) = ((2 + 4 * i : Nat) : Int) := by
      rw [mul64 (by omega) (by omega), add64 (by omega) (by omega)]; omega
    have e1 : add .i64 ((2 + 4 * i : Nat) : Int) 1 = ((2 + 4 * i + 1 : Nat) : Int) := succ64 (by omega)
    have e2 : add .i64 ((2 + 4 * i : Nat) : Int) 2 = ((2 + 4 * i + 2 : Nat) : Int) := by rw [add64 (by omega) (by omega)]; omega
    have e3 : add .i64 ((2 + 4 * i : Nat) : Int) 3 = ((2 + 4 * i + 3 : Nat) : Int) := by rw [add64 (by omega) (by omega)]; omega
    rw [e0, e1]
    simp only [Int.toNat_natCast]
    rw [g0, Option.bind_some, Option.bind_some, g1, Option.bind_some, Option.bind_some]
    have K4 : ∀ st, st = stW waits j → view_Mem_K4 (fun waits t25 t26 t27 h => self (waits, t25, t26, t27, h)) waits ((2 + 4 * i : Nat) : Int) st S (Int.ofNat S.length) (i : Int) (List.set (List.set (memP a (S.length : Int) waits S i) (2 + 4 * i) (j.1 / 65536)) (2 + 4 * i + 1) (j.1 % 65536)) j = self (waits, S, Int.ofNat S.length, ((i + 1 : Nat) : Int), memP a (S.length : Int) waits S (i + 1)) := by
      intro st hst
      unfold view_Mem_K4 view_Mem_m4
      have hc : cvt .u16 st = stW waits j := by
        rw [hst, cvt16]
        unfold stW
        have := hok.2.2.2.2
        split <;> omega
      have hd : cvt .u16 j.2.1 = j.2.1 := by
        have := hok.2.2
        rw [cvt16]; omega
      rw [e2, e3]
      simp only [Int.toNat_natCast]
      rw [g2, Option.bind_some, Option.bind_some, hc, g3, Option.bind_some, Option.bind_some, hd, g4, succ64 (by omega)]
      congr 1
      unfold memP
      rw [List.take_succ_eq_append_getElem hi, hjj, List.flatMap_append]
      simp [lineS]
    have K2 : ∀ t, (t = true → stW waits j = 6) → (t = false → stW waits j = j.2.2.2) → view_Mem_K2 (fun waits t25 t26 t27 h => self (waits, t25, t26, t27, h)) waits ((2 + 4 * i : Nat) : Int) j.2.2.2 S (Int.ofNat S.length) (i : Int) t (List.set (List.set (memP a (S.length : Int) waits S i) (2 + 4 * i) (j.1 / 65536)) (2 + 4 * i + 1) (j.1 % 65536)) j = self (waits, S, Int.ofNat S.length, ((i + 1 : Nat) : Int), memP a (S.length : Int) waits S (i + 1)) := by
      intro t ht hf
      unfold view_Mem_K2 view_Mem_m2
      cases t with
      | true => rw [if_pos rfl]; exact K4 _ (ht rfl).symm
      | false => rw [if_neg (by decide)]; exact K4 _ (hf rfl).symm
    by_cases h : j.2.2.2 = 1
    · rw [if_pos (eqi_iff.2 h), contains_eq hw, Option.bind_some]
      refine K2 _ (fun ht => ?_) (fun ht => ?_)
      · unfold stW
        rw [if_pos ⟨h, of_decide_eq_true ht⟩]
      · unfold stW
        rw [if_neg (fun e => of_decide_eq_false ht e.2)]
    · rw [if_neg (fun e => h (eqi_iff.1 e))]
      refine K2 false (fun ht => by cases ht) (fun _ => ?_)
      unfold stW
      rw [if_neg (fun e => h e.1)]
  · intro self
    show view_Mem_m1 _ _ _ waits S (Int.ofNat S.length) (S.length : Int) _ = _
    unfold view_Mem_m1
    rw [if_neg (by rw [lt_iff, ofNat_eq]; omega)]
end Go.Proofs.Lx

end

section
/- What registers say, read: as plain Lean. -/
namespace Go.Proofs.Lx
open Go Ev Sx Pl
set_option maxRecDepth 100000
abbrev TLine := Int × Int × Int
abbrev TMem := List Bool × List Bool × List Int × List Int
abbrev RRd := Option (List TLine × Bool × Unit)
theorem cvt32 (x : Int) : cvt .u32 x = x % 4294967296 := by
  show IntKind.u32.wrap x = _
  simp only [IntKind.wrap, IntKind.signed, IntKind.bits]
  simp
theorem wide_eq {a b : Int} (ha : 0 ≤ a) (ha2 : a < 65536) (hb : 0 ≤ b) (hb2 : b < 65536) : words_Wide (a, b, ()) = some (65536 * a + b, ()) := by
  obtain ⟨n, rfl⟩ := Int.eq_ofNat_of_zero_le ha
  obtain ⟨m, rfl⟩ := Int.eq_ofNat_of_zero_le hb
  show words_Wide_m0 (n : Int) (m : Int) = _
  unfold words_Wide_m0
  have hs : Sx.shl .u32 (cvt .u32 (n : Int)) 16 = ((65536 * n : Nat) : Int) := by
    rw [cvt32]
    unfold Sx.shl
    have : min (16 : Int).toNat IntKind.u32.bits = 16 := by decide
    rw [this]
    show cvt .u32 _ = _
    rw [cvt32]
    omega
  rw [hs, cvt32, Int.emod_eq_of_lt (by omega) (by omega)]
  have e1 : (BitVec.ofInt IntKind.u32.bits ((65536 * n : Nat) : Int)).toNat = 65536 * n := by
    rw [BitVec.toNat_ofInt]
    have : ((2 ^ IntKind.u32.bits : Nat) : Int) = 4294967296 := by decide
    rw [this]
    omega
  have e2 : (BitVec.ofInt IntKind.u32.bits (m : Int)).toNat = m := by
    rw [BitVec.toNat_ofInt]
    have : ((2 ^ IntKind.u32.bits : Nat) : Int) = 4294967296 := by decide
    rw [this]
    omega
  have e3 : 65536 * n ||| m = 65536 * n + m := by
    have := Nat.two_pow_add_eq_or_of_lt (i := 16) (b := m) (by omega) n
    rw [show (2 : Nat) ^ 16 = 65536 from rfl] at this
    exact this.symm
  unfold bor
  rw [BitVec.toNat_or, e1, e2, e3]
  show some (cvt .u32 _, ()) = _
  rw [cvt32]
  congr 2
  omega
def quads : List Int → List TLine
  | a :: b :: c :: d :: r => (65536 * a + b, c, d) :: quads r
  | _ => []
theorem quads_nth : ∀ (i : Nat) {h : List Int} {a b c d : Int}, h[4 * i]? = some a → h[4 * i + 1]? = some b → h[4 * i + 2]? = some c → h[4 * i + 3]? = some d → (quads h)[i]? = some (65536 * a + b, c, d)
  | 0, x :: y :: z :: w :: r, a, b, c, d, h1, h2, h3, h4 => by
    simp at h1 h2 h3 h4
    subst h1 h2 h3 h4
    rfl
  | i + 1, x :: y :: z :: w :: r, a, b, c, d, h1, h2, h3, h4 => by
    show (quads r)[i]? = _
    rw [show 4 * (i + 1) = 4 * i + 4 by omega] at h1 h2 h3 h4
    exact quads_nth i (by simpa using h1) (by simpa [Nat.add_right_comm] using h2) (by simpa [Nat.add_right_comm] using h3) (by simpa [Nat.add_right_comm] using h4)
  | i, [], a, b, c, d, h1, h2, h3, h4 => by simp at h1
  | i, [x], a, b, c, d, h1, h2, h3, h4 => by simp at h2
  | i, [x, y], a, b, c, d, h1, h2, h3, h4 => by simp at h3
  | i, [x, y, z], a, b, c, d, h1, h2, h3, h4 => by simp at h4
theorem quads_len : ∀ (n : Nat) {h : List Int}, h.length = 4 * n → (quads h).length = n
  | 0, h, e => by rw [List.eq_nil_of_length_eq_zero (show h.length = 0 by omega)]; rfl
  | n + 1, x :: y :: z :: w :: r, e => by
    show (quads r).length + 1 = _
    rw [quads_len n (by simp at e; omega)]
  | n + 1, [], e => by simp at e
  | n + 1, [x], e => by simp at e; omega
  | n + 1, [x, y], e => by simp at e; omega
  | n + 1, [x, y, z], e => by simp at e; omega
def possS (x : TLine) : Bool := decide (1 ≤ x.2.1 ∧ x.2.1 ≤ 6 ∧ 1 ≤ x.2.2 ∧ x.2.2 ≤ 255)
theorem poss_eq (x : TLine) : view_possible (x, ()) = some (possS x, ()) := by
  show view_possible_m0 x = _
  unfold view_possible_m0 possS
  simp only [ge_dec, le_dec, decide_eq_true_eq]
  grind
def okL : Int → List TLine → Bool
  | _, [] => true
  | b, x :: r => decide (b < x.1) && possS x && okL x.1 r
theorem okL_cons (b : Int) (x : TLine) (r : List TLine) : okL b (x :: r) = (decide (b < x.1) && possS x && okL x.1 r) := rfl
def noR : RRd := some ([], false, ())
theorem okL_go {fin : Int × List TLine → RRd} : ∀ (r : List TLine) (b : Int) (l : List TLine), l.length + r.length ≤ 1000 → (∀ c d m, fin (c, m) = fin (d, m)) →
    goL (R := List TLine × Bool × Unit) (fun (a : Int × List TLine) (x : TLine) k => if (decide (a.1 < x.1) && possS x) = true then need (small (a.2.length + 1)) (k (x.1, a.2 ++ [x])) else noR) fin r (b, l) = if okL b r = true then fin (b, l ++ r) else noR
  | [], b, l, _, _ => by
    show fin (b, l) = _
    rw [List.append_nil]
    rfl
  | x :: r, b, l, hl, hf => by
    rw [List.length_cons] at hl
    show (if _ then need (small (l.length + 1)) (goL _ _ r (x.1, l ++ [x])) else noR) = _
    rw [okL_go r x.1 (l ++ [x]) (by rw [List.length_append, List.length_singleton]; omega) hf, need_small (by omega)]
    rw [List.append_assoc, List.singleton_append, okL_cons]
    cases hc : (decide (b < x.1) && possS x) with
    | false => rfl
    | true =>
      rw [Bool.true_and, if_pos rfl, hf x.1 b]
def readV (m : TMem) : RRd :=
  if m.1.length = 0 ∧ m.2.1.length = 0 ∧ m.2.2.2.length = 0 ∧ m.2.2.1.length = 50 then
    match m.2.2.1[0]?, m.2.2.1[1]? with
    | some a, some s => if s = (if 12 < a then 12 else a) then
        (if (okL (a - s) ((quads (m.2.2.1.drop 2)).take s.toNat) && (m.2.2.1.drop (2 + 4 * s.toNat)).all (fun x => decide (x = 0))) = true then some ((quads (m.2.2.1.drop 2)).take s.toNat, true, ()) else noR) else noR
    | _, _ => noR
  else noR
theorem zeros_eq {y : List Int} (hy : y.length ≤ 1000) (l : List TLine) : view_Read_K6 y (Int.ofNat y.length) ((0 : Nat) : Int) l = if y.all (fun x => decide (x = 0)) = true then some (l, true, ()) else noR := by
  have key : ∀ r : List Int, goL (R := List TLine × Bool × Unit) (fun (_ : Unit) (x : Int) k => if x = 0 then k () else noR) (fun _ => some (l, true, ())) r () = if r.all (fun x => decide (x = 0)) = true then some (l, true, ()) else noR := by
    intro r
    induction r with
    | nil => rfl
    | cons x r ih =>
      show (if x = 0 then goL _ _ r () else noR) = _
      rw [ih, List.all_cons]
      by_cases h : x = 0
      · rw [if_pos h, decide_eq_true h, Bool.true_and]
      · rw [if_neg h, decide_eq_false h, Bool.false_and]
        rfl
  rw [← key]
  unfold view_Read_K6
  refine loop_go (xs := y) (mk := fun i _ => (y, Int.ofNat y.length, (i : Int), l)) ?_ ?_ y.length 0 () _ (by omega) (by omega)
  · intro self i _ x hx
    have hi := (List.getElem?_eq_some_iff.1 hx).1
    show view_Read_m6 _ _ y (Int.ofNat y.length) (i : Int) l = _
    unfold view_Read_m6
    rw [if_pos (by rw [lt_iff, ofNat_eq]; omega), at_get hx, Option.bind_some, succ64 (by omega)]
    by_cases h : x = 0
    · rw [if_neg (by rw [nei_iff]; exact fun e => e h), if_pos h]
    · rw [if_pos (nei_iff.2 h), if_neg h]
      rfl
  · intro self _
    show view_Read_m6 _ _ y (Int.ofNat y.length) (y.length : Int) l = _
    unfold view_Read_m6
    rw [if_neg (by rw [lt_iff, ofNat_eq]; omega)]
    rfl
theorem vread_K2 {h : List Int} (hl : h.length = 50) (hr : ∀ x ∈ h, 0 ≤ x ∧ x < 65536) {s : Nat} (hs : s ≤ 12) (b : Int) : view_Read_K2 h (s : Int) b (s : Int) ((0 : Nat) : Int) [] =
    if (okL b ((quads (h.drop 2)).take s) && (h.drop (2 + 4 * s)).all (fun x => decide (x = 0))) = true then some ((quads (h.drop 2)).take s, true, ()) else noR := by
  have hq : (quads (h.drop 2)).length = 12 := quads_len 12 (by rw [List.length_drop]; omega)
  have hxs : ((quads (h.drop 2)).take s).length = s := by rw [List.length_take]; omega
  have k4 : ∀ l, view_Read_K4 h (s : Int) l = if (h.drop (2 + 4 * s)).all (fun x => decide (x = 0)) = true then some (l, true, ()) else noR := fun l => by
    have e0 : add .i64 2 (mul .i64 4 (s : Int)) = ((2 + 4 * s : Nat) : Int) := by
      rw [mul64 (by omega) (by omega), add64 (by omega) (by omega)]; omega
    unfold view_Read_K4 view_Read_m4
    rw [e0, cut_from (by omega), Option.bind_some]
    exact zeros_eq (by rw [List.length_drop]; omega) l
  have main : view_Read_K2 h (s : Int) b (s : Int) ((0 : Nat) : Int) [] = goL (R := List TLine × Bool × Unit) (fun (a : Int × List TLine) (x : TLine) k => if (decide (a.1 < x.1) && possS x) = true then need (small (a.2.length + 1)) (k (x.1, a.2 ++ [x])) else noR) (fun a => view_Read_K4 h (s : Int) a.2) (((quads (h.drop 2)).take s).drop 0) (b, []) := by
    unfold view_Read_K2
    refine loop_go (xs := (quads (h.drop 2)).take s) (mk := fun i (a : Int × List TLine) => (h, (s : Int), a.1, (s : Int), (i : Int), a.2)) ?_ ?_ s 0 (b, []) _ (by omega) (by omega)
    · intro self i a x hx
      obtain ⟨b, l⟩ := a
      have hi : i < s := by
        have := (List.getElem?_eq_some_iff.1 hx).1
        omega
      have g0 : h[2 + 4 * i]? = some (h[2 + 4 * i]'(by omega)) := List.getElem?_eq_getElem (by omega)
      have g1 : h[2 + 4 * i + 1]? = some (h[2 + 4 * i + 1]'(by omega)) := List.getElem?_eq_getElem (by omega)
      have g2 : h[2 + 4 * i + 2]? = some (h[2 + 4 * i + 2]'(by omega)) := List.getElem?_eq_getElem (by omega)
      have g3 : h[2 + 4 * i + 3]? = some (h[2 + 4 * i + 3]'(by omega)) := List.getElem?_eq_getElem (by omega)
      have r0 := hr _ (List.getElem_mem (l := h) (n := 2 + 4 * i) (by omega))
      have r1 := hr _ (List.getElem_mem (l := h) (n := 2 + 4 * i + 1) (by omega))
      generalize (h[2 + 4 * i]'(by omega)) = p at g0 r0
      generalize (h[2 + 4 * i + 1]'(by omega)) = q at g1 r1
      generalize (h[2 + 4 * i + 2]'(by omega)) = u at g2
      generalize (h[2 + 4 * i + 3]'(by omega)) = v at g3
      have hx2 : x = (65536 * p + q, u, v) := by
        have := quads_nth i (h := h.drop 2) (a := p) (b := q) (c := u) (d := v) (by rw [List.getElem?_drop]; exact g0) (by rw [List.getElem?_drop]; exact g1) (by rw [List.getElem?_drop]; exact g2) (by rw [List.getElem?_drop]; exact g3)
        rw [List.getElem?_take_of_lt hi, this] at hx
        exact (Option.some.inj hx).symm
      show view_Read_m2 _ _ _ h (s : Int) b (s : Int) (i : Int) l = _
      unfold view_Read_m2
      have e0 : add .i64 2 (mul .i64 4 (i : Int)) = ((2 + 4 * i : Nat) : Int) := by
        rw [mul64 (by omega) (by omega), add64 (by omega) (by omega)]; omega
      have e1 : add .i64 ((2 + 4 * i : Nat) : Int) 1 = ((2 + 4 * i + 1 : Nat) : Int) := succ64 (by omega)
      have e2 : add .i64 ((2 + 4 * i : Nat) : Int) 2 = ((2 + 4 * i + 2 : Nat) : Int) := by rw [add64 (by omega) (by omega)]; omega
      have e3 : add .i64 ((2 + 4 * i : Nat) : Int) 3 = ((2 + 4 * i + 3 : Nat) : Int) := by rw [add64 (by omega) (by omega)]; omega
      rw [if_pos (by rw [lt_iff]; omega), e0, e1, e2, e3, at_get g0, Option.bind_some, at_get g1, Option.bind_some, at_get g2, Option.bind_some, at_get g3, Option.bind_some, amb2 (eqAs_refl _), wide_eq r0.1 r0.2 r1.1 r1.2, Option.bind_some]
      dsimp only
      rw [← hx2]
      have K5 : ∀ t, view_Read_K5 (fun h shown before t55 t56 l => self (h, shown, before, t55, t56, l)) h (s : Int) (s : Int) (i : Int) t l x = if t = true then noR else need (small (l.length + 1)) (self (h, (s : Int), x.1, (s : Int), ((i + 1 : Nat) : Int), l ++ [x])) := fun t => by
        unfold view_Read_K5 view_Read_m5
        rw [succ64 (by omega)]
        rfl
      unfold view_Read_K3 view_Read_m3
      rw [poss_eq]
      show (if le x.1 b = true then view_Read_K5 _ h (s : Int) (s : Int) (i : Int) true l x else view_Read_K5 _ h (s : Int) (s : Int) (i : Int) (!possS x) l x) = _
      rw [K5, K5]
      by_cases hb : b < x.1
      · rw [if_neg (by rw [le_iff]; omega), decide_eq_true hb, Bool.true_and]
        cases possS x <;> rfl
      · rw [if_pos (by rw [le_iff]; omega), decide_eq_false hb, Bool.false_and]
        rfl
    · intro self a
      show view_Read_m2 _ _ _ h (s : Int) a.1 (s : Int) ((((quads (h.drop 2)).take s).length : Nat) : Int) a.2 = _
      unfold view_Read_m2
      rw [if_neg (by rw [lt_iff, hxs]; omega)]
  rw [main, List.drop_zero, okL_go _ _ _ (by rw [hxs, List.length_nil]; omega) (fun _ _ _ => rfl), List.nil_append, k4]
  cases okL b ((quads (h.drop 2)).take s) <;> rfl
theorem vread_eq {m : TMem} (hr : ∀ x ∈ m.2.2.1, 0 ≤ x ∧ x < 65536) (hb : m.1.length ≤ 1000000 ∧ m.2.1.length ≤ 1000000 ∧ m.2.2.1.length ≤ 1000000 ∧ m.2.2.2.length ≤ 1000000) : view_Read (m, ()) = readV m := by
  obtain ⟨c, i, h, w⟩ := m
  have hr : ∀ x ∈ h, 0 ≤ x ∧ x < 65536 := hr
  show view_Read_m0 view_Read_K1 (c, i, h, w) = _
  unfold view_Read_m0 readV
  have hn : ∀ n : Nat, nei (Int.ofNat n) 0 = true ↔ n ≠ 0 := fun n => by rw [nei_iff, ofNat_eq]; omega
  have K1t : view_Read_K1 true (c, i, h, w) = noR := rfl
  dsimp only
  by_cases h1 : c.length = 0
  · rw [if_neg (by rw [hn]; omega)]
    by_cases h2 : i.length = 0
    · rw [if_neg (by rw [hn]; omega)]
      by_cases h3 : w.length = 0
      · rw [if_neg (by rw [hn]; omega)]
        by_cases h4 : h.length = 50
        · rw [if_pos ⟨h1, h2, h3, h4⟩]
          have : nei (Int.ofNat h.length) 50 = false := by rw [h4]; rfl
          rw [this]
          have g0 : h[0]? = some (h[0]'(by omega)) := List.getElem?_eq_getElem (by omega)
          have g1 : h[1]? = some (h[1]'(by omega)) := List.getElem?_eq_getElem (by omega)
          have r0 := hr _ (List.getElem_mem (l := h) (n := 0) (by omega))
          have r1 := hr _ (List.getElem_mem (l := h) (n := 1) (by omega))
          generalize (h[0]'(by omega)) = a at g0 r0
          generalize (h[1]'(by omega)) = s at g1 r1
          rw [g0, g1]
          show view_Read_m1 view_Read_K2 false (c, i, h, w) = _
          unfold view_Read_m1
          dsimp only
          have a0 : at? h 0 = some a := at_get (i := 0) g0
          have a1 : at? h 1 = some s := at_get (i := 1) g1
          rw [if_neg (by decide), a0, a1, Option.bind_some, Option.bind_some, Option.bind_some, cvt64 (by omega) (by omega), cvt64 (by omega) (by omega)]
          by_cases hs : s = (if 12 < a then 12 else a)
          · have hmin : (if lt 12 a = true then 12 else a) = (if 12 < a then 12 else a) := by simp only [lt_iff]
            rw [hmin, ← hs, if_neg (by rw [nei_iff]; exact fun e => e rfl), if_pos rfl]
            obtain ⟨n, rfl⟩ := Int.eq_ofNat_of_zero_le r1.1
            have hn12 : (n : Int) ≤ 12 ∧ (n : Int) ≤ a := by
              rw [hs]
              split <;> omega
            have hbf : cvt .u32 (sub .i64 a (n : Int)) = a - n := by
              rw [sub64 (by omega) (by omega), cvt32, Int.emod_eq_of_lt (by omega) (by omega)]
            rw [hbf]
            exact vread_K2 h4 hr (by omega) _
          · have hmin : (if lt 12 a = true then 12 else a) = (if 12 < a then 12 else a) := by simp only [lt_iff]
            rw [hmin, if_pos (by rw [nei_iff]; exact hs), if_neg hs]
            rfl
        · rw [if_neg (fun e => h4 e.2.2.2)]
          have : nei (Int.ofNat h.length) 50 = true := by rw [nei_iff, ofNat_eq]; omega
          rw [this]
          exact K1t
      · rw [if_pos (by rw [hn]; exact h3), if_neg (fun e => h3 e.2.2.1)]
        exact K1t
    · rw [if_pos (by rw [hn]; exact h2), if_neg (fun e => h2 e.2.1)]
      exact K1t
  · rw [if_pos (by rw [hn]; exact h1), if_neg (fun e => h1 e.1)]
    exact K1t
/-- the line of a job -/
def lineT (waits : List Int) (j : TJob) : TLine := (j.1, stW waits j, j.2.1)
theorem quads_mem (waits : List Int) (k : Nat) : ∀ S : List TJob, quads (S.flatMap (lineS waits) ++ List.replicate (4 * k) 0) = S.map (lineT waits) ++ List.replicate k (0, 0, 0)
  | [] => by
    induction k with
    | zero => rfl
    | succ k ih =>
      rw [show 4 * (k + 1) = 4 * k + 4 by omega]
      show _ :: quads (List.replicate (4 * k) 0) = _
      have ih : quads (List.replicate (4 * k) 0) = List.replicate k (0, 0, 0) := ih
      rw [ih]
      rfl
  | j :: S => by
    rw [List.flatMap_cons, List.append_assoc]
    show _ :: quads (S.flatMap (lineS waits) ++ List.replicate (4 * k) 0) = _
    rw [quads_mem waits k S]
    show (65536 * (j.1 / 65536) + j.1 % 65536, stW waits j, j.2.1) :: _ = (j.1, stW waits j, j.2.1) :: _
    rw [show 65536 * (j.1 / 65536) + j.1 % 65536 = j.1 by omega]
    rfl
theorem stW_rng {waits : List Int} {j : TJob} (h1 : 1 ≤ j.2.2.2) (h2 : j.2.2.2 ≤ 5) : 1 ≤ stW waits j ∧ stW waits j ≤ 6 := by
  unfold stW
  split <;> omega
theorem okL_jobs (waits : List Int) : ∀ (S : List TJob) (b : Int), rightJ b S = true → (∀ j ∈ S, j.2.1 < 256 ∧ 0 ≤ j.2.1) → okL b (S.map (lineT waits)) = true
  | [], _, _, _ => rfl
  | j :: S, b, h, ho => by
    rw [rightJ_cons] at h
    rw [Bool.and_eq_true, decide_eq_true_eq] at h
    have hj := ho j List.mem_cons_self
    have hst := stW_rng (waits := waits) h.1.2.2.2.1 h.1.2.2.2.2
    rw [List.map_cons, okL_cons, show (lineT waits j).1 = j.1 from rfl, okL_jobs waits S j.1 h.2 (fun x hx => ho x (List.mem_cons_of_mem _ hx))]
    have hp : possS (lineT waits j) = true := by
      unfold possS lineT
      rw [decide_eq_true_eq]
      dsimp only
      have := h.1.2.1
      omega
    rw [hp, decide_eq_true (show b < j.1 from h.1.1)]
    rfl
theorem rightJ_drop {l : List TJob} {b : Int} (h : rightJ b l = true) : ∀ n : Nat, n ≤ l.length → rightJ (b + n) (l.drop n) = true := by
  induction l generalizing b with
  | nil => intro n _; rw [List.drop_nil]; rfl
  | cons j r ih =>
    intro n hn
    cases n with
    | zero => simpa using h
    | succ n =>
      have h0 := h
      rw [rightJ_cons] at h
      rw [Bool.and_eq_true, decide_eq_true_eq] at h
      have hn' : n ≤ r.length := by simpa using hn
      have := ih h.2 n hn'
      rw [List.drop_succ_cons]
      have mono : ∀ {S : List TJob} {p q : Int}, q ≤ p → rightJ p S = true → rightJ q S = true := fun {S p q} hpq hS => by
        cases S with
        | nil => rfl
        | cons x S =>
          rw [rightJ_cons] at hS ⊢
          rw [Bool.and_eq_true, decide_eq_true_eq] at hS ⊢
          exact ⟨⟨by omega, hS.1.2⟩, hS.2⟩
      exact mono (by have := h.1.1; omega) this
theorem memH_rng {l : List TJob} {waits : List Int} (ho : ∀ j ∈ l, OkJ j) : ∀ x ∈ memH l waits, 0 ≤ x ∧ x < 65536 := by
  have hn := shown_len l
  intro x hx
  unfold memH at hx
  rcases List.mem_cons.1 hx with rfl | hx
  · split <;> omega
  · rcases List.mem_cons.1 hx with rfl | hx
    · omega
    · rcases List.mem_append.1 hx with hx | hx
      · obtain ⟨j, hj, hx⟩ := List.mem_flatMap.1 hx
        have hok := ho j (List.mem_of_mem_drop hj)
        obtain ⟨o1, o2, o3, o4, o5, o6⟩ := hok
        have hst : 0 ≤ stW waits j ∧ stW waits j < 256 := by unfold stW; split <;> omega
        simp [lineS] at hx
        rcases hx with rfl | rfl | rfl | rfl <;> omega
      · have := List.eq_of_mem_replicate hx
        omega
theorem read_mem {l : List TJob} (hl : l.length ≤ 1000000) {waits : List Int} (ho : ∀ j ∈ l, OkJ j) (hr : rightJ 0 l = true) : view_Read (([], [], memH l waits, []), ()) = some ((shownS l).map (lineT waits), true, ()) := by
  have hlen := memH_len l waits
  obtain ⟨n1, n2, n3, n4⟩ := shown_len l
  rw [vread_eq (memH_rng ho) ⟨Nat.zero_le _, Nat.zero_le _, by show (memH l waits).length ≤ _; omega, Nat.zero_le _⟩]
  unfold readV
  dsimp only
  rw [if_pos ⟨rfl, rfl, rfl, hlen⟩]
  have g0 : (memH l waits)[0]? = some (if 65535 < l.length then 65535 else (l.length : Int)) := rfl
  have g1 : (memH l waits)[1]? = some ((shownS l).length : Int) := rfl
  rw [g0, g1]
  dsimp only
  have hmin : ((shownS l).length : Int) = (if 12 < (if 65535 < l.length then 65535 else (l.length : Int)) then 12 else (if 65535 < l.length then 65535 else (l.length : Int))) := by
    split <;> split <;> omega
  rw [if_pos hmin, Int.toNat_natCast]
  have e2 : (memH l waits).drop 2 = (shownS l).flatMap (lineS waits) ++ List.replicate (4 * (12 - (shownS l).length)) 0 := rfl
  have eq : (quads ((memH l waits).drop 2)).take (shownS l).length = (shownS l).map (lineT waits) := by
    rw [e2, quads_mem]
    exact List.take_left' (by rw [List.length_map])
  have ez : (memH l waits).drop (2 + 4 * (shownS l).length) = List.replicate (4 * (12 - (shownS l).length)) 0 := by
    rw [← List.drop_drop, e2]
    exact List.drop_left' (flat4 (line4 waits) _)
  have hz : ((memH l waits).drop (2 + 4 * (shownS l).length)).all (fun x => decide (x = 0)) = true := by
    rw [ez, List.all_eq_true]
    intro x hx
    rw [List.eq_of_mem_replicate hx]
    rfl
  have hk : okL ((if 65535 < l.length then 65535 else (l.length : Int)) - ((shownS l).length : Int)) ((shownS l).map (lineT waits)) = true := by
    refine okL_jobs waits _ _ ?_ (fun j hj => ?_)
    · have := rightJ_drop hr (l.length - 12) (by omega)
      have mono : ∀ {S : List TJob} {p q : Int}, q ≤ p → rightJ p S = true → rightJ q S = true := fun {S p q} hpq hS => by
        cases S with
        | nil => rfl
        | cons x S =>
          rw [rightJ_cons] at hS ⊢
          rw [Bool.and_eq_true, decide_eq_true_eq] at hS ⊢
          exact ⟨⟨by omega, hS.1.2⟩, hS.2⟩
      refine mono ?_ this
      split <;> omega
    · have := ho j (List.mem_of_mem_drop hj)
      exact ⟨this.2.2.2.1, this.2.2.1⟩
  rw [eq, hk, hz]
  rfl
end Go.Proofs.Lx

end

section
/- ViewAgrees, as a plain law. -/
namespace Go.Proofs.Lx
open Go Ev Sx Pl
set_option maxRecDepth 100000
theorem awake29 : law29_awake () = some (true, ()) := by kernel_rfl
theorem okw8 {x : Int} (h : (Lit.int .u8 x).wf = true) : 0 ≤ x ∧ x < 256 := by
  simp [Lit.wf] at h
  have e1 : IntKind.u8.min = 0 := rfl
  have e2 : IntKind.u8.max = 255 := rfl
  omega
theorem okw32 {x : Int} (h : (Lit.int .u32 x).wf = true) : 0 ≤ x ∧ x < 4294967296 := by
  simp [Lit.wf] at h
  have e1 : IntKind.u32.min = 0 := rfl
  have e2 : IntKind.u32.max = 4294967295 := rfl
  omega
theorem okJ_of {j : TJob} (h : Rw.okV (.pr (.int .u32) (.pr (.int .u8) (.pr (.sl (.int .u8)) (.int .u8)))) j) : OkJ j := by
  have h1 := okw32 h.1
  have h2 := okw8 h.2.1
  have h3 := okw8 h.2.2.2
  exact ⟨h1.1, h1.2, h2.1, h2.2, h3.1, h3.2⟩
def wordsV : List (List UInt8) := [[], wRun, wCom, wAbo, wComD, wAboD, wWai]
theorem words_at {k : Int} (h1 : 1 ≤ k) (h2 : k ≤ 6) : at? wordsV k = some (nameS k) := by
  rcases (by omega : k = 1 ∨ k = 2 ∨ k = 3 ∨ k = 4 ∨ k = 5 ∨ k = 6) with h | h | h | h | h | h <;> rw [h] <;> rfl
theorem agrees_K3 {l : List TJob} (hl : l.length ≤ 60) {waits : List Int} (hw : waits.length ≤ 60) (ho : ∀ j ∈ l, OkJ j) (hr : rightJ 0 l = true) :
    law29_ViewAgrees_K3 l waits ((shownS l).length : Int) ((shownS l).map (lineT waits)) ((shownS l).length : Int) ((0 : Nat) : Int) wordsV = some (true, ()) := by
  obtain ⟨n1, n2, n3, n4⟩ := shown_len l
  have hrise := (rightJ_rise hr).1
  unfold law29_ViewAgrees_K3
  refine loop_dt (N := (shownS l).length) (mk := fun i => (l, waits, ((shownS l).length : Int), (shownS l).map (lineT waits), ((shownS l).length : Int), (i : Int), wordsV)) ?_ ?_ (shownS l).length 0 _ (by omega) (by omega)
  · intro self i hi
    have hj := List.getElem?_eq_getElem hi
    have hmem := List.getElem_mem hi
    generalize hjj : (shownS l)[i] = j at hj hmem
    have hjl : l[l.length - (shownS l).length + i]? = some j := by
      unfold shownS at hj
      rw [List.getElem?_drop] at hj
      rw [show l.length - (shownS l).length + i = l.length - 12 + i by omega]
      exact hj
    have hin : j ∈ l := List.mem_of_getElem? hjl
    have hok := ho j hin
    obtain ⟨r1, r2, r3, r4⟩ := rightJ_mem hr j hin
    have hst := stW_rng (waits := waits) r3 r4
    show law29_ViewAgrees_m3 _ _ l waits ((shownS l).length : Int) ((shownS l).map (lineT waits)) ((shownS l).length : Int) (i : Int) wordsV = _
    unfold law29_ViewAgrees_m3
    have hg : ((shownS l).map (lineT waits))[i]? = some (lineT waits j) := by rw [List.getElem?_map, hj]; rfl
    have e0 : add .i64 (sub .i64 (Int.ofNat l.length) ((shownS l).length : Int)) (i : Int) = ((l.length - (shownS l).length + i : Nat) : Int) := by
      rw [ofNat_eq, sub64 (by omega) (by omega), add64 (by omega) (by omega)]; omega
    have eT : (lineT waits j).1 = j.1 := rfl
    have eW : (lineT waits j).2.2 = j.2.1 := rfl
    have eS : (lineT waits j).2.1 = stW waits j := rfl
    have ec : cvt .u16 j.2.1 = j.2.1 := by
      rw [cvt16]
      have := hok.2.2
      omega
    rw [if_pos (by rw [lt_iff]; omega), at_get hg, Option.bind_some, e0, at_get hjl, Option.bind_some, eT, eW, eS, ec]
    rw [if_neg (by rw [nei_iff]; exact fun e => e rfl), if_neg (by rw [nei_iff]; exact fun e => e rfl), if_neg (by rw [lt_iff]; omega), if_neg (by rw [gt_iff]; omega), words_at hst.1 hst.2, Option.bind_some, Option.bind_some, tell_yes hrise (by omega) (by omega) hjl r3 r4, Option.bind_some]
    have : nes (nameS (stW waits j)) (nameS (stW waits j)) = false := by
      rw [Bool.eq_false_iff]
      intro e
      exact (nes_iff.1 e) rfl
    dsimp only
    rw [this]
    unfold law29_ViewAgrees_K4 law29_ViewAgrees_m4
    rw [if_neg (by decide), succ64 (by omega)]
  · intro self
    show law29_ViewAgrees_m3 _ _ l waits ((shownS l).length : Int) ((shownS l).map (lineT waits)) ((shownS l).length : Int) ((shownS l).length : Int) wordsV = _
    unfold law29_ViewAgrees_m3
    rw [if_neg (by rw [lt_iff]; omega), awake29]
    rfl
theorem agrees_law {l : List TJob} {waits : List Int} (ho : ∀ j ∈ l, OkJ j) : law29_ViewAgrees (l, waits, ()) = some (true, ()) := by
  have K1t : law29_ViewAgrees_K1 l waits true = some (true, ()) := by
    unfold law29_ViewAgrees_K1 law29_ViewAgrees_m1
    rw [if_pos rfl, awake29]
    rfl
  show law29_ViewAgrees_m0 law29_ViewAgrees_K1 l waits = _
  unfold law29_ViewAgrees_m0
  by_cases hl : l.length ≤ 60
  · rw [if_neg (by rw [gt_iff, ofNat_eq]; omega)]
    by_cases hw : waits.length ≤ 60
    · rw [if_neg (by rw [gt_iff, ofNat_eq]; omega), lright_eq (by omega), Option.bind_some]
      cases hr : rightJ 0 l with
      | false => exact K1t
      | true =>
        obtain ⟨n1, n2, n3, n4⟩ := shown_len l
        show law29_ViewAgrees_m1 law29_ViewAgrees_K2 l waits false = _
        unfold law29_ViewAgrees_m1
        have hm : (if lt 12 (Int.ofNat l.length) = true then 12 else Int.ofNat l.length) = ((shownS l).length : Int) := by
          simp only [lt_iff, ofNat_eq]
          split <;> omega
        have hml : Int.ofNat ((shownS l).map (lineT waits)).length = ((shownS l).length : Int) := by rw [List.length_map]; rfl
        have h50 : Int.ofNat (memH l waits).length = 50 := by rw [memH_len]; rfl
        have g0 : at? (memH l waits) 0 = some (l.length : Int) := by
          have : (memH l waits)[0]? = some (if 65535 < l.length then 65535 else (l.length : Int)) := rfl
          rw [if_neg (by omega)] at this
          exact at_get (i := 0) this
        have g1 : at? (memH l waits) 1 = some ((shownS l).length : Int) := at_get (i := 1) rfl
        rw [if_neg (by decide), vmem_eq (by omega) (by omega) ho, Option.bind_some]
        dsimp only
        rw [read_mem (by omega) ho hr, Option.bind_some]
        dsimp only
        rw [if_neg (by decide), hm, hml, if_neg (by rw [nei_iff]; exact fun e => e rfl), h50, if_neg (by decide), g0, Option.bind_some, cvt64 (by omega) (by omega), ofNat_eq, if_neg (by rw [nei_iff]; exact fun e => e rfl), g1, Option.bind_some, cvt64 (by omega) (by omega)]
        have hf : nei ((shownS l).length : Int) ((shownS l).length : Int) = false := by simp [nei]
        rw [hf]
        unfold law29_ViewAgrees_K2 law29_ViewAgrees_m2
        rw [if_neg (by decide), hml]
        exact agrees_K3 hl hw ho hr
    · rw [if_pos (by rw [gt_iff, ofNat_eq]; omega)]
      exact K1t
  · rw [if_pos (by rw [gt_iff, ofNat_eq]; omega)]
    exact K1t
abbrev tJob : Ty := .pr (.int .u32) (.pr (.int .u8) (.pr (.sl (.int .u8)) (.int .u8)))
theorem agrees_row (x : As [.sl tJob, .sl (.int .u32)]) (h : Rw.okA [.sl tJob, .sl (.int .u32)] x) : law29_ViewAgrees x = some (true, ()) :=
  agrees_law (l := x.1) (waits := x.2.1) (fun j hj => okJ_of (h.1.2 j hj))
end Go.Proofs.Lx

end
