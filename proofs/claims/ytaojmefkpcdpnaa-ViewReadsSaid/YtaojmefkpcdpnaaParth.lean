/- Proved in the last of these 10 parts (this is part 8): whatever is asked of the registers that show jobs: what reads registers that there are is replied with just these, all else is an exception. Conditions: those of the given statement, and no others. -/
import Derived.Test.YtaojmefkpcdpnaaParte
import Derived.Test.YtaojmefkpcdpnaaPartg
import Derived.Test.YtaojmefkpcdpnaaProg
set_option linter.unusedVariables false
set_option linter.unusedSimpArgs false
set_option linter.unusedSectionVars false
section
/- Contracts, made by a program. -/
open Go Go.Proofs Ev Sx
set_option maxRecDepth 100000
namespace Go.Proofs.Lx
/-! law06_Regs -/
@[reducible] def law06_Regs_s : Sh := ⟨[.d (.sl (.int .u16)), .d (.sl (.int .u16))], [], [.sl (.int .u16), .sl (.int .u16)], [.d (.bool)], [], 0, [.bool]⟩
def law06_Regs_e : Env := (cts [])
def law06_Regs_h : List (Nat × Hint) := [(58, ⟨[], [0, 1, 12, 13]⟩)]
def law06_Regs_k1 (a : List Int) (b : List Int) (t12 : Int) (t13 : Int) : St := { fr := [(0, .d (.sl (.int .u16)) a), (1, .d (.sl (.int .u16)) b), (12, .d (.int .i64) t12), (13, .d (.int .i64) t13)], nt := 26, up := [], own := [], nx := 0, log := [], ln := 0 }
def law06_Regs_m1 (self1 : List Int → List Int → Int → Int → Option (As [.bool])) (a : List Int) (b : List Int) (t12 : Int) (t13 : Int) : Option (As [.bool]) :=
  if lt t13 t12 = true then Option.bind (at? a t13) fun (y : Int) => Option.bind (at? b t13) fun (y_1 : Int) => if nei y y_1 = true then some (false, ()) else self1 a b t12 (add .i64 t13 1) else some (true, ())
def law06_Regs_m0 (j1 : List Int → List Int → Int → Int → Option (As [.bool])) (a : List Int) (b : List Int) : Option (As [.bool]) :=
  if nei (Int.ofNat (List.length a)) (Int.ofNat (List.length b)) = true then some (false, ()) else j1 a b (Int.ofNat (List.length a)) 0
def law06_Regs_K1 (a : List Int) (b : List Int) (t12 : Int) (t13 : Int) : Option (As [.bool]) :=
  loopF (fun (self : (List Int) × (List Int) × (Int) × (Int) → Option (As [.bool])) (s : (List Int) × (List Int) × (Int) × (Int)) => law06_Regs_m1 (fun a b t12 t13 => self (a, b, t12, t13)) s.1 s.2.1 s.2.2.1 s.2.2.2) 18446744073709551616 (a, b, t12, t13)
def law06_Regs (x : As [.sl (.int .u16), .sl (.int .u16)]) : Option (As [.bool]) := law06_Regs_m0 law06_Regs_K1 x.1 x.2.1
theorem law06_Regs_c1 (J : Orc (As [.bool])) (w1 : St → Option (As [.bool])) (a : List Int) (b : List Int) (t12 : Int) (t13 : Int) : pfn Try.prog law06_Regs_e 6 18446744073709551616 (Ev.get law06_Regs_h) 16 law06_Regs_s J 58 [w1] (law06_Regs_k1 a b t12 t13) = law06_Regs_m1 (fun a b t12 t13 => w1 (law06_Regs_k1 a b t12 t13)) a b t12 t13 := by kernel_rfl
theorem law06_Regs_c0 (J : Orc (As [.bool])) (x : As [.sl (.int .u16), .sl (.int .u16)]) : rfn Try.prog law06_Regs_e 6 18446744073709551616 (Ev.get law06_Regs_h) 16 law06_Regs_s J x = law06_Regs_m0 (fun a b t12 t13 => J 58 [] (law06_Regs_k1 a b t12 t13)) x.1 x.2.1 := by kernel_rfl
theorem law06_Regs_g1 (a : List Int) (b : List Int) (t12 : Int) (t13 : Int) : jfn Try.prog law06_Regs_e 6 18446744073709551616 (Ev.get law06_Regs_h) 16 law06_Regs_s 58 [] (law06_Regs_k1 a b t12 t13) = law06_Regs_K1 a b t12 t13 := by
  rw [pfn_eq (by decide)]
  rw [pfn_loop (by kernel_rfl)]
  refine loopF_sim (σ := (List Int) × (List Int) × (Int) × (Int)) (mk := fun s => law06_Regs_k1 s.1 s.2.1 s.2.2.1 s.2.2.2) (fun w1 s => ?_) 18446744073709551616 (a, b, t12, t13)
  refine (law06_Regs_c1 _ w1 s.1 s.2.1 s.2.2.1 s.2.2.2).trans ?_
  rfl
theorem law06_Regs_t (x : As [.sl (.int .u16), .sl (.int .u16)]) : evT Try.prog law06_Regs_e 6 18446744073709551616 (Ev.get law06_Regs_h) 16 law06_Regs_s x = law06_Regs x := by
  have e1 : (fun a b t12 t13 => (jfn Try.prog law06_Regs_e 6 18446744073709551616 (Ev.get law06_Regs_h) 16 law06_Regs_s) 58 [] (law06_Regs_k1 a b t12 t13)) = law06_Regs_K1 := funext fun a => funext fun b => funext fun t12 => funext fun t13 => law06_Regs_g1 a b t12 t13
  rw [rfn_eq, law06_Regs_c0, e1]
  rfl
theorem law06_Regs_ok : CtOk Try.prog (fun _ => True) 16 ⟨law06_Regs_s, law06_Regs⟩ := ct_of_ev env_nil law06_Regs_t
/-! law29_alone -/
@[reducible] def law29_alone_s : Sh := ⟨[.d (.pr (.sl .bool) LAT5), .d (.sl (.int .u16))], [], [.pr (.sl .bool) LAT5, .sl (.int .u16)], [.d (.bool)], [], 0, [.bool]⟩
def law29_alone_e : Env := (cts [(16, (⟨law06_Regs_s, law06_Regs⟩ : Ct))])
def law29_alone_h : List (Nat × Hint) := []
def law29_alone_m0 (m : List Bool × List Bool × List Int × List Int) (r : List Int) : Option (As [.bool]) :=
  Option.bind (law06_Regs (m.2.2.1, r, ())) fun (y : Bool × Unit) => if y.1 = true then some (eqi (add .i64 (add .i64 (Int.ofNat (List.length m.1)) (Int.ofNat (List.length m.2.1))) (Int.ofNat (List.length m.2.2.2))) 0, ()) else some (false, ())
def law29_alone (x : As [.pr (.sl .bool) LAT5, .sl (.int .u16)]) : Option (As [.bool]) := law29_alone_m0 x.1 x.2.1
theorem law29_alone_c0 (J : Orc (As [.bool])) (x : As [.pr (.sl .bool) LAT5, .sl (.int .u16)]) : rfn Try.prog law29_alone_e 6 18446744073709551616 (Ev.get law29_alone_h) 18 law29_alone_s J x = law29_alone_m0 x.1 x.2.1 := by kernel_rfl
theorem law29_alone_t (x : As [.pr (.sl .bool) LAT5, .sl (.int .u16)]) : evT Try.prog law29_alone_e 6 18446744073709551616 (Ev.get law29_alone_h) 18 law29_alone_s x = law29_alone x := by
  rw [rfn_eq, law29_alone_c0]
  rfl
theorem law29_alone_ok : CtOk Try.prog (fun _ => True) 18 ⟨law29_alone_s, law29_alone⟩ := ct_of_ev (env_cons law06_Regs_ok env_nil) law29_alone_t
/-! law06_Same -/
@[reducible] def law06_Same_s : Sh := ⟨[.d (.sl (.int .u8)), .d (.sl (.int .u8))], [], [.sl (.int .u8), .sl (.int .u8)], [.d (.bool)], [], 0, [.bool]⟩
def law06_Same_e : Env := (cts [])
def law06_Same_h : List (Nat × Hint) := []
def law06_Same_m0 (a : List Int) (b : List Int) : Option (As [.bool]) :=
  some (eqs (Sx.toS a) (Sx.toS b), ())
def law06_Same (x : As [.sl (.int .u8), .sl (.int .u8)]) : Option (As [.bool]) := law06_Same_m0 x.1 x.2.1
theorem law06_Same_c0 (J : Orc (As [.bool])) (x : As [.sl (.int .u8), .sl (.int .u8)]) : rfn Try.prog law06_Same_e 6 18446744073709551616 (Ev.get law06_Same_h) 19 law06_Same_s J x = law06_Same_m0 x.1 x.2.1 := by kernel_rfl
theorem law06_Same_t (x : As [.sl (.int .u8), .sl (.int .u8)]) : evT Try.prog law06_Same_e 6 18446744073709551616 (Ev.get law06_Same_h) 19 law06_Same_s x = law06_Same x := by
  rw [rfn_eq, law06_Same_c0]
  rfl
theorem law06_Same_ok : CtOk Try.prog (fun _ => True) 19 ⟨law06_Same_s, law06_Same⟩ := ct_of_ev env_nil law06_Same_t
/-! law29_awake -/
@[reducible] def law29_awake_s : Sh := ⟨[], [], [], [.d (.bool)], [], 0, [.bool]⟩
def law29_awake_e : Env := (cts [(9, (⟨view_Mem_s, view_Mem⟩ : Ct)), (12, (⟨view_Serve_s, view_Serve⟩ : Ct)), (17, (⟨view_Space_s, view_Space⟩ : Ct)), (18, (⟨law29_alone_s, law29_alone⟩ : Ct)), (19, (⟨law06_Same_s, law06_Same⟩ : Ct))])
def law29_awake_h : List (Nat × Hint) := []
def law29_awake_m0 : Option (As [.bool]) :=
  Option.bind (view_Space ()) fun (y : (List LAT2 × List LAT2 × List LAT2 × List LAT2) × Unit) => Option.bind (view_Mem ([(65537, 3, [], 2)], [], ())) fun (y_1 : (List Bool × List Bool × List Int × List Int) × Unit) => Option.bind (law29_alone (y_1.1, [1, 1, 1, 1, 2, 3, 0, 0, 0, 0, 0, 0, 0, 0, 0, 0, 0, 0, 0, 0, 0, 0, 0, 0, 0, 0, 0, 0, 0, 0, 0, 0, 0, 0, 0, 0, 0, 0, 0, 0, 0, 0, 0, 0, 0, 0, 0, 0, 0, 0], ())) fun (y_2 : Bool × Unit) => if y_2.1 = true then if eqi (Int.ofNat (List.length y.1.2.2.1)) 1 = true then Option.bind (at? y.1.2.2.1 0) fun (y_3 : Int × Int × Bool × Bool × Bool) => if (eqi y_3.1 0 && (eqi y_3.2.1 50 && (Sx.eqb y_3.2.2.1 true && (Sx.eqb y_3.2.2.2.1 false && (Sx.eqb y_3.2.2.2.2 false && true))))) = true then if eqi (add .i64 (add .i64 (Int.ofNat (List.length y.1.1)) (Int.ofNat (List.length y.1.2.1))) (Int.ofNat (List.length y.1.2.2.2))) 0 = true then Option.bind (view_Serve ([(65537, 3, [], 2)], [], [3, 0, 0, 0, 2], ())) fun (y : List Int × Unit) => Option.bind (law06_Same (y.1, [3, 4, 0, 1, 0, 1], ())) fun (y : Bool × Unit) => if y.1 = true then Option.bind (view_Serve ([(65537, 3, [], 2)], [], [6, 0, 0, 0, 1], ())) fun (y : List Int × Unit) => Option.bind (law06_Same (y.1, [134, 2], ())) fun (y : Bool × Unit) => if y.1 = true then Option.bind (view_Serve ([(65537, 3, [], 2)], [], [3, 0, 49, 0, 2], ())) fun (y : List Int × Unit) => Option.bind (law06_Same (y.1, [131, 2], ())) fun (y : Bool × Unit) => some (y.1, ()) else some (false, ()) else some (false, ()) else some (false, ()) else some (false, ()) else some (false, ()) else some (false, ())
def law29_awake (x : As []) : Option (As [.bool]) := law29_awake_m0
theorem law29_awake_c0 (J : Orc (As [.bool])) (x : As []) : rfn Try.prog law29_awake_e 6 18446744073709551616 (Ev.get law29_awake_h) 6 law29_awake_s J x = law29_awake_m0 := by kernel_rfl
theorem law29_awake_t (x : As []) : evT Try.prog law29_awake_e 6 18446744073709551616 (Ev.get law29_awake_h) 6 law29_awake_s x = law29_awake x := by
  rw [rfn_eq, law29_awake_c0]
  rfl
theorem law29_awake_ok : CtOk Try.prog (fun _ => True) 6 ⟨law29_awake_s, law29_awake⟩ := ct_of_ev (env_cons view_Mem_ok (env_cons view_Serve_ok (env_cons view_Space_ok (env_cons law29_alone_ok (env_cons law06_Same_ok env_nil))))) law29_awake_t
/-! words_Wide -/
def words_Wide_m0 (high : Int) (low : Int) : Option (As [.int .u32]) :=
  some (Sx.bor .u32 (Sx.shl .u32 (cvt .u32 high) 16) (cvt .u32 low), ())
def words_Wide (x : As [.int .u16, .int .u16]) : Option (As [.int .u32]) := words_Wide_m0 x.1 x.2.1
/-! view_possible -/
def view_possible_m0 (x : Int × Int × Int) : Option (As [.bool]) :=
  if ge x.2.1 1 = true then if le x.2.1 6 = true then if ge x.2.2 1 = true then some (le x.2.2 255, ()) else some (false, ()) else some (false, ()) else some (false, ())
def view_possible (x : As [.pr (.int .u32) (.pr (.int .u16) (.int .u16))]) : Option (As [.bool]) := view_possible_m0 x.1
/-! view_Read -/
@[reducible] def view_Read_s : Sh := ⟨[.d (.pr (.sl .bool) LAT5)], [], [.pr (.sl .bool) LAT5], [.d (.sl LAT7), .d (.bool)], [], 0, [.sl LAT7, .bool]⟩
def view_Read_m1 (j2 : List Int → Int → Int → Int → Int → List (Int × Int × Int) → Option (As [.sl LAT7, .bool])) (t34 : Bool) (m : List Bool × List Bool × List Int × List Int) : Option (As [.sl LAT7, .bool]) :=
  if t34 = true then some ([], false, ()) else Option.bind (at? m.2.2.1 1) fun (y : Int) => Option.bind (at? m.2.2.1 0) fun (y_1 : Int) => if nei (cvt .i64 y) (if lt 12 (cvt .i64 y_1) = true then 12 else cvt .i64 y_1) = true then some ([], false, ()) else Option.bind (at? m.2.2.1 0) fun (y_2 : Int) => j2 m.2.2.1 (cvt .i64 y) (cvt .u32 (Sx.sub .i64 (cvt .i64 y_2) (cvt .i64 y))) (cvt .i64 y) 0 []
def view_Read_m2 (j3 : List Int → Int → Int → Int → Int → List (Int × Int × Int) → Int × Int × Int → Option (As [.sl LAT7, .bool])) (j4 : List Int → Int → List (Int × Int × Int) → Option (As [.sl LAT7, .bool])) (self2 : List Int → Int → Int → Int → Int → List (Int × Int × Int) → Option (As [.sl LAT7, .bool])) (h : List Int) (shown : Int) (before : Int) (t55 : Int) (t56 : Int) (l : List (Int × Int × Int)) : Option (As [.sl LAT7, .bool]) :=
  if lt t56 t55 = true then Option.bind (at? h (add .i64 2 (mul .i64 4 t56))) fun (y : Int) => Option.bind (at? h (add .i64 (add .i64 2 (mul .i64 4 t56)) 1)) fun (y_1 : Int) => Option.bind (at? h (add .i64 (add .i64 2 (mul .i64 4 t56)) 2)) fun (y_2 : Int) => Option.bind (at? h (add .i64 (add .i64 2 (mul .i64 4 t56)) 3)) fun (y_3 : Int) => amb (eqAs view_Read_s.rs) [Option.bind (words_Wide (y, y_1, ())) fun (y : Int × Unit) => j3 h shown before t55 t56 l (y.1, y_2, y_3), Option.bind (words_Wide (y, y_1, ())) fun (y : Int × Unit) => j3 h shown before t55 t56 l (y.1, y_2, y_3)] else j4 h shown l
def view_Read_m3 (j5 : List Int → Int → Int → Int → Bool → List (Int × Int × Int) → Int × Int × Int → Option (As [.sl LAT7, .bool])) (self2 : List Int → Int → Int → Int → Int → List (Int × Int × Int) → Option (As [.sl LAT7, .bool])) (h : List Int) (shown : Int) (before : Int) (t55 : Int) (t56 : Int) (l : List (Int × Int × Int)) (x : Int × Int × Int) : Option (As [.sl LAT7, .bool]) :=
  if le x.1 before = true then j5 h shown t55 t56 true l x else Option.bind (view_possible (x, ())) fun (y : Bool × Unit) => j5 h shown t55 t56 (!y.1) l x
def view_Read_m4 (j6 : List Int → Int → Int → List (Int × Int × Int) → Option (As [.sl LAT7, .bool])) (h : List Int) (shown : Int) (l : List (Int × Int × Int)) : Option (As [.sl LAT7, .bool]) :=
  Option.bind (cut h (add .i64 2 (mul .i64 4 shown)) (Int.ofNat (List.length h))) fun (y : List Int) => j6 y (Int.ofNat (List.length y)) 0 l
def view_Read_m5 (self2 : List Int → Int → Int → Int → Int → List (Int × Int × Int) → Option (As [.sl LAT7, .bool])) (h : List Int) (shown : Int) (t55 : Int) (t56 : Int) (t91 : Bool) (l : List (Int × Int × Int)) (x : Int × Int × Int) : Option (As [.sl LAT7, .bool]) :=
  if t91 = true then some ([], false, ()) else need (small (List.length l + Nat.succ 0)) (self2 h shown x.1 t55 (add .i64 t56 1) (l ++ [x]))
def view_Read_m6 (j7 : List (Int × Int × Int) → Option (As [.sl LAT7, .bool])) (self6 : List Int → Int → Int → List (Int × Int × Int) → Option (As [.sl LAT7, .bool])) (t103 : List Int) (t104 : Int) (t105 : Int) (l : List (Int × Int × Int)) : Option (As [.sl LAT7, .bool]) :=
  if lt t105 t104 = true then Option.bind (at? t103 t105) fun (y : Int) => if nei y 0 = true then some ([], false, ()) else self6 t103 t104 (add .i64 t105 1) l else j7 l
def view_Read_m7 (l : List (Int × Int × Int)) : Option (As [.sl LAT7, .bool]) :=
  some (l, true, ())
def view_Read_m0 (j1 : Bool → List Bool × List Bool × List Int × List Int → Option (As [.sl LAT7, .bool])) (m : List Bool × List Bool × List Int × List Int) : Option (As [.sl LAT7, .bool]) :=
  if nei (Int.ofNat (List.length m.1)) 0 = true then j1 true m else if nei (Int.ofNat (List.length m.2.1)) 0 = true then j1 true m else if nei (Int.ofNat (List.length m.2.2.2)) 0 = true then j1 true m else j1 (nei (Int.ofNat (List.length m.2.2.1)) 50) m
def view_Read_K5 (u2 : List Int → Int → Int → Int → Int → List (Int × Int × Int) → Option (As [.sl LAT7, .bool])) (h : List Int) (shown : Int) (t55 : Int) (t56 : Int) (t91 : Bool) (l : List (Int × Int × Int)) (x : Int × Int × Int) : Option (As [.sl LAT7, .bool]) := view_Read_m5 u2 h shown t55 t56 t91 l x
def view_Read_K3 (u2 : List Int → Int → Int → Int → Int → List (Int × Int × Int) → Option (As [.sl LAT7, .bool])) (h : List Int) (shown : Int) (before : Int) (t55 : Int) (t56 : Int) (l : List (Int × Int × Int)) (x : Int × Int × Int) : Option (As [.sl LAT7, .bool]) := view_Read_m3 (view_Read_K5 u2) u2 h shown before t55 t56 l x
def view_Read_K7 (l : List (Int × Int × Int)) : Option (As [.sl LAT7, .bool]) := view_Read_m7 l
def view_Read_K6 (t103 : List Int) (t104 : Int) (t105 : Int) (l : List (Int × Int × Int)) : Option (As [.sl LAT7, .bool]) :=
  loopF (fun (self : (List Int) × (Int) × (Int) × (List (Int × Int × Int)) → Option (As [.sl LAT7, .bool])) (s : (List Int) × (Int) × (Int) × (List (Int × Int × Int))) => view_Read_m6 (view_Read_K7) (fun t103 t104 t105 l => self (t103, t104, t105, l)) s.1 s.2.1 s.2.2.1 s.2.2.2) 18446744073709551616 (t103, t104, t105, l)
def view_Read_K4 (h : List Int) (shown : Int) (l : List (Int × Int × Int)) : Option (As [.sl LAT7, .bool]) := view_Read_m4 (view_Read_K6) h shown l
def view_Read_K2 (h : List Int) (shown : Int) (before : Int) (t55 : Int) (t56 : Int) (l : List (Int × Int × Int)) : Option (As [.sl LAT7, .bool]) :=
  loopF (fun (self : (List Int) × (Int) × (Int) × (Int) × (Int) × (List (Int × Int × Int)) → Option (As [.sl LAT7, .bool])) (s : (List Int) × (Int) × (Int) × (Int) × (Int) × (List (Int × Int × Int))) => view_Read_m2 (view_Read_K3 (fun h shown before t55 t56 l => self (h, shown, before, t55, t56, l))) (view_Read_K4) (fun h shown before t55 t56 l => self (h, shown, before, t55, t56, l)) s.1 s.2.1 s.2.2.1 s.2.2.2.1 s.2.2.2.2.1 s.2.2.2.2.2) 18446744073709551616 (h, shown, before, t55, t56, l)
def view_Read_K1 (t34 : Bool) (m : List Bool × List Bool × List Int × List Int) : Option (As [.sl LAT7, .bool]) := view_Read_m1 (view_Read_K2) t34 m
def view_Read (x : As [.pr (.sl .bool) LAT5]) : Option (As [.sl LAT7, .bool]) := view_Read_m0 view_Read_K1 x.1
/-! ledger_Right -/
@[reducible] def ledger_Right_s : Sh := ⟨[.d (.sl LAT3)], [], [.sl LAT3], [.d (.bool)], [], 0, [.bool]⟩
def ledger_Right_e : Env := (cts [])
def ledger_Right_h : List (Nat × Hint) := [(58, ⟨[], [3, 6, 7, 8, 17, 18, 19, 22, 23, 24, 25, 31, 32, 33]⟩), (14950, ⟨[], [5, 6, 7, 8, 34]⟩), (7474, ⟨[], [5, 6, 7, 8, 26]⟩)]
def ledger_Right_k1 (last : Int) (t6 : List LAT6) (t7 : Int) (t8 : Int) : St := { fr := [(3, .d (.int .u32) last), (6, .d (.sl LAT3) t6), (7, .d (.int .i64) t7), (8, .d (.int .i64) t8)], nt := 38, up := [], own := [], nx := 0, log := [], ln := 0 }
def ledger_Right_k2 (t6 : List LAT6) (t7 : Int) (t8 : Int) (t26 : Bool) (j : Int × Int × List Int × Int) : St := { fr := [(5, .pb 0 0), (6, .d (.sl LAT3) t6), (7, .d (.int .i64) t7), (8, .d (.int .i64) t8), (26, .d .bool t26)], nt := 38, up := [], own := [(0, .box 48 [.d (.int .u32) j.1, .d (.int .u8) j.2.1, .d (.sl (.int .u8)) j.2.2.1, .d (.int .u8) j.2.2.2])], nx := 1, log := [], ln := 0 }
def ledger_Right_k3 (t6 : List LAT6) (t7 : Int) (t8 : Int) (t34 : Bool) (j : Int × Int × List Int × Int) : St := { fr := [(5, .pb 0 0), (6, .d (.sl LAT3) t6), (7, .d (.int .i64) t7), (8, .d (.int .i64) t8), (34, .d .bool t34)], nt := 38, up := [], own := [(0, .box 48 [.d (.int .u32) j.1, .d (.int .u8) j.2.1, .d (.sl (.int .u8)) j.2.2.1, .d (.int .u8) j.2.2.2])], nx := 1, log := [], ln := 0 }
def ledger_Right_m1 (j2 : List LAT6 → Int → Int → Bool → Int × Int × List Int × Int → Option (As [.bool])) (self1 : Int → List LAT6 → Int → Int → Option (As [.bool])) (last : Int) (t6 : List LAT6) (t7 : Int) (t8 : Int) : Option (As [.bool]) :=
  if lt t8 t7 = true then Option.bind (at? t6 t8) fun (y : Int × Int × List Int × Int) => if le y.1 last = true then j2 t6 t7 t8 true y else if eqi y.2.1 0 = true then j2 t6 t7 t8 true y else j2 t6 t7 t8 (gt (Int.ofNat (List.length y.2.2.1)) 8192) y else some (true, ())
def ledger_Right_m2 (j3 : List LAT6 → Int → Int → Bool → Int × Int × List Int × Int → Option (As [.bool])) (self1 : Int → List LAT6 → Int → Int → Option (As [.bool])) (t6 : List LAT6) (t7 : Int) (t8 : Int) (t26 : Bool) (j : Int × Int × List Int × Int) : Option (As [.bool]) :=
  if t26 = true then some (false, ()) else if lt j.2.2.2 1 = true then j3 t6 t7 t8 true j else j3 t6 t7 t8 (gt j.2.2.2 5) j
def ledger_Right_m3 (self1 : Int → List LAT6 → Int → Int → Option (As [.bool])) (t6 : List LAT6) (t7 : Int) (t8 : Int) (t34 : Bool) (j : Int × Int × List Int × Int) : Option (As [.bool]) :=
  if t34 = true then some (false, ()) else self1 j.1 t6 t7 (add .i64 t8 1)
def ledger_Right_m0 (j1 : Int → List LAT6 → Int → Int → Option (As [.bool])) (l : List LAT6) : Option (As [.bool]) :=
  j1 0 l (Int.ofNat (List.length l)) 0
def ledger_Right_K3 (u1 : Int → List LAT6 → Int → Int → Option (As [.bool])) (t6 : List LAT6) (t7 : Int) (t8 : Int) (t34 : Bool) (j : Int × Int × List Int × Int) : Option (As [.bool]) := ledger_Right_m3 u1 t6 t7 t8 t34 j
def ledger_Right_K2 (u1 : Int → List LAT6 → Int → Int → Option (As [.bool])) (t6 : List LAT6) (t7 : Int) (t8 : Int) (t26 : Bool) (j : Int × Int × List Int × Int) : Option (As [.bool]) := ledger_Right_m2 (ledger_Right_K3 u1) u1 t6 t7 t8 t26 j
def ledger_Right_K1 (last : Int) (t6 : List LAT6) (t7 : Int) (t8 : Int) : Option (As [.bool]) :=
  loopF (fun (self : (Int) × (List LAT6) × (Int) × (Int) → Option (As [.bool])) (s : (Int) × (List LAT6) × (Int) × (Int)) => ledger_Right_m1 (ledger_Right_K2 (fun last t6 t7 t8 => self (last, t6, t7, t8))) (fun last t6 t7 t8 => self (last, t6, t7, t8)) s.1 s.2.1 s.2.2.1 s.2.2.2) 18446744073709551616 (last, t6, t7, t8)
def ledger_Right (x : As [.sl LAT3]) : Option (As [.bool]) := ledger_Right_m0 ledger_Right_K1 x.1
theorem ledger_Right_c3 (J : Orc (As [.bool])) (w1 : St → Option (As [.bool])) (t6 : List LAT6) (t7 : Int) (t8 : Int) (t34 : Bool) (j : Int × Int × List Int × Int) : pfn Try.prog ledger_Right_e 6 18446744073709551616 (Ev.get ledger_Right_h) 10 ledger_Right_s J 14950 [w1] (ledger_Right_k3 t6 t7 t8 t34 j) = ledger_Right_m3 (fun last t6 t7 t8 => w1 (ledger_Right_k1 last t6 t7 t8)) t6 t7 t8 t34 j := by kernel_rfl
theorem ledger_Right_c2 (J : Orc (As [.bool])) (w1 : St → Option (As [.bool])) (t6 : List LAT6) (t7 : Int) (t8 : Int) (t26 : Bool) (j : Int × Int × List Int × Int) : pfn Try.prog ledger_Right_e 6 18446744073709551616 (Ev.get ledger_Right_h) 10 ledger_Right_s J 7474 [w1] (ledger_Right_k2 t6 t7 t8 t26 j) = ledger_Right_m2 (fun t6 t7 t8 t34 j => J 14950 [w1] (ledger_Right_k3 t6 t7 t8 t34 j)) (fun last t6 t7 t8 => w1 (ledger_Right_k1 last t6 t7 t8)) t6 t7 t8 t26 j := by kernel_rfl
theorem ledger_Right_c1 (J : Orc (As [.bool])) (w1 : St → Option (As [.bool])) (last : Int) (t6 : List LAT6) (t7 : Int) (t8 : Int) : pfn Try.prog ledger_Right_e 6 18446744073709551616 (Ev.get ledger_Right_h) 10 ledger_Right_s J 58 [w1] (ledger_Right_k1 last t6 t7 t8) = ledger_Right_m1 (fun t6 t7 t8 t26 j => J 7474 [w1] (ledger_Right_k2 t6 t7 t8 t26 j)) (fun last t6 t7 t8 => w1 (ledger_Right_k1 last t6 t7 t8)) last t6 t7 t8 := by kernel_rfl
theorem ledger_Right_c0 (J : Orc (As [.bool])) (x : As [.sl LAT3]) : rfn Try.prog ledger_Right_e 6 18446744073709551616 (Ev.get ledger_Right_h) 10 ledger_Right_s J x = ledger_Right_m0 (fun last t6 t7 t8 => J 58 [] (ledger_Right_k1 last t6 t7 t8)) x.1 := by kernel_rfl
theorem ledger_Right_g3 (w1 : St → Option (As [.bool])) (t6 : List LAT6) (t7 : Int) (t8 : Int) (t34 : Bool) (j : Int × Int × List Int × Int) : jfn Try.prog ledger_Right_e 6 18446744073709551616 (Ev.get ledger_Right_h) 10 ledger_Right_s 14950 [w1] (ledger_Right_k3 t6 t7 t8 t34 j) = ledger_Right_K3 (fun last t6 t7 t8 => w1 (ledger_Right_k1 last t6 t7 t8)) t6 t7 t8 t34 j := by
  rw [pfn_eq (by decide)]
  rw [ledger_Right_c3]
  rfl
theorem ledger_Right_g2 (w1 : St → Option (As [.bool])) (t6 : List LAT6) (t7 : Int) (t8 : Int) (t26 : Bool) (j : Int × Int × List Int × Int) : jfn Try.prog ledger_Right_e 6 18446744073709551616 (Ev.get ledger_Right_h) 10 ledger_Right_s 7474 [w1] (ledger_Right_k2 t6 t7 t8 t26 j) = ledger_Right_K2 (fun last t6 t7 t8 => w1 (ledger_Right_k1 last t6 t7 t8)) t6 t7 t8 t26 j := by
  rw [pfn_eq (by decide)]
  have e3 : (fun t6 t7 t8 t34 j => (jfn Try.prog ledger_Right_e 6 18446744073709551616 (Ev.get ledger_Right_h) 10 ledger_Right_s) 14950 [w1] (ledger_Right_k3 t6 t7 t8 t34 j)) = ledger_Right_K3 (fun last t6 t7 t8 => w1 (ledger_Right_k1 last t6 t7 t8)) := funext fun t6 => funext fun t7 => funext fun t8 => funext fun t34 => funext fun j => ledger_Right_g3 w1 t6 t7 t8 t34 j
  rw [ledger_Right_c2, e3]
  rfl
theorem ledger_Right_g1 (last : Int) (t6 : List LAT6) (t7 : Int) (t8 : Int) : jfn Try.prog ledger_Right_e 6 18446744073709551616 (Ev.get ledger_Right_h) 10 ledger_Right_s 58 [] (ledger_Right_k1 last t6 t7 t8) = ledger_Right_K1 last t6 t7 t8 := by
  rw [pfn_eq (by decide)]
  rw [pfn_loop (by kernel_rfl)]
  refine loopF_sim (σ := (Int) × (List LAT6) × (Int) × (Int)) (mk := fun s => ledger_Right_k1 s.1 s.2.1 s.2.2.1 s.2.2.2) (fun w1 s => ?_) 18446744073709551616 (last, t6, t7, t8)
  have e2 : (fun t6 t7 t8 t26 j => (jfn Try.prog ledger_Right_e 6 18446744073709551616 (Ev.get ledger_Right_h) 10 ledger_Right_s) 7474 [w1] (ledger_Right_k2 t6 t7 t8 t26 j)) = ledger_Right_K2 (fun last t6 t7 t8 => w1 (ledger_Right_k1 last t6 t7 t8)) := funext fun t6 => funext fun t7 => funext fun t8 => funext fun t26 => funext fun j => ledger_Right_g2 w1 t6 t7 t8 t26 j
  refine (ledger_Right_c1 _ w1 s.1 s.2.1 s.2.2.1 s.2.2.2).trans ?_
  rw [e2]
theorem ledger_Right_t (x : As [.sl LAT3]) : evT Try.prog ledger_Right_e 6 18446744073709551616 (Ev.get ledger_Right_h) 10 ledger_Right_s x = ledger_Right x := by
  have e1 : (fun last t6 t7 t8 => (jfn Try.prog ledger_Right_e 6 18446744073709551616 (Ev.get ledger_Right_h) 10 ledger_Right_s) 58 [] (ledger_Right_k1 last t6 t7 t8)) = ledger_Right_K1 := funext fun last => funext fun t6 => funext fun t7 => funext fun t8 => ledger_Right_g1 last t6 t7 t8
  rw [rfn_eq, ledger_Right_c0, e1]
  rfl
theorem ledger_Right_ok : CtOk Try.prog (fun _ => True) 10 ⟨ledger_Right_s, ledger_Right⟩ := ct_of_ev env_nil ledger_Right_t
/-! ledger_at_z1 -/
def ledger_at_z1_m0 (j : Int × Int × List Int × Int) (tx : Int) : Option (As [.int .i64]) :=
  if lt j.1 tx = true then some (-1, ()) else if gt j.1 tx = true then some (1, ()) else some (0, ())
def ledger_at_z1 (x : As [.pr (.int .u32) LAT10, .int .u32]) : Option (As [.int .i64]) := ledger_at_z1_m0 x.1 x.2.1
/-! slices_BinarySearchFunc_Guint32 -/
def slices_BinarySearchFunc_Guint32_m1 (j2 : List LAT6 → Int → Int → Int → Option (As [.int .i64, .bool])) (self1 : List LAT6 → Int → Int → Int → Int → Option (As [.int .i64, .bool])) (x : List LAT6) (target : Int) (n : Int) (i : Int) (j : Int) : Option (As [.int .i64, .bool]) :=
  if lt i j = true then Option.bind (at? x (cvt .i64 (Sx.shr .u64 (cvt .u64 (add .i64 i j)) 1))) fun (y : Int × Int × List Int × Int) => Option.bind (ledger_at_z1 (y, target, ())) fun (y : Int × Unit) => if lt y.1 0 = true then self1 x target n (add .i64 (cvt .i64 (Sx.shr .u64 (cvt .u64 (add .i64 i j)) 1)) 1) j else self1 x target n i (cvt .i64 (Sx.shr .u64 (cvt .u64 (add .i64 i j)) 1)) else j2 x target n i
def slices_BinarySearchFunc_Guint32_m2 (x : List LAT6) (target : Int) (n : Int) (i : Int) : Option (As [.int .i64, .bool]) :=
  if lt i n = true then Option.bind (at? x i) fun (y : Int × Int × List Int × Int) => Option.bind (ledger_at_z1 (y, target, ())) fun (y : Int × Unit) => some (i, eqi y.1 0, ()) else some (i, false, ())
def slices_BinarySearchFunc_Guint32_m0 (j1 : List LAT6 → Int → Int → Int → Int → Option (As [.int .i64, .bool])) (x : List LAT6) (target : Int) : Option (As [.int .i64, .bool]) :=
  j1 x target (Int.ofNat (List.length x)) 0 (Int.ofNat (List.length x))
def slices_BinarySearchFunc_Guint32_K2 (x : List LAT6) (target : Int) (n : Int) (i : Int) : Option (As [.int .i64, .bool]) := slices_BinarySearchFunc_Guint32_m2 x target n i
def slices_BinarySearchFunc_Guint32_K1 (x : List LAT6) (target : Int) (n : Int) (i : Int) (j : Int) : Option (As [.int .i64, .bool]) :=
  loopF (fun (self : (List LAT6) × (Int) × (Int) × (Int) × (Int) → Option (As [.int .i64, .bool])) (s : (List LAT6) × (Int) × (Int) × (Int) × (Int)) => slices_BinarySearchFunc_Guint32_m1 (slices_BinarySearchFunc_Guint32_K2) (fun x target n i j => self (x, target, n, i, j)) s.1 s.2.1 s.2.2.1 s.2.2.2.1 s.2.2.2.2) 18446744073709551616 (x, target, n, i, j)
def slices_BinarySearchFunc_Guint32 (x : As [.sl LAT3, .int .u32]) : Option (As [.int .i64, .bool]) := slices_BinarySearchFunc_Guint32_m0 slices_BinarySearchFunc_Guint32_K1 x.1 x.2.1
/-! slices_BinarySearchFunc_Guint32_r -/
def slices_BinarySearchFunc_Guint32_r_m1 (j2 : Int → Int → Int → List LAT6 → Option (As [.int .i64, .bool, .sl LAT3])) (self1 : Int → Int → Int → Int → List LAT6 → Option (As [.int .i64, .bool, .sl LAT3])) (target : Int) (n : Int) (i : Int) (j : Int) (x : List LAT6) : Option (As [.int .i64, .bool, .sl LAT3]) :=
  if lt i j = true then Option.bind (at? x (cvt .i64 (Sx.shr .u64 (cvt .u64 (add .i64 i j)) 1))) fun (x_1 : Int × Int × List Int × Int) => Option.bind (at? x (cvt .i64 (Sx.shr .u64 (cvt .u64 (add .i64 i j)) 1))) fun (y : Int × Int × List Int × Int) => Option.bind (ledger_at_z1 (y, target, ())) fun (y : Int × Unit) => if lt y.1 0 = true then self1 target n (add .i64 (cvt .i64 (Sx.shr .u64 (cvt .u64 (add .i64 i j)) 1)) 1) j x else self1 target n i (cvt .i64 (Sx.shr .u64 (cvt .u64 (add .i64 i j)) 1)) x else j2 target n i x
def slices_BinarySearchFunc_Guint32_r_m2 (target : Int) (n : Int) (i : Int) (x : List LAT6) : Option (As [.int .i64, .bool, .sl LAT3]) :=
  if lt i n = true then Option.bind (at? x i) fun (x_1 : Int × Int × List Int × Int) => Option.bind (at? x i) fun (y : Int × Int × List Int × Int) => Option.bind (ledger_at_z1 (y, target, ())) fun (y : Int × Unit) => some (i, eqi y.1 0, x, ()) else some (i, false, x, ())
def slices_BinarySearchFunc_Guint32_r_m0 (j1 : Int → Int → Int → Int → List LAT6 → Option (As [.int .i64, .bool, .sl LAT3])) (x : Int) (target : List LAT6) : Option (As [.int .i64, .bool, .sl LAT3]) :=
  j1 x (Int.ofNat (List.length target)) 0 (Int.ofNat (List.length target)) target
def slices_BinarySearchFunc_Guint32_r_K2 (target : Int) (n : Int) (i : Int) (x : List LAT6) : Option (As [.int .i64, .bool, .sl LAT3]) := slices_BinarySearchFunc_Guint32_r_m2 target n i x
def slices_BinarySearchFunc_Guint32_r_K1 (target : Int) (n : Int) (i : Int) (j : Int) (x : List LAT6) : Option (As [.int .i64, .bool, .sl LAT3]) :=
  loopF (fun (self : (Int) × (Int) × (Int) × (Int) × (List LAT6) → Option (As [.int .i64, .bool, .sl LAT3])) (s : (Int) × (Int) × (Int) × (Int) × (List LAT6)) => slices_BinarySearchFunc_Guint32_r_m1 (slices_BinarySearchFunc_Guint32_r_K2) (fun target n i j x => self (target, n, i, j, x)) s.1 s.2.1 s.2.2.1 s.2.2.2.1 s.2.2.2.2) 18446744073709551616 (target, n, i, j, x)
def slices_BinarySearchFunc_Guint32_r (x : As [.int .u32, .sl LAT3]) : Option (As [.int .i64, .bool, .sl LAT3]) := slices_BinarySearchFunc_Guint32_r_m0 slices_BinarySearchFunc_Guint32_r_K1 x.1 x.2.1
/-! ledger_at -/
def ledger_at_m0 (l : List LAT6) (tx : Int) : Option (As [.int .i64]) :=
  Option.bind (slices_BinarySearchFunc_Guint32 (l, tx, ())) fun (y : Int × Bool × Unit) => some (y.1, ())
def ledger_at (x : As [.sl LAT3, .int .u32]) : Option (As [.int .i64]) := ledger_at_m0 x.1 x.2.1
/-! ledger_at_r -/
def ledger_at_r_m0 (l : Int) (tx : List LAT6) : Option (As [.int .i64, .sl LAT3]) :=
  Option.bind (slices_BinarySearchFunc_Guint32_r (l, tx, ())) fun (y : Int × Bool × List LAT6 × Unit) => some (y.1, y.2.2.1, ())
def ledger_at_r (x : As [.int .u32, .sl LAT3]) : Option (As [.int .i64, .sl LAT3]) := ledger_at_r_m0 x.1 x.2.1
/-! ledger_Find -/
def ledger_Find_m1 (i : Int) (t22 : Bool) : Option (As [.int .i64, .bool]) :=
  if t22 = true then some (0, false, ()) else some (i, true, ())
def ledger_Find_m0 (j1 : Int → Bool → Option (As [.int .i64, .bool])) (l : List LAT6) (tx : Int) : Option (As [.int .i64, .bool]) :=
  Option.bind (ledger_at (l, tx, ())) fun (y : Int × Unit) => if ge y.1 (Int.ofNat (List.length l)) = true then j1 y.1 true else Option.bind (at? l y.1) fun (y_1 : Int × Int × List Int × Int) => j1 y.1 (nei y_1.1 tx)
def ledger_Find_K1 (i : Int) (t22 : Bool) : Option (As [.int .i64, .bool]) := ledger_Find_m1 i t22
def ledger_Find (x : As [.sl LAT3, .int .u32]) : Option (As [.int .i64, .bool]) := ledger_Find_m0 ledger_Find_K1 x.1 x.2.1
/-! ledger_Find_r -/
def ledger_Find_r_m1 (i : Int) (t22 : Bool) (o : List LAT6) : Option (As [.int .i64, .bool, .sl LAT3]) :=
  if t22 = true then some (0, false, o, ()) else some (i, true, o, ())
def ledger_Find_r_m0 (j1 : Int → Bool → List LAT6 → Option (As [.int .i64, .bool, .sl LAT3])) (l : Int) (tx : List LAT6) : Option (As [.int .i64, .bool, .sl LAT3]) :=
  Option.bind (ledger_at_r (l, tx, ())) fun (y : Int × List LAT6 × Unit) => if ge y.1 (Int.ofNat (List.length y.2.1)) = true then j1 y.1 true y.2.1 else Option.bind (at? y.2.1 y.1) fun (x : Int × Int × List Int × Int) => Option.bind (at? y.2.1 y.1) fun (y_1 : Int × Int × List Int × Int) => j1 y.1 (nei y_1.1 l) y.2.1
def ledger_Find_r_K1 (i : Int) (t22 : Bool) (o : List LAT6) : Option (As [.int .i64, .bool, .sl LAT3]) := ledger_Find_r_m1 i t22 o
def ledger_Find_r (x : As [.int .u32, .sl LAT3]) : Option (As [.int .i64, .bool, .sl LAT3]) := ledger_Find_r_m0 ledger_Find_r_K1 x.1 x.2.1
/-! status_Tell_z1 -/
def status_Tell_z1_m0 (tx : Int) (v : List Int) : Option (As [.bool, .sl (.int .u32)]) :=
  Option.bind (slices_Contains_Guint32 (v, tx, ())) fun (y : Bool × Unit) => some (y.1, v, ())
def status_Tell_z1 (x : As [.int .u32, .sl (.int .u32)]) : Option (As [.bool, .sl (.int .u32)]) := status_Tell_z1_m0 x.1 x.2.1
/-! status_report -/
def status_report_m1 (t15 : Bool) (o : List Int) (j : Int × Int × List Int × Int) (reports : List (List UInt8)) : Option (As [.str, .sl (.int .u32)]) :=
  if t15 = true then some ([119, 97, 105, 116, 105, 110, 103], o, ()) else if ge (cvt .i64 j.2.2.2) 6 = true then some ([], o, ()) else need (lt j.2.2.2 6) (Option.bind (at? reports j.2.2.2) fun (x : List UInt8) => Option.bind (at? reports j.2.2.2) fun (y : List UInt8) => some (y, o, ()))
def status_report_m0 (j1 : Bool → List Int → Int × Int × List Int × Int → List (List UInt8) → Option (As [.str, .sl (.int .u32)])) (j : Int × Int × List Int × Int) (waits : List Int) : Option (As [.str, .sl (.int .u32)]) :=
  if eqi j.2.2.2 1 = true then Option.bind (status_Tell_z1 (j.1, waits, ())) fun (y : Bool × List Int × Unit) => j1 y.1 y.2.1 j [[], [114, 117, 110, 110, 105, 110, 103], [99, 111, 109, 109, 105, 116, 116, 101, 100], [97, 98, 111, 114, 116, 101, 100], [99, 111, 109, 109, 105, 116, 116, 101, 100, 32, 100, 111, 110, 101], [97, 98, 111, 114, 116, 101, 100, 32, 100, 111, 110, 101]] else j1 false waits j [[], [114, 117, 110, 110, 105, 110, 103], [99, 111, 109, 109, 105, 116, 116, 101, 100], [97, 98, 111, 114, 116, 101, 100], [99, 111, 109, 109, 105, 116, 116, 101, 100, 32, 100, 111, 110, 101], [97, 98, 111, 114, 116, 101, 100, 32, 100, 111, 110, 101]]
def status_report_K1 (t15 : Bool) (o : List Int) (j : Int × Int × List Int × Int) (reports : List (List UInt8)) : Option (As [.str, .sl (.int .u32)]) := status_report_m1 t15 o j reports
def status_report (x : As [.pr (.int .u32) LAT10, .sl (.int .u32)]) : Option (As [.str, .sl (.int .u32)]) := status_report_m0 status_report_K1 x.1 x.2.1
/-! status_Tell -/
def status_Tell_m0 (l : List LAT6) (waits : List Int) (tx : Int) : Option (As [.str]) :=
  Option.bind (ledger_Find (l, tx, ())) fun (y : Int × Bool × Unit) => if (!y.2.1) = true then some ([117, 110, 107, 110, 111, 119, 110], ()) else Option.bind (at? l y.1) fun (y : Int × Int × List Int × Int) => Option.bind (status_report (y, waits, ())) fun (y : List UInt8 × List Int × Unit) => some (y.1, ())
def status_Tell (x : As [.sl LAT3, .sl (.int .u32), .int .u32]) : Option (As [.str]) := status_Tell_m0 x.1 x.2.1 x.2.2.1
/-! law29_ViewAgrees -/
def law29_ViewAgrees_m1 (j2 : List LAT6 → List Int → List (Int × Int × Int) → Int → Bool → Option (As [.bool])) (l : List LAT6) (waits : List Int) (t25 : Bool) : Option (As [.bool]) :=
  if t25 = true then Option.bind (law29_awake ()) fun (y : Bool × Unit) => some (y.1, ()) else Option.bind (view_Mem (l, waits, ())) fun (y : (List Bool × List Bool × List Int × List Int) × Unit) => Option.bind (view_Read (y.1, ())) fun (y_1 : List (Int × Int × Int) × Bool × Unit) => if (!y_1.2.1) = true then j2 l waits y_1.1 (if lt 12 (Int.ofNat (List.length l)) = true then 12 else Int.ofNat (List.length l)) true else if nei (Int.ofNat (List.length y_1.1)) (if lt 12 (Int.ofNat (List.length l)) = true then 12 else Int.ofNat (List.length l)) = true then j2 l waits y_1.1 (if lt 12 (Int.ofNat (List.length l)) = true then 12 else Int.ofNat (List.length l)) true else if nei (Int.ofNat (List.length y.1.2.2.1)) 50 = true then j2 l waits y_1.1 (if lt 12 (Int.ofNat (List.length l)) = true then 12 else Int.ofNat (List.length l)) true else Option.bind (at? y.1.2.2.1 0) fun (y_2 : Int) => if nei (cvt .i64 y_2) (Int.ofNat (List.length l)) = true then j2 l waits y_1.1 (if lt 12 (Int.ofNat (List.length l)) = true then 12 else Int.ofNat (List.length l)) true else Option.bind (at? y.1.2.2.1 1) fun (y : Int) => j2 l waits y_1.1 (if lt 12 (Int.ofNat (List.length l)) = true then 12 else Int.ofNat (List.length l)) (nei (cvt .i64 y) (if lt 12 (Int.ofNat (List.length l)) = true then 12 else Int.ofNat (List.length l)))
def law29_ViewAgrees_m2 (j3 : List LAT6 → List Int → Int → List (Int × Int × Int) → Int → Int → List (List UInt8) → Option (As [.bool])) (l : List LAT6) (waits : List Int) (lines : List (Int × Int × Int)) (n : Int) (t70 : Bool) : Option (As [.bool]) :=
  if t70 = true then some (false, ()) else j3 l waits n lines (Int.ofNat (List.length lines)) 0 [[], [114, 117, 110, 110, 105, 110, 103], [99, 111, 109, 109, 105, 116, 116, 101, 100], [97, 98, 111, 114, 116, 101, 100], [99, 111, 109, 109, 105, 116, 116, 101, 100, 32, 100, 111, 110, 101], [97, 98, 111, 114, 116, 101, 100, 32, 100, 111, 110, 101], [119, 97, 105, 116, 105, 110, 103]]
def law29_ViewAgrees_m3 (j4 : List LAT6 → List Int → Int → List (Int × Int × Int) → Int → Int → Bool → List (List UInt8) → Option (As [.bool])) (self3 : List LAT6 → List Int → Int → List (Int × Int × Int) → Int → Int → List (List UInt8) → Option (As [.bool])) (l : List LAT6) (waits : List Int) (n : Int) (t72 : List (Int × Int × Int)) (t73 : Int) (t74 : Int) (words : List (List UInt8)) : Option (As [.bool]) :=
  if lt t74 t73 = true then Option.bind (at? t72 t74) fun (y : Int × Int × Int) => Option.bind (at? l (add .i64 (Sx.sub .i64 (Int.ofNat (List.length l)) n) t74)) fun (y_1 : Int × Int × List Int × Int) => if nei y.1 y_1.1 = true then j4 l waits n t72 t73 t74 true words else if nei y.2.2 (cvt .u16 y_1.2.1) = true then j4 l waits n t72 t73 t74 true words else if lt y.2.1 1 = true then j4 l waits n t72 t73 t74 true words else if gt y.2.1 6 = true then j4 l waits n t72 t73 t74 true words else Option.bind (at? words y.2.1) fun (x : List UInt8) => Option.bind (at? words y.2.1) fun (y_2 : List UInt8) => Option.bind (status_Tell (l, waits, y.1, ())) fun (y : List UInt8 × Unit) => j4 l waits n t72 t73 t74 (nes y_2 y.1) words else Option.bind (law29_awake ()) fun (y : Bool × Unit) => some (y.1, ())
def law29_ViewAgrees_m4 (self3 : List LAT6 → List Int → Int → List (Int × Int × Int) → Int → Int → List (List UInt8) → Option (As [.bool])) (l : List LAT6) (waits : List Int) (n : Int) (t72 : List (Int × Int × Int)) (t73 : Int) (t74 : Int) (t123 : Bool) (words : List (List UInt8)) : Option (As [.bool]) :=
  if t123 = true then some (false, ()) else self3 l waits n t72 t73 (add .i64 t74 1) words
def law29_ViewAgrees_m0 (j1 : List LAT6 → List Int → Bool → Option (As [.bool])) (l : List LAT6) (waits : List Int) : Option (As [.bool]) :=
  if gt (Int.ofNat (List.length l)) 60 = true then j1 l waits true else if gt (Int.ofNat (List.length waits)) 60 = true then j1 l waits true else Option.bind (ledger_Right (l, ())) fun (y : Bool × Unit) => j1 l waits !y.1
def law29_ViewAgrees_K4 (u3 : List LAT6 → List Int → Int → List (Int × Int × Int) → Int → Int → List (List UInt8) → Option (As [.bool])) (l : List LAT6) (waits : List Int) (n : Int) (t72 : List (Int × Int × Int)) (t73 : Int) (t74 : Int) (t123 : Bool) (words : List (List UInt8)) : Option (As [.bool]) := law29_ViewAgrees_m4 u3 l waits n t72 t73 t74 t123 words
def law29_ViewAgrees_K3 (l : List LAT6) (waits : List Int) (n : Int) (t72 : List (Int × Int × Int)) (t73 : Int) (t74 : Int) (words : List (List UInt8)) : Option (As [.bool]) :=
  loopF (fun (self : (List LAT6) × (List Int) × (Int) × (List (Int × Int × Int)) × (Int) × (Int) × (List (List UInt8)) → Option (As [.bool])) (s : (List LAT6) × (List Int) × (Int) × (List (Int × Int × Int)) × (Int) × (Int) × (List (List UInt8))) => law29_ViewAgrees_m3 (law29_ViewAgrees_K4 (fun l waits n t72 t73 t74 words => self (l, waits, n, t72, t73, t74, words))) (fun l waits n t72 t73 t74 words => self (l, waits, n, t72, t73, t74, words)) s.1 s.2.1 s.2.2.1 s.2.2.2.1 s.2.2.2.2.1 s.2.2.2.2.2.1 s.2.2.2.2.2.2) 18446744073709551616 (l, waits, n, t72, t73, t74, words)
def law29_ViewAgrees_K2 (l : List LAT6) (waits : List Int) (lines : List (Int × Int × Int)) (n : Int) (t70 : Bool) : Option (As [.bool]) := law29_ViewAgrees_m2 (law29_ViewAgrees_K3) l waits lines n t70
def law29_ViewAgrees_K1 (l : List LAT6) (waits : List Int) (t25 : Bool) : Option (As [.bool]) := law29_ViewAgrees_m1 (law29_ViewAgrees_K2) l waits t25
def law29_ViewAgrees (x : As [.sl LAT3, .sl (.int .u32)]) : Option (As [.bool]) := law29_ViewAgrees_m0 law29_ViewAgrees_K1 x.1 x.2.1
end Go.Proofs.Lx

end

section
/- Contracts, made by a program. -/
open Go Go.Proofs Ev Sx
set_option maxRecDepth 100000
namespace Go.Proofs.Lx
abbrev LRT0 : Ty := (.pr (.int .u8) (.pr (.sl .bool) (.pr (.sl (.int .u16)) (.pr (.int .u16) (.int .u16)))))
abbrev LRT1 : Type := (Int × Int × List Bool × List Int × Int × Int)
abbrev LRT2 : Ty := (.pr (.int .u32) (.pr (.int .u8) (.pr (.sl (.int .u8)) (.int .u8))))
abbrev LRT3 : Ty := (.pr (.int .u16) (.pr (.int .u16) (.pr (.int .u16) (.pr (.sl (.int .u16)) (.sl .bool)))))
abbrev VrAq0 : Type := Int × Int × Int × Int × List Int × List Bool
abbrev VrAq1 : Type := Int × Int × List Bool × List Int × Int × Int
/-! reply_exception_read -/
@[reducible] def reply_exception_read_s : Sh := ⟨[.d (.un), .d (.sl (.int .u8))], [], [.un, .sl (.int .u8)], [.d (.pr (.int .u8) LRT0)], [], 0, [.pr (.int .u8) LRT0]⟩
def reply_exception_read_e : Env := (cts [(44, (⟨reply_Wrong_s, reply_Wrong⟩ : Ct))])
def reply_exception_read_h : List (Nat × Hint) := []
def reply_exception_read_m0 (v : Unit) (b : List Int) : Option (As [.pr (.int .u8) LRT0]) :=
  Option.bind (at? b 0) fun (y : Int) => Option.bind (at? b 1) fun (y_1 : Int) => Option.bind (reply_Wrong (y, y_1, ())) fun (y : LRT1 × Unit) => some (y.1, ())
def reply_exception_read (x : As [.un, .sl (.int .u8)]) : Option (As [.pr (.int .u8) LRT0]) := reply_exception_read_m0 x.1 x.2.1
theorem reply_exception_read_c0 (J : Orc (As [.pr (.int .u8) LRT0])) (x : As [.un, .sl (.int .u8)]) : rfn Try.prog reply_exception_read_e 6 18446744073709551616 (Ev.get reply_exception_read_h) 87 reply_exception_read_s J x = reply_exception_read_m0 x.1 x.2.1 := by kernel_rfl
theorem reply_exception_read_t (x : As [.un, .sl (.int .u8)]) : evT Try.prog reply_exception_read_e 6 18446744073709551616 (Ev.get reply_exception_read_h) 87 reply_exception_read_s x = reply_exception_read x := by
  rw [rfn_eq, reply_exception_read_c0]
  rfl
theorem reply_exception_read_ok : CtOk Try.prog (fun _ => True) 87 ⟨reply_exception_read_s, reply_exception_read⟩ := ct_of_ev (env_cons reply_Wrong_ok env_nil) reply_exception_read_t
/-! reply_bitList_read -/
@[reducible] def reply_bitList_read_s : Sh := ⟨[.d (.un), .d (.sl (.int .u8))], [], [.un, .sl (.int .u8)], [.d (.pr (.int .u8) LRT0)], [], 0, [.pr (.int .u8) LRT0]⟩
def reply_bitList_read_e : Env := (cts [(71, (⟨ask_Unpack_s, ask_Unpack⟩ : Ct))])
def reply_bitList_read_h : List (Nat × Hint) := []
def reply_bitList_read_m0 (v : Unit) (b : List Int) : Option (As [.pr (.int .u8) LRT0]) :=
  Option.bind (at? b 0) fun (y : Int) => Option.bind (cut b 2 (Int.ofNat (List.length b))) fun (y_1 : List Int) => Option.bind (ask_Unpack (y_1, ())) fun (y_2 : List Bool × Unit) => some ((y, 0, y_2.1, [], 0, 0), ())
def reply_bitList_read (x : As [.un, .sl (.int .u8)]) : Option (As [.pr (.int .u8) LRT0]) := reply_bitList_read_m0 x.1 x.2.1
theorem reply_bitList_read_c0 (J : Orc (As [.pr (.int .u8) LRT0])) (x : As [.un, .sl (.int .u8)]) : rfn Try.prog reply_bitList_read_e 6 18446744073709551616 (Ev.get reply_bitList_read_h) 93 reply_bitList_read_s J x = reply_bitList_read_m0 x.1 x.2.1 := by kernel_rfl
theorem reply_bitList_read_t (x : As [.un, .sl (.int .u8)]) : evT Try.prog reply_bitList_read_e 6 18446744073709551616 (Ev.get reply_bitList_read_h) 93 reply_bitList_read_s x = reply_bitList_read x := by
  rw [rfn_eq, reply_bitList_read_c0]
  rfl
theorem reply_bitList_read_ok : CtOk Try.prog (fun _ => True) 93 ⟨reply_bitList_read_s, reply_bitList_read⟩ := ct_of_ev (env_cons ask_Unpack_ok env_nil) reply_bitList_read_t
/-! reply_list -/
@[reducible] def reply_list_s : Sh := ⟨[.d (.sl (.int .u8))], [], [.sl (.int .u8)], [.d (.sl (.int .u16))], [], 0, [.sl (.int .u16)]⟩
def reply_list_e : Env := (cts [])
def reply_list_h : List (Nat × Hint) := [(58, ⟨[], [0, 3, 10, 11]⟩)]
def reply_list_k1 (b : List Int) (t10 : Int) (t11 : Int) (l : List Int) : St := { fr := [(0, .d (.sl (.int .u8)) b), (3, .row 0), (10, .d (.int .i64) t10), (11, .d (.int .i64) t11)], nt := 34, up := [], own := [(0, .row (.int .u16) 41 l)], nx := 1, log := [], ln := 0 }
def reply_list_m1 (self1 : List Int → Int → Int → List Int → Option (As [.sl (.int .u16)])) (b : List Int) (t10 : Int) (t11 : Int) (l : List Int) : Option (As [.sl (.int .u16)]) :=
  if lt t11 t10 = true then Option.bind (at? b (mul .i64 2 t11)) fun (y : Int) => Option.bind (at? b (add .i64 (mul .i64 2 t11) 1)) fun (y_1 : Int) => Option.bind (at? l t11) fun (x : Int) => Option.bind (at? l t11) fun (x : Int) => self1 b t10 (add .i64 t11 1) (List.set l (Int.toNat t11) (Sx.bor .u16 (Sx.shl .u16 (cvt .u16 y) 8) (cvt .u16 y_1))) else some (l, ())
def reply_list_m0 (j1 : List Int → Int → Int → List Int → Option (As [.sl (.int .u16)])) (b : List Int) : Option (As [.sl (.int .u16)]) :=
  need (ge (quo .i64 (Int.ofNat (List.length b)) 2) 0) (need (Ev.capOk (quo .i64 (Int.ofNat (List.length b)) 2) (quo .i64 (Int.ofNat (List.length b)) 2)) (need (small (Int.toNat (quo .i64 (Int.ofNat (List.length b)) 2))) (j1 b (Int.ofNat (List.length (List.replicate (α := Int) (Int.toNat (quo .i64 (Int.ofNat (List.length b)) 2)) 0))) 0 (List.replicate (Int.toNat (quo .i64 (Int.ofNat (List.length b)) 2)) 0))))
def reply_list_K1 (b : List Int) (t10 : Int) (t11 : Int) (l : List Int) : Option (As [.sl (.int .u16)]) :=
  loopF (fun (self : (List Int) × (Int) × (Int) × (List Int) → Option (As [.sl (.int .u16)])) (s : (List Int) × (Int) × (Int) × (List Int)) => reply_list_m1 (fun b t10 t11 l => self (b, t10, t11, l)) s.1 s.2.1 s.2.2.1 s.2.2.2) 18446744073709551616 (b, t10, t11, l)
def reply_list (x : As [.sl (.int .u8)]) : Option (As [.sl (.int .u16)]) := reply_list_m0 reply_list_K1 x.1
theorem reply_list_c1 (J : Orc (As [.sl (.int .u16)])) (w1 : St → Option (As [.sl (.int .u16)])) (b : List Int) (t10 : Int) (t11 : Int) (l : List Int) : pfn Try.prog reply_list_e 6 18446744073709551616 (Ev.get reply_list_h) 99 reply_list_s J 58 [w1] (reply_list_k1 b t10 t11 l) = reply_list_m1 (fun b t10 t11 l => w1 (reply_list_k1 b t10 t11 l)) b t10 t11 l := by kernel_rfl
theorem reply_list_c0 (J : Orc (As [.sl (.int .u16)])) (x : As [.sl (.int .u8)]) : rfn Try.prog reply_list_e 6 18446744073709551616 (Ev.get reply_list_h) 99 reply_list_s J x = reply_list_m0 (fun b t10 t11 l => J 58 [] (reply_list_k1 b t10 t11 l)) x.1 := by kernel_rfl
theorem reply_list_g1 (b : List Int) (t10 : Int) (t11 : Int) (l : List Int) : jfn Try.prog reply_list_e 6 18446744073709551616 (Ev.get reply_list_h) 99 reply_list_s 58 [] (reply_list_k1 b t10 t11 l) = reply_list_K1 b t10 t11 l := by
  rw [pfn_eq (by decide)]
  rw [pfn_loop (by kernel_rfl)]
  refine loopF_sim (σ := (List Int) × (Int) × (Int) × (List Int)) (mk := fun s => reply_list_k1 s.1 s.2.1 s.2.2.1 s.2.2.2) (fun w1 s => ?_) 18446744073709551616 (b, t10, t11, l)
  refine (reply_list_c1 _ w1 s.1 s.2.1 s.2.2.1 s.2.2.2).trans ?_
  rfl
theorem reply_list_t (x : As [.sl (.int .u8)]) : evT Try.prog reply_list_e 6 18446744073709551616 (Ev.get reply_list_h) 99 reply_list_s x = reply_list x := by
  have e1 : (fun b t10 t11 l => (jfn Try.prog reply_list_e 6 18446744073709551616 (Ev.get reply_list_h) 99 reply_list_s) 58 [] (reply_list_k1 b t10 t11 l)) = reply_list_K1 := funext fun b => funext fun t10 => funext fun t11 => funext fun l => reply_list_g1 b t10 t11 l
  rw [rfn_eq, reply_list_c0, e1]
  rfl
theorem reply_list_ok : CtOk Try.prog (fun _ => True) 99 ⟨reply_list_s, reply_list⟩ := ct_of_ev env_nil reply_list_t
/-! reply_wordList_read -/
@[reducible] def reply_wordList_read_s : Sh := ⟨[.d (.un), .d (.sl (.int .u8))], [], [.un, .sl (.int .u8)], [.d (.pr (.int .u8) LRT0)], [], 0, [.pr (.int .u8) LRT0]⟩
def reply_wordList_read_e : Env := (cts [(99, (⟨reply_list_s, reply_list⟩ : Ct))])
def reply_wordList_read_h : List (Nat × Hint) := []
def reply_wordList_read_m0 (v : Unit) (b : List Int) : Option (As [.pr (.int .u8) LRT0]) :=
  Option.bind (at? b 0) fun (y : Int) => Option.bind (cut b 2 (Int.ofNat (List.length b))) fun (y_1 : List Int) => Option.bind (reply_list (y_1, ())) fun (y_2 : List Int × Unit) => some ((y, 0, [], y_2.1, 0, 0), ())
def reply_wordList_read (x : As [.un, .sl (.int .u8)]) : Option (As [.pr (.int .u8) LRT0]) := reply_wordList_read_m0 x.1 x.2.1
theorem reply_wordList_read_c0 (J : Orc (As [.pr (.int .u8) LRT0])) (x : As [.un, .sl (.int .u8)]) : rfn Try.prog reply_wordList_read_e 6 18446744073709551616 (Ev.get reply_wordList_read_h) 96 reply_wordList_read_s J x = reply_wordList_read_m0 x.1 x.2.1 := by kernel_rfl
theorem reply_wordList_read_t (x : As [.un, .sl (.int .u8)]) : evT Try.prog reply_wordList_read_e 6 18446744073709551616 (Ev.get reply_wordList_read_h) 96 reply_wordList_read_s x = reply_wordList_read x := by
  rw [rfn_eq, reply_wordList_read_c0]
  rfl
theorem reply_wordList_read_ok : CtOk Try.prog (fun _ => True) 96 ⟨reply_wordList_read_s, reply_wordList_read⟩ := ct_of_ev (env_cons reply_list_ok env_nil) reply_wordList_read_t
/-! reply_oneBit_read -/
@[reducible] def reply_oneBit_read_s : Sh := ⟨[.d (.un), .d (.sl (.int .u8))], [], [.un, .sl (.int .u8)], [.d (.pr (.int .u8) LRT0)], [], 0, [.pr (.int .u8) LRT0]⟩
def reply_oneBit_read_e : Env := (cts [(99, (⟨reply_list_s, reply_list⟩ : Ct))])
def reply_oneBit_read_h : List (Nat × Hint) := []
def reply_oneBit_read_m0 (v : Unit) (b : List Int) : Option (As [.pr (.int .u8) LRT0]) :=
  Option.bind (cut b 1 (Int.ofNat (List.length b))) fun (y : List Int) => Option.bind (reply_list (y, ())) fun (y : List Int × Unit) => if lt (Int.ofNat (List.length y.1)) 2 = true then some ((0, 0, [], [], 0, 0), ()) else Option.bind (at? b 0) fun (y_1 : Int) => Option.bind (at? y.1 0) fun (y_2 : Int) => Option.bind (at? y.1 1) fun (y : Int) => some ((y_1, 0, [eqi y 65280], [], y_2, 0), ())
def reply_oneBit_read (x : As [.un, .sl (.int .u8)]) : Option (As [.pr (.int .u8) LRT0]) := reply_oneBit_read_m0 x.1 x.2.1
theorem reply_oneBit_read_c0 (J : Orc (As [.pr (.int .u8) LRT0])) (x : As [.un, .sl (.int .u8)]) : rfn Try.prog reply_oneBit_read_e 6 18446744073709551616 (Ev.get reply_oneBit_read_h) 101 reply_oneBit_read_s J x = reply_oneBit_read_m0 x.1 x.2.1 := by kernel_rfl
theorem reply_oneBit_read_t (x : As [.un, .sl (.int .u8)]) : evT Try.prog reply_oneBit_read_e 6 18446744073709551616 (Ev.get reply_oneBit_read_h) 101 reply_oneBit_read_s x = reply_oneBit_read x := by
  rw [rfn_eq, reply_oneBit_read_c0]
  rfl
theorem reply_oneBit_read_ok : CtOk Try.prog (fun _ => True) 101 ⟨reply_oneBit_read_s, reply_oneBit_read⟩ := ct_of_ev (env_cons reply_list_ok env_nil) reply_oneBit_read_t
/-! reply_oneWord_read -/
@[reducible] def reply_oneWord_read_s : Sh := ⟨[.d (.un), .d (.sl (.int .u8))], [], [.un, .sl (.int .u8)], [.d (.pr (.int .u8) LRT0)], [], 0, [.pr (.int .u8) LRT0]⟩
def reply_oneWord_read_e : Env := (cts [(99, (⟨reply_list_s, reply_list⟩ : Ct))])
def reply_oneWord_read_h : List (Nat × Hint) := []
def reply_oneWord_read_m0 (v : Unit) (b : List Int) : Option (As [.pr (.int .u8) LRT0]) :=
  Option.bind (cut b 1 (Int.ofNat (List.length b))) fun (y : List Int) => Option.bind (reply_list (y, ())) fun (y : List Int × Unit) => if lt (Int.ofNat (List.length y.1)) 2 = true then some ((0, 0, [], [], 0, 0), ()) else Option.bind (at? b 0) fun (y_1 : Int) => Option.bind (at? y.1 0) fun (y_2 : Int) => Option.bind (at? y.1 1) fun (y : Int) => some ((y_1, 0, [], [y], y_2, 0), ())
def reply_oneWord_read (x : As [.un, .sl (.int .u8)]) : Option (As [.pr (.int .u8) LRT0]) := reply_oneWord_read_m0 x.1 x.2.1
theorem reply_oneWord_read_c0 (J : Orc (As [.pr (.int .u8) LRT0])) (x : As [.un, .sl (.int .u8)]) : rfn Try.prog reply_oneWord_read_e 6 18446744073709551616 (Ev.get reply_oneWord_read_h) 104 reply_oneWord_read_s J x = reply_oneWord_read_m0 x.1 x.2.1 := by kernel_rfl
theorem reply_oneWord_read_t (x : As [.un, .sl (.int .u8)]) : evT Try.prog reply_oneWord_read_e 6 18446744073709551616 (Ev.get reply_oneWord_read_h) 104 reply_oneWord_read_s x = reply_oneWord_read x := by
  rw [rfn_eq, reply_oneWord_read_c0]
  rfl
theorem reply_oneWord_read_ok : CtOk Try.prog (fun _ => True) 104 ⟨reply_oneWord_read_s, reply_oneWord_read⟩ := ct_of_ev (env_cons reply_list_ok env_nil) reply_oneWord_read_t
/-! reply_count_read -/
@[reducible] def reply_count_read_s : Sh := ⟨[.d (.wr (.int .u16)), .d (.sl (.int .u8))], [], [.wr (.int .u16), .sl (.int .u8)], [.d (.pr (.int .u8) LRT0)], [], 0, [.pr (.int .u8) LRT0]⟩
def reply_count_read_e : Env := (cts [(99, (⟨reply_list_s, reply_list⟩ : Ct))])
def reply_count_read_h : List (Nat × Hint) := []
def reply_count_read_m0 (v : Int) (b : List Int) : Option (As [.pr (.int .u8) LRT0]) :=
  Option.bind (cut b 1 (Int.ofNat (List.length b))) fun (y : List Int) => Option.bind (reply_list (y, ())) fun (y : List Int × Unit) => if lt (Int.ofNat (List.length y.1)) 2 = true then some ((0, 0, [], [], 0, 0), ()) else Option.bind (at? b 0) fun (y_1 : Int) => Option.bind (at? y.1 0) fun (y_2 : Int) => Option.bind (at? y.1 1) fun (y : Int) => some ((y_1, 0, [], [], y_2, y), ())
def reply_count_read (x : As [.wr (.int .u16), .sl (.int .u8)]) : Option (As [.pr (.int .u8) LRT0]) := reply_count_read_m0 x.1 x.2.1
theorem reply_count_read_c0 (J : Orc (As [.pr (.int .u8) LRT0])) (x : As [.wr (.int .u16), .sl (.int .u8)]) : rfn Try.prog reply_count_read_e 6 18446744073709551616 (Ev.get reply_count_read_h) 107 reply_count_read_s J x = reply_count_read_m0 x.1 x.2.1 := by kernel_rfl
theorem reply_count_read_t (x : As [.wr (.int .u16), .sl (.int .u8)]) : evT Try.prog reply_count_read_e 6 18446744073709551616 (Ev.get reply_count_read_h) 107 reply_count_read_s x = reply_count_read x := by
  rw [rfn_eq, reply_count_read_c0]
  rfl
theorem reply_count_read_ok : CtOk Try.prog (fun _ => True) 107 ⟨reply_count_read_s, reply_count_read⟩ := ct_of_ev (env_cons reply_list_ok env_nil) reply_count_read_t
/-! reply_Parse -/
@[reducible] def reply_Parse_s : Sh := ⟨[.d (.sl (.int .u8))], [], [.sl (.int .u8)], [.d (.pr (.int .u8) LRT0), .d (.int .i64)], [], 0, [.pr (.int .u8) LRT0, .int .i64]⟩
def reply_Parse_e : Env := (cts [(33, (⟨bytes_Equal_s, bytes_Equal⟩ : Ct)), (87, (⟨reply_exception_read_s, reply_exception_read⟩ : Ct)), (88, (⟨reply_exception_right_s, reply_exception_right⟩ : Ct)), (89, (⟨reply_exception_write_s, reply_exception_write⟩ : Ct)), (93, (⟨reply_bitList_read_s, reply_bitList_read⟩ : Ct)), (94, (⟨reply_bitList_right_s, reply_bitList_right⟩ : Ct)), (95, (⟨reply_bitList_write_s, reply_bitList_write⟩ : Ct)), (96, (⟨reply_wordList_read_s, reply_wordList_read⟩ : Ct)), (97, (⟨reply_wordList_right_s, reply_wordList_right⟩ : Ct)), (98, (⟨reply_wordList_write_s, reply_wordList_write⟩ : Ct)), (101, (⟨reply_oneBit_read_s, reply_oneBit_read⟩ : Ct)), (102, (⟨reply_oneBit_right_s, reply_oneBit_right⟩ : Ct)), (103, (⟨reply_oneBit_write_s, reply_oneBit_write⟩ : Ct)), (104, (⟨reply_oneWord_read_s, reply_oneWord_read⟩ : Ct)), (105, (⟨reply_oneWord_right_s, reply_oneWord_right⟩ : Ct)), (106, (⟨reply_oneWord_write_s, reply_oneWord_write⟩ : Ct)), (107, (⟨reply_count_read_s, reply_count_read⟩ : Ct)), (108, (⟨reply_count_right_s, reply_count_right⟩ : Ct)), (109, (⟨reply_count_write_s, reply_count_write⟩ : Ct))])
def reply_Parse_h : List (Nat × Hint) := [(6, ⟨[], [0, 2, 15, 42, 43, 44, 45, 46, 47]⟩)]
def reply_Parse_k1 (b : List Int) (t15 : Bool) (t2 : Int) (t2_2 : Int) (t2_3 : Int) (t2_4 : Int) : St := { fr := [(0, .d (.sl (.int .u8)) b), (2, .pb 0 0), (15, .d .bool t15)], nt := 51, up := [], own := [(0, .box 55 [.d (.int .u8) t2, .d (.int .u8) t2_2, .k (Go.Value.slice Option.none 0 0), .k (Go.Value.slice Option.none 0 0), .d (.int .u16) t2_3, .d (.int .u16) t2_4])], nx := 1, log := [], ln := 0 }
def reply_Parse_m1 (b : List Int) (t15 : Bool) (t2 : Int) (t2_2 : Int) (t2_3 : Int) (t2_4 : Int) : Option (As [.pr (.int .u8) LRT0, .int .i64]) :=
  if t15 = true then some ((0, 0, [], [], 0, 0), 13, ()) else Option.bind (at? b 0) fun (y : Int) => if lt y 128 = true then Option.bind (at? b 0) fun (y : Int) => if eqi y 1 = true then Option.bind (reply_bitList_read ((), b, ())) fun (y : LRT1 × Unit) => Option.bind (reply_bitList_right ((), y.1, ())) fun (y_1 : Bool × Unit) => if (!y_1.1) = true then some ((0, 0, [], [], 0, 0), 13, ()) else Option.bind (reply_bitList_write ((), y.1, ())) fun (y_2 : List Int × Unit) => Option.bind (bytes_Equal (y_2.1, b, ())) fun (y_3 : Bool × Unit) => if (!y_3.1) = true then some ((0, 0, [], [], 0, 0), 13, ()) else some (y.1, 0, ()) else if eqi y 2 = true then Option.bind (reply_bitList_read ((), b, ())) fun (y : LRT1 × Unit) => Option.bind (reply_bitList_right ((), y.1, ())) fun (y_1 : Bool × Unit) => if (!y_1.1) = true then some ((0, 0, [], [], 0, 0), 13, ()) else Option.bind (reply_bitList_write ((), y.1, ())) fun (y_2 : List Int × Unit) => Option.bind (bytes_Equal (y_2.1, b, ())) fun (y_3 : Bool × Unit) => if (!y_3.1) = true then some ((0, 0, [], [], 0, 0), 13, ()) else some (y.1, 0, ()) else if eqi y 3 = true then Option.bind (reply_wordList_read ((), b, ())) fun (y : LRT1 × Unit) => Option.bind (reply_wordList_right ((), y.1, ())) fun (y_1 : Bool × Unit) => if (!y_1.1) = true then some ((0, 0, [], [], 0, 0), 13, ()) else Option.bind (reply_wordList_write ((), y.1, ())) fun (y_2 : List Int × Unit) => Option.bind (bytes_Equal (y_2.1, b, ())) fun (y_3 : Bool × Unit) => if (!y_3.1) = true then some ((0, 0, [], [], 0, 0), 13, ()) else some (y.1, 0, ()) else if eqi y 4 = true then Option.bind (reply_wordList_read ((), b, ())) fun (y : LRT1 × Unit) => Option.bind (reply_wordList_right ((), y.1, ())) fun (y_1 : Bool × Unit) => if (!y_1.1) = true then some ((0, 0, [], [], 0, 0), 13, ()) else Option.bind (reply_wordList_write ((), y.1, ())) fun (y_2 : List Int × Unit) => Option.bind (bytes_Equal (y_2.1, b, ())) fun (y_3 : Bool × Unit) => if (!y_3.1) = true then some ((0, 0, [], [], 0, 0), 13, ()) else some (y.1, 0, ()) else if eqi y 23 = true then Option.bind (reply_wordList_read ((), b, ())) fun (y : LRT1 × Unit) => Option.bind (reply_wordList_right ((), y.1, ())) fun (y_1 : Bool × Unit) => if (!y_1.1) = true then some ((0, 0, [], [], 0, 0), 13, ()) else Option.bind (reply_wordList_write ((), y.1, ())) fun (y_2 : List Int × Unit) => Option.bind (bytes_Equal (y_2.1, b, ())) fun (y_3 : Bool × Unit) => if (!y_3.1) = true then some ((0, 0, [], [], 0, 0), 13, ()) else some (y.1, 0, ()) else if eqi y 5 = true then Option.bind (reply_oneBit_read ((), b, ())) fun (y : LRT1 × Unit) => Option.bind (reply_oneBit_right ((), y.1, ())) fun (y_1 : Bool × Unit) => if (!y_1.1) = true then some ((0, 0, [], [], 0, 0), 13, ()) else Option.bind (reply_oneBit_write ((), y.1, ())) fun (y_2 : List Int × Unit) => Option.bind (bytes_Equal (y_2.1, b, ())) fun (y_3 : Bool × Unit) => if (!y_3.1) = true then some ((0, 0, [], [], 0, 0), 13, ()) else some (y.1, 0, ()) else if eqi y 6 = true then Option.bind (reply_oneWord_read ((), b, ())) fun (y : LRT1 × Unit) => Option.bind (reply_oneWord_right ((), y.1, ())) fun (y_1 : Bool × Unit) => if (!y_1.1) = true then some ((0, 0, [], [], 0, 0), 13, ()) else Option.bind (reply_oneWord_write ((), y.1, ())) fun (y_2 : List Int × Unit) => Option.bind (bytes_Equal (y_2.1, b, ())) fun (y_3 : Bool × Unit) => if (!y_3.1) = true then some ((0, 0, [], [], 0, 0), 13, ()) else some (y.1, 0, ()) else if eqi y 15 = true then Option.bind (reply_count_read (1968, b, ())) fun (y : LRT1 × Unit) => Option.bind (reply_count_right (1968, y.1, ())) fun (y_1 : Bool × Unit) => if (!y_1.1) = true then some ((0, 0, [], [], 0, 0), 13, ()) else Option.bind (reply_count_write (1968, y.1, ())) fun (y_2 : List Int × Unit) => Option.bind (bytes_Equal (y_2.1, b, ())) fun (y_3 : Bool × Unit) => if (!y_3.1) = true then some ((0, 0, [], [], 0, 0), 13, ()) else some (y.1, 0, ()) else if eqi y 16 = true then Option.bind (reply_count_read (123, b, ())) fun (y : LRT1 × Unit) => Option.bind (reply_count_right (123, y.1, ())) fun (y_1 : Bool × Unit) => if (!y_1.1) = true then some ((0, 0, [], [], 0, 0), 13, ()) else Option.bind (reply_count_write (123, y.1, ())) fun (y_2 : List Int × Unit) => Option.bind (bytes_Equal (y_2.1, b, ())) fun (y_3 : Bool × Unit) => if (!y_3.1) = true then some ((0, 0, [], [], 0, 0), 13, ()) else some (y.1, 0, ()) else some ((0, 0, [], [], 0, 0), 13, ()) else Option.bind (reply_exception_read ((), b, ())) fun (y : LRT1 × Unit) => Option.bind (reply_exception_right ((), y.1, ())) fun (y_1 : Bool × Unit) => if (!y_1.1) = true then some ((0, 0, [], [], 0, 0), 13, ()) else Option.bind (reply_exception_write ((), y.1, ())) fun (y_2 : List Int × Unit) => Option.bind (bytes_Equal (y_2.1, b, ())) fun (y_3 : Bool × Unit) => if (!y_3.1) = true then some ((0, 0, [], [], 0, 0), 13, ()) else some (y.1, 0, ())
def reply_Parse_m0 (j1 : List Int → Bool → Int → Int → Int → Int → Option (As [.pr (.int .u8) LRT0, .int .i64])) (b : List Int) : Option (As [.pr (.int .u8) LRT0, .int .i64]) :=
  if lt (Int.ofNat (List.length b)) 2 = true then j1 b true 0 0 0 0 else j1 b (gt (Int.ofNat (List.length b)) 253) 0 0 0 0
def reply_Parse_K1 (b : List Int) (t15 : Bool) (t2 : Int) (t2_2 : Int) (t2_3 : Int) (t2_4 : Int) : Option (As [.pr (.int .u8) LRT0, .int .i64]) := reply_Parse_m1 b t15 t2 t2_2 t2_3 t2_4
def reply_Parse (x : As [.sl (.int .u8)]) : Option (As [.pr (.int .u8) LRT0, .int .i64]) := reply_Parse_m0 reply_Parse_K1 x.1
theorem reply_Parse_c1 (J : Orc (As [.pr (.int .u8) LRT0, .int .i64])) (b : List Int) (t15 : Bool) (t2 : Int) (t2_2 : Int) (t2_3 : Int) (t2_4 : Int) : pfn Try.prog reply_Parse_e 6 18446744073709551616 (Ev.get reply_Parse_h) 13 reply_Parse_s J 6 [] (reply_Parse_k1 b t15 t2 t2_2 t2_3 t2_4) = reply_Parse_m1 b t15 t2 t2_2 t2_3 t2_4 := by kernel_rfl
theorem reply_Parse_c0 (J : Orc (As [.pr (.int .u8) LRT0, .int .i64])) (x : As [.sl (.int .u8)]) : rfn Try.prog reply_Parse_e 6 18446744073709551616 (Ev.get reply_Parse_h) 13 reply_Parse_s J x = reply_Parse_m0 (fun b t15 t2 t2_2 t2_3 t2_4 => J 6 [] (reply_Parse_k1 b t15 t2 t2_2 t2_3 t2_4)) x.1 := by kernel_rfl
theorem reply_Parse_g1 (b : List Int) (t15 : Bool) (t2 : Int) (t2_2 : Int) (t2_3 : Int) (t2_4 : Int) : jfn Try.prog reply_Parse_e 6 18446744073709551616 (Ev.get reply_Parse_h) 13 reply_Parse_s 6 [] (reply_Parse_k1 b t15 t2 t2_2 t2_3 t2_4) = reply_Parse_K1 b t15 t2 t2_2 t2_3 t2_4 := by
  rw [pfn_eq (by decide)]
  rw [reply_Parse_c1]
  rfl
theorem reply_Parse_t (x : As [.sl (.int .u8)]) : evT Try.prog reply_Parse_e 6 18446744073709551616 (Ev.get reply_Parse_h) 13 reply_Parse_s x = reply_Parse x := by
  have e1 : (fun b t15 t2 t2_2 t2_3 t2_4 => (jfn Try.prog reply_Parse_e 6 18446744073709551616 (Ev.get reply_Parse_h) 13 reply_Parse_s) 6 [] (reply_Parse_k1 b t15 t2 t2_2 t2_3 t2_4)) = reply_Parse_K1 := funext fun b => funext fun t15 => funext fun t2 => funext fun t2_2 => funext fun t2_3 => funext fun t2_4 => reply_Parse_g1 b t15 t2 t2_2 t2_3 t2_4
  rw [rfn_eq, reply_Parse_c0, e1]
  rfl
theorem reply_Parse_ok : CtOk Try.prog (fun _ => True) 13 ⟨reply_Parse_s, reply_Parse⟩ := ct_of_ev (env_cons bytes_Equal_ok (env_cons reply_exception_read_ok (env_cons reply_exception_right_ok (env_cons reply_exception_write_ok (env_cons reply_bitList_read_ok (env_cons reply_bitList_right_ok (env_cons reply_bitList_write_ok (env_cons reply_wordList_read_ok (env_cons reply_wordList_right_ok (env_cons reply_wordList_write_ok (env_cons reply_oneBit_read_ok (env_cons reply_oneBit_right_ok (env_cons reply_oneBit_write_ok (env_cons reply_oneWord_read_ok (env_cons reply_oneWord_right_ok (env_cons reply_oneWord_write_ok (env_cons reply_count_read_ok (env_cons reply_count_right_ok (env_cons reply_count_write_ok env_nil))))))))))))))))))) reply_Parse_t
/-! law29_ViewReads -/
@[reducible] def law29_ViewReads_s : Sh := ⟨[.d (.sl LRT2), .d (.sl (.int .u32)), .d (.pr (.int .u8) LRT3), .d (.sl (.int .u8))], [], [.sl LRT2, .sl (.int .u32), .pr (.int .u8) LRT3, .sl (.int .u8)], [.d (.bool)], [], 0, [.bool]⟩
def law29_ViewReads_e : Env := (cts [(6, (⟨law29_awake_s, law29_awake⟩ : Ct)), (9, (⟨view_Mem_s, view_Mem⟩ : Ct)), (10, (⟨ledger_Right_s, ledger_Right⟩ : Ct)), (12, (⟨view_Serve_s, view_Serve⟩ : Ct)), (13, (⟨reply_Parse_s, reply_Parse⟩ : Ct)), (14, (⟨ask_Look_s, ask_Look⟩ : Ct)), (15, (⟨ask_Bytes_s, ask_Bytes⟩ : Ct)), (16, (⟨law06_Regs_s, law06_Regs⟩ : Ct))])
def law29_ViewReads_h : List (Nat × Hint) := [(4094, ⟨[], [6, 10, 16, 127, 132, 133, 134, 135, 136, 137, 138, 139, 140, 141, 142, 143, 144, 145, 148, 154, 155, 156, 157, 158, 159, 160, 161, 164]⟩), (2046, ⟨[], [6, 10, 16, 112, 117, 118, 119, 120, 121, 122, 123, 124, 125, 126, 132, 133, 134, 135, 136, 137, 138, 139, 140, 141, 142, 143, 144, 145, 148, 154, 155, 156, 157, 158, 159, 160, 161, 164]⟩), (125, ⟨[], [0, 1, 6, 10, 78, 102, 103, 104, 105, 106, 109, 110, 111, 117, 118, 119, 120, 121, 122, 123, 124, 125, 126, 132, 133, 134, 135, 136, 137, 138, 139, 140, 141, 142, 143, 144, 145, 148, 154, 155, 156, 157, 158, 159, 160, 161, 164]⟩), (6, ⟨[], [0, 1, 3, 6, 46, 66, 67, 68, 69, 70, 71, 72, 73, 74, 75, 76, 77, 102, 103, 104, 105, 106, 109, 110, 111, 117, 118, 119, 120, 121, 122, 123, 124, 125, 126, 132, 133, 134, 135, 136, 137, 138, 139, 140, 141, 142, 143, 144, 145, 148, 154, 155, 156, 157, 158, 159, 160, 161, 164]⟩)]
def law29_ViewReads_k1 (l : List (Int × Int × List Int × Int)) (waits : List Int) (pdu : List Int) (t46 : Bool) (a : VrAq0) : St := { fr := [(0, .d (.sl LRT2) l), (1, .d (.sl (.int .u32)) waits), (3, .d (.sl (.int .u8)) pdu), (6, .pb 0 0), (46, .d .bool t46)], nt := 166, up := [], own := [(0, .box 52 [.d (.int .u8) a.1, .d (.int .u16) a.2.1, .d (.int .u16) a.2.2.1, .d (.int .u16) a.2.2.2.1, .d (.sl (.int .u16)) a.2.2.2.2.1, .d (.sl .bool) a.2.2.2.2.2])], nx := 1, log := [], ln := 0 }
def law29_ViewReads_k2 (l : List (Int × Int × List Int × Int)) (waits : List Int) (t78 : Bool) (a : VrAq0) (r : VrAq1) : St := { fr := [(0, .d (.sl LRT2) l), (1, .d (.sl (.int .u32)) waits), (6, .pb 0 0), (10, .pb 1 0), (78, .d .bool t78)], nt := 166, up := [], own := [(0, .box 52 [.d (.int .u8) a.1, .d (.int .u16) a.2.1, .d (.int .u16) a.2.2.1, .d (.int .u16) a.2.2.2.1, .d (.sl (.int .u16)) a.2.2.2.2.1, .d (.sl .bool) a.2.2.2.2.2]), (1, .box 55 [.d (.int .u8) r.1, .d (.int .u8) r.2.1, .d (.sl .bool) r.2.2.1, .d (.sl (.int .u16)) r.2.2.2.1, .d (.int .u16) r.2.2.2.2.1, .d (.int .u16) r.2.2.2.2.2])], nx := 2, log := [], ln := 0 }
def law29_ViewReads_k3 (m : List Int) (t112 : Bool) (a : VrAq0) (r : VrAq1) : St := { fr := [(6, .pb 0 0), (10, .pb 1 0), (16, .d (.sl (.int .u16)) m), (112, .d .bool t112)], nt := 166, up := [], own := [(0, .box 52 [.d (.int .u8) a.1, .d (.int .u16) a.2.1, .d (.int .u16) a.2.2.1, .d (.int .u16) a.2.2.2.1, .d (.sl (.int .u16)) a.2.2.2.2.1, .d (.sl .bool) a.2.2.2.2.2]), (1, .box 55 [.d (.int .u8) r.1, .d (.int .u8) r.2.1, .d (.sl .bool) r.2.2.1, .d (.sl (.int .u16)) r.2.2.2.1, .d (.int .u16) r.2.2.2.2.1, .d (.int .u16) r.2.2.2.2.2])], nx := 2, log := [], ln := 0 }
def law29_ViewReads_k4 (m : List Int) (t127 : Bool) (a : VrAq0) (r : VrAq1) : St := { fr := [(6, .pb 0 0), (10, .pb 1 0), (16, .d (.sl (.int .u16)) m), (127, .d .bool t127)], nt := 166, up := [], own := [(0, .box 52 [.d (.int .u8) a.1, .d (.int .u16) a.2.1, .d (.int .u16) a.2.2.1, .d (.int .u16) a.2.2.2.1, .d (.sl (.int .u16)) a.2.2.2.2.1, .d (.sl .bool) a.2.2.2.2.2]), (1, .box 55 [.d (.int .u8) r.1, .d (.int .u8) r.2.1, .d (.sl .bool) r.2.2.1, .d (.sl (.int .u16)) r.2.2.2.1, .d (.int .u16) r.2.2.2.2.1, .d (.int .u16) r.2.2.2.2.2])], nx := 2, log := [], ln := 0 }
def law29_ViewReads_m1 (j2 : List (Int × Int × List Int × Int) → List Int → Bool → VrAq0 → VrAq1 → Option (As [.bool])) (l : List (Int × Int × List Int × Int)) (waits : List Int) (pdu : List Int) (t46 : Bool) (a : VrAq0) : Option (As [.bool]) :=
  if t46 = true then Option.bind (law29_awake ()) fun (y : Bool × Unit) => some (y.1, ()) else Option.bind (view_Serve (l, waits, pdu, ())) fun (y : List Int × Unit) => Option.bind (reply_Parse (y.1, ())) fun (y : LRT1 × Int × Unit) => Option.bind (ask_Look (pdu, ())) fun (y_1 : (VrAq0) × Int × Unit) => if gt (Int.ofNat (List.length pdu)) 0 = true then if nei y.2.1 0 = true then j2 l waits true a y.1 else if nei y_1.2.1 0 = true then j2 l waits (nei y.1.2.1 y_1.2.1) a y.1 else j2 l waits false a y.1 else j2 l waits false a y.1
def law29_ViewReads_m2 (j3 : List Int → Bool → VrAq0 → VrAq1 → Option (As [.bool])) (l : List (Int × Int × List Int × Int)) (waits : List Int) (t78 : Bool) (a : VrAq0) (r : VrAq1) : Option (As [.bool]) :=
  if t78 = true then some (false, ()) else Option.bind (ask_Bytes (a, ())) fun (y : List Int × Int × Unit) => if nei y.2.1 0 = true then Option.bind (law29_awake ()) fun (y : Bool × Unit) => some (y.1, ()) else Option.bind (view_Mem (l, waits, ())) fun (y_1 : (List Bool × List Bool × List Int × List Int) × Unit) => Option.bind (view_Serve (l, waits, y.1, ())) fun (y : List Int × Unit) => Option.bind (reply_Parse (y.1, ())) fun (y : LRT1 × Int × Unit) => if nei y.2.1 0 = true then j3 y_1.1.2.2.1 true a y.1 else if nei y.1.1 a.1 = true then j3 y_1.1.2.2.1 true a y.1 else j3 y_1.1.2.2.1 (nei (Int.ofNat (List.length y_1.1.2.2.1)) 50) a y.1
def law29_ViewReads_m3 (j4 : List Int → Bool → VrAq0 → VrAq1 → Option (As [.bool])) (m : List Int) (t112 : Bool) (a : VrAq0) (r : VrAq1) : Option (As [.bool]) :=
  if t112 = true then some (false, ()) else if eqi a.1 3 = true then j4 m (le (add .i64 (cvt .i64 a.2.1) (cvt .i64 a.2.2.1)) (Int.ofNat (List.length m))) a r else j4 m false a r
def law29_ViewReads_m4 (m : List Int) (t127 : Bool) (a : VrAq0) (r : VrAq1) : Option (As [.bool]) :=
  if t127 = true then if eqi r.2.1 0 = true then Option.bind (cut m a.2.1 (add .i64 (cvt .i64 a.2.1) (cvt .i64 a.2.2.1))) fun (y : List Int) => Option.bind (law06_Regs (r.2.2.2.1, y, ())) fun (y : Bool × Unit) => if y.1 = true then Option.bind (law29_awake ()) fun (y : Bool × Unit) => some (y.1, ()) else some (false, ()) else some (false, ()) else if eqi r.2.1 2 = true then if eqi (add .i64 (Int.ofNat (List.length r.2.2.2.1)) (Int.ofNat (List.length r.2.2.1))) 0 = true then Option.bind (law29_awake ()) fun (y : Bool × Unit) => some (y.1, ()) else some (false, ()) else some (false, ())
def law29_ViewReads_m0 (j1 : List (Int × Int × List Int × Int) → List Int → List Int → Bool → VrAq0 → Option (As [.bool])) (l : List (Int × Int × List Int × Int)) (waits : List Int) (a : VrAq0) (pdu : List Int) : Option (As [.bool]) :=
  if gt (Int.ofNat (List.length l)) 60 = true then j1 l waits pdu true a else if gt (Int.ofNat (List.length waits)) 60 = true then j1 l waits pdu true a else if gt (Int.ofNat (List.length pdu)) 300 = true then j1 l waits pdu true a else if gt (Int.ofNat (List.length a.2.2.2.2.1)) 200 = true then j1 l waits pdu true a else if gt (Int.ofNat (List.length a.2.2.2.2.2)) 2000 = true then j1 l waits pdu true a else Option.bind (ledger_Right (l, ())) fun (y : Bool × Unit) => j1 l waits pdu (!y.1) a
def law29_ViewReads_K4 (m : List Int) (t127 : Bool) (a : VrAq0) (r : VrAq1) : Option (As [.bool]) := law29_ViewReads_m4 m t127 a r
def law29_ViewReads_K3 (m : List Int) (t112 : Bool) (a : VrAq0) (r : VrAq1) : Option (As [.bool]) := law29_ViewReads_m3 (law29_ViewReads_K4) m t112 a r
def law29_ViewReads_K2 (l : List (Int × Int × List Int × Int)) (waits : List Int) (t78 : Bool) (a : VrAq0) (r : VrAq1) : Option (As [.bool]) := law29_ViewReads_m2 (law29_ViewReads_K3) l waits t78 a r
def law29_ViewReads_K1 (l : List (Int × Int × List Int × Int)) (waits : List Int) (pdu : List Int) (t46 : Bool) (a : VrAq0) : Option (As [.bool]) := law29_ViewReads_m1 (law29_ViewReads_K2) l waits pdu t46 a
def law29_ViewReads (x : As [.sl LRT2, .sl (.int .u32), .pr (.int .u8) LRT3, .sl (.int .u8)]) : Option (As [.bool]) := law29_ViewReads_m0 law29_ViewReads_K1 x.1 x.2.1 x.2.2.1 x.2.2.2.1
theorem law29_ViewReads_c4 (J : Orc (As [.bool])) (m : List Int) (t127 : Bool) (a : VrAq0) (r : VrAq1) : pfn Try.prog law29_ViewReads_e 6 18446744073709551616 (Ev.get law29_ViewReads_h) 5 law29_ViewReads_s J 4094 [] (law29_ViewReads_k4 m t127 a r) = law29_ViewReads_m4 m t127 a r := by kernel_rfl
theorem law29_ViewReads_c3 (J : Orc (As [.bool])) (m : List Int) (t112 : Bool) (a : VrAq0) (r : VrAq1) : pfn Try.prog law29_ViewReads_e 6 18446744073709551616 (Ev.get law29_ViewReads_h) 5 law29_ViewReads_s J 2046 [] (law29_ViewReads_k3 m t112 a r) = law29_ViewReads_m3 (fun m t127 a r => J 4094 [] (law29_ViewReads_k4 m t127 a r)) m t112 a r := by kernel_rfl
theorem law29_ViewReads_c2 (J : Orc (As [.bool])) (l : List (Int × Int × List Int × Int)) (waits : List Int) (t78 : Bool) (a : VrAq0) (r : VrAq1) : pfn Try.prog law29_ViewReads_e 6 18446744073709551616 (Ev.get law29_ViewReads_h) 5 law29_ViewReads_s J 125 [] (law29_ViewReads_k2 l waits t78 a r) = law29_ViewReads_m2 (fun m t112 a r => J 2046 [] (law29_ViewReads_k3 m t112 a r)) l waits t78 a r := by kernel_rfl
theorem law29_ViewReads_c1 (J : Orc (As [.bool])) (l : List (Int × Int × List Int × Int)) (waits : List Int) (pdu : List Int) (t46 : Bool) (a : VrAq0) : pfn Try.prog law29_ViewReads_e 6 18446744073709551616 (Ev.get law29_ViewReads_h) 5 law29_ViewReads_s J 6 [] (law29_ViewReads_k1 l waits pdu t46 a) = law29_ViewReads_m1 (fun l waits t78 a r => J 125 [] (law29_ViewReads_k2 l waits t78 a r)) l waits pdu t46 a := by kernel_rfl
theorem law29_ViewReads_c0 (J : Orc (As [.bool])) (x : As [.sl LRT2, .sl (.int .u32), .pr (.int .u8) LRT3, .sl (.int .u8)]) : rfn Try.prog law29_ViewReads_e 6 18446744073709551616 (Ev.get law29_ViewReads_h) 5 law29_ViewReads_s J x = law29_ViewReads_m0 (fun l waits pdu t46 a => J 6 [] (law29_ViewReads_k1 l waits pdu t46 a)) x.1 x.2.1 x.2.2.1 x.2.2.2.1 := by kernel_rfl
theorem law29_ViewReads_g4 (m : List Int) (t127 : Bool) (a : VrAq0) (r : VrAq1) : jfn Try.prog law29_ViewReads_e 6 18446744073709551616 (Ev.get law29_ViewReads_h) 5 law29_ViewReads_s 4094 [] (law29_ViewReads_k4 m t127 a r) = law29_ViewReads_K4 m t127 a r := by
  rw [pfn_eq (by decide)]
  rw [law29_ViewReads_c4]
  rfl
theorem law29_ViewReads_g3 (m : List Int) (t112 : Bool) (a : VrAq0) (r : VrAq1) : jfn Try.prog law29_ViewReads_e 6 18446744073709551616 (Ev.get law29_ViewReads_h) 5 law29_ViewReads_s 2046 [] (law29_ViewReads_k3 m t112 a r) = law29_ViewReads_K3 m t112 a r := by
  rw [pfn_eq (by decide)]
  have e4 : (fun m t127 a r => (jfn Try.prog law29_ViewReads_e 6 18446744073709551616 (Ev.get law29_ViewReads_h) 5 law29_ViewReads_s) 4094 [] (law29_ViewReads_k4 m t127 a r)) = law29_ViewReads_K4 := funext fun m => funext fun t127 => funext fun a => funext fun r => law29_ViewReads_g4 m t127 a r
  rw [law29_ViewReads_c3, e4]
  rfl
theorem law29_ViewReads_g2 (l : List (Int × Int × List Int × Int)) (waits : List Int) (t78 : Bool) (a : VrAq0) (r : VrAq1) : jfn Try.prog law29_ViewReads_e 6 18446744073709551616 (Ev.get law29_ViewReads_h) 5 law29_ViewReads_s 125 [] (law29_ViewReads_k2 l waits t78 a r) = law29_ViewReads_K2 l waits t78 a r := by
  rw [pfn_eq (by decide)]
  have e3 : (fun m t112 a r => (jfn Try.prog law29_ViewReads_e 6 18446744073709551616 (Ev.get law29_ViewReads_h) 5 law29_ViewReads_s) 2046 [] (law29_ViewReads_k3 m t112 a r)) = law29_ViewReads_K3 := funext fun m => funext fun t112 => funext fun a => funext fun r => law29_ViewReads_g3 m t112 a r
  rw [law29_ViewReads_c2, e3]
  rfl
theorem law29_ViewReads_g1 (l : List (Int × Int × List Int × Int)) (waits : List Int) (pdu : List Int) (t46 : Bool) (a : VrAq0) : jfn Try.prog law29_ViewReads_e 6 18446744073709551616 (Ev.get law29_ViewReads_h) 5 law29_ViewReads_s 6 [] (law29_ViewReads_k1 l waits pdu t46 a) = law29_ViewReads_K1 l waits pdu t46 a := by
  rw [pfn_eq (by decide)]
  have e2 : (fun l waits t78 a r => (jfn Try.prog law29_ViewReads_e 6 18446744073709551616 (Ev.get law29_ViewReads_h) 5 law29_ViewReads_s) 125 [] (law29_ViewReads_k2 l waits t78 a r)) = law29_ViewReads_K2 := funext fun l => funext fun waits => funext fun t78 => funext fun a => funext fun r => law29_ViewReads_g2 l waits t78 a r
  rw [law29_ViewReads_c1, e2]
  rfl
theorem law29_ViewReads_t (x : As [.sl LRT2, .sl (.int .u32), .pr (.int .u8) LRT3, .sl (.int .u8)]) : evT Try.prog law29_ViewReads_e 6 18446744073709551616 (Ev.get law29_ViewReads_h) 5 law29_ViewReads_s x = law29_ViewReads x := by
  have e1 : (fun l waits pdu t46 a => (jfn Try.prog law29_ViewReads_e 6 18446744073709551616 (Ev.get law29_ViewReads_h) 5 law29_ViewReads_s) 6 [] (law29_ViewReads_k1 l waits pdu t46 a)) = law29_ViewReads_K1 := funext fun l => funext fun waits => funext fun pdu => funext fun t46 => funext fun a => law29_ViewReads_g1 l waits pdu t46 a
  rw [rfn_eq, law29_ViewReads_c0, e1]
  rfl
theorem law29_ViewReads_ok : CtOk Try.prog (fun _ => True) 5 ⟨law29_ViewReads_s, law29_ViewReads⟩ := ct_of_ev (env_cons law29_awake_ok (env_cons view_Mem_ok (env_cons ledger_Right_ok (env_cons view_Serve_ok (env_cons reply_Parse_ok (env_cons ask_Look_ok (env_cons ask_Bytes_ok (env_cons law06_Regs_ok env_nil)))))))) law29_ViewReads_t
end Go.Proofs.Lx

end

section
/- Plain laws: a kit of lemmas about what the models are made of. -/
namespace Pl
open Go Ev Sx
set_option maxRecDepth 10000

/-! ### loops -/
theorem loopF_succ {σ R : Type} (F : (σ → Option R) → σ → Option R) (n : Nat) (s : σ) : loopF F (n + 1) s = F (loopF F n) s := rfl
/-- a loop is G, where each step is, if the next ones are -/
theorem loopF_eq {σ R : Type} {F : (σ → Option R) → σ → Option R} {Inv : σ → Prop} {μ : σ → Nat} {G : σ → Option R}
    (step : ∀ self s, Inv s → (∀ s', Inv s' → μ s' < μ s → self s' = G s') → F self s = G s) : ∀ (n : Nat) (s : σ), Inv s → μ s < n → loopF F n s = G s
  | 0, s, _, h => by omega
  | n + 1, s, hs, h => by
    rw [loopF_succ]
    exact step _ s hs fun s' hs' hlt => loopF_eq step n s' hs' (by omega)
/-! ### numbers -/
theorem w64 {x : Int} (h1 : -9223372036854775808 ≤ x) (h2 : x ≤ 9223372036854775807) : IntKind.i64.wrap x = x := by
  simp only [IntKind.wrap, IntKind.signed, IntKind.bits]
  simp
  omega
theorem wu8 {x : Int} (h1 : 0 ≤ x) (h2 : x ≤ 255) : IntKind.u8.wrap x = x := by
  simp only [IntKind.wrap, IntKind.signed, IntKind.bits]
  simp
  omega
theorem add64 {a b : Int} (h1 : -9223372036854775808 ≤ a + b) (h2 : a + b ≤ 9223372036854775807) : add .i64 a b = a + b := w64 h1 h2
theorem sub64 {a b : Int} (h1 : -9223372036854775808 ≤ a - b) (h2 : a - b ≤ 9223372036854775807) : sub .i64 a b = a - b := w64 h1 h2
theorem mul64 {a b : Int} (h1 : -9223372036854775808 ≤ a * b) (h2 : a * b ≤ 9223372036854775807) : mul .i64 a b = a * b := w64 h1 h2
theorem cvt64 {a : Int} (h1 : -9223372036854775808 ≤ a) (h2 : a ≤ 9223372036854775807) : cvt .i64 a = a := w64 h1 h2
theorem succ64 {n : Nat} (h : n < 4611686018427387904) : add .i64 (n : Int) 1 = ((n + 1 : Nat) : Int) := by rw [add64 (by omega) (by omega)]; rfl
theorem addn64 {n m : Nat} (h : n + m < 4611686018427387904) : add .i64 (n : Int) (m : Int) = ((n + m : Nat) : Int) := by rw [add64 (by omega) (by omega)]; rfl
theorem ofNat_eq (n : Nat) : Int.ofNat n = (n : Int) := rfl
theorem lt_iff {a b : Int} : lt a b = true ↔ a < b := by simp [lt]
theorem le_iff {a b : Int} : le a b = true ↔ a ≤ b := by simp [le]
theorem gt_iff {a b : Int} : gt a b = true ↔ b < a := by simp [gt]
theorem ge_iff {a b : Int} : ge a b = true ↔ b ≤ a := by simp [ge]
theorem eqi_iff {a b : Int} : eqi a b = true ↔ a = b := by simp [eqi]
theorem nei_iff {a b : Int} : nei a b = true ↔ a ≠ b := by simp [nei]
theorem eqs_iff {a b : List UInt8} : eqs a b = true ↔ a = b := by simp [eqs]
theorem small_iff {n : Nat} : small n = true ↔ n ≤ 1073741824 := by simp [small]
theorem lt_dec (a b : Int) : lt a b = decide (a < b) := rfl
theorem le_dec (a b : Int) : le a b = decide (a ≤ b) := rfl
theorem gt_dec (a b : Int) : gt a b = decide (b < a) := rfl
theorem need_t {b : Bool} {β : Type} {k : Option β} (h : b = true) : need b k = k := by unfold need; rw [if_pos h]
theorem need_small {n : Nat} {β : Type} {k : Option β} (h : n ≤ 1073741824) : need (small n) k = k := need_t (small_iff.2 h)
/-! ### rows -/
theorem at_get {α : Type} {s : List α} {i : Nat} {c : α} (h : s[i]? = some c) : at? s (i : Int) = some c := by
  unfold at?
  simp [h]
theorem at_zero {α : Type} (c : α) (q : List α) : at? (c :: q) 0 = some c := rfl
theorem drop_nil {α : Type} {s : List α} {i : Nat} (h : s.drop i = []) : s.length ≤ i := by
  have := congrArg List.length h
  simp at this
  omega
theorem cut_nat {α : Type} {xs : List α} {i j : Nat} (h1 : i ≤ j) (h2 : j ≤ xs.length) : cut xs (i : Int) (j : Int) = some ((xs.take j).drop i) := by
  unfold cut
  rw [if_pos ⟨by omega, by omega, by omega⟩]
  simp
theorem cut_from {α : Type} {xs : List α} {i : Nat} (h : i ≤ xs.length) : cut xs (i : Int) (Int.ofNat xs.length) = some (xs.drop i) := by
  rw [ofNat_eq, cut_nat h (Nat.le_refl _)]
  simp
theorem cut_to {α : Type} {xs : List α} {j : Nat} (h : j ≤ xs.length) : cut xs 0 (j : Int) = some (xs.take j) := by
  have := cut_nat (xs := xs) (Nat.zero_le j) h
  simpa using this
theorem cut_one {α : Type} (c : α) (q : List α) : cut (c :: q) 1 (Int.ofNat (c :: q).length) = some q := by
  have := cut_from (xs := c :: q) (i := 1) (by simp)
  simpa using this
/-! ### bytes -/
theorem eqV_refl : ∀ (t : Ty) (x : Vl t), eqV t x x = true := by
  have hl : ∀ {α : Type} {f : α → α → Bool}, (∀ a, f a a = true) → ∀ x : List α, eqL f x x = true := fun h x => by
    induction x with
    | nil => rfl
    | cons a q ih => simp [eqL, h, ih]
  intro t
  induction t with
  | int k => intro x; simp [eqV, eqi]
  | bool => intro x; simp [eqV, eqb]
  | str => intro x; simp [eqV, eqs]
  | sl t ih => intro x; exact hl ih x
  | pr a b iha ihb => intro x; simp [eqV, iha, ihb]
  | wr a ih => intro x; exact ih x
  | un => intro x; rfl
  | ar n t ih => intro x; exact hl ih x
theorem eqAs_refl : ∀ (rs : List Ty) (x : As rs), eqAs rs x x = true
  | [], _ => rfl
  | t :: r, x => by simp [eqAs, eqV_refl, eqAs_refl r]
end Pl

end

section
/- Plain laws: rows walked by loops, numbers of 8 and 16 bits. -/
namespace Pl
open Go Ev Sx
/-! ### loops over rows -/
/-- a loop over a row that gathers something -/
theorem loop_idx {σ R α β : Type} {F : (σ → Option R) → σ → Option R} {mk : Nat → β → σ} {xs : List α} {stp : β → α → β} {fin : β → Option R} (Inv : Nat → β → Prop)
    (hs : ∀ self i acc x, xs[i]? = some x → Inv i acc → F self (mk i acc) = self (mk (i + 1) (stp acc x)))
    (hi : ∀ i acc x, xs[i]? = some x → Inv i acc → Inv (i + 1) (stp acc x))
    (he : ∀ self acc, Inv xs.length acc → F self (mk xs.length acc) = fin acc) :
    ∀ (k i : Nat) (acc : β) (n : Nat), i + k = xs.length → k < n → Inv i acc → loopF F n (mk i acc) = fin ((xs.drop i).foldl stp acc)
  | _, _, _, 0, _, hn, _ => by omega
  | 0, i, acc, n + 1, h, _, hI => by
    have : i = xs.length := by omega
    subst this
    rw [loopF_succ, he _ _ hI, List.drop_length]
    rfl
  | k + 1, i, acc, n + 1, h, hn, hI => by
    have hx : xs[i]? = some (xs[i]'(by omega)) := List.getElem?_eq_getElem (by omega)
    rw [loopF_succ, hs _ _ _ _ hx hI, loop_idx Inv hs hi he k (i + 1) _ n (by omega) (by omega) (hi _ _ _ hx hI), List.drop_eq_getElem_cons (show i < xs.length by omega)]
    rfl
/-- what such a loop is, if it may end early -/
def goL {α β R : Type} (body : β → α → (β → Option R) → Option R) (fin : β → Option R) : List α → β → Option R
  | [], acc => fin acc
  | x :: r, acc => body acc x (goL body fin r)
theorem loop_go {σ R α β : Type} {F : (σ → Option R) → σ → Option R} {mk : Nat → β → σ} {xs : List α} {body : β → α → (β → Option R) → Option R} {fin : β → Option R}
    (hs : ∀ self i acc x, xs[i]? = some x → F self (mk i acc) = body acc x fun a => self (mk (i + 1) a))
    (he : ∀ self acc, F self (mk xs.length acc) = fin acc) :
    ∀ (k i : Nat) (acc : β) (n : Nat), i + k = xs.length → k < n → loopF F n (mk i acc) = goL body fin (xs.drop i) acc
  | _, _, _, 0, _, hn => by omega
  | 0, i, acc, n + 1, h, _ => by
    have : i = xs.length := by omega
    subst this
    rw [loopF_succ, he, List.drop_length]
    rfl
  | k + 1, i, acc, n + 1, h, hn => by
    have hx : xs[i]? = some (xs[i]'(by omega)) := List.getElem?_eq_getElem (by omega)
    rw [loopF_succ, hs _ _ _ _ hx, List.drop_eq_getElem_cons (show i < xs.length by omega)]
    show _ = body acc _ (goL body fin (xs.drop (i + 1)))
    congr 1
    funext a
    exact loop_go hs he k (i + 1) a n (by omega) (by omega)
theorem foldl_app {α β : Type} (f : α → List β) : ∀ (xs : List α) (out : List β), xs.foldl (fun o x => o ++ f x) out = out ++ xs.flatMap f
  | [], out => by simp
  | x :: r, out => by simp [foldl_app f r]
/-! ### numbers of 8 and 16 bits -/
theorem wr8 (x : Int) : IntKind.u8.wrap x = x % 256 := by
  simp only [IntKind.wrap, IntKind.signed, IntKind.bits]
  simp
theorem wr16 (x : Int) : IntKind.u16.wrap x = x % 65536 := by
  simp only [IntKind.wrap, IntKind.signed, IntKind.bits]
  simp
theorem cvt8 (x : Int) : cvt .u8 x = x % 256 := wr8 x
theorem cvt16 (x : Int) : cvt .u16 x = x % 65536 := wr16 x
theorem shr8 (k : IntKind) (x : Int) (hk : 8 ≤ k.bits) : shr k x 8 = x / 256 := by
  unfold shr
  have : min (8 : Int).toNat k.bits = 8 := by
    have : (8 : Int).toNat = 8 := rfl
    omega
  rw [this, Int.fdiv_eq_ediv_of_nonneg _ (by decide)]
  rfl
theorem u16_rng (x : Int) : 0 ≤ IntKind.u16.wrap x ∧ IntKind.u16.wrap x < 65536 := by rw [wr16]; omega
end Pl

end

section
/- Plain laws: more loops. -/
namespace Pl
open Go Ev Sx
/-- a loop whose states are known -/
theorem loop_dt {σ R : Type} {F : (σ → Option R) → σ → Option R} {mk : Nat → σ} {N : Nat} {r : Option R} (hs : ∀ self i, i < N → F self (mk i) = self (mk (i + 1))) (he : ∀ self, F self (mk N) = r) :
    ∀ (k i n : Nat), i + k = N → k < n → loopF F n (mk i) = r
  | _, _, 0, _, h => by omega
  | 0, i, n + 1, h, _ => by
    have : i = N := by omega
    subst this
    rw [loopF_succ, he]
  | k + 1, i, n + 1, h, hn => by rw [loopF_succ, hs _ _ (by omega), loop_dt hs he k (i + 1) n (by omega) (by omega)]
/-- what a loop is that may end early, and says where -/
def goI {α β R : Type} (body : Nat → β → α → (β → Option R) → Option R) (fin : β → Option R) : Nat → List α → β → Option R
  | _, [], acc => fin acc
  | i, x :: r, acc => body i acc x (goI body fin (i + 1) r)
theorem loop_goi {σ R α β : Type} {F : (σ → Option R) → σ → Option R} {mk : Nat → β → σ} {xs : List α} {body : Nat → β → α → (β → Option R) → Option R} {fin : β → Option R}
    (hs : ∀ self i acc x, xs[i]? = some x → F self (mk i acc) = body i acc x fun a => self (mk (i + 1) a))
    (he : ∀ self acc, F self (mk xs.length acc) = fin acc) :
    ∀ (k i : Nat) (acc : β) (n : Nat), i + k = xs.length → k < n → loopF F n (mk i acc) = goI body fin i (xs.drop i) acc
  | _, _, _, 0, _, hn => by omega
  | 0, i, acc, n + 1, h, _ => by
    have : i = xs.length := by omega
    subst this
    rw [loopF_succ, he, List.drop_length]
    rfl
  | k + 1, i, acc, n + 1, h, hn => by
    have hx : xs[i]? = some (xs[i]'(by omega)) := List.getElem?_eq_getElem (by omega)
    rw [loopF_succ, hs _ _ _ _ hx, List.drop_eq_getElem_cons (show i < xs.length by omega)]
    show _ = body i acc _ (goI body fin (i + 1) (xs.drop (i + 1)))
    congr 1
    funext a
    exact loop_goi hs he k (i + 1) a n (by omega) (by omega)
theorem set_at {α : Type} (p : List α) (x y : α) (q : List α) : (p ++ x :: q).set p.length y = p ++ y :: q := by
  rw [List.set_append_right _ _ (Nat.le_refl _), Nat.sub_self]
  rfl
end Pl

end

section
/- The check sum, as a plain function. -/

namespace Go.Proofs.Lx
open Go Ev Sx Pl
set_option maxRecDepth 100000
theorem capOk_self (n : Int) : capOk n n = true := by
  unfold capOk
  rw [if_pos rfl]
def two (x : Int) : List Int := [x / 256 % 256, x % 256]
end Go.Proofs.Lx

end

section
/- Requests: which are right, and their bytes. -/
namespace Go.Proofs.Lx
open Go Ev Sx Pl
set_option maxRecDepth 100000
abbrev TA := Int × Int × Int × Int × List Int × List Bool
structure OkA (a : TA) : Prop where
  f0 : 0 ≤ a.1
  f1 : a.1 ≤ 255
  at0 : 0 ≤ a.2.1
  at1 : a.2.1 ≤ 65535
  m0 : 0 ≤ a.2.2.1
  m1 : a.2.2.1 ≤ 65535
  t0 : 0 ≤ a.2.2.2.1
  t1 : a.2.2.2.1 ≤ 65535
  w : ∀ x ∈ a.2.2.2.2.1, 0 ≤ x ∧ x ≤ 65535
  lw : a.2.2.2.2.1.length ≤ 100000
  lb : a.2.2.2.2.2.length ≤ 100000
def shp (f : Int) : Option (Int × Int × Int × Bool × Bool) :=
  if eqi 1 f = true then some (2000, 0, 0, false, false) else if eqi 2 f = true then some (2000, 0, 0, false, false) else if eqi 3 f = true then some (125, 0, 0, false, false) else
  if eqi 4 f = true then some (125, 0, 0, false, false) else if eqi 5 f = true then some (0, 1, 0, false, false) else if eqi 6 f = true then some (0, 0, 1, false, false) else
  if eqi 15 f = true then some (1968, 1968, 0, false, true) else if eqi 16 f = true then some (123, 0, 123, false, true) else if eqi 23 f = true then some (125, 0, 121, true, false) else none
def shpD (f : Int) : Int × Int × Int × Bool × Bool := (shp f).getD (0, 0, 0, false, false)
theorem shape_eq (f : Int) : ask_shape (f, ()) = some (shpD f, (shp f).isSome, ()) := rfl
theorem shp_cases (f : Int) : ((f = 1 ∨ f = 2) ∧ shp f = some (2000, 0, 0, false, false)) ∨ ((f = 3 ∨ f = 4) ∧ shp f = some (125, 0, 0, false, false)) ∨ (f = 5 ∧ shp f = some (0, 1, 0, false, false)) ∨
    (f = 6 ∧ shp f = some (0, 0, 1, false, false)) ∨ (f = 15 ∧ shp f = some (1968, 1968, 0, false, true)) ∨ (f = 16 ∧ shp f = some (123, 0, 123, false, true)) ∨ (f = 23 ∧ shp f = some (125, 0, 121, true, false)) ∨
    ((f ≠ 1 ∧ f ≠ 2 ∧ f ≠ 3 ∧ f ≠ 4 ∧ f ≠ 5 ∧ f ≠ 6 ∧ f ≠ 15 ∧ f ≠ 16 ∧ f ≠ 23) ∧ shp f = none) := by
  by_cases h1 : f = 1
  · subst h1; exact .inl ⟨.inl rfl, rfl⟩
  by_cases h2 : f = 2
  · subst h2; exact .inl ⟨.inr rfl, rfl⟩
  by_cases h3 : f = 3
  · subst h3; exact .inr (.inl ⟨.inl rfl, rfl⟩)
  by_cases h4 : f = 4
  · subst h4; exact .inr (.inl ⟨.inr rfl, rfl⟩)
  by_cases h5 : f = 5
  · subst h5; exact .inr (.inr (.inl ⟨rfl, rfl⟩))
  by_cases h6 : f = 6
  · subst h6; exact .inr (.inr (.inr (.inl ⟨rfl, rfl⟩)))
  by_cases h7 : f = 15
  · subst h7; exact .inr (.inr (.inr (.inr (.inl ⟨rfl, rfl⟩))))
  by_cases h8 : f = 16
  · subst h8; exact .inr (.inr (.inr (.inr (.inr (.inl ⟨rfl, rfl⟩)))))
  by_cases h9 : f = 23
  · subst h9; exact .inr (.inr (.inr (.inr (.inr (.inr (.inl ⟨rfl, rfl⟩))))))
  refine .inr (.inr (.inr (.inr (.inr (.inr (.inr ⟨⟨h1, h2, h3, h4, h5, h6, h7, h8, h9⟩, ?_⟩))))))
  have e : ∀ n : Int, f ≠ n → ¬ eqi n f = true := fun n hn h => hn (eqi_iff.1 h).symm
  unfold shp
  rw [if_neg (e _ h1), if_neg (e _ h2), if_neg (e _ h3), if_neg (e _ h4), if_neg (e _ h5), if_neg (e _ h6), if_neg (e _ h7), if_neg (e _ h8), if_neg (e _ h9)]
def withinV (n most : Int) : Bool := if eqi most 0 = true then eqi n 0 else if ge n 1 = true then le n most else false
theorem within_eq (n most : Int) : ask_within (n, most, ()) = some (withinV n most, ()) := by
  show ask_within_m0 n most = _
  unfold ask_within_m0 withinV
  split
  · rfl
  · split <;> rfl
def rightS (a : TA) (s : Int × Int × Int × Bool × Bool) : Bool := (s.2.2.2.1 || eqi a.2.2.2.1 0) && (withinV a.2.2.1 s.1 && (withinV (Int.ofNat a.2.2.2.2.2.length) s.2.1 && (withinV (Int.ofNat a.2.2.2.2.1.length) s.2.2.1 &&
  (!s.2.2.2.2 || eqi (Int.ofNat a.2.2.2.2.2.length + Int.ofNat a.2.2.2.2.1.length) a.2.2.1))))
def rightA (a : TA) : Bool := match shp a.1 with
  | none => false
  | some s => rightS a s
theorem right_K2 (t : Bool) (a1 a2 a3 a4 : Int) (a5 : List Int) (a6 : List Bool) (s1 s2 s3 : Int) (s4 s5 : Bool) :
    ask_Right_K2 t a1 a2 a3 a4 a5 a6 s1 s2 s3 s4 s5 = some (!t && (!s5 || eqi (add .i64 (Int.ofNat a6.length) (Int.ofNat a5.length)) (cvt .i64 a3)), ()) := by
  unfold ask_Right_K2 ask_Right_m2
  cases t <;> cases s5 <;> rfl
theorem right_K1 (t : Bool) (a1 a2 a3 a4 : Int) (a5 : List Int) (a6 : List Bool) (s1 s2 s3 : Int) (s4 s5 : Bool) :
    ask_Right_K1 t a1 a2 a3 a4 a5 a6 s1 s2 s3 s4 s5 = some (!t && (withinV (cvt .i64 a3) s1 && (withinV (Int.ofNat a6.length) s2 && (withinV (Int.ofNat a5.length) s3 && (!s5 || eqi (add .i64 (Int.ofNat a6.length) (Int.ofNat a5.length)) (cvt .i64 a3))))), ()) := by
  unfold ask_Right_K1 ask_Right_m1
  rw [within_eq, within_eq, within_eq]
  simp only [Option.bind_some, right_K2]
  cases t <;> cases withinV (cvt .i64 a3) s1 <;> cases withinV (Int.ofNat a6.length) s2 <;> cases withinV (Int.ofNat a5.length) s3 <;> rfl
theorem right_eq {a : TA} (h : OkA a) : ask_Right (a, ()) = some (rightA a, ()) := by
  show ask_Right_m0 ask_Right_K1 a = _
  unfold ask_Right_m0
  have h1 := h.m0
  have h2 := h.m1
  have h3 := h.lw
  have h4 := h.lb
  rw [shape_eq, Option.bind_some]
  simp only [right_K1]
  rw [cvt64 (by omega) (by omega), add64 (by rw [ofNat_eq, ofNat_eq]; omega) (by rw [ofNat_eq, ofNat_eq]; omega)]
  unfold rightA shpD
  cases shp a.1 with
  | none => rfl
  | some s =>
    obtain ⟨s1, s2, s3, s4, s5⟩ := s
    unfold rightS
    have e : nei a.2.2.2.1 0 = !eqi a.2.2.2.1 0 := rfl
    rw [e]
    cases s4 <;> cases eqi a.2.2.2.1 0 <;> rfl
theorem two_eq {y : Int} : ([cvt .u8 (shr .u16 y 8), cvt .u8 y] : List Int) = two y := by
  rw [cvt8, cvt8, shr8 _ _ (by decide)]
  rfl
theorem numbers_eq {l out : List Int} (h : out.length + 2 * l.length ≤ 1000000) : ask_numbers (l, out, ()) = some (out ++ l.flatMap two, ()) := by
  show ask_numbers_m0 ask_numbers_K1 l out = _
  unfold ask_numbers_m0 ask_numbers_K1
  refine (loop_idx (xs := l) (mk := fun i acc => (l, Int.ofNat l.length, (i : Int), acc)) (stp := fun o y => o ++ two y) (fin := fun acc => some (acc, ())) (fun i acc => acc.length ≤ out.length + 2 * i) ?_ ?_ ?_ l.length 0 out _ (by omega) (by omega) (by omega)).trans ?_
  · intro self i acc x hx hI
    have hi := (List.getElem?_eq_some_iff.1 hx).1
    show ask_numbers_m1 _ l (Int.ofNat l.length) (i : Int) acc = _
    unfold ask_numbers_m1
    rw [if_pos (by rw [lt_iff, ofNat_eq]; omega), at_get hx, Option.bind_some, need_small (by omega), two_eq, succ64 (by omega)]
  · intro i acc x hx hI
    simp [two]
    omega
  · intro self acc _
    show ask_numbers_m1 _ l (Int.ofNat l.length) (l.length : Int) acc = _
    unfold ask_numbers_m1
    rw [if_neg (by rw [lt_iff, ofNat_eq]; omega)]
  · rw [List.drop_zero, foldl_app]
end Go.Proofs.Lx

end

section
/- Packed bits, lists of numbers. -/
namespace Pl
open Go Ev Sx
/-- a loop whose states are known -/
theorem loop_det {σ R : Type} {F : (σ → Option R) → σ → Option R} {mk : Nat → σ} {N : Nat} {r : Option R} (hs : ∀ self i, i < N → F self (mk i) = self (mk (i + 1))) (he : ∀ self, F self (mk N) = r) :
    ∀ (k i n : Nat), i + k = N → k < n → loopF F n (mk i) = r
  | _, _, 0, _, h => by omega
  | 0, i, n + 1, h, _ => by
    have : i = N := by omega
    subst this
    rw [loopF_succ, he]
  | k + 1, i, n + 1, h, hn => by rw [loopF_succ, hs _ _ (by omega), loop_det hs he k (i + 1) n (by omega) (by omega)]
theorem quo_nat {i d : Nat} (hi : i < 4611686018427387904) : quo .i64 (i : Int) (d : Int) = ((i / d : Nat) : Int) := by
  unfold quo
  have h := Nat.div_le_self i d
  have e : (i : Int).tdiv (d : Int) = ((i / d : Nat) : Int) := by rw [Int.ofNat_tdiv]
  rw [e]
  generalize i / d = q at h ⊢
  exact w64 (by omega) (by omega)
theorem rem_nat {i d : Nat} : rem (i : Int) (d : Int) = ((i % d : Nat) : Int) := by
  unfold rem
  rw [Int.ofNat_tmod]
/-- what is filled, place by place -/
theorem fill_step {α : Type} {f : Nat → α} {init : List α} {i : Nat} (hi : i < init.length) : ((List.range i).map f ++ init.drop i).set i (f i) = (List.range (i + 1)).map f ++ init.drop (i + 1) := by
  rw [List.drop_eq_getElem_cons hi, List.set_append_right _ _ (by simp)]
  simp only [List.length_map, List.length_range, Nat.sub_self, List.set_cons_zero, List.range_succ, List.map_append, List.map_cons, List.map_nil, List.append_assoc, List.singleton_append]
end Pl
namespace Go.Proofs.Lx
open Go Ev Sx Pl
set_option maxRecDepth 100000
def byteV : List Bool → Int
  | [] => 0
  | b :: r => (if b = true then 1 else 0) + 2 * byteV r
theorem byteV_rng : ∀ t : List Bool, 0 ≤ byteV t ∧ byteV t < 2 ^ t.length
  | [] => by simp [byteV]
  | b :: r => by
    have := byteV_rng r
    rw [List.length_cons, Int.pow_succ]
    unfold byteV
    split <;> omega
theorem byteV_snoc (b : Bool) : ∀ t : List Bool, byteV (t ++ [b]) = byteV t + (if b = true then 2 ^ t.length else 0)
  | [] => by cases b <;> rfl
  | a :: r => by
    rw [List.cons_append]
    unfold byteV
    rw [byteV_snoc b r, List.length_cons, Int.pow_succ]
    cases b <;> simp <;> omega
theorem byteV_bit : ∀ (t : List Bool) (k : Nat), byteV t / 2 ^ k % 2 = (if t.getD k false = true then 1 else 0)
  | [], k => by simp [byteV]
  | b :: r, 0 => by
    unfold byteV
    cases b <;> simp <;> omega
  | b :: r, k + 1 => by
    have := byteV_bit r k
    rw [List.getD_cons_succ, ← this]
    have e : ((if b = true then (1 : Int) else 0) + 2 * byteV r) / 2 ^ (k + 1) = byteV r / 2 ^ k := by
      rw [Int.pow_succ, Int.mul_comm (2 ^ k) 2, ← Int.ediv_ediv_of_nonneg (by decide)]
      congr 1
      split <;> omega
    show ((if b = true then (1 : Int) else 0) + 2 * byteV r) / 2 ^ (k + 1) % 2 = _
    rw [e]
def packN (n : Nat) : Nat := (n + 7) / 8
def packP (bits : List Bool) (i : Nat) : List Int := (List.range (packN bits.length)).map fun j => byteV (((bits.take i).drop (8 * j)).take 8)
def packS (bits : List Bool) : List Int := (List.range (packN bits.length)).map fun j => byteV ((bits.drop (8 * j)).take 8)
theorem packP_len (bits : List Bool) (i : Nat) : (packP bits i).length = packN bits.length := by simp [packP]
theorem packS_len (bits : List Bool) : (packS bits).length = packN bits.length := by simp [packS]
theorem packP_all (bits : List Bool) : packP bits bits.length = packS bits := by unfold packP packS; rw [List.take_length]
theorem packP_zero (bits : List Bool) : packP bits 0 = List.replicate (packN bits.length) 0 := by
  unfold packP
  rw [List.take_zero]
  simp only [List.drop_nil, List.take_nil, byteV]
  exact List.map_const' ..|>.trans (by simp)
theorem chunk_next {bits : List Bool} {i j : Nat} {y : Bool} (hy : bits[i]? = some y) : ((bits.take (i + 1)).drop (8 * j)).take 8 = ((bits.take i).drop (8 * j)).take 8 ++ (if j = i / 8 then [y] else []) := by
  have hi := (List.getElem?_eq_some_iff.1 hy).1
  have e : bits.take (i + 1) = bits.take i ++ [y] := by rw [List.take_add_one, hy]; rfl
  have hl : (bits.take i).length = i := by rw [List.length_take]; omega
  by_cases h : j = i / 8
  · rw [if_pos h, e, List.drop_append_of_le_length (by omega)]
    have h1 : ((bits.take i).drop (8 * j) ++ [y]).length ≤ 8 := by rw [List.length_append, List.length_drop, hl, List.length_singleton]; omega
    rw [List.take_of_length_le h1, List.take_of_length_le (l := (bits.take i).drop (8 * j)) (by rw [List.length_drop, hl]; omega)]
  · rw [if_neg h, List.append_nil]
    by_cases h2 : 8 * j ≤ i
    · rw [e, List.drop_append_of_le_length (by omega), List.take_append_of_le_length (by simp; omega)]
    · rw [List.drop_of_length_le (by simp; omega), List.drop_of_length_le (by simp; omega)]
theorem packP_next {bits : List Bool} {i : Nat} {y : Bool} (hy : bits[i]? = some y) :
    ∃ v, (packP bits i)[i / 8]? = some v ∧ 0 ≤ v ∧ v < 2 ^ (i % 8) ∧ packP bits (i + 1) = (if y = true then (packP bits i).set (i / 8) (v + 2 ^ (i % 8)) else packP bits i) := by
  have hi := (List.getElem?_eq_some_iff.1 hy).1
  have hm : i / 8 < packN bits.length := by unfold packN; omega
  have hlen : ((((bits.take i).drop (8 * (i / 8))).take 8)).length = i % 8 := by simp; omega
  refine ⟨byteV (((bits.take i).drop (8 * (i / 8))).take 8), ?_, (byteV_rng _).1, ?_, ?_⟩
  · unfold packP
    rw [List.getElem?_map, List.getElem?_range hm]
    rfl
  · have := (byteV_rng (((bits.take i).drop (8 * (i / 8))).take 8)).2
    rwa [hlen] at this
  · apply List.ext_getElem?
    intro j
    have hj : ∀ q, (packP bits q)[j]? = if j < packN bits.length then some (byteV (((bits.take q).drop (8 * j)).take 8)) else none := by
      intro q
      unfold packP
      rw [List.getElem?_map]
      split
      · rename_i h; rw [List.getElem?_range h]; rfl
      · rename_i h; rw [List.getElem?_eq_none (by simp; omega)]; rfl
    rw [hj]
    by_cases hjm : j < packN bits.length
    · rw [if_pos hjm, chunk_next hy]
      by_cases hji : j = i / 8
      · rw [if_pos hji, byteV_snoc]
        cases y with
        | true =>
          rw [if_pos rfl, if_pos rfl, hji, hlen, List.getElem?_set_self (by rw [packP_len]; exact hm)]
        | false =>
          rw [if_neg (by decide), if_neg (by decide), hj, if_pos hjm, Int.add_zero]
      · rw [if_neg hji, List.append_nil]
        cases y with
        | true => rw [if_pos rfl, List.getElem?_set_ne (by omega), hj, if_pos hjm]
        | false => rw [if_neg (by decide), hj, if_pos hjm]
    · rw [if_neg hjm]
      cases y with
      | true => rw [if_pos rfl, List.getElem?_set_ne (by omega), hj, if_neg hjm]
      | false => rw [if_neg (by decide), hj, if_neg hjm]
theorem bor_bit {v : Int} {k : Nat} (h0 : 0 ≤ v) (h1 : v < 2 ^ k) (hk : k < 8) : bor .u8 v (shl .u8 1 (k : Int)) = v + 2 ^ k := by
  have key : ∀ (k : Fin 8) (v : Fin 128), v.1 < 2 ^ k.1 → bor .u8 (v.1 : Int) (shl .u8 1 (k.1 : Int)) = (v.1 : Int) + 2 ^ k.1 := by decide +kernel
  obtain ⟨n, rfl⟩ := Int.eq_ofNat_of_zero_le h0
  have h2 : n < 2 ^ k := by exact_mod_cast h1
  have h3 : 2 ^ k ≤ 2 ^ 7 := Nat.pow_le_pow_right (by decide) (by omega)
  exact key ⟨k, hk⟩ ⟨n, by omega⟩ h2
theorem pack_eq {bits : List Bool} (h : bits.length ≤ 100000) : ask_Pack (bits, ()) = some (packS bits, ()) := by
  show ask_Pack_m0 ask_Pack_K1 bits = _
  have hK : ask_Pack_K1 bits (packN bits.length : Int) = some (packS bits, ()) := by
    unfold ask_Pack_K1 ask_Pack_m1
    have hN : packN bits.length ≤ 100000 := by unfold packN; omega
    rw [need_t (by rw [ge_iff]; omega), need_t (capOk_self _), Int.toNat_natCast, need_small (by omega)]
    unfold ask_Pack_K2
    rw [← packP_zero, ← packP_all]
    refine loop_det (mk := fun i => (bits, Int.ofNat bits.length, (i : Int), packP bits i)) (N := bits.length) ?_ ?_ bits.length 0 _ (by omega) (by omega)
    · intro self i hi
      have hy : bits[i]? = some (bits[i]'hi) := List.getElem?_eq_getElem hi
      obtain ⟨v, hv, h0, h1, e⟩ := packP_next hy
      show ask_Pack_m2 _ bits (Int.ofNat bits.length) (i : Int) (packP bits i) = _
      unfold ask_Pack_m2
      have hq : quo .i64 (i : Int) 8 = ((i / 8 : Nat) : Int) := quo_nat (d := 8) (by omega)
      have hr : rem (i : Int) 8 = ((i % 8 : Nat) : Int) := rem_nat (d := 8)
      rw [if_pos (by rw [lt_iff, ofNat_eq]; omega), at_get hy, Option.bind_some, hq, hr, at_get hv, succ64 (by omega)]
      simp only [Option.bind_some]
      rw [need_t (by rw [ge_iff]; omega), bor_bit h0 h1 (Nat.mod_lt _ (by decide)), Int.toNat_natCast, e]
      split <;> rfl
    · intro self
      show ask_Pack_m2 _ bits (Int.ofNat bits.length) (bits.length : Int) (packP bits bits.length) = _
      unfold ask_Pack_m2
      rw [if_neg (by rw [lt_iff, ofNat_eq]; omega)]
  unfold ask_Pack_m0
  have hq : quo .i64 (Int.ofNat bits.length) 8 = ((bits.length / 8 : Nat) : Int) := quo_nat (d := 8) (by omega)
  rw [hq]
  split
  · rename_i h1
    rw [gt_iff, ofNat_eq, show rem (bits.length : Int) 8 = ((bits.length % 8 : Nat) : Int) from rem_nat (d := 8)] at h1
    rw [succ64 (by omega)]
    have : bits.length / 8 + 1 = packN bits.length := by unfold packN; omega
    rw [this]
    exact hK
  · rename_i h1
    rw [gt_iff, ofNat_eq, show rem (bits.length : Int) 8 = ((bits.length % 8 : Nat) : Int) from rem_nat (d := 8)] at h1
    have : bits.length / 8 = packN bits.length := by unfold packN; omega
    rw [this]
    exact hK
def bitV (y : Int) (k : Nat) : Bool := eqi (band .u8 (shr .u8 y (k : Int)) 1) 1
theorem bitV_eq {y : Int} {k : Nat} (h0 : 0 ≤ y) (h1 : y < 256) (hk : k < 8) : bitV y k = decide (y / 2 ^ k % 2 = 1) := by
  have key : ∀ (k : Fin 8) (v : Fin 256), bitV (v.1 : Int) k.1 = decide ((v.1 : Int) / 2 ^ k.1 % 2 = 1) := by decide +kernel
  obtain ⟨n, rfl⟩ := Int.eq_ofNat_of_zero_le h0
  exact key ⟨k, hk⟩ ⟨n, by omega⟩
def unpackS (b : List Int) : List Bool := (List.range (8 * b.length)).map fun i => bitV (b.getD (i / 8) 0) (i % 8)
theorem unpack_eq {b : List Int} (h : b.length ≤ 100000) : ask_Unpack (b, ()) = some (unpackS b, ()) := by
  show ask_Unpack_m0 ask_Unpack_K1 b = _
  unfold ask_Unpack_m0
  have hm : mul .i64 8 (Int.ofNat b.length) = ((8 * b.length : Nat) : Int) := by
    rw [mul64 (by rw [ofNat_eq]; omega) (by rw [ofNat_eq]; omega)]
    simp
  rw [hm, need_t (by rw [ge_iff]; omega), need_t (capOk_self _), Int.toNat_natCast, need_small (by omega), List.length_replicate]
  unfold ask_Unpack_K1 unpackS
  refine (loop_det (mk := fun i => (b, Int.ofNat (8 * b.length), (i : Int), (List.range i).map (fun i => bitV (b.getD (i / 8) 0) (i % 8)) ++ (List.replicate (8 * b.length) false).drop i)) (N := 8 * b.length) ?_ ?_ (8 * b.length) 0 _ (by omega) (by omega))
  · intro self i hi
    show ask_Unpack_m1 _ b (Int.ofNat (8 * b.length)) (i : Int) _ = _
    unfold ask_Unpack_m1
    have hq : quo .i64 (i : Int) 8 = ((i / 8 : Nat) : Int) := quo_nat (d := 8) (by omega)
    have hr : rem (i : Int) 8 = ((i % 8 : Nat) : Int) := rem_nat (d := 8)
    have hlt : i / 8 < b.length := by omega
    have hb : b[i / 8]? = some (b[i / 8]'hlt) := List.getElem?_eq_getElem hlt
    have hlen : ((List.range i).map (fun i => bitV (b.getD (i / 8) 0) (i % 8)) ++ (List.replicate (8 * b.length) false).drop i).length = 8 * b.length := by simp; omega
    have ho : ((List.range i).map (fun i => bitV (b.getD (i / 8) 0) (i % 8)) ++ (List.replicate (8 * b.length) false).drop i)[i]? = some (((List.range i).map (fun i => bitV (b.getD (i / 8) 0) (i % 8)) ++ (List.replicate (8 * b.length) false).drop i)[i]'(by omega)) := List.getElem?_eq_getElem (by omega)
    rw [if_pos (by rw [lt_iff, ofNat_eq]; omega), hq, hr, at_get hb, Option.bind_some, need_t (by rw [ge_iff]; omega), at_get ho, Option.bind_some, Option.bind_some, succ64 (by omega), Int.toNat_natCast]
    have e : eqi (band .u8 (shr .u8 (b[i / 8]'hlt) ((i % 8 : Nat) : Int)) 1) 1 = bitV (b.getD (i / 8) 0) (i % 8) := by
      rw [List.getD_eq_getElem?_getD, hb]
      rfl
    rw [e, fill_step (f := fun i => bitV (b.getD (i / 8) 0) (i % 8)) (by simp; omega)]
  · intro self
    show ask_Unpack_m1 _ b (Int.ofNat (8 * b.length)) ((8 * b.length : Nat) : Int) _ = _
    unfold ask_Unpack_m1
    rw [if_neg (by rw [lt_iff, ofNat_eq]; omega), List.drop_of_length_le (by simp), List.append_nil]
end Go.Proofs.Lx

end

section
/- The bytes of requests. -/
namespace Go.Proofs.Lx
open Go Ev Sx Pl
set_option maxRecDepth 100000
/-- what a right request is -/
inductive RA : TA → Prop where
  | bits (f p n : Int) (hf : f = 1 ∨ f = 2) (h1 : 1 ≤ n) (h2 : n ≤ 2000) : RA (f, p, n, 0, [], [])
  | words (f p n : Int) (hf : f = 3 ∨ f = 4) (h1 : 1 ≤ n) (h2 : n ≤ 125) : RA (f, p, n, 0, [], [])
  | coil (p : Int) (b : Bool) : RA (5, p, 0, 0, [], [b])
  | word (p : Int) (x : Int) : RA (6, p, 0, 0, [x], [])
  | coils (p : Int) (l : List Bool) (h1 : 1 ≤ l.length) (h2 : l.length ≤ 1968) : RA (15, p, (l.length : Int), 0, [], l)
  | regs (p : Int) (l : List Int) (h1 : 1 ≤ l.length) (h2 : l.length ≤ 123) : RA (16, p, (l.length : Int), 0, l, [])
  | swap (p n t : Int) (l : List Int) (h1 : 1 ≤ l.length) (h2 : l.length ≤ 121) (h3 : 1 ≤ n) (h4 : n ≤ 125) : RA (23, p, n, t, l, [])
theorem within0 {n : Int} (h : withinV n 0 = true) : n = 0 := eqi_iff.1 h
theorem within1 {n m : Int} (hm : 0 < m) (h : withinV n m = true) : 1 ≤ n ∧ n ≤ m := by
  unfold withinV at h
  rw [if_neg (by rw [eqi_iff]; omega)] at h
  split at h
  · rename_i h1; exact ⟨ge_iff.1 h1, le_iff.1 h⟩
  · cases h
theorem len0 {α : Type} {l : List α} (h : Int.ofNat l.length = 0) : l = [] := by
  rw [ofNat_eq] at h
  exact List.eq_nil_of_length_eq_zero (by omega)
theorem len1 {α : Type} {l : List α} (h : 1 ≤ Int.ofNat l.length ∧ Int.ofNat l.length ≤ 1) : ∃ x, l = [x] := by
  rw [ofNat_eq] at h
  exact List.length_eq_one_iff.1 (by omega)
theorem rightA_RA {a : TA} (hr : rightA a = true) : RA a := by
  obtain ⟨f, p, n, t, ws, bs⟩ := a
  unfold rightA at hr
  simp only at hr
  rcases shp_cases f with ⟨hf, e⟩ | ⟨hf, e⟩ | ⟨hf, e⟩ | ⟨hf, e⟩ | ⟨hf, e⟩ | ⟨hf, e⟩ | ⟨hf, e⟩ | ⟨hf, e⟩ <;> rw [e] at hr <;> simp only [rightS, Bool.and_eq_true, Bool.false_or, Bool.true_or, Bool.not_false, Bool.not_true, true_and, and_true] at hr
  · obtain ⟨h1, h2, h3, h4⟩ := hr
    have h2 := within1 (by decide) h2
    rw [eqi_iff.1 h1, len0 (within0 h3), len0 (within0 h4)]
    exact .bits f p n hf h2.1 h2.2
  · obtain ⟨h1, h2, h3, h4⟩ := hr
    have h2 := within1 (by decide) h2
    rw [eqi_iff.1 h1, len0 (within0 h3), len0 (within0 h4)]
    exact .words f p n hf h2.1 h2.2
  · obtain ⟨h1, h2, h3, h4⟩ := hr
    obtain ⟨b, rfl⟩ := len1 (within1 (by decide) h3)
    rw [eqi_iff.1 h1, within0 h2, len0 (within0 h4), hf]
    exact .coil p b
  · obtain ⟨h1, h2, h3, h4⟩ := hr
    obtain ⟨b, rfl⟩ := len1 (within1 (by decide) h4)
    rw [eqi_iff.1 h1, within0 h2, len0 (within0 h3), hf]
    exact .word p b
  · obtain ⟨h1, h2, h3, h4, h5⟩ := hr
    have h3 := within1 (by decide) h3
    have e4 := len0 (within0 h4)
    subst e4
    rw [eqi_iff.1 h1, ← eqi_iff.1 h5, hf]
    rw [ofNat_eq] at h3
    exact .coils p bs (by omega) (by omega)
  · obtain ⟨h1, h2, h3, h4, h5⟩ := hr
    have h4 := within1 (by decide) h4
    have e3 := len0 (within0 h3)
    subst e3
    have e5 : (ws.length : Int) = n := by have := eqi_iff.1 h5; simpa using this
    rw [eqi_iff.1 h1, ← e5, hf]
    rw [ofNat_eq] at h4
    exact .regs p ws (by omega) (by omega)
  · obtain ⟨h2, h3, h4⟩ := hr
    have h2 := within1 (by decide) h2
    have h4 := within1 (by decide) h4
    rw [len0 (within0 h3), hf]
    rw [ofNat_eq] at h4
    exact .swap p n t ws (by omega) (by omega) h2.1 h2.2
  · cases hr
def askB (a : TA) : List Int :=
  if a.1 = 5 then a.1 :: two a.2.1 ++ two (if a.2.2.2.2.2.headD false = true then 65280 else 0)
  else if a.1 = 6 then a.1 :: two a.2.1 ++ a.2.2.2.2.1.flatMap two
  else if a.1 = 15 then a.1 :: two a.2.1 ++ two a.2.2.1 ++ [(packN a.2.2.2.2.2.length : Int)] ++ packS a.2.2.2.2.2
  else if a.1 = 16 then a.1 :: two a.2.1 ++ two a.2.2.1 ++ [2 * (a.2.2.2.2.1.length : Int)] ++ a.2.2.2.2.1.flatMap two
  else if a.1 = 23 then a.1 :: two a.2.1 ++ two a.2.2.1 ++ two a.2.2.2.1 ++ two (a.2.2.2.2.1.length : Int) ++ [2 * (a.2.2.2.2.1.length : Int)] ++ a.2.2.2.2.1.flatMap two
  else a.1 :: two a.2.1 ++ two a.2.2.1
theorem flat_two_len (l : List Int) : (l.flatMap two).length = 2 * l.length := by
  induction l with
  | nil => rfl
  | cons x r ih => rw [List.flatMap_cons, List.length_append, ih]; simp [two]; omega
abbrev BO := Option (As [.sl (.int .u8), .int .i64])
theorem bK0 (f p n : Int) (s1 : Int) (out : List Int) (h5 : f = 1 ∨ f = 2 ∨ f = 3 ∨ f = 4) : ask_Bytes_K1 f p n 0 [] [] s1 0 0 false false out = some (out, 0, ()) := by
  rcases h5 with rfl | rfl | rfl | rfl <;> rfl
theorem bK5 (p : Int) (b : Bool) (out : List Int) : ask_Bytes_K1 5 p 0 0 [] [b] 0 1 0 false false out = Option.bind (ask_numbers ([if b = true then 65280 else 0], out, ())) fun y => (some (y.1, 0, ()) : BO) := by
  cases b <;> rfl
theorem bK6 (p x : Int) (out : List Int) : ask_Bytes_K1 6 p 0 0 [x] [] 0 0 1 false false out = Option.bind (ask_numbers ([x], out, ())) fun y => (some (y.1, 0, ()) : BO) := rfl
theorem bK15 (p n : Int) (l : List Bool) (out : List Int) : ask_Bytes_K1 15 p n 0 [] l 1968 1968 0 false true out =
    Option.bind (ask_Pack (l, ())) fun y => need (small (out.length + 1)) (need (small ((out ++ [Int.ofNat (y.1.length % 256)]).length + y.1.length)) (some (out ++ [Int.ofNat (y.1.length % 256)] ++ y.1, 0, ()) : BO)) := rfl
theorem bK16 (p n : Int) (l : List Int) (out : List Int) : ask_Bytes_K1 16 p n 0 l [] 123 0 123 false true out =
    need (small (out.length + 1)) (Option.bind (ask_numbers (l, out ++ [cvt .u8 (mul .i64 2 (Int.ofNat l.length))], ())) fun y => (some (y.1, 0, ()) : BO)) := rfl
theorem bK23 (p n t : Int) (l : List Int) (out : List Int) : ask_Bytes_K1 23 p n t l [] 125 0 121 true false out =
    Option.bind (ask_numbers ([t, Int.ofNat (l.length % 65536)], out, ())) fun y => need (small (y.1.length + 1)) (Option.bind (ask_numbers (l, y.1 ++ [cvt .u8 (mul .i64 2 (Int.ofNat l.length))], ())) fun y => (some (y.1, 0, ()) : BO)) := rfl
theorem nums1 (x : Int) {out : List Int} (h : out.length ≤ 900000) : ask_numbers ([x], out, ()) = some (out ++ two x, ()) := by
  rw [numbers_eq (by simp; omega)]
  simp
theorem bytes_eq {a : TA} (h : OkA a) : ask_Bytes (a, ()) = if rightA a = true then some (askB a, 0, ()) else some ([], 12, ()) := by
  show ask_Bytes_m0 ask_Bytes_K1 a = _
  unfold ask_Bytes_m0
  rw [right_eq h, Option.bind_some]
  cases hr : rightA a with
  | false => rfl
  | true =>
    have hra := rightA_RA hr
    rw [if_neg (by decide), if_pos rfl, shape_eq, Option.bind_some]
    clear hr h
    have hin : ∀ f p : Int, ask_numbers ([p], [f], ()) = some (f :: two p, ()) := fun f p => nums1 p (by simp)
    have hin2 : ∀ f p n : Int, ask_numbers ([n], f :: two p, ()) = some (f :: two p ++ two n, ()) := fun f p n => nums1 n (by simp [two])
    cases hra with
    | bits f p n hf h1 h2 =>
      rcases hf with rfl | rfl <;> rw [hin, Option.bind_some, if_pos (by rfl), hin2, Option.bind_some]
      · exact bK0 1 p n 2000 _ (.inl rfl)
      · exact bK0 2 p n 2000 _ (.inr (.inl rfl))
    | words f p n hf h1 h2 =>
      rcases hf with rfl | rfl <;> rw [hin, Option.bind_some, if_pos (by rfl), hin2, Option.bind_some]
      · exact bK0 3 p n 125 _ (.inr (.inr (.inl rfl)))
      · exact bK0 4 p n 125 _ (.inr (.inr (.inr rfl)))
    | coil p b =>
      rw [hin, Option.bind_some, if_neg (by show ¬ gt 0 0 = true; decide)]
      exact (bK5 p b _).trans (by rw [nums1 _ (by simp [two]), Option.bind_some]; rfl)
    | word p x =>
      rw [hin, Option.bind_some, if_neg (by show ¬ gt 0 0 = true; decide)]
      exact (bK6 p x _).trans (by rw [nums1 _ (by simp [two]), Option.bind_some]; simp [askB])
    | coils p l h1 h2 =>
      rw [hin, Option.bind_some, if_pos (by rfl), hin2, Option.bind_some]
      refine (bK15 p _ l _).trans ?_
      rw [pack_eq (by omega), Option.bind_some, need_small (by simp [two]), need_small (by simp [two, packS_len, packN]; omega)]
      refine congrArg (fun x => some (x, 0, ())) ?_
      have e : packN l.length % 256 = packN l.length := by unfold packN; omega
      rw [packS_len, e]
      rfl
    | regs p l h1 h2 =>
      rw [hin, Option.bind_some, if_pos (by rfl), hin2, Option.bind_some]
      refine (bK16 p _ l _).trans ?_
      rw [need_small (by simp [two]), mul64 (by rw [ofNat_eq]; omega) (by rw [ofNat_eq]; omega), cvt8, numbers_eq (by simp [two]; omega), Option.bind_some]
      refine congrArg (fun x => some (x, 0, ())) ?_
      have e : (2 * Int.ofNat l.length) % 256 = 2 * (l.length : Int) := by rw [ofNat_eq]; omega
      rw [e]
      rfl
    | swap p n t l h1 h2 h3 h4 =>
      rw [hin, Option.bind_some, if_pos (by rfl), hin2, Option.bind_some]
      refine (bK23 p n t l _).trans ?_
      rw [numbers_eq (by simp [two]), Option.bind_some, need_small (by simp [two]), mul64 (by rw [ofNat_eq]; omega) (by rw [ofNat_eq]; omega), cvt8, numbers_eq (by simp [two]; omega), Option.bind_some]
      refine congrArg (fun x => some (x, 0, ())) ?_
      have e : (2 * Int.ofNat l.length) % 256 = 2 * (l.length : Int) := by rw [ofNat_eq]; omega
      have e2 : Int.ofNat (l.length % 65536) = (l.length : Int) := by rw [ofNat_eq]; omega
      rw [e, e2]
      simp [askB]
end Go.Proofs.Lx

end

section
/- Polls: what they send, by ticks, and which are the same. -/
namespace Pl
open Go Ev Sx
theorem zip_at {α β : Type} {s1 : List α} {s2 : List β} (h : s1.length = s2.length) {i : Nat} {x : α × β} (hx : (s1.zip s2)[i]? = some x) : s1[i]? = some x.1 ∧ s2[i]? = some x.2 := by
  rw [List.getElem?_zip_eq_some] at hx
  exact hx
/-- two rows are compared, element by element -/
theorem goL_eq {α : Type} [DecidableEq α] {ne : α → α → Bool} (hne : ∀ a b, ne a b = !decide (a = b)) : ∀ (s1 s2 : List α), s1.length = s2.length →
    goL (R := Bool × Unit) (fun (_ : Unit) (x : α × α) k => if ne x.1 x.2 = true then some (false, ()) else k ()) (fun _ => some (true, ())) (s1.zip s2) () = some (decide (s1 = s2), ())
  | [], [], _ => rfl
  | a :: r, b :: q, h => by
    rw [List.zip_cons_cons]
    show (if ne a b = true then some (false, ()) else goL _ _ (r.zip q) ()) = _
    rw [hne]
    by_cases e : a = b
    · subst e
      rw [if_neg (by simp), goL_eq hne r q (by simpa using h)]
      simp
    · rw [if_pos (by simp [e])]
      simp [e]
end Pl
namespace Go.Proofs.Lx
open Go Ev Sx Pl
set_option maxRecDepth 100000
theorem equalW_eq {s1 s2 : List Int} (h : s1.length ≤ 1000000) : slices_Equal_Guint16 (s1, s2, ()) = some (decide (s1 = s2), ()) := by
  show slices_Equal_Guint16_m0 slices_Equal_Guint16_K1 s1 s2 = _
  unfold slices_Equal_Guint16_m0
  by_cases hl : s1.length = s2.length
  · rw [if_neg (by rw [nei_iff, ofNat_eq, ofNat_eq]; omega)]
    unfold slices_Equal_Guint16_K1
    have hz : (s1.zip s2).length = s1.length := by rw [List.length_zip]; omega
    rw [← goL_eq (ne := nei) (fun a b => by simp [nei]; rfl) s1 s2 hl]
    refine loop_go (xs := s1.zip s2) (mk := fun i _ => (s1, s2, Int.ofNat s1.length, (i : Int))) ?_ ?_ s1.length 0 () _ (by rw [hz]; omega) (by omega)
    · intro self i acc x hx
      have hi := (List.getElem?_eq_some_iff.1 hx).1
      obtain ⟨h1, h2⟩ := zip_at hl hx
      show slices_Equal_Guint16_m1 _ s1 s2 (Int.ofNat s1.length) (i : Int) = _
      unfold slices_Equal_Guint16_m1
      rw [if_pos (by rw [lt_iff, ofNat_eq]; omega), at_get h1, Option.bind_some, at_get h2, Option.bind_some, succ64 (by omega)]
    · intro self acc
      show slices_Equal_Guint16_m1 _ s1 s2 (Int.ofNat s1.length) (((s1.zip s2).length : Nat) : Int) = _
      unfold slices_Equal_Guint16_m1
      rw [if_neg (by rw [lt_iff, ofNat_eq]; omega)]
  · rw [if_pos (by rw [nei_iff, ofNat_eq, ofNat_eq]; omega), decide_eq_false (fun e => hl (by rw [e]))]
theorem equalB_eq {s1 s2 : List Bool} (h : s1.length ≤ 1000000) : slices_Equal_Gbool (s1, s2, ()) = some (decide (s1 = s2), ()) := by
  show slices_Equal_Gbool_m0 slices_Equal_Gbool_K1 s1 s2 = _
  unfold slices_Equal_Gbool_m0
  by_cases hl : s1.length = s2.length
  · rw [if_neg (by rw [nei_iff, ofNat_eq, ofNat_eq]; omega)]
    unfold slices_Equal_Gbool_K1
    have hz : (s1.zip s2).length = s1.length := by rw [List.length_zip]; omega
    rw [← goL_eq (ne := neb) (fun a b => by cases a <;> cases b <;> rfl) s1 s2 hl]
    refine loop_go (xs := s1.zip s2) (mk := fun i _ => (s1, s2, Int.ofNat s1.length, (i : Int))) ?_ ?_ s1.length 0 () _ (by rw [hz]; omega) (by omega)
    · intro self i acc x hx
      have hi := (List.getElem?_eq_some_iff.1 hx).1
      obtain ⟨h1, h2⟩ := zip_at hl hx
      show slices_Equal_Gbool_m1 _ s1 s2 (Int.ofNat s1.length) (i : Int) = _
      unfold slices_Equal_Gbool_m1
      rw [if_pos (by rw [lt_iff, ofNat_eq]; omega), at_get h1, Option.bind_some, at_get h2, Option.bind_some, succ64 (by omega)]
    · intro self acc
      show slices_Equal_Gbool_m1 _ s1 s2 (Int.ofNat s1.length) (((s1.zip s2).length : Nat) : Int) = _
      unfold slices_Equal_Gbool_m1
      rw [if_neg (by rw [lt_iff, ofNat_eq]; omega)]
  · rw [if_pos (by rw [nei_iff, ofNat_eq, ofNat_eq]; omega), decide_eq_false (fun e => hl (by rw [e]))]
abbrev BB := Option (As [.bool])
theorem if_dec {p : Prop} [Decidable p] {b : Bool} {k : BB} {q : Bool} (h : b = true ↔ p) (hk : p → k = some (q, ())) : (if b = true then k else some (false, ())) = some (decide p && q, ()) := by
  by_cases hp : p
  · rw [if_pos (h.2 hp), hk hp, decide_eq_true hp]; rfl
  · rw [if_neg (fun e => hp (h.1 e)), decide_eq_false hp]; rfl
instance decA5 : DecidableEq (Int × Int × Int × List Int × List Bool) := inferInstance
instance decA : DecidableEq TA := inferInstance
abbrev TP := Int × Int × Int × Int × Bool × TA × Int × Int × Int
instance decP1 : DecidableEq (TA × Int × Int × Int) := inferInstance
instance decP2 : DecidableEq (Int × Bool × TA × Int × Int × Int) := inferInstance
instance decP : DecidableEq TP := inferInstance
theorem cloneW_eq {s : List Int} (h : s.length ≤ 1000000) : slices_Clone_Guint16 (s, ()) = some (s, ()) := by
  show slices_Clone_Guint16_m0 s = _
  unfold slices_Clone_Guint16_m0
  split
  · rename_i h0
    rw [len0 (eqi_iff.1 h0)]
    rfl
  · rw [need_small (by omega)]
    all_goals rfl
theorem cloneB_eq {s : List Bool} (h : s.length ≤ 1000000) : slices_Clone_Gbool (s, ()) = some (s, ()) := by
  show slices_Clone_Gbool_m0 s = _
  unfold slices_Clone_Gbool_m0
  split
  · rename_i h0
    rw [len0 (eqi_iff.1 h0)]
    rfl
  · rw [need_small (by omega)]
    all_goals rfl
/-! ### frames -/
/-- a poll that may be -/
structure OkP (p : TP) : Prop where
  u0 : 1 ≤ p.1
  u1 : p.1 ≤ 247
  l : p.2.1 = 1 ∨ p.2.1 = 2
  t0 : 1 ≤ p.2.2.1
  t1 : p.2.2.1 ≤ 100000
  r0 : 0 ≤ p.2.2.2.1
  r1 : p.2.2.2.1 ≤ 1000
  a : OkA p.2.2.2.2.2.1
  x0 : 0 ≤ p.2.2.2.2.2.2.1
  x1 : p.2.2.2.2.2.2.1 ≤ 65535
/-! ### what is done with a poll -/
end Go.Proofs.Lx

end

section
/- Replies: which are right, their bytes, and which one bytes are. -/
namespace Pl
open Go Ev Sx
theorem shl8 {y : Int} (h0 : 0 ≤ y) (h1 : y ≤ 255) : shl .u16 (cvt .u16 y) 8 = 256 * y := by
  rw [cvt16]
  unfold shl
  have : min (8 : Int).toNat IntKind.u16.bits = 8 := by decide
  rw [this, wr16]
  omega
theorem bor_hi {a b : Int} (ha : 0 ≤ a) (ha2 : a ≤ 255) (hb : 0 ≤ b) (hb' : b ≤ 255) : bor .u16 (256 * a) b = 256 * a + b := by
  obtain ⟨n, rfl⟩ := Int.eq_ofNat_of_zero_le ha
  obtain ⟨m, rfl⟩ := Int.eq_ofNat_of_zero_le hb
  unfold bor
  rw [wr16]
  have e1 : (BitVec.ofInt IntKind.u16.bits (256 * (n : Int))).toNat = 256 * n := by
    rw [BitVec.toNat_ofInt]
    have : ((2 ^ IntKind.u16.bits : Nat) : Int) = 65536 := by decide
    rw [this]
    omega
  have e2 : (BitVec.ofInt IntKind.u16.bits (m : Int)).toNat = m := by
    rw [BitVec.toNat_ofInt]
    have : ((2 ^ IntKind.u16.bits : Nat) : Int) = 65536 := by decide
    rw [this]
    omega
  rw [BitVec.toNat_or, e1, e2]
  have e3 : 256 * n ||| m = 256 * n + m := by
    have := Nat.two_pow_add_eq_or_of_lt (i := 8) (b := m) (by omega) n
    rw [show (2 : Nat) ^ 8 = 256 from rfl] at this
    exact this.symm
  rw [e3]
  omega
def numV (y z : Int) : Int := bor .u16 (shl .u16 (cvt .u16 y) 8) (cvt .u16 z)
theorem numV_rng (y z : Int) : 0 ≤ numV y z ∧ numV y z < 65536 := u16_rng _
theorem numV_eq {y z : Int} (h0 : 0 ≤ y) (h1 : y ≤ 255) (h2 : 0 ≤ z) (h3 : z ≤ 255) : numV y z = 256 * y + z := by
  unfold numV
  rw [shl8 h0 h1, cvt16]
  have : z % 65536 = z := by omega
  rw [this, bor_hi h0 h1 h2 h3]
def listS (b : List Int) : List Int := (List.range (b.length / 2)).map fun i => numV (b.getD (2 * i) 0) (b.getD (2 * i + 1) 0)
end Pl
namespace Go.Proofs.Lx
open Go Ev Sx Pl
set_option maxRecDepth 100000
abbrev TR := Int × Int × List Bool × List Int × Int × Int
instance decR5 : DecidableEq (Int × List Bool × List Int × Int × Int) := inferInstance
instance decR : DecidableEq TR := inferInstance
def zR : TR := (0, 0, [], [], 0, 0)
structure SmR (r : TR) : Prop where
  b : r.2.2.1.length ≤ 100000
  w : r.2.2.2.1.length ≤ 100000
theorem zR_sm : SmR zR := ⟨by decide, by decide⟩
theorem sameR_eq {a b : TR} (h : SmR a) : reply_Same (a, b, ()) = some (decide (a = b), ()) := by
  show reply_Same_m0 a b = _
  unfold reply_Same_m0
  have h1 := h.b
  have h2 := h.w
  rw [equalW_eq (by omega), Option.bind_some, equalB_eq (by omega), Option.bind_some]
  obtain ⟨a1, a2, a3, a4, a5, a6⟩ := a
  obtain ⟨b1, b2, b3, b4, b5, b6⟩ := b
  rw [if_dec (eqi_iff) fun _ => if_dec (eqi_iff) fun _ => if_dec (eqi_iff) fun _ => if_dec (eqi_iff) fun _ => if_dec (p := a3 = b3) (by simp) fun _ => rfl]
  refine congrArg (fun x => some (x, ())) ?_
  rw [Bool.eq_iff_iff]
  simp only [Bool.and_eq_true, decide_eq_true_eq, Prod.ext_iff]
  constructor
  · rintro ⟨h1, h2, h3, h4, h5, h6⟩; exact ⟨h1, h2, h5, h6, h3, h4⟩
  · rintro ⟨h1, h2, h5, h6, h3, h4⟩; exact ⟨h1, h2, h3, h4, h5, h6⟩
/-! ### which are right -/
def exR (r : TR) : Bool := decide (r.1 < 128) && (decide (1 ≤ r.2.1) && (decide (r.2.1 ≤ 4) && decide (r = (rem r.1 128, r.2.1, [], [], 0, 0))))
def bitR (r : TR) : Bool := decide (8 ≤ r.2.2.1.length) && (decide (r.2.2.1.length ≤ 2000) && (decide (r.2.2.1.length % 8 = 0) && decide (r = (r.1, 0, r.2.2.1, [], 0, 0))))
def wordR (r : TR) : Bool := decide (1 ≤ r.2.2.2.1.length) && (decide (r.2.2.2.1.length ≤ 125) && decide (r = (r.1, 0, [], r.2.2.2.1, 0, 0)))
def obR (r : TR) : Bool := decide (r.2.2.1.length = 1) && decide (r = (r.1, 0, r.2.2.1, [], r.2.2.2.2.1, 0))
def owR (r : TR) : Bool := decide (r.2.2.2.1.length = 1) && decide (r = (r.1, 0, [], r.2.2.2.1, r.2.2.2.2.1, 0))
def ctR (k : Int) (r : TR) : Bool := decide (1 ≤ r.2.2.2.2.2) && (decide (r.2.2.2.2.2 ≤ k) && decide (r = (r.1, 0, [], [], r.2.2.2.2.1, r.2.2.2.2.2)))
theorem exR_eq {r : TR} (h : SmR r) : reply_exception_right ((), r, ()) = some (exR r, ()) := by
  show reply_exception_right_m0 () r = _
  unfold reply_exception_right_m0 exR
  have e : reply_Wrong (r.1, r.2.1, ()) = some ((rem r.1 128, r.2.1, [], [], 0, 0), ()) := rfl
  rw [e, Option.bind_some, sameR_eq h, Option.bind_some]
  rw [if_dec (lt_iff) fun _ => if_dec (ge_iff) fun _ => if_dec (le_iff) fun _ => rfl]
theorem bitR_eq {r : TR} (h : SmR r) : reply_bitList_right ((), r, ()) = some (bitR r, ()) := by
  show reply_bitList_right_m0 () r = _
  unfold reply_bitList_right_m0 bitR
  rw [sameR_eq h, Option.bind_some]
  rw [if_dec (p := 8 ≤ r.2.2.1.length) (by rw [ge_iff, ofNat_eq]; omega) fun _ => if_dec (p := r.2.2.1.length ≤ 2000) (by rw [le_iff, ofNat_eq]; omega) fun _ => if_dec (p := r.2.2.1.length % 8 = 0) (by rw [eqi_iff, ofNat_eq, show rem (r.2.2.1.length : Int) 8 = ((r.2.2.1.length % 8 : Nat) : Int) from rem_nat (d := 8)]; omega) fun _ => rfl]
theorem wordR_eq {r : TR} (h : SmR r) : reply_wordList_right ((), r, ()) = some (wordR r, ()) := by
  show reply_wordList_right_m0 () r = _
  unfold reply_wordList_right_m0 wordR
  rw [sameR_eq h, Option.bind_some]
  rw [if_dec (p := 1 ≤ r.2.2.2.1.length) (by rw [ge_iff, ofNat_eq]; omega) fun _ => if_dec (p := r.2.2.2.1.length ≤ 125) (by rw [le_iff, ofNat_eq]; omega) fun _ => rfl]
theorem obR_eq {r : TR} (h : SmR r) : reply_oneBit_right ((), r, ()) = some (obR r, ()) := by
  show reply_oneBit_right_m0 () r = _
  unfold reply_oneBit_right_m0 obR
  rw [sameR_eq h, Option.bind_some]
  rw [if_dec (p := r.2.2.1.length = 1) (by rw [eqi_iff, ofNat_eq]; omega) fun _ => rfl]
theorem owR_eq {r : TR} (h : SmR r) : reply_oneWord_right ((), r, ()) = some (owR r, ()) := by
  show reply_oneWord_right_m0 () r = _
  unfold reply_oneWord_right_m0 owR
  rw [sameR_eq h, Option.bind_some]
  rw [if_dec (p := r.2.2.2.1.length = 1) (by rw [eqi_iff, ofNat_eq]; omega) fun _ => rfl]
theorem ctR_eq {r : TR} {k : Int} (h : SmR r) : reply_count_right (k, r, ()) = some (ctR k r, ()) := by
  show reply_count_right_m0 k r = _
  unfold reply_count_right_m0 ctR
  rw [sameR_eq h, Option.bind_some]
  rw [if_dec (ge_iff) fun _ => if_dec (le_iff) fun _ => rfl]
def rightR (r : TR) : Bool := if nei r.2.1 0 = true then exR r else if eqi r.1 1 = true then bitR r else if eqi r.1 2 = true then bitR r else if eqi r.1 3 = true then wordR r else if eqi r.1 4 = true then wordR r else if eqi r.1 23 = true then wordR r else
  if eqi r.1 5 = true then obR r else if eqi r.1 6 = true then owR r else if eqi r.1 15 = true then ctR 1968 r else if eqi r.1 16 = true then ctR 123 r else false
/-! ### their bytes -/
def exB (r : TR) : List Int := [add .u8 r.1 128, r.2.1]
def bitB (r : TR) : List Int := r.1 :: (packN r.2.2.1.length : Int) % 256 :: packS r.2.2.1
def wordB (r : TR) : List Int := [r.1, 2 * (r.2.2.2.1.length : Int) % 256] ++ r.2.2.2.1.flatMap two
def obB (r : TR) : List Int := r.1 :: two r.2.2.2.2.1 ++ two (if r.2.2.1.headD false = true then 65280 else 0)
def owB (r : TR) : List Int := r.1 :: two r.2.2.2.2.1 ++ two (r.2.2.2.1.headD 0)
def ctB (r : TR) : List Int := r.1 :: two r.2.2.2.2.1 ++ two r.2.2.2.2.2
theorem rnumbers_eq {l out : List Int} (h : out.length + 2 * l.length ≤ 1000000) : reply_numbers (l, out, ()) = some (out ++ l.flatMap two, ()) := by
  show reply_numbers_m0 reply_numbers_K1 l out = _
  unfold reply_numbers_m0 reply_numbers_K1
  refine (loop_idx (xs := l) (mk := fun i acc => (l, Int.ofNat l.length, (i : Int), acc)) (stp := fun o y => o ++ two y) (fin := fun acc => some (acc, ())) (fun i acc => acc.length ≤ out.length + 2 * i) ?_ ?_ ?_ l.length 0 out _ (by omega) (by omega) (by omega)).trans ?_
  · intro self i acc x hx hI
    have hi := (List.getElem?_eq_some_iff.1 hx).1
    show reply_numbers_m1 _ l (Int.ofNat l.length) (i : Int) acc = _
    unfold reply_numbers_m1
    rw [if_pos (by rw [lt_iff, ofNat_eq]; omega), at_get hx, Option.bind_some, need_small (by omega), two_eq, succ64 (by omega)]
  · intro i acc x hx hI
    simp [two]
    omega
  · intro self acc _
    show reply_numbers_m1 _ l (Int.ofNat l.length) (l.length : Int) acc = _
    unfold reply_numbers_m1
    rw [if_neg (by rw [lt_iff, ofNat_eq]; omega)]
  · rw [List.drop_zero, foldl_app]
theorem exB_eq (r : TR) : reply_exception_write ((), r, ()) = some (exB r, ()) := rfl
theorem bitB_eq {r : TR} (h : SmR r) : reply_bitList_write ((), r, ()) = some (bitB r, ()) := by
  show reply_bitList_write_m0 () r = _
  unfold reply_bitList_write_m0
  have hb := h.b
  rw [pack_eq hb, Option.bind_some, need_small (by rw [packS_len]; unfold packN; omega), packS_len]
  rfl
theorem wordB_eq {r : TR} (h : SmR r) : reply_wordList_write ((), r, ()) = some (wordB r, ()) := by
  show reply_wordList_write_m0 () r = _
  unfold reply_wordList_write_m0
  have hw := h.w
  rw [mul64 (by rw [ofNat_eq]; omega) (by rw [ofNat_eq]; omega), cvt8, rnumbers_eq (by simp; omega), Option.bind_some]
  rfl
theorem obB_eq {r : TR} (h : obR r = true) : reply_oneBit_write ((), r, ()) = some (obB r, ()) := by
  unfold obR at h
  rw [Bool.and_eq_true] at h
  obtain ⟨x, hx⟩ := List.length_eq_one_iff.1 (of_decide_eq_true h.1)
  show reply_oneBit_write_m0 reply_oneBit_write_K1 () r = _
  unfold reply_oneBit_write_m0
  rw [hx, at_zero, Option.bind_some]
  have key : ∀ (v : Int) (r2 : Int) (r3 : List Bool) (r4 : List Int) (r6 : Int), reply_oneBit_write_K1 v r.1 r2 r3 r4 r.2.2.2.2.1 r6 = some (r.1 :: two r.2.2.2.2.1 ++ two v, ()) := fun v r2 r3 r4 r6 => by
    unfold reply_oneBit_write_K1 reply_oneBit_write_m1
    rw [rnumbers_eq (by simp), Option.bind_some]
    simp
  unfold obB
  rw [hx]
  cases x with
  | true => rw [if_pos rfl, key]; rfl
  | false => rw [if_neg (by decide), key]; rfl
theorem amb_same {R : Type} {eq : R → R → Bool} (h : ∀ x, eq x x = true) (o : R) : amb eq [some o, some o] = some o := by
  show (if eq o o = true then some o else none) = _
  rw [if_pos (h o)]
theorem eqAs_refl : ∀ (rs : List Ty) (x : As rs), eqAs rs x x = true
  | [], _ => rfl
  | t :: r, x => by
    show (eqV t x.1 x.1 && eqAs r x.2 x.2) = true
    rw [eqV_refl, eqAs_refl r]
    rfl
theorem owB_eq {r : TR} (h : owR r = true) : reply_oneWord_write ((), r, ()) = some (owB r, ()) := by
  unfold owR at h
  rw [Bool.and_eq_true] at h
  obtain ⟨x, hx⟩ := List.length_eq_one_iff.1 (of_decide_eq_true h.1)
  show reply_oneWord_write_m0 () r = _
  unfold reply_oneWord_write_m0
  rw [hx, at_zero, Option.bind_some, rnumbers_eq (by simp), Option.bind_some, amb_same (eqAs_refl _)]
  unfold owB
  rw [hx]
  simp
theorem ctB_eq (k : Int) (r : TR) : reply_count_write (k, r, ()) = some (ctB r, ()) := by
  show reply_count_write_m0 k r = _
  unfold reply_count_write_m0
  rw [rnumbers_eq (by simp), Option.bind_some]
  simp [ctB]
/-! ### what bytes may be -/
theorem rlist_eq {b : List Int} (h : b.length ≤ 100000) : reply_list (b, ()) = some (listS b, ()) := by
  show reply_list_m0 reply_list_K1 b = _
  unfold reply_list_m0
  have hq : quo .i64 (Int.ofNat b.length) 2 = ((b.length / 2 : Nat) : Int) := quo_nat (d := 2) (by omega)
  rw [hq, need_t (by rw [ge_iff]; omega), need_t (capOk_self _), Int.toNat_natCast, need_small (by omega), List.length_replicate]
  unfold reply_list_K1 listS
  refine (loop_det (mk := fun i => (b, Int.ofNat (b.length / 2), (i : Int), (List.range i).map (fun i => numV (b.getD (2 * i) 0) (b.getD (2 * i + 1) 0)) ++ (List.replicate (b.length / 2) (0 : Int)).drop i)) (N := b.length / 2) ?_ ?_ (b.length / 2) 0 _ (by omega) (by omega))
  · intro self i hi
    show reply_list_m1 _ b (Int.ofNat (b.length / 2)) (i : Int) _ = _
    unfold reply_list_m1
    have hm : mul .i64 2 (i : Int) = ((2 * i : Nat) : Int) := by
      rw [mul64 (by omega) (by omega)]
      simp
    have h1 : b[2 * i]? = some (b[2 * i]'(by omega)) := List.getElem?_eq_getElem (by omega)
    have h2 : b[2 * i + 1]? = some (b[2 * i + 1]'(by omega)) := List.getElem?_eq_getElem (by omega)
    have ho : ((List.range i).map (fun i => numV (b.getD (2 * i) 0) (b.getD (2 * i + 1) 0)) ++ (List.replicate (b.length / 2) (0 : Int)).drop i)[i]? = some (((List.range i).map (fun i => numV (b.getD (2 * i) 0) (b.getD (2 * i + 1) 0)) ++ (List.replicate (b.length / 2) (0 : Int)).drop i)[i]'(by simp; omega)) := List.getElem?_eq_getElem (by simp; omega)
    rw [if_pos (by rw [lt_iff, ofNat_eq]; omega), hm, succ64 (by omega), at_get h1, at_get h2, at_get ho, succ64 (by omega), Int.toNat_natCast]
    simp only [Option.bind_some]
    have e : bor .u16 (shl .u16 (cvt .u16 (b[2 * i]'(by omega))) 8) (cvt .u16 (b[2 * i + 1]'(by omega))) = numV (b.getD (2 * i) 0) (b.getD (2 * i + 1) 0) := by
      rw [List.getD_eq_getElem?_getD, List.getD_eq_getElem?_getD, h1, h2]
      rfl
    rw [e, fill_step (f := fun i => numV (b.getD (2 * i) 0) (b.getD (2 * i + 1) 0)) (by simp; omega)]
  · intro self
    show reply_list_m1 _ b (Int.ofNat (b.length / 2)) ((b.length / 2 : Nat) : Int) _ = _
    unfold reply_list_m1
    rw [if_neg (by rw [lt_iff, ofNat_eq]; omega), List.drop_of_length_le (by simp), List.append_nil]
end Go.Proofs.Lx

end

section
/- Which reply bytes are; which replies fit. -/
namespace Go.Proofs.Lx
open Go Ev Sx Pl
set_option maxRecDepth 100000
theorem listS_len (b : List Int) : (listS b).length = b.length / 2 := by simp [listS]
theorem unpackS_len (b : List Int) : (unpackS b).length = 8 * b.length := by simp [unpackS]
def exC (x y : Int) : TR := (rem x 128, y, [], [], 0, 0)
def bitC (x : Int) (r : List Int) : TR := (x, 0, unpackS r, [], 0, 0)
def wordC (x : Int) (r : List Int) : TR := (x, 0, [], listS r, 0, 0)
/-- two numbers behind the function -/
def pairC (f : Int → Int → TR) (r : List Int) : TR := match listS r with
  | p :: q :: _ => f p q
  | _ => zR
def obC (x : Int) : List Int → TR := pairC fun p q => (x, 0, [eqi q 65280], [], p, 0)
def owC (x : Int) : List Int → TR := pairC fun p q => (x, 0, [], [q], p, 0)
def ctC (x : Int) : List Int → TR := pairC fun p q => (x, 0, [], [], p, q)
theorem cut_tail {α : Type} (x : α) (r : List α) : cut (x :: r) 1 (Int.ofNat (x :: r).length) = some r := cut_one x r
theorem cut_two {α : Type} (x y : α) (r : List α) : cut (x :: y :: r) 2 (Int.ofNat (x :: y :: r).length) = some r := by
  have := cut_from (xs := x :: y :: r) (i := 2) (by simp)
  simpa using this
theorem exC_eq (x y : Int) (r : List Int) : reply_exception_read ((), x :: y :: r, ()) = some (exC x y, ()) := rfl
theorem bitC_eq (x y : Int) {r : List Int} (h : r.length ≤ 1000) : reply_bitList_read ((), x :: y :: r, ()) = some (bitC x r, ()) := by
  show reply_bitList_read_m0 () (x :: y :: r) = _
  unfold reply_bitList_read_m0
  rw [at_zero, Option.bind_some, cut_two, Option.bind_some, unpack_eq (by omega), Option.bind_some]
  rfl
theorem wordC_eq (x y : Int) {r : List Int} (h : r.length ≤ 1000) : reply_wordList_read ((), x :: y :: r, ()) = some (wordC x r, ()) := by
  show reply_wordList_read_m0 () (x :: y :: r) = _
  unfold reply_wordList_read_m0
  rw [at_zero, Option.bind_some, cut_two, Option.bind_some, rlist_eq (by omega), Option.bind_some]
  rfl
theorem pair_cases (l : List Int) : (l.length < 2 ∧ ∀ (f : Int → Int → TR), (match l with | p :: q :: _ => f p q | _ => zR) = zR) ∨ ∃ p q r, l = p :: q :: r := by
  match l with
  | [] => exact .inl ⟨by decide, fun _ => rfl⟩
  | [_] => exact .inl ⟨by show 1 < 2; decide, fun _ => rfl⟩
  | p :: q :: r => exact .inr ⟨p, q, r, rfl⟩
theorem at_one {α : Type} (p q : α) (r : List α) : at? (p :: q :: r) 1 = some q := rfl
theorem obC_eq (x : Int) {r : List Int} (h : r.length ≤ 1000) : reply_oneBit_read ((), x :: r, ()) = some (obC x r, ()) := by
  show reply_oneBit_read_m0 () (x :: r) = _
  unfold reply_oneBit_read_m0 obC pairC
  rw [cut_tail, Option.bind_some, rlist_eq (by omega), Option.bind_some]
  rcases pair_cases (listS r) with ⟨h1, h2⟩ | ⟨p, q, s, h1⟩
  · dsimp only
    rw [h2, if_pos (by rw [lt_iff, ofNat_eq]; omega)]
    rfl
  · dsimp only
    rw [h1, if_neg (by rw [lt_iff, ofNat_eq]; simp; omega), at_zero, at_zero, at_one]
    rfl
theorem owC_eq (x : Int) {r : List Int} (h : r.length ≤ 1000) : reply_oneWord_read ((), x :: r, ()) = some (owC x r, ()) := by
  show reply_oneWord_read_m0 () (x :: r) = _
  unfold reply_oneWord_read_m0 owC pairC
  rw [cut_tail, Option.bind_some, rlist_eq (by omega), Option.bind_some]
  rcases pair_cases (listS r) with ⟨h1, h2⟩ | ⟨p, q, s, h1⟩
  · dsimp only
    rw [h2, if_pos (by rw [lt_iff, ofNat_eq]; omega)]
    rfl
  · dsimp only
    rw [h1, if_neg (by rw [lt_iff, ofNat_eq]; simp; omega), at_zero, at_zero, at_one]
    rfl
theorem ctC_eq (k : Int) (x : Int) {r : List Int} (h : r.length ≤ 1000) : reply_count_read (k, x :: r, ()) = some (ctC x r, ()) := by
  show reply_count_read_m0 k (x :: r) = _
  unfold reply_count_read_m0 ctC pairC
  rw [cut_tail, Option.bind_some, rlist_eq (by omega), Option.bind_some]
  rcases pair_cases (listS r) with ⟨h1, h2⟩ | ⟨p, q, s, h1⟩
  · dsimp only
    rw [h2, if_pos (by rw [lt_iff, ofNat_eq]; omega)]
    rfl
  · dsimp only
    rw [h1, if_neg (by rw [lt_iff, ofNat_eq]; simp; omega), at_zero, at_zero, at_one]
    rfl
theorem pairC_sm {f : Int → Int → TR} (h : ∀ p q, SmR (f p q)) (r : List Int) : SmR (pairC f r) := by
  unfold pairC
  split
  · exact h _ _
  · exact zR_sm
def chkV (b : List Int) (c : TR) (ok : Bool) (w : List Int) : TR × Int := if ok = true then if eqs (toS w) (toS b) = true then (c, 0) else (zR, 13) else (zR, 13)
theorem chk_eq {b : List Int} {c : TR} {ok : Bool} {w : List Int} {rd : Option (TR × Unit)} {rt : TR → Option (Bool × Unit)} {wt : TR → Option (List Int × Unit)} (h1 : rd = some (c, ())) (h2 : rt c = some (ok, ())) (h3 : ok = true → wt c = some (w, ())) :
    (Option.bind rd fun y => Option.bind (rt y.1) fun y_1 => if (!y_1.1) = true then some ((0, 0, [], [], 0, 0), 13, ()) else Option.bind (wt y.1) fun y_2 => Option.bind (bytes_Equal (y_2.1, b, ())) fun y_3 => if (!y_3.1) = true then some ((0, 0, [], [], 0, 0), 13, ()) else (some (y.1, 0, ()) : Option (TR × Int × Unit))) = some ((chkV b c ok w).1, (chkV b c ok w).2, ()) := by
  rw [h1, Option.bind_some, h2, Option.bind_some]
  unfold chkV
  cases ok with
  | false => rfl
  | true =>
    rw [if_neg (by decide), h3 rfl, Option.bind_some, if_pos rfl]
    show Option.bind (some (eqs (toS w) (toS b), ())) _ = _
    rw [Option.bind_some]
    cases eqs (toS w) (toS b) <;> rfl
theorem if_pair {c : Prop} [Decidable c] {A B : Option (TR × Int × Unit)} {a b : TR × Int} (h1 : A = some (a.1, a.2, ())) (h2 : B = some (b.1, b.2, ())) : (if c then A else B) = some ((if c then a else b).1, (if c then a else b).2, ()) := by
  by_cases h : c
  · rw [if_pos h, if_pos h, h1]
  · rw [if_neg h, if_neg h, h2]
def parseQ (x y : Int) (r : List Int) : TR × Int := if 251 < r.length then (zR, 13) else if lt x 128 = true then
      if eqi x 1 = true then chkV (x :: y :: r) (bitC x r) (bitR (bitC x r)) (bitB (bitC x r)) else if eqi x 2 = true then chkV (x :: y :: r) (bitC x r) (bitR (bitC x r)) (bitB (bitC x r)) else
      if eqi x 3 = true then chkV (x :: y :: r) (wordC x r) (wordR (wordC x r)) (wordB (wordC x r)) else if eqi x 4 = true then chkV (x :: y :: r) (wordC x r) (wordR (wordC x r)) (wordB (wordC x r)) else
      if eqi x 23 = true then chkV (x :: y :: r) (wordC x r) (wordR (wordC x r)) (wordB (wordC x r)) else if eqi x 5 = true then chkV (x :: y :: r) (obC x (y :: r)) (obR (obC x (y :: r))) (obB (obC x (y :: r))) else
      if eqi x 6 = true then chkV (x :: y :: r) (owC x (y :: r)) (owR (owC x (y :: r))) (owB (owC x (y :: r))) else if eqi x 15 = true then chkV (x :: y :: r) (ctC x (y :: r)) (ctR 1968 (ctC x (y :: r))) (ctB (ctC x (y :: r))) else
      if eqi x 16 = true then chkV (x :: y :: r) (ctC x (y :: r)) (ctR 123 (ctC x (y :: r))) (ctB (ctC x (y :: r))) else (zR, 13)
    else chkV (x :: y :: r) (exC x y) (exR (exC x y)) (exB (exC x y))
def parseR : List Int → TR × Int
  | x :: y :: r => parseQ x y r
  | _ => (zR, 13)
theorem parse_eq (b : List Int) : reply_Parse (b, ()) = some ((parseR b).1, (parseR b).2, ()) := by
  show reply_Parse_m0 reply_Parse_K1 b = _
  unfold reply_Parse_m0
  match b with
  | [] => rfl
  | [_] => rfl
  | x :: y :: r =>
    rw [if_neg (by rw [lt_iff, ofNat_eq]; simp; omega)]
    show _ = some ((parseQ x y r).1, (parseQ x y r).2, ())
    unfold reply_Parse_K1 reply_Parse_m1 parseQ
    by_cases hl : 251 < r.length
    · rw [if_pos (by rw [gt_iff, ofNat_eq]; simp; omega), if_pos hl]
      rfl
    · rw [if_neg (by rw [gt_iff, ofNat_eq]; simp; omega), if_neg hl, at_zero, Option.bind_some, Option.bind_some]
      have sb : SmR (bitC x r) := ⟨by show (unpackS r).length ≤ _; rw [unpackS_len]; omega, by show 0 ≤ 100000; decide⟩
      have sw : SmR (wordC x r) := ⟨by show 0 ≤ 100000; decide, by show (listS r).length ≤ _; rw [listS_len]; omega⟩
      have so : SmR (obC x (y :: r)) := pairC_sm (fun p q => ⟨by show 1 ≤ 100000; decide, by show 0 ≤ 100000; decide⟩) _
      have su : SmR (owC x (y :: r)) := pairC_sm (fun p q => ⟨by show 0 ≤ 100000; decide, by show 1 ≤ 100000; decide⟩) _
      have sc : SmR (ctC x (y :: r)) := pairC_sm (fun p q => ⟨by show 0 ≤ 100000; decide, by show 0 ≤ 100000; decide⟩) _
      have se : SmR (exC x y) := ⟨by show 0 ≤ 100000; decide, by show 0 ≤ 100000; decide⟩
      have hr : (y :: r).length ≤ 1000 := by simp; omega
      have kb := chk_eq (b := x :: y :: r) (rt := fun c => reply_bitList_right ((), c, ())) (wt := fun c => reply_bitList_write ((), c, ())) (bitC_eq x y (by omega)) (bitR_eq sb) (fun _ => bitB_eq sb)
      have kw := chk_eq (b := x :: y :: r) (rt := fun c => reply_wordList_right ((), c, ())) (wt := fun c => reply_wordList_write ((), c, ())) (wordC_eq x y (by omega)) (wordR_eq sw) (fun _ => wordB_eq sw)
      have ko := chk_eq (b := x :: y :: r) (rt := fun c => reply_oneBit_right ((), c, ())) (wt := fun c => reply_oneBit_write ((), c, ())) (obC_eq x hr) (obR_eq so) (fun h => obB_eq h)
      have ku := chk_eq (b := x :: y :: r) (rt := fun c => reply_oneWord_right ((), c, ())) (wt := fun c => reply_oneWord_write ((), c, ())) (owC_eq x hr) (owR_eq su) (fun h => owB_eq h)
      have kc := fun k => chk_eq (b := x :: y :: r) (rt := fun c => reply_count_right (k, c, ())) (wt := fun c => reply_count_write (k, c, ())) (ctC_eq k x hr) (ctR_eq sc) (fun _ => ctB_eq k _)
      have ke := chk_eq (b := x :: y :: r) (rt := fun c => reply_exception_right ((), c, ())) (wt := fun c => reply_exception_write ((), c, ())) (exC_eq x y r) (exR_eq se) (fun _ => exB_eq _)
      exact if_pair (if_pair kb (if_pair kb (if_pair kw (if_pair kw (if_pair kw (if_pair ko (if_pair ku (if_pair (kc _) (if_pair (kc _) rfl))))))))) ke
end Go.Proofs.Lx

end

section
/- Frames that are read; which replies are taken. -/
namespace Go.Proofs.Lx
open Go Ev Sx Pl
set_option maxRecDepth 100000
/-! ### frames over TCP -/
end Go.Proofs.Lx

end

section
/- PollNone, as a plain law. -/
namespace Pl
open Go Ev Sx
end Pl
namespace Go.Proofs.Lx
open Go Ev Sx Pl
set_option maxRecDepth 100000
end Go.Proofs.Lx

end

section
/- Numbers of two bytes, packed bits and frames are read back. -/
namespace Pl
open Go Ev Sx
theorem listS_two (y z : Int) (r : List Int) : listS (y :: z :: r) = numV y z :: listS r := by
  unfold listS
  have e : (y :: z :: r).length / 2 = r.length / 2 + 1 := by simp; omega
  rw [e, List.range_succ_eq_map, List.map_cons, List.map_map]
  congr 1
end Pl
namespace Go.Proofs.Lx
open Go Ev Sx Pl
set_option maxRecDepth 100000
theorem numV_two {x : Int} (h0 : 0 ≤ x) (h1 : x ≤ 65535) : numV (x / 256 % 256) (x % 256) = x := by
  rw [numV_eq (by omega) (by omega) (by omega) (by omega)]
  omega
theorem listS_of_two {x : Int} (h0 : 0 ≤ x) (h1 : x ≤ 65535) (r : List Int) : listS (x / 256 % 256 :: x % 256 :: r) = x :: listS r := by rw [listS_two, numV_two h0 h1]
theorem listS_flat : ∀ {l : List Int}, (∀ x ∈ l, 0 ≤ x ∧ x ≤ 65535) → listS (l.flatMap two) = l
  | [], _ => rfl
  | x :: r, h => by
    rw [List.flatMap_cons]
    show listS (x / 256 % 256 :: x % 256 :: r.flatMap two) = _
    have hx := h x (by simp)
    rw [listS_of_two hx.1 hx.2, listS_flat fun y hy => h y (List.mem_cons_of_mem _ hy)]
theorem byteV_256 {t : List Bool} (h : t.length ≤ 8) : 0 ≤ byteV t ∧ byteV t < 256 := by
  have h1 := byteV_rng t
  have h2 : 2 ^ t.length ≤ 2 ^ 8 := Nat.pow_le_pow_right (by decide) h
  have h3 : ((2 ^ t.length : Nat) : Int) = (2 : Int) ^ t.length := by norm_cast
  have h4 : (2 : Nat) ^ 8 = 256 := by decide
  exact ⟨h1.1, by omega⟩
theorem unpack_pack (l : List Bool) : (unpackS (packS l)).take l.length = l := by
  apply List.ext_getElem?
  intro i
  rw [List.getElem?_take]
  by_cases hi : i < l.length
  · rw [if_pos hi]
    unfold unpackS
    have hm : i < 8 * (packS l).length := by rw [packS_len]; unfold packN; omega
    rw [List.getElem?_map, List.getElem?_range hm, Option.map_some]
    have hq : i / 8 < packN l.length := by unfold packN; omega
    have e : (packS l).getD (i / 8) 0 = byteV ((l.drop (8 * (i / 8))).take 8) := by
      unfold packS
      rw [List.getD_eq_getElem?_getD, List.getElem?_map, List.getElem?_range hq]
      rfl
    have hr := byteV_256 (t := (l.drop (8 * (i / 8))).take 8) (by simp; omega)
    rw [e, bitV_eq hr.1 hr.2 (Nat.mod_lt _ (by decide)), byteV_bit]
    have e2 : ((l.drop (8 * (i / 8))).take 8).getD (i % 8) false = l[i] := by
      rw [List.getD_eq_getElem?_getD, List.getElem?_take, if_pos (Nat.mod_lt _ (by decide)), List.getElem?_drop]
      have : 8 * (i / 8) + i % 8 = i := by omega
      rw [this, List.getElem?_eq_getElem hi]
      rfl
    rw [e2, List.getElem?_eq_getElem hi]
    cases l[i] <;> rfl
  · rw [if_neg hi, List.getElem?_eq_none (by omega)]
abbrev tup (p : TP) : TP := (p.1, p.2.1, p.2.2.1, p.2.2.2.1, p.2.2.2.2.1, (p.2.2.2.2.2.1.1, p.2.2.2.2.2.1.2.1, p.2.2.2.2.2.1.2.2.1, p.2.2.2.2.2.1.2.2.2.1, p.2.2.2.2.2.1.2.2.2.2.1, p.2.2.2.2.2.1.2.2.2.2.2), p.2.2.2.2.2.2.1, p.2.2.2.2.2.2.2.1, p.2.2.2.2.2.2.2.2)
/-! ### frames are read -/
end Go.Proofs.Lx

end

section
/- The bytes of a right request are read as that request. -/

namespace Go.Proofs.Lx
open Go Ev Sx Pl
set_option maxRecDepth 100000
theorem alist_eq {b : List Int} (h : b.length ≤ 100000) : ask_list (b, ()) = some (listS b, ()) := by
  show ask_list_m0 ask_list_K1 b = _
  unfold ask_list_m0
  have hq : quo .i64 (Int.ofNat b.length) 2 = ((b.length / 2 : Nat) : Int) := quo_nat (d := 2) (by omega)
  rw [hq, need_t (by rw [ge_iff]; omega), need_t (capOk_self _), Int.toNat_natCast, need_small (by omega), List.length_replicate]
  unfold ask_list_K1 listS
  refine (loop_det (mk := fun i => (b, Int.ofNat (b.length / 2), (i : Int), (List.range i).map (fun i => numV (b.getD (2 * i) 0) (b.getD (2 * i + 1) 0)) ++ (List.replicate (b.length / 2) (0 : Int)).drop i)) (N := b.length / 2) ?_ ?_ (b.length / 2) 0 _ (by omega) (by omega))
  · intro self i hi
    show ask_list_m1 _ b (Int.ofNat (b.length / 2)) (i : Int) _ = _
    unfold ask_list_m1
    have hm : mul .i64 2 (i : Int) = ((2 * i : Nat) : Int) := by
      rw [mul64 (by omega) (by omega)]
      simp
    have h1 : b[2 * i]? = some (b[2 * i]'(by omega)) := List.getElem?_eq_getElem (by omega)
    have h2 : b[2 * i + 1]? = some (b[2 * i + 1]'(by omega)) := List.getElem?_eq_getElem (by omega)
    have ho : ((List.range i).map (fun i => numV (b.getD (2 * i) 0) (b.getD (2 * i + 1) 0)) ++ (List.replicate (b.length / 2) (0 : Int)).drop i)[i]? = some (((List.range i).map (fun i => numV (b.getD (2 * i) 0) (b.getD (2 * i + 1) 0)) ++ (List.replicate (b.length / 2) (0 : Int)).drop i)[i]'(by simp; omega)) := List.getElem?_eq_getElem (by simp; omega)
    rw [if_pos (by rw [lt_iff, ofNat_eq]; omega), hm, succ64 (by omega), at_get h1, at_get h2, at_get ho, succ64 (by omega), Int.toNat_natCast]
    simp only [Option.bind_some]
    have e : bor .u16 (shl .u16 (cvt .u16 (b[2 * i]'(by omega))) 8) (cvt .u16 (b[2 * i + 1]'(by omega))) = numV (b.getD (2 * i) 0) (b.getD (2 * i + 1) 0) := by
      rw [List.getD_eq_getElem?_getD, List.getD_eq_getElem?_getD, h1, h2]
      rfl
    rw [e, fill_step (f := fun i => numV (b.getD (2 * i) 0) (b.getD (2 * i + 1) 0)) (by simp; omega)]
  · intro self
    show ask_list_m1 _ b (Int.ofNat (b.length / 2)) ((b.length / 2 : Nat) : Int) _ = _
    unfold ask_list_m1
    rw [if_neg (by rw [lt_iff, ofNat_eq]; omega), List.drop_of_length_le (by simp), List.append_nil]
/-! ### what is written -/
theorem wr_word (p x y : Int) : ask_written ((6, p, 0, 0, [], []), (0, 0, 1, false, false), [x, y], ()) = some ((6, p, 0, 0, [numV x y], []), true, ()) := by
  show Option.bind (ask_list ([x, y], ())) (fun z => some ((6, p, 0, 0, z.1, []), true, ())) = _
  rw [alist_eq (by show 2 ≤ 100000; decide), Option.bind_some, listS_two]
  rfl
theorem wr_coils (p k : Int) (l : List Bool) (h1 : 1 ≤ l.length) (h2 : l.length ≤ 1968) : ask_written ((15, p, (l.length : Int), 0, [], []), (1968, 1968, 0, false, true), k :: packS l, ()) = some ((15, p, (l.length : Int), 0, [], l), true, ()) := by
  have hlen := packS_len l
  show (if lt (Int.ofNat (k :: packS l).length) 2 = true then _ else Option.bind (cut (k :: packS l) 1 (Int.ofNat (k :: packS l).length)) (fun y => Option.bind (ask_Unpack (y, ())) fun y => if lt (Int.ofNat y.1.length) (cvt .i64 (l.length : Int)) = true then some ((0, 0, 0, 0, [], []), false, ()) else Option.bind (cut y.1 0 (l.length : Int)) fun y_1 => need (le (l.length : Int) (l.length : Int)) (need (le (l.length : Int) (Int.ofNat y.1.length)) (some ((15, p, (l.length : Int), 0, [], y_1), true, ()))))) = _
  have hN : 1 ≤ packN l.length ∧ packN l.length ≤ 300 := by unfold packN; omega
  have hu : l.length ≤ (unpackS (packS l)).length := by rw [unpackS_len, packS_len]; unfold packN; omega
  rw [if_neg (by rw [lt_iff, ofNat_eq, List.length_cons, packS_len]; omega), cut_tail, Option.bind_some, unpack_eq (by rw [packS_len]; omega), Option.bind_some, cvt64 (by omega) (by omega)]
  dsimp only
  rw [if_neg (by rw [lt_iff, ofNat_eq]; omega), cut_to hu, Option.bind_some, need_t (by rw [le_iff]; omega), need_t (by rw [le_iff, ofNat_eq]; omega), unpack_pack]
theorem wr_regs (p n k : Int) (l : List Int) (h : ∀ x ∈ l, 0 ≤ x ∧ x ≤ 65535) (h1 : 1 ≤ l.length) (h2 : l.length ≤ 123) : ask_written ((16, p, n, 0, [], []), (123, 0, 123, false, true), k :: l.flatMap two, ()) = some ((16, p, n, 0, l, []), true, ()) := by
  have hlen := flat_two_len l
  show (if lt (Int.ofNat (k :: l.flatMap two).length) 2 = true then _ else Option.bind (cut (k :: l.flatMap two) 1 (Int.ofNat (k :: l.flatMap two).length)) (fun y => Option.bind (ask_list (y, ())) fun y => some ((16, p, n, 0, y.1, []), true, ()))) = _
  rw [if_neg (by rw [lt_iff, ofNat_eq, List.length_cons, hlen]; omega), cut_tail, Option.bind_some, alist_eq (by omega), Option.bind_some, listS_flat h]
theorem wr_swap (p n t k : Int) (l : List Int) (h : ∀ x ∈ l, 0 ≤ x ∧ x ≤ 65535) (h1 : 1 ≤ l.length) (h2 : l.length ≤ 123) : ask_written ((23, p, n, t, [], []), (125, 0, 121, true, false), k :: l.flatMap two, ()) = some ((23, p, n, t, l, []), true, ()) := by
  have hlen := flat_two_len l
  show (if lt (Int.ofNat (k :: l.flatMap two).length) 2 = true then _ else Option.bind (cut (k :: l.flatMap two) 1 (Int.ofNat (k :: l.flatMap two).length)) (fun y => Option.bind (ask_list (y, ())) fun y => some ((23, p, n, t, y.1, []), true, ()))) = _
  rw [if_neg (by rw [lt_iff, ofNat_eq, List.length_cons, hlen]; omega), cut_tail, Option.bind_some, alist_eq (by omega), Option.bind_some, listS_flat h]
/-! ### reading -/
theorem rd_many {f p1 p2 n1 n2 : Int} {r : List Int} (hr : r.length ≤ 248) {m bb ww : Int} {tt ee : Bool} (hs : shp f = some (m, bb, ww, tt, ee)) (hm : gt m 0 = true) :
    ask_read (f :: p1 :: p2 :: n1 :: n2 :: r, ()) = ask_read_K2 (numV p1 p2 :: numV n1 n2 :: listS r) r 0 0 0 0 m bb ww tt ee f (numV p1 p2) (numV n1 n2) 0 := by
  show ask_read_m0 ask_read_K1 _ = _
  unfold ask_read_m0
  rw [if_neg (by rw [lt_iff, ofNat_eq]; simp; omega)]
  have hg : gt (Int.ofNat (f :: p1 :: p2 :: n1 :: n2 :: r).length) 253 = false := by
    rw [← Bool.not_eq_true, gt_iff, ofNat_eq]; simp; omega
  rw [hg]
  show ask_read_m1 ask_read_K2 _ false 0 0 0 0 = _
  unfold ask_read_m1
  have ec3 : cut (f :: p1 :: p2 :: n1 :: n2 :: r) 3 (Int.ofNat (f :: p1 :: p2 :: n1 :: n2 :: r).length) = some (n1 :: n2 :: r) := cut_from (i := 3) (by simp)
  have ec5 : cut (f :: p1 :: p2 :: n1 :: n2 :: r) 5 (Int.ofNat (f :: p1 :: p2 :: n1 :: n2 :: r).length) = some r := cut_from (i := 5) (by simp)
  rw [if_neg (by decide), at_zero, Option.bind_some, shape_eq, Option.bind_some]
  unfold shpD
  rw [hs]
  rw [if_neg (by show ¬ (!true) = true; decide), cut_tail, Option.bind_some, alist_eq (by simp; omega), Option.bind_some, Option.bind_some, listS_two, listS_two, at_zero, Option.bind_some, ec3, Option.bind_some]
  dsimp only [Option.getD]
  rw [if_pos hm, at_one, Option.bind_some, ec5, Option.bind_some]
theorem rd_one {f p1 p2 n1 n2 : Int} {bb ww : Int} {tt ee : Bool} (hs : shp f = some (0, bb, ww, tt, ee)) :
    ask_read ([f, p1, p2, n1, n2], ()) = ask_read_K2 [numV p1 p2, numV n1 n2] [n1, n2] 0 0 0 0 0 bb ww tt ee f (numV p1 p2) 0 0 := by
  show ask_read_m1 ask_read_K2 [f, p1, p2, n1, n2] false 0 0 0 0 = _
  unfold ask_read_m1
  have ec3 : cut [f, p1, p2, n1, n2] 3 (Int.ofNat [f, p1, p2, n1, n2].length) = some [n1, n2] := rfl
  rw [if_neg (by decide), at_zero, Option.bind_some, shape_eq, Option.bind_some]
  unfold shpD
  rw [hs]
  rw [if_neg (by show ¬ (!true) = true; decide), cut_tail, Option.bind_some, alist_eq (by simp), Option.bind_some, Option.bind_some, listS_two, listS_two, at_zero, Option.bind_some, ec3, Option.bind_some, if_neg (by show ¬ gt 0 0 = true; decide)]
  rfl
theorem read_eq {a : TA} (h : OkA a) (hr : rightA a = true) : ask_read (askB a, ()) = some (a, true, ()) := by
  have hra := rightA_RA hr
  have hp := numV_two h.at0 h.at1
  have hn := numV_two h.m0 h.m1
  have ht := numV_two h.t0 h.t1
  have hw := h.w
  clear hr h
  cases hra with
  | bits f p n hf h1 h2 =>
    dsimp only at hp hn
    rcases hf with rfl | rfl
    · refine (rd_many (f := 1) (r := []) (by show 0 ≤ 248; decide) (m := 2000) (bb := 0) (ww := 0) (tt := false) (ee := false) rfl rfl).trans ?_
      rw [hp, hn]; rfl
    · refine (rd_many (f := 2) (r := []) (by show 0 ≤ 248; decide) (m := 2000) (bb := 0) (ww := 0) (tt := false) (ee := false) rfl rfl).trans ?_
      rw [hp, hn]; rfl
  | words f p n hf h1 h2 =>
    dsimp only at hp hn
    rcases hf with rfl | rfl
    · refine (rd_many (f := 3) (r := []) (by show 0 ≤ 248; decide) (m := 125) (bb := 0) (ww := 0) (tt := false) (ee := false) rfl rfl).trans ?_
      rw [hp, hn]; rfl
    · refine (rd_many (f := 4) (r := []) (by show 0 ≤ 248; decide) (m := 125) (bb := 0) (ww := 0) (tt := false) (ee := false) rfl rfl).trans ?_
      rw [hp, hn]; rfl
  | coil p b =>
    dsimp only at hp
    cases b with
    | true =>
      refine (rd_one (f := 5) (n1 := 65280 / 256 % 256) (n2 := 65280 % 256) (bb := 1) (ww := 0) (tt := false) (ee := false) rfl).trans ?_
      rw [hp]; rfl
    | false =>
      refine (rd_one (f := 5) (n1 := 0 / 256 % 256) (n2 := 0 % 256) (bb := 1) (ww := 0) (tt := false) (ee := false) rfl).trans ?_
      rw [hp]; rfl
  | word p x =>
    dsimp only at hp hw
    have hx := hw x (by simp)
    refine (rd_one (f := 6) (n1 := x / 256 % 256) (n2 := x % 256) (bb := 0) (ww := 1) (tt := false) (ee := false) rfl).trans ?_
    rw [hp]
    show Option.bind (ask_written ((6, p, 0, 0, [], []), (0, 0, 1, false, false), [x / 256 % 256, x % 256], ())) (fun y => some (y.1, y.2.1, ())) = _
    rw [wr_word, Option.bind_some, numV_two hx.1 hx.2]
  | coils p l h1 h2 =>
    dsimp only at hp hn
    have hN : packN l.length ≤ 247 := by unfold packN; omega
    refine (rd_many (f := 15) (r := (packN l.length : Int) :: packS l) (by rw [List.length_cons, packS_len]; omega) (m := 1968) (bb := 1968) (ww := 0) (tt := false) (ee := true) rfl rfl).trans ?_
    rw [hp, hn]
    show Option.bind (ask_written ((15, p, (l.length : Int), 0, [], []), (1968, 1968, 0, false, true), (packN l.length : Int) :: packS l, ())) (fun y => some (y.1, y.2.1, ())) = _
    rw [wr_coils p _ l h1 h2, Option.bind_some]
  | regs p l h1 h2 =>
    dsimp only at hp hn hw
    refine (rd_many (f := 16) (r := 2 * (l.length : Int) :: l.flatMap two) (by rw [List.length_cons, flat_two_len]; omega) (m := 123) (bb := 0) (ww := 123) (tt := false) (ee := true) rfl rfl).trans ?_
    rw [hp, hn]
    show Option.bind (ask_written ((16, p, (l.length : Int), 0, [], []), (123, 0, 123, false, true), 2 * (l.length : Int) :: l.flatMap two, ())) (fun y => some (y.1, y.2.1, ())) = _
    rw [wr_regs p _ _ l hw h1 h2, Option.bind_some]
  | swap p n t l h1 h2 h3 h4 =>
    dsimp only at hp hn ht hw
    refine (rd_many (f := 23) (r := t / 256 % 256 :: t % 256 :: (l.length : Int) / 256 % 256 :: (l.length : Int) % 256 :: 2 * (l.length : Int) :: l.flatMap two) (by simp only [List.length_cons, flat_two_len]; omega) (m := 125) (bb := 0) (ww := 121) (tt := true) (ee := false) rfl rfl).trans ?_
    rw [hp, hn, listS_two, ht]
    show (if lt (Int.ofNat (t / 256 % 256 :: t % 256 :: (l.length : Int) / 256 % 256 :: (l.length : Int) % 256 :: 2 * (l.length : Int) :: l.flatMap two).length) 4 = true then some ((0, 0, 0, 0, [], []), false, ()) else Option.bind (cut (t / 256 % 256 :: t % 256 :: (l.length : Int) / 256 % 256 :: (l.length : Int) % 256 :: 2 * (l.length : Int) :: l.flatMap two) 4 (Int.ofNat (t / 256 % 256 :: t % 256 :: (l.length : Int) / 256 % 256 :: (l.length : Int) % 256 :: 2 * (l.length : Int) :: l.flatMap two).length)) (fun y_1 => Option.bind (ask_written ((23, p, n, t, [], []), (125, 0, 121, true, false), y_1, ())) (fun y => some (y.1, y.2.1, ())))) = _
    have ec : cut (t / 256 % 256 :: t % 256 :: (l.length : Int) / 256 % 256 :: (l.length : Int) % 256 :: 2 * (l.length : Int) :: l.flatMap two) 4 (Int.ofNat (t / 256 % 256 :: t % 256 :: (l.length : Int) / 256 % 256 :: (l.length : Int) % 256 :: 2 * (l.length : Int) :: l.flatMap two).length) = some (2 * (l.length : Int) :: l.flatMap two) := cut_from (i := 4) (by simp)
    rw [if_neg (by rw [lt_iff, ofNat_eq]; simp only [List.length_cons]; omega), ec, Option.bind_some, wr_swap p n t _ l hw h1 (by omega), Option.bind_some]
theorem aparse_eq {a : TA} (h : OkA a) (hr : rightA a = true) : ask_Parse (askB a, ()) = some (a, 0, ()) := by
  show ask_Parse_m0 ask_Parse_K1 (askB a) = _
  unfold ask_Parse_m0
  have e : bytes_Equal (askB a, askB a, ()) = some (true, ()) := by
    show some (eqs (toS (askB a)) (toS (askB a)), ()) = _
    rw [eqs_iff.2 rfl]
  rw [read_eq h hr, Option.bind_some, if_neg (by show ¬ (!true) = true; decide), bytes_eq h, if_pos hr, Option.bind_some, if_neg (by show ¬ nei 0 0 = true; decide)]
  dsimp only
  rw [e]
  rfl
end Go.Proofs.Lx

end

section
/- The bytes of a right reply are read as that reply. -/
namespace Go.Proofs.Lx
open Go Ev Sx Pl
set_option maxRecDepth 100000
structure OkR (r : TR) : Prop where
  f0 : 0 ≤ r.1
  f1 : r.1 ≤ 255
  e0 : 0 ≤ r.2.1
  e1 : r.2.1 ≤ 255
  w : ∀ x ∈ r.2.2.2.1, 0 ≤ x ∧ x ≤ 65535
  at0 : 0 ≤ r.2.2.2.2.1
  at1 : r.2.2.2.2.1 ≤ 65535
  m0 : 0 ≤ r.2.2.2.2.2
  m1 : r.2.2.2.2.2 ≤ 65535
  lb : r.2.2.1.length ≤ 100000
  lw : r.2.2.2.1.length ≤ 100000
/-- what a right reply is -/
inductive RR : TR → Prop where
  | ex (f e : Int) (h0 : 0 ≤ f) (h : f < 128) (h1 : 1 ≤ e) (h2 : e ≤ 4) : RR (f, e, [], [], 0, 0)
  | bits (f : Int) (l : List Bool) (hf : f = 1 ∨ f = 2) (h1 : 8 ≤ l.length) (h2 : l.length ≤ 2000) (h3 : l.length % 8 = 0) : RR (f, 0, l, [], 0, 0)
  | words (f : Int) (l : List Int) (hf : f = 3 ∨ f = 4 ∨ f = 23) (h1 : 1 ≤ l.length) (h2 : l.length ≤ 125) : RR (f, 0, [], l, 0, 0)
  | coil (b : Bool) (p : Int) : RR (5, 0, [b], [], p, 0)
  | word (x p : Int) : RR (6, 0, [], [x], p, 0)
  | coils (p n : Int) (h1 : 1 ≤ n) (h2 : n ≤ 1968) : RR (15, 0, [], [], p, n)
  | regs (p n : Int) (h1 : 1 ≤ n) (h2 : n ≤ 123) : RR (16, 0, [], [], p, n)
theorem rem128 {f : Int} (h0 : 0 ≤ f) (h : f < 128) : rem f 128 = f := by
  unfold rem
  rw [Int.tmod_eq_emod_of_nonneg h0]
  omega
/-- its bytes -/
def repB (r : TR) : List Int := if nei r.2.1 0 = true then exB r else if eqi r.1 1 = true then bitB r else if eqi r.1 2 = true then bitB r else if eqi r.1 3 = true then wordB r else if eqi r.1 4 = true then wordB r else if eqi r.1 23 = true then wordB r else
  if eqi r.1 5 = true then obB r else if eqi r.1 6 = true then owB r else if eqi r.1 15 = true then ctB r else if eqi r.1 16 = true then ctB r else []
theorem chk_self {b : List Int} {c : TR} {ok : Bool} (h : ok = true) : chkV b c ok b = (c, 0) := by
  unfold chkV
  rw [if_pos h, if_pos (eqs_iff.2 rfl)]
theorem listS_four {p q : Int} (h0 : 0 ≤ p) (h1 : p ≤ 65535) (h2 : 0 ≤ q) (h3 : q ≤ 65535) : listS (two p ++ two q) = [p, q] := by
  show listS (p / 256 % 256 :: p % 256 :: q / 256 % 256 :: q % 256 :: []) = _
  rw [listS_of_two h0 h1, listS_of_two h2 h3]
  rfl
theorem rparse_back {r : TR} (h : OkR r) (hr : RR r) (ok : rightR r = true) : parseR (repB r) = (r, 0) := by
  have hw := h.w
  have ha := h.at0
  have ha1 := h.at1
  have hm := h.m0
  have hm1 := h.m1
  clear h
  cases hr with
  | ex f e h0 h h1 h2 =>
    have ea : add .u8 f 128 = f + 128 := wu8 (by omega) (by omega)
    have eb : repB (f, e, [], [], 0, 0) = [f + 128, e] := by
      unfold repB
      rw [if_pos (by rw [nei_iff]; show e ≠ 0; omega)]
      unfold exB
      dsimp only
      rw [ea]
    have ec : exC (f + 128) e = (f, e, [], [], 0, 0) := by
      unfold exC
      have : rem (f + 128) 128 = f := by unfold rem; rw [Int.tmod_eq_emod_of_nonneg (by omega)]; omega
      rw [this]
    rw [eb]
    show parseQ (f + 128) e [] = _
    unfold parseQ
    rw [if_neg (by decide), if_neg (by rw [lt_iff]; omega), ec]
    have eB : exB (f, e, [], [], 0, 0) = [f + 128, e] := by
      unfold exB
      dsimp only
      rw [ea]
    rw [eB]
    apply chk_self
    unfold rightR at ok
    rw [if_pos (by rw [nei_iff]; show e ≠ 0; omega)] at ok
    exact ok
  | bits f l hf h1 h2 h3 =>
    have hN : packN l.length ≤ 250 := by unfold packN; omega
    have hu : unpackS (packS l) = l := by
      have := unpack_pack l
      rwa [List.take_of_length_le (by rw [unpackS_len, packS_len]; unfold packN; omega)] at this
    have ec : bitC f (packS l) = (f, 0, l, [], 0, 0) := by unfold bitC; rw [hu]
    rcases hf with rfl | rfl
    · show parseQ 1 ((packN l.length : Int) % 256) (packS l) = _
      unfold parseQ
      rw [if_neg (by rw [packS_len]; omega), if_pos (by decide), if_pos (by decide), ec]
      exact chk_self ok
    · show parseQ 2 ((packN l.length : Int) % 256) (packS l) = _
      unfold parseQ
      rw [if_neg (by rw [packS_len]; omega), if_pos (by decide), if_neg (by decide), if_pos (by decide), ec]
      exact chk_self ok
  | words f l hf h1 h2 =>
    have hlen := flat_two_len l
    have ec : wordC f (l.flatMap two) = (f, 0, [], l, 0, 0) := by unfold wordC; rw [listS_flat hw]
    rcases hf with rfl | rfl | rfl
    · show parseQ 3 (2 * (l.length : Int) % 256) (l.flatMap two) = _
      unfold parseQ
      rw [if_neg (by omega), if_pos (by decide), if_neg (by decide), if_neg (by decide), if_pos (by decide), ec]
      exact chk_self ok
    · show parseQ 4 (2 * (l.length : Int) % 256) (l.flatMap two) = _
      unfold parseQ
      rw [if_neg (by omega), if_pos (by decide), if_neg (by decide), if_neg (by decide), if_neg (by decide), if_pos (by decide), ec]
      exact chk_self ok
    · show parseQ 23 (2 * (l.length : Int) % 256) (l.flatMap two) = _
      unfold parseQ
      rw [if_neg (by omega), if_pos (by decide), if_neg (by decide), if_neg (by decide), if_neg (by decide), if_neg (by decide), if_pos (by decide), ec]
      exact chk_self ok
  | coil b p =>
    have ec : obC 5 (two p ++ two (if b = true then 65280 else 0)) = (5, 0, [b], [], p, 0) := by
      unfold obC pairC
      rw [listS_four ha ha1 (by split <;> decide) (by split <;> decide)]
      cases b <;> rfl
    show parseQ 5 (p / 256 % 256) (p % 256 :: two (if b = true then 65280 else 0)) = _
    have eq : (p / 256 % 256) :: (p % 256 :: two (if b = true then 65280 else 0)) = two p ++ two (if b = true then 65280 else 0) := rfl
    unfold parseQ
    rw [if_neg (by show ¬ 251 < 3; decide), if_pos (by decide), if_neg (by decide), if_neg (by decide), if_neg (by decide), if_neg (by decide), if_neg (by decide), if_pos (by decide), eq, ec]
    exact chk_self ok
  | word x p =>
    have hx := hw x (by simp)
    have ec : owC 6 (two p ++ two x) = (6, 0, [], [x], p, 0) := by
      unfold owC pairC
      rw [listS_four ha ha1 hx.1 hx.2]
    show parseQ 6 (p / 256 % 256) (p % 256 :: two x) = _
    have eq : (p / 256 % 256) :: (p % 256 :: two x) = two p ++ two x := rfl
    unfold parseQ
    rw [if_neg (by show ¬ 251 < 3; decide), if_pos (by decide), if_neg (by decide), if_neg (by decide), if_neg (by decide), if_neg (by decide), if_neg (by decide), if_neg (by decide), if_pos (by decide), eq, ec]
    exact chk_self ok
  | coils p n h1 h2 =>
    have ec : ctC 15 (two p ++ two n) = (15, 0, [], [], p, n) := by
      unfold ctC pairC
      rw [listS_four ha ha1 hm hm1]
    show parseQ 15 (p / 256 % 256) (p % 256 :: two n) = _
    have eq : (p / 256 % 256) :: (p % 256 :: two n) = two p ++ two n := rfl
    unfold parseQ
    rw [if_neg (by show ¬ 251 < 3; decide), if_pos (by decide), if_neg (by decide), if_neg (by decide), if_neg (by decide), if_neg (by decide), if_neg (by decide), if_neg (by decide), if_neg (by decide), if_pos (by decide), eq, ec]
    exact chk_self ok
  | regs p n h1 h2 =>
    have ec : ctC 16 (two p ++ two n) = (16, 0, [], [], p, n) := by
      unfold ctC pairC
      rw [listS_four ha ha1 hm hm1]
    show parseQ 16 (p / 256 % 256) (p % 256 :: two n) = _
    have eq : (p / 256 % 256) :: (p % 256 :: two n) = two p ++ two n := rfl
    unfold parseQ
    rw [if_neg (by show ¬ 251 < 3; decide), if_pos (by decide), if_neg (by decide), if_neg (by decide), if_neg (by decide), if_neg (by decide), if_neg (by decide), if_neg (by decide), if_neg (by decide), if_neg (by decide), if_pos (by decide), eq, ec]
    exact chk_self ok
end Go.Proofs.Lx

end
