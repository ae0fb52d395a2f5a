/- Proved in the last of these 9 parts (this is part 5): PollTakes, whatever its arguments, returns true and leaves them as they were, with no condition.. Conditions: those of the given statement, and no others. -/
import Derived.Test.YtbpmjafbgbcjeaaPartd
import Derived.Test.YtbpmjafbgbcjeaaProg
set_option linter.unusedVariables false
set_option linter.unusedSimpArgs false
set_option linter.unusedSectionVars false
section
/- Contracts, made by a program. -/
open Go Go.Proofs Ev Sx
set_option maxRecDepth 100000
namespace Go.Proofs.Lx
abbrev LAT2 : Ty := (.pr (.int .u16) (.pr (.int .u16) (.pr (.int .u16) (.pr (.sl (.int .u16)) (.sl .bool)))))
abbrev LAT0 : Ty := (.pr (.int .u8) (.pr (.int .i64) (.pr (.int .i64) (.pr .bool (.pr (.pr (.int .u8) LAT2) (.pr (.int .u16) (.pr (.int .i64) (.int .i64))))))))
abbrev LAT1 : Ty := (.pr (.int .u8) (.pr (.sl .bool) (.pr (.sl (.int .u16)) (.pr (.int .u16) (.int .u16)))))
abbrev LAT6 : Type := (Int × Int × Int × Int × List Int × List Bool)
abbrev LAT3 : Type := (Int × Int × Int × Int × Bool × LAT6 × Int × Int × Int)
abbrev LAT4 : Type := (Int × Int × List Bool × List Int × Int × Int)
abbrev LAT5 : Ty := (.pr (.int .u8) (.sl (.int .u8)))
abbrev LAT7 : Ty := (.pr (.int .i64) (.pr (.int .i64) (.pr .bool .bool)))
/-! low_Few -/
@[reducible] def low_Few_s : Sh := ⟨[.d (.sl (.int .u16)), .d (.sl .bool)], [], [.sl (.int .u16), .sl .bool], [.d (.bool)], [], 0, [.bool]⟩
def low_Few_e : Env := (cts [])
def low_Few_h : List (Nat × Hint) := []
def low_Few_m0 (words : List Int) (bits : List Bool) : Option (As [.bool]) :=
  if le (Int.ofNat (List.length words)) 200 = true then some (le (Int.ofNat (List.length bits)) 2100, ()) else some (false, ())
def low_Few (x : As [.sl (.int .u16), .sl .bool]) : Option (As [.bool]) := low_Few_m0 x.1 x.2.1
theorem low_Few_c0 (J : Orc (As [.bool])) (x : As [.sl (.int .u16), .sl .bool]) : rfn Try.prog low_Few_e 6 18446744073709551616 (Ev.get low_Few_h) 7 low_Few_s J x = low_Few_m0 x.1 x.2.1 := by kernel_rfl
theorem low_Few_t (x : As [.sl (.int .u16), .sl .bool]) : evT Try.prog low_Few_e 6 18446744073709551616 (Ev.get low_Few_h) 7 low_Few_s x = low_Few x := by
  rw [rfn_eq, low_Few_c0]
  rfl
theorem low_Few_ok : CtOk Try.prog (fun _ => True) 7 ⟨low_Few_s, low_Few⟩ := ct_of_ev env_nil low_Few_t
/-! poll_ranges -/
@[reducible] def poll_ranges_s : Sh := ⟨[.d (.int .u8), .d (.int .u8), .d (.int .i64), .d (.int .i64)], [], [.int .u8, .int .u8, .int .i64, .int .i64], [.d (.bool)], [], 0, [.bool]⟩
def poll_ranges_e : Env := (cts [])
def poll_ranges_h : List (Nat × Hint) := []
def poll_ranges_m0 (unit : Int) (link : Int) (timeout : Int) (retries : Int) : Option (As [.bool]) :=
  if ge unit 1 = true then if le unit 247 = true then if eqi link 1 = true then if ge timeout 1 = true then if le timeout 100000 = true then if ge retries 0 = true then some (le retries 1000, ()) else some (false, ()) else some (false, ()) else some (false, ()) else if eqi link 2 = true then if ge timeout 1 = true then if le timeout 100000 = true then if ge retries 0 = true then some (le retries 1000, ()) else some (false, ()) else some (false, ()) else some (false, ()) else some (false, ()) else some (false, ()) else some (false, ())
def poll_ranges (x : As [.int .u8, .int .u8, .int .i64, .int .i64]) : Option (As [.bool]) := poll_ranges_m0 x.1 x.2.1 x.2.2.1 x.2.2.2.1
theorem poll_ranges_c0 (J : Orc (As [.bool])) (x : As [.int .u8, .int .u8, .int .i64, .int .i64]) : rfn Try.prog poll_ranges_e 6 18446744073709551616 (Ev.get poll_ranges_h) 31 poll_ranges_s J x = poll_ranges_m0 x.1 x.2.1 x.2.2.1 x.2.2.2.1 := by kernel_rfl
theorem poll_ranges_t (x : As [.int .u8, .int .u8, .int .i64, .int .i64]) : evT Try.prog poll_ranges_e 6 18446744073709551616 (Ev.get poll_ranges_h) 31 poll_ranges_s x = poll_ranges x := by
  rw [rfn_eq, poll_ranges_c0]
  rfl
theorem poll_ranges_ok : CtOk Try.prog (fun _ => True) 31 ⟨poll_ranges_s, poll_ranges⟩ := ct_of_ev env_nil poll_ranges_t
/-! poll_New -/
@[reducible] def poll_New_s : Sh := ⟨[.d (.int .u8), .d (.int .u8), .d (.int .i64), .d (.int .i64)], [], [.int .u8, .int .u8, .int .i64, .int .i64], [.d (.pr (.int .u8) LAT0), .d (.int .i64)], [], 0, [.pr (.int .u8) LAT0, .int .i64]⟩
def poll_New_e : Env := (cts [(31, (⟨poll_ranges_s, poll_ranges⟩ : Ct))])
def poll_New_h : List (Nat × Hint) := []
def poll_New_m0 (unit : Int) (link : Int) (timeout : Int) (retries : Int) : Option (As [.pr (.int .u8) LAT0, .int .i64]) :=
  Option.bind (poll_ranges (unit, link, timeout, retries, ())) fun (y : Bool × Unit) => if (!y.fst) = true then some ((0, 0, 0, 0, false, (0, 0, 0, 0, [], []), 0, 0, 0), 2, ()) else some ((unit, link, timeout, retries, false, (0, 0, 0, 0, [], []), 0, 0, 0), 0, ())
def poll_New (x : As [.int .u8, .int .u8, .int .i64, .int .i64]) : Option (As [.pr (.int .u8) LAT0, .int .i64]) := poll_New_m0 x.1 x.2.1 x.2.2.1 x.2.2.2.1
theorem poll_New_c0 (J : Orc (As [.pr (.int .u8) LAT0, .int .i64])) (x : As [.int .u8, .int .u8, .int .i64, .int .i64]) : rfn Try.prog poll_New_e 6 18446744073709551616 (Ev.get poll_New_h) 9 poll_New_s J x = poll_New_m0 x.1 x.2.1 x.2.2.1 x.2.2.2.1 := by kernel_rfl
theorem poll_New_t (x : As [.int .u8, .int .u8, .int .i64, .int .i64]) : evT Try.prog poll_New_e 6 18446744073709551616 (Ev.get poll_New_h) 9 poll_New_s x = poll_New x := by
  rw [rfn_eq, poll_New_c0]
  rfl
theorem poll_New_ok : CtOk Try.prog (fun _ => True) 9 ⟨poll_New_s, poll_New⟩ := ct_of_ev (env_cons poll_ranges_ok env_nil) poll_New_t
/-! poll_Drop -/
@[reducible] def poll_Drop_s : Sh := ⟨[.d (.pr (.int .u8) LAT0)], [], [.pr (.int .u8) LAT0], [.d (.pr (.int .u8) LAT0)], [], 0, [.pr (.int .u8) LAT0]⟩
def poll_Drop_e : Env := (cts [])
def poll_Drop_h : List (Nat × Hint) := []
def poll_Drop_m0 (p : Int × Int × Int × Int × Bool × LAT6 × Int × Int × Int) : Option (As [.pr (.int .u8) LAT0]) :=
  some ((p.fst, p.snd.fst, p.snd.snd.fst, p.snd.snd.snd.fst, false, (0, 0, 0, 0, [], []), p.snd.snd.snd.snd.snd.snd.fst, 0, 0), ())
def poll_Drop (x : As [.pr (.int .u8) LAT0]) : Option (As [.pr (.int .u8) LAT0]) := poll_Drop_m0 x.1
theorem poll_Drop_c0 (J : Orc (As [.pr (.int .u8) LAT0])) (x : As [.pr (.int .u8) LAT0]) : rfn Try.prog poll_Drop_e 6 18446744073709551616 (Ev.get poll_Drop_h) 23 poll_Drop_s J x = poll_Drop_m0 x.1 := by kernel_rfl
theorem poll_Drop_t (x : As [.pr (.int .u8) LAT0]) : evT Try.prog poll_Drop_e 6 18446744073709551616 (Ev.get poll_Drop_h) 23 poll_Drop_s x = poll_Drop x := by
  rw [rfn_eq, poll_Drop_c0]
  rfl
theorem poll_Drop_ok : CtOk Try.prog (fun _ => True) 23 ⟨poll_Drop_s, poll_Drop⟩ := ct_of_ev env_nil poll_Drop_t
/-! slices_Clone_Guint16 -/
@[reducible] def slices_Clone_Guint16_s : Sh := ⟨[.d (.sl (.int .u16))], [], [.sl (.int .u16)], [.d (.sl (.int .u16))], [], 0, [.sl (.int .u16)]⟩
def slices_Clone_Guint16_e : Env := (cts [])
def slices_Clone_Guint16_h : List (Nat × Hint) := []
def slices_Clone_Guint16_m0 (s : List Int) : Option (As [.sl (.int .u16)]) :=
  if eqi (Int.ofNat (List.length s)) 0 = true then amb (eqAs slices_Clone_Guint16_s.rs) [some ([], ()), need (small (0 + List.length s)) (some ([] ++ s, ()))] else need (small (0 + List.length s)) (some ([] ++ s, ()))
def slices_Clone_Guint16 (x : As [.sl (.int .u16)]) : Option (As [.sl (.int .u16)]) := slices_Clone_Guint16_m0 x.1
theorem slices_Clone_Guint16_c0 (J : Orc (As [.sl (.int .u16)])) (x : As [.sl (.int .u16)]) : rfn Try.prog slices_Clone_Guint16_e 6 18446744073709551616 (Ev.get slices_Clone_Guint16_h) 53 slices_Clone_Guint16_s J x = slices_Clone_Guint16_m0 x.1 := by kernel_rfl
theorem slices_Clone_Guint16_t (x : As [.sl (.int .u16)]) : evT Try.prog slices_Clone_Guint16_e 6 18446744073709551616 (Ev.get slices_Clone_Guint16_h) 53 slices_Clone_Guint16_s x = slices_Clone_Guint16 x := by
  rw [rfn_eq, slices_Clone_Guint16_c0]
  rfl
theorem slices_Clone_Guint16_ok : CtOk Try.prog (fun _ => True) 53 ⟨slices_Clone_Guint16_s, slices_Clone_Guint16⟩ := ct_of_ev env_nil slices_Clone_Guint16_t
/-! slices_Clone_Gbool -/
@[reducible] def slices_Clone_Gbool_s : Sh := ⟨[.d (.sl .bool)], [], [.sl .bool], [.d (.sl .bool)], [], 0, [.sl .bool]⟩
def slices_Clone_Gbool_e : Env := (cts [])
def slices_Clone_Gbool_h : List (Nat × Hint) := []
def slices_Clone_Gbool_m0 (s : List Bool) : Option (As [.sl .bool]) :=
  if eqi (Int.ofNat (List.length s)) 0 = true then amb (eqAs slices_Clone_Gbool_s.rs) [some ([], ()), need (small (0 + List.length s)) (some ([] ++ s, ()))] else need (small (0 + List.length s)) (some ([] ++ s, ()))
def slices_Clone_Gbool (x : As [.sl .bool]) : Option (As [.sl .bool]) := slices_Clone_Gbool_m0 x.1
theorem slices_Clone_Gbool_c0 (J : Orc (As [.sl .bool])) (x : As [.sl .bool]) : rfn Try.prog slices_Clone_Gbool_e 6 18446744073709551616 (Ev.get slices_Clone_Gbool_h) 54 slices_Clone_Gbool_s J x = slices_Clone_Gbool_m0 x.1 := by kernel_rfl
theorem slices_Clone_Gbool_t (x : As [.sl .bool]) : evT Try.prog slices_Clone_Gbool_e 6 18446744073709551616 (Ev.get slices_Clone_Gbool_h) 54 slices_Clone_Gbool_s x = slices_Clone_Gbool x := by
  rw [rfn_eq, slices_Clone_Gbool_c0]
  rfl
theorem slices_Clone_Gbool_ok : CtOk Try.prog (fun _ => True) 54 ⟨slices_Clone_Gbool_s, slices_Clone_Gbool⟩ := ct_of_ev env_nil slices_Clone_Gbool_t
/-! poll_copied -/
@[reducible] def poll_copied_s : Sh := ⟨[.d (.pr (.int .u8) LAT2)], [], [.pr (.int .u8) LAT2], [.d (.pr (.int .u8) LAT2)], [], 0, [.pr (.int .u8) LAT2]⟩
def poll_copied_e : Env := (cts [(53, (⟨slices_Clone_Guint16_s, slices_Clone_Guint16⟩ : Ct)), (54, (⟨slices_Clone_Gbool_s, slices_Clone_Gbool⟩ : Ct))])
def poll_copied_h : List (Nat × Hint) := []
def poll_copied_m0 (a : Int × Int × Int × Int × List Int × List Bool) : Option (As [.pr (.int .u8) LAT2]) :=
  Option.bind (slices_Clone_Guint16 (a.snd.snd.snd.snd.fst, ())) fun (y : List Int × Unit) => Option.bind (slices_Clone_Gbool (a.snd.snd.snd.snd.snd, ())) fun (y_1 : List Bool × Unit) => some ((a.fst, a.snd.fst, a.snd.snd.fst, a.snd.snd.snd.fst, y.fst, y_1.fst), ())
def poll_copied (x : As [.pr (.int .u8) LAT2]) : Option (As [.pr (.int .u8) LAT2]) := poll_copied_m0 x.1
theorem poll_copied_c0 (J : Orc (As [.pr (.int .u8) LAT2])) (x : As [.pr (.int .u8) LAT2]) : rfn Try.prog poll_copied_e 6 18446744073709551616 (Ev.get poll_copied_h) 34 poll_copied_s J x = poll_copied_m0 x.1 := by kernel_rfl
theorem poll_copied_t (x : As [.pr (.int .u8) LAT2]) : evT Try.prog poll_copied_e 6 18446744073709551616 (Ev.get poll_copied_h) 34 poll_copied_s x = poll_copied x := by
  rw [rfn_eq, poll_copied_c0]
  rfl
theorem poll_copied_ok : CtOk Try.prog (fun _ => True) 34 ⟨poll_copied_s, poll_copied⟩ := ct_of_ev (env_cons slices_Clone_Guint16_ok (env_cons slices_Clone_Gbool_ok env_nil)) poll_copied_t
/-! poll_own -/
@[reducible] def poll_own_s : Sh := ⟨[.d (.pr (.int .u8) LAT0)], [], [.pr (.int .u8) LAT0], [.d (.pr (.int .u8) LAT0)], [], 0, [.pr (.int .u8) LAT0]⟩
def poll_own_e : Env := (cts [(34, (⟨poll_copied_s, poll_copied⟩ : Ct))])
def poll_own_h : List (Nat × Hint) := []
def poll_own_m0 (p : Int × Int × Int × Int × Bool × LAT6 × Int × Int × Int) : Option (As [.pr (.int .u8) LAT0]) :=
  Option.bind (poll_copied (p.snd.snd.snd.snd.snd.fst, ())) fun (y : LAT6 × Unit) => some ((p.fst, p.snd.fst, p.snd.snd.fst, p.snd.snd.snd.fst, p.snd.snd.snd.snd.fst, y.fst, p.snd.snd.snd.snd.snd.snd), ())
def poll_own (x : As [.pr (.int .u8) LAT0]) : Option (As [.pr (.int .u8) LAT0]) := poll_own_m0 x.1
theorem poll_own_c0 (J : Orc (As [.pr (.int .u8) LAT0])) (x : As [.pr (.int .u8) LAT0]) : rfn Try.prog poll_own_e 6 18446744073709551616 (Ev.get poll_own_h) 32 poll_own_s J x = poll_own_m0 x.1 := by kernel_rfl
theorem poll_own_t (x : As [.pr (.int .u8) LAT0]) : evT Try.prog poll_own_e 6 18446744073709551616 (Ev.get poll_own_h) 32 poll_own_s x = poll_own x := by
  rw [rfn_eq, poll_own_c0]
  rfl
theorem poll_own_ok : CtOk Try.prog (fun _ => True) 32 ⟨poll_own_s, poll_own⟩ := ct_of_ev (env_cons poll_copied_ok env_nil) poll_own_t
/-! mbap_Pack -/
@[reducible] def mbap_Pack_s : Sh := ⟨[.d (.pr (.int .u16) LAT5)], [], [.pr (.int .u16) LAT5], [.d (.sl (.int .u8)), .d (.int .i64)], [], 0, [.sl (.int .u8), .int .i64]⟩
def mbap_Pack_e : Env := (cts [])
def mbap_Pack_h : List (Nat × Hint) := [(14, ⟨[], [1, 4, 14]⟩)]
def mbap_Pack_k1 (n : Int) (t14 : Bool) (x : Int) (x_2 : Int) (x_3 : List Int) : St := { fr := [(1, .pb 0 0), (4, .d (.int .i64) n), (14, .d .bool t14)], nt := 37, up := [], own := [(0, .box 64 [.d (.int .u16) x, .d (.int .u8) x_2, .d (.sl (.int .u8)) x_3])], nx := 1, log := [], ln := 0 }
def mbap_Pack_m1 (n : Int) (t14 : Bool) (x : Int) (x_2 : Int) (x_3 : List Int) : Option (As [.sl (.int .u8), .int .i64]) :=
  if t14 = true then some ([], 2, ()) else need (Ev.capOk 0 (add .i64 7 n)) (need (small (Int.toNat (add .i64 7 n))) (need (small (0 + 7)) (need (small (List.length (List.replicate 0 0 ++ [cvt .u8 (Sx.shr .u16 x 8), cvt .u8 x, 0, 0, 0, cvt .u8 (add .i64 n 1), x_2]) + List.length x_3)) (some (List.replicate 0 0 ++ [cvt .u8 (Sx.shr .u16 x 8), cvt .u8 x, 0, 0, 0, cvt .u8 (add .i64 n 1), x_2] ++ x_3, 0, ())))))
def mbap_Pack_m0 (j1 : Int → Bool → Int → Int → List Int → Option (As [.sl (.int .u8), .int .i64])) (x : Int × Int × List Int) : Option (As [.sl (.int .u8), .int .i64]) :=
  if lt (Int.ofNat (List.length x.snd.snd)) 1 = true then j1 (Int.ofNat (List.length x.snd.snd)) true x.fst x.snd.fst x.snd.snd else j1 (Int.ofNat (List.length x.snd.snd)) (gt (Int.ofNat (List.length x.snd.snd)) 253) x.fst x.snd.fst x.snd.snd
def mbap_Pack_K1 (n : Int) (t14 : Bool) (x : Int) (x_2 : Int) (x_3 : List Int) : Option (As [.sl (.int .u8), .int .i64]) := mbap_Pack_m1 n t14 x x_2 x_3
def mbap_Pack (x : As [.pr (.int .u16) LAT5]) : Option (As [.sl (.int .u8), .int .i64]) := mbap_Pack_m0 mbap_Pack_K1 x.1
theorem mbap_Pack_c1 (J : Orc (As [.sl (.int .u8), .int .i64])) (n : Int) (t14 : Bool) (x : Int) (x_2 : Int) (x_3 : List Int) : pfn Try.prog mbap_Pack_e 6 18446744073709551616 (Ev.get mbap_Pack_h) 39 mbap_Pack_s J 14 [] (mbap_Pack_k1 n t14 x x_2 x_3) = mbap_Pack_m1 n t14 x x_2 x_3 := by kernel_rfl
theorem mbap_Pack_c0 (J : Orc (As [.sl (.int .u8), .int .i64])) (x : As [.pr (.int .u16) LAT5]) : rfn Try.prog mbap_Pack_e 6 18446744073709551616 (Ev.get mbap_Pack_h) 39 mbap_Pack_s J x = mbap_Pack_m0 (fun n t14 x x_2 x_3 => J 14 [] (mbap_Pack_k1 n t14 x x_2 x_3)) x.1 := by kernel_rfl
theorem mbap_Pack_g1 (n : Int) (t14 : Bool) (x : Int) (x_2 : Int) (x_3 : List Int) : jfn Try.prog mbap_Pack_e 6 18446744073709551616 (Ev.get mbap_Pack_h) 39 mbap_Pack_s 14 [] (mbap_Pack_k1 n t14 x x_2 x_3) = mbap_Pack_K1 n t14 x x_2 x_3 := by
  rw [pfn_eq (by decide)]
  rw [mbap_Pack_c1]
  rfl
theorem mbap_Pack_t (x : As [.pr (.int .u16) LAT5]) : evT Try.prog mbap_Pack_e 6 18446744073709551616 (Ev.get mbap_Pack_h) 39 mbap_Pack_s x = mbap_Pack x := by
  have e1 : (fun n t14 x x_2 x_3 => (jfn Try.prog mbap_Pack_e 6 18446744073709551616 (Ev.get mbap_Pack_h) 39 mbap_Pack_s) 14 [] (mbap_Pack_k1 n t14 x x_2 x_3)) = mbap_Pack_K1 := funext fun n => funext fun t14 => funext fun x => funext fun x_2 => funext fun x_3 => mbap_Pack_g1 n t14 x x_2 x_3
  rw [rfn_eq, mbap_Pack_c0, e1]
  rfl
theorem mbap_Pack_ok : CtOk Try.prog (fun _ => True) 39 ⟨mbap_Pack_s, mbap_Pack⟩ := ct_of_ev env_nil mbap_Pack_t
/-! ask_shape -/
@[reducible] def ask_shape_s : Sh := ⟨[.d (.int .u8)], [], [.int .u8], [.d (.pr (.int .i64) LAT7), .d (.bool)], [], 0, [.pr (.int .i64) LAT7, .bool]⟩
def ask_shape_e : Env := (cts [])
def ask_shape_h : List (Nat × Hint) := []
def ask_shape_m0 (f : Int) : Option (As [.pr (.int .i64) LAT7, .bool]) :=
  some (Ev.gdV (.pr (.int .i64) LAT7) (if eqi 1 f = true then some (2000, 0, 0, false, false) else if eqi 2 f = true then some (2000, 0, 0, false, false) else if eqi 3 f = true then some (125, 0, 0, false, false) else if eqi 4 f = true then some (125, 0, 0, false, false) else if eqi 5 f = true then some (0, 1, 0, false, false) else if eqi 6 f = true then some (0, 0, 1, false, false) else if eqi 15 f = true then some (1968, 1968, 0, false, true) else if eqi 16 f = true then some (123, 0, 123, false, true) else if eqi 23 f = true then some (125, 0, 121, true, false) else Option.none) (0, 0, 0, false, false), Ev.isV (.pr (.int .i64) LAT7) (if eqi 1 f = true then some (2000, 0, 0, false, false) else if eqi 2 f = true then some (2000, 0, 0, false, false) else if eqi 3 f = true then some (125, 0, 0, false, false) else if eqi 4 f = true then some (125, 0, 0, false, false) else if eqi 5 f = true then some (0, 1, 0, false, false) else if eqi 6 f = true then some (0, 0, 1, false, false) else if eqi 15 f = true then some (1968, 1968, 0, false, true) else if eqi 16 f = true then some (123, 0, 123, false, true) else if eqi 23 f = true then some (125, 0, 121, true, false) else Option.none), ())
def ask_shape (x : As [.int .u8]) : Option (As [.pr (.int .i64) LAT7, .bool]) := ask_shape_m0 x.1
theorem ask_shape_c0 (J : Orc (As [.pr (.int .i64) LAT7, .bool])) (x : As [.int .u8]) : rfn Try.prog ask_shape_e 6 18446744073709551616 (Ev.get ask_shape_h) 35 ask_shape_s J x = ask_shape_m0 x.1 := by kernel_rfl
theorem ask_shape_t (x : As [.int .u8]) : evT Try.prog ask_shape_e 6 18446744073709551616 (Ev.get ask_shape_h) 35 ask_shape_s x = ask_shape x := by
  rw [rfn_eq, ask_shape_c0]
  rfl
theorem ask_shape_ok : CtOk Try.prog (fun _ => True) 35 ⟨ask_shape_s, ask_shape⟩ := ct_of_ev env_nil ask_shape_t
/-! ask_within -/
@[reducible] def ask_within_s : Sh := ⟨[.d (.int .i64), .d (.int .i64)], [], [.int .i64, .int .i64], [.d (.bool)], [], 0, [.bool]⟩
def ask_within_e : Env := (cts [])
def ask_within_h : List (Nat × Hint) := []
def ask_within_m0 (n : Int) (most : Int) : Option (As [.bool]) :=
  if eqi most 0 = true then some (eqi n 0, ()) else if ge n 1 = true then some (le n most, ()) else some (false, ())
def ask_within (x : As [.int .i64, .int .i64]) : Option (As [.bool]) := ask_within_m0 x.1 x.2.1
theorem ask_within_c0 (J : Orc (As [.bool])) (x : As [.int .i64, .int .i64]) : rfn Try.prog ask_within_e 6 18446744073709551616 (Ev.get ask_within_h) 36 ask_within_s J x = ask_within_m0 x.1 x.2.1 := by kernel_rfl
theorem ask_within_t (x : As [.int .i64, .int .i64]) : evT Try.prog ask_within_e 6 18446744073709551616 (Ev.get ask_within_h) 36 ask_within_s x = ask_within x := by
  rw [rfn_eq, ask_within_c0]
  rfl
theorem ask_within_ok : CtOk Try.prog (fun _ => True) 36 ⟨ask_within_s, ask_within⟩ := ct_of_ev env_nil ask_within_t
/-! ask_Right -/
@[reducible] def ask_Right_s : Sh := ⟨[.d (.pr (.int .u8) LAT2)], [], [.pr (.int .u8) LAT2], [.d (.bool)], [], 0, [.bool]⟩
def ask_Right_e : Env := (cts [(35, (⟨ask_shape_s, ask_shape⟩ : Ct)), (36, (⟨ask_within_s, ask_within⟩ : Ct))])
def ask_Right_h : List (Nat × Hint) := [(30, ⟨[], [1, 3, 47, 52, 53, 54, 55, 56, 57, 58, 59, 60, 61, 62]⟩), (14, ⟨[], [1, 3, 22, 31, 32, 33, 34, 35, 36, 37, 40, 41, 42, 43, 44, 45, 46, 52, 53, 54, 55, 56, 57, 58, 59, 60, 61, 62]⟩)]
def ask_Right_k1 (t22 : Bool) (a : Int) (a_2 : Int) (a_3 : Int) (a_4 : Int) (a_5 : List Int) (a_6 : List Bool) (s : Int) (s_2 : Int) (s_3 : Int) (s_4 : Bool) (s_5 : Bool) : St := { fr := [(1, .pb 0 0), (3, .pb 1 0), (22, .d .bool t22)], nt := 64, up := [], own := [(0, .box 26 [.d (.int .u8) a, .d (.int .u16) a_2, .d (.int .u16) a_3, .d (.int .u16) a_4, .d (.sl (.int .u16)) a_5, .d (.sl .bool) a_6]), (1, .box 81 [.d (.int .i64) s, .d (.int .i64) s_2, .d (.int .i64) s_3, .d .bool s_4, .d .bool s_5])], nx := 2, log := [], ln := 0 }
def ask_Right_k2 (t47 : Bool) (a : Int) (a_2 : Int) (a_3 : Int) (a_4 : Int) (a_5 : List Int) (a_6 : List Bool) (s : Int) (s_2 : Int) (s_3 : Int) (s_4 : Bool) (s_5 : Bool) : St := { fr := [(1, .pb 0 0), (3, .pb 1 0), (47, .d .bool t47)], nt := 64, up := [], own := [(0, .box 26 [.d (.int .u8) a, .d (.int .u16) a_2, .d (.int .u16) a_3, .d (.int .u16) a_4, .d (.sl (.int .u16)) a_5, .d (.sl .bool) a_6]), (1, .box 81 [.d (.int .i64) s, .d (.int .i64) s_2, .d (.int .i64) s_3, .d .bool s_4, .d .bool s_5])], nx := 2, log := [], ln := 0 }
def ask_Right_m1 (j2 : Bool → Int → Int → Int → Int → List Int → List Bool → Int → Int → Int → Bool → Bool → Option (As [.bool])) (t22 : Bool) (a : Int) (a_2 : Int) (a_3 : Int) (a_4 : Int) (a_5 : List Int) (a_6 : List Bool) (s : Int) (s_2 : Int) (s_3 : Int) (s_4 : Bool) (s_5 : Bool) : Option (As [.bool]) :=
  if t22 = true then some (false, ()) else Option.bind (ask_within (cvt .i64 a_3, s, ())) fun (y : Bool × Unit) => if (!y.fst) = true then j2 true a a_2 a_3 a_4 a_5 a_6 s s_2 s_3 s_4 s_5 else Option.bind (ask_within (Int.ofNat (List.length a_6), s_2, ())) fun (y : Bool × Unit) => if (!y.fst) = true then j2 true a a_2 a_3 a_4 a_5 a_6 s s_2 s_3 s_4 s_5 else Option.bind (ask_within (Int.ofNat (List.length a_5), s_3, ())) fun (y : Bool × Unit) => j2 (!y.fst) a a_2 a_3 a_4 a_5 a_6 s s_2 s_3 s_4 s_5
def ask_Right_m2 (t47 : Bool) (a : Int) (a_2 : Int) (a_3 : Int) (a_4 : Int) (a_5 : List Int) (a_6 : List Bool) (s : Int) (s_2 : Int) (s_3 : Int) (s_4 : Bool) (s_5 : Bool) : Option (As [.bool]) :=
  if t47 = true then some (false, ()) else if (!s_5) = true then some (true, ()) else some (eqi (add .i64 (Int.ofNat (List.length a_6)) (Int.ofNat (List.length a_5))) (cvt .i64 a_3), ())
def ask_Right_m0 (j1 : Bool → Int → Int → Int → Int → List Int → List Bool → Int → Int → Int → Bool → Bool → Option (As [.bool])) (a : Int × Int × Int × Int × List Int × List Bool) : Option (As [.bool]) :=
  Option.bind (ask_shape (a.fst, ())) fun (y : (Int × Int × Int × Bool × Bool) × Bool × Unit) => if (!y.snd.fst) = true then j1 true a.fst a.snd.fst a.snd.snd.fst a.snd.snd.snd.fst a.snd.snd.snd.snd.fst a.snd.snd.snd.snd.snd y.fst.fst y.fst.snd.fst y.fst.snd.snd.fst y.fst.snd.snd.snd.fst y.fst.snd.snd.snd.snd else if (!y.fst.snd.snd.snd.fst) = true then j1 (nei a.snd.snd.snd.fst 0) a.fst a.snd.fst a.snd.snd.fst a.snd.snd.snd.fst a.snd.snd.snd.snd.fst a.snd.snd.snd.snd.snd y.fst.fst y.fst.snd.fst y.fst.snd.snd.fst y.fst.snd.snd.snd.fst y.fst.snd.snd.snd.snd else j1 false a.fst a.snd.fst a.snd.snd.fst a.snd.snd.snd.fst a.snd.snd.snd.snd.fst a.snd.snd.snd.snd.snd y.fst.fst y.fst.snd.fst y.fst.snd.snd.fst y.fst.snd.snd.snd.fst y.fst.snd.snd.snd.snd
def ask_Right_K2 (t47 : Bool) (a : Int) (a_2 : Int) (a_3 : Int) (a_4 : Int) (a_5 : List Int) (a_6 : List Bool) (s : Int) (s_2 : Int) (s_3 : Int) (s_4 : Bool) (s_5 : Bool) : Option (As [.bool]) := ask_Right_m2 t47 a a_2 a_3 a_4 a_5 a_6 s s_2 s_3 s_4 s_5
def ask_Right_K1 (t22 : Bool) (a : Int) (a_2 : Int) (a_3 : Int) (a_4 : Int) (a_5 : List Int) (a_6 : List Bool) (s : Int) (s_2 : Int) (s_3 : Int) (s_4 : Bool) (s_5 : Bool) : Option (As [.bool]) := ask_Right_m1 (ask_Right_K2) t22 a a_2 a_3 a_4 a_5 a_6 s s_2 s_3 s_4 s_5
def ask_Right (x : As [.pr (.int .u8) LAT2]) : Option (As [.bool]) := ask_Right_m0 ask_Right_K1 x.1
theorem ask_Right_c2 (J : Orc (As [.bool])) (t47 : Bool) (a : Int) (a_2 : Int) (a_3 : Int) (a_4 : Int) (a_5 : List Int) (a_6 : List Bool) (s : Int) (s_2 : Int) (s_3 : Int) (s_4 : Bool) (s_5 : Bool) : pfn Try.prog ask_Right_e 6 18446744073709551616 (Ev.get ask_Right_h) 13 ask_Right_s J 30 [] (ask_Right_k2 t47 a a_2 a_3 a_4 a_5 a_6 s s_2 s_3 s_4 s_5) = ask_Right_m2 t47 a a_2 a_3 a_4 a_5 a_6 s s_2 s_3 s_4 s_5 := by kernel_rfl
theorem ask_Right_c1 (J : Orc (As [.bool])) (t22 : Bool) (a : Int) (a_2 : Int) (a_3 : Int) (a_4 : Int) (a_5 : List Int) (a_6 : List Bool) (s : Int) (s_2 : Int) (s_3 : Int) (s_4 : Bool) (s_5 : Bool) : pfn Try.prog ask_Right_e 6 18446744073709551616 (Ev.get ask_Right_h) 13 ask_Right_s J 14 [] (ask_Right_k1 t22 a a_2 a_3 a_4 a_5 a_6 s s_2 s_3 s_4 s_5) = ask_Right_m1 (fun t47 a a_2 a_3 a_4 a_5 a_6 s s_2 s_3 s_4 s_5 => J 30 [] (ask_Right_k2 t47 a a_2 a_3 a_4 a_5 a_6 s s_2 s_3 s_4 s_5)) t22 a a_2 a_3 a_4 a_5 a_6 s s_2 s_3 s_4 s_5 := by kernel_rfl
theorem ask_Right_c0 (J : Orc (As [.bool])) (x : As [.pr (.int .u8) LAT2]) : rfn Try.prog ask_Right_e 6 18446744073709551616 (Ev.get ask_Right_h) 13 ask_Right_s J x = ask_Right_m0 (fun t22 a a_2 a_3 a_4 a_5 a_6 s s_2 s_3 s_4 s_5 => J 14 [] (ask_Right_k1 t22 a a_2 a_3 a_4 a_5 a_6 s s_2 s_3 s_4 s_5)) x.1 := by kernel_rfl
theorem ask_Right_g2 (t47 : Bool) (a : Int) (a_2 : Int) (a_3 : Int) (a_4 : Int) (a_5 : List Int) (a_6 : List Bool) (s : Int) (s_2 : Int) (s_3 : Int) (s_4 : Bool) (s_5 : Bool) : jfn Try.prog ask_Right_e 6 18446744073709551616 (Ev.get ask_Right_h) 13 ask_Right_s 30 [] (ask_Right_k2 t47 a a_2 a_3 a_4 a_5 a_6 s s_2 s_3 s_4 s_5) = ask_Right_K2 t47 a a_2 a_3 a_4 a_5 a_6 s s_2 s_3 s_4 s_5 := by
  rw [pfn_eq (by decide)]
  rw [ask_Right_c2]
  rfl
theorem ask_Right_g1 (t22 : Bool) (a : Int) (a_2 : Int) (a_3 : Int) (a_4 : Int) (a_5 : List Int) (a_6 : List Bool) (s : Int) (s_2 : Int) (s_3 : Int) (s_4 : Bool) (s_5 : Bool) : jfn Try.prog ask_Right_e 6 18446744073709551616 (Ev.get ask_Right_h) 13 ask_Right_s 14 [] (ask_Right_k1 t22 a a_2 a_3 a_4 a_5 a_6 s s_2 s_3 s_4 s_5) = ask_Right_K1 t22 a a_2 a_3 a_4 a_5 a_6 s s_2 s_3 s_4 s_5 := by
  rw [pfn_eq (by decide)]
  have e2 : (fun t47 a a_2 a_3 a_4 a_5 a_6 s s_2 s_3 s_4 s_5 => (jfn Try.prog ask_Right_e 6 18446744073709551616 (Ev.get ask_Right_h) 13 ask_Right_s) 30 [] (ask_Right_k2 t47 a a_2 a_3 a_4 a_5 a_6 s s_2 s_3 s_4 s_5)) = ask_Right_K2 := funext fun t47 => funext fun a => funext fun a_2 => funext fun a_3 => funext fun a_4 => funext fun a_5 => funext fun a_6 => funext fun s => funext fun s_2 => funext fun s_3 => funext fun s_4 => funext fun s_5 => ask_Right_g2 t47 a a_2 a_3 a_4 a_5 a_6 s s_2 s_3 s_4 s_5
  rw [ask_Right_c1, e2]
  rfl
theorem ask_Right_t (x : As [.pr (.int .u8) LAT2]) : evT Try.prog ask_Right_e 6 18446744073709551616 (Ev.get ask_Right_h) 13 ask_Right_s x = ask_Right x := by
  have e1 : (fun t22 a a_2 a_3 a_4 a_5 a_6 s s_2 s_3 s_4 s_5 => (jfn Try.prog ask_Right_e 6 18446744073709551616 (Ev.get ask_Right_h) 13 ask_Right_s) 14 [] (ask_Right_k1 t22 a a_2 a_3 a_4 a_5 a_6 s s_2 s_3 s_4 s_5)) = ask_Right_K1 := funext fun t22 => funext fun a => funext fun a_2 => funext fun a_3 => funext fun a_4 => funext fun a_5 => funext fun a_6 => funext fun s => funext fun s_2 => funext fun s_3 => funext fun s_4 => funext fun s_5 => ask_Right_g1 t22 a a_2 a_3 a_4 a_5 a_6 s s_2 s_3 s_4 s_5
  rw [rfn_eq, ask_Right_c0, e1]
  rfl
theorem ask_Right_ok : CtOk Try.prog (fun _ => True) 13 ⟨ask_Right_s, ask_Right⟩ := ct_of_ev (env_cons ask_shape_ok (env_cons ask_within_ok env_nil)) ask_Right_t
/-! ask_numbers -/
@[reducible] def ask_numbers_s : Sh := ⟨[.row 0, .d (.sl (.int .u16))], [.row (.int .u8) 5], [.sl (.int .u16), .sl (.int .u8)], [.row 1], [(1, .row (.int .u8) 5)], 1, [.sl (.int .u8)]⟩
def ask_numbers_e : Env := (cts [])
def ask_numbers_h : List (Nat × Hint) := [(26, ⟨[.unl 0], [0, 7, 8, 9]⟩)]
def ask_numbers_k1 (t7 : List Int) (t8 : Int) (t9 : Int) (out : List Int) : St := { fr := [(0, .row 1), (7, .d (.sl (.int .u16)) t7), (8, .d (.int .i64) t8), (9, .d (.int .i64) t9)], nt := 23, up := [], own := [(1, .row (.int .u8) 5 out)], nx := 2, log := [], ln := 1 }
def ask_numbers_m1 (self1 : List Int → Int → Int → List Int → Option (As [.sl (.int .u8)])) (t7 : List Int) (t8 : Int) (t9 : Int) (out : List Int) : Option (As [.sl (.int .u8)]) :=
  if lt t9 t8 = true then Option.bind (at? t7 t9) fun (y : Int) => need (small (List.length out + 2)) (self1 t7 t8 (add .i64 t9 1) (out ++ [cvt .u8 (Sx.shr .u16 y 8), cvt .u8 y])) else some (out, ())
def ask_numbers_m0 (j1 : List Int → Int → Int → List Int → Option (As [.sl (.int .u8)])) (out : List Int) (l : List Int) : Option (As [.sl (.int .u8)]) :=
  j1 out (Int.ofNat (List.length out)) 0 l
def ask_numbers_K1 (t7 : List Int) (t8 : Int) (t9 : Int) (out : List Int) : Option (As [.sl (.int .u8)]) :=
  loopF (fun (self : (List Int) × (Int) × (Int) × (List Int) → Option (As [.sl (.int .u8)])) (s : (List Int) × (Int) × (Int) × (List Int)) => ask_numbers_m1 (fun t7 t8 t9 out => self (t7, t8, t9, out)) s.1 s.2.1 s.2.2.1 s.2.2.2) 18446744073709551616 (t7, t8, t9, out)
def ask_numbers (x : As [.sl (.int .u16), .sl (.int .u8)]) : Option (As [.sl (.int .u8)]) := ask_numbers_m0 ask_numbers_K1 x.1 x.2.1
theorem ask_numbers_c1 (J : Orc (As [.sl (.int .u8)])) (w1 : St → Option (As [.sl (.int .u8)])) (t7 : List Int) (t8 : Int) (t9 : Int) (out : List Int) : pfn Try.prog ask_numbers_e 6 18446744073709551616 (Ev.get ask_numbers_h) 60 ask_numbers_s J 26 [w1] (ask_numbers_k1 t7 t8 t9 out) = ask_numbers_m1 (fun t7 t8 t9 out => w1 (ask_numbers_k1 t7 t8 t9 out)) t7 t8 t9 out := by kernel_rfl
theorem ask_numbers_c0 (J : Orc (As [.sl (.int .u8)])) (x : As [.sl (.int .u16), .sl (.int .u8)]) : rfn Try.prog ask_numbers_e 6 18446744073709551616 (Ev.get ask_numbers_h) 60 ask_numbers_s J x = ask_numbers_m0 (fun t7 t8 t9 out => J 26 [] (ask_numbers_k1 t7 t8 t9 out)) x.1 x.2.1 := by kernel_rfl
theorem ask_numbers_g1 (t7 : List Int) (t8 : Int) (t9 : Int) (out : List Int) : jfn Try.prog ask_numbers_e 6 18446744073709551616 (Ev.get ask_numbers_h) 60 ask_numbers_s 26 [] (ask_numbers_k1 t7 t8 t9 out) = ask_numbers_K1 t7 t8 t9 out := by
  rw [pfn_eq (by decide)]
  rw [pfn_loop (by kernel_rfl)]
  refine loopF_sim (σ := (List Int) × (Int) × (Int) × (List Int)) (mk := fun s => ask_numbers_k1 s.1 s.2.1 s.2.2.1 s.2.2.2) (fun w1 s => ?_) 18446744073709551616 (t7, t8, t9, out)
  refine (ask_numbers_c1 _ w1 s.1 s.2.1 s.2.2.1 s.2.2.2).trans ?_
  rfl
theorem ask_numbers_t (x : As [.sl (.int .u16), .sl (.int .u8)]) : evT Try.prog ask_numbers_e 6 18446744073709551616 (Ev.get ask_numbers_h) 60 ask_numbers_s x = ask_numbers x := by
  have e1 : (fun t7 t8 t9 out => (jfn Try.prog ask_numbers_e 6 18446744073709551616 (Ev.get ask_numbers_h) 60 ask_numbers_s) 26 [] (ask_numbers_k1 t7 t8 t9 out)) = ask_numbers_K1 := funext fun t7 => funext fun t8 => funext fun t9 => funext fun out => ask_numbers_g1 t7 t8 t9 out
  rw [rfn_eq, ask_numbers_c0, e1]
  rfl
theorem ask_numbers_ok : CtOk Try.prog (fun _ => True) 60 ⟨ask_numbers_s, ask_numbers⟩ := ct_of_ev env_nil ask_numbers_t
/-! ask_Pack -/
@[reducible] def ask_Pack_s : Sh := ⟨[.d (.sl .bool)], [], [.sl .bool], [.d (.sl (.int .u8))], [], 0, [.sl (.int .u8)]⟩
def ask_Pack_e : Env := (cts [])
def ask_Pack_h : List (Nat × Hint) := [(7, ⟨[], [0, 3]⟩), (250, ⟨[], [4, 18, 19, 20]⟩)]
def ask_Pack_k1 (bits : List Bool) (n : Int) : St := { fr := [(0, .d (.sl .bool) bits), (3, .d (.int .i64) n)], nt := 38, up := [], own := [], nx := 0, log := [], ln := 0 }
def ask_Pack_k2 (t18 : List Bool) (t19 : Int) (t20 : Int) (out : List Int) : St := { fr := [(4, .row 0), (18, .d (.sl .bool) t18), (19, .d (.int .i64) t19), (20, .d (.int .i64) t20)], nt := 38, up := [], own := [(0, .row (.int .u8) 5 out)], nx := 1, log := [], ln := 0 }
def ask_Pack_m1 (j2 : List Bool → Int → Int → List Int → Option (As [.sl (.int .u8)])) (bits : List Bool) (n : Int) : Option (As [.sl (.int .u8)]) :=
  need (ge n 0) (need (Ev.capOk n n) (need (small (Int.toNat n)) (j2 bits (Int.ofNat (List.length bits)) 0 (List.replicate (Int.toNat n) 0))))
def ask_Pack_m2 (self2 : List Bool → Int → Int → List Int → Option (As [.sl (.int .u8)])) (t18 : List Bool) (t19 : Int) (t20 : Int) (out : List Int) : Option (As [.sl (.int .u8)]) :=
  if lt t20 t19 = true then Option.bind (at? t18 t20) fun (y : Bool) => if y = true then Option.bind (at? out (quo .i64 t20 8)) fun (x : Int) => Option.bind (at? out (quo .i64 t20 8)) fun (y : Int) => need (ge (rem t20 8) 0) (Option.bind (at? out (quo .i64 t20 8)) fun (x : Int) => Option.bind (at? out (quo .i64 t20 8)) fun (x : Int) => self2 t18 t19 (add .i64 t20 1) (List.set out (Int.toNat (quo .i64 t20 8)) (Sx.bor .u8 y (Sx.shl .u8 1 (rem t20 8))))) else self2 t18 t19 (add .i64 t20 1) out else some (out, ())
def ask_Pack_m0 (j1 : List Bool → Int → Option (As [.sl (.int .u8)])) (bits : List Bool) : Option (As [.sl (.int .u8)]) :=
  if gt (Int.ofNat (List.length bits % 8)) 0 = true then j1 bits (add .i64 (quo .i64 (Int.ofNat (List.length bits)) 8) 1) else j1 bits (quo .i64 (Int.ofNat (List.length bits)) 8)
def ask_Pack_K2 (t18 : List Bool) (t19 : Int) (t20 : Int) (out : List Int) : Option (As [.sl (.int .u8)]) :=
  loopF (fun (self : (List Bool) × (Int) × (Int) × (List Int) → Option (As [.sl (.int .u8)])) (s : (List Bool) × (Int) × (Int) × (List Int)) => ask_Pack_m2 (fun t18 t19 t20 out => self (t18, t19, t20, out)) s.1 s.2.1 s.2.2.1 s.2.2.2) 18446744073709551616 (t18, t19, t20, out)
def ask_Pack_K1 (bits : List Bool) (n : Int) : Option (As [.sl (.int .u8)]) := ask_Pack_m1 (ask_Pack_K2) bits n
def ask_Pack (x : As [.sl .bool]) : Option (As [.sl (.int .u8)]) := ask_Pack_m0 ask_Pack_K1 x.1
theorem ask_Pack_c2 (J : Orc (As [.sl (.int .u8)])) (w2 : St → Option (As [.sl (.int .u8)])) (t18 : List Bool) (t19 : Int) (t20 : Int) (out : List Int) : pfn Try.prog ask_Pack_e 6 18446744073709551616 (Ev.get ask_Pack_h) 61 ask_Pack_s J 250 [w2] (ask_Pack_k2 t18 t19 t20 out) = ask_Pack_m2 (fun t18 t19 t20 out => w2 (ask_Pack_k2 t18 t19 t20 out)) t18 t19 t20 out := by kernel_rfl
theorem ask_Pack_c1 (J : Orc (As [.sl (.int .u8)])) (bits : List Bool) (n : Int) : pfn Try.prog ask_Pack_e 6 18446744073709551616 (Ev.get ask_Pack_h) 61 ask_Pack_s J 7 [] (ask_Pack_k1 bits n) = ask_Pack_m1 (fun t18 t19 t20 out => J 250 [] (ask_Pack_k2 t18 t19 t20 out)) bits n := by kernel_rfl
theorem ask_Pack_c0 (J : Orc (As [.sl (.int .u8)])) (x : As [.sl .bool]) : rfn Try.prog ask_Pack_e 6 18446744073709551616 (Ev.get ask_Pack_h) 61 ask_Pack_s J x = ask_Pack_m0 (fun bits n => J 7 [] (ask_Pack_k1 bits n)) x.1 := by kernel_rfl
theorem ask_Pack_g2 (t18 : List Bool) (t19 : Int) (t20 : Int) (out : List Int) : jfn Try.prog ask_Pack_e 6 18446744073709551616 (Ev.get ask_Pack_h) 61 ask_Pack_s 250 [] (ask_Pack_k2 t18 t19 t20 out) = ask_Pack_K2 t18 t19 t20 out := by
  rw [pfn_eq (by decide)]
  rw [pfn_loop (by kernel_rfl)]
  refine loopF_sim (σ := (List Bool) × (Int) × (Int) × (List Int)) (mk := fun s => ask_Pack_k2 s.1 s.2.1 s.2.2.1 s.2.2.2) (fun w2 s => ?_) 18446744073709551616 (t18, t19, t20, out)
  refine (ask_Pack_c2 _ w2 s.1 s.2.1 s.2.2.1 s.2.2.2).trans ?_
  rfl
theorem ask_Pack_g1 (bits : List Bool) (n : Int) : jfn Try.prog ask_Pack_e 6 18446744073709551616 (Ev.get ask_Pack_h) 61 ask_Pack_s 7 [] (ask_Pack_k1 bits n) = ask_Pack_K1 bits n := by
  rw [pfn_eq (by decide)]
  have e2 : (fun t18 t19 t20 out => (jfn Try.prog ask_Pack_e 6 18446744073709551616 (Ev.get ask_Pack_h) 61 ask_Pack_s) 250 [] (ask_Pack_k2 t18 t19 t20 out)) = ask_Pack_K2 := funext fun t18 => funext fun t19 => funext fun t20 => funext fun out => ask_Pack_g2 t18 t19 t20 out
  rw [ask_Pack_c1, e2]
  rfl
theorem ask_Pack_t (x : As [.sl .bool]) : evT Try.prog ask_Pack_e 6 18446744073709551616 (Ev.get ask_Pack_h) 61 ask_Pack_s x = ask_Pack x := by
  have e1 : (fun bits n => (jfn Try.prog ask_Pack_e 6 18446744073709551616 (Ev.get ask_Pack_h) 61 ask_Pack_s) 7 [] (ask_Pack_k1 bits n)) = ask_Pack_K1 := funext fun bits => funext fun n => ask_Pack_g1 bits n
  rw [rfn_eq, ask_Pack_c0, e1]
  rfl
theorem ask_Pack_ok : CtOk Try.prog (fun _ => True) 61 ⟨ask_Pack_s, ask_Pack⟩ := ct_of_ev env_nil ask_Pack_t
/-! ask_Bytes -/
@[reducible] def ask_Bytes_s : Sh := ⟨[.d (.pr (.int .u8) LAT2)], [], [.pr (.int .u8) LAT2], [.d (.sl (.int .u8)), .d (.int .i64)], [], 0, [.sl (.int .u8), .int .i64]⟩
def ask_Bytes_e : Env := (cts [(13, (⟨ask_Right_s, ask_Right⟩ : Ct)), (35, (⟨ask_shape_s, ask_shape⟩ : Ct)), (60, (⟨ask_numbers_s, ask_numbers⟩ : Ct)), (61, (⟨ask_Pack_s, ask_Pack⟩ : Ct))])
def ask_Bytes_h : List (Nat × Hint) := [(31, ⟨[], [1, 4, 6, 48, 49, 50, 51]⟩), (63, ⟨[], [1, 4, 6, 48, 49, 50, 51]⟩), (127, ⟨[], [6]⟩), (508, ⟨[], [1, 4, 6, 43]⟩)]
def ask_Bytes_k1 (a : Int) (a_2 : Int) (a_3 : Int) (a_4 : Int) (a_5 : List Int) (a_6 : List Bool) (s : Int) (s_2 : Int) (s_3 : Int) (s_4 : Bool) (s_5 : Bool) (out : List Int) : St := { fr := [(1, .pb 0 0), (4, .pb 1 0), (6, .row 2)], nt := 102, up := [], own := [(0, .box 26 [.d (.int .u8) a, .d (.int .u16) a_2, .d (.int .u16) a_3, .d (.int .u16) a_4, .d (.sl (.int .u16)) a_5, .d (.sl .bool) a_6]), (1, .box 81 [.d (.int .i64) s, .d (.int .i64) s_2, .d (.int .i64) s_3, .d .bool s_4, .d .bool s_5]), (2, .row (.int .u8) 5 out)], nx := 3, log := [], ln := 0 }
def ask_Bytes_k2 (a : Int) (a_2 : Int) (a_3 : Int) (a_4 : Int) (a_5 : List Int) (a_6 : List Bool) (s : Int) (s_2 : Int) (s_3 : Int) (s_4 : Bool) (s_5 : Bool) (out : List Int) : St := { fr := [(1, .pb 0 0), (4, .pb 1 0), (6, .row 2)], nt := 102, up := [], own := [(0, .box 26 [.d (.int .u8) a, .d (.int .u16) a_2, .d (.int .u16) a_3, .d (.int .u16) a_4, .d (.sl (.int .u16)) a_5, .d (.sl .bool) a_6]), (1, .box 81 [.d (.int .i64) s, .d (.int .i64) s_2, .d (.int .i64) s_3, .d .bool s_4, .d .bool s_5]), (2, .row (.int .u8) 5 out)], nx := 3, log := [], ln := 0 }
def ask_Bytes_k3 (t43 : Bool) (a : Int) (a_2 : Int) (a_3 : Int) (a_4 : Int) (a_5 : List Int) (a_6 : List Bool) (s : Int) (s_2 : Int) (s_3 : Int) (s_4 : Bool) (s_5 : Bool) (out : List Int) : St := { fr := [(1, .pb 0 0), (4, .pb 1 0), (6, .row 2), (43, .d .bool t43)], nt := 102, up := [], own := [(0, .box 26 [.d (.int .u8) a, .d (.int .u16) a_2, .d (.int .u16) a_3, .d (.int .u16) a_4, .d (.sl (.int .u16)) a_5, .d (.sl .bool) a_6]), (1, .box 81 [.d (.int .i64) s, .d (.int .i64) s_2, .d (.int .i64) s_3, .d .bool s_4, .d .bool s_5]), (2, .row (.int .u8) 5 out)], nx := 3, log := [], ln := 0 }
def ask_Bytes_k4 (out : List Int) : St := { fr := [(6, .row 0)], nt := 102, up := [], own := [(0, .row (.int .u8) 5 out)], nx := 1, log := [], ln := 0 }
def ask_Bytes_m1 (j2 : Int → Int → Int → Int → List Int → List Bool → Int → Int → Int → Bool → Bool → List Int → Option (As [.sl (.int .u8), .int .i64])) (a : Int) (a_2 : Int) (a_3 : Int) (a_4 : Int) (a_5 : List Int) (a_6 : List Bool) (s : Int) (s_2 : Int) (s_3 : Int) (s_4 : Bool) (s_5 : Bool) (out : List Int) : Option (As [.sl (.int .u8), .int .i64]) :=
  if s_4 = true then Option.bind (ask_numbers ([a_4, Int.ofNat (List.length a_5 % 65536)], out, ())) fun (y : List Int × Unit) => j2 a a_2 a_3 a_4 a_5 a_6 s s_2 s_3 s_4 s_5 y.fst else j2 a a_2 a_3 a_4 a_5 a_6 s s_2 s_3 s_4 s_5 out
def ask_Bytes_m2 (j3 : Bool → Int → Int → Int → Int → List Int → List Bool → Int → Int → Int → Bool → Bool → List Int → Option (As [.sl (.int .u8), .int .i64])) (a : Int) (a_2 : Int) (a_3 : Int) (a_4 : Int) (a_5 : List Int) (a_6 : List Bool) (s : Int) (s_2 : Int) (s_3 : Int) (s_4 : Bool) (s_5 : Bool) (out : List Int) : Option (As [.sl (.int .u8), .int .i64]) :=
  if eqi a 5 = true then Option.bind (at? a_6 0) fun (y : Bool) => j3 y a a_2 a_3 a_4 a_5 a_6 s s_2 s_3 s_4 s_5 out else j3 false a a_2 a_3 a_4 a_5 a_6 s s_2 s_3 s_4 s_5 out
def ask_Bytes_m3 (j4 : List Int → Option (As [.sl (.int .u8), .int .i64])) (t43 : Bool) (a : Int) (a_2 : Int) (a_3 : Int) (a_4 : Int) (a_5 : List Int) (a_6 : List Bool) (s : Int) (s_2 : Int) (s_3 : Int) (s_4 : Bool) (s_5 : Bool) (out : List Int) : Option (As [.sl (.int .u8), .int .i64]) :=
  if t43 = true then Option.bind (ask_numbers ([65280], out, ())) fun (y : List Int × Unit) => j4 y.fst else if eqi a 5 = true then Option.bind (ask_numbers ([0], out, ())) fun (y : List Int × Unit) => j4 y.fst else if eqi a 6 = true then Option.bind (ask_numbers (a_5, out, ())) fun (y : List Int × Unit) => j4 y.fst else if gt s_2 0 = true then Option.bind (ask_Pack (a_6, ())) fun (y : List Int × Unit) => need (small (List.length out + 1)) (need (small (List.length (out ++ [Int.ofNat (List.length y.fst % 256)]) + List.length y.fst)) (j4 (out ++ [Int.ofNat (List.length y.fst % 256)] ++ y.fst))) else if gt s_3 0 = true then need (small (List.length out + 1)) (Option.bind (ask_numbers (a_5, out ++ [cvt .u8 (mul .i64 2 (Int.ofNat (List.length a_5)))], ())) fun (y : List Int × Unit) => j4 y.fst) else j4 out
def ask_Bytes_m4 (out : List Int) : Option (As [.sl (.int .u8), .int .i64]) :=
  some (out, 0, ())
def ask_Bytes_m0 (j1 : Int → Int → Int → Int → List Int → List Bool → Int → Int → Int → Bool → Bool → List Int → Option (As [.sl (.int .u8), .int .i64])) (a : Int × Int × Int × Int × List Int × List Bool) : Option (As [.sl (.int .u8), .int .i64]) :=
  Option.bind (ask_Right (a, ())) fun (y : Bool × Unit) => if (!y.fst) = true then some ([], 12, ()) else Option.bind (ask_shape (a.fst, ())) fun (y : (Int × Int × Int × Bool × Bool) × Bool × Unit) => Option.bind (ask_numbers ([a.snd.fst], [a.fst], ())) fun (y_1 : List Int × Unit) => if gt y.fst.fst 0 = true then Option.bind (ask_numbers ([a.snd.snd.fst], y_1.fst, ())) fun (y_2 : List Int × Unit) => j1 a.fst a.snd.fst a.snd.snd.fst a.snd.snd.snd.fst a.snd.snd.snd.snd.fst a.snd.snd.snd.snd.snd y.fst.fst y.fst.snd.fst y.fst.snd.snd.fst y.fst.snd.snd.snd.fst y.fst.snd.snd.snd.snd y_2.fst else j1 a.fst a.snd.fst a.snd.snd.fst a.snd.snd.snd.fst a.snd.snd.snd.snd.fst a.snd.snd.snd.snd.snd y.fst.fst y.fst.snd.fst y.fst.snd.snd.fst y.fst.snd.snd.snd.fst y.fst.snd.snd.snd.snd y_1.fst
def ask_Bytes_K4 (out : List Int) : Option (As [.sl (.int .u8), .int .i64]) := ask_Bytes_m4 out
def ask_Bytes_K3 (t43 : Bool) (a : Int) (a_2 : Int) (a_3 : Int) (a_4 : Int) (a_5 : List Int) (a_6 : List Bool) (s : Int) (s_2 : Int) (s_3 : Int) (s_4 : Bool) (s_5 : Bool) (out : List Int) : Option (As [.sl (.int .u8), .int .i64]) := ask_Bytes_m3 (ask_Bytes_K4) t43 a a_2 a_3 a_4 a_5 a_6 s s_2 s_3 s_4 s_5 out
def ask_Bytes_K2 (a : Int) (a_2 : Int) (a_3 : Int) (a_4 : Int) (a_5 : List Int) (a_6 : List Bool) (s : Int) (s_2 : Int) (s_3 : Int) (s_4 : Bool) (s_5 : Bool) (out : List Int) : Option (As [.sl (.int .u8), .int .i64]) := ask_Bytes_m2 (ask_Bytes_K3) a a_2 a_3 a_4 a_5 a_6 s s_2 s_3 s_4 s_5 out
def ask_Bytes_K1 (a : Int) (a_2 : Int) (a_3 : Int) (a_4 : Int) (a_5 : List Int) (a_6 : List Bool) (s : Int) (s_2 : Int) (s_3 : Int) (s_4 : Bool) (s_5 : Bool) (out : List Int) : Option (As [.sl (.int .u8), .int .i64]) := ask_Bytes_m1 (ask_Bytes_K2) a a_2 a_3 a_4 a_5 a_6 s s_2 s_3 s_4 s_5 out
def ask_Bytes (x : As [.pr (.int .u8) LAT2]) : Option (As [.sl (.int .u8), .int .i64]) := ask_Bytes_m0 ask_Bytes_K1 x.1
theorem ask_Bytes_c4 (J : Orc (As [.sl (.int .u8), .int .i64])) (out : List Int) : pfn Try.prog ask_Bytes_e 6 18446744073709551616 (Ev.get ask_Bytes_h) 50 ask_Bytes_s J 127 [] (ask_Bytes_k4 out) = ask_Bytes_m4 out := by kernel_rfl
theorem ask_Bytes_c3 (J : Orc (As [.sl (.int .u8), .int .i64])) (t43 : Bool) (a : Int) (a_2 : Int) (a_3 : Int) (a_4 : Int) (a_5 : List Int) (a_6 : List Bool) (s : Int) (s_2 : Int) (s_3 : Int) (s_4 : Bool) (s_5 : Bool) (out : List Int) : pfn Try.prog ask_Bytes_e 6 18446744073709551616 (Ev.get ask_Bytes_h) 50 ask_Bytes_s J 508 [] (ask_Bytes_k3 t43 a a_2 a_3 a_4 a_5 a_6 s s_2 s_3 s_4 s_5 out) = ask_Bytes_m3 (fun out => J 127 [] (ask_Bytes_k4 out)) t43 a a_2 a_3 a_4 a_5 a_6 s s_2 s_3 s_4 s_5 out := by kernel_rfl
theorem ask_Bytes_c2 (J : Orc (As [.sl (.int .u8), .int .i64])) (a : Int) (a_2 : Int) (a_3 : Int) (a_4 : Int) (a_5 : List Int) (a_6 : List Bool) (s : Int) (s_2 : Int) (s_3 : Int) (s_4 : Bool) (s_5 : Bool) (out : List Int) : pfn Try.prog ask_Bytes_e 6 18446744073709551616 (Ev.get ask_Bytes_h) 50 ask_Bytes_s J 63 [] (ask_Bytes_k2 a a_2 a_3 a_4 a_5 a_6 s s_2 s_3 s_4 s_5 out) = ask_Bytes_m2 (fun t43 a a_2 a_3 a_4 a_5 a_6 s s_2 s_3 s_4 s_5 out => J 508 [] (ask_Bytes_k3 t43 a a_2 a_3 a_4 a_5 a_6 s s_2 s_3 s_4 s_5 out)) a a_2 a_3 a_4 a_5 a_6 s s_2 s_3 s_4 s_5 out := by kernel_rfl
theorem ask_Bytes_c1 (J : Orc (As [.sl (.int .u8), .int .i64])) (a : Int) (a_2 : Int) (a_3 : Int) (a_4 : Int) (a_5 : List Int) (a_6 : List Bool) (s : Int) (s_2 : Int) (s_3 : Int) (s_4 : Bool) (s_5 : Bool) (out : List Int) : pfn Try.prog ask_Bytes_e 6 18446744073709551616 (Ev.get ask_Bytes_h) 50 ask_Bytes_s J 31 [] (ask_Bytes_k1 a a_2 a_3 a_4 a_5 a_6 s s_2 s_3 s_4 s_5 out) = ask_Bytes_m1 (fun a a_2 a_3 a_4 a_5 a_6 s s_2 s_3 s_4 s_5 out => J 63 [] (ask_Bytes_k2 a a_2 a_3 a_4 a_5 a_6 s s_2 s_3 s_4 s_5 out)) a a_2 a_3 a_4 a_5 a_6 s s_2 s_3 s_4 s_5 out := by kernel_rfl
theorem ask_Bytes_c0 (J : Orc (As [.sl (.int .u8), .int .i64])) (x : As [.pr (.int .u8) LAT2]) : rfn Try.prog ask_Bytes_e 6 18446744073709551616 (Ev.get ask_Bytes_h) 50 ask_Bytes_s J x = ask_Bytes_m0 (fun a a_2 a_3 a_4 a_5 a_6 s s_2 s_3 s_4 s_5 out => J 31 [] (ask_Bytes_k1 a a_2 a_3 a_4 a_5 a_6 s s_2 s_3 s_4 s_5 out)) x.1 := by kernel_rfl
theorem ask_Bytes_g4 (out : List Int) : jfn Try.prog ask_Bytes_e 6 18446744073709551616 (Ev.get ask_Bytes_h) 50 ask_Bytes_s 127 [] (ask_Bytes_k4 out) = ask_Bytes_K4 out := by
  rw [pfn_eq (by decide)]
  rw [ask_Bytes_c4]
  rfl
theorem ask_Bytes_g3 (t43 : Bool) (a : Int) (a_2 : Int) (a_3 : Int) (a_4 : Int) (a_5 : List Int) (a_6 : List Bool) (s : Int) (s_2 : Int) (s_3 : Int) (s_4 : Bool) (s_5 : Bool) (out : List Int) : jfn Try.prog ask_Bytes_e 6 18446744073709551616 (Ev.get ask_Bytes_h) 50 ask_Bytes_s 508 [] (ask_Bytes_k3 t43 a a_2 a_3 a_4 a_5 a_6 s s_2 s_3 s_4 s_5 out) = ask_Bytes_K3 t43 a a_2 a_3 a_4 a_5 a_6 s s_2 s_3 s_4 s_5 out := by
  rw [pfn_eq (by decide)]
  have e4 : (fun out => (jfn Try.prog ask_Bytes_e 6 18446744073709551616 (Ev.get ask_Bytes_h) 50 ask_Bytes_s) 127 [] (ask_Bytes_k4 out)) = ask_Bytes_K4 := funext fun out => ask_Bytes_g4 out
  rw [ask_Bytes_c3, e4]
  rfl
theorem ask_Bytes_g2 (a : Int) (a_2 : Int) (a_3 : Int) (a_4 : Int) (a_5 : List Int) (a_6 : List Bool) (s : Int) (s_2 : Int) (s_3 : Int) (s_4 : Bool) (s_5 : Bool) (out : List Int) : jfn Try.prog ask_Bytes_e 6 18446744073709551616 (Ev.get ask_Bytes_h) 50 ask_Bytes_s 63 [] (ask_Bytes_k2 a a_2 a_3 a_4 a_5 a_6 s s_2 s_3 s_4 s_5 out) = ask_Bytes_K2 a a_2 a_3 a_4 a_5 a_6 s s_2 s_3 s_4 s_5 out := by
  rw [pfn_eq (by decide)]
  have e3 : (fun t43 a a_2 a_3 a_4 a_5 a_6 s s_2 s_3 s_4 s_5 out => (jfn Try.prog ask_Bytes_e 6 18446744073709551616 (Ev.get ask_Bytes_h) 50 ask_Bytes_s) 508 [] (ask_Bytes_k3 t43 a a_2 a_3 a_4 a_5 a_6 s s_2 s_3 s_4 s_5 out)) = ask_Bytes_K3 := funext fun t43 => funext fun a => funext fun a_2 => funext fun a_3 => funext fun a_4 => funext fun a_5 => funext fun a_6 => funext fun s => funext fun s_2 => funext fun s_3 => funext fun s_4 => funext fun s_5 => funext fun out => ask_Bytes_g3 t43 a a_2 a_3 a_4 a_5 a_6 s s_2 s_3 s_4 s_5 out
  rw [ask_Bytes_c2, e3]
  rfl
theorem ask_Bytes_g1 (a : Int) (a_2 : Int) (a_3 : Int) (a_4 : Int) (a_5 : List Int) (a_6 : List Bool) (s : Int) (s_2 : Int) (s_3 : Int) (s_4 : Bool) (s_5 : Bool) (out : List Int) : jfn Try.prog ask_Bytes_e 6 18446744073709551616 (Ev.get ask_Bytes_h) 50 ask_Bytes_s 31 [] (ask_Bytes_k1 a a_2 a_3 a_4 a_5 a_6 s s_2 s_3 s_4 s_5 out) = ask_Bytes_K1 a a_2 a_3 a_4 a_5 a_6 s s_2 s_3 s_4 s_5 out := by
  rw [pfn_eq (by decide)]
  have e2 : (fun a a_2 a_3 a_4 a_5 a_6 s s_2 s_3 s_4 s_5 out => (jfn Try.prog ask_Bytes_e 6 18446744073709551616 (Ev.get ask_Bytes_h) 50 ask_Bytes_s) 63 [] (ask_Bytes_k2 a a_2 a_3 a_4 a_5 a_6 s s_2 s_3 s_4 s_5 out)) = ask_Bytes_K2 := funext fun a => funext fun a_2 => funext fun a_3 => funext fun a_4 => funext fun a_5 => funext fun a_6 => funext fun s => funext fun s_2 => funext fun s_3 => funext fun s_4 => funext fun s_5 => funext fun out => ask_Bytes_g2 a a_2 a_3 a_4 a_5 a_6 s s_2 s_3 s_4 s_5 out
  rw [ask_Bytes_c1, e2]
  rfl
theorem ask_Bytes_t (x : As [.pr (.int .u8) LAT2]) : evT Try.prog ask_Bytes_e 6 18446744073709551616 (Ev.get ask_Bytes_h) 50 ask_Bytes_s x = ask_Bytes x := by
  have e1 : (fun a a_2 a_3 a_4 a_5 a_6 s s_2 s_3 s_4 s_5 out => (jfn Try.prog ask_Bytes_e 6 18446744073709551616 (Ev.get ask_Bytes_h) 50 ask_Bytes_s) 31 [] (ask_Bytes_k1 a a_2 a_3 a_4 a_5 a_6 s s_2 s_3 s_4 s_5 out)) = ask_Bytes_K1 := funext fun a => funext fun a_2 => funext fun a_3 => funext fun a_4 => funext fun a_5 => funext fun a_6 => funext fun s => funext fun s_2 => funext fun s_3 => funext fun s_4 => funext fun s_5 => funext fun out => ask_Bytes_g1 a a_2 a_3 a_4 a_5 a_6 s s_2 s_3 s_4 s_5 out
  rw [rfn_eq, ask_Bytes_c0, e1]
  rfl
theorem ask_Bytes_ok : CtOk Try.prog (fun _ => True) 50 ⟨ask_Bytes_s, ask_Bytes⟩ := ct_of_ev (env_cons ask_Right_ok (env_cons ask_shape_ok (env_cons ask_numbers_ok (env_cons ask_Pack_ok env_nil)))) ask_Bytes_t
/-! poll_tcp_frame -/
@[reducible] def poll_tcp_frame_s : Sh := ⟨[.d (.un), .d (.int .u8), .d (.int .u16), .d (.pr (.int .u8) LAT2)], [], [.un, .int .u8, .int .u16, .pr (.int .u8) LAT2], [.d (.sl (.int .u8))], [], 0, [.sl (.int .u8)]⟩
def poll_tcp_frame_e : Env := (cts [(39, (⟨mbap_Pack_s, mbap_Pack⟩ : Ct)), (50, (⟨ask_Bytes_s, ask_Bytes⟩ : Ct))])
def poll_tcp_frame_h : List (Nat × Hint) := []
def poll_tcp_frame_m0 (v : Unit) (unit : Int) (tx : Int) (a : Int × Int × Int × Int × List Int × List Bool) : Option (As [.sl (.int .u8)]) :=
  Option.bind (ask_Bytes (a, ())) fun (y : List Int × Int × Unit) => if nei y.snd.fst 0 = true then some ([], ()) else Option.bind (mbap_Pack ((tx, unit, y.fst), ())) fun (y : List Int × Int × Unit) => if nei y.snd.fst 0 = true then some ([], ()) else some (y.fst, ())
def poll_tcp_frame (x : As [.un, .int .u8, .int .u16, .pr (.int .u8) LAT2]) : Option (As [.sl (.int .u8)]) := poll_tcp_frame_m0 x.1 x.2.1 x.2.2.1 x.2.2.2.1
theorem poll_tcp_frame_c0 (J : Orc (As [.sl (.int .u8)])) (x : As [.un, .int .u8, .int .u16, .pr (.int .u8) LAT2]) : rfn Try.prog poll_tcp_frame_e 6 18446744073709551616 (Ev.get poll_tcp_frame_h) 85 poll_tcp_frame_s J x = poll_tcp_frame_m0 x.1 x.2.1 x.2.2.1 x.2.2.2.1 := by kernel_rfl
theorem poll_tcp_frame_t (x : As [.un, .int .u8, .int .u16, .pr (.int .u8) LAT2]) : evT Try.prog poll_tcp_frame_e 6 18446744073709551616 (Ev.get poll_tcp_frame_h) 85 poll_tcp_frame_s x = poll_tcp_frame x := by
  rw [rfn_eq, poll_tcp_frame_c0]
  rfl
theorem poll_tcp_frame_ok : CtOk Try.prog (fun _ => True) 85 ⟨poll_tcp_frame_s, poll_tcp_frame⟩ := ct_of_ev (env_cons mbap_Pack_ok (env_cons ask_Bytes_ok env_nil)) poll_tcp_frame_t
/-! poll_tcp_next -/
@[reducible] def poll_tcp_next_s : Sh := ⟨[.d (.un), .d (.int .u16)], [], [.un, .int .u16], [.d (.int .u16)], [], 0, [.int .u16]⟩
def poll_tcp_next_e : Env := (cts [])
def poll_tcp_next_h : List (Nat × Hint) := []
def poll_tcp_next_m0 (v : Unit) (tx : Int) : Option (As [.int .u16]) :=
  some (add .u16 tx 1, ())
def poll_tcp_next (x : As [.un, .int .u16]) : Option (As [.int .u16]) := poll_tcp_next_m0 x.1 x.2.1
theorem poll_tcp_next_c0 (J : Orc (As [.int .u16])) (x : As [.un, .int .u16]) : rfn Try.prog poll_tcp_next_e 6 18446744073709551616 (Ev.get poll_tcp_next_h) 86 poll_tcp_next_s J x = poll_tcp_next_m0 x.1 x.2.1 := by kernel_rfl
theorem poll_tcp_next_t (x : As [.un, .int .u16]) : evT Try.prog poll_tcp_next_e 6 18446744073709551616 (Ev.get poll_tcp_next_h) 86 poll_tcp_next_s x = poll_tcp_next x := by
  rw [rfn_eq, poll_tcp_next_c0]
  rfl
theorem poll_tcp_next_ok : CtOk Try.prog (fun _ => True) 86 ⟨poll_tcp_next_s, poll_tcp_next⟩ := ct_of_ev env_nil poll_tcp_next_t
/-! crc_table -/
@[reducible] def crc_table_s : Sh := ⟨[], [], [], [.d (.ar 16 (.int .u16))], [], 0, [.ar 16 (.int .u16)]⟩
def crc_table_e : Env := (cts [])
def crc_table_h : List (Nat × Hint) := [(58, ⟨[], [0, 1, 5]⟩), (7475, ⟨[], [0, 1, 2, 3, 5]⟩), (59802, ⟨[], [0, 1, 2, 3, 5, 10]⟩)]
def crc_table_k1 (t5 : Int) (t0 : List Int) (t : List Int) : St := { fr := [(0, .pb 0 0), (1, .pb 1 0), (5, .d (.int .i64) t5)], nt := 26, up := [], own := [(0, .row (.int .u16) 128 t0), (1, .row (.int .u16) 128 t)], nx := 2, log := [], ln := 0 }
def crc_table_k2 (i : Int) (x : Int) (t5 : Int) (t10 : Int) (t0 : List Int) (t : List Int) : St := { fr := [(0, .pb 0 0), (1, .pb 1 0), (2, .d (.int .i64) i), (3, .d (.int .u16) x), (5, .d (.int .i64) t5), (10, .d (.int .i64) t10)], nt := 26, up := [], own := [(0, .row (.int .u16) 128 t0), (1, .row (.int .u16) 128 t)], nx := 2, log := [], ln := 0 }
def crc_table_k3 (i : Int) (x : Int) (t5 : Int) (t0 : List Int) (t : List Int) : St := { fr := [(0, .pb 0 0), (1, .pb 1 0), (2, .d (.int .i64) i), (3, .d (.int .u16) x), (5, .d (.int .i64) t5)], nt := 26, up := [], own := [(0, .row (.int .u16) 128 t0), (1, .row (.int .u16) 128 t)], nx := 2, log := [], ln := 0 }
def crc_table_m1 (j2 : Int → Int → Int → Int → List Int → List Int → Option (As [.ar 16 (.int .u16)])) (self1 : Int → List Int → List Int → Option (As [.ar 16 (.int .u16)])) (t5 : Int) (t0 : List Int) (t : List Int) : Option (As [.ar 16 (.int .u16)]) :=
  if lt t5 16 = true then j2 t5 (cvt .u16 t5) t5 0 t0 t else need (eqi (Int.ofNat (List.length t)) 16) (need (eqi (Int.ofNat (List.length t0)) (Int.ofNat (List.length t))) (need (eqi 16 (Int.ofNat (List.length t * 1))) (need (eqi (Int.ofNat (List.length t)) 16) (need (eqi (Int.ofNat (List.length t)) 16) (some (t, ()))))))
def crc_table_m2 (j3 : Int → Int → Int → List Int → List Int → Option (As [.ar 16 (.int .u16)])) (self1 : Int → List Int → List Int → Option (As [.ar 16 (.int .u16)])) (self2 : Int → Int → Int → Int → List Int → List Int → Option (As [.ar 16 (.int .u16)])) (i : Int) (x : Int) (t5 : Int) (t10 : Int) (t0 : List Int) (t : List Int) : Option (As [.ar 16 (.int .u16)]) :=
  if lt t10 4 = true then if eqi (Sx.band .u16 x 1) 1 = true then self2 i (Sx.bxor .u16 (Sx.shr .u16 x 1) 40961) t5 (add .i64 t10 1) t0 t else self2 i (Sx.shr .u16 x 1) t5 (add .i64 t10 1) t0 t else j3 i x t5 t0 t
def crc_table_m3 (self1 : Int → List Int → List Int → Option (As [.ar 16 (.int .u16)])) (i : Int) (x : Int) (t5 : Int) (t0 : List Int) (t : List Int) : Option (As [.ar 16 (.int .u16)]) :=
  need (lt i 16) (Option.bind (at? t i) fun (x_1 : Int) => Option.bind (at? t i) fun (x_2 : Int) => self1 (add .i64 t5 1) t0 (List.set t (Int.toNat i) x))
def crc_table_m0 (j1 : Int → List Int → List Int → Option (As [.ar 16 (.int .u16)])) : Option (As [.ar 16 (.int .u16)]) :=
  j1 0 (List.replicate 16 0) (List.replicate 16 0)
def crc_table_K3 (u1 : Int → List Int → List Int → Option (As [.ar 16 (.int .u16)])) (i : Int) (x : Int) (t5 : Int) (t0 : List Int) (t : List Int) : Option (As [.ar 16 (.int .u16)]) := crc_table_m3 u1 i x t5 t0 t
def crc_table_K2 (u1 : Int → List Int → List Int → Option (As [.ar 16 (.int .u16)])) (i : Int) (x : Int) (t5 : Int) (t10 : Int) (t0 : List Int) (t : List Int) : Option (As [.ar 16 (.int .u16)]) :=
  loopF (fun (self : (Int) × (Int) × (Int) × (Int) × (List Int) × (List Int) → Option (As [.ar 16 (.int .u16)])) (s : (Int) × (Int) × (Int) × (Int) × (List Int) × (List Int)) => crc_table_m2 (crc_table_K3 u1) u1 (fun i x t5 t10 t0 t => self (i, x, t5, t10, t0, t)) s.1 s.2.1 s.2.2.1 s.2.2.2.1 s.2.2.2.2.1 s.2.2.2.2.2) 18446744073709551616 (i, x, t5, t10, t0, t)
def crc_table_K1 (t5 : Int) (t0 : List Int) (t : List Int) : Option (As [.ar 16 (.int .u16)]) :=
  loopF (fun (self : (Int) × (List Int) × (List Int) → Option (As [.ar 16 (.int .u16)])) (s : (Int) × (List Int) × (List Int)) => crc_table_m1 (crc_table_K2 (fun t5 t0 t => self (t5, t0, t))) (fun t5 t0 t => self (t5, t0, t)) s.1 s.2.1 s.2.2) 18446744073709551616 (t5, t0, t)
def crc_table (x : As []) : Option (As [.ar 16 (.int .u16)]) := crc_table_m0 crc_table_K1
theorem crc_table_c3 (J : Orc (As [.ar 16 (.int .u16)])) (w1 : St → Option (As [.ar 16 (.int .u16)])) (i : Int) (x : Int) (t5 : Int) (t0 : List Int) (t : List Int) : pfn Try.prog crc_table_e 6 18446744073709551616 (Ev.get crc_table_h) 62 crc_table_s J 7475 [w1] (crc_table_k3 i x t5 t0 t) = crc_table_m3 (fun t5 t0 t => w1 (crc_table_k1 t5 t0 t)) i x t5 t0 t := by kernel_rfl
theorem crc_table_c2 (J : Orc (As [.ar 16 (.int .u16)])) (w1 : St → Option (As [.ar 16 (.int .u16)])) (w2 : St → Option (As [.ar 16 (.int .u16)])) (i : Int) (x : Int) (t5 : Int) (t10 : Int) (t0 : List Int) (t : List Int) : pfn Try.prog crc_table_e 6 18446744073709551616 (Ev.get crc_table_h) 62 crc_table_s J 59802 [w1, w2] (crc_table_k2 i x t5 t10 t0 t) = crc_table_m2 (fun i x t5 t0 t => J 7475 [w1] (crc_table_k3 i x t5 t0 t)) (fun t5 t0 t => w1 (crc_table_k1 t5 t0 t)) (fun i x t5 t10 t0 t => w2 (crc_table_k2 i x t5 t10 t0 t)) i x t5 t10 t0 t := by kernel_rfl
theorem crc_table_c1 (J : Orc (As [.ar 16 (.int .u16)])) (w1 : St → Option (As [.ar 16 (.int .u16)])) (t5 : Int) (t0 : List Int) (t : List Int) : pfn Try.prog crc_table_e 6 18446744073709551616 (Ev.get crc_table_h) 62 crc_table_s J 58 [w1] (crc_table_k1 t5 t0 t) = crc_table_m1 (fun i x t5 t10 t0 t => J 59802 [w1] (crc_table_k2 i x t5 t10 t0 t)) (fun t5 t0 t => w1 (crc_table_k1 t5 t0 t)) t5 t0 t := by kernel_rfl
theorem crc_table_c0 (J : Orc (As [.ar 16 (.int .u16)])) (x : As []) : rfn Try.prog crc_table_e 6 18446744073709551616 (Ev.get crc_table_h) 62 crc_table_s J x = crc_table_m0 (fun t5 t0 t => J 58 [] (crc_table_k1 t5 t0 t)) := by kernel_rfl
theorem crc_table_g3 (w1 : St → Option (As [.ar 16 (.int .u16)])) (i : Int) (x : Int) (t5 : Int) (t0 : List Int) (t : List Int) : jfn Try.prog crc_table_e 6 18446744073709551616 (Ev.get crc_table_h) 62 crc_table_s 7475 [w1] (crc_table_k3 i x t5 t0 t) = crc_table_K3 (fun t5 t0 t => w1 (crc_table_k1 t5 t0 t)) i x t5 t0 t := by
  rw [pfn_eq (by decide)]
  rw [crc_table_c3]
  rfl
theorem crc_table_g2 (w1 : St → Option (As [.ar 16 (.int .u16)])) (i : Int) (x : Int) (t5 : Int) (t10 : Int) (t0 : List Int) (t : List Int) : jfn Try.prog crc_table_e 6 18446744073709551616 (Ev.get crc_table_h) 62 crc_table_s 59802 [w1] (crc_table_k2 i x t5 t10 t0 t) = crc_table_K2 (fun t5 t0 t => w1 (crc_table_k1 t5 t0 t)) i x t5 t10 t0 t := by
  rw [pfn_eq (by decide)]
  rw [pfn_loop (by kernel_rfl)]
  refine loopF_sim (σ := (Int) × (Int) × (Int) × (Int) × (List Int) × (List Int)) (mk := fun s => crc_table_k2 s.1 s.2.1 s.2.2.1 s.2.2.2.1 s.2.2.2.2.1 s.2.2.2.2.2) (fun w2 s => ?_) 18446744073709551616 (i, x, t5, t10, t0, t)
  have e3 : (fun i x t5 t0 t => (jfn Try.prog crc_table_e 6 18446744073709551616 (Ev.get crc_table_h) 62 crc_table_s) 7475 [w1] (crc_table_k3 i x t5 t0 t)) = crc_table_K3 (fun t5 t0 t => w1 (crc_table_k1 t5 t0 t)) := funext fun i => funext fun x => funext fun t5 => funext fun t0 => funext fun t => crc_table_g3 w1 i x t5 t0 t
  refine (crc_table_c2 _ w1 w2 s.1 s.2.1 s.2.2.1 s.2.2.2.1 s.2.2.2.2.1 s.2.2.2.2.2).trans ?_
  rw [e3]
theorem crc_table_g1 (t5 : Int) (t0 : List Int) (t : List Int) : jfn Try.prog crc_table_e 6 18446744073709551616 (Ev.get crc_table_h) 62 crc_table_s 58 [] (crc_table_k1 t5 t0 t) = crc_table_K1 t5 t0 t := by
  rw [pfn_eq (by decide)]
  rw [pfn_loop (by kernel_rfl)]
  refine loopF_sim (σ := (Int) × (List Int) × (List Int)) (mk := fun s => crc_table_k1 s.1 s.2.1 s.2.2) (fun w1 s => ?_) 18446744073709551616 (t5, t0, t)
  have e2 : (fun i x t5 t10 t0 t => (jfn Try.prog crc_table_e 6 18446744073709551616 (Ev.get crc_table_h) 62 crc_table_s) 59802 [w1] (crc_table_k2 i x t5 t10 t0 t)) = crc_table_K2 (fun t5 t0 t => w1 (crc_table_k1 t5 t0 t)) := funext fun i => funext fun x => funext fun t5 => funext fun t10 => funext fun t0 => funext fun t => crc_table_g2 w1 i x t5 t10 t0 t
  refine (crc_table_c1 _ w1 s.1 s.2.1 s.2.2).trans ?_
  rw [e2]
theorem crc_table_t (x : As []) : evT Try.prog crc_table_e 6 18446744073709551616 (Ev.get crc_table_h) 62 crc_table_s x = crc_table x := by
  have e1 : (fun t5 t0 t => (jfn Try.prog crc_table_e 6 18446744073709551616 (Ev.get crc_table_h) 62 crc_table_s) 58 [] (crc_table_k1 t5 t0 t)) = crc_table_K1 := funext fun t5 => funext fun t0 => funext fun t => crc_table_g1 t5 t0 t
  rw [rfn_eq, crc_table_c0, e1]
  rfl
theorem crc_table_ok : CtOk Try.prog (fun _ => True) 62 ⟨crc_table_s, crc_table⟩ := ct_of_ev env_nil crc_table_t
/-! crc_step -/
@[reducible] def crc_step_s : Sh := ⟨[.pb 0 0, .d (.int .u16), .d (.int .u8)], [.row (.int .u16) 128], [.int .u16, .int .u8, .sl (.int .u16)], [.d (.int .u16)], [(0, .row (.int .u16) 128)], 0, [.int .u16, .sl (.int .u16)]⟩
def crc_step_e : Env := (cts [])
def crc_step_h : List (Nat × Hint) := []
def crc_step_m0 (t : Int) (sum : Int) (c : List Int) : Option (As [.int .u16, .sl (.int .u16)]) :=
  need (lt (Sx.band .u16 (Sx.bxor .u16 t (cvt .u16 sum)) 15) 16) (Option.bind (at? c (Sx.band .u16 (Sx.bxor .u16 t (cvt .u16 sum)) 15)) fun (x : Int) => Option.bind (at? c (Sx.band .u16 (Sx.bxor .u16 t (cvt .u16 sum)) 15)) fun (y : Int) => need (lt (Sx.band .u16 (Sx.bxor .u16 (Sx.shr .u16 (Sx.bxor .u16 t (cvt .u16 sum)) 4) y) 15) 16) (Option.bind (at? c (Sx.band .u16 (Sx.bxor .u16 (Sx.shr .u16 (Sx.bxor .u16 t (cvt .u16 sum)) 4) y) 15)) fun (x : Int) => Option.bind (at? c (Sx.band .u16 (Sx.bxor .u16 (Sx.shr .u16 (Sx.bxor .u16 t (cvt .u16 sum)) 4) y) 15)) fun (y_1 : Int) => some (Sx.bxor .u16 (Sx.shr .u16 (Sx.bxor .u16 (Sx.shr .u16 (Sx.bxor .u16 t (cvt .u16 sum)) 4) y) 4) y_1, c, ())))
def crc_step (x : As [.int .u16, .int .u8, .sl (.int .u16)]) : Option (As [.int .u16, .sl (.int .u16)]) := crc_step_m0 x.1 x.2.1 x.2.2.1
theorem crc_step_c0 (J : Orc (As [.int .u16, .sl (.int .u16)])) (x : As [.int .u16, .int .u8, .sl (.int .u16)]) : rfn Try.prog crc_step_e 6 18446744073709551616 (Ev.get crc_step_h) 63 crc_step_s J x = crc_step_m0 x.1 x.2.1 x.2.2.1 := by kernel_rfl
theorem crc_step_t (x : As [.int .u16, .int .u8, .sl (.int .u16)]) : evT Try.prog crc_step_e 6 18446744073709551616 (Ev.get crc_step_h) 63 crc_step_s x = crc_step x := by
  rw [rfn_eq, crc_step_c0]
  rfl
theorem crc_step_ok : CtOk Try.prog (fun _ => True) 63 ⟨crc_step_s, crc_step⟩ := ct_of_ev env_nil crc_step_t
/-! crc_Sum -/
@[reducible] def crc_Sum_s : Sh := ⟨[.d (.sl (.int .u8))], [], [.sl (.int .u8)], [.d (.int .u16)], [], 0, [.int .u16]⟩
def crc_Sum_e : Env := (cts [(62, (⟨crc_table_s, crc_table⟩ : Ct)), (63, (⟨crc_step_s, crc_step⟩ : Ct))])
def crc_Sum_h : List (Nat × Hint) := [(122, ⟨[], [0, 3, 4, 8, 9]⟩)]
def crc_Sum_k1 (b : List Int) (sum : Int) (t8 : Int) (t9 : Int) (t : List Int) : St := { fr := [(0, .d (.sl (.int .u8)) b), (3, .pb 0 0), (4, .d (.int .u16) sum), (8, .d (.int .i64) t8), (9, .d (.int .i64) t9)], nt := 20, up := [], own := [(0, .row (.int .u16) 128 t)], nx := 1, log := [], ln := 0 }
def crc_Sum_m1 (self1 : List Int → Int → Int → Int → List Int → Option (As [.int .u16])) (b : List Int) (sum : Int) (t8 : Int) (t9 : Int) (t : List Int) : Option (As [.int .u16]) :=
  if lt t9 t8 = true then Option.bind (at? b t9) fun (y : Int) => Option.bind (crc_step (sum, y, t, ())) fun (y : Int × List Int × Unit) => self1 b y.fst t8 (add .i64 t9 1) y.snd.fst else some (sum, ())
def crc_Sum_m0 (j1 : List Int → Int → Int → Int → List Int → Option (As [.int .u16])) (b : List Int) : Option (As [.int .u16]) :=
  Option.bind (crc_table ()) fun (y : List Int × Unit) => need (eqi 16 (Int.ofNat (List.length y.fst))) (need (eqi 16 (Int.ofNat (List.length y.fst * 1))) (j1 b 65535 (Int.ofNat (List.length b)) 0 y.fst))
def crc_Sum_K1 (b : List Int) (sum : Int) (t8 : Int) (t9 : Int) (t : List Int) : Option (As [.int .u16]) :=
  loopF (fun (self : (List Int) × (Int) × (Int) × (Int) × (List Int) → Option (As [.int .u16])) (s : (List Int) × (Int) × (Int) × (Int) × (List Int)) => crc_Sum_m1 (fun b sum t8 t9 t => self (b, sum, t8, t9, t)) s.1 s.2.1 s.2.2.1 s.2.2.2.1 s.2.2.2.2) 18446744073709551616 (b, sum, t8, t9, t)
def crc_Sum (x : As [.sl (.int .u8)]) : Option (As [.int .u16]) := crc_Sum_m0 crc_Sum_K1 x.1
theorem crc_Sum_c1 (J : Orc (As [.int .u16])) (w1 : St → Option (As [.int .u16])) (b : List Int) (sum : Int) (t8 : Int) (t9 : Int) (t : List Int) : pfn Try.prog crc_Sum_e 6 18446744073709551616 (Ev.get crc_Sum_h) 52 crc_Sum_s J 122 [w1] (crc_Sum_k1 b sum t8 t9 t) = crc_Sum_m1 (fun b sum t8 t9 t => w1 (crc_Sum_k1 b sum t8 t9 t)) b sum t8 t9 t := by kernel_rfl
theorem crc_Sum_c0 (J : Orc (As [.int .u16])) (x : As [.sl (.int .u8)]) : rfn Try.prog crc_Sum_e 6 18446744073709551616 (Ev.get crc_Sum_h) 52 crc_Sum_s J x = crc_Sum_m0 (fun b sum t8 t9 t => J 122 [] (crc_Sum_k1 b sum t8 t9 t)) x.1 := by kernel_rfl
theorem crc_Sum_g1 (b : List Int) (sum : Int) (t8 : Int) (t9 : Int) (t : List Int) : jfn Try.prog crc_Sum_e 6 18446744073709551616 (Ev.get crc_Sum_h) 52 crc_Sum_s 122 [] (crc_Sum_k1 b sum t8 t9 t) = crc_Sum_K1 b sum t8 t9 t := by
  rw [pfn_eq (by decide)]
  rw [pfn_loop (by kernel_rfl)]
  refine loopF_sim (σ := (List Int) × (Int) × (Int) × (Int) × (List Int)) (mk := fun s => crc_Sum_k1 s.1 s.2.1 s.2.2.1 s.2.2.2.1 s.2.2.2.2) (fun w1 s => ?_) 18446744073709551616 (b, sum, t8, t9, t)
  refine (crc_Sum_c1 _ w1 s.1 s.2.1 s.2.2.1 s.2.2.2.1 s.2.2.2.2).trans ?_
  rfl
theorem crc_Sum_t (x : As [.sl (.int .u8)]) : evT Try.prog crc_Sum_e 6 18446744073709551616 (Ev.get crc_Sum_h) 52 crc_Sum_s x = crc_Sum x := by
  have e1 : (fun b sum t8 t9 t => (jfn Try.prog crc_Sum_e 6 18446744073709551616 (Ev.get crc_Sum_h) 52 crc_Sum_s) 122 [] (crc_Sum_k1 b sum t8 t9 t)) = crc_Sum_K1 := funext fun b => funext fun sum => funext fun t8 => funext fun t9 => funext fun t => crc_Sum_g1 b sum t8 t9 t
  rw [rfn_eq, crc_Sum_c0, e1]
  rfl
theorem crc_Sum_ok : CtOk Try.prog (fun _ => True) 52 ⟨crc_Sum_s, crc_Sum⟩ := ct_of_ev (env_cons crc_table_ok (env_cons crc_step_ok env_nil)) crc_Sum_t
/-! crc_Put -/
@[reducible] def crc_Put_s : Sh := ⟨[.d (.sl (.int .u8))], [], [.sl (.int .u8)], [.d (.sl (.int .u8))], [], 0, [.sl (.int .u8)]⟩
def crc_Put_e : Env := (cts [(52, (⟨crc_Sum_s, crc_Sum⟩ : Ct))])
def crc_Put_h : List (Nat × Hint) := []
def crc_Put_m0 (b : List Int) : Option (As [.sl (.int .u8)]) :=
  Option.bind (crc_Sum (b, ())) fun (y : Int × Unit) => need (Ev.capOk 0 (add .i64 (Int.ofNat (List.length b)) 2)) (need (small (Int.toNat (add .i64 (Int.ofNat (List.length b)) 2))) (need (small (0 + List.length b)) (need (small (List.length (List.replicate 0 0 ++ b) + 2)) (some (List.replicate 0 0 ++ b ++ [cvt .u8 y.fst, cvt .u8 (Sx.shr .u16 y.fst 8)], ())))))
def crc_Put (x : As [.sl (.int .u8)]) : Option (As [.sl (.int .u8)]) := crc_Put_m0 x.1
theorem crc_Put_c0 (J : Orc (As [.sl (.int .u8)])) (x : As [.sl (.int .u8)]) : rfn Try.prog crc_Put_e 6 18446744073709551616 (Ev.get crc_Put_h) 30 crc_Put_s J x = crc_Put_m0 x.1 := by kernel_rfl
theorem crc_Put_t (x : As [.sl (.int .u8)]) : evT Try.prog crc_Put_e 6 18446744073709551616 (Ev.get crc_Put_h) 30 crc_Put_s x = crc_Put x := by
  rw [rfn_eq, crc_Put_c0]
  rfl
theorem crc_Put_ok : CtOk Try.prog (fun _ => True) 30 ⟨crc_Put_s, crc_Put⟩ := ct_of_ev (env_cons crc_Sum_ok env_nil) crc_Put_t
/-! rtu_isUnit -/
@[reducible] def rtu_isUnit_s : Sh := ⟨[.d (.int .u8)], [], [.int .u8], [.d (.bool)], [], 0, [.bool]⟩
def rtu_isUnit_e : Env := (cts [])
def rtu_isUnit_h : List (Nat × Hint) := []
def rtu_isUnit_m0 (unit : Int) : Option (As [.bool]) :=
  if ge unit 1 = true then some (le unit 247, ()) else some (false, ())
def rtu_isUnit (x : As [.int .u8]) : Option (As [.bool]) := rtu_isUnit_m0 x.1
theorem rtu_isUnit_c0 (J : Orc (As [.bool])) (x : As [.int .u8]) : rfn Try.prog rtu_isUnit_e 6 18446744073709551616 (Ev.get rtu_isUnit_h) 48 rtu_isUnit_s J x = rtu_isUnit_m0 x.1 := by kernel_rfl
theorem rtu_isUnit_t (x : As [.int .u8]) : evT Try.prog rtu_isUnit_e 6 18446744073709551616 (Ev.get rtu_isUnit_h) 48 rtu_isUnit_s x = rtu_isUnit x := by
  rw [rfn_eq, rtu_isUnit_c0]
  rfl
theorem rtu_isUnit_ok : CtOk Try.prog (fun _ => True) 48 ⟨rtu_isUnit_s, rtu_isUnit⟩ := ct_of_ev env_nil rtu_isUnit_t
/-! rtu_Bytes -/
@[reducible] def rtu_Bytes_s : Sh := ⟨[.d (.int .u8), .d (.sl (.int .u8))], [], [.int .u8, .sl (.int .u8)], [.d (.sl (.int .u8)), .d (.int .i64)], [], 0, [.sl (.int .u8), .int .i64]⟩
def rtu_Bytes_e : Env := (cts [(30, (⟨crc_Put_s, crc_Put⟩ : Ct)), (48, (⟨rtu_isUnit_s, rtu_isUnit⟩ : Ct))])
def rtu_Bytes_h : List (Nat × Hint) := [(6, ⟨[], [0, 1, 18]⟩)]
def rtu_Bytes_k1 (unit : Int) (pdu : List Int) (t18 : Bool) : St := { fr := [(0, .d (.int .u8) unit), (1, .d (.sl (.int .u8)) pdu), (18, .d .bool t18)], nt := 24, up := [], own := [], nx := 0, log := [], ln := 0 }
def rtu_Bytes_m1 (unit : Int) (pdu : List Int) (t18 : Bool) : Option (As [.sl (.int .u8), .int .i64]) :=
  if t18 = true then some ([], 2, ()) else need (small (1 + List.length pdu)) (Option.bind (crc_Put (unit :: pdu, ())) fun (y : List Int × Unit) => some (y.fst, 0, ()))
def rtu_Bytes_m0 (j1 : Int → List Int → Bool → Option (As [.sl (.int .u8), .int .i64])) (unit : Int) (pdu : List Int) : Option (As [.sl (.int .u8), .int .i64]) :=
  Option.bind (rtu_isUnit (unit, ())) fun (y : Bool × Unit) => if (!y.fst) = true then j1 unit pdu true else if lt (Int.ofNat (List.length pdu)) 1 = true then j1 unit pdu true else j1 unit pdu (gt (Int.ofNat (List.length pdu)) 253)
def rtu_Bytes_K1 (unit : Int) (pdu : List Int) (t18 : Bool) : Option (As [.sl (.int .u8), .int .i64]) := rtu_Bytes_m1 unit pdu t18
def rtu_Bytes (x : As [.int .u8, .sl (.int .u8)]) : Option (As [.sl (.int .u8), .int .i64]) := rtu_Bytes_m0 rtu_Bytes_K1 x.1 x.2.1
theorem rtu_Bytes_c1 (J : Orc (As [.sl (.int .u8), .int .i64])) (unit : Int) (pdu : List Int) (t18 : Bool) : pfn Try.prog rtu_Bytes_e 6 18446744073709551616 (Ev.get rtu_Bytes_h) 40 rtu_Bytes_s J 6 [] (rtu_Bytes_k1 unit pdu t18) = rtu_Bytes_m1 unit pdu t18 := by kernel_rfl
theorem rtu_Bytes_c0 (J : Orc (As [.sl (.int .u8), .int .i64])) (x : As [.int .u8, .sl (.int .u8)]) : rfn Try.prog rtu_Bytes_e 6 18446744073709551616 (Ev.get rtu_Bytes_h) 40 rtu_Bytes_s J x = rtu_Bytes_m0 (fun unit pdu t18 => J 6 [] (rtu_Bytes_k1 unit pdu t18)) x.1 x.2.1 := by kernel_rfl
theorem rtu_Bytes_g1 (unit : Int) (pdu : List Int) (t18 : Bool) : jfn Try.prog rtu_Bytes_e 6 18446744073709551616 (Ev.get rtu_Bytes_h) 40 rtu_Bytes_s 6 [] (rtu_Bytes_k1 unit pdu t18) = rtu_Bytes_K1 unit pdu t18 := by
  rw [pfn_eq (by decide)]
  rw [rtu_Bytes_c1]
  rfl
theorem rtu_Bytes_t (x : As [.int .u8, .sl (.int .u8)]) : evT Try.prog rtu_Bytes_e 6 18446744073709551616 (Ev.get rtu_Bytes_h) 40 rtu_Bytes_s x = rtu_Bytes x := by
  have e1 : (fun unit pdu t18 => (jfn Try.prog rtu_Bytes_e 6 18446744073709551616 (Ev.get rtu_Bytes_h) 40 rtu_Bytes_s) 6 [] (rtu_Bytes_k1 unit pdu t18)) = rtu_Bytes_K1 := funext fun unit => funext fun pdu => funext fun t18 => rtu_Bytes_g1 unit pdu t18
  rw [rfn_eq, rtu_Bytes_c0, e1]
  rfl
theorem rtu_Bytes_ok : CtOk Try.prog (fun _ => True) 40 ⟨rtu_Bytes_s, rtu_Bytes⟩ := ct_of_ev (env_cons crc_Put_ok (env_cons rtu_isUnit_ok env_nil)) rtu_Bytes_t
/-! rtu_Ask -/
@[reducible] def rtu_Ask_s : Sh := ⟨[.d (.int .u8), .d (.pr (.int .u8) LAT2)], [], [.int .u8, .pr (.int .u8) LAT2], [.d (.sl (.int .u8)), .d (.int .i64)], [], 0, [.sl (.int .u8), .int .i64]⟩
def rtu_Ask_e : Env := (cts [(40, (⟨rtu_Bytes_s, rtu_Bytes⟩ : Ct)), (50, (⟨ask_Bytes_s, ask_Bytes⟩ : Ct))])
def rtu_Ask_h : List (Nat × Hint) := []
def rtu_Ask_m0 (unit : Int) (a : Int × Int × Int × Int × List Int × List Bool) : Option (As [.sl (.int .u8), .int .i64]) :=
  Option.bind (ask_Bytes (a, ())) fun (y : List Int × Int × Unit) => if nei y.snd.fst 0 = true then some ([], y.snd.fst, ()) else Option.bind (rtu_Bytes (unit, y.fst, ())) fun (y : List Int × Int × Unit) => some (y.fst, y.snd.fst, ())
def rtu_Ask (x : As [.int .u8, .pr (.int .u8) LAT2]) : Option (As [.sl (.int .u8), .int .i64]) := rtu_Ask_m0 x.1 x.2.1
theorem rtu_Ask_c0 (J : Orc (As [.sl (.int .u8), .int .i64])) (x : As [.int .u8, .pr (.int .u8) LAT2]) : rfn Try.prog rtu_Ask_e 6 18446744073709551616 (Ev.get rtu_Ask_h) 92 rtu_Ask_s J x = rtu_Ask_m0 x.1 x.2.1 := by kernel_rfl
theorem rtu_Ask_t (x : As [.int .u8, .pr (.int .u8) LAT2]) : evT Try.prog rtu_Ask_e 6 18446744073709551616 (Ev.get rtu_Ask_h) 92 rtu_Ask_s x = rtu_Ask x := by
  rw [rfn_eq, rtu_Ask_c0]
  rfl
theorem rtu_Ask_ok : CtOk Try.prog (fun _ => True) 92 ⟨rtu_Ask_s, rtu_Ask⟩ := ct_of_ev (env_cons rtu_Bytes_ok (env_cons ask_Bytes_ok env_nil)) rtu_Ask_t
/-! poll_serial_frame -/
@[reducible] def poll_serial_frame_s : Sh := ⟨[.d (.un), .d (.int .u8), .d (.int .u16), .d (.pr (.int .u8) LAT2)], [], [.un, .int .u8, .int .u16, .pr (.int .u8) LAT2], [.d (.sl (.int .u8))], [], 0, [.sl (.int .u8)]⟩
def poll_serial_frame_e : Env := (cts [(92, (⟨rtu_Ask_s, rtu_Ask⟩ : Ct))])
def poll_serial_frame_h : List (Nat × Hint) := []
def poll_serial_frame_m0 (v : Unit) (unit : Int) (tx : Int) (a : Int × Int × Int × Int × List Int × List Bool) : Option (As [.sl (.int .u8)]) :=
  Option.bind (rtu_Ask (unit, a, ())) fun (y : List Int × Int × Unit) => if nei y.snd.fst 0 = true then some ([], ()) else some (y.fst, ())
def poll_serial_frame (x : As [.un, .int .u8, .int .u16, .pr (.int .u8) LAT2]) : Option (As [.sl (.int .u8)]) := poll_serial_frame_m0 x.1 x.2.1 x.2.2.1 x.2.2.2.1
theorem poll_serial_frame_c0 (J : Orc (As [.sl (.int .u8)])) (x : As [.un, .int .u8, .int .u16, .pr (.int .u8) LAT2]) : rfn Try.prog poll_serial_frame_e 6 18446744073709551616 (Ev.get poll_serial_frame_h) 89 poll_serial_frame_s J x = poll_serial_frame_m0 x.1 x.2.1 x.2.2.1 x.2.2.2.1 := by kernel_rfl
theorem poll_serial_frame_t (x : As [.un, .int .u8, .int .u16, .pr (.int .u8) LAT2]) : evT Try.prog poll_serial_frame_e 6 18446744073709551616 (Ev.get poll_serial_frame_h) 89 poll_serial_frame_s x = poll_serial_frame x := by
  rw [rfn_eq, poll_serial_frame_c0]
  rfl
theorem poll_serial_frame_ok : CtOk Try.prog (fun _ => True) 89 ⟨poll_serial_frame_s, poll_serial_frame⟩ := ct_of_ev (env_cons rtu_Ask_ok env_nil) poll_serial_frame_t
/-! poll_serial_next -/
@[reducible] def poll_serial_next_s : Sh := ⟨[.d (.un), .d (.int .u16)], [], [.un, .int .u16], [.d (.int .u16)], [], 0, [.int .u16]⟩
def poll_serial_next_e : Env := (cts [])
def poll_serial_next_h : List (Nat × Hint) := []
def poll_serial_next_m0 (v : Unit) (tx : Int) : Option (As [.int .u16]) :=
  some (tx, ())
def poll_serial_next (x : As [.un, .int .u16]) : Option (As [.int .u16]) := poll_serial_next_m0 x.1 x.2.1
theorem poll_serial_next_c0 (J : Orc (As [.int .u16])) (x : As [.un, .int .u16]) : rfn Try.prog poll_serial_next_e 6 18446744073709551616 (Ev.get poll_serial_next_h) 90 poll_serial_next_s J x = poll_serial_next_m0 x.1 x.2.1 := by kernel_rfl
theorem poll_serial_next_t (x : As [.un, .int .u16]) : evT Try.prog poll_serial_next_e 6 18446744073709551616 (Ev.get poll_serial_next_h) 90 poll_serial_next_s x = poll_serial_next x := by
  rw [rfn_eq, poll_serial_next_c0]
  rfl
theorem poll_serial_next_ok : CtOk Try.prog (fun _ => True) 90 ⟨poll_serial_next_s, poll_serial_next⟩ := ct_of_ev env_nil poll_serial_next_t
/-! poll_sent -/
@[reducible] def poll_sent_s : Sh := ⟨[.d (.pr (.int .u8) LAT0)], [], [.pr (.int .u8) LAT0], [.d (.pr (.int .u8) LAT0), .d (.sl (.int .u8))], [], 0, [.pr (.int .u8) LAT0, .sl (.int .u8)]⟩
def poll_sent_e : Env := (cts [(85, (⟨poll_tcp_frame_s, poll_tcp_frame⟩ : Ct)), (86, (⟨poll_tcp_next_s, poll_tcp_next⟩ : Ct)), (89, (⟨poll_serial_frame_s, poll_serial_frame⟩ : Ct)), (90, (⟨poll_serial_next_s, poll_serial_next⟩ : Ct))])
def poll_sent_h : List (Nat × Hint) := []
def poll_sent_m0 (p : Int × Int × Int × Int × Bool × LAT6 × Int × Int × Int) : Option (As [.pr (.int .u8) LAT0, .sl (.int .u8)]) :=
  if eqi p.snd.fst 2 = true then Option.bind (poll_tcp_next ((), p.snd.snd.snd.snd.snd.snd.fst, ())) fun (y : Int × Unit) => Option.bind (poll_tcp_frame ((), p.fst, y.fst, p.snd.snd.snd.snd.snd.fst, ())) fun (y_1 : List Int × Unit) => some ((p.fst, p.snd.fst, p.snd.snd.fst, p.snd.snd.snd.fst, p.snd.snd.snd.snd.fst, p.snd.snd.snd.snd.snd.fst, y.fst, p.snd.snd.fst, p.snd.snd.snd.snd.snd.snd.snd.snd), y_1.fst, ()) else Option.bind (poll_serial_next ((), p.snd.snd.snd.snd.snd.snd.fst, ())) fun (y : Int × Unit) => Option.bind (poll_serial_frame ((), p.fst, y.fst, p.snd.snd.snd.snd.snd.fst, ())) fun (y_1 : List Int × Unit) => some ((p.fst, p.snd.fst, p.snd.snd.fst, p.snd.snd.snd.fst, p.snd.snd.snd.snd.fst, p.snd.snd.snd.snd.snd.fst, y.fst, p.snd.snd.fst, p.snd.snd.snd.snd.snd.snd.snd.snd), y_1.fst, ())
def poll_sent (x : As [.pr (.int .u8) LAT0]) : Option (As [.pr (.int .u8) LAT0, .sl (.int .u8)]) := poll_sent_m0 x.1
theorem poll_sent_c0 (J : Orc (As [.pr (.int .u8) LAT0, .sl (.int .u8)])) (x : As [.pr (.int .u8) LAT0]) : rfn Try.prog poll_sent_e 6 18446744073709551616 (Ev.get poll_sent_h) 33 poll_sent_s J x = poll_sent_m0 x.1 := by kernel_rfl
theorem poll_sent_t (x : As [.pr (.int .u8) LAT0]) : evT Try.prog poll_sent_e 6 18446744073709551616 (Ev.get poll_sent_h) 33 poll_sent_s x = poll_sent x := by
  rw [rfn_eq, poll_sent_c0]
  rfl
theorem poll_sent_ok : CtOk Try.prog (fun _ => True) 33 ⟨poll_sent_s, poll_sent⟩ := ct_of_ev (env_cons poll_tcp_frame_ok (env_cons poll_tcp_next_ok (env_cons poll_serial_frame_ok (env_cons poll_serial_next_ok env_nil)))) poll_sent_t
/-! poll_Tick -/
@[reducible] def poll_Tick_s : Sh := ⟨[.d (.pr (.int .u8) LAT0)], [], [.pr (.int .u8) LAT0], [.d (.pr (.int .u8) LAT0), .d (.sl (.int .u8)), .d (.bool)], [], 0, [.pr (.int .u8) LAT0, .sl (.int .u8), .bool]⟩
def poll_Tick_e : Env := (cts [(23, (⟨poll_Drop_s, poll_Drop⟩ : Ct)), (32, (⟨poll_own_s, poll_own⟩ : Ct)), (33, (⟨poll_sent_s, poll_sent⟩ : Ct))])
def poll_Tick_h : List (Nat × Hint) := []
def poll_Tick_m0 (p : Int × Int × Int × Int × Bool × LAT6 × Int × Int × Int) : Option (As [.pr (.int .u8) LAT0, .sl (.int .u8), .bool]) :=
  Option.bind (poll_own (p, ())) fun (y : LAT3 × Unit) => if (!y.fst.snd.snd.snd.snd.fst) = true then some (y.fst, [], false, ()) else if nei (Sx.sub .i64 y.fst.snd.snd.snd.snd.snd.snd.snd.fst 1) 0 = true then some ((y.fst.fst, y.fst.snd.fst, y.fst.snd.snd.fst, y.fst.snd.snd.snd.fst, y.fst.snd.snd.snd.snd.fst, y.fst.snd.snd.snd.snd.snd.fst, y.fst.snd.snd.snd.snd.snd.snd.fst, Sx.sub .i64 y.fst.snd.snd.snd.snd.snd.snd.snd.fst 1, y.fst.snd.snd.snd.snd.snd.snd.snd.snd), [], false, ()) else if gt y.fst.snd.snd.snd.snd.snd.snd.snd.snd 0 = true then Option.bind (poll_sent ((y.fst.fst, y.fst.snd.fst, y.fst.snd.snd.fst, y.fst.snd.snd.snd.fst, y.fst.snd.snd.snd.snd.fst, y.fst.snd.snd.snd.snd.snd.fst, y.fst.snd.snd.snd.snd.snd.snd.fst, Sx.sub .i64 y.fst.snd.snd.snd.snd.snd.snd.snd.fst 1, Sx.sub .i64 y.fst.snd.snd.snd.snd.snd.snd.snd.snd 1), ())) fun (y : LAT3 × List Int × Unit) => some (y.fst, y.snd.fst, false, ()) else Option.bind (poll_Drop ((y.fst.fst, y.fst.snd.fst, y.fst.snd.snd.fst, y.fst.snd.snd.snd.fst, y.fst.snd.snd.snd.snd.fst, y.fst.snd.snd.snd.snd.snd.fst, y.fst.snd.snd.snd.snd.snd.snd.fst, Sx.sub .i64 y.fst.snd.snd.snd.snd.snd.snd.snd.fst 1, y.fst.snd.snd.snd.snd.snd.snd.snd.snd), ())) fun (y : LAT3 × Unit) => some (y.fst, [], true, ())
def poll_Tick (x : As [.pr (.int .u8) LAT0]) : Option (As [.pr (.int .u8) LAT0, .sl (.int .u8), .bool]) := poll_Tick_m0 x.1
theorem poll_Tick_c0 (J : Orc (As [.pr (.int .u8) LAT0, .sl (.int .u8), .bool])) (x : As [.pr (.int .u8) LAT0]) : rfn Try.prog poll_Tick_e 6 18446744073709551616 (Ev.get poll_Tick_h) 10 poll_Tick_s J x = poll_Tick_m0 x.1 := by kernel_rfl
theorem poll_Tick_t (x : As [.pr (.int .u8) LAT0]) : evT Try.prog poll_Tick_e 6 18446744073709551616 (Ev.get poll_Tick_h) 10 poll_Tick_s x = poll_Tick x := by
  rw [rfn_eq, poll_Tick_c0]
  rfl
theorem poll_Tick_ok : CtOk Try.prog (fun _ => True) 10 ⟨poll_Tick_s, poll_Tick⟩ := ct_of_ev (env_cons poll_Drop_ok (env_cons poll_own_ok (env_cons poll_sent_ok env_nil))) poll_Tick_t
/-! slices_Equal_Gbool -/
@[reducible] def slices_Equal_Gbool_s : Sh := ⟨[.d (.sl .bool), .d (.sl .bool)], [], [.sl .bool, .sl .bool], [.d (.bool)], [], 0, [.bool]⟩
def slices_Equal_Gbool_e : Env := (cts [])
def slices_Equal_Gbool_h : List (Nat × Hint) := [(58, ⟨[], [0, 1, 12, 13]⟩)]
def slices_Equal_Gbool_k1 (s1 : List Bool) (s2 : List Bool) (t12 : Int) (t13 : Int) : St := { fr := [(0, .d (.sl .bool) s1), (1, .d (.sl .bool) s2), (12, .d (.int .i64) t12), (13, .d (.int .i64) t13)], nt := 26, up := [], own := [], nx := 0, log := [], ln := 0 }
def slices_Equal_Gbool_m1 (self1 : List Bool → List Bool → Int → Int → Option (As [.bool])) (s1 : List Bool) (s2 : List Bool) (t12 : Int) (t13 : Int) : Option (As [.bool]) :=
  if lt t13 t12 = true then Option.bind (at? s1 t13) fun (y : Bool) => Option.bind (at? s2 t13) fun (y_1 : Bool) => if Sx.neb y y_1 = true then some (false, ()) else self1 s1 s2 t12 (add .i64 t13 1) else some (true, ())
def slices_Equal_Gbool_m0 (j1 : List Bool → List Bool → Int → Int → Option (As [.bool])) (s1 : List Bool) (s2 : List Bool) : Option (As [.bool]) :=
  if nei (Int.ofNat (List.length s1)) (Int.ofNat (List.length s2)) = true then some (false, ()) else j1 s1 s2 (Int.ofNat (List.length s1)) 0
def slices_Equal_Gbool_K1 (s1 : List Bool) (s2 : List Bool) (t12 : Int) (t13 : Int) : Option (As [.bool]) :=
  loopF (fun (self : (List Bool) × (List Bool) × (Int) × (Int) → Option (As [.bool])) (s : (List Bool) × (List Bool) × (Int) × (Int)) => slices_Equal_Gbool_m1 (fun s1 s2 t12 t13 => self (s1, s2, t12, t13)) s.1 s.2.1 s.2.2.1 s.2.2.2) 18446744073709551616 (s1, s2, t12, t13)
def slices_Equal_Gbool (x : As [.sl .bool, .sl .bool]) : Option (As [.bool]) := slices_Equal_Gbool_m0 slices_Equal_Gbool_K1 x.1 x.2.1
theorem slices_Equal_Gbool_c1 (J : Orc (As [.bool])) (w1 : St → Option (As [.bool])) (s1 : List Bool) (s2 : List Bool) (t12 : Int) (t13 : Int) : pfn Try.prog slices_Equal_Gbool_e 6 18446744073709551616 (Ev.get slices_Equal_Gbool_h) 44 slices_Equal_Gbool_s J 58 [w1] (slices_Equal_Gbool_k1 s1 s2 t12 t13) = slices_Equal_Gbool_m1 (fun s1 s2 t12 t13 => w1 (slices_Equal_Gbool_k1 s1 s2 t12 t13)) s1 s2 t12 t13 := by kernel_rfl
theorem slices_Equal_Gbool_c0 (J : Orc (As [.bool])) (x : As [.sl .bool, .sl .bool]) : rfn Try.prog slices_Equal_Gbool_e 6 18446744073709551616 (Ev.get slices_Equal_Gbool_h) 44 slices_Equal_Gbool_s J x = slices_Equal_Gbool_m0 (fun s1 s2 t12 t13 => J 58 [] (slices_Equal_Gbool_k1 s1 s2 t12 t13)) x.1 x.2.1 := by kernel_rfl
theorem slices_Equal_Gbool_g1 (s1 : List Bool) (s2 : List Bool) (t12 : Int) (t13 : Int) : jfn Try.prog slices_Equal_Gbool_e 6 18446744073709551616 (Ev.get slices_Equal_Gbool_h) 44 slices_Equal_Gbool_s 58 [] (slices_Equal_Gbool_k1 s1 s2 t12 t13) = slices_Equal_Gbool_K1 s1 s2 t12 t13 := by
  rw [pfn_eq (by decide)]
  rw [pfn_loop (by kernel_rfl)]
  refine loopF_sim (σ := (List Bool) × (List Bool) × (Int) × (Int)) (mk := fun s => slices_Equal_Gbool_k1 s.1 s.2.1 s.2.2.1 s.2.2.2) (fun w1 s => ?_) 18446744073709551616 (s1, s2, t12, t13)
  refine (slices_Equal_Gbool_c1 _ w1 s.1 s.2.1 s.2.2.1 s.2.2.2).trans ?_
  rfl
theorem slices_Equal_Gbool_t (x : As [.sl .bool, .sl .bool]) : evT Try.prog slices_Equal_Gbool_e 6 18446744073709551616 (Ev.get slices_Equal_Gbool_h) 44 slices_Equal_Gbool_s x = slices_Equal_Gbool x := by
  have e1 : (fun s1 s2 t12 t13 => (jfn Try.prog slices_Equal_Gbool_e 6 18446744073709551616 (Ev.get slices_Equal_Gbool_h) 44 slices_Equal_Gbool_s) 58 [] (slices_Equal_Gbool_k1 s1 s2 t12 t13)) = slices_Equal_Gbool_K1 := funext fun s1 => funext fun s2 => funext fun t12 => funext fun t13 => slices_Equal_Gbool_g1 s1 s2 t12 t13
  rw [rfn_eq, slices_Equal_Gbool_c0, e1]
  rfl
theorem slices_Equal_Gbool_ok : CtOk Try.prog (fun _ => True) 44 ⟨slices_Equal_Gbool_s, slices_Equal_Gbool⟩ := ct_of_ev env_nil slices_Equal_Gbool_t
/-! slices_Equal_Guint16 -/
@[reducible] def slices_Equal_Guint16_s : Sh := ⟨[.d (.sl (.int .u16)), .d (.sl (.int .u16))], [], [.sl (.int .u16), .sl (.int .u16)], [.d (.bool)], [], 0, [.bool]⟩
def slices_Equal_Guint16_e : Env := (cts [])
def slices_Equal_Guint16_h : List (Nat × Hint) := [(58, ⟨[], [0, 1, 12, 13]⟩)]
def slices_Equal_Guint16_k1 (s1 : List Int) (s2 : List Int) (t12 : Int) (t13 : Int) : St := { fr := [(0, .d (.sl (.int .u16)) s1), (1, .d (.sl (.int .u16)) s2), (12, .d (.int .i64) t12), (13, .d (.int .i64) t13)], nt := 26, up := [], own := [], nx := 0, log := [], ln := 0 }
def slices_Equal_Guint16_m1 (self1 : List Int → List Int → Int → Int → Option (As [.bool])) (s1 : List Int) (s2 : List Int) (t12 : Int) (t13 : Int) : Option (As [.bool]) :=
  if lt t13 t12 = true then Option.bind (at? s1 t13) fun (y : Int) => Option.bind (at? s2 t13) fun (y_1 : Int) => if nei y y_1 = true then some (false, ()) else self1 s1 s2 t12 (add .i64 t13 1) else some (true, ())
def slices_Equal_Guint16_m0 (j1 : List Int → List Int → Int → Int → Option (As [.bool])) (s1 : List Int) (s2 : List Int) : Option (As [.bool]) :=
  if nei (Int.ofNat (List.length s1)) (Int.ofNat (List.length s2)) = true then some (false, ()) else j1 s1 s2 (Int.ofNat (List.length s1)) 0
def slices_Equal_Guint16_K1 (s1 : List Int) (s2 : List Int) (t12 : Int) (t13 : Int) : Option (As [.bool]) :=
  loopF (fun (self : (List Int) × (List Int) × (Int) × (Int) → Option (As [.bool])) (s : (List Int) × (List Int) × (Int) × (Int)) => slices_Equal_Guint16_m1 (fun s1 s2 t12 t13 => self (s1, s2, t12, t13)) s.1 s.2.1 s.2.2.1 s.2.2.2) 18446744073709551616 (s1, s2, t12, t13)
def slices_Equal_Guint16 (x : As [.sl (.int .u16), .sl (.int .u16)]) : Option (As [.bool]) := slices_Equal_Guint16_m0 slices_Equal_Guint16_K1 x.1 x.2.1
theorem slices_Equal_Guint16_c1 (J : Orc (As [.bool])) (w1 : St → Option (As [.bool])) (s1 : List Int) (s2 : List Int) (t12 : Int) (t13 : Int) : pfn Try.prog slices_Equal_Guint16_e 6 18446744073709551616 (Ev.get slices_Equal_Guint16_h) 45 slices_Equal_Guint16_s J 58 [w1] (slices_Equal_Guint16_k1 s1 s2 t12 t13) = slices_Equal_Guint16_m1 (fun s1 s2 t12 t13 => w1 (slices_Equal_Guint16_k1 s1 s2 t12 t13)) s1 s2 t12 t13 := by kernel_rfl
theorem slices_Equal_Guint16_c0 (J : Orc (As [.bool])) (x : As [.sl (.int .u16), .sl (.int .u16)]) : rfn Try.prog slices_Equal_Guint16_e 6 18446744073709551616 (Ev.get slices_Equal_Guint16_h) 45 slices_Equal_Guint16_s J x = slices_Equal_Guint16_m0 (fun s1 s2 t12 t13 => J 58 [] (slices_Equal_Guint16_k1 s1 s2 t12 t13)) x.1 x.2.1 := by kernel_rfl
theorem slices_Equal_Guint16_g1 (s1 : List Int) (s2 : List Int) (t12 : Int) (t13 : Int) : jfn Try.prog slices_Equal_Guint16_e 6 18446744073709551616 (Ev.get slices_Equal_Guint16_h) 45 slices_Equal_Guint16_s 58 [] (slices_Equal_Guint16_k1 s1 s2 t12 t13) = slices_Equal_Guint16_K1 s1 s2 t12 t13 := by
  rw [pfn_eq (by decide)]
  rw [pfn_loop (by kernel_rfl)]
  refine loopF_sim (σ := (List Int) × (List Int) × (Int) × (Int)) (mk := fun s => slices_Equal_Guint16_k1 s.1 s.2.1 s.2.2.1 s.2.2.2) (fun w1 s => ?_) 18446744073709551616 (s1, s2, t12, t13)
  refine (slices_Equal_Guint16_c1 _ w1 s.1 s.2.1 s.2.2.1 s.2.2.2).trans ?_
  rfl
theorem slices_Equal_Guint16_t (x : As [.sl (.int .u16), .sl (.int .u16)]) : evT Try.prog slices_Equal_Guint16_e 6 18446744073709551616 (Ev.get slices_Equal_Guint16_h) 45 slices_Equal_Guint16_s x = slices_Equal_Guint16 x := by
  have e1 : (fun s1 s2 t12 t13 => (jfn Try.prog slices_Equal_Guint16_e 6 18446744073709551616 (Ev.get slices_Equal_Guint16_h) 45 slices_Equal_Guint16_s) 58 [] (slices_Equal_Guint16_k1 s1 s2 t12 t13)) = slices_Equal_Guint16_K1 := funext fun s1 => funext fun s2 => funext fun t12 => funext fun t13 => slices_Equal_Guint16_g1 s1 s2 t12 t13
  rw [rfn_eq, slices_Equal_Guint16_c0, e1]
  rfl
theorem slices_Equal_Guint16_ok : CtOk Try.prog (fun _ => True) 45 ⟨slices_Equal_Guint16_s, slices_Equal_Guint16⟩ := ct_of_ev env_nil slices_Equal_Guint16_t
/-! ask_Same -/
@[reducible] def ask_Same_s : Sh := ⟨[.d (.pr (.int .u8) LAT2), .d (.pr (.int .u8) LAT2)], [], [.pr (.int .u8) LAT2, .pr (.int .u8) LAT2], [.d (.bool)], [], 0, [.bool]⟩
def ask_Same_e : Env := (cts [(44, (⟨slices_Equal_Gbool_s, slices_Equal_Gbool⟩ : Ct)), (45, (⟨slices_Equal_Guint16_s, slices_Equal_Guint16⟩ : Ct))])
def ask_Same_h : List (Nat × Hint) := []
def ask_Same_m0 (a : Int × Int × Int × Int × List Int × List Bool) (b : Int × Int × Int × Int × List Int × List Bool) : Option (As [.bool]) :=
  if eqi a.fst b.fst = true then if eqi a.snd.fst b.snd.fst = true then if eqi a.snd.snd.fst b.snd.snd.fst = true then if eqi a.snd.snd.snd.fst b.snd.snd.snd.fst = true then Option.bind (slices_Equal_Guint16 (a.snd.snd.snd.snd.fst, b.snd.snd.snd.snd.fst, ())) fun (y : Bool × Unit) => if y.fst = true then Option.bind (slices_Equal_Gbool (a.snd.snd.snd.snd.snd, b.snd.snd.snd.snd.snd, ())) fun (y : Bool × Unit) => some (y.fst, ()) else some (false, ()) else some (false, ()) else some (false, ()) else some (false, ()) else some (false, ())
def ask_Same (x : As [.pr (.int .u8) LAT2, .pr (.int .u8) LAT2]) : Option (As [.bool]) := ask_Same_m0 x.1 x.2.1
theorem ask_Same_c0 (J : Orc (As [.bool])) (x : As [.pr (.int .u8) LAT2, .pr (.int .u8) LAT2]) : rfn Try.prog ask_Same_e 6 18446744073709551616 (Ev.get ask_Same_h) 22 ask_Same_s J x = ask_Same_m0 x.1 x.2.1 := by kernel_rfl
theorem ask_Same_t (x : As [.pr (.int .u8) LAT2, .pr (.int .u8) LAT2]) : evT Try.prog ask_Same_e 6 18446744073709551616 (Ev.get ask_Same_h) 22 ask_Same_s x = ask_Same x := by
  rw [rfn_eq, ask_Same_c0]
  rfl
theorem ask_Same_ok : CtOk Try.prog (fun _ => True) 22 ⟨ask_Same_s, ask_Same⟩ := ct_of_ev (env_cons slices_Equal_Gbool_ok (env_cons slices_Equal_Guint16_ok env_nil)) ask_Same_t
/-! poll_Same -/
@[reducible] def poll_Same_s : Sh := ⟨[.d (.pr (.int .u8) LAT0), .d (.pr (.int .u8) LAT0)], [], [.pr (.int .u8) LAT0, .pr (.int .u8) LAT0], [.d (.bool)], [], 0, [.bool]⟩
def poll_Same_e : Env := (cts [(22, (⟨ask_Same_s, ask_Same⟩ : Ct))])
def poll_Same_h : List (Nat × Hint) := []
def poll_Same_m0 (a : Int × Int × Int × Int × Bool × LAT6 × Int × Int × Int) (b : Int × Int × Int × Int × Bool × LAT6 × Int × Int × Int) : Option (As [.bool]) :=
  if eqi a.fst b.fst = true then if eqi a.snd.fst b.snd.fst = true then if eqi a.snd.snd.fst b.snd.snd.fst = true then if eqi a.snd.snd.snd.fst b.snd.snd.snd.fst = true then if Sx.eqb a.snd.snd.snd.snd.fst b.snd.snd.snd.snd.fst = true then if eqi a.snd.snd.snd.snd.snd.snd.fst b.snd.snd.snd.snd.snd.snd.fst = true then if eqi a.snd.snd.snd.snd.snd.snd.snd.fst b.snd.snd.snd.snd.snd.snd.snd.fst = true then if eqi a.snd.snd.snd.snd.snd.snd.snd.snd b.snd.snd.snd.snd.snd.snd.snd.snd = true then Option.bind (ask_Same (a.snd.snd.snd.snd.snd.fst, b.snd.snd.snd.snd.snd.fst, ())) fun (y : Bool × Unit) => some (y.fst, ()) else some (false, ()) else some (false, ()) else some (false, ()) else some (false, ()) else some (false, ()) else some (false, ()) else some (false, ()) else some (false, ())
def poll_Same (x : As [.pr (.int .u8) LAT0, .pr (.int .u8) LAT0]) : Option (As [.bool]) := poll_Same_m0 x.1 x.2.1
theorem poll_Same_c0 (J : Orc (As [.bool])) (x : As [.pr (.int .u8) LAT0, .pr (.int .u8) LAT0]) : rfn Try.prog poll_Same_e 6 18446744073709551616 (Ev.get poll_Same_h) 11 poll_Same_s J x = poll_Same_m0 x.1 x.2.1 := by kernel_rfl
theorem poll_Same_t (x : As [.pr (.int .u8) LAT0, .pr (.int .u8) LAT0]) : evT Try.prog poll_Same_e 6 18446744073709551616 (Ev.get poll_Same_h) 11 poll_Same_s x = poll_Same x := by
  rw [rfn_eq, poll_Same_c0]
  rfl
theorem poll_Same_ok : CtOk Try.prog (fun _ => True) 11 ⟨poll_Same_s, poll_Same⟩ := ct_of_ev (env_cons ask_Same_ok env_nil) poll_Same_t
/-! poll_Send -/
@[reducible] def poll_Send_s : Sh := ⟨[.d (.pr (.int .u8) LAT0), .d (.pr (.int .u8) LAT2)], [], [.pr (.int .u8) LAT0, .pr (.int .u8) LAT2], [.d (.pr (.int .u8) LAT0), .d (.sl (.int .u8)), .d (.int .i64)], [], 0, [.pr (.int .u8) LAT0, .sl (.int .u8), .int .i64]⟩
def poll_Send_e : Env := (cts [(13, (⟨ask_Right_s, ask_Right⟩ : Ct)), (32, (⟨poll_own_s, poll_own⟩ : Ct)), (33, (⟨poll_sent_s, poll_sent⟩ : Ct)), (34, (⟨poll_copied_s, poll_copied⟩ : Ct))])
def poll_Send_h : List (Nat × Hint) := []
def poll_Send_m0 (p : Int × Int × Int × Int × Bool × LAT6 × Int × Int × Int) (a : Int × Int × Int × Int × List Int × List Bool) : Option (As [.pr (.int .u8) LAT0, .sl (.int .u8), .int .i64]) :=
  if p.snd.snd.snd.snd.fst = true then Option.bind (poll_own (p, ())) fun (y : LAT3 × Unit) => some (y.fst, [], 30, ()) else Option.bind (ask_Right (a, ())) fun (y : Bool × Unit) => if (!y.fst) = true then Option.bind (poll_own (p, ())) fun (y : LAT3 × Unit) => some (y.fst, [], 12, ()) else Option.bind (poll_copied (a, ())) fun (y : LAT6 × Unit) => Option.bind (poll_sent ((p.fst, p.snd.fst, p.snd.snd.fst, p.snd.snd.snd.fst, true, y.fst, p.snd.snd.snd.snd.snd.snd.fst, p.snd.snd.snd.snd.snd.snd.snd.fst, p.snd.snd.snd.fst), ())) fun (y : LAT3 × List Int × Unit) => some (y.fst, y.snd.fst, 0, ())
def poll_Send (x : As [.pr (.int .u8) LAT0, .pr (.int .u8) LAT2]) : Option (As [.pr (.int .u8) LAT0, .sl (.int .u8), .int .i64]) := poll_Send_m0 x.1 x.2.1
theorem poll_Send_c0 (J : Orc (As [.pr (.int .u8) LAT0, .sl (.int .u8), .int .i64])) (x : As [.pr (.int .u8) LAT0, .pr (.int .u8) LAT2]) : rfn Try.prog poll_Send_e 6 18446744073709551616 (Ev.get poll_Send_h) 12 poll_Send_s J x = poll_Send_m0 x.1 x.2.1 := by kernel_rfl
theorem poll_Send_t (x : As [.pr (.int .u8) LAT0, .pr (.int .u8) LAT2]) : evT Try.prog poll_Send_e 6 18446744073709551616 (Ev.get poll_Send_h) 12 poll_Send_s x = poll_Send x := by
  rw [rfn_eq, poll_Send_c0]
  rfl
theorem poll_Send_ok : CtOk Try.prog (fun _ => True) 12 ⟨poll_Send_s, poll_Send⟩ := ct_of_ev (env_cons ask_Right_ok (env_cons poll_own_ok (env_cons poll_sent_ok (env_cons poll_copied_ok env_nil)))) poll_Send_t
/-! reply_Same -/
@[reducible] def reply_Same_s : Sh := ⟨[.d (.pr (.int .u8) LAT1), .d (.pr (.int .u8) LAT1)], [], [.pr (.int .u8) LAT1, .pr (.int .u8) LAT1], [.d (.bool)], [], 0, [.bool]⟩
def reply_Same_e : Env := (cts [(44, (⟨slices_Equal_Gbool_s, slices_Equal_Gbool⟩ : Ct)), (45, (⟨slices_Equal_Guint16_s, slices_Equal_Guint16⟩ : Ct))])
def reply_Same_h : List (Nat × Hint) := []
def reply_Same_m0 (a : Int × Int × List Bool × List Int × Int × Int) (b : Int × Int × List Bool × List Int × Int × Int) : Option (As [.bool]) :=
  if eqi a.fst b.fst = true then if eqi a.snd.fst b.snd.fst = true then if eqi a.snd.snd.snd.snd.fst b.snd.snd.snd.snd.fst = true then if eqi a.snd.snd.snd.snd.snd b.snd.snd.snd.snd.snd = true then Option.bind (slices_Equal_Gbool (a.snd.snd.fst, b.snd.snd.fst, ())) fun (y : Bool × Unit) => if y.fst = true then Option.bind (slices_Equal_Guint16 (a.snd.snd.snd.fst, b.snd.snd.snd.fst, ())) fun (y : Bool × Unit) => some (y.fst, ()) else some (false, ()) else some (false, ()) else some (false, ()) else some (false, ()) else some (false, ())
def reply_Same (x : As [.pr (.int .u8) LAT1, .pr (.int .u8) LAT1]) : Option (As [.bool]) := reply_Same_m0 x.1 x.2.1
theorem reply_Same_c0 (J : Orc (As [.bool])) (x : As [.pr (.int .u8) LAT1, .pr (.int .u8) LAT1]) : rfn Try.prog reply_Same_e 6 18446744073709551616 (Ev.get reply_Same_h) 19 reply_Same_s J x = reply_Same_m0 x.1 x.2.1 := by kernel_rfl
theorem reply_Same_t (x : As [.pr (.int .u8) LAT1, .pr (.int .u8) LAT1]) : evT Try.prog reply_Same_e 6 18446744073709551616 (Ev.get reply_Same_h) 19 reply_Same_s x = reply_Same x := by
  rw [rfn_eq, reply_Same_c0]
  rfl
theorem reply_Same_ok : CtOk Try.prog (fun _ => True) 19 ⟨reply_Same_s, reply_Same⟩ := ct_of_ev (env_cons slices_Equal_Gbool_ok (env_cons slices_Equal_Guint16_ok env_nil)) reply_Same_t
/-! reply_Wrong -/
@[reducible] def reply_Wrong_s : Sh := ⟨[.d (.int .u8), .d (.int .u8)], [], [.int .u8, .int .u8], [.d (.pr (.int .u8) LAT1)], [], 0, [.pr (.int .u8) LAT1]⟩
def reply_Wrong_e : Env := (cts [])
def reply_Wrong_h : List (Nat × Hint) := []
def reply_Wrong_m0 (f : Int) (except : Int) : Option (As [.pr (.int .u8) LAT1]) :=
  some ((rem f 128, except, [], [], 0, 0), ())
def reply_Wrong (x : As [.int .u8, .int .u8]) : Option (As [.pr (.int .u8) LAT1]) := reply_Wrong_m0 x.1 x.2.1
theorem reply_Wrong_c0 (J : Orc (As [.pr (.int .u8) LAT1])) (x : As [.int .u8, .int .u8]) : rfn Try.prog reply_Wrong_e 6 18446744073709551616 (Ev.get reply_Wrong_h) 83 reply_Wrong_s J x = reply_Wrong_m0 x.1 x.2.1 := by kernel_rfl
theorem reply_Wrong_t (x : As [.int .u8, .int .u8]) : evT Try.prog reply_Wrong_e 6 18446744073709551616 (Ev.get reply_Wrong_h) 83 reply_Wrong_s x = reply_Wrong x := by
  rw [rfn_eq, reply_Wrong_c0]
  rfl
theorem reply_Wrong_ok : CtOk Try.prog (fun _ => True) 83 ⟨reply_Wrong_s, reply_Wrong⟩ := ct_of_ev env_nil reply_Wrong_t
/-! reply_exception_right -/
@[reducible] def reply_exception_right_s : Sh := ⟨[.d (.un), .d (.pr (.int .u8) LAT1)], [], [.un, .pr (.int .u8) LAT1], [.d (.bool)], [], 0, [.bool]⟩
def reply_exception_right_e : Env := (cts [(19, (⟨reply_Same_s, reply_Same⟩ : Ct)), (83, (⟨reply_Wrong_s, reply_Wrong⟩ : Ct))])
def reply_exception_right_h : List (Nat × Hint) := []
def reply_exception_right_m0 (v : Unit) (r : Int × Int × List Bool × List Int × Int × Int) : Option (As [.bool]) :=
  if lt r.fst 128 = true then if ge r.snd.fst 1 = true then if le r.snd.fst 4 = true then Option.bind (reply_Wrong (r.fst, r.snd.fst, ())) fun (y : LAT4 × Unit) => Option.bind (reply_Same (r, y.fst, ())) fun (y : Bool × Unit) => some (y.fst, ()) else some (false, ()) else some (false, ()) else some (false, ())
def reply_exception_right (x : As [.un, .pr (.int .u8) LAT1]) : Option (As [.bool]) := reply_exception_right_m0 x.1 x.2.1
theorem reply_exception_right_c0 (J : Orc (As [.bool])) (x : As [.un, .pr (.int .u8) LAT1]) : rfn Try.prog reply_exception_right_e 6 18446744073709551616 (Ev.get reply_exception_right_h) 81 reply_exception_right_s J x = reply_exception_right_m0 x.1 x.2.1 := by kernel_rfl
theorem reply_exception_right_t (x : As [.un, .pr (.int .u8) LAT1]) : evT Try.prog reply_exception_right_e 6 18446744073709551616 (Ev.get reply_exception_right_h) 81 reply_exception_right_s x = reply_exception_right x := by
  rw [rfn_eq, reply_exception_right_c0]
  rfl
theorem reply_exception_right_ok : CtOk Try.prog (fun _ => True) 81 ⟨reply_exception_right_s, reply_exception_right⟩ := ct_of_ev (env_cons reply_Same_ok (env_cons reply_Wrong_ok env_nil)) reply_exception_right_t
/-! reply_bitList_right -/
@[reducible] def reply_bitList_right_s : Sh := ⟨[.d (.un), .d (.pr (.int .u8) LAT1)], [], [.un, .pr (.int .u8) LAT1], [.d (.bool)], [], 0, [.bool]⟩
def reply_bitList_right_e : Env := (cts [(19, (⟨reply_Same_s, reply_Same⟩ : Ct))])
def reply_bitList_right_h : List (Nat × Hint) := []
def reply_bitList_right_m0 (v : Unit) (r : Int × Int × List Bool × List Int × Int × Int) : Option (As [.bool]) :=
  if ge (Int.ofNat (List.length r.snd.snd.fst)) 8 = true then if le (Int.ofNat (List.length r.snd.snd.fst)) 2000 = true then if eqi (Int.ofNat (List.length r.snd.snd.fst % 8)) 0 = true then Option.bind (reply_Same (r, (r.fst, 0, r.snd.snd.fst, [], 0, 0), ())) fun (y : Bool × Unit) => some (y.fst, ()) else some (false, ()) else some (false, ()) else some (false, ())
def reply_bitList_right (x : As [.un, .pr (.int .u8) LAT1]) : Option (As [.bool]) := reply_bitList_right_m0 x.1 x.2.1
theorem reply_bitList_right_c0 (J : Orc (As [.bool])) (x : As [.un, .pr (.int .u8) LAT1]) : rfn Try.prog reply_bitList_right_e 6 18446744073709551616 (Ev.get reply_bitList_right_h) 94 reply_bitList_right_s J x = reply_bitList_right_m0 x.1 x.2.1 := by kernel_rfl
theorem reply_bitList_right_t (x : As [.un, .pr (.int .u8) LAT1]) : evT Try.prog reply_bitList_right_e 6 18446744073709551616 (Ev.get reply_bitList_right_h) 94 reply_bitList_right_s x = reply_bitList_right x := by
  rw [rfn_eq, reply_bitList_right_c0]
  rfl
theorem reply_bitList_right_ok : CtOk Try.prog (fun _ => True) 94 ⟨reply_bitList_right_s, reply_bitList_right⟩ := ct_of_ev (env_cons reply_Same_ok env_nil) reply_bitList_right_t
/-! reply_wordList_right -/
@[reducible] def reply_wordList_right_s : Sh := ⟨[.d (.un), .d (.pr (.int .u8) LAT1)], [], [.un, .pr (.int .u8) LAT1], [.d (.bool)], [], 0, [.bool]⟩
def reply_wordList_right_e : Env := (cts [(19, (⟨reply_Same_s, reply_Same⟩ : Ct))])
def reply_wordList_right_h : List (Nat × Hint) := []
def reply_wordList_right_m0 (v : Unit) (r : Int × Int × List Bool × List Int × Int × Int) : Option (As [.bool]) :=
  if ge (Int.ofNat (List.length r.snd.snd.snd.fst)) 1 = true then if le (Int.ofNat (List.length r.snd.snd.snd.fst)) 125 = true then Option.bind (reply_Same (r, (r.fst, 0, [], r.snd.snd.snd.fst, 0, 0), ())) fun (y : Bool × Unit) => some (y.fst, ()) else some (false, ()) else some (false, ())
def reply_wordList_right (x : As [.un, .pr (.int .u8) LAT1]) : Option (As [.bool]) := reply_wordList_right_m0 x.1 x.2.1
theorem reply_wordList_right_c0 (J : Orc (As [.bool])) (x : As [.un, .pr (.int .u8) LAT1]) : rfn Try.prog reply_wordList_right_e 6 18446744073709551616 (Ev.get reply_wordList_right_h) 97 reply_wordList_right_s J x = reply_wordList_right_m0 x.1 x.2.1 := by kernel_rfl
theorem reply_wordList_right_t (x : As [.un, .pr (.int .u8) LAT1]) : evT Try.prog reply_wordList_right_e 6 18446744073709551616 (Ev.get reply_wordList_right_h) 97 reply_wordList_right_s x = reply_wordList_right x := by
  rw [rfn_eq, reply_wordList_right_c0]
  rfl
theorem reply_wordList_right_ok : CtOk Try.prog (fun _ => True) 97 ⟨reply_wordList_right_s, reply_wordList_right⟩ := ct_of_ev (env_cons reply_Same_ok env_nil) reply_wordList_right_t
/-! reply_oneBit_right -/
@[reducible] def reply_oneBit_right_s : Sh := ⟨[.d (.un), .d (.pr (.int .u8) LAT1)], [], [.un, .pr (.int .u8) LAT1], [.d (.bool)], [], 0, [.bool]⟩
def reply_oneBit_right_e : Env := (cts [(19, (⟨reply_Same_s, reply_Same⟩ : Ct))])
def reply_oneBit_right_h : List (Nat × Hint) := []
def reply_oneBit_right_m0 (v : Unit) (r : Int × Int × List Bool × List Int × Int × Int) : Option (As [.bool]) :=
  if eqi (Int.ofNat (List.length r.snd.snd.fst)) 1 = true then Option.bind (reply_Same (r, (r.fst, 0, r.snd.snd.fst, [], r.snd.snd.snd.snd.fst, 0), ())) fun (y : Bool × Unit) => some (y.fst, ()) else some (false, ())
def reply_oneBit_right (x : As [.un, .pr (.int .u8) LAT1]) : Option (As [.bool]) := reply_oneBit_right_m0 x.1 x.2.1
theorem reply_oneBit_right_c0 (J : Orc (As [.bool])) (x : As [.un, .pr (.int .u8) LAT1]) : rfn Try.prog reply_oneBit_right_e 6 18446744073709551616 (Ev.get reply_oneBit_right_h) 102 reply_oneBit_right_s J x = reply_oneBit_right_m0 x.1 x.2.1 := by kernel_rfl
theorem reply_oneBit_right_t (x : As [.un, .pr (.int .u8) LAT1]) : evT Try.prog reply_oneBit_right_e 6 18446744073709551616 (Ev.get reply_oneBit_right_h) 102 reply_oneBit_right_s x = reply_oneBit_right x := by
  rw [rfn_eq, reply_oneBit_right_c0]
  rfl
theorem reply_oneBit_right_ok : CtOk Try.prog (fun _ => True) 102 ⟨reply_oneBit_right_s, reply_oneBit_right⟩ := ct_of_ev (env_cons reply_Same_ok env_nil) reply_oneBit_right_t
/-! reply_oneWord_right -/
@[reducible] def reply_oneWord_right_s : Sh := ⟨[.d (.un), .d (.pr (.int .u8) LAT1)], [], [.un, .pr (.int .u8) LAT1], [.d (.bool)], [], 0, [.bool]⟩
def reply_oneWord_right_e : Env := (cts [(19, (⟨reply_Same_s, reply_Same⟩ : Ct))])
def reply_oneWord_right_h : List (Nat × Hint) := []
def reply_oneWord_right_m0 (v : Unit) (r : Int × Int × List Bool × List Int × Int × Int) : Option (As [.bool]) :=
  if eqi (Int.ofNat (List.length r.snd.snd.snd.fst)) 1 = true then Option.bind (reply_Same (r, (r.fst, 0, [], r.snd.snd.snd.fst, r.snd.snd.snd.snd.fst, 0), ())) fun (y : Bool × Unit) => some (y.fst, ()) else some (false, ())
def reply_oneWord_right (x : As [.un, .pr (.int .u8) LAT1]) : Option (As [.bool]) := reply_oneWord_right_m0 x.1 x.2.1
theorem reply_oneWord_right_c0 (J : Orc (As [.bool])) (x : As [.un, .pr (.int .u8) LAT1]) : rfn Try.prog reply_oneWord_right_e 6 18446744073709551616 (Ev.get reply_oneWord_right_h) 105 reply_oneWord_right_s J x = reply_oneWord_right_m0 x.1 x.2.1 := by kernel_rfl
theorem reply_oneWord_right_t (x : As [.un, .pr (.int .u8) LAT1]) : evT Try.prog reply_oneWord_right_e 6 18446744073709551616 (Ev.get reply_oneWord_right_h) 105 reply_oneWord_right_s x = reply_oneWord_right x := by
  rw [rfn_eq, reply_oneWord_right_c0]
  rfl
theorem reply_oneWord_right_ok : CtOk Try.prog (fun _ => True) 105 ⟨reply_oneWord_right_s, reply_oneWord_right⟩ := ct_of_ev (env_cons reply_Same_ok env_nil) reply_oneWord_right_t
/-! reply_count_right -/
@[reducible] def reply_count_right_s : Sh := ⟨[.d (.wr (.int .u16)), .d (.pr (.int .u8) LAT1)], [], [.wr (.int .u16), .pr (.int .u8) LAT1], [.d (.bool)], [], 0, [.bool]⟩
def reply_count_right_e : Env := (cts [(19, (⟨reply_Same_s, reply_Same⟩ : Ct))])
def reply_count_right_h : List (Nat × Hint) := []
def reply_count_right_m0 (k : Int) (r : Int × Int × List Bool × List Int × Int × Int) : Option (As [.bool]) :=
  if ge r.snd.snd.snd.snd.snd 1 = true then if le r.snd.snd.snd.snd.snd k = true then Option.bind (reply_Same (r, (r.fst, 0, [], [], r.snd.snd.snd.snd), ())) fun (y : Bool × Unit) => some (y.fst, ()) else some (false, ()) else some (false, ())
def reply_count_right (x : As [.wr (.int .u16), .pr (.int .u8) LAT1]) : Option (As [.bool]) := reply_count_right_m0 x.1 x.2.1
theorem reply_count_right_c0 (J : Orc (As [.bool])) (x : As [.wr (.int .u16), .pr (.int .u8) LAT1]) : rfn Try.prog reply_count_right_e 6 18446744073709551616 (Ev.get reply_count_right_h) 108 reply_count_right_s J x = reply_count_right_m0 x.1 x.2.1 := by kernel_rfl
theorem reply_count_right_t (x : As [.wr (.int .u16), .pr (.int .u8) LAT1]) : evT Try.prog reply_count_right_e 6 18446744073709551616 (Ev.get reply_count_right_h) 108 reply_count_right_s x = reply_count_right x := by
  rw [rfn_eq, reply_count_right_c0]
  rfl
theorem reply_count_right_ok : CtOk Try.prog (fun _ => True) 108 ⟨reply_count_right_s, reply_count_right⟩ := ct_of_ev (env_cons reply_Same_ok env_nil) reply_count_right_t
/-! reply_Right -/
@[reducible] def reply_Right_s : Sh := ⟨[.d (.pr (.int .u8) LAT1)], [], [.pr (.int .u8) LAT1], [.d (.bool)], [], 0, [.bool]⟩
def reply_Right_e : Env := (cts [(81, (⟨reply_exception_right_s, reply_exception_right⟩ : Ct)), (94, (⟨reply_bitList_right_s, reply_bitList_right⟩ : Ct)), (97, (⟨reply_wordList_right_s, reply_wordList_right⟩ : Ct)), (102, (⟨reply_oneBit_right_s, reply_oneBit_right⟩ : Ct)), (105, (⟨reply_oneWord_right_s, reply_oneWord_right⟩ : Ct)), (108, (⟨reply_count_right_s, reply_count_right⟩ : Ct))])
def reply_Right_h : List (Nat × Hint) := []
def reply_Right_m0 (r : Int × Int × List Bool × List Int × Int × Int) : Option (As [.bool]) :=
  if nei r.snd.fst 0 = true then Option.bind (reply_exception_right ((), r, ())) fun (y : Bool × Unit) => some (y.fst, ()) else if eqi r.fst 1 = true then Option.bind (reply_bitList_right ((), r, ())) fun (y : Bool × Unit) => some (y.fst, ()) else if eqi r.fst 2 = true then Option.bind (reply_bitList_right ((), r, ())) fun (y : Bool × Unit) => some (y.fst, ()) else if eqi r.fst 3 = true then Option.bind (reply_wordList_right ((), r, ())) fun (y : Bool × Unit) => some (y.fst, ()) else if eqi r.fst 4 = true then Option.bind (reply_wordList_right ((), r, ())) fun (y : Bool × Unit) => some (y.fst, ()) else if eqi r.fst 23 = true then Option.bind (reply_wordList_right ((), r, ())) fun (y : Bool × Unit) => some (y.fst, ()) else if eqi r.fst 5 = true then Option.bind (reply_oneBit_right ((), r, ())) fun (y : Bool × Unit) => some (y.fst, ()) else if eqi r.fst 6 = true then Option.bind (reply_oneWord_right ((), r, ())) fun (y : Bool × Unit) => some (y.fst, ()) else if eqi r.fst 15 = true then Option.bind (reply_count_right (1968, r, ())) fun (y : Bool × Unit) => some (y.fst, ()) else if eqi r.fst 16 = true then Option.bind (reply_count_right (123, r, ())) fun (y : Bool × Unit) => some (y.fst, ()) else some (false, ())
def reply_Right (x : As [.pr (.int .u8) LAT1]) : Option (As [.bool]) := reply_Right_m0 x.1
theorem reply_Right_c0 (J : Orc (As [.bool])) (x : As [.pr (.int .u8) LAT1]) : rfn Try.prog reply_Right_e 6 18446744073709551616 (Ev.get reply_Right_h) 15 reply_Right_s J x = reply_Right_m0 x.1 := by kernel_rfl
theorem reply_Right_t (x : As [.pr (.int .u8) LAT1]) : evT Try.prog reply_Right_e 6 18446744073709551616 (Ev.get reply_Right_h) 15 reply_Right_s x = reply_Right x := by
  rw [rfn_eq, reply_Right_c0]
  rfl
theorem reply_Right_ok : CtOk Try.prog (fun _ => True) 15 ⟨reply_Right_s, reply_Right⟩ := ct_of_ev (env_cons reply_exception_right_ok (env_cons reply_bitList_right_ok (env_cons reply_wordList_right_ok (env_cons reply_oneBit_right_ok (env_cons reply_oneWord_right_ok (env_cons reply_count_right_ok env_nil)))))) reply_Right_t
/-! reply_Echo -/
@[reducible] def reply_Echo_s : Sh := ⟨[.d (.pr (.int .u8) LAT2)], [], [.pr (.int .u8) LAT2], [.d (.pr (.int .u8) LAT1), .d (.bool)], [], 0, [.pr (.int .u8) LAT1, .bool]⟩
def reply_Echo_e : Env := (cts [(13, (⟨ask_Right_s, ask_Right⟩ : Ct))])
def reply_Echo_h : List (Nat × Hint) := [(15, ⟨[.frb 2, .frb 4], [2, 4]⟩), (1967, ⟨[], [1, 2, 4, 33]⟩)]
def reply_Echo_k1 (t2 : Int) (t2_2 : Int) (t2_3 : List Bool) (t2_4 : List Int) (t2_5 : Int) (t2_6 : Int) (r : Int) (r_2 : Int) (r_3 : List Bool) (r_4 : List Int) (r_5 : Int) (r_6 : Int) : St := { fr := [(2, .pb 0 0), (4, .pb 1 0)], nt := 40, up := [], own := [(0, .box 43 [.d (.int .u8) t2, .d (.int .u8) t2_2, .d (.sl .bool) t2_3, .d (.sl (.int .u16)) t2_4, .d (.int .u16) t2_5, .d (.int .u16) t2_6]), (1, .box 43 [.d (.int .u8) r, .d (.int .u8) r_2, .d (.sl .bool) r_3, .d (.sl (.int .u16)) r_4, .d (.int .u16) r_5, .d (.int .u16) r_6])], nx := 2, log := [], ln := 0 }
def reply_Echo_k2 (t33 : Bool) (a : Int) (a_2 : Int) (a_3 : Int) (a_4 : Int) (a_5 : List Int) (a_6 : List Bool) (t2 : Int) (t2_2 : Int) (t2_3 : Int) (t2_4 : Int) (r : Int) (r_2 : Int) (r_3 : List Bool) (r_4 : List Int) (r_5 : Int) (r_6 : Int) : St := { fr := [(1, .pb 0 0), (2, .pb 1 0), (4, .pb 2 0), (33, .d .bool t33)], nt := 40, up := [], own := [(0, .box 26 [.d (.int .u8) a, .d (.int .u16) a_2, .d (.int .u16) a_3, .d (.int .u16) a_4, .d (.sl (.int .u16)) a_5, .d (.sl .bool) a_6]), (1, .box 43 [.d (.int .u8) t2, .d (.int .u8) t2_2, .k (Go.Value.slice Option.none 0 0), .k (Go.Value.slice Option.none 0 0), .d (.int .u16) t2_3, .d (.int .u16) t2_4]), (2, .box 43 [.d (.int .u8) r, .d (.int .u8) r_2, .d (.sl .bool) r_3, .d (.sl (.int .u16)) r_4, .d (.int .u16) r_5, .d (.int .u16) r_6])], nx := 3, log := [], ln := 0 }
def reply_Echo_m1 (t2 : Int) (t2_2 : Int) (t2_3 : List Bool) (t2_4 : List Int) (t2_5 : Int) (t2_6 : Int) (r : Int) (r_2 : Int) (r_3 : List Bool) (r_4 : List Int) (r_5 : Int) (r_6 : Int) : Option (As [.pr (.int .u8) LAT1, .bool]) :=
  some ((r, r_2, r_3, r_4, r_5, r_6), true, ())
def reply_Echo_m2 (j1 : Int → Int → List Bool → List Int → Int → Int → Int → Int → List Bool → List Int → Int → Int → Option (As [.pr (.int .u8) LAT1, .bool])) (t33 : Bool) (a : Int) (a_2 : Int) (a_3 : Int) (a_4 : Int) (a_5 : List Int) (a_6 : List Bool) (t2 : Int) (t2_2 : Int) (t2_3 : Int) (t2_4 : Int) (r : Int) (r_2 : Int) (r_3 : List Bool) (r_4 : List Int) (r_5 : Int) (r_6 : Int) : Option (As [.pr (.int .u8) LAT1, .bool]) :=
  if t33 = true then j1 t2 t2_2 [] [] t2_3 t2_4 r r_2 r_3 r_4 r_5 a_3 else some ((0, 0, [], [], 0, 0), false, ())
def reply_Echo_m0 (j1 : Int → Int → List Bool → List Int → Int → Int → Int → Int → List Bool → List Int → Int → Int → Option (As [.pr (.int .u8) LAT1, .bool])) (j2 : Bool → Int → Int → Int → Int → List Int → List Bool → Int → Int → Int → Int → Int → Int → List Bool → List Int → Int → Int → Option (As [.pr (.int .u8) LAT1, .bool])) (a : Int × Int × Int × Int × List Int × List Bool) : Option (As [.pr (.int .u8) LAT1, .bool]) :=
  Option.bind (ask_Right (a, ())) fun (y : Bool × Unit) => if (!y.fst) = true then some ((0, 0, [], [], 0, 0), false, ()) else if eqi a.fst 5 = true then Option.bind (at? a.snd.snd.snd.snd.snd 0) fun (y : Bool) => j1 0 0 [] [] 0 0 a.fst 0 [y] [] a.snd.fst 0 else if eqi a.fst 6 = true then Option.bind (at? a.snd.snd.snd.snd.fst 0) fun (y : Int) => j1 0 0 [] [] 0 0 a.fst 0 [] [y] a.snd.fst 0 else if eqi a.fst 15 = true then j2 true a.fst a.snd.fst a.snd.snd.fst a.snd.snd.snd.fst a.snd.snd.snd.snd.fst a.snd.snd.snd.snd.snd 0 0 0 0 a.fst 0 [] [] a.snd.fst 0 else j2 (eqi a.fst 16) a.fst a.snd.fst a.snd.snd.fst a.snd.snd.snd.fst a.snd.snd.snd.snd.fst a.snd.snd.snd.snd.snd 0 0 0 0 a.fst 0 [] [] a.snd.fst 0
def reply_Echo_K1 (t2 : Int) (t2_2 : Int) (t2_3 : List Bool) (t2_4 : List Int) (t2_5 : Int) (t2_6 : Int) (r : Int) (r_2 : Int) (r_3 : List Bool) (r_4 : List Int) (r_5 : Int) (r_6 : Int) : Option (As [.pr (.int .u8) LAT1, .bool]) := reply_Echo_m1 t2 t2_2 t2_3 t2_4 t2_5 t2_6 r r_2 r_3 r_4 r_5 r_6
def reply_Echo_K2 (t33 : Bool) (a : Int) (a_2 : Int) (a_3 : Int) (a_4 : Int) (a_5 : List Int) (a_6 : List Bool) (t2 : Int) (t2_2 : Int) (t2_3 : Int) (t2_4 : Int) (r : Int) (r_2 : Int) (r_3 : List Bool) (r_4 : List Int) (r_5 : Int) (r_6 : Int) : Option (As [.pr (.int .u8) LAT1, .bool]) := reply_Echo_m2 (reply_Echo_K1) t33 a a_2 a_3 a_4 a_5 a_6 t2 t2_2 t2_3 t2_4 r r_2 r_3 r_4 r_5 r_6
def reply_Echo (x : As [.pr (.int .u8) LAT2]) : Option (As [.pr (.int .u8) LAT1, .bool]) := reply_Echo_m0 reply_Echo_K1 reply_Echo_K2 x.1
theorem reply_Echo_c1 (J : Orc (As [.pr (.int .u8) LAT1, .bool])) (t2 : Int) (t2_2 : Int) (t2_3 : List Bool) (t2_4 : List Int) (t2_5 : Int) (t2_6 : Int) (r : Int) (r_2 : Int) (r_3 : List Bool) (r_4 : List Int) (r_5 : Int) (r_6 : Int) : pfn Try.prog reply_Echo_e 6 18446744073709551616 (Ev.get reply_Echo_h) 42 reply_Echo_s J 15 [] (reply_Echo_k1 t2 t2_2 t2_3 t2_4 t2_5 t2_6 r r_2 r_3 r_4 r_5 r_6) = reply_Echo_m1 t2 t2_2 t2_3 t2_4 t2_5 t2_6 r r_2 r_3 r_4 r_5 r_6 := by kernel_rfl
theorem reply_Echo_c2 (J : Orc (As [.pr (.int .u8) LAT1, .bool])) (t33 : Bool) (a : Int) (a_2 : Int) (a_3 : Int) (a_4 : Int) (a_5 : List Int) (a_6 : List Bool) (t2 : Int) (t2_2 : Int) (t2_3 : Int) (t2_4 : Int) (r : Int) (r_2 : Int) (r_3 : List Bool) (r_4 : List Int) (r_5 : Int) (r_6 : Int) : pfn Try.prog reply_Echo_e 6 18446744073709551616 (Ev.get reply_Echo_h) 42 reply_Echo_s J 1967 [] (reply_Echo_k2 t33 a a_2 a_3 a_4 a_5 a_6 t2 t2_2 t2_3 t2_4 r r_2 r_3 r_4 r_5 r_6) = reply_Echo_m2 (fun t2 t2_2 t2_3 t2_4 t2_5 t2_6 r r_2 r_3 r_4 r_5 r_6 => J 15 [] (reply_Echo_k1 t2 t2_2 t2_3 t2_4 t2_5 t2_6 r r_2 r_3 r_4 r_5 r_6)) t33 a a_2 a_3 a_4 a_5 a_6 t2 t2_2 t2_3 t2_4 r r_2 r_3 r_4 r_5 r_6 := by kernel_rfl
theorem reply_Echo_c0 (J : Orc (As [.pr (.int .u8) LAT1, .bool])) (x : As [.pr (.int .u8) LAT2]) : rfn Try.prog reply_Echo_e 6 18446744073709551616 (Ev.get reply_Echo_h) 42 reply_Echo_s J x = reply_Echo_m0 (fun t2 t2_2 t2_3 t2_4 t2_5 t2_6 r r_2 r_3 r_4 r_5 r_6 => J 15 [] (reply_Echo_k1 t2 t2_2 t2_3 t2_4 t2_5 t2_6 r r_2 r_3 r_4 r_5 r_6)) (fun t33 a a_2 a_3 a_4 a_5 a_6 t2 t2_2 t2_3 t2_4 r r_2 r_3 r_4 r_5 r_6 => J 1967 [] (reply_Echo_k2 t33 a a_2 a_3 a_4 a_5 a_6 t2 t2_2 t2_3 t2_4 r r_2 r_3 r_4 r_5 r_6)) x.1 := by kernel_rfl
theorem reply_Echo_g1 (t2 : Int) (t2_2 : Int) (t2_3 : List Bool) (t2_4 : List Int) (t2_5 : Int) (t2_6 : Int) (r : Int) (r_2 : Int) (r_3 : List Bool) (r_4 : List Int) (r_5 : Int) (r_6 : Int) : jfn Try.prog reply_Echo_e 6 18446744073709551616 (Ev.get reply_Echo_h) 42 reply_Echo_s 15 [] (reply_Echo_k1 t2 t2_2 t2_3 t2_4 t2_5 t2_6 r r_2 r_3 r_4 r_5 r_6) = reply_Echo_K1 t2 t2_2 t2_3 t2_4 t2_5 t2_6 r r_2 r_3 r_4 r_5 r_6 := by
  rw [pfn_eq (by decide)]
  rw [reply_Echo_c1]
  rfl
theorem reply_Echo_g2 (t33 : Bool) (a : Int) (a_2 : Int) (a_3 : Int) (a_4 : Int) (a_5 : List Int) (a_6 : List Bool) (t2 : Int) (t2_2 : Int) (t2_3 : Int) (t2_4 : Int) (r : Int) (r_2 : Int) (r_3 : List Bool) (r_4 : List Int) (r_5 : Int) (r_6 : Int) : jfn Try.prog reply_Echo_e 6 18446744073709551616 (Ev.get reply_Echo_h) 42 reply_Echo_s 1967 [] (reply_Echo_k2 t33 a a_2 a_3 a_4 a_5 a_6 t2 t2_2 t2_3 t2_4 r r_2 r_3 r_4 r_5 r_6) = reply_Echo_K2 t33 a a_2 a_3 a_4 a_5 a_6 t2 t2_2 t2_3 t2_4 r r_2 r_3 r_4 r_5 r_6 := by
  rw [pfn_eq (by decide)]
  have e1 : (fun t2 t2_2 t2_3 t2_4 t2_5 t2_6 r r_2 r_3 r_4 r_5 r_6 => (jfn Try.prog reply_Echo_e 6 18446744073709551616 (Ev.get reply_Echo_h) 42 reply_Echo_s) 15 [] (reply_Echo_k1 t2 t2_2 t2_3 t2_4 t2_5 t2_6 r r_2 r_3 r_4 r_5 r_6)) = reply_Echo_K1 := funext fun t2 => funext fun t2_2 => funext fun t2_3 => funext fun t2_4 => funext fun t2_5 => funext fun t2_6 => funext fun r => funext fun r_2 => funext fun r_3 => funext fun r_4 => funext fun r_5 => funext fun r_6 => reply_Echo_g1 t2 t2_2 t2_3 t2_4 t2_5 t2_6 r r_2 r_3 r_4 r_5 r_6
  rw [reply_Echo_c2, e1]
  rfl
theorem reply_Echo_t (x : As [.pr (.int .u8) LAT2]) : evT Try.prog reply_Echo_e 6 18446744073709551616 (Ev.get reply_Echo_h) 42 reply_Echo_s x = reply_Echo x := by
  have e1 : (fun t2 t2_2 t2_3 t2_4 t2_5 t2_6 r r_2 r_3 r_4 r_5 r_6 => (jfn Try.prog reply_Echo_e 6 18446744073709551616 (Ev.get reply_Echo_h) 42 reply_Echo_s) 15 [] (reply_Echo_k1 t2 t2_2 t2_3 t2_4 t2_5 t2_6 r r_2 r_3 r_4 r_5 r_6)) = reply_Echo_K1 := funext fun t2 => funext fun t2_2 => funext fun t2_3 => funext fun t2_4 => funext fun t2_5 => funext fun t2_6 => funext fun r => funext fun r_2 => funext fun r_3 => funext fun r_4 => funext fun r_5 => funext fun r_6 => reply_Echo_g1 t2 t2_2 t2_3 t2_4 t2_5 t2_6 r r_2 r_3 r_4 r_5 r_6
  have e2 : (fun t33 a a_2 a_3 a_4 a_5 a_6 t2 t2_2 t2_3 t2_4 r r_2 r_3 r_4 r_5 r_6 => (jfn Try.prog reply_Echo_e 6 18446744073709551616 (Ev.get reply_Echo_h) 42 reply_Echo_s) 1967 [] (reply_Echo_k2 t33 a a_2 a_3 a_4 a_5 a_6 t2 t2_2 t2_3 t2_4 r r_2 r_3 r_4 r_5 r_6)) = reply_Echo_K2 := funext fun t33 => funext fun a => funext fun a_2 => funext fun a_3 => funext fun a_4 => funext fun a_5 => funext fun a_6 => funext fun t2 => funext fun t2_2 => funext fun t2_3 => funext fun t2_4 => funext fun r => funext fun r_2 => funext fun r_3 => funext fun r_4 => funext fun r_5 => funext fun r_6 => reply_Echo_g2 t33 a a_2 a_3 a_4 a_5 a_6 t2 t2_2 t2_3 t2_4 r r_2 r_3 r_4 r_5 r_6
  rw [rfn_eq, reply_Echo_c0, e1, e2]
  rfl
theorem reply_Echo_ok : CtOk Try.prog (fun _ => True) 42 ⟨reply_Echo_s, reply_Echo⟩ := ct_of_ev (env_cons ask_Right_ok env_nil) reply_Echo_t
/-! slices_Index_Gbool -/
@[reducible] def slices_Index_Gbool_s : Sh := ⟨[.d (.sl .bool), .d (.bool)], [], [.sl .bool, .bool], [.d (.int .i64)], [], 0, [.int .i64]⟩
def slices_Index_Gbool_e : Env := (cts [])
def slices_Index_Gbool_h : List (Nat × Hint) := [(26, ⟨[], [0, 1, 7, 8]⟩)]
def slices_Index_Gbool_k1 (s : List Bool) (v : Bool) (t7 : Int) (t8 : Int) : St := { fr := [(0, .d (.sl .bool) s), (1, .d .bool v), (7, .d (.int .i64) t7), (8, .d (.int .i64) t8)], nt := 19, up := [], own := [], nx := 0, log := [], ln := 0 }
def slices_Index_Gbool_m1 (self1 : List Bool → Bool → Int → Int → Option (As [.int .i64])) (s : List Bool) (v : Bool) (t7 : Int) (t8 : Int) : Option (As [.int .i64]) :=
  if lt t8 t7 = true then Option.bind (at? s t8) fun (y : Bool) => if Sx.eqb v y = true then some (t8, ()) else self1 s v t7 (add .i64 t8 1) else some (-1, ())
def slices_Index_Gbool_m0 (j1 : List Bool → Bool → Int → Int → Option (As [.int .i64])) (s : List Bool) (v : Bool) : Option (As [.int .i64]) :=
  j1 s v (Int.ofNat (List.length s)) 0
def slices_Index_Gbool_K1 (s : List Bool) (v : Bool) (t7 : Int) (t8 : Int) : Option (As [.int .i64]) :=
  loopF (fun (self : (List Bool) × (Bool) × (Int) × (Int) → Option (As [.int .i64])) (s : (List Bool) × (Bool) × (Int) × (Int)) => slices_Index_Gbool_m1 (fun s v t7 t8 => self (s, v, t7, t8)) s.1 s.2.1 s.2.2.1 s.2.2.2) 18446744073709551616 (s, v, t7, t8)
def slices_Index_Gbool (x : As [.sl .bool, .bool]) : Option (As [.int .i64]) := slices_Index_Gbool_m0 slices_Index_Gbool_K1 x.1 x.2.1
theorem slices_Index_Gbool_c1 (J : Orc (As [.int .i64])) (w1 : St → Option (As [.int .i64])) (s : List Bool) (v : Bool) (t7 : Int) (t8 : Int) : pfn Try.prog slices_Index_Gbool_e 6 18446744073709551616 (Ev.get slices_Index_Gbool_h) 56 slices_Index_Gbool_s J 26 [w1] (slices_Index_Gbool_k1 s v t7 t8) = slices_Index_Gbool_m1 (fun s v t7 t8 => w1 (slices_Index_Gbool_k1 s v t7 t8)) s v t7 t8 := by kernel_rfl
theorem slices_Index_Gbool_c0 (J : Orc (As [.int .i64])) (x : As [.sl .bool, .bool]) : rfn Try.prog slices_Index_Gbool_e 6 18446744073709551616 (Ev.get slices_Index_Gbool_h) 56 slices_Index_Gbool_s J x = slices_Index_Gbool_m0 (fun s v t7 t8 => J 26 [] (slices_Index_Gbool_k1 s v t7 t8)) x.1 x.2.1 := by kernel_rfl
theorem slices_Index_Gbool_g1 (s : List Bool) (v : Bool) (t7 : Int) (t8 : Int) : jfn Try.prog slices_Index_Gbool_e 6 18446744073709551616 (Ev.get slices_Index_Gbool_h) 56 slices_Index_Gbool_s 26 [] (slices_Index_Gbool_k1 s v t7 t8) = slices_Index_Gbool_K1 s v t7 t8 := by
  rw [pfn_eq (by decide)]
  rw [pfn_loop (by kernel_rfl)]
  refine loopF_sim (σ := (List Bool) × (Bool) × (Int) × (Int)) (mk := fun s => slices_Index_Gbool_k1 s.1 s.2.1 s.2.2.1 s.2.2.2) (fun w1 s => ?_) 18446744073709551616 (s, v, t7, t8)
  refine (slices_Index_Gbool_c1 _ w1 s.1 s.2.1 s.2.2.1 s.2.2.2).trans ?_
  rfl
theorem slices_Index_Gbool_t (x : As [.sl .bool, .bool]) : evT Try.prog slices_Index_Gbool_e 6 18446744073709551616 (Ev.get slices_Index_Gbool_h) 56 slices_Index_Gbool_s x = slices_Index_Gbool x := by
  have e1 : (fun s v t7 t8 => (jfn Try.prog slices_Index_Gbool_e 6 18446744073709551616 (Ev.get slices_Index_Gbool_h) 56 slices_Index_Gbool_s) 26 [] (slices_Index_Gbool_k1 s v t7 t8)) = slices_Index_Gbool_K1 := funext fun s => funext fun v => funext fun t7 => funext fun t8 => slices_Index_Gbool_g1 s v t7 t8
  rw [rfn_eq, slices_Index_Gbool_c0, e1]
  rfl
theorem slices_Index_Gbool_ok : CtOk Try.prog (fun _ => True) 56 ⟨slices_Index_Gbool_s, slices_Index_Gbool⟩ := ct_of_ev env_nil slices_Index_Gbool_t
/-! slices_Contains_Gbool -/
@[reducible] def slices_Contains_Gbool_s : Sh := ⟨[.d (.sl .bool), .d (.bool)], [], [.sl .bool, .bool], [.d (.bool)], [], 0, [.bool]⟩
def slices_Contains_Gbool_e : Env := (cts [(56, (⟨slices_Index_Gbool_s, slices_Index_Gbool⟩ : Ct))])
def slices_Contains_Gbool_h : List (Nat × Hint) := []
def slices_Contains_Gbool_m0 (s : List Bool) (v : Bool) : Option (As [.bool]) :=
  Option.bind (slices_Index_Gbool (s, v, ())) fun (y : Int × Unit) => some (ge y.fst 0, ())
def slices_Contains_Gbool (x : As [.sl .bool, .bool]) : Option (As [.bool]) := slices_Contains_Gbool_m0 x.1 x.2.1
theorem slices_Contains_Gbool_c0 (J : Orc (As [.bool])) (x : As [.sl .bool, .bool]) : rfn Try.prog slices_Contains_Gbool_e 6 18446744073709551616 (Ev.get slices_Contains_Gbool_h) 43 slices_Contains_Gbool_s J x = slices_Contains_Gbool_m0 x.1 x.2.1 := by kernel_rfl
theorem slices_Contains_Gbool_t (x : As [.sl .bool, .bool]) : evT Try.prog slices_Contains_Gbool_e 6 18446744073709551616 (Ev.get slices_Contains_Gbool_h) 43 slices_Contains_Gbool_s x = slices_Contains_Gbool x := by
  rw [rfn_eq, slices_Contains_Gbool_c0]
  rfl
theorem slices_Contains_Gbool_ok : CtOk Try.prog (fun _ => True) 43 ⟨slices_Contains_Gbool_s, slices_Contains_Gbool⟩ := ct_of_ev (env_cons slices_Index_Gbool_ok env_nil) slices_Contains_Gbool_t
/-! reply_Fits -/
@[reducible] def reply_Fits_s : Sh := ⟨[.d (.pr (.int .u8) LAT2), .d (.pr (.int .u8) LAT1)], [], [.pr (.int .u8) LAT2, .pr (.int .u8) LAT1], [.d (.bool)], [], 0, [.bool]⟩
def reply_Fits_e : Env := (cts [(13, (⟨ask_Right_s, ask_Right⟩ : Ct)), (15, (⟨reply_Right_s, reply_Right⟩ : Ct)), (19, (⟨reply_Same_s, reply_Same⟩ : Ct)), (42, (⟨reply_Echo_s, reply_Echo⟩ : Ct)), (43, (⟨slices_Contains_Gbool_s, slices_Contains_Gbool⟩ : Ct))])
def reply_Fits_h : List (Nat × Hint) := [(6, ⟨[], [2, 3, 22, 51, 52, 53, 54, 55, 56]⟩)]
def reply_Fits_k1 (t22 : Bool) (a : Int) (a_2 : Int) (a_3 : Int) (a_4 : Int) (a_5 : List Int) (a_6 : List Bool) (r : Int) (r_2 : Int) (r_3 : List Bool) (r_4 : List Int) (r_5 : Int) (r_6 : Int) : St := { fr := [(2, .pb 0 0), (3, .pb 1 0), (22, .d .bool t22)], nt := 63, up := [], own := [(0, .box 26 [.d (.int .u8) a, .d (.int .u16) a_2, .d (.int .u16) a_3, .d (.int .u16) a_4, .d (.sl (.int .u16)) a_5, .d (.sl .bool) a_6]), (1, .box 43 [.d (.int .u8) r, .d (.int .u8) r_2, .d (.sl .bool) r_3, .d (.sl (.int .u16)) r_4, .d (.int .u16) r_5, .d (.int .u16) r_6])], nx := 2, log := [], ln := 0 }
def reply_Fits_m1 (t22 : Bool) (a : Int) (a_2 : Int) (a_3 : Int) (a_4 : Int) (a_5 : List Int) (a_6 : List Bool) (r : Int) (r_2 : Int) (r_3 : List Bool) (r_4 : List Int) (r_5 : Int) (r_6 : Int) : Option (As [.bool]) :=
  if t22 = true then some (false, ()) else if nei r_2 0 = true then some (true, ()) else Option.bind (reply_Echo ((a, a_2, a_3, a_4, a_5, a_6), ())) fun (y : LAT4 × Bool × Unit) => if y.snd.fst = true then Option.bind (reply_Same (y.fst, (r, r_2, r_3, r_4, r_5, r_6), ())) fun (y : Bool × Unit) => some (y.fst, ()) else if gt (Int.ofNat (List.length r_3)) 0 = true then if eqi (Int.ofNat (List.length r_3)) (mul .i64 (quo .i64 (add .i64 (cvt .i64 a_3) 7) 8) 8) = true then Option.bind (cut r_3 (cvt .i64 a_3) (Int.ofNat (List.length r_3))) fun (y : List Bool) => Option.bind (slices_Contains_Gbool (y, true, ())) fun (y : Bool × Unit) => some (!y.fst, ()) else some (false, ()) else some (eqi (Int.ofNat (List.length r_4)) (cvt .i64 a_3), ())
def reply_Fits_m0 (j1 : Bool → Int → Int → Int → Int → List Int → List Bool → Int → Int → List Bool → List Int → Int → Int → Option (As [.bool])) (a : Int × Int × Int × Int × List Int × List Bool) (r : Int × Int × List Bool × List Int × Int × Int) : Option (As [.bool]) :=
  Option.bind (ask_Right (a, ())) fun (y : Bool × Unit) => if (!y.fst) = true then j1 true a.fst a.snd.fst a.snd.snd.fst a.snd.snd.snd.fst a.snd.snd.snd.snd.fst a.snd.snd.snd.snd.snd r.fst r.snd.fst r.snd.snd.fst r.snd.snd.snd.fst r.snd.snd.snd.snd.fst r.snd.snd.snd.snd.snd else Option.bind (reply_Right (r, ())) fun (y : Bool × Unit) => if (!y.fst) = true then j1 true a.fst a.snd.fst a.snd.snd.fst a.snd.snd.snd.fst a.snd.snd.snd.snd.fst a.snd.snd.snd.snd.snd r.fst r.snd.fst r.snd.snd.fst r.snd.snd.snd.fst r.snd.snd.snd.snd.fst r.snd.snd.snd.snd.snd else j1 (nei a.fst r.fst) a.fst a.snd.fst a.snd.snd.fst a.snd.snd.snd.fst a.snd.snd.snd.snd.fst a.snd.snd.snd.snd.snd r.fst r.snd.fst r.snd.snd.fst r.snd.snd.snd.fst r.snd.snd.snd.snd.fst r.snd.snd.snd.snd.snd
def reply_Fits_K1 (t22 : Bool) (a : Int) (a_2 : Int) (a_3 : Int) (a_4 : Int) (a_5 : List Int) (a_6 : List Bool) (r : Int) (r_2 : Int) (r_3 : List Bool) (r_4 : List Int) (r_5 : Int) (r_6 : Int) : Option (As [.bool]) := reply_Fits_m1 t22 a a_2 a_3 a_4 a_5 a_6 r r_2 r_3 r_4 r_5 r_6
def reply_Fits (x : As [.pr (.int .u8) LAT2, .pr (.int .u8) LAT1]) : Option (As [.bool]) := reply_Fits_m0 reply_Fits_K1 x.1 x.2.1
theorem reply_Fits_c1 (J : Orc (As [.bool])) (t22 : Bool) (a : Int) (a_2 : Int) (a_3 : Int) (a_4 : Int) (a_5 : List Int) (a_6 : List Bool) (r : Int) (r_2 : Int) (r_3 : List Bool) (r_4 : List Int) (r_5 : Int) (r_6 : Int) : pfn Try.prog reply_Fits_e 6 18446744073709551616 (Ev.get reply_Fits_h) 18 reply_Fits_s J 6 [] (reply_Fits_k1 t22 a a_2 a_3 a_4 a_5 a_6 r r_2 r_3 r_4 r_5 r_6) = reply_Fits_m1 t22 a a_2 a_3 a_4 a_5 a_6 r r_2 r_3 r_4 r_5 r_6 := by kernel_rfl
theorem reply_Fits_c0 (J : Orc (As [.bool])) (x : As [.pr (.int .u8) LAT2, .pr (.int .u8) LAT1]) : rfn Try.prog reply_Fits_e 6 18446744073709551616 (Ev.get reply_Fits_h) 18 reply_Fits_s J x = reply_Fits_m0 (fun t22 a a_2 a_3 a_4 a_5 a_6 r r_2 r_3 r_4 r_5 r_6 => J 6 [] (reply_Fits_k1 t22 a a_2 a_3 a_4 a_5 a_6 r r_2 r_3 r_4 r_5 r_6)) x.1 x.2.1 := by kernel_rfl
theorem reply_Fits_g1 (t22 : Bool) (a : Int) (a_2 : Int) (a_3 : Int) (a_4 : Int) (a_5 : List Int) (a_6 : List Bool) (r : Int) (r_2 : Int) (r_3 : List Bool) (r_4 : List Int) (r_5 : Int) (r_6 : Int) : jfn Try.prog reply_Fits_e 6 18446744073709551616 (Ev.get reply_Fits_h) 18 reply_Fits_s 6 [] (reply_Fits_k1 t22 a a_2 a_3 a_4 a_5 a_6 r r_2 r_3 r_4 r_5 r_6) = reply_Fits_K1 t22 a a_2 a_3 a_4 a_5 a_6 r r_2 r_3 r_4 r_5 r_6 := by
  rw [pfn_eq (by decide)]
  rw [reply_Fits_c1]
  rfl
theorem reply_Fits_t (x : As [.pr (.int .u8) LAT2, .pr (.int .u8) LAT1]) : evT Try.prog reply_Fits_e 6 18446744073709551616 (Ev.get reply_Fits_h) 18 reply_Fits_s x = reply_Fits x := by
  have e1 : (fun t22 a a_2 a_3 a_4 a_5 a_6 r r_2 r_3 r_4 r_5 r_6 => (jfn Try.prog reply_Fits_e 6 18446744073709551616 (Ev.get reply_Fits_h) 18 reply_Fits_s) 6 [] (reply_Fits_k1 t22 a a_2 a_3 a_4 a_5 a_6 r r_2 r_3 r_4 r_5 r_6)) = reply_Fits_K1 := funext fun t22 => funext fun a => funext fun a_2 => funext fun a_3 => funext fun a_4 => funext fun a_5 => funext fun a_6 => funext fun r => funext fun r_2 => funext fun r_3 => funext fun r_4 => funext fun r_5 => funext fun r_6 => reply_Fits_g1 t22 a a_2 a_3 a_4 a_5 a_6 r r_2 r_3 r_4 r_5 r_6
  rw [rfn_eq, reply_Fits_c0, e1]
  rfl
theorem reply_Fits_ok : CtOk Try.prog (fun _ => True) 18 ⟨reply_Fits_s, reply_Fits⟩ := ct_of_ev (env_cons ask_Right_ok (env_cons reply_Right_ok (env_cons reply_Same_ok (env_cons reply_Echo_ok (env_cons slices_Contains_Gbool_ok env_nil))))) reply_Fits_t
/-! mbap_begins -/
@[reducible] def mbap_begins_s : Sh := ⟨[.d (.sl (.int .u8))], [], [.sl (.int .u8)], [.d (.bool)], [], 0, [.bool]⟩
def mbap_begins_e : Env := (cts [])
def mbap_begins_h : List (Nat × Hint) := [(26, ⟨[], [0, 3, 7, 8, 9, 10, 17, 18, 19, 20, 21, 26, 27, 28, 29, 30, 31, 32, 33, 34, 35, 36, 37, 38]⟩), (841, ⟨[], [0, 3, 39]⟩), (840, ⟨[], [0, 3, 22]⟩), (104, ⟨[], [0, 3, 11]⟩)]
def mbap_begins_k1 (b : List Int) (i : Int) : St := { fr := [(0, .d (.sl (.int .u8)) b), (3, .d (.int .i64) i)], nt := 40, up := [], own := [], nx := 0, log := [], ln := 0 }
def mbap_begins_k2 (b : List Int) (i : Int) (t11 : Bool) : St := { fr := [(0, .d (.sl (.int .u8)) b), (3, .d (.int .i64) i), (11, .d .bool t11)], nt := 40, up := [], own := [], nx := 0, log := [], ln := 0 }
def mbap_begins_k3 (b : List Int) (i : Int) (t22 : Bool) : St := { fr := [(0, .d (.sl (.int .u8)) b), (3, .d (.int .i64) i), (22, .d .bool t22)], nt := 40, up := [], own := [], nx := 0, log := [], ln := 0 }
def mbap_begins_k4 (b : List Int) (i : Int) (t39 : Bool) : St := { fr := [(0, .d (.sl (.int .u8)) b), (3, .d (.int .i64) i), (39, .d .bool t39)], nt := 40, up := [], own := [], nx := 0, log := [], ln := 0 }
def mbap_begins_m1 (j2 : List Int → Int → Bool → Option (As [.bool])) (self1 : List Int → Int → Option (As [.bool])) (b : List Int) (i : Int) : Option (As [.bool]) :=
  if lt i 6 = true then j2 b i (lt i (Int.ofNat (List.length b))) else j2 b i false
def mbap_begins_m2 (j3 : List Int → Int → Bool → Option (As [.bool])) (self1 : List Int → Int → Option (As [.bool])) (b : List Int) (i : Int) (t11 : Bool) : Option (As [.bool]) :=
  if t11 = true then if lt i 5 = true then Option.bind (at? b i) fun (y : Int) => j3 b i (nei y 0) else j3 b i false else some (true, ())
def mbap_begins_m3 (j4 : List Int → Int → Bool → Option (As [.bool])) (self1 : List Int → Int → Option (As [.bool])) (b : List Int) (i : Int) (t22 : Bool) : Option (As [.bool]) :=
  if t22 = true then some (false, ()) else if eqi i 5 = true then Option.bind (at? b i) fun (y : Int) => if lt y 2 = true then j4 b i true else Option.bind (at? b i) fun (y : Int) => j4 b i (gt (cvt .i64 y) 254) else j4 b i false
def mbap_begins_m4 (self1 : List Int → Int → Option (As [.bool])) (b : List Int) (i : Int) (t39 : Bool) : Option (As [.bool]) :=
  if t39 = true then some (false, ()) else self1 b (add .i64 i 1)
def mbap_begins_m0 (j1 : List Int → Int → Option (As [.bool])) (b : List Int) : Option (As [.bool]) :=
  j1 b 2
def mbap_begins_K4 (u1 : List Int → Int → Option (As [.bool])) (b : List Int) (i : Int) (t39 : Bool) : Option (As [.bool]) := mbap_begins_m4 u1 b i t39
def mbap_begins_K3 (u1 : List Int → Int → Option (As [.bool])) (b : List Int) (i : Int) (t22 : Bool) : Option (As [.bool]) := mbap_begins_m3 (mbap_begins_K4 u1) u1 b i t22
def mbap_begins_K2 (u1 : List Int → Int → Option (As [.bool])) (b : List Int) (i : Int) (t11 : Bool) : Option (As [.bool]) := mbap_begins_m2 (mbap_begins_K3 u1) u1 b i t11
def mbap_begins_K1 (b : List Int) (i : Int) : Option (As [.bool]) :=
  loopF (fun (self : (List Int) × (Int) → Option (As [.bool])) (s : (List Int) × (Int)) => mbap_begins_m1 (mbap_begins_K2 (fun b i => self (b, i))) (fun b i => self (b, i)) s.1 s.2) 18446744073709551616 (b, i)
def mbap_begins (x : As [.sl (.int .u8)]) : Option (As [.bool]) := mbap_begins_m0 mbap_begins_K1 x.1
theorem mbap_begins_c4 (J : Orc (As [.bool])) (w1 : St → Option (As [.bool])) (b : List Int) (i : Int) (t39 : Bool) : pfn Try.prog mbap_begins_e 6 18446744073709551616 (Ev.get mbap_begins_h) 57 mbap_begins_s J 841 [w1] (mbap_begins_k4 b i t39) = mbap_begins_m4 (fun b i => w1 (mbap_begins_k1 b i)) b i t39 := by kernel_rfl
theorem mbap_begins_c3 (J : Orc (As [.bool])) (w1 : St → Option (As [.bool])) (b : List Int) (i : Int) (t22 : Bool) : pfn Try.prog mbap_begins_e 6 18446744073709551616 (Ev.get mbap_begins_h) 57 mbap_begins_s J 840 [w1] (mbap_begins_k3 b i t22) = mbap_begins_m3 (fun b i t39 => J 841 [w1] (mbap_begins_k4 b i t39)) (fun b i => w1 (mbap_begins_k1 b i)) b i t22 := by kernel_rfl
theorem mbap_begins_c2 (J : Orc (As [.bool])) (w1 : St → Option (As [.bool])) (b : List Int) (i : Int) (t11 : Bool) : pfn Try.prog mbap_begins_e 6 18446744073709551616 (Ev.get mbap_begins_h) 57 mbap_begins_s J 104 [w1] (mbap_begins_k2 b i t11) = mbap_begins_m2 (fun b i t22 => J 840 [w1] (mbap_begins_k3 b i t22)) (fun b i => w1 (mbap_begins_k1 b i)) b i t11 := by kernel_rfl
theorem mbap_begins_c1 (J : Orc (As [.bool])) (w1 : St → Option (As [.bool])) (b : List Int) (i : Int) : pfn Try.prog mbap_begins_e 6 18446744073709551616 (Ev.get mbap_begins_h) 57 mbap_begins_s J 26 [w1] (mbap_begins_k1 b i) = mbap_begins_m1 (fun b i t11 => J 104 [w1] (mbap_begins_k2 b i t11)) (fun b i => w1 (mbap_begins_k1 b i)) b i := by kernel_rfl
theorem mbap_begins_c0 (J : Orc (As [.bool])) (x : As [.sl (.int .u8)]) : rfn Try.prog mbap_begins_e 6 18446744073709551616 (Ev.get mbap_begins_h) 57 mbap_begins_s J x = mbap_begins_m0 (fun b i => J 26 [] (mbap_begins_k1 b i)) x.1 := by kernel_rfl
theorem mbap_begins_g4 (w1 : St → Option (As [.bool])) (b : List Int) (i : Int) (t39 : Bool) : jfn Try.prog mbap_begins_e 6 18446744073709551616 (Ev.get mbap_begins_h) 57 mbap_begins_s 841 [w1] (mbap_begins_k4 b i t39) = mbap_begins_K4 (fun b i => w1 (mbap_begins_k1 b i)) b i t39 := by
  rw [pfn_eq (by decide)]
  rw [mbap_begins_c4]
  rfl
theorem mbap_begins_g3 (w1 : St → Option (As [.bool])) (b : List Int) (i : Int) (t22 : Bool) : jfn Try.prog mbap_begins_e 6 18446744073709551616 (Ev.get mbap_begins_h) 57 mbap_begins_s 840 [w1] (mbap_begins_k3 b i t22) = mbap_begins_K3 (fun b i => w1 (mbap_begins_k1 b i)) b i t22 := by
  rw [pfn_eq (by decide)]
  have e4 : (fun b i t39 => (jfn Try.prog mbap_begins_e 6 18446744073709551616 (Ev.get mbap_begins_h) 57 mbap_begins_s) 841 [w1] (mbap_begins_k4 b i t39)) = mbap_begins_K4 (fun b i => w1 (mbap_begins_k1 b i)) := funext fun b => funext fun i => funext fun t39 => mbap_begins_g4 w1 b i t39
  rw [mbap_begins_c3, e4]
  rfl
theorem mbap_begins_g2 (w1 : St → Option (As [.bool])) (b : List Int) (i : Int) (t11 : Bool) : jfn Try.prog mbap_begins_e 6 18446744073709551616 (Ev.get mbap_begins_h) 57 mbap_begins_s 104 [w1] (mbap_begins_k2 b i t11) = mbap_begins_K2 (fun b i => w1 (mbap_begins_k1 b i)) b i t11 := by
  rw [pfn_eq (by decide)]
  have e3 : (fun b i t22 => (jfn Try.prog mbap_begins_e 6 18446744073709551616 (Ev.get mbap_begins_h) 57 mbap_begins_s) 840 [w1] (mbap_begins_k3 b i t22)) = mbap_begins_K3 (fun b i => w1 (mbap_begins_k1 b i)) := funext fun b => funext fun i => funext fun t22 => mbap_begins_g3 w1 b i t22
  rw [mbap_begins_c2, e3]
  rfl
theorem mbap_begins_g1 (b : List Int) (i : Int) : jfn Try.prog mbap_begins_e 6 18446744073709551616 (Ev.get mbap_begins_h) 57 mbap_begins_s 26 [] (mbap_begins_k1 b i) = mbap_begins_K1 b i := by
  rw [pfn_eq (by decide)]
  rw [pfn_loop (by kernel_rfl)]
  refine loopF_sim (σ := (List Int) × (Int)) (mk := fun s => mbap_begins_k1 s.1 s.2) (fun w1 s => ?_) 18446744073709551616 (b, i)
  have e2 : (fun b i t11 => (jfn Try.prog mbap_begins_e 6 18446744073709551616 (Ev.get mbap_begins_h) 57 mbap_begins_s) 104 [w1] (mbap_begins_k2 b i t11)) = mbap_begins_K2 (fun b i => w1 (mbap_begins_k1 b i)) := funext fun b => funext fun i => funext fun t11 => mbap_begins_g2 w1 b i t11
  refine (mbap_begins_c1 _ w1 s.1 s.2).trans ?_
  rw [e2]
theorem mbap_begins_t (x : As [.sl (.int .u8)]) : evT Try.prog mbap_begins_e 6 18446744073709551616 (Ev.get mbap_begins_h) 57 mbap_begins_s x = mbap_begins x := by
  have e1 : (fun b i => (jfn Try.prog mbap_begins_e 6 18446744073709551616 (Ev.get mbap_begins_h) 57 mbap_begins_s) 26 [] (mbap_begins_k1 b i)) = mbap_begins_K1 := funext fun b => funext fun i => mbap_begins_g1 b i
  rw [rfn_eq, mbap_begins_c0, e1]
  rfl
theorem mbap_begins_ok : CtOk Try.prog (fun _ => True) 57 ⟨mbap_begins_s, mbap_begins⟩ := ct_of_ev env_nil mbap_begins_t
/-! mbap_first -/
@[reducible] def mbap_first_s : Sh := ⟨[.d (.sl (.int .u8))], [], [.sl (.int .u8)], [.d (.pr (.int .u16) LAT5), .d (.int .i64)], [], 0, [.pr (.int .u16) LAT5, .int .i64]⟩
def mbap_first_e : Env := (cts [(57, (⟨mbap_begins_s, mbap_begins⟩ : Ct))])
def mbap_first_h : List (Nat × Hint) := [(6, ⟨[], [0, 2, 13]⟩)]
def mbap_first_k1 (b : List Int) (t13 : Bool) (t2 : Int) (t2_2 : Int) : St := { fr := [(0, .d (.sl (.int .u8)) b), (2, .pb 0 0), (13, .d .bool t13)], nt := 49, up := [], own := [(0, .box 64 [.d (.int .u16) t2, .d (.int .u8) t2_2, .k (Go.Value.slice Option.none 0 0)])], nx := 1, log := [], ln := 0 }
def mbap_first_m1 (b : List Int) (t13 : Bool) (t2 : Int) (t2_2 : Int) : Option (As [.pr (.int .u16) LAT5, .int .i64]) :=
  if t13 = true then some ((0, 0, []), 0, ()) else Option.bind (at? b 5) fun (y : Int) => if lt (Int.ofNat (List.length b)) (add .i64 6 (cvt .i64 y)) = true then some ((0, 0, []), 0, ()) else need (ge (Sx.sub .i64 (add .i64 6 (cvt .i64 y)) 7) 0) (need (Ev.capOk (Sx.sub .i64 (add .i64 6 (cvt .i64 y)) 7) (Sx.sub .i64 (add .i64 6 (cvt .i64 y)) 7)) (need (small (Int.toNat (Sx.sub .i64 (add .i64 6 (cvt .i64 y)) 7))) (Option.bind (cut b 7 (add .i64 6 (cvt .i64 y))) fun (y_1 : List Int) => need (le (Int.ofNat (0 + List.length (List.replicate (α := Int) (Int.toNat (Sx.sub .i64 (add .i64 6 (cvt .i64 y)) 7)) 0))) (Int.ofNat (List.length (List.replicate (α := Int) (Int.toNat (Sx.sub .i64 (add .i64 6 (cvt .i64 y)) 7)) 0)))) (Option.bind (at? b 0) fun (y_2 : Int) => Option.bind (at? b 1) fun (y_3 : Int) => Option.bind (at? b 6) fun (y_4 : Int) => some ((Sx.bor .u16 (Sx.shl .u16 (cvt .u16 y_2) 8) (cvt .u16 y_3), y_4, [] ++ List.take (Int.toNat (Int.ofNat (List.length (List.replicate (α := Int) (Int.toNat (Sx.sub .i64 (add .i64 6 (cvt .i64 y)) 7)) 0)))) y_1 ++ List.drop (0 + List.length (List.take (Int.toNat (Int.ofNat (List.length (List.replicate (α := Int) (Int.toNat (Sx.sub .i64 (add .i64 6 (cvt .i64 y)) 7)) 0)))) y_1)) (List.replicate (Int.toNat (Sx.sub .i64 (add .i64 6 (cvt .i64 y)) 7)) 0)), add .i64 6 (cvt .i64 y), ())))))
def mbap_first_m0 (j1 : List Int → Bool → Int → Int → Option (As [.pr (.int .u16) LAT5, .int .i64])) (b : List Int) : Option (As [.pr (.int .u16) LAT5, .int .i64]) :=
  if le (Int.ofNat (List.length b)) 7 = true then j1 b true 0 0 else Option.bind (mbap_begins (b, ())) fun (y : Bool × Unit) => j1 b (!y.fst) 0 0
def mbap_first_K1 (b : List Int) (t13 : Bool) (t2 : Int) (t2_2 : Int) : Option (As [.pr (.int .u16) LAT5, .int .i64]) := mbap_first_m1 b t13 t2 t2_2
def mbap_first (x : As [.sl (.int .u8)]) : Option (As [.pr (.int .u16) LAT5, .int .i64]) := mbap_first_m0 mbap_first_K1 x.1
theorem mbap_first_c1 (J : Orc (As [.pr (.int .u16) LAT5, .int .i64])) (b : List Int) (t13 : Bool) (t2 : Int) (t2_2 : Int) : pfn Try.prog mbap_first_e 6 18446744073709551616 (Ev.get mbap_first_h) 46 mbap_first_s J 6 [] (mbap_first_k1 b t13 t2 t2_2) = mbap_first_m1 b t13 t2 t2_2 := by kernel_rfl
theorem mbap_first_c0 (J : Orc (As [.pr (.int .u16) LAT5, .int .i64])) (x : As [.sl (.int .u8)]) : rfn Try.prog mbap_first_e 6 18446744073709551616 (Ev.get mbap_first_h) 46 mbap_first_s J x = mbap_first_m0 (fun b t13 t2 t2_2 => J 6 [] (mbap_first_k1 b t13 t2 t2_2)) x.1 := by kernel_rfl
theorem mbap_first_g1 (b : List Int) (t13 : Bool) (t2 : Int) (t2_2 : Int) : jfn Try.prog mbap_first_e 6 18446744073709551616 (Ev.get mbap_first_h) 46 mbap_first_s 6 [] (mbap_first_k1 b t13 t2 t2_2) = mbap_first_K1 b t13 t2 t2_2 := by
  rw [pfn_eq (by decide)]
  rw [mbap_first_c1]
  rfl
theorem mbap_first_t (x : As [.sl (.int .u8)]) : evT Try.prog mbap_first_e 6 18446744073709551616 (Ev.get mbap_first_h) 46 mbap_first_s x = mbap_first x := by
  have e1 : (fun b t13 t2 t2_2 => (jfn Try.prog mbap_first_e 6 18446744073709551616 (Ev.get mbap_first_h) 46 mbap_first_s) 6 [] (mbap_first_k1 b t13 t2 t2_2)) = mbap_first_K1 := funext fun b => funext fun t13 => funext fun t2 => funext fun t2_2 => mbap_first_g1 b t13 t2 t2_2
  rw [rfn_eq, mbap_first_c0, e1]
  rfl
theorem mbap_first_ok : CtOk Try.prog (fun _ => True) 46 ⟨mbap_first_s, mbap_first⟩ := ct_of_ev (env_cons mbap_begins_ok env_nil) mbap_first_t
/-! mbap_Parse -/
@[reducible] def mbap_Parse_s : Sh := ⟨[.d (.sl (.int .u8))], [], [.sl (.int .u8)], [.d (.pr (.int .u16) LAT5), .d (.int .i64)], [], 0, [.pr (.int .u16) LAT5, .int .i64]⟩
def mbap_Parse_e : Env := (cts [(46, (⟨mbap_first_s, mbap_first⟩ : Ct))])
def mbap_Parse_h : List (Nat × Hint) := [(14, ⟨[], [2, 4, 18]⟩)]
def mbap_Parse_k1 (t18 : Bool) (t2 : Int) (t2_2 : Int) (x : Int) (x_2 : Int) (x_3 : List Int) : St := { fr := [(2, .pb 0 0), (4, .pb 1 0), (18, .d .bool t18)], nt := 21, up := [], own := [(0, .box 64 [.d (.int .u16) t2, .d (.int .u8) t2_2, .k (Go.Value.slice Option.none 0 0)]), (1, .box 64 [.d (.int .u16) x, .d (.int .u8) x_2, .d (.sl (.int .u8)) x_3])], nx := 2, log := [], ln := 0 }
def mbap_Parse_m1 (t18 : Bool) (t2 : Int) (t2_2 : Int) (x : Int) (x_2 : Int) (x_3 : List Int) : Option (As [.pr (.int .u16) LAT5, .int .i64]) :=
  if t18 = true then some ((0, 0, []), 10, ()) else some ((x, x_2, x_3), 0, ())
def mbap_Parse_m0 (j1 : Bool → Int → Int → Int → Int → List Int → Option (As [.pr (.int .u16) LAT5, .int .i64])) (b : List Int) : Option (As [.pr (.int .u16) LAT5, .int .i64]) :=
  Option.bind (mbap_first (b, ())) fun (y : (Int × Int × List Int) × Int × Unit) => if eqi y.snd.fst 0 = true then j1 true 0 0 y.fst.fst y.fst.snd.fst y.fst.snd.snd else j1 (nei y.snd.fst (Int.ofNat (List.length b))) 0 0 y.fst.fst y.fst.snd.fst y.fst.snd.snd
def mbap_Parse_K1 (t18 : Bool) (t2 : Int) (t2_2 : Int) (x : Int) (x_2 : Int) (x_3 : List Int) : Option (As [.pr (.int .u16) LAT5, .int .i64]) := mbap_Parse_m1 t18 t2 t2_2 x x_2 x_3
def mbap_Parse (x : As [.sl (.int .u8)]) : Option (As [.pr (.int .u16) LAT5, .int .i64]) := mbap_Parse_m0 mbap_Parse_K1 x.1
theorem mbap_Parse_c1 (J : Orc (As [.pr (.int .u16) LAT5, .int .i64])) (t18 : Bool) (t2 : Int) (t2_2 : Int) (x : Int) (x_2 : Int) (x_3 : List Int) : pfn Try.prog mbap_Parse_e 6 18446744073709551616 (Ev.get mbap_Parse_h) 26 mbap_Parse_s J 14 [] (mbap_Parse_k1 t18 t2 t2_2 x x_2 x_3) = mbap_Parse_m1 t18 t2 t2_2 x x_2 x_3 := by kernel_rfl
theorem mbap_Parse_c0 (J : Orc (As [.pr (.int .u16) LAT5, .int .i64])) (x : As [.sl (.int .u8)]) : rfn Try.prog mbap_Parse_e 6 18446744073709551616 (Ev.get mbap_Parse_h) 26 mbap_Parse_s J x = mbap_Parse_m0 (fun t18 t2 t2_2 x x_2 x_3 => J 14 [] (mbap_Parse_k1 t18 t2 t2_2 x x_2 x_3)) x.1 := by kernel_rfl
theorem mbap_Parse_g1 (t18 : Bool) (t2 : Int) (t2_2 : Int) (x : Int) (x_2 : Int) (x_3 : List Int) : jfn Try.prog mbap_Parse_e 6 18446744073709551616 (Ev.get mbap_Parse_h) 26 mbap_Parse_s 14 [] (mbap_Parse_k1 t18 t2 t2_2 x x_2 x_3) = mbap_Parse_K1 t18 t2 t2_2 x x_2 x_3 := by
  rw [pfn_eq (by decide)]
  rw [mbap_Parse_c1]
  rfl
theorem mbap_Parse_t (x : As [.sl (.int .u8)]) : evT Try.prog mbap_Parse_e 6 18446744073709551616 (Ev.get mbap_Parse_h) 26 mbap_Parse_s x = mbap_Parse x := by
  have e1 : (fun t18 t2 t2_2 x x_2 x_3 => (jfn Try.prog mbap_Parse_e 6 18446744073709551616 (Ev.get mbap_Parse_h) 26 mbap_Parse_s) 14 [] (mbap_Parse_k1 t18 t2 t2_2 x x_2 x_3)) = mbap_Parse_K1 := funext fun t18 => funext fun t2 => funext fun t2_2 => funext fun x => funext fun x_2 => funext fun x_3 => mbap_Parse_g1 t18 t2 t2_2 x x_2 x_3
  rw [rfn_eq, mbap_Parse_c0, e1]
  rfl
theorem mbap_Parse_ok : CtOk Try.prog (fun _ => True) 26 ⟨mbap_Parse_s, mbap_Parse⟩ := ct_of_ev (env_cons mbap_first_ok env_nil) mbap_Parse_t
/-! bytes_Equal -/
@[reducible] def bytes_Equal_s : Sh := ⟨[.d (.sl (.int .u8)), .d (.sl (.int .u8))], [], [.sl (.int .u8), .sl (.int .u8)], [.d (.bool)], [], 0, [.bool]⟩
def bytes_Equal_e : Env := (cts [])
def bytes_Equal_h : List (Nat × Hint) := []
def bytes_Equal_m0 (a : List Int) (b : List Int) : Option (As [.bool]) :=
  some (eqs (Sx.toS a) (Sx.toS b), ())
def bytes_Equal (x : As [.sl (.int .u8), .sl (.int .u8)]) : Option (As [.bool]) := bytes_Equal_m0 x.1 x.2.1
theorem bytes_Equal_c0 (J : Orc (As [.bool])) (x : As [.sl (.int .u8), .sl (.int .u8)]) : rfn Try.prog bytes_Equal_e 6 18446744073709551616 (Ev.get bytes_Equal_h) 51 bytes_Equal_s J x = bytes_Equal_m0 x.1 x.2.1 := by kernel_rfl
theorem bytes_Equal_t (x : As [.sl (.int .u8), .sl (.int .u8)]) : evT Try.prog bytes_Equal_e 6 18446744073709551616 (Ev.get bytes_Equal_h) 51 bytes_Equal_s x = bytes_Equal x := by
  rw [rfn_eq, bytes_Equal_c0]
  rfl
theorem bytes_Equal_ok : CtOk Try.prog (fun _ => True) 51 ⟨bytes_Equal_s, bytes_Equal⟩ := ct_of_ev env_nil bytes_Equal_t
/-! reply_exception_read -/
@[reducible] def reply_exception_read_s : Sh := ⟨[.d (.un), .d (.sl (.int .u8))], [], [.un, .sl (.int .u8)], [.d (.pr (.int .u8) LAT1)], [], 0, [.pr (.int .u8) LAT1]⟩
def reply_exception_read_e : Env := (cts [(83, (⟨reply_Wrong_s, reply_Wrong⟩ : Ct))])
def reply_exception_read_h : List (Nat × Hint) := []
def reply_exception_read_m0 (v : Unit) (b : List Int) : Option (As [.pr (.int .u8) LAT1]) :=
  Option.bind (at? b 0) fun (y : Int) => Option.bind (at? b 1) fun (y_1 : Int) => Option.bind (reply_Wrong (y, y_1, ())) fun (y : LAT4 × Unit) => some (y.fst, ())
def reply_exception_read (x : As [.un, .sl (.int .u8)]) : Option (As [.pr (.int .u8) LAT1]) := reply_exception_read_m0 x.1 x.2.1
theorem reply_exception_read_c0 (J : Orc (As [.pr (.int .u8) LAT1])) (x : As [.un, .sl (.int .u8)]) : rfn Try.prog reply_exception_read_e 6 18446744073709551616 (Ev.get reply_exception_read_h) 80 reply_exception_read_s J x = reply_exception_read_m0 x.1 x.2.1 := by kernel_rfl
theorem reply_exception_read_t (x : As [.un, .sl (.int .u8)]) : evT Try.prog reply_exception_read_e 6 18446744073709551616 (Ev.get reply_exception_read_h) 80 reply_exception_read_s x = reply_exception_read x := by
  rw [rfn_eq, reply_exception_read_c0]
  rfl
theorem reply_exception_read_ok : CtOk Try.prog (fun _ => True) 80 ⟨reply_exception_read_s, reply_exception_read⟩ := ct_of_ev (env_cons reply_Wrong_ok env_nil) reply_exception_read_t
/-! reply_exception_write -/
@[reducible] def reply_exception_write_s : Sh := ⟨[.d (.un), .d (.pr (.int .u8) LAT1)], [], [.un, .pr (.int .u8) LAT1], [.d (.sl (.int .u8))], [], 0, [.sl (.int .u8)]⟩
def reply_exception_write_e : Env := (cts [])
def reply_exception_write_h : List (Nat × Hint) := []
def reply_exception_write_m0 (v : Unit) (r : Int × Int × List Bool × List Int × Int × Int) : Option (As [.sl (.int .u8)]) :=
  some ([add .u8 r.fst 128, r.snd.fst], ())
def reply_exception_write (x : As [.un, .pr (.int .u8) LAT1]) : Option (As [.sl (.int .u8)]) := reply_exception_write_m0 x.1 x.2.1
theorem reply_exception_write_c0 (J : Orc (As [.sl (.int .u8)])) (x : As [.un, .pr (.int .u8) LAT1]) : rfn Try.prog reply_exception_write_e 6 18446744073709551616 (Ev.get reply_exception_write_h) 82 reply_exception_write_s J x = reply_exception_write_m0 x.1 x.2.1 := by kernel_rfl
theorem reply_exception_write_t (x : As [.un, .pr (.int .u8) LAT1]) : evT Try.prog reply_exception_write_e 6 18446744073709551616 (Ev.get reply_exception_write_h) 82 reply_exception_write_s x = reply_exception_write x := by
  rw [rfn_eq, reply_exception_write_c0]
  rfl
theorem reply_exception_write_ok : CtOk Try.prog (fun _ => True) 82 ⟨reply_exception_write_s, reply_exception_write⟩ := ct_of_ev env_nil reply_exception_write_t
end Go.Proofs.Lx

end
