/- Proved in the last of these 11 parts (this is part 5): for every input PollTells returns true: what becomes of a poll, what it sends and which reply it takes, by requests, frames, ticks and drops, and which ones are right, are what the document's answer says. Conditions: those of the given statement, and no others. -/
import Derived.Test.YtbpmjafbgbcjeaaGreatPartd
import Derived.Test.YtbpmjafbgbcjeaaGreatProg
set_option linter.unusedVariables false
set_option linter.unusedSimpArgs false
set_option linter.unusedSectionVars false
section
/- Contracts, made by a program. -/
open Go Go.Proofs Ev Sx
set_option maxRecDepth 100000
namespace Go.Proofs.Lx
abbrev LAT2 : Ty := (.pr (.int .u16) (.pr (.int .u16) (.pr (.int .u16) (.pr (.sl (.int .u16)) (.sl .bool)))))
abbrev LAT0 : Ty := (.pr (.int .u8) (.pr (.int .i64) (.pr (.int .i64) (.pr .bool (.pr (.pr (.int .u8) LAT2) (.pr (.int .u16) (.pr (.int .i64) (.int .i64))))))))
abbrev LAT1 : Ty := (.pr (.int .u8) (.pr (.sl .bool) (.pr (.sl (.int .u16)) (.pr (.int .u16) (.int .u16)))))
abbrev LAT3 : Type := (Int × Int × Int × Int × List Int × List Bool)
abbrev LAT4 : Type := (Int × Int × List Bool × List Int × Int × Int)
abbrev LAT5 : Ty := (.pr (.int .u8) (.sl (.int .u8)))
abbrev LAT6 : Ty := (.pr (.int .i64) (.pr (.int .i64) (.pr .bool .bool)))
/-! low_Few -/
@[reducible] def low_Few_s : Sh := ⟨[.d (.sl (.int .u16)), .d (.sl .bool)], [], [.sl (.int .u16), .sl .bool], [.d (.bool)], [], 0, [.bool]⟩
def low_Few_e : Env := (cts [])
def low_Few_h : List (Nat × Hint) := []
def low_Few_m0 (words : List Int) (bits : List Bool) : Option (As [.bool]) :=
  if le (Int.ofNat (List.length words)) 200 = true then some (le (Int.ofNat (List.length bits)) 2100, ()) else some (false, ())
def low_Few (x : As [.sl (.int .u16), .sl .bool]) : Option (As [.bool]) := low_Few_m0 x.1 x.2.1
theorem low_Few_c0 (J : Orc (As [.bool])) (x : As [.sl (.int .u16), .sl .bool]) : rfn Tryz.prog low_Few_e 6 18446744073709551616 (Ev.get low_Few_h) 11 low_Few_s J x = low_Few_m0 x.1 x.2.1 := by kernel_rfl
theorem low_Few_t (x : As [.sl (.int .u16), .sl .bool]) : evT Tryz.prog low_Few_e 6 18446744073709551616 (Ev.get low_Few_h) 11 low_Few_s x = low_Few x := by
  rw [rfn_eq, low_Few_c0]
  rfl
theorem low_Few_ok : CtOk Tryz.prog (fun _ => True) 11 ⟨low_Few_s, low_Few⟩ := ct_of_ev env_nil low_Few_t
/-! poll_ranges -/
@[reducible] def poll_ranges_s : Sh := ⟨[.d (.int .u8), .d (.int .u8), .d (.int .i64), .d (.int .i64)], [], [.int .u8, .int .u8, .int .i64, .int .i64], [.d (.bool)], [], 0, [.bool]⟩
def poll_ranges_e : Env := (cts [])
def poll_ranges_h : List (Nat × Hint) := []
def poll_ranges_m0 (unit : Int) (link : Int) (timeout : Int) (retries : Int) : Option (As [.bool]) :=
  if ge unit 1 = true then if le unit 247 = true then if eqi link 1 = true then if ge timeout 1 = true then if le timeout 100000 = true then if ge retries 0 = true then some (le retries 1000, ()) else some (false, ()) else some (false, ()) else some (false, ()) else if eqi link 2 = true then if ge timeout 1 = true then if le timeout 100000 = true then if ge retries 0 = true then some (le retries 1000, ()) else some (false, ()) else some (false, ()) else some (false, ()) else some (false, ()) else some (false, ()) else some (false, ())
def poll_ranges (x : As [.int .u8, .int .u8, .int .i64, .int .i64]) : Option (As [.bool]) := poll_ranges_m0 x.1 x.2.1 x.2.2.1 x.2.2.2.1
theorem poll_ranges_c0 (J : Orc (As [.bool])) (x : As [.int .u8, .int .u8, .int .i64, .int .i64]) : rfn Tryz.prog poll_ranges_e 6 18446744073709551616 (Ev.get poll_ranges_h) 76 poll_ranges_s J x = poll_ranges_m0 x.1 x.2.1 x.2.2.1 x.2.2.2.1 := by kernel_rfl
theorem poll_ranges_t (x : As [.int .u8, .int .u8, .int .i64, .int .i64]) : evT Tryz.prog poll_ranges_e 6 18446744073709551616 (Ev.get poll_ranges_h) 76 poll_ranges_s x = poll_ranges x := by
  rw [rfn_eq, poll_ranges_c0]
  rfl
theorem poll_ranges_ok : CtOk Tryz.prog (fun _ => True) 76 ⟨poll_ranges_s, poll_ranges⟩ := ct_of_ev env_nil poll_ranges_t
/-! poll_New -/
@[reducible] def poll_New_s : Sh := ⟨[.d (.int .u8), .d (.int .u8), .d (.int .i64), .d (.int .i64)], [], [.int .u8, .int .u8, .int .i64, .int .i64], [.d (.pr (.int .u8) LAT0), .d (.int .i64)], [], 0, [.pr (.int .u8) LAT0, .int .i64]⟩
def poll_New_e : Env := (cts [(76, (⟨poll_ranges_s, poll_ranges⟩ : Ct))])
def poll_New_h : List (Nat × Hint) := []
def poll_New_m0 (unit : Int) (link : Int) (timeout : Int) (retries : Int) : Option (As [.pr (.int .u8) LAT0, .int .i64]) :=
  Option.bind (poll_ranges (unit, link, timeout, retries, ())) fun (y : Bool × Unit) => if (!y.1) = true then some ((0, 0, 0, 0, false, (0, 0, 0, 0, [], []), 0, 0, 0), 2, ()) else some ((unit, link, timeout, retries, false, (0, 0, 0, 0, [], []), 0, 0, 0), 0, ())
def poll_New (x : As [.int .u8, .int .u8, .int .i64, .int .i64]) : Option (As [.pr (.int .u8) LAT0, .int .i64]) := poll_New_m0 x.1 x.2.1 x.2.2.1 x.2.2.2.1
theorem poll_New_c0 (J : Orc (As [.pr (.int .u8) LAT0, .int .i64])) (x : As [.int .u8, .int .u8, .int .i64, .int .i64]) : rfn Tryz.prog poll_New_e 6 18446744073709551616 (Ev.get poll_New_h) 13 poll_New_s J x = poll_New_m0 x.1 x.2.1 x.2.2.1 x.2.2.2.1 := by kernel_rfl
theorem poll_New_t (x : As [.int .u8, .int .u8, .int .i64, .int .i64]) : evT Tryz.prog poll_New_e 6 18446744073709551616 (Ev.get poll_New_h) 13 poll_New_s x = poll_New x := by
  rw [rfn_eq, poll_New_c0]
  rfl
theorem poll_New_ok : CtOk Tryz.prog (fun _ => True) 13 ⟨poll_New_s, poll_New⟩ := ct_of_ev (env_cons poll_ranges_ok env_nil) poll_New_t
/-! poll_Drop -/
@[reducible] def poll_Drop_s : Sh := ⟨[.d (.pr (.int .u8) LAT0)], [], [.pr (.int .u8) LAT0], [.d (.pr (.int .u8) LAT0)], [], 0, [.pr (.int .u8) LAT0]⟩
def poll_Drop_e : Env := (cts [])
def poll_Drop_h : List (Nat × Hint) := []
def poll_Drop_m0 (p : Int × Int × Int × Int × Bool × LAT3 × Int × Int × Int) : Option (As [.pr (.int .u8) LAT0]) :=
  some ((p.1, p.2.1, p.2.2.1, p.2.2.2.1, false, (0, 0, 0, 0, [], []), p.2.2.2.2.2.2.1, 0, 0), ())
def poll_Drop (x : As [.pr (.int .u8) LAT0]) : Option (As [.pr (.int .u8) LAT0]) := poll_Drop_m0 x.1
theorem poll_Drop_c0 (J : Orc (As [.pr (.int .u8) LAT0])) (x : As [.pr (.int .u8) LAT0]) : rfn Tryz.prog poll_Drop_e 6 18446744073709551616 (Ev.get poll_Drop_h) 28 poll_Drop_s J x = poll_Drop_m0 x.1 := by kernel_rfl
theorem poll_Drop_t (x : As [.pr (.int .u8) LAT0]) : evT Tryz.prog poll_Drop_e 6 18446744073709551616 (Ev.get poll_Drop_h) 28 poll_Drop_s x = poll_Drop x := by
  rw [rfn_eq, poll_Drop_c0]
  rfl
theorem poll_Drop_ok : CtOk Tryz.prog (fun _ => True) 28 ⟨poll_Drop_s, poll_Drop⟩ := ct_of_ev env_nil poll_Drop_t
/-! slices_Clone_Guint16 -/
@[reducible] def slices_Clone_Guint16_s : Sh := ⟨[.d (.sl (.int .u16))], [], [.sl (.int .u16)], [.d (.sl (.int .u16))], [], 0, [.sl (.int .u16)]⟩
def slices_Clone_Guint16_e : Env := (cts [])
def slices_Clone_Guint16_h : List (Nat × Hint) := []
def slices_Clone_Guint16_m0 (s : List Int) : Option (As [.sl (.int .u16)]) :=
  if eqi (Int.ofNat (List.length s)) 0 = true then amb (eqAs slices_Clone_Guint16_s.rs) [some ([], ()), need (small (0 + List.length s)) (some ([] ++ s, ()))] else need (small (0 + List.length s)) (some ([] ++ s, ()))
def slices_Clone_Guint16 (x : As [.sl (.int .u16)]) : Option (As [.sl (.int .u16)]) := slices_Clone_Guint16_m0 x.1
theorem slices_Clone_Guint16_c0 (J : Orc (As [.sl (.int .u16)])) (x : As [.sl (.int .u16)]) : rfn Tryz.prog slices_Clone_Guint16_e 6 18446744073709551616 (Ev.get slices_Clone_Guint16_h) 161 slices_Clone_Guint16_s J x = slices_Clone_Guint16_m0 x.1 := by kernel_rfl
theorem slices_Clone_Guint16_t (x : As [.sl (.int .u16)]) : evT Tryz.prog slices_Clone_Guint16_e 6 18446744073709551616 (Ev.get slices_Clone_Guint16_h) 161 slices_Clone_Guint16_s x = slices_Clone_Guint16 x := by
  rw [rfn_eq, slices_Clone_Guint16_c0]
  rfl
theorem slices_Clone_Guint16_ok : CtOk Tryz.prog (fun _ => True) 161 ⟨slices_Clone_Guint16_s, slices_Clone_Guint16⟩ := ct_of_ev env_nil slices_Clone_Guint16_t
/-! slices_Clone_Gbool -/
@[reducible] def slices_Clone_Gbool_s : Sh := ⟨[.d (.sl .bool)], [], [.sl .bool], [.d (.sl .bool)], [], 0, [.sl .bool]⟩
def slices_Clone_Gbool_e : Env := (cts [])
def slices_Clone_Gbool_h : List (Nat × Hint) := []
def slices_Clone_Gbool_m0 (s : List Bool) : Option (As [.sl .bool]) :=
  if eqi (Int.ofNat (List.length s)) 0 = true then amb (eqAs slices_Clone_Gbool_s.rs) [some ([], ()), need (small (0 + List.length s)) (some ([] ++ s, ()))] else need (small (0 + List.length s)) (some ([] ++ s, ()))
def slices_Clone_Gbool (x : As [.sl .bool]) : Option (As [.sl .bool]) := slices_Clone_Gbool_m0 x.1
theorem slices_Clone_Gbool_c0 (J : Orc (As [.sl .bool])) (x : As [.sl .bool]) : rfn Tryz.prog slices_Clone_Gbool_e 6 18446744073709551616 (Ev.get slices_Clone_Gbool_h) 162 slices_Clone_Gbool_s J x = slices_Clone_Gbool_m0 x.1 := by kernel_rfl
theorem slices_Clone_Gbool_t (x : As [.sl .bool]) : evT Tryz.prog slices_Clone_Gbool_e 6 18446744073709551616 (Ev.get slices_Clone_Gbool_h) 162 slices_Clone_Gbool_s x = slices_Clone_Gbool x := by
  rw [rfn_eq, slices_Clone_Gbool_c0]
  rfl
theorem slices_Clone_Gbool_ok : CtOk Tryz.prog (fun _ => True) 162 ⟨slices_Clone_Gbool_s, slices_Clone_Gbool⟩ := ct_of_ev env_nil slices_Clone_Gbool_t
/-! poll_copied -/
@[reducible] def poll_copied_s : Sh := ⟨[.d (.pr (.int .u8) LAT2)], [], [.pr (.int .u8) LAT2], [.d (.pr (.int .u8) LAT2)], [], 0, [.pr (.int .u8) LAT2]⟩
def poll_copied_e : Env := (cts [(161, (⟨slices_Clone_Guint16_s, slices_Clone_Guint16⟩ : Ct)), (162, (⟨slices_Clone_Gbool_s, slices_Clone_Gbool⟩ : Ct))])
def poll_copied_h : List (Nat × Hint) := []
def poll_copied_m0 (a : Int × Int × Int × Int × List Int × List Bool) : Option (As [.pr (.int .u8) LAT2]) :=
  Option.bind (slices_Clone_Guint16 (a.2.2.2.2.1, ())) fun (y : List Int × Unit) => Option.bind (slices_Clone_Gbool (a.2.2.2.2.2, ())) fun (y_1 : List Bool × Unit) => some ((a.1, a.2.1, a.2.2.1, a.2.2.2.1, y.1, y_1.1), ())
def poll_copied (x : As [.pr (.int .u8) LAT2]) : Option (As [.pr (.int .u8) LAT2]) := poll_copied_m0 x.1
theorem poll_copied_c0 (J : Orc (As [.pr (.int .u8) LAT2])) (x : As [.pr (.int .u8) LAT2]) : rfn Tryz.prog poll_copied_e 6 18446744073709551616 (Ev.get poll_copied_h) 83 poll_copied_s J x = poll_copied_m0 x.1 := by kernel_rfl
theorem poll_copied_t (x : As [.pr (.int .u8) LAT2]) : evT Tryz.prog poll_copied_e 6 18446744073709551616 (Ev.get poll_copied_h) 83 poll_copied_s x = poll_copied x := by
  rw [rfn_eq, poll_copied_c0]
  rfl
theorem poll_copied_ok : CtOk Tryz.prog (fun _ => True) 83 ⟨poll_copied_s, poll_copied⟩ := ct_of_ev (env_cons slices_Clone_Guint16_ok (env_cons slices_Clone_Gbool_ok env_nil)) poll_copied_t
/-! poll_own -/
@[reducible] def poll_own_s : Sh := ⟨[.d (.pr (.int .u8) LAT0)], [], [.pr (.int .u8) LAT0], [.d (.pr (.int .u8) LAT0)], [], 0, [.pr (.int .u8) LAT0]⟩
def poll_own_e : Env := (cts [(83, (⟨poll_copied_s, poll_copied⟩ : Ct))])
def poll_own_h : List (Nat × Hint) := []
def poll_own_m0 (p : Int × Int × Int × Int × Bool × LAT3 × Int × Int × Int) : Option (As [.pr (.int .u8) LAT0]) :=
  Option.bind (poll_copied (p.2.2.2.2.2.1, ())) fun (y : LAT3 × Unit) => some ((p.1, p.2.1, p.2.2.1, p.2.2.2.1, p.2.2.2.2.1, y.1, p.2.2.2.2.2.2), ())
def poll_own (x : As [.pr (.int .u8) LAT0]) : Option (As [.pr (.int .u8) LAT0]) := poll_own_m0 x.1
theorem poll_own_c0 (J : Orc (As [.pr (.int .u8) LAT0])) (x : As [.pr (.int .u8) LAT0]) : rfn Tryz.prog poll_own_e 6 18446744073709551616 (Ev.get poll_own_h) 82 poll_own_s J x = poll_own_m0 x.1 := by kernel_rfl
theorem poll_own_t (x : As [.pr (.int .u8) LAT0]) : evT Tryz.prog poll_own_e 6 18446744073709551616 (Ev.get poll_own_h) 82 poll_own_s x = poll_own x := by
  rw [rfn_eq, poll_own_c0]
  rfl
theorem poll_own_ok : CtOk Tryz.prog (fun _ => True) 82 ⟨poll_own_s, poll_own⟩ := ct_of_ev (env_cons poll_copied_ok env_nil) poll_own_t
/-! ask_shape -/
@[reducible] def ask_shape_s : Sh := ⟨[.d (.int .u8)], [], [.int .u8], [.d (.pr (.int .i64) LAT6), .d (.bool)], [], 0, [.pr (.int .i64) LAT6, .bool]⟩
def ask_shape_e : Env := (cts [])
def ask_shape_h : List (Nat × Hint) := []
def ask_shape_m0 (f : Int) : Option (As [.pr (.int .i64) LAT6, .bool]) :=
  some (Ev.gdV (.pr (.int .i64) LAT6) (if eqi 1 f = true then some (2000, 0, 0, false, false) else if eqi 2 f = true then some (2000, 0, 0, false, false) else if eqi 3 f = true then some (125, 0, 0, false, false) else if eqi 4 f = true then some (125, 0, 0, false, false) else if eqi 5 f = true then some (0, 1, 0, false, false) else if eqi 6 f = true then some (0, 0, 1, false, false) else if eqi 15 f = true then some (1968, 1968, 0, false, true) else if eqi 16 f = true then some (123, 0, 123, false, true) else if eqi 23 f = true then some (125, 0, 121, true, false) else Option.none) (0, 0, 0, false, false), Ev.isV (.pr (.int .i64) LAT6) (if eqi 1 f = true then some (2000, 0, 0, false, false) else if eqi 2 f = true then some (2000, 0, 0, false, false) else if eqi 3 f = true then some (125, 0, 0, false, false) else if eqi 4 f = true then some (125, 0, 0, false, false) else if eqi 5 f = true then some (0, 1, 0, false, false) else if eqi 6 f = true then some (0, 0, 1, false, false) else if eqi 15 f = true then some (1968, 1968, 0, false, true) else if eqi 16 f = true then some (123, 0, 123, false, true) else if eqi 23 f = true then some (125, 0, 121, true, false) else Option.none), ())
def ask_shape (x : As [.int .u8]) : Option (As [.pr (.int .i64) LAT6, .bool]) := ask_shape_m0 x.1
theorem ask_shape_c0 (J : Orc (As [.pr (.int .i64) LAT6, .bool])) (x : As [.int .u8]) : rfn Tryz.prog ask_shape_e 6 18446744073709551616 (Ev.get ask_shape_h) 94 ask_shape_s J x = ask_shape_m0 x.1 := by kernel_rfl
theorem ask_shape_t (x : As [.int .u8]) : evT Tryz.prog ask_shape_e 6 18446744073709551616 (Ev.get ask_shape_h) 94 ask_shape_s x = ask_shape x := by
  rw [rfn_eq, ask_shape_c0]
  rfl
theorem ask_shape_ok : CtOk Tryz.prog (fun _ => True) 94 ⟨ask_shape_s, ask_shape⟩ := ct_of_ev env_nil ask_shape_t
/-! ask_within -/
@[reducible] def ask_within_s : Sh := ⟨[.d (.int .i64), .d (.int .i64)], [], [.int .i64, .int .i64], [.d (.bool)], [], 0, [.bool]⟩
def ask_within_e : Env := (cts [])
def ask_within_h : List (Nat × Hint) := []
def ask_within_m0 (n : Int) (most : Int) : Option (As [.bool]) :=
  if eqi most 0 = true then some (eqi n 0, ()) else if ge n 1 = true then some (le n most, ()) else some (false, ())
def ask_within (x : As [.int .i64, .int .i64]) : Option (As [.bool]) := ask_within_m0 x.1 x.2.1
theorem ask_within_c0 (J : Orc (As [.bool])) (x : As [.int .i64, .int .i64]) : rfn Tryz.prog ask_within_e 6 18446744073709551616 (Ev.get ask_within_h) 160 ask_within_s J x = ask_within_m0 x.1 x.2.1 := by kernel_rfl
theorem ask_within_t (x : As [.int .i64, .int .i64]) : evT Tryz.prog ask_within_e 6 18446744073709551616 (Ev.get ask_within_h) 160 ask_within_s x = ask_within x := by
  rw [rfn_eq, ask_within_c0]
  rfl
theorem ask_within_ok : CtOk Tryz.prog (fun _ => True) 160 ⟨ask_within_s, ask_within⟩ := ct_of_ev env_nil ask_within_t
/-! ask_Right -/
@[reducible] def ask_Right_s : Sh := ⟨[.d (.pr (.int .u8) LAT2)], [], [.pr (.int .u8) LAT2], [.d (.bool)], [], 0, [.bool]⟩
def ask_Right_e : Env := (cts [(94, (⟨ask_shape_s, ask_shape⟩ : Ct)), (160, (⟨ask_within_s, ask_within⟩ : Ct))])
def ask_Right_h : List (Nat × Hint) := [(30, ⟨[], [1, 3, 47, 52, 53, 54, 55, 56, 57, 58, 59, 60, 61, 62]⟩), (14, ⟨[], [1, 3, 22, 31, 32, 33, 34, 35, 36, 37, 40, 41, 42, 43, 44, 45, 46, 52, 53, 54, 55, 56, 57, 58, 59, 60, 61, 62]⟩)]
def ask_Right_k1 (t22 : Bool) (a : Int) (a_2 : Int) (a_3 : Int) (a_4 : Int) (a_5 : List Int) (a_6 : List Bool) (s : Int) (s_2 : Int) (s_3 : Int) (s_4 : Bool) (s_5 : Bool) : St := { fr := [(1, .pb 0 0), (3, .pb 1 0), (22, .d .bool t22)], nt := 64, up := [], own := [(0, .box 27 [.d (.int .u8) a, .d (.int .u16) a_2, .d (.int .u16) a_3, .d (.int .u16) a_4, .d (.sl (.int .u16)) a_5, .d (.sl .bool) a_6]), (1, .box 149 [.d (.int .i64) s, .d (.int .i64) s_2, .d (.int .i64) s_3, .d .bool s_4, .d .bool s_5])], nx := 2, log := [], ln := 0 }
def ask_Right_k2 (t47 : Bool) (a : Int) (a_2 : Int) (a_3 : Int) (a_4 : Int) (a_5 : List Int) (a_6 : List Bool) (s : Int) (s_2 : Int) (s_3 : Int) (s_4 : Bool) (s_5 : Bool) : St := { fr := [(1, .pb 0 0), (3, .pb 1 0), (47, .d .bool t47)], nt := 64, up := [], own := [(0, .box 27 [.d (.int .u8) a, .d (.int .u16) a_2, .d (.int .u16) a_3, .d (.int .u16) a_4, .d (.sl (.int .u16)) a_5, .d (.sl .bool) a_6]), (1, .box 149 [.d (.int .i64) s, .d (.int .i64) s_2, .d (.int .i64) s_3, .d .bool s_4, .d .bool s_5])], nx := 2, log := [], ln := 0 }
def ask_Right_m1 (j2 : Bool → Int → Int → Int → Int → List Int → List Bool → Int → Int → Int → Bool → Bool → Option (As [.bool])) (t22 : Bool) (a : Int) (a_2 : Int) (a_3 : Int) (a_4 : Int) (a_5 : List Int) (a_6 : List Bool) (s : Int) (s_2 : Int) (s_3 : Int) (s_4 : Bool) (s_5 : Bool) : Option (As [.bool]) :=
  if t22 = true then some (false, ()) else Option.bind (ask_within (cvt .i64 a_3, s, ())) fun (y : Bool × Unit) => if (!y.1) = true then j2 true a a_2 a_3 a_4 a_5 a_6 s s_2 s_3 s_4 s_5 else Option.bind (ask_within (Int.ofNat (List.length a_6), s_2, ())) fun (y : Bool × Unit) => if (!y.1) = true then j2 true a a_2 a_3 a_4 a_5 a_6 s s_2 s_3 s_4 s_5 else Option.bind (ask_within (Int.ofNat (List.length a_5), s_3, ())) fun (y : Bool × Unit) => j2 (!y.1) a a_2 a_3 a_4 a_5 a_6 s s_2 s_3 s_4 s_5
def ask_Right_m2 (t47 : Bool) (a : Int) (a_2 : Int) (a_3 : Int) (a_4 : Int) (a_5 : List Int) (a_6 : List Bool) (s : Int) (s_2 : Int) (s_3 : Int) (s_4 : Bool) (s_5 : Bool) : Option (As [.bool]) :=
  if t47 = true then some (false, ()) else if (!s_5) = true then some (true, ()) else some (eqi (add .i64 (Int.ofNat (List.length a_6)) (Int.ofNat (List.length a_5))) (cvt .i64 a_3), ())
def ask_Right_m0 (j1 : Bool → Int → Int → Int → Int → List Int → List Bool → Int → Int → Int → Bool → Bool → Option (As [.bool])) (a : Int × Int × Int × Int × List Int × List Bool) : Option (As [.bool]) :=
  Option.bind (ask_shape (a.1, ())) fun (y : (Int × Int × Int × Bool × Bool) × Bool × Unit) => if (!y.2.1) = true then j1 true a.1 a.2.1 a.2.2.1 a.2.2.2.1 a.2.2.2.2.1 a.2.2.2.2.2 y.1.1 y.1.2.1 y.1.2.2.1 y.1.2.2.2.1 y.1.2.2.2.2 else if (!y.1.2.2.2.1) = true then j1 (nei a.2.2.2.1 0) a.1 a.2.1 a.2.2.1 a.2.2.2.1 a.2.2.2.2.1 a.2.2.2.2.2 y.1.1 y.1.2.1 y.1.2.2.1 y.1.2.2.2.1 y.1.2.2.2.2 else j1 false a.1 a.2.1 a.2.2.1 a.2.2.2.1 a.2.2.2.2.1 a.2.2.2.2.2 y.1.1 y.1.2.1 y.1.2.2.1 y.1.2.2.2.1 y.1.2.2.2.2
def ask_Right_K2 (t47 : Bool) (a : Int) (a_2 : Int) (a_3 : Int) (a_4 : Int) (a_5 : List Int) (a_6 : List Bool) (s : Int) (s_2 : Int) (s_3 : Int) (s_4 : Bool) (s_5 : Bool) : Option (As [.bool]) := ask_Right_m2 t47 a a_2 a_3 a_4 a_5 a_6 s s_2 s_3 s_4 s_5
def ask_Right_K1 (t22 : Bool) (a : Int) (a_2 : Int) (a_3 : Int) (a_4 : Int) (a_5 : List Int) (a_6 : List Bool) (s : Int) (s_2 : Int) (s_3 : Int) (s_4 : Bool) (s_5 : Bool) : Option (As [.bool]) := ask_Right_m1 (ask_Right_K2) t22 a a_2 a_3 a_4 a_5 a_6 s s_2 s_3 s_4 s_5
def ask_Right (x : As [.pr (.int .u8) LAT2]) : Option (As [.bool]) := ask_Right_m0 ask_Right_K1 x.1
theorem ask_Right_c2 (J : Orc (As [.bool])) (t47 : Bool) (a : Int) (a_2 : Int) (a_3 : Int) (a_4 : Int) (a_5 : List Int) (a_6 : List Bool) (s : Int) (s_2 : Int) (s_3 : Int) (s_4 : Bool) (s_5 : Bool) : pfn Tryz.prog ask_Right_e 6 18446744073709551616 (Ev.get ask_Right_h) 79 ask_Right_s J 30 [] (ask_Right_k2 t47 a a_2 a_3 a_4 a_5 a_6 s s_2 s_3 s_4 s_5) = ask_Right_m2 t47 a a_2 a_3 a_4 a_5 a_6 s s_2 s_3 s_4 s_5 := by kernel_rfl
theorem ask_Right_c1 (J : Orc (As [.bool])) (t22 : Bool) (a : Int) (a_2 : Int) (a_3 : Int) (a_4 : Int) (a_5 : List Int) (a_6 : List Bool) (s : Int) (s_2 : Int) (s_3 : Int) (s_4 : Bool) (s_5 : Bool) : pfn Tryz.prog ask_Right_e 6 18446744073709551616 (Ev.get ask_Right_h) 79 ask_Right_s J 14 [] (ask_Right_k1 t22 a a_2 a_3 a_4 a_5 a_6 s s_2 s_3 s_4 s_5) = ask_Right_m1 (fun t47 a a_2 a_3 a_4 a_5 a_6 s s_2 s_3 s_4 s_5 => J 30 [] (ask_Right_k2 t47 a a_2 a_3 a_4 a_5 a_6 s s_2 s_3 s_4 s_5)) t22 a a_2 a_3 a_4 a_5 a_6 s s_2 s_3 s_4 s_5 := by kernel_rfl
theorem ask_Right_c0 (J : Orc (As [.bool])) (x : As [.pr (.int .u8) LAT2]) : rfn Tryz.prog ask_Right_e 6 18446744073709551616 (Ev.get ask_Right_h) 79 ask_Right_s J x = ask_Right_m0 (fun t22 a a_2 a_3 a_4 a_5 a_6 s s_2 s_3 s_4 s_5 => J 14 [] (ask_Right_k1 t22 a a_2 a_3 a_4 a_5 a_6 s s_2 s_3 s_4 s_5)) x.1 := by kernel_rfl
theorem ask_Right_g2 (t47 : Bool) (a : Int) (a_2 : Int) (a_3 : Int) (a_4 : Int) (a_5 : List Int) (a_6 : List Bool) (s : Int) (s_2 : Int) (s_3 : Int) (s_4 : Bool) (s_5 : Bool) : jfn Tryz.prog ask_Right_e 6 18446744073709551616 (Ev.get ask_Right_h) 79 ask_Right_s 30 [] (ask_Right_k2 t47 a a_2 a_3 a_4 a_5 a_6 s s_2 s_3 s_4 s_5) = ask_Right_K2 t47 a a_2 a_3 a_4 a_5 a_6 s s_2 s_3 s_4 s_5 := by
  rw [pfn_eq (by decide)]
  rw [ask_Right_c2]
  rfl
theorem ask_Right_g1 (t22 : Bool) (a : Int) (a_2 : Int) (a_3 : Int) (a_4 : Int) (a_5 : List Int) (a_6 : List Bool) (s : Int) (s_2 : Int) (s_3 : Int) (s_4 : Bool) (s_5 : Bool) : jfn Tryz.prog ask_Right_e 6 18446744073709551616 (Ev.get ask_Right_h) 79 ask_Right_s 14 [] (ask_Right_k1 t22 a a_2 a_3 a_4 a_5 a_6 s s_2 s_3 s_4 s_5) = ask_Right_K1 t22 a a_2 a_3 a_4 a_5 a_6 s s_2 s_3 s_4 s_5 := by
  rw [pfn_eq (by decide)]
  have e2 : (fun t47 a a_2 a_3 a_4 a_5 a_6 s s_2 s_3 s_4 s_5 => (jfn Tryz.prog ask_Right_e 6 18446744073709551616 (Ev.get ask_Right_h) 79 ask_Right_s) 30 [] (ask_Right_k2 t47 a a_2 a_3 a_4 a_5 a_6 s s_2 s_3 s_4 s_5)) = ask_Right_K2 := funext fun t47 => funext fun a => funext fun a_2 => funext fun a_3 => funext fun a_4 => funext fun a_5 => funext fun a_6 => funext fun s => funext fun s_2 => funext fun s_3 => funext fun s_4 => funext fun s_5 => ask_Right_g2 t47 a a_2 a_3 a_4 a_5 a_6 s s_2 s_3 s_4 s_5
  rw [ask_Right_c1, e2]
  rfl
theorem ask_Right_t (x : As [.pr (.int .u8) LAT2]) : evT Tryz.prog ask_Right_e 6 18446744073709551616 (Ev.get ask_Right_h) 79 ask_Right_s x = ask_Right x := by
  have e1 : (fun t22 a a_2 a_3 a_4 a_5 a_6 s s_2 s_3 s_4 s_5 => (jfn Tryz.prog ask_Right_e 6 18446744073709551616 (Ev.get ask_Right_h) 79 ask_Right_s) 14 [] (ask_Right_k1 t22 a a_2 a_3 a_4 a_5 a_6 s s_2 s_3 s_4 s_5)) = ask_Right_K1 := funext fun t22 => funext fun a => funext fun a_2 => funext fun a_3 => funext fun a_4 => funext fun a_5 => funext fun a_6 => funext fun s => funext fun s_2 => funext fun s_3 => funext fun s_4 => funext fun s_5 => ask_Right_g1 t22 a a_2 a_3 a_4 a_5 a_6 s s_2 s_3 s_4 s_5
  rw [rfn_eq, ask_Right_c0, e1]
  rfl
theorem ask_Right_ok : CtOk Tryz.prog (fun _ => True) 79 ⟨ask_Right_s, ask_Right⟩ := ct_of_ev (env_cons ask_shape_ok (env_cons ask_within_ok env_nil)) ask_Right_t
/-! ask_numbers -/
@[reducible] def ask_numbers_s : Sh := ⟨[.row 0, .d (.sl (.int .u16))], [.row (.int .u8) 5], [.sl (.int .u16), .sl (.int .u8)], [.row 1], [(1, .row (.int .u8) 5)], 1, [.sl (.int .u8)]⟩
def ask_numbers_e : Env := (cts [])
def ask_numbers_h : List (Nat × Hint) := [(26, ⟨[.unl 0], [0, 7, 8, 9]⟩)]
def ask_numbers_k1 (t7 : List Int) (t8 : Int) (t9 : Int) (out : List Int) : St := { fr := [(0, .row 1), (7, .d (.sl (.int .u16)) t7), (8, .d (.int .i64) t8), (9, .d (.int .i64) t9)], nt := 23, up := [], own := [(1, .row (.int .u8) 5 out)], nx := 2, log := [], ln := 1 }
def ask_numbers_m1 (self1 : List Int → Int → Int → List Int → Option (As [.sl (.int .u8)])) (t7 : List Int) (t8 : Int) (t9 : Int) (out : List Int) : Option (As [.sl (.int .u8)]) :=
  if lt t9 t8 = true then Option.bind (at? t7 t9) fun (y : Int) => need (small (List.length out + 2)) (self1 t7 t8 (add .i64 t9 1) (out ++ [cvt .u8 (Sx.shr .u16 y 8), cvt .u8 y])) else some (out, ())
def ask_numbers_m0 (j1 : List Int → Int → Int → List Int → Option (As [.sl (.int .u8)])) (out : List Int) (l : List Int) : Option (As [.sl (.int .u8)]) :=
  j1 out (Int.ofNat (List.length out)) 0 l
def ask_numbers_K1 (t7 : List Int) (t8 : Int) (t9 : Int) (out : List Int) : Option (As [.sl (.int .u8)]) :=
  loopF (fun (self : (List Int) × (Int) × (Int) × (List Int) → Option (As [.sl (.int .u8)])) (s : (List Int) × (Int) × (Int) × (List Int)) => ask_numbers_m1 (fun t7 t8 t9 out => self (t7, t8, t9, out)) s.1 s.2.1 s.2.2.1 s.2.2.2) 18446744073709551616 (t7, t8, t9, out)
def ask_numbers (x : As [.sl (.int .u16), .sl (.int .u8)]) : Option (As [.sl (.int .u8)]) := ask_numbers_m0 ask_numbers_K1 x.1 x.2.1
theorem ask_numbers_c1 (J : Orc (As [.sl (.int .u8)])) (w1 : St → Option (As [.sl (.int .u8)])) (t7 : List Int) (t8 : Int) (t9 : Int) (out : List Int) : pfn Tryz.prog ask_numbers_e 6 18446744073709551616 (Ev.get ask_numbers_h) 95 ask_numbers_s J 26 [w1] (ask_numbers_k1 t7 t8 t9 out) = ask_numbers_m1 (fun t7 t8 t9 out => w1 (ask_numbers_k1 t7 t8 t9 out)) t7 t8 t9 out := by kernel_rfl
theorem ask_numbers_c0 (J : Orc (As [.sl (.int .u8)])) (x : As [.sl (.int .u16), .sl (.int .u8)]) : rfn Tryz.prog ask_numbers_e 6 18446744073709551616 (Ev.get ask_numbers_h) 95 ask_numbers_s J x = ask_numbers_m0 (fun t7 t8 t9 out => J 26 [] (ask_numbers_k1 t7 t8 t9 out)) x.1 x.2.1 := by kernel_rfl
theorem ask_numbers_g1 (t7 : List Int) (t8 : Int) (t9 : Int) (out : List Int) : jfn Tryz.prog ask_numbers_e 6 18446744073709551616 (Ev.get ask_numbers_h) 95 ask_numbers_s 26 [] (ask_numbers_k1 t7 t8 t9 out) = ask_numbers_K1 t7 t8 t9 out := by
  rw [pfn_eq (by decide)]
  rw [pfn_loop (by kernel_rfl)]
  refine loopF_sim (σ := (List Int) × (Int) × (Int) × (List Int)) (mk := fun s => ask_numbers_k1 s.1 s.2.1 s.2.2.1 s.2.2.2) (fun w1 s => ?_) 18446744073709551616 (t7, t8, t9, out)
  refine (ask_numbers_c1 _ w1 s.1 s.2.1 s.2.2.1 s.2.2.2).trans ?_
  rfl
theorem ask_numbers_t (x : As [.sl (.int .u16), .sl (.int .u8)]) : evT Tryz.prog ask_numbers_e 6 18446744073709551616 (Ev.get ask_numbers_h) 95 ask_numbers_s x = ask_numbers x := by
  have e1 : (fun t7 t8 t9 out => (jfn Tryz.prog ask_numbers_e 6 18446744073709551616 (Ev.get ask_numbers_h) 95 ask_numbers_s) 26 [] (ask_numbers_k1 t7 t8 t9 out)) = ask_numbers_K1 := funext fun t7 => funext fun t8 => funext fun t9 => funext fun out => ask_numbers_g1 t7 t8 t9 out
  rw [rfn_eq, ask_numbers_c0, e1]
  rfl
theorem ask_numbers_ok : CtOk Tryz.prog (fun _ => True) 95 ⟨ask_numbers_s, ask_numbers⟩ := ct_of_ev env_nil ask_numbers_t
/-! ask_Pack -/
@[reducible] def ask_Pack_s : Sh := ⟨[.d (.sl .bool)], [], [.sl .bool], [.d (.sl (.int .u8))], [], 0, [.sl (.int .u8)]⟩
def ask_Pack_e : Env := (cts [])
def ask_Pack_h : List (Nat × Hint) := [(7, ⟨[], [0, 3]⟩), (250, ⟨[], [4, 18, 19, 20]⟩)]
def ask_Pack_k1 (bits : List Bool) (n : Int) : St := { fr := [(0, .d (.sl .bool) bits), (3, .d (.int .i64) n)], nt := 38, up := [], own := [], nx := 0, log := [], ln := 0 }
def ask_Pack_k2 (t18 : List Bool) (t19 : Int) (t20 : Int) (out : List Int) : St := { fr := [(4, .row 0), (18, .d (.sl .bool) t18), (19, .d (.int .i64) t19), (20, .d (.int .i64) t20)], nt := 38, up := [], own := [(0, .row (.int .u8) 5 out)], nx := 1, log := [], ln := 0 }
def ask_Pack_m1 (j2 : List Bool → Int → Int → List Int → Option (As [.sl (.int .u8)])) (bits : List Bool) (n : Int) : Option (As [.sl (.int .u8)]) :=
  need (ge n 0) (need (Ev.capOk n n) (need (small (Int.toNat n)) (j2 bits (Int.ofNat (List.length bits)) 0 (List.replicate (Int.toNat n) 0))))
def ask_Pack_m2 (self2 : List Bool → Int → Int → List Int → Option (As [.sl (.int .u8)])) (t18 : List Bool) (t19 : Int) (t20 : Int) (out : List Int) : Option (As [.sl (.int .u8)]) :=
  if lt t20 t19 = true then Option.bind (at? t18 t20) fun (y : Bool) => if y = true then Option.bind (at? out (quo .i64 t20 8)) fun (x : Int) => Option.bind (at? out (quo .i64 t20 8)) fun (y : Int) => need (ge (rem t20 8) 0) (Option.bind (at? out (quo .i64 t20 8)) fun (x : Int) => Option.bind (at? out (quo .i64 t20 8)) fun (x : Int) => self2 t18 t19 (add .i64 t20 1) (List.set out (Int.toNat (quo .i64 t20 8)) (Sx.bor .u8 y (Sx.shl .u8 1 (rem t20 8))))) else self2 t18 t19 (add .i64 t20 1) out else some (out, ())
def ask_Pack_m0 (j1 : List Bool → Int → Option (As [.sl (.int .u8)])) (bits : List Bool) : Option (As [.sl (.int .u8)]) :=
  if gt (Int.ofNat (List.length bits % 8)) 0 = true then j1 bits (add .i64 (quo .i64 (Int.ofNat (List.length bits)) 8) 1) else j1 bits (quo .i64 (Int.ofNat (List.length bits)) 8)
def ask_Pack_K2 (t18 : List Bool) (t19 : Int) (t20 : Int) (out : List Int) : Option (As [.sl (.int .u8)]) :=
  loopF (fun (self : (List Bool) × (Int) × (Int) × (List Int) → Option (As [.sl (.int .u8)])) (s : (List Bool) × (Int) × (Int) × (List Int)) => ask_Pack_m2 (fun t18 t19 t20 out => self (t18, t19, t20, out)) s.1 s.2.1 s.2.2.1 s.2.2.2) 18446744073709551616 (t18, t19, t20, out)
def ask_Pack_K1 (bits : List Bool) (n : Int) : Option (As [.sl (.int .u8)]) := ask_Pack_m1 (ask_Pack_K2) bits n
def ask_Pack (x : As [.sl .bool]) : Option (As [.sl (.int .u8)]) := ask_Pack_m0 ask_Pack_K1 x.1
theorem ask_Pack_c2 (J : Orc (As [.sl (.int .u8)])) (w2 : St → Option (As [.sl (.int .u8)])) (t18 : List Bool) (t19 : Int) (t20 : Int) (out : List Int) : pfn Tryz.prog ask_Pack_e 6 18446744073709551616 (Ev.get ask_Pack_h) 96 ask_Pack_s J 250 [w2] (ask_Pack_k2 t18 t19 t20 out) = ask_Pack_m2 (fun t18 t19 t20 out => w2 (ask_Pack_k2 t18 t19 t20 out)) t18 t19 t20 out := by kernel_rfl
theorem ask_Pack_c1 (J : Orc (As [.sl (.int .u8)])) (bits : List Bool) (n : Int) : pfn Tryz.prog ask_Pack_e 6 18446744073709551616 (Ev.get ask_Pack_h) 96 ask_Pack_s J 7 [] (ask_Pack_k1 bits n) = ask_Pack_m1 (fun t18 t19 t20 out => J 250 [] (ask_Pack_k2 t18 t19 t20 out)) bits n := by kernel_rfl
theorem ask_Pack_c0 (J : Orc (As [.sl (.int .u8)])) (x : As [.sl .bool]) : rfn Tryz.prog ask_Pack_e 6 18446744073709551616 (Ev.get ask_Pack_h) 96 ask_Pack_s J x = ask_Pack_m0 (fun bits n => J 7 [] (ask_Pack_k1 bits n)) x.1 := by kernel_rfl
theorem ask_Pack_g2 (t18 : List Bool) (t19 : Int) (t20 : Int) (out : List Int) : jfn Tryz.prog ask_Pack_e 6 18446744073709551616 (Ev.get ask_Pack_h) 96 ask_Pack_s 250 [] (ask_Pack_k2 t18 t19 t20 out) = ask_Pack_K2 t18 t19 t20 out := by
  rw [pfn_eq (by decide)]
  rw [pfn_loop (by kernel_rfl)]
  refine loopF_sim (σ := (List Bool) × (Int) × (Int) × (List Int)) (mk := fun s => ask_Pack_k2 s.1 s.2.1 s.2.2.1 s.2.2.2) (fun w2 s => ?_) 18446744073709551616 (t18, t19, t20, out)
  refine (ask_Pack_c2 _ w2 s.1 s.2.1 s.2.2.1 s.2.2.2).trans ?_
  rfl
theorem ask_Pack_g1 (bits : List Bool) (n : Int) : jfn Tryz.prog ask_Pack_e 6 18446744073709551616 (Ev.get ask_Pack_h) 96 ask_Pack_s 7 [] (ask_Pack_k1 bits n) = ask_Pack_K1 bits n := by
  rw [pfn_eq (by decide)]
  have e2 : (fun t18 t19 t20 out => (jfn Tryz.prog ask_Pack_e 6 18446744073709551616 (Ev.get ask_Pack_h) 96 ask_Pack_s) 250 [] (ask_Pack_k2 t18 t19 t20 out)) = ask_Pack_K2 := funext fun t18 => funext fun t19 => funext fun t20 => funext fun out => ask_Pack_g2 t18 t19 t20 out
  rw [ask_Pack_c1, e2]
  rfl
theorem ask_Pack_t (x : As [.sl .bool]) : evT Tryz.prog ask_Pack_e 6 18446744073709551616 (Ev.get ask_Pack_h) 96 ask_Pack_s x = ask_Pack x := by
  have e1 : (fun bits n => (jfn Tryz.prog ask_Pack_e 6 18446744073709551616 (Ev.get ask_Pack_h) 96 ask_Pack_s) 7 [] (ask_Pack_k1 bits n)) = ask_Pack_K1 := funext fun bits => funext fun n => ask_Pack_g1 bits n
  rw [rfn_eq, ask_Pack_c0, e1]
  rfl
theorem ask_Pack_ok : CtOk Tryz.prog (fun _ => True) 96 ⟨ask_Pack_s, ask_Pack⟩ := ct_of_ev env_nil ask_Pack_t
/-! ask_Bytes -/
@[reducible] def ask_Bytes_s : Sh := ⟨[.d (.pr (.int .u8) LAT2)], [], [.pr (.int .u8) LAT2], [.d (.sl (.int .u8)), .d (.int .i64)], [], 0, [.sl (.int .u8), .int .i64]⟩
def ask_Bytes_e : Env := (cts [(79, (⟨ask_Right_s, ask_Right⟩ : Ct)), (94, (⟨ask_shape_s, ask_shape⟩ : Ct)), (95, (⟨ask_numbers_s, ask_numbers⟩ : Ct)), (96, (⟨ask_Pack_s, ask_Pack⟩ : Ct))])
def ask_Bytes_h : List (Nat × Hint) := [(31, ⟨[], [1, 4, 6, 48, 49, 50, 51]⟩), (63, ⟨[], [1, 4, 6, 48, 49, 50, 51]⟩), (127, ⟨[], [6]⟩), (508, ⟨[], [1, 4, 6, 43]⟩)]
def ask_Bytes_k1 (a : Int) (a_2 : Int) (a_3 : Int) (a_4 : Int) (a_5 : List Int) (a_6 : List Bool) (s : Int) (s_2 : Int) (s_3 : Int) (s_4 : Bool) (s_5 : Bool) (out : List Int) : St := { fr := [(1, .pb 0 0), (4, .pb 1 0), (6, .row 2)], nt := 102, up := [], own := [(0, .box 27 [.d (.int .u8) a, .d (.int .u16) a_2, .d (.int .u16) a_3, .d (.int .u16) a_4, .d (.sl (.int .u16)) a_5, .d (.sl .bool) a_6]), (1, .box 149 [.d (.int .i64) s, .d (.int .i64) s_2, .d (.int .i64) s_3, .d .bool s_4, .d .bool s_5]), (2, .row (.int .u8) 5 out)], nx := 3, log := [], ln := 0 }
def ask_Bytes_k2 (a : Int) (a_2 : Int) (a_3 : Int) (a_4 : Int) (a_5 : List Int) (a_6 : List Bool) (s : Int) (s_2 : Int) (s_3 : Int) (s_4 : Bool) (s_5 : Bool) (out : List Int) : St := { fr := [(1, .pb 0 0), (4, .pb 1 0), (6, .row 2)], nt := 102, up := [], own := [(0, .box 27 [.d (.int .u8) a, .d (.int .u16) a_2, .d (.int .u16) a_3, .d (.int .u16) a_4, .d (.sl (.int .u16)) a_5, .d (.sl .bool) a_6]), (1, .box 149 [.d (.int .i64) s, .d (.int .i64) s_2, .d (.int .i64) s_3, .d .bool s_4, .d .bool s_5]), (2, .row (.int .u8) 5 out)], nx := 3, log := [], ln := 0 }
def ask_Bytes_k3 (t43 : Bool) (a : Int) (a_2 : Int) (a_3 : Int) (a_4 : Int) (a_5 : List Int) (a_6 : List Bool) (s : Int) (s_2 : Int) (s_3 : Int) (s_4 : Bool) (s_5 : Bool) (out : List Int) : St := { fr := [(1, .pb 0 0), (4, .pb 1 0), (6, .row 2), (43, .d .bool t43)], nt := 102, up := [], own := [(0, .box 27 [.d (.int .u8) a, .d (.int .u16) a_2, .d (.int .u16) a_3, .d (.int .u16) a_4, .d (.sl (.int .u16)) a_5, .d (.sl .bool) a_6]), (1, .box 149 [.d (.int .i64) s, .d (.int .i64) s_2, .d (.int .i64) s_3, .d .bool s_4, .d .bool s_5]), (2, .row (.int .u8) 5 out)], nx := 3, log := [], ln := 0 }
def ask_Bytes_k4 (out : List Int) : St := { fr := [(6, .row 0)], nt := 102, up := [], own := [(0, .row (.int .u8) 5 out)], nx := 1, log := [], ln := 0 }
def ask_Bytes_m1 (j2 : Int → Int → Int → Int → List Int → List Bool → Int → Int → Int → Bool → Bool → List Int → Option (As [.sl (.int .u8), .int .i64])) (a : Int) (a_2 : Int) (a_3 : Int) (a_4 : Int) (a_5 : List Int) (a_6 : List Bool) (s : Int) (s_2 : Int) (s_3 : Int) (s_4 : Bool) (s_5 : Bool) (out : List Int) : Option (As [.sl (.int .u8), .int .i64]) :=
  if s_4 = true then Option.bind (ask_numbers ([a_4, Int.ofNat (List.length a_5 % 65536)], out, ())) fun (y : List Int × Unit) => j2 a a_2 a_3 a_4 a_5 a_6 s s_2 s_3 s_4 s_5 y.1 else j2 a a_2 a_3 a_4 a_5 a_6 s s_2 s_3 s_4 s_5 out
def ask_Bytes_m2 (j3 : Bool → Int → Int → Int → Int → List Int → List Bool → Int → Int → Int → Bool → Bool → List Int → Option (As [.sl (.int .u8), .int .i64])) (a : Int) (a_2 : Int) (a_3 : Int) (a_4 : Int) (a_5 : List Int) (a_6 : List Bool) (s : Int) (s_2 : Int) (s_3 : Int) (s_4 : Bool) (s_5 : Bool) (out : List Int) : Option (As [.sl (.int .u8), .int .i64]) :=
  if eqi a 5 = true then Option.bind (at? a_6 0) fun (y : Bool) => j3 y a a_2 a_3 a_4 a_5 a_6 s s_2 s_3 s_4 s_5 out else j3 false a a_2 a_3 a_4 a_5 a_6 s s_2 s_3 s_4 s_5 out
def ask_Bytes_m3 (j4 : List Int → Option (As [.sl (.int .u8), .int .i64])) (t43 : Bool) (a : Int) (a_2 : Int) (a_3 : Int) (a_4 : Int) (a_5 : List Int) (a_6 : List Bool) (s : Int) (s_2 : Int) (s_3 : Int) (s_4 : Bool) (s_5 : Bool) (out : List Int) : Option (As [.sl (.int .u8), .int .i64]) :=
  if t43 = true then Option.bind (ask_numbers ([65280], out, ())) fun (y : List Int × Unit) => j4 y.1 else if eqi a 5 = true then Option.bind (ask_numbers ([0], out, ())) fun (y : List Int × Unit) => j4 y.1 else if eqi a 6 = true then Option.bind (ask_numbers (a_5, out, ())) fun (y : List Int × Unit) => j4 y.1 else if gt s_2 0 = true then Option.bind (ask_Pack (a_6, ())) fun (y : List Int × Unit) => need (small (List.length out + 1)) (need (small (List.length (out ++ [Int.ofNat (List.length y.1 % 256)]) + List.length y.1)) (j4 (out ++ [Int.ofNat (List.length y.1 % 256)] ++ y.1))) else if gt s_3 0 = true then need (small (List.length out + 1)) (Option.bind (ask_numbers (a_5, out ++ [cvt .u8 (mul .i64 2 (Int.ofNat (List.length a_5)))], ())) fun (y : List Int × Unit) => j4 y.1) else j4 out
def ask_Bytes_m4 (out : List Int) : Option (As [.sl (.int .u8), .int .i64]) :=
  some (out, 0, ())
def ask_Bytes_m0 (j1 : Int → Int → Int → Int → List Int → List Bool → Int → Int → Int → Bool → Bool → List Int → Option (As [.sl (.int .u8), .int .i64])) (a : Int × Int × Int × Int × List Int × List Bool) : Option (As [.sl (.int .u8), .int .i64]) :=
  Option.bind (ask_Right (a, ())) fun (y : Bool × Unit) => if (!y.1) = true then some ([], 12, ()) else Option.bind (ask_shape (a.1, ())) fun (y : (Int × Int × Int × Bool × Bool) × Bool × Unit) => Option.bind (ask_numbers ([a.2.1], [a.1], ())) fun (y_1 : List Int × Unit) => if gt y.1.1 0 = true then Option.bind (ask_numbers ([a.2.2.1], y_1.1, ())) fun (y_2 : List Int × Unit) => j1 a.1 a.2.1 a.2.2.1 a.2.2.2.1 a.2.2.2.2.1 a.2.2.2.2.2 y.1.1 y.1.2.1 y.1.2.2.1 y.1.2.2.2.1 y.1.2.2.2.2 y_2.1 else j1 a.1 a.2.1 a.2.2.1 a.2.2.2.1 a.2.2.2.2.1 a.2.2.2.2.2 y.1.1 y.1.2.1 y.1.2.2.1 y.1.2.2.2.1 y.1.2.2.2.2 y_1.1
def ask_Bytes_K4 (out : List Int) : Option (As [.sl (.int .u8), .int .i64]) := ask_Bytes_m4 out
def ask_Bytes_K3 (t43 : Bool) (a : Int) (a_2 : Int) (a_3 : Int) (a_4 : Int) (a_5 : List Int) (a_6 : List Bool) (s : Int) (s_2 : Int) (s_3 : Int) (s_4 : Bool) (s_5 : Bool) (out : List Int) : Option (As [.sl (.int .u8), .int .i64]) := ask_Bytes_m3 (ask_Bytes_K4) t43 a a_2 a_3 a_4 a_5 a_6 s s_2 s_3 s_4 s_5 out
def ask_Bytes_K2 (a : Int) (a_2 : Int) (a_3 : Int) (a_4 : Int) (a_5 : List Int) (a_6 : List Bool) (s : Int) (s_2 : Int) (s_3 : Int) (s_4 : Bool) (s_5 : Bool) (out : List Int) : Option (As [.sl (.int .u8), .int .i64]) := ask_Bytes_m2 (ask_Bytes_K3) a a_2 a_3 a_4 a_5 a_6 s s_2 s_3 s_4 s_5 out
def ask_Bytes_K1 (a : Int) (a_2 : Int) (a_3 : Int) (a_4 : Int) (a_5 : List Int) (a_6 : List Bool) (s : Int) (s_2 : Int) (s_3 : Int) (s_4 : Bool) (s_5 : Bool) (out : List Int) : Option (As [.sl (.int .u8), .int .i64]) := ask_Bytes_m1 (ask_Bytes_K2) a a_2 a_3 a_4 a_5 a_6 s s_2 s_3 s_4 s_5 out
def ask_Bytes (x : As [.pr (.int .u8) LAT2]) : Option (As [.sl (.int .u8), .int .i64]) := ask_Bytes_m0 ask_Bytes_K1 x.1
theorem ask_Bytes_c4 (J : Orc (As [.sl (.int .u8), .int .i64])) (out : List Int) : pfn Tryz.prog ask_Bytes_e 6 18446744073709551616 (Ev.get ask_Bytes_h) 34 ask_Bytes_s J 127 [] (ask_Bytes_k4 out) = ask_Bytes_m4 out := by kernel_rfl
theorem ask_Bytes_c3 (J : Orc (As [.sl (.int .u8), .int .i64])) (t43 : Bool) (a : Int) (a_2 : Int) (a_3 : Int) (a_4 : Int) (a_5 : List Int) (a_6 : List Bool) (s : Int) (s_2 : Int) (s_3 : Int) (s_4 : Bool) (s_5 : Bool) (out : List Int) : pfn Tryz.prog ask_Bytes_e 6 18446744073709551616 (Ev.get ask_Bytes_h) 34 ask_Bytes_s J 508 [] (ask_Bytes_k3 t43 a a_2 a_3 a_4 a_5 a_6 s s_2 s_3 s_4 s_5 out) = ask_Bytes_m3 (fun out => J 127 [] (ask_Bytes_k4 out)) t43 a a_2 a_3 a_4 a_5 a_6 s s_2 s_3 s_4 s_5 out := by kernel_rfl
theorem ask_Bytes_c2 (J : Orc (As [.sl (.int .u8), .int .i64])) (a : Int) (a_2 : Int) (a_3 : Int) (a_4 : Int) (a_5 : List Int) (a_6 : List Bool) (s : Int) (s_2 : Int) (s_3 : Int) (s_4 : Bool) (s_5 : Bool) (out : List Int) : pfn Tryz.prog ask_Bytes_e 6 18446744073709551616 (Ev.get ask_Bytes_h) 34 ask_Bytes_s J 63 [] (ask_Bytes_k2 a a_2 a_3 a_4 a_5 a_6 s s_2 s_3 s_4 s_5 out) = ask_Bytes_m2 (fun t43 a a_2 a_3 a_4 a_5 a_6 s s_2 s_3 s_4 s_5 out => J 508 [] (ask_Bytes_k3 t43 a a_2 a_3 a_4 a_5 a_6 s s_2 s_3 s_4 s_5 out)) a a_2 a_3 a_4 a_5 a_6 s s_2 s_3 s_4 s_5 out := by kernel_rfl
theorem ask_Bytes_c1 (J : Orc (As [.sl (.int .u8), .int .i64])) (a : Int) (a_2 : Int) (a_3 : Int) (a_4 : Int) (a_5 : List Int) (a_6 : List Bool) (s : Int) (s_2 : Int) (s_3 : Int) (s_4 : Bool) (s_5 : Bool) (out : List Int) : pfn Tryz.prog ask_Bytes_e 6 18446744073709551616 (Ev.get ask_Bytes_h) 34 ask_Bytes_s J 31 [] (ask_Bytes_k1 a a_2 a_3 a_4 a_5 a_6 s s_2 s_3 s_4 s_5 out) = ask_Bytes_m1 (fun a a_2 a_3 a_4 a_5 a_6 s s_2 s_3 s_4 s_5 out => J 63 [] (ask_Bytes_k2 a a_2 a_3 a_4 a_5 a_6 s s_2 s_3 s_4 s_5 out)) a a_2 a_3 a_4 a_5 a_6 s s_2 s_3 s_4 s_5 out := by kernel_rfl
theorem ask_Bytes_c0 (J : Orc (As [.sl (.int .u8), .int .i64])) (x : As [.pr (.int .u8) LAT2]) : rfn Tryz.prog ask_Bytes_e 6 18446744073709551616 (Ev.get ask_Bytes_h) 34 ask_Bytes_s J x = ask_Bytes_m0 (fun a a_2 a_3 a_4 a_5 a_6 s s_2 s_3 s_4 s_5 out => J 31 [] (ask_Bytes_k1 a a_2 a_3 a_4 a_5 a_6 s s_2 s_3 s_4 s_5 out)) x.1 := by kernel_rfl
theorem ask_Bytes_g4 (out : List Int) : jfn Tryz.prog ask_Bytes_e 6 18446744073709551616 (Ev.get ask_Bytes_h) 34 ask_Bytes_s 127 [] (ask_Bytes_k4 out) = ask_Bytes_K4 out := by
  rw [pfn_eq (by decide)]
  rw [ask_Bytes_c4]
  rfl
theorem ask_Bytes_g3 (t43 : Bool) (a : Int) (a_2 : Int) (a_3 : Int) (a_4 : Int) (a_5 : List Int) (a_6 : List Bool) (s : Int) (s_2 : Int) (s_3 : Int) (s_4 : Bool) (s_5 : Bool) (out : List Int) : jfn Tryz.prog ask_Bytes_e 6 18446744073709551616 (Ev.get ask_Bytes_h) 34 ask_Bytes_s 508 [] (ask_Bytes_k3 t43 a a_2 a_3 a_4 a_5 a_6 s s_2 s_3 s_4 s_5 out) = ask_Bytes_K3 t43 a a_2 a_3 a_4 a_5 a_6 s s_2 s_3 s_4 s_5 out := by
  rw [pfn_eq (by decide)]
  have e4 : (fun out => (jfn Tryz.prog ask_Bytes_e 6 18446744073709551616 (Ev.get ask_Bytes_h) 34 ask_Bytes_s) 127 [] (ask_Bytes_k4 out)) = ask_Bytes_K4 := funext fun out => ask_Bytes_g4 out
  rw [ask_Bytes_c3, e4]
  rfl
theorem ask_Bytes_g2 (a : Int) (a_2 : Int) (a_3 : Int) (a_4 : Int) (a_5 : List Int) (a_6 : List Bool) (s : Int) (s_2 : Int) (s_3 : Int) (s_4 : Bool) (s_5 : Bool) (out : List Int) : jfn Tryz.prog ask_Bytes_e 6 18446744073709551616 (Ev.get ask_Bytes_h) 34 ask_Bytes_s 63 [] (ask_Bytes_k2 a a_2 a_3 a_4 a_5 a_6 s s_2 s_3 s_4 s_5 out) = ask_Bytes_K2 a a_2 a_3 a_4 a_5 a_6 s s_2 s_3 s_4 s_5 out := by
  rw [pfn_eq (by decide)]
  have e3 : (fun t43 a a_2 a_3 a_4 a_5 a_6 s s_2 s_3 s_4 s_5 out => (jfn Tryz.prog ask_Bytes_e 6 18446744073709551616 (Ev.get ask_Bytes_h) 34 ask_Bytes_s) 508 [] (ask_Bytes_k3 t43 a a_2 a_3 a_4 a_5 a_6 s s_2 s_3 s_4 s_5 out)) = ask_Bytes_K3 := funext fun t43 => funext fun a => funext fun a_2 => funext fun a_3 => funext fun a_4 => funext fun a_5 => funext fun a_6 => funext fun s => funext fun s_2 => funext fun s_3 => funext fun s_4 => funext fun s_5 => funext fun out => ask_Bytes_g3 t43 a a_2 a_3 a_4 a_5 a_6 s s_2 s_3 s_4 s_5 out
  rw [ask_Bytes_c2, e3]
  rfl
theorem ask_Bytes_g1 (a : Int) (a_2 : Int) (a_3 : Int) (a_4 : Int) (a_5 : List Int) (a_6 : List Bool) (s : Int) (s_2 : Int) (s_3 : Int) (s_4 : Bool) (s_5 : Bool) (out : List Int) : jfn Tryz.prog ask_Bytes_e 6 18446744073709551616 (Ev.get ask_Bytes_h) 34 ask_Bytes_s 31 [] (ask_Bytes_k1 a a_2 a_3 a_4 a_5 a_6 s s_2 s_3 s_4 s_5 out) = ask_Bytes_K1 a a_2 a_3 a_4 a_5 a_6 s s_2 s_3 s_4 s_5 out := by
  rw [pfn_eq (by decide)]
  have e2 : (fun a a_2 a_3 a_4 a_5 a_6 s s_2 s_3 s_4 s_5 out => (jfn Tryz.prog ask_Bytes_e 6 18446744073709551616 (Ev.get ask_Bytes_h) 34 ask_Bytes_s) 63 [] (ask_Bytes_k2 a a_2 a_3 a_4 a_5 a_6 s s_2 s_3 s_4 s_5 out)) = ask_Bytes_K2 := funext fun a => funext fun a_2 => funext fun a_3 => funext fun a_4 => funext fun a_5 => funext fun a_6 => funext fun s => funext fun s_2 => funext fun s_3 => funext fun s_4 => funext fun s_5 => funext fun out => ask_Bytes_g2 a a_2 a_3 a_4 a_5 a_6 s s_2 s_3 s_4 s_5 out
  rw [ask_Bytes_c1, e2]
  rfl
theorem ask_Bytes_t (x : As [.pr (.int .u8) LAT2]) : evT Tryz.prog ask_Bytes_e 6 18446744073709551616 (Ev.get ask_Bytes_h) 34 ask_Bytes_s x = ask_Bytes x := by
  have e1 : (fun a a_2 a_3 a_4 a_5 a_6 s s_2 s_3 s_4 s_5 out => (jfn Tryz.prog ask_Bytes_e 6 18446744073709551616 (Ev.get ask_Bytes_h) 34 ask_Bytes_s) 31 [] (ask_Bytes_k1 a a_2 a_3 a_4 a_5 a_6 s s_2 s_3 s_4 s_5 out)) = ask_Bytes_K1 := funext fun a => funext fun a_2 => funext fun a_3 => funext fun a_4 => funext fun a_5 => funext fun a_6 => funext fun s => funext fun s_2 => funext fun s_3 => funext fun s_4 => funext fun s_5 => funext fun out => ask_Bytes_g1 a a_2 a_3 a_4 a_5 a_6 s s_2 s_3 s_4 s_5 out
  rw [rfn_eq, ask_Bytes_c0, e1]
  rfl
theorem ask_Bytes_ok : CtOk Tryz.prog (fun _ => True) 34 ⟨ask_Bytes_s, ask_Bytes⟩ := ct_of_ev (env_cons ask_Right_ok (env_cons ask_shape_ok (env_cons ask_numbers_ok (env_cons ask_Pack_ok env_nil)))) ask_Bytes_t
/-! mbap_Pack -/
@[reducible] def mbap_Pack_s : Sh := ⟨[.d (.pr (.int .u16) LAT5)], [], [.pr (.int .u16) LAT5], [.d (.sl (.int .u8)), .d (.int .i64)], [], 0, [.sl (.int .u8), .int .i64]⟩
def mbap_Pack_e : Env := (cts [])
def mbap_Pack_h : List (Nat × Hint) := [(14, ⟨[], [1, 4, 14]⟩)]
def mbap_Pack_k1 (n : Int) (t14 : Bool) (x : Int) (x_2 : Int) (x_3 : List Int) : St := { fr := [(1, .pb 0 0), (4, .d (.int .i64) n), (14, .d .bool t14)], nt := 37, up := [], own := [(0, .box 143 [.d (.int .u16) x, .d (.int .u8) x_2, .d (.sl (.int .u8)) x_3])], nx := 1, log := [], ln := 0 }
def mbap_Pack_m1 (n : Int) (t14 : Bool) (x : Int) (x_2 : Int) (x_3 : List Int) : Option (As [.sl (.int .u8), .int .i64]) :=
  if t14 = true then some ([], 2, ()) else need (Ev.capOk 0 (add .i64 7 n)) (need (small (Int.toNat (add .i64 7 n))) (need (small (0 + 7)) (need (small (List.length (List.replicate 0 0 ++ [cvt .u8 (Sx.shr .u16 x 8), cvt .u8 x, 0, 0, 0, cvt .u8 (add .i64 n 1), x_2]) + List.length x_3)) (some (List.replicate 0 0 ++ [cvt .u8 (Sx.shr .u16 x 8), cvt .u8 x, 0, 0, 0, cvt .u8 (add .i64 n 1), x_2] ++ x_3, 0, ())))))
def mbap_Pack_m0 (j1 : Int → Bool → Int → Int → List Int → Option (As [.sl (.int .u8), .int .i64])) (x : Int × Int × List Int) : Option (As [.sl (.int .u8), .int .i64]) :=
  if lt (Int.ofNat (List.length x.2.2)) 1 = true then j1 (Int.ofNat (List.length x.2.2)) true x.1 x.2.1 x.2.2 else j1 (Int.ofNat (List.length x.2.2)) (gt (Int.ofNat (List.length x.2.2)) 253) x.1 x.2.1 x.2.2
def mbap_Pack_K1 (n : Int) (t14 : Bool) (x : Int) (x_2 : Int) (x_3 : List Int) : Option (As [.sl (.int .u8), .int .i64]) := mbap_Pack_m1 n t14 x x_2 x_3
def mbap_Pack (x : As [.pr (.int .u16) LAT5]) : Option (As [.sl (.int .u8), .int .i64]) := mbap_Pack_m0 mbap_Pack_K1 x.1
theorem mbap_Pack_c1 (J : Orc (As [.sl (.int .u8), .int .i64])) (n : Int) (t14 : Bool) (x : Int) (x_2 : Int) (x_3 : List Int) : pfn Tryz.prog mbap_Pack_e 6 18446744073709551616 (Ev.get mbap_Pack_h) 121 mbap_Pack_s J 14 [] (mbap_Pack_k1 n t14 x x_2 x_3) = mbap_Pack_m1 n t14 x x_2 x_3 := by kernel_rfl
theorem mbap_Pack_c0 (J : Orc (As [.sl (.int .u8), .int .i64])) (x : As [.pr (.int .u16) LAT5]) : rfn Tryz.prog mbap_Pack_e 6 18446744073709551616 (Ev.get mbap_Pack_h) 121 mbap_Pack_s J x = mbap_Pack_m0 (fun n t14 x x_2 x_3 => J 14 [] (mbap_Pack_k1 n t14 x x_2 x_3)) x.1 := by kernel_rfl
theorem mbap_Pack_g1 (n : Int) (t14 : Bool) (x : Int) (x_2 : Int) (x_3 : List Int) : jfn Tryz.prog mbap_Pack_e 6 18446744073709551616 (Ev.get mbap_Pack_h) 121 mbap_Pack_s 14 [] (mbap_Pack_k1 n t14 x x_2 x_3) = mbap_Pack_K1 n t14 x x_2 x_3 := by
  rw [pfn_eq (by decide)]
  rw [mbap_Pack_c1]
  rfl
theorem mbap_Pack_t (x : As [.pr (.int .u16) LAT5]) : evT Tryz.prog mbap_Pack_e 6 18446744073709551616 (Ev.get mbap_Pack_h) 121 mbap_Pack_s x = mbap_Pack x := by
  have e1 : (fun n t14 x x_2 x_3 => (jfn Tryz.prog mbap_Pack_e 6 18446744073709551616 (Ev.get mbap_Pack_h) 121 mbap_Pack_s) 14 [] (mbap_Pack_k1 n t14 x x_2 x_3)) = mbap_Pack_K1 := funext fun n => funext fun t14 => funext fun x => funext fun x_2 => funext fun x_3 => mbap_Pack_g1 n t14 x x_2 x_3
  rw [rfn_eq, mbap_Pack_c0, e1]
  rfl
theorem mbap_Pack_ok : CtOk Tryz.prog (fun _ => True) 121 ⟨mbap_Pack_s, mbap_Pack⟩ := ct_of_ev env_nil mbap_Pack_t
/-! poll_tcp_frame -/
@[reducible] def poll_tcp_frame_s : Sh := ⟨[.d (.un), .d (.int .u8), .d (.int .u16), .d (.pr (.int .u8) LAT2)], [], [.un, .int .u8, .int .u16, .pr (.int .u8) LAT2], [.d (.sl (.int .u8))], [], 0, [.sl (.int .u8)]⟩
def poll_tcp_frame_e : Env := (cts [(34, (⟨ask_Bytes_s, ask_Bytes⟩ : Ct)), (121, (⟨mbap_Pack_s, mbap_Pack⟩ : Ct))])
def poll_tcp_frame_h : List (Nat × Hint) := []
def poll_tcp_frame_m0 (v : Unit) (unit : Int) (tx : Int) (a : Int × Int × Int × Int × List Int × List Bool) : Option (As [.sl (.int .u8)]) :=
  Option.bind (ask_Bytes (a, ())) fun (y : List Int × Int × Unit) => if nei y.2.1 0 = true then some ([], ()) else Option.bind (mbap_Pack ((tx, unit, y.1), ())) fun (y : List Int × Int × Unit) => if nei y.2.1 0 = true then some ([], ()) else some (y.1, ())
def poll_tcp_frame (x : As [.un, .int .u8, .int .u16, .pr (.int .u8) LAT2]) : Option (As [.sl (.int .u8)]) := poll_tcp_frame_m0 x.1 x.2.1 x.2.2.1 x.2.2.2.1
theorem poll_tcp_frame_c0 (J : Orc (As [.sl (.int .u8)])) (x : As [.un, .int .u8, .int .u16, .pr (.int .u8) LAT2]) : rfn Tryz.prog poll_tcp_frame_e 6 18446744073709551616 (Ev.get poll_tcp_frame_h) 299 poll_tcp_frame_s J x = poll_tcp_frame_m0 x.1 x.2.1 x.2.2.1 x.2.2.2.1 := by kernel_rfl
theorem poll_tcp_frame_t (x : As [.un, .int .u8, .int .u16, .pr (.int .u8) LAT2]) : evT Tryz.prog poll_tcp_frame_e 6 18446744073709551616 (Ev.get poll_tcp_frame_h) 299 poll_tcp_frame_s x = poll_tcp_frame x := by
  rw [rfn_eq, poll_tcp_frame_c0]
  rfl
theorem poll_tcp_frame_ok : CtOk Tryz.prog (fun _ => True) 299 ⟨poll_tcp_frame_s, poll_tcp_frame⟩ := ct_of_ev (env_cons ask_Bytes_ok (env_cons mbap_Pack_ok env_nil)) poll_tcp_frame_t
/-! poll_tcp_next -/
@[reducible] def poll_tcp_next_s : Sh := ⟨[.d (.un), .d (.int .u16)], [], [.un, .int .u16], [.d (.int .u16)], [], 0, [.int .u16]⟩
def poll_tcp_next_e : Env := (cts [])
def poll_tcp_next_h : List (Nat × Hint) := []
def poll_tcp_next_m0 (v : Unit) (tx : Int) : Option (As [.int .u16]) :=
  some (add .u16 tx 1, ())
def poll_tcp_next (x : As [.un, .int .u16]) : Option (As [.int .u16]) := poll_tcp_next_m0 x.1 x.2.1
theorem poll_tcp_next_c0 (J : Orc (As [.int .u16])) (x : As [.un, .int .u16]) : rfn Tryz.prog poll_tcp_next_e 6 18446744073709551616 (Ev.get poll_tcp_next_h) 300 poll_tcp_next_s J x = poll_tcp_next_m0 x.1 x.2.1 := by kernel_rfl
theorem poll_tcp_next_t (x : As [.un, .int .u16]) : evT Tryz.prog poll_tcp_next_e 6 18446744073709551616 (Ev.get poll_tcp_next_h) 300 poll_tcp_next_s x = poll_tcp_next x := by
  rw [rfn_eq, poll_tcp_next_c0]
  rfl
theorem poll_tcp_next_ok : CtOk Tryz.prog (fun _ => True) 300 ⟨poll_tcp_next_s, poll_tcp_next⟩ := ct_of_ev env_nil poll_tcp_next_t
/-! crc_table -/
@[reducible] def crc_table_s : Sh := ⟨[], [], [], [.d (.ar 16 (.int .u16))], [], 0, [.ar 16 (.int .u16)]⟩
def crc_table_e : Env := (cts [])
def crc_table_h : List (Nat × Hint) := [(58, ⟨[], [0, 1, 5]⟩), (7475, ⟨[], [0, 1, 2, 3, 5]⟩), (59802, ⟨[], [0, 1, 2, 3, 5, 10]⟩)]
def crc_table_k1 (t5 : Int) (t0 : List Int) (t : List Int) : St := { fr := [(0, .pb 0 0), (1, .pb 1 0), (5, .d (.int .i64) t5)], nt := 26, up := [], own := [(0, .row (.int .u16) 267 t0), (1, .row (.int .u16) 267 t)], nx := 2, log := [], ln := 0 }
def crc_table_k2 (i : Int) (x : Int) (t5 : Int) (t10 : Int) (t0 : List Int) (t : List Int) : St := { fr := [(0, .pb 0 0), (1, .pb 1 0), (2, .d (.int .i64) i), (3, .d (.int .u16) x), (5, .d (.int .i64) t5), (10, .d (.int .i64) t10)], nt := 26, up := [], own := [(0, .row (.int .u16) 267 t0), (1, .row (.int .u16) 267 t)], nx := 2, log := [], ln := 0 }
def crc_table_k3 (i : Int) (x : Int) (t5 : Int) (t0 : List Int) (t : List Int) : St := { fr := [(0, .pb 0 0), (1, .pb 1 0), (2, .d (.int .i64) i), (3, .d (.int .u16) x), (5, .d (.int .i64) t5)], nt := 26, up := [], own := [(0, .row (.int .u16) 267 t0), (1, .row (.int .u16) 267 t)], nx := 2, log := [], ln := 0 }
def crc_table_m1 (j2 : Int → Int → Int → Int → List Int → List Int → Option (As [.ar 16 (.int .u16)])) (self1 : Int → List Int → List Int → Option (As [.ar 16 (.int .u16)])) (t5 : Int) (t0 : List Int) (t : List Int) : Option (As [.ar 16 (.int .u16)]) :=
  if lt t5 16 = true then j2 t5 (cvt .u16 t5) t5 0 t0 t else need (eqi (Int.ofNat (List.length t)) 16) (need (eqi (Int.ofNat (List.length t0)) (Int.ofNat (List.length t))) (need (eqi 16 (Int.ofNat (List.length t * 1))) (need (eqi (Int.ofNat (List.length t)) 16) (need (eqi (Int.ofNat (List.length t)) 16) (some (t, ()))))))
def crc_table_m2 (j3 : Int → Int → Int → List Int → List Int → Option (As [.ar 16 (.int .u16)])) (self1 : Int → List Int → List Int → Option (As [.ar 16 (.int .u16)])) (self2 : Int → Int → Int → Int → List Int → List Int → Option (As [.ar 16 (.int .u16)])) (i : Int) (x : Int) (t5 : Int) (t10 : Int) (t0 : List Int) (t : List Int) : Option (As [.ar 16 (.int .u16)]) :=
  if lt t10 4 = true then if eqi (Sx.band .u16 x 1) 1 = true then self2 i (Sx.bxor .u16 (Sx.shr .u16 x 1) 40961) t5 (add .i64 t10 1) t0 t else self2 i (Sx.shr .u16 x 1) t5 (add .i64 t10 1) t0 t else j3 i x t5 t0 t
def crc_table_m3 (self1 : Int → List Int → List Int → Option (As [.ar 16 (.int .u16)])) (i : Int) (x : Int) (t5 : Int) (t0 : List Int) (t : List Int) : Option (As [.ar 16 (.int .u16)]) :=
  need (lt i 16) (Option.bind (at? t i) fun (x_1 : Int) => Option.bind (at? t i) fun (x_2 : Int) => self1 (add .i64 t5 1) t0 (List.set t (Int.toNat i) x))
def crc_table_m0 (j1 : Int → List Int → List Int → Option (As [.ar 16 (.int .u16)])) : Option (As [.ar 16 (.int .u16)]) :=
  j1 0 (List.replicate 16 0) (List.replicate 16 0)
def crc_table_K3 (u1 : Int → List Int → List Int → Option (As [.ar 16 (.int .u16)])) (i : Int) (x : Int) (t5 : Int) (t0 : List Int) (t : List Int) : Option (As [.ar 16 (.int .u16)]) := crc_table_m3 u1 i x t5 t0 t
def crc_table_K2 (u1 : Int → List Int → List Int → Option (As [.ar 16 (.int .u16)])) (i : Int) (x : Int) (t5 : Int) (t10 : Int) (t0 : List Int) (t : List Int) : Option (As [.ar 16 (.int .u16)]) :=
  loopF (fun (self : (Int) × (Int) × (Int) × (Int) × (List Int) × (List Int) → Option (As [.ar 16 (.int .u16)])) (s : (Int) × (Int) × (Int) × (Int) × (List Int) × (List Int)) => crc_table_m2 (crc_table_K3 u1) u1 (fun i x t5 t10 t0 t => self (i, x, t5, t10, t0, t)) s.1 s.2.1 s.2.2.1 s.2.2.2.1 s.2.2.2.2.1 s.2.2.2.2.2) 18446744073709551616 (i, x, t5, t10, t0, t)
def crc_table_K1 (t5 : Int) (t0 : List Int) (t : List Int) : Option (As [.ar 16 (.int .u16)]) :=
  loopF (fun (self : (Int) × (List Int) × (List Int) → Option (As [.ar 16 (.int .u16)])) (s : (Int) × (List Int) × (List Int)) => crc_table_m1 (crc_table_K2 (fun t5 t0 t => self (t5, t0, t))) (fun t5 t0 t => self (t5, t0, t)) s.1 s.2.1 s.2.2) 18446744073709551616 (t5, t0, t)
def crc_table (x : As []) : Option (As [.ar 16 (.int .u16)]) := crc_table_m0 crc_table_K1
theorem crc_table_c3 (J : Orc (As [.ar 16 (.int .u16)])) (w1 : St → Option (As [.ar 16 (.int .u16)])) (i : Int) (x : Int) (t5 : Int) (t0 : List Int) (t : List Int) : pfn Tryz.prog crc_table_e 6 18446744073709551616 (Ev.get crc_table_h) 210 crc_table_s J 7475 [w1] (crc_table_k3 i x t5 t0 t) = crc_table_m3 (fun t5 t0 t => w1 (crc_table_k1 t5 t0 t)) i x t5 t0 t := by kernel_rfl
theorem crc_table_c2 (J : Orc (As [.ar 16 (.int .u16)])) (w1 : St → Option (As [.ar 16 (.int .u16)])) (w2 : St → Option (As [.ar 16 (.int .u16)])) (i : Int) (x : Int) (t5 : Int) (t10 : Int) (t0 : List Int) (t : List Int) : pfn Tryz.prog crc_table_e 6 18446744073709551616 (Ev.get crc_table_h) 210 crc_table_s J 59802 [w1, w2] (crc_table_k2 i x t5 t10 t0 t) = crc_table_m2 (fun i x t5 t0 t => J 7475 [w1] (crc_table_k3 i x t5 t0 t)) (fun t5 t0 t => w1 (crc_table_k1 t5 t0 t)) (fun i x t5 t10 t0 t => w2 (crc_table_k2 i x t5 t10 t0 t)) i x t5 t10 t0 t := by kernel_rfl
theorem crc_table_c1 (J : Orc (As [.ar 16 (.int .u16)])) (w1 : St → Option (As [.ar 16 (.int .u16)])) (t5 : Int) (t0 : List Int) (t : List Int) : pfn Tryz.prog crc_table_e 6 18446744073709551616 (Ev.get crc_table_h) 210 crc_table_s J 58 [w1] (crc_table_k1 t5 t0 t) = crc_table_m1 (fun i x t5 t10 t0 t => J 59802 [w1] (crc_table_k2 i x t5 t10 t0 t)) (fun t5 t0 t => w1 (crc_table_k1 t5 t0 t)) t5 t0 t := by kernel_rfl
theorem crc_table_c0 (J : Orc (As [.ar 16 (.int .u16)])) (x : As []) : rfn Tryz.prog crc_table_e 6 18446744073709551616 (Ev.get crc_table_h) 210 crc_table_s J x = crc_table_m0 (fun t5 t0 t => J 58 [] (crc_table_k1 t5 t0 t)) := by kernel_rfl
theorem crc_table_g3 (w1 : St → Option (As [.ar 16 (.int .u16)])) (i : Int) (x : Int) (t5 : Int) (t0 : List Int) (t : List Int) : jfn Tryz.prog crc_table_e 6 18446744073709551616 (Ev.get crc_table_h) 210 crc_table_s 7475 [w1] (crc_table_k3 i x t5 t0 t) = crc_table_K3 (fun t5 t0 t => w1 (crc_table_k1 t5 t0 t)) i x t5 t0 t := by
  rw [pfn_eq (by decide)]
  rw [crc_table_c3]
  rfl
theorem crc_table_g2 (w1 : St → Option (As [.ar 16 (.int .u16)])) (i : Int) (x : Int) (t5 : Int) (t10 : Int) (t0 : List Int) (t : List Int) : jfn Tryz.prog crc_table_e 6 18446744073709551616 (Ev.get crc_table_h) 210 crc_table_s 59802 [w1] (crc_table_k2 i x t5 t10 t0 t) = crc_table_K2 (fun t5 t0 t => w1 (crc_table_k1 t5 t0 t)) i x t5 t10 t0 t := by
  rw [pfn_eq (by decide)]
  rw [pfn_loop (by kernel_rfl)]
  refine loopF_sim (σ := (Int) × (Int) × (Int) × (Int) × (List Int) × (List Int)) (mk := fun s => crc_table_k2 s.1 s.2.1 s.2.2.1 s.2.2.2.1 s.2.2.2.2.1 s.2.2.2.2.2) (fun w2 s => ?_) 18446744073709551616 (i, x, t5, t10, t0, t)
  have e3 : (fun i x t5 t0 t => (jfn Tryz.prog crc_table_e 6 18446744073709551616 (Ev.get crc_table_h) 210 crc_table_s) 7475 [w1] (crc_table_k3 i x t5 t0 t)) = crc_table_K3 (fun t5 t0 t => w1 (crc_table_k1 t5 t0 t)) := funext fun i => funext fun x => funext fun t5 => funext fun t0 => funext fun t => crc_table_g3 w1 i x t5 t0 t
  refine (crc_table_c2 _ w1 w2 s.1 s.2.1 s.2.2.1 s.2.2.2.1 s.2.2.2.2.1 s.2.2.2.2.2).trans ?_
  rw [e3]
theorem crc_table_g1 (t5 : Int) (t0 : List Int) (t : List Int) : jfn Tryz.prog crc_table_e 6 18446744073709551616 (Ev.get crc_table_h) 210 crc_table_s 58 [] (crc_table_k1 t5 t0 t) = crc_table_K1 t5 t0 t := by
  rw [pfn_eq (by decide)]
  rw [pfn_loop (by kernel_rfl)]
  refine loopF_sim (σ := (Int) × (List Int) × (List Int)) (mk := fun s => crc_table_k1 s.1 s.2.1 s.2.2) (fun w1 s => ?_) 18446744073709551616 (t5, t0, t)
  have e2 : (fun i x t5 t10 t0 t => (jfn Tryz.prog crc_table_e 6 18446744073709551616 (Ev.get crc_table_h) 210 crc_table_s) 59802 [w1] (crc_table_k2 i x t5 t10 t0 t)) = crc_table_K2 (fun t5 t0 t => w1 (crc_table_k1 t5 t0 t)) := funext fun i => funext fun x => funext fun t5 => funext fun t10 => funext fun t0 => funext fun t => crc_table_g2 w1 i x t5 t10 t0 t
  refine (crc_table_c1 _ w1 s.1 s.2.1 s.2.2).trans ?_
  rw [e2]
theorem crc_table_t (x : As []) : evT Tryz.prog crc_table_e 6 18446744073709551616 (Ev.get crc_table_h) 210 crc_table_s x = crc_table x := by
  have e1 : (fun t5 t0 t => (jfn Tryz.prog crc_table_e 6 18446744073709551616 (Ev.get crc_table_h) 210 crc_table_s) 58 [] (crc_table_k1 t5 t0 t)) = crc_table_K1 := funext fun t5 => funext fun t0 => funext fun t => crc_table_g1 t5 t0 t
  rw [rfn_eq, crc_table_c0, e1]
  rfl
theorem crc_table_ok : CtOk Tryz.prog (fun _ => True) 210 ⟨crc_table_s, crc_table⟩ := ct_of_ev env_nil crc_table_t
/-! crc_step -/
@[reducible] def crc_step_s : Sh := ⟨[.pb 0 0, .d (.int .u16), .d (.int .u8)], [.row (.int .u16) 267], [.int .u16, .int .u8, .sl (.int .u16)], [.d (.int .u16)], [(0, .row (.int .u16) 267)], 0, [.int .u16, .sl (.int .u16)]⟩
def crc_step_e : Env := (cts [])
def crc_step_h : List (Nat × Hint) := []
def crc_step_m0 (t : Int) (sum : Int) (c : List Int) : Option (As [.int .u16, .sl (.int .u16)]) :=
  need (lt (Sx.band .u16 (Sx.bxor .u16 t (cvt .u16 sum)) 15) 16) (Option.bind (at? c (Sx.band .u16 (Sx.bxor .u16 t (cvt .u16 sum)) 15)) fun (x : Int) => Option.bind (at? c (Sx.band .u16 (Sx.bxor .u16 t (cvt .u16 sum)) 15)) fun (y : Int) => need (lt (Sx.band .u16 (Sx.bxor .u16 (Sx.shr .u16 (Sx.bxor .u16 t (cvt .u16 sum)) 4) y) 15) 16) (Option.bind (at? c (Sx.band .u16 (Sx.bxor .u16 (Sx.shr .u16 (Sx.bxor .u16 t (cvt .u16 sum)) 4) y) 15)) fun (x : Int) => Option.bind (at? c (Sx.band .u16 (Sx.bxor .u16 (Sx.shr .u16 (Sx.bxor .u16 t (cvt .u16 sum)) 4) y) 15)) fun (y_1 : Int) => some (Sx.bxor .u16 (Sx.shr .u16 (Sx.bxor .u16 (Sx.shr .u16 (Sx.bxor .u16 t (cvt .u16 sum)) 4) y) 4) y_1, c, ())))
def crc_step (x : As [.int .u16, .int .u8, .sl (.int .u16)]) : Option (As [.int .u16, .sl (.int .u16)]) := crc_step_m0 x.1 x.2.1 x.2.2.1
theorem crc_step_c0 (J : Orc (As [.int .u16, .sl (.int .u16)])) (x : As [.int .u16, .int .u8, .sl (.int .u16)]) : rfn Tryz.prog crc_step_e 6 18446744073709551616 (Ev.get crc_step_h) 211 crc_step_s J x = crc_step_m0 x.1 x.2.1 x.2.2.1 := by kernel_rfl
theorem crc_step_t (x : As [.int .u16, .int .u8, .sl (.int .u16)]) : evT Tryz.prog crc_step_e 6 18446744073709551616 (Ev.get crc_step_h) 211 crc_step_s x = crc_step x := by
  rw [rfn_eq, crc_step_c0]
  rfl
theorem crc_step_ok : CtOk Tryz.prog (fun _ => True) 211 ⟨crc_step_s, crc_step⟩ := ct_of_ev env_nil crc_step_t
/-! crc_Sum -/
@[reducible] def crc_Sum_s : Sh := ⟨[.d (.sl (.int .u8))], [], [.sl (.int .u8)], [.d (.int .u16)], [], 0, [.int .u16]⟩
def crc_Sum_e : Env := (cts [(210, (⟨crc_table_s, crc_table⟩ : Ct)), (211, (⟨crc_step_s, crc_step⟩ : Ct))])
def crc_Sum_h : List (Nat × Hint) := [(122, ⟨[], [0, 3, 4, 8, 9]⟩)]
def crc_Sum_k1 (b : List Int) (sum : Int) (t8 : Int) (t9 : Int) (t : List Int) : St := { fr := [(0, .d (.sl (.int .u8)) b), (3, .pb 0 0), (4, .d (.int .u16) sum), (8, .d (.int .i64) t8), (9, .d (.int .i64) t9)], nt := 20, up := [], own := [(0, .row (.int .u16) 267 t)], nx := 1, log := [], ln := 0 }
def crc_Sum_m1 (self1 : List Int → Int → Int → Int → List Int → Option (As [.int .u16])) (b : List Int) (sum : Int) (t8 : Int) (t9 : Int) (t : List Int) : Option (As [.int .u16]) :=
  if lt t9 t8 = true then Option.bind (at? b t9) fun (y : Int) => Option.bind (crc_step (sum, y, t, ())) fun (y : Int × List Int × Unit) => self1 b y.1 t8 (add .i64 t9 1) y.2.1 else some (sum, ())
def crc_Sum_m0 (j1 : List Int → Int → Int → Int → List Int → Option (As [.int .u16])) (b : List Int) : Option (As [.int .u16]) :=
  Option.bind (crc_table ()) fun (y : List Int × Unit) => need (eqi 16 (Int.ofNat (List.length y.1))) (need (eqi 16 (Int.ofNat (List.length y.1 * 1))) (j1 b 65535 (Int.ofNat (List.length b)) 0 y.1))
def crc_Sum_K1 (b : List Int) (sum : Int) (t8 : Int) (t9 : Int) (t : List Int) : Option (As [.int .u16]) :=
  loopF (fun (self : (List Int) × (Int) × (Int) × (Int) × (List Int) → Option (As [.int .u16])) (s : (List Int) × (Int) × (Int) × (Int) × (List Int)) => crc_Sum_m1 (fun b sum t8 t9 t => self (b, sum, t8, t9, t)) s.1 s.2.1 s.2.2.1 s.2.2.2.1 s.2.2.2.2) 18446744073709551616 (b, sum, t8, t9, t)
def crc_Sum (x : As [.sl (.int .u8)]) : Option (As [.int .u16]) := crc_Sum_m0 crc_Sum_K1 x.1
theorem crc_Sum_c1 (J : Orc (As [.int .u16])) (w1 : St → Option (As [.int .u16])) (b : List Int) (sum : Int) (t8 : Int) (t9 : Int) (t : List Int) : pfn Tryz.prog crc_Sum_e 6 18446744073709551616 (Ev.get crc_Sum_h) 159 crc_Sum_s J 122 [w1] (crc_Sum_k1 b sum t8 t9 t) = crc_Sum_m1 (fun b sum t8 t9 t => w1 (crc_Sum_k1 b sum t8 t9 t)) b sum t8 t9 t := by kernel_rfl
theorem crc_Sum_c0 (J : Orc (As [.int .u16])) (x : As [.sl (.int .u8)]) : rfn Tryz.prog crc_Sum_e 6 18446744073709551616 (Ev.get crc_Sum_h) 159 crc_Sum_s J x = crc_Sum_m0 (fun b sum t8 t9 t => J 122 [] (crc_Sum_k1 b sum t8 t9 t)) x.1 := by kernel_rfl
theorem crc_Sum_g1 (b : List Int) (sum : Int) (t8 : Int) (t9 : Int) (t : List Int) : jfn Tryz.prog crc_Sum_e 6 18446744073709551616 (Ev.get crc_Sum_h) 159 crc_Sum_s 122 [] (crc_Sum_k1 b sum t8 t9 t) = crc_Sum_K1 b sum t8 t9 t := by
  rw [pfn_eq (by decide)]
  rw [pfn_loop (by kernel_rfl)]
  refine loopF_sim (σ := (List Int) × (Int) × (Int) × (Int) × (List Int)) (mk := fun s => crc_Sum_k1 s.1 s.2.1 s.2.2.1 s.2.2.2.1 s.2.2.2.2) (fun w1 s => ?_) 18446744073709551616 (b, sum, t8, t9, t)
  refine (crc_Sum_c1 _ w1 s.1 s.2.1 s.2.2.1 s.2.2.2.1 s.2.2.2.2).trans ?_
  rfl
theorem crc_Sum_t (x : As [.sl (.int .u8)]) : evT Tryz.prog crc_Sum_e 6 18446744073709551616 (Ev.get crc_Sum_h) 159 crc_Sum_s x = crc_Sum x := by
  have e1 : (fun b sum t8 t9 t => (jfn Tryz.prog crc_Sum_e 6 18446744073709551616 (Ev.get crc_Sum_h) 159 crc_Sum_s) 122 [] (crc_Sum_k1 b sum t8 t9 t)) = crc_Sum_K1 := funext fun b => funext fun sum => funext fun t8 => funext fun t9 => funext fun t => crc_Sum_g1 b sum t8 t9 t
  rw [rfn_eq, crc_Sum_c0, e1]
  rfl
theorem crc_Sum_ok : CtOk Tryz.prog (fun _ => True) 159 ⟨crc_Sum_s, crc_Sum⟩ := ct_of_ev (env_cons crc_table_ok (env_cons crc_step_ok env_nil)) crc_Sum_t
/-! crc_Put -/
@[reducible] def crc_Put_s : Sh := ⟨[.d (.sl (.int .u8))], [], [.sl (.int .u8)], [.d (.sl (.int .u8))], [], 0, [.sl (.int .u8)]⟩
def crc_Put_e : Env := (cts [(159, (⟨crc_Sum_s, crc_Sum⟩ : Ct))])
def crc_Put_h : List (Nat × Hint) := []
def crc_Put_m0 (b : List Int) : Option (As [.sl (.int .u8)]) :=
  Option.bind (crc_Sum (b, ())) fun (y : Int × Unit) => need (Ev.capOk 0 (add .i64 (Int.ofNat (List.length b)) 2)) (need (small (Int.toNat (add .i64 (Int.ofNat (List.length b)) 2))) (need (small (0 + List.length b)) (need (small (List.length (List.replicate 0 0 ++ b) + 2)) (some (List.replicate 0 0 ++ b ++ [cvt .u8 y.1, cvt .u8 (Sx.shr .u16 y.1 8)], ())))))
def crc_Put (x : As [.sl (.int .u8)]) : Option (As [.sl (.int .u8)]) := crc_Put_m0 x.1
theorem crc_Put_c0 (J : Orc (As [.sl (.int .u8)])) (x : As [.sl (.int .u8)]) : rfn Tryz.prog crc_Put_e 6 18446744073709551616 (Ev.get crc_Put_h) 75 crc_Put_s J x = crc_Put_m0 x.1 := by kernel_rfl
theorem crc_Put_t (x : As [.sl (.int .u8)]) : evT Tryz.prog crc_Put_e 6 18446744073709551616 (Ev.get crc_Put_h) 75 crc_Put_s x = crc_Put x := by
  rw [rfn_eq, crc_Put_c0]
  rfl
theorem crc_Put_ok : CtOk Tryz.prog (fun _ => True) 75 ⟨crc_Put_s, crc_Put⟩ := ct_of_ev (env_cons crc_Sum_ok env_nil) crc_Put_t
/-! rtu_isUnit -/
@[reducible] def rtu_isUnit_s : Sh := ⟨[.d (.int .u8)], [], [.int .u8], [.d (.bool)], [], 0, [.bool]⟩
def rtu_isUnit_e : Env := (cts [])
def rtu_isUnit_h : List (Nat × Hint) := []
def rtu_isUnit_m0 (unit : Int) : Option (As [.bool]) :=
  if ge unit 1 = true then some (le unit 247, ()) else some (false, ())
def rtu_isUnit (x : As [.int .u8]) : Option (As [.bool]) := rtu_isUnit_m0 x.1
theorem rtu_isUnit_c0 (J : Orc (As [.bool])) (x : As [.int .u8]) : rfn Tryz.prog rtu_isUnit_e 6 18446744073709551616 (Ev.get rtu_isUnit_h) 119 rtu_isUnit_s J x = rtu_isUnit_m0 x.1 := by kernel_rfl
theorem rtu_isUnit_t (x : As [.int .u8]) : evT Tryz.prog rtu_isUnit_e 6 18446744073709551616 (Ev.get rtu_isUnit_h) 119 rtu_isUnit_s x = rtu_isUnit x := by
  rw [rfn_eq, rtu_isUnit_c0]
  rfl
theorem rtu_isUnit_ok : CtOk Tryz.prog (fun _ => True) 119 ⟨rtu_isUnit_s, rtu_isUnit⟩ := ct_of_ev env_nil rtu_isUnit_t
/-! rtu_Bytes -/
@[reducible] def rtu_Bytes_s : Sh := ⟨[.d (.int .u8), .d (.sl (.int .u8))], [], [.int .u8, .sl (.int .u8)], [.d (.sl (.int .u8)), .d (.int .i64)], [], 0, [.sl (.int .u8), .int .i64]⟩
def rtu_Bytes_e : Env := (cts [(75, (⟨crc_Put_s, crc_Put⟩ : Ct)), (119, (⟨rtu_isUnit_s, rtu_isUnit⟩ : Ct))])
def rtu_Bytes_h : List (Nat × Hint) := [(6, ⟨[], [0, 1, 18]⟩)]
def rtu_Bytes_k1 (unit : Int) (pdu : List Int) (t18 : Bool) : St := { fr := [(0, .d (.int .u8) unit), (1, .d (.sl (.int .u8)) pdu), (18, .d .bool t18)], nt := 24, up := [], own := [], nx := 0, log := [], ln := 0 }
def rtu_Bytes_m1 (unit : Int) (pdu : List Int) (t18 : Bool) : Option (As [.sl (.int .u8), .int .i64]) :=
  if t18 = true then some ([], 2, ()) else need (small (1 + List.length pdu)) (Option.bind (crc_Put (unit :: pdu, ())) fun (y : List Int × Unit) => some (y.1, 0, ()))
def rtu_Bytes_m0 (j1 : Int → List Int → Bool → Option (As [.sl (.int .u8), .int .i64])) (unit : Int) (pdu : List Int) : Option (As [.sl (.int .u8), .int .i64]) :=
  Option.bind (rtu_isUnit (unit, ())) fun (y : Bool × Unit) => if (!y.1) = true then j1 unit pdu true else if lt (Int.ofNat (List.length pdu)) 1 = true then j1 unit pdu true else j1 unit pdu (gt (Int.ofNat (List.length pdu)) 253)
def rtu_Bytes_K1 (unit : Int) (pdu : List Int) (t18 : Bool) : Option (As [.sl (.int .u8), .int .i64]) := rtu_Bytes_m1 unit pdu t18
def rtu_Bytes (x : As [.int .u8, .sl (.int .u8)]) : Option (As [.sl (.int .u8), .int .i64]) := rtu_Bytes_m0 rtu_Bytes_K1 x.1 x.2.1
theorem rtu_Bytes_c1 (J : Orc (As [.sl (.int .u8), .int .i64])) (unit : Int) (pdu : List Int) (t18 : Bool) : pfn Tryz.prog rtu_Bytes_e 6 18446744073709551616 (Ev.get rtu_Bytes_h) 49 rtu_Bytes_s J 6 [] (rtu_Bytes_k1 unit pdu t18) = rtu_Bytes_m1 unit pdu t18 := by kernel_rfl
theorem rtu_Bytes_c0 (J : Orc (As [.sl (.int .u8), .int .i64])) (x : As [.int .u8, .sl (.int .u8)]) : rfn Tryz.prog rtu_Bytes_e 6 18446744073709551616 (Ev.get rtu_Bytes_h) 49 rtu_Bytes_s J x = rtu_Bytes_m0 (fun unit pdu t18 => J 6 [] (rtu_Bytes_k1 unit pdu t18)) x.1 x.2.1 := by kernel_rfl
theorem rtu_Bytes_g1 (unit : Int) (pdu : List Int) (t18 : Bool) : jfn Tryz.prog rtu_Bytes_e 6 18446744073709551616 (Ev.get rtu_Bytes_h) 49 rtu_Bytes_s 6 [] (rtu_Bytes_k1 unit pdu t18) = rtu_Bytes_K1 unit pdu t18 := by
  rw [pfn_eq (by decide)]
  rw [rtu_Bytes_c1]
  rfl
theorem rtu_Bytes_t (x : As [.int .u8, .sl (.int .u8)]) : evT Tryz.prog rtu_Bytes_e 6 18446744073709551616 (Ev.get rtu_Bytes_h) 49 rtu_Bytes_s x = rtu_Bytes x := by
  have e1 : (fun unit pdu t18 => (jfn Tryz.prog rtu_Bytes_e 6 18446744073709551616 (Ev.get rtu_Bytes_h) 49 rtu_Bytes_s) 6 [] (rtu_Bytes_k1 unit pdu t18)) = rtu_Bytes_K1 := funext fun unit => funext fun pdu => funext fun t18 => rtu_Bytes_g1 unit pdu t18
  rw [rfn_eq, rtu_Bytes_c0, e1]
  rfl
theorem rtu_Bytes_ok : CtOk Tryz.prog (fun _ => True) 49 ⟨rtu_Bytes_s, rtu_Bytes⟩ := ct_of_ev (env_cons crc_Put_ok (env_cons rtu_isUnit_ok env_nil)) rtu_Bytes_t
/-! rtu_Ask -/
@[reducible] def rtu_Ask_s : Sh := ⟨[.d (.int .u8), .d (.pr (.int .u8) LAT2)], [], [.int .u8, .pr (.int .u8) LAT2], [.d (.sl (.int .u8)), .d (.int .i64)], [], 0, [.sl (.int .u8), .int .i64]⟩
def rtu_Ask_e : Env := (cts [(34, (⟨ask_Bytes_s, ask_Bytes⟩ : Ct)), (49, (⟨rtu_Bytes_s, rtu_Bytes⟩ : Ct))])
def rtu_Ask_h : List (Nat × Hint) := []
def rtu_Ask_m0 (unit : Int) (a : Int × Int × Int × Int × List Int × List Bool) : Option (As [.sl (.int .u8), .int .i64]) :=
  Option.bind (ask_Bytes (a, ())) fun (y : List Int × Int × Unit) => if nei y.2.1 0 = true then some ([], y.2.1, ()) else Option.bind (rtu_Bytes (unit, y.1, ())) fun (y : List Int × Int × Unit) => some (y.1, y.2.1, ())
def rtu_Ask (x : As [.int .u8, .pr (.int .u8) LAT2]) : Option (As [.sl (.int .u8), .int .i64]) := rtu_Ask_m0 x.1 x.2.1
theorem rtu_Ask_c0 (J : Orc (As [.sl (.int .u8), .int .i64])) (x : As [.int .u8, .pr (.int .u8) LAT2]) : rfn Tryz.prog rtu_Ask_e 6 18446744073709551616 (Ev.get rtu_Ask_h) 305 rtu_Ask_s J x = rtu_Ask_m0 x.1 x.2.1 := by kernel_rfl
theorem rtu_Ask_t (x : As [.int .u8, .pr (.int .u8) LAT2]) : evT Tryz.prog rtu_Ask_e 6 18446744073709551616 (Ev.get rtu_Ask_h) 305 rtu_Ask_s x = rtu_Ask x := by
  rw [rfn_eq, rtu_Ask_c0]
  rfl
theorem rtu_Ask_ok : CtOk Tryz.prog (fun _ => True) 305 ⟨rtu_Ask_s, rtu_Ask⟩ := ct_of_ev (env_cons ask_Bytes_ok (env_cons rtu_Bytes_ok env_nil)) rtu_Ask_t
/-! poll_serial_frame -/
@[reducible] def poll_serial_frame_s : Sh := ⟨[.d (.un), .d (.int .u8), .d (.int .u16), .d (.pr (.int .u8) LAT2)], [], [.un, .int .u8, .int .u16, .pr (.int .u8) LAT2], [.d (.sl (.int .u8))], [], 0, [.sl (.int .u8)]⟩
def poll_serial_frame_e : Env := (cts [(305, (⟨rtu_Ask_s, rtu_Ask⟩ : Ct))])
def poll_serial_frame_h : List (Nat × Hint) := []
def poll_serial_frame_m0 (v : Unit) (unit : Int) (tx : Int) (a : Int × Int × Int × Int × List Int × List Bool) : Option (As [.sl (.int .u8)]) :=
  Option.bind (rtu_Ask (unit, a, ())) fun (y : List Int × Int × Unit) => if nei y.2.1 0 = true then some ([], ()) else some (y.1, ())
def poll_serial_frame (x : As [.un, .int .u8, .int .u16, .pr (.int .u8) LAT2]) : Option (As [.sl (.int .u8)]) := poll_serial_frame_m0 x.1 x.2.1 x.2.2.1 x.2.2.2.1
theorem poll_serial_frame_c0 (J : Orc (As [.sl (.int .u8)])) (x : As [.un, .int .u8, .int .u16, .pr (.int .u8) LAT2]) : rfn Tryz.prog poll_serial_frame_e 6 18446744073709551616 (Ev.get poll_serial_frame_h) 302 poll_serial_frame_s J x = poll_serial_frame_m0 x.1 x.2.1 x.2.2.1 x.2.2.2.1 := by kernel_rfl
theorem poll_serial_frame_t (x : As [.un, .int .u8, .int .u16, .pr (.int .u8) LAT2]) : evT Tryz.prog poll_serial_frame_e 6 18446744073709551616 (Ev.get poll_serial_frame_h) 302 poll_serial_frame_s x = poll_serial_frame x := by
  rw [rfn_eq, poll_serial_frame_c0]
  rfl
theorem poll_serial_frame_ok : CtOk Tryz.prog (fun _ => True) 302 ⟨poll_serial_frame_s, poll_serial_frame⟩ := ct_of_ev (env_cons rtu_Ask_ok env_nil) poll_serial_frame_t
/-! poll_serial_next -/
@[reducible] def poll_serial_next_s : Sh := ⟨[.d (.un), .d (.int .u16)], [], [.un, .int .u16], [.d (.int .u16)], [], 0, [.int .u16]⟩
def poll_serial_next_e : Env := (cts [])
def poll_serial_next_h : List (Nat × Hint) := []
def poll_serial_next_m0 (v : Unit) (tx : Int) : Option (As [.int .u16]) :=
  some (tx, ())
def poll_serial_next (x : As [.un, .int .u16]) : Option (As [.int .u16]) := poll_serial_next_m0 x.1 x.2.1
theorem poll_serial_next_c0 (J : Orc (As [.int .u16])) (x : As [.un, .int .u16]) : rfn Tryz.prog poll_serial_next_e 6 18446744073709551616 (Ev.get poll_serial_next_h) 303 poll_serial_next_s J x = poll_serial_next_m0 x.1 x.2.1 := by kernel_rfl
theorem poll_serial_next_t (x : As [.un, .int .u16]) : evT Tryz.prog poll_serial_next_e 6 18446744073709551616 (Ev.get poll_serial_next_h) 303 poll_serial_next_s x = poll_serial_next x := by
  rw [rfn_eq, poll_serial_next_c0]
  rfl
theorem poll_serial_next_ok : CtOk Tryz.prog (fun _ => True) 303 ⟨poll_serial_next_s, poll_serial_next⟩ := ct_of_ev env_nil poll_serial_next_t
/-! poll_sent -/
@[reducible] def poll_sent_s : Sh := ⟨[.d (.pr (.int .u8) LAT0)], [], [.pr (.int .u8) LAT0], [.d (.pr (.int .u8) LAT0), .d (.sl (.int .u8))], [], 0, [.pr (.int .u8) LAT0, .sl (.int .u8)]⟩
def poll_sent_e : Env := (cts [(299, (⟨poll_tcp_frame_s, poll_tcp_frame⟩ : Ct)), (300, (⟨poll_tcp_next_s, poll_tcp_next⟩ : Ct)), (302, (⟨poll_serial_frame_s, poll_serial_frame⟩ : Ct)), (303, (⟨poll_serial_next_s, poll_serial_next⟩ : Ct))])
def poll_sent_h : List (Nat × Hint) := []
def poll_sent_m0 (p : Int × Int × Int × Int × Bool × LAT3 × Int × Int × Int) : Option (As [.pr (.int .u8) LAT0, .sl (.int .u8)]) :=
  if eqi p.2.1 2 = true then Option.bind (poll_tcp_next ((), p.2.2.2.2.2.2.1, ())) fun (y : Int × Unit) => Option.bind (poll_tcp_frame ((), p.1, y.1, p.2.2.2.2.2.1, ())) fun (y_1 : List Int × Unit) => some ((p.1, p.2.1, p.2.2.1, p.2.2.2.1, p.2.2.2.2.1, p.2.2.2.2.2.1, y.1, p.2.2.1, p.2.2.2.2.2.2.2.2), y_1.1, ()) else Option.bind (poll_serial_next ((), p.2.2.2.2.2.2.1, ())) fun (y : Int × Unit) => Option.bind (poll_serial_frame ((), p.1, y.1, p.2.2.2.2.2.1, ())) fun (y_1 : List Int × Unit) => some ((p.1, p.2.1, p.2.2.1, p.2.2.2.1, p.2.2.2.2.1, p.2.2.2.2.2.1, y.1, p.2.2.1, p.2.2.2.2.2.2.2.2), y_1.1, ())
def poll_sent (x : As [.pr (.int .u8) LAT0]) : Option (As [.pr (.int .u8) LAT0, .sl (.int .u8)]) := poll_sent_m0 x.1
theorem poll_sent_c0 (J : Orc (As [.pr (.int .u8) LAT0, .sl (.int .u8)])) (x : As [.pr (.int .u8) LAT0]) : rfn Tryz.prog poll_sent_e 6 18446744073709551616 (Ev.get poll_sent_h) 84 poll_sent_s J x = poll_sent_m0 x.1 := by kernel_rfl
theorem poll_sent_t (x : As [.pr (.int .u8) LAT0]) : evT Tryz.prog poll_sent_e 6 18446744073709551616 (Ev.get poll_sent_h) 84 poll_sent_s x = poll_sent x := by
  rw [rfn_eq, poll_sent_c0]
  rfl
theorem poll_sent_ok : CtOk Tryz.prog (fun _ => True) 84 ⟨poll_sent_s, poll_sent⟩ := ct_of_ev (env_cons poll_tcp_frame_ok (env_cons poll_tcp_next_ok (env_cons poll_serial_frame_ok (env_cons poll_serial_next_ok env_nil)))) poll_sent_t
/-! poll_Tick -/
@[reducible] def poll_Tick_s : Sh := ⟨[.d (.pr (.int .u8) LAT0)], [], [.pr (.int .u8) LAT0], [.d (.pr (.int .u8) LAT0), .d (.sl (.int .u8)), .d (.bool)], [], 0, [.pr (.int .u8) LAT0, .sl (.int .u8), .bool]⟩
def poll_Tick_e : Env := (cts [(28, (⟨poll_Drop_s, poll_Drop⟩ : Ct)), (82, (⟨poll_own_s, poll_own⟩ : Ct)), (84, (⟨poll_sent_s, poll_sent⟩ : Ct))])
def poll_Tick_h : List (Nat × Hint) := []
def poll_Tick_m0 (p : Int × Int × Int × Int × Bool × LAT3 × Int × Int × Int) : Option (As [.pr (.int .u8) LAT0, .sl (.int .u8), .bool]) :=
  Option.bind (poll_own (p, ())) fun (y : (Int × Int × Int × Int × Bool × LAT3 × Int × Int × Int) × Unit) => if (!y.1.2.2.2.2.1) = true then some (y.1, [], false, ()) else if nei (Sx.sub .i64 y.1.2.2.2.2.2.2.2.1 1) 0 = true then some ((y.1.1, y.1.2.1, y.1.2.2.1, y.1.2.2.2.1, y.1.2.2.2.2.1, y.1.2.2.2.2.2.1, y.1.2.2.2.2.2.2.1, Sx.sub .i64 y.1.2.2.2.2.2.2.2.1 1, y.1.2.2.2.2.2.2.2.2), [], false, ()) else if gt y.1.2.2.2.2.2.2.2.2 0 = true then Option.bind (poll_sent ((y.1.1, y.1.2.1, y.1.2.2.1, y.1.2.2.2.1, y.1.2.2.2.2.1, y.1.2.2.2.2.2.1, y.1.2.2.2.2.2.2.1, Sx.sub .i64 y.1.2.2.2.2.2.2.2.1 1, Sx.sub .i64 y.1.2.2.2.2.2.2.2.2 1), ())) fun (y : (Int × Int × Int × Int × Bool × LAT3 × Int × Int × Int) × List Int × Unit) => some (y.1, y.2.1, false, ()) else Option.bind (poll_Drop ((y.1.1, y.1.2.1, y.1.2.2.1, y.1.2.2.2.1, y.1.2.2.2.2.1, y.1.2.2.2.2.2.1, y.1.2.2.2.2.2.2.1, Sx.sub .i64 y.1.2.2.2.2.2.2.2.1 1, y.1.2.2.2.2.2.2.2.2), ())) fun (y : (Int × Int × Int × Int × Bool × LAT3 × Int × Int × Int) × Unit) => some (y.1, [], true, ())
def poll_Tick (x : As [.pr (.int .u8) LAT0]) : Option (As [.pr (.int .u8) LAT0, .sl (.int .u8), .bool]) := poll_Tick_m0 x.1
theorem poll_Tick_c0 (J : Orc (As [.pr (.int .u8) LAT0, .sl (.int .u8), .bool])) (x : As [.pr (.int .u8) LAT0]) : rfn Tryz.prog poll_Tick_e 6 18446744073709551616 (Ev.get poll_Tick_h) 26 poll_Tick_s J x = poll_Tick_m0 x.1 := by kernel_rfl
theorem poll_Tick_t (x : As [.pr (.int .u8) LAT0]) : evT Tryz.prog poll_Tick_e 6 18446744073709551616 (Ev.get poll_Tick_h) 26 poll_Tick_s x = poll_Tick x := by
  rw [rfn_eq, poll_Tick_c0]
  rfl
theorem poll_Tick_ok : CtOk Tryz.prog (fun _ => True) 26 ⟨poll_Tick_s, poll_Tick⟩ := ct_of_ev (env_cons poll_Drop_ok (env_cons poll_own_ok (env_cons poll_sent_ok env_nil))) poll_Tick_t
/-! poll_Send -/
@[reducible] def poll_Send_s : Sh := ⟨[.d (.pr (.int .u8) LAT0), .d (.pr (.int .u8) LAT2)], [], [.pr (.int .u8) LAT0, .pr (.int .u8) LAT2], [.d (.pr (.int .u8) LAT0), .d (.sl (.int .u8)), .d (.int .i64)], [], 0, [.pr (.int .u8) LAT0, .sl (.int .u8), .int .i64]⟩
def poll_Send_e : Env := (cts [(79, (⟨ask_Right_s, ask_Right⟩ : Ct)), (82, (⟨poll_own_s, poll_own⟩ : Ct)), (83, (⟨poll_copied_s, poll_copied⟩ : Ct)), (84, (⟨poll_sent_s, poll_sent⟩ : Ct))])
def poll_Send_h : List (Nat × Hint) := []
def poll_Send_m0 (p : Int × Int × Int × Int × Bool × LAT3 × Int × Int × Int) (a : Int × Int × Int × Int × List Int × List Bool) : Option (As [.pr (.int .u8) LAT0, .sl (.int .u8), .int .i64]) :=
  if p.2.2.2.2.1 = true then Option.bind (poll_own (p, ())) fun (y : (Int × Int × Int × Int × Bool × LAT3 × Int × Int × Int) × Unit) => some (y.1, [], 30, ()) else Option.bind (ask_Right (a, ())) fun (y : Bool × Unit) => if (!y.1) = true then Option.bind (poll_own (p, ())) fun (y : (Int × Int × Int × Int × Bool × LAT3 × Int × Int × Int) × Unit) => some (y.1, [], 12, ()) else Option.bind (poll_copied (a, ())) fun (y : LAT3 × Unit) => Option.bind (poll_sent ((p.1, p.2.1, p.2.2.1, p.2.2.2.1, true, y.1, p.2.2.2.2.2.2.1, p.2.2.2.2.2.2.2.1, p.2.2.2.1), ())) fun (y : (Int × Int × Int × Int × Bool × LAT3 × Int × Int × Int) × List Int × Unit) => some (y.1, y.2.1, 0, ())
def poll_Send (x : As [.pr (.int .u8) LAT0, .pr (.int .u8) LAT2]) : Option (As [.pr (.int .u8) LAT0, .sl (.int .u8), .int .i64]) := poll_Send_m0 x.1 x.2.1
theorem poll_Send_c0 (J : Orc (As [.pr (.int .u8) LAT0, .sl (.int .u8), .int .i64])) (x : As [.pr (.int .u8) LAT0, .pr (.int .u8) LAT2]) : rfn Tryz.prog poll_Send_e 6 18446744073709551616 (Ev.get poll_Send_h) 20 poll_Send_s J x = poll_Send_m0 x.1 x.2.1 := by kernel_rfl
theorem poll_Send_t (x : As [.pr (.int .u8) LAT0, .pr (.int .u8) LAT2]) : evT Tryz.prog poll_Send_e 6 18446744073709551616 (Ev.get poll_Send_h) 20 poll_Send_s x = poll_Send x := by
  rw [rfn_eq, poll_Send_c0]
  rfl
theorem poll_Send_ok : CtOk Tryz.prog (fun _ => True) 20 ⟨poll_Send_s, poll_Send⟩ := ct_of_ev (env_cons ask_Right_ok (env_cons poll_own_ok (env_cons poll_copied_ok (env_cons poll_sent_ok env_nil)))) poll_Send_t
/-! slices_Equal_Guint16 -/
@[reducible] def slices_Equal_Guint16_s : Sh := ⟨[.d (.sl (.int .u16)), .d (.sl (.int .u16))], [], [.sl (.int .u16), .sl (.int .u16)], [.d (.bool)], [], 0, [.bool]⟩
def slices_Equal_Guint16_e : Env := (cts [])
def slices_Equal_Guint16_h : List (Nat × Hint) := [(58, ⟨[], [0, 1, 12, 13]⟩)]
def slices_Equal_Guint16_k1 (s1 : List Int) (s2 : List Int) (t12 : Int) (t13 : Int) : St := { fr := [(0, .d (.sl (.int .u16)) s1), (1, .d (.sl (.int .u16)) s2), (12, .d (.int .i64) t12), (13, .d (.int .i64) t13)], nt := 26, up := [], own := [], nx := 0, log := [], ln := 0 }
def slices_Equal_Guint16_m1 (self1 : List Int → List Int → Int → Int → Option (As [.bool])) (s1 : List Int) (s2 : List Int) (t12 : Int) (t13 : Int) : Option (As [.bool]) :=
  if lt t13 t12 = true then Option.bind (at? s1 t13) fun (y : Int) => Option.bind (at? s2 t13) fun (y_1 : Int) => if nei y y_1 = true then some (false, ()) else self1 s1 s2 t12 (add .i64 t13 1) else some (true, ())
def slices_Equal_Guint16_m0 (j1 : List Int → List Int → Int → Int → Option (As [.bool])) (s1 : List Int) (s2 : List Int) : Option (As [.bool]) :=
  if nei (Int.ofNat (List.length s1)) (Int.ofNat (List.length s2)) = true then some (false, ()) else j1 s1 s2 (Int.ofNat (List.length s1)) 0
def slices_Equal_Guint16_K1 (s1 : List Int) (s2 : List Int) (t12 : Int) (t13 : Int) : Option (As [.bool]) :=
  loopF (fun (self : (List Int) × (List Int) × (Int) × (Int) → Option (As [.bool])) (s : (List Int) × (List Int) × (Int) × (Int)) => slices_Equal_Guint16_m1 (fun s1 s2 t12 t13 => self (s1, s2, t12, t13)) s.1 s.2.1 s.2.2.1 s.2.2.2) 18446744073709551616 (s1, s2, t12, t13)
def slices_Equal_Guint16 (x : As [.sl (.int .u16), .sl (.int .u16)]) : Option (As [.bool]) := slices_Equal_Guint16_m0 slices_Equal_Guint16_K1 x.1 x.2.1
theorem slices_Equal_Guint16_c1 (J : Orc (As [.bool])) (w1 : St → Option (As [.bool])) (s1 : List Int) (s2 : List Int) (t12 : Int) (t13 : Int) : pfn Tryz.prog slices_Equal_Guint16_e 6 18446744073709551616 (Ev.get slices_Equal_Guint16_h) 114 slices_Equal_Guint16_s J 58 [w1] (slices_Equal_Guint16_k1 s1 s2 t12 t13) = slices_Equal_Guint16_m1 (fun s1 s2 t12 t13 => w1 (slices_Equal_Guint16_k1 s1 s2 t12 t13)) s1 s2 t12 t13 := by kernel_rfl
theorem slices_Equal_Guint16_c0 (J : Orc (As [.bool])) (x : As [.sl (.int .u16), .sl (.int .u16)]) : rfn Tryz.prog slices_Equal_Guint16_e 6 18446744073709551616 (Ev.get slices_Equal_Guint16_h) 114 slices_Equal_Guint16_s J x = slices_Equal_Guint16_m0 (fun s1 s2 t12 t13 => J 58 [] (slices_Equal_Guint16_k1 s1 s2 t12 t13)) x.1 x.2.1 := by kernel_rfl
theorem slices_Equal_Guint16_g1 (s1 : List Int) (s2 : List Int) (t12 : Int) (t13 : Int) : jfn Tryz.prog slices_Equal_Guint16_e 6 18446744073709551616 (Ev.get slices_Equal_Guint16_h) 114 slices_Equal_Guint16_s 58 [] (slices_Equal_Guint16_k1 s1 s2 t12 t13) = slices_Equal_Guint16_K1 s1 s2 t12 t13 := by
  rw [pfn_eq (by decide)]
  rw [pfn_loop (by kernel_rfl)]
  refine loopF_sim (σ := (List Int) × (List Int) × (Int) × (Int)) (mk := fun s => slices_Equal_Guint16_k1 s.1 s.2.1 s.2.2.1 s.2.2.2) (fun w1 s => ?_) 18446744073709551616 (s1, s2, t12, t13)
  refine (slices_Equal_Guint16_c1 _ w1 s.1 s.2.1 s.2.2.1 s.2.2.2).trans ?_
  rfl
theorem slices_Equal_Guint16_t (x : As [.sl (.int .u16), .sl (.int .u16)]) : evT Tryz.prog slices_Equal_Guint16_e 6 18446744073709551616 (Ev.get slices_Equal_Guint16_h) 114 slices_Equal_Guint16_s x = slices_Equal_Guint16 x := by
  have e1 : (fun s1 s2 t12 t13 => (jfn Tryz.prog slices_Equal_Guint16_e 6 18446744073709551616 (Ev.get slices_Equal_Guint16_h) 114 slices_Equal_Guint16_s) 58 [] (slices_Equal_Guint16_k1 s1 s2 t12 t13)) = slices_Equal_Guint16_K1 := funext fun s1 => funext fun s2 => funext fun t12 => funext fun t13 => slices_Equal_Guint16_g1 s1 s2 t12 t13
  rw [rfn_eq, slices_Equal_Guint16_c0, e1]
  rfl
theorem slices_Equal_Guint16_ok : CtOk Tryz.prog (fun _ => True) 114 ⟨slices_Equal_Guint16_s, slices_Equal_Guint16⟩ := ct_of_ev env_nil slices_Equal_Guint16_t
/-! slices_Equal_Gbool -/
@[reducible] def slices_Equal_Gbool_s : Sh := ⟨[.d (.sl .bool), .d (.sl .bool)], [], [.sl .bool, .sl .bool], [.d (.bool)], [], 0, [.bool]⟩
def slices_Equal_Gbool_e : Env := (cts [])
def slices_Equal_Gbool_h : List (Nat × Hint) := [(58, ⟨[], [0, 1, 12, 13]⟩)]
def slices_Equal_Gbool_k1 (s1 : List Bool) (s2 : List Bool) (t12 : Int) (t13 : Int) : St := { fr := [(0, .d (.sl .bool) s1), (1, .d (.sl .bool) s2), (12, .d (.int .i64) t12), (13, .d (.int .i64) t13)], nt := 26, up := [], own := [], nx := 0, log := [], ln := 0 }
def slices_Equal_Gbool_m1 (self1 : List Bool → List Bool → Int → Int → Option (As [.bool])) (s1 : List Bool) (s2 : List Bool) (t12 : Int) (t13 : Int) : Option (As [.bool]) :=
  if lt t13 t12 = true then Option.bind (at? s1 t13) fun (y : Bool) => Option.bind (at? s2 t13) fun (y_1 : Bool) => if Sx.neb y y_1 = true then some (false, ()) else self1 s1 s2 t12 (add .i64 t13 1) else some (true, ())
def slices_Equal_Gbool_m0 (j1 : List Bool → List Bool → Int → Int → Option (As [.bool])) (s1 : List Bool) (s2 : List Bool) : Option (As [.bool]) :=
  if nei (Int.ofNat (List.length s1)) (Int.ofNat (List.length s2)) = true then some (false, ()) else j1 s1 s2 (Int.ofNat (List.length s1)) 0
def slices_Equal_Gbool_K1 (s1 : List Bool) (s2 : List Bool) (t12 : Int) (t13 : Int) : Option (As [.bool]) :=
  loopF (fun (self : (List Bool) × (List Bool) × (Int) × (Int) → Option (As [.bool])) (s : (List Bool) × (List Bool) × (Int) × (Int)) => slices_Equal_Gbool_m1 (fun s1 s2 t12 t13 => self (s1, s2, t12, t13)) s.1 s.2.1 s.2.2.1 s.2.2.2) 18446744073709551616 (s1, s2, t12, t13)
def slices_Equal_Gbool (x : As [.sl .bool, .sl .bool]) : Option (As [.bool]) := slices_Equal_Gbool_m0 slices_Equal_Gbool_K1 x.1 x.2.1
theorem slices_Equal_Gbool_c1 (J : Orc (As [.bool])) (w1 : St → Option (As [.bool])) (s1 : List Bool) (s2 : List Bool) (t12 : Int) (t13 : Int) : pfn Tryz.prog slices_Equal_Gbool_e 6 18446744073709551616 (Ev.get slices_Equal_Gbool_h) 123 slices_Equal_Gbool_s J 58 [w1] (slices_Equal_Gbool_k1 s1 s2 t12 t13) = slices_Equal_Gbool_m1 (fun s1 s2 t12 t13 => w1 (slices_Equal_Gbool_k1 s1 s2 t12 t13)) s1 s2 t12 t13 := by kernel_rfl
theorem slices_Equal_Gbool_c0 (J : Orc (As [.bool])) (x : As [.sl .bool, .sl .bool]) : rfn Tryz.prog slices_Equal_Gbool_e 6 18446744073709551616 (Ev.get slices_Equal_Gbool_h) 123 slices_Equal_Gbool_s J x = slices_Equal_Gbool_m0 (fun s1 s2 t12 t13 => J 58 [] (slices_Equal_Gbool_k1 s1 s2 t12 t13)) x.1 x.2.1 := by kernel_rfl
theorem slices_Equal_Gbool_g1 (s1 : List Bool) (s2 : List Bool) (t12 : Int) (t13 : Int) : jfn Tryz.prog slices_Equal_Gbool_e 6 18446744073709551616 (Ev.get slices_Equal_Gbool_h) 123 slices_Equal_Gbool_s 58 [] (slices_Equal_Gbool_k1 s1 s2 t12 t13) = slices_Equal_Gbool_K1 s1 s2 t12 t13 := by
  rw [pfn_eq (by decide)]
  rw [pfn_loop (by kernel_rfl)]
  refine loopF_sim (σ := (List Bool) × (List Bool) × (Int) × (Int)) (mk := fun s => slices_Equal_Gbool_k1 s.1 s.2.1 s.2.2.1 s.2.2.2) (fun w1 s => ?_) 18446744073709551616 (s1, s2, t12, t13)
  refine (slices_Equal_Gbool_c1 _ w1 s.1 s.2.1 s.2.2.1 s.2.2.2).trans ?_
  rfl
theorem slices_Equal_Gbool_t (x : As [.sl .bool, .sl .bool]) : evT Tryz.prog slices_Equal_Gbool_e 6 18446744073709551616 (Ev.get slices_Equal_Gbool_h) 123 slices_Equal_Gbool_s x = slices_Equal_Gbool x := by
  have e1 : (fun s1 s2 t12 t13 => (jfn Tryz.prog slices_Equal_Gbool_e 6 18446744073709551616 (Ev.get slices_Equal_Gbool_h) 123 slices_Equal_Gbool_s) 58 [] (slices_Equal_Gbool_k1 s1 s2 t12 t13)) = slices_Equal_Gbool_K1 := funext fun s1 => funext fun s2 => funext fun t12 => funext fun t13 => slices_Equal_Gbool_g1 s1 s2 t12 t13
  rw [rfn_eq, slices_Equal_Gbool_c0, e1]
  rfl
theorem slices_Equal_Gbool_ok : CtOk Tryz.prog (fun _ => True) 123 ⟨slices_Equal_Gbool_s, slices_Equal_Gbool⟩ := ct_of_ev env_nil slices_Equal_Gbool_t
/-! reply_Same -/
@[reducible] def reply_Same_s : Sh := ⟨[.d (.pr (.int .u8) LAT1), .d (.pr (.int .u8) LAT1)], [], [.pr (.int .u8) LAT1, .pr (.int .u8) LAT1], [.d (.bool)], [], 0, [.bool]⟩
def reply_Same_e : Env := (cts [(114, (⟨slices_Equal_Guint16_s, slices_Equal_Guint16⟩ : Ct)), (123, (⟨slices_Equal_Gbool_s, slices_Equal_Gbool⟩ : Ct))])
def reply_Same_h : List (Nat × Hint) := []
def reply_Same_m0 (a : Int × Int × List Bool × List Int × Int × Int) (b : Int × Int × List Bool × List Int × Int × Int) : Option (As [.bool]) :=
  if eqi a.1 b.1 = true then if eqi a.2.1 b.2.1 = true then if eqi a.2.2.2.2.1 b.2.2.2.2.1 = true then if eqi a.2.2.2.2.2 b.2.2.2.2.2 = true then Option.bind (slices_Equal_Gbool (a.2.2.1, b.2.2.1, ())) fun (y : Bool × Unit) => if y.1 = true then Option.bind (slices_Equal_Guint16 (a.2.2.2.1, b.2.2.2.1, ())) fun (y : Bool × Unit) => some (y.1, ()) else some (false, ()) else some (false, ()) else some (false, ()) else some (false, ()) else some (false, ())
def reply_Same (x : As [.pr (.int .u8) LAT1, .pr (.int .u8) LAT1]) : Option (As [.bool]) := reply_Same_m0 x.1 x.2.1
theorem reply_Same_c0 (J : Orc (As [.bool])) (x : As [.pr (.int .u8) LAT1, .pr (.int .u8) LAT1]) : rfn Tryz.prog reply_Same_e 6 18446744073709551616 (Ev.get reply_Same_h) 104 reply_Same_s J x = reply_Same_m0 x.1 x.2.1 := by kernel_rfl
theorem reply_Same_t (x : As [.pr (.int .u8) LAT1, .pr (.int .u8) LAT1]) : evT Tryz.prog reply_Same_e 6 18446744073709551616 (Ev.get reply_Same_h) 104 reply_Same_s x = reply_Same x := by
  rw [rfn_eq, reply_Same_c0]
  rfl
theorem reply_Same_ok : CtOk Tryz.prog (fun _ => True) 104 ⟨reply_Same_s, reply_Same⟩ := ct_of_ev (env_cons slices_Equal_Guint16_ok (env_cons slices_Equal_Gbool_ok env_nil)) reply_Same_t
/-! reply_Wrong -/
@[reducible] def reply_Wrong_s : Sh := ⟨[.d (.int .u8), .d (.int .u8)], [], [.int .u8, .int .u8], [.d (.pr (.int .u8) LAT1)], [], 0, [.pr (.int .u8) LAT1]⟩
def reply_Wrong_e : Env := (cts [])
def reply_Wrong_h : List (Nat × Hint) := []
def reply_Wrong_m0 (f : Int) (except : Int) : Option (As [.pr (.int .u8) LAT1]) :=
  some ((rem f 128, except, [], [], 0, 0), ())
def reply_Wrong (x : As [.int .u8, .int .u8]) : Option (As [.pr (.int .u8) LAT1]) := reply_Wrong_m0 x.1 x.2.1
theorem reply_Wrong_c0 (J : Orc (As [.pr (.int .u8) LAT1])) (x : As [.int .u8, .int .u8]) : rfn Tryz.prog reply_Wrong_e 6 18446744073709551616 (Ev.get reply_Wrong_h) 152 reply_Wrong_s J x = reply_Wrong_m0 x.1 x.2.1 := by kernel_rfl
theorem reply_Wrong_t (x : As [.int .u8, .int .u8]) : evT Tryz.prog reply_Wrong_e 6 18446744073709551616 (Ev.get reply_Wrong_h) 152 reply_Wrong_s x = reply_Wrong x := by
  rw [rfn_eq, reply_Wrong_c0]
  rfl
theorem reply_Wrong_ok : CtOk Tryz.prog (fun _ => True) 152 ⟨reply_Wrong_s, reply_Wrong⟩ := ct_of_ev env_nil reply_Wrong_t
/-! reply_exception_right -/
@[reducible] def reply_exception_right_s : Sh := ⟨[.d (.un), .d (.pr (.int .u8) LAT1)], [], [.un, .pr (.int .u8) LAT1], [.d (.bool)], [], 0, [.bool]⟩
def reply_exception_right_e : Env := (cts [(104, (⟨reply_Same_s, reply_Same⟩ : Ct)), (152, (⟨reply_Wrong_s, reply_Wrong⟩ : Ct))])
def reply_exception_right_h : List (Nat × Hint) := []
def reply_exception_right_m0 (v : Unit) (r : Int × Int × List Bool × List Int × Int × Int) : Option (As [.bool]) :=
  if lt r.1 128 = true then if ge r.2.1 1 = true then if le r.2.1 4 = true then Option.bind (reply_Wrong (r.1, r.2.1, ())) fun (y : LAT4 × Unit) => Option.bind (reply_Same (r, y.1, ())) fun (y : Bool × Unit) => some (y.1, ()) else some (false, ()) else some (false, ()) else some (false, ())
def reply_exception_right (x : As [.un, .pr (.int .u8) LAT1]) : Option (As [.bool]) := reply_exception_right_m0 x.1 x.2.1
theorem reply_exception_right_c0 (J : Orc (As [.bool])) (x : As [.un, .pr (.int .u8) LAT1]) : rfn Tryz.prog reply_exception_right_e 6 18446744073709551616 (Ev.get reply_exception_right_h) 286 reply_exception_right_s J x = reply_exception_right_m0 x.1 x.2.1 := by kernel_rfl
theorem reply_exception_right_t (x : As [.un, .pr (.int .u8) LAT1]) : evT Tryz.prog reply_exception_right_e 6 18446744073709551616 (Ev.get reply_exception_right_h) 286 reply_exception_right_s x = reply_exception_right x := by
  rw [rfn_eq, reply_exception_right_c0]
  rfl
theorem reply_exception_right_ok : CtOk Tryz.prog (fun _ => True) 286 ⟨reply_exception_right_s, reply_exception_right⟩ := ct_of_ev (env_cons reply_Same_ok (env_cons reply_Wrong_ok env_nil)) reply_exception_right_t
/-! reply_bitList_right -/
@[reducible] def reply_bitList_right_s : Sh := ⟨[.d (.un), .d (.pr (.int .u8) LAT1)], [], [.un, .pr (.int .u8) LAT1], [.d (.bool)], [], 0, [.bool]⟩
def reply_bitList_right_e : Env := (cts [(104, (⟨reply_Same_s, reply_Same⟩ : Ct))])
def reply_bitList_right_h : List (Nat × Hint) := []
def reply_bitList_right_m0 (v : Unit) (r : Int × Int × List Bool × List Int × Int × Int) : Option (As [.bool]) :=
  if ge (Int.ofNat (List.length r.2.2.1)) 8 = true then if le (Int.ofNat (List.length r.2.2.1)) 2000 = true then if eqi (Int.ofNat (List.length r.2.2.1 % 8)) 0 = true then Option.bind (reply_Same (r, (r.1, 0, r.2.2.1, [], 0, 0), ())) fun (y : Bool × Unit) => some (y.1, ()) else some (false, ()) else some (false, ()) else some (false, ())
def reply_bitList_right (x : As [.un, .pr (.int .u8) LAT1]) : Option (As [.bool]) := reply_bitList_right_m0 x.1 x.2.1
theorem reply_bitList_right_c0 (J : Orc (As [.bool])) (x : As [.un, .pr (.int .u8) LAT1]) : rfn Tryz.prog reply_bitList_right_e 6 18446744073709551616 (Ev.get reply_bitList_right_h) 307 reply_bitList_right_s J x = reply_bitList_right_m0 x.1 x.2.1 := by kernel_rfl
theorem reply_bitList_right_t (x : As [.un, .pr (.int .u8) LAT1]) : evT Tryz.prog reply_bitList_right_e 6 18446744073709551616 (Ev.get reply_bitList_right_h) 307 reply_bitList_right_s x = reply_bitList_right x := by
  rw [rfn_eq, reply_bitList_right_c0]
  rfl
theorem reply_bitList_right_ok : CtOk Tryz.prog (fun _ => True) 307 ⟨reply_bitList_right_s, reply_bitList_right⟩ := ct_of_ev (env_cons reply_Same_ok env_nil) reply_bitList_right_t
/-! reply_wordList_right -/
@[reducible] def reply_wordList_right_s : Sh := ⟨[.d (.un), .d (.pr (.int .u8) LAT1)], [], [.un, .pr (.int .u8) LAT1], [.d (.bool)], [], 0, [.bool]⟩
def reply_wordList_right_e : Env := (cts [(104, (⟨reply_Same_s, reply_Same⟩ : Ct))])
def reply_wordList_right_h : List (Nat × Hint) := []
def reply_wordList_right_m0 (v : Unit) (r : Int × Int × List Bool × List Int × Int × Int) : Option (As [.bool]) :=
  if ge (Int.ofNat (List.length r.2.2.2.1)) 1 = true then if le (Int.ofNat (List.length r.2.2.2.1)) 125 = true then Option.bind (reply_Same (r, (r.1, 0, [], r.2.2.2.1, 0, 0), ())) fun (y : Bool × Unit) => some (y.1, ()) else some (false, ()) else some (false, ())
def reply_wordList_right (x : As [.un, .pr (.int .u8) LAT1]) : Option (As [.bool]) := reply_wordList_right_m0 x.1 x.2.1
theorem reply_wordList_right_c0 (J : Orc (As [.bool])) (x : As [.un, .pr (.int .u8) LAT1]) : rfn Tryz.prog reply_wordList_right_e 6 18446744073709551616 (Ev.get reply_wordList_right_h) 310 reply_wordList_right_s J x = reply_wordList_right_m0 x.1 x.2.1 := by kernel_rfl
theorem reply_wordList_right_t (x : As [.un, .pr (.int .u8) LAT1]) : evT Tryz.prog reply_wordList_right_e 6 18446744073709551616 (Ev.get reply_wordList_right_h) 310 reply_wordList_right_s x = reply_wordList_right x := by
  rw [rfn_eq, reply_wordList_right_c0]
  rfl
theorem reply_wordList_right_ok : CtOk Tryz.prog (fun _ => True) 310 ⟨reply_wordList_right_s, reply_wordList_right⟩ := ct_of_ev (env_cons reply_Same_ok env_nil) reply_wordList_right_t
/-! reply_oneBit_right -/
@[reducible] def reply_oneBit_right_s : Sh := ⟨[.d (.un), .d (.pr (.int .u8) LAT1)], [], [.un, .pr (.int .u8) LAT1], [.d (.bool)], [], 0, [.bool]⟩
def reply_oneBit_right_e : Env := (cts [(104, (⟨reply_Same_s, reply_Same⟩ : Ct))])
def reply_oneBit_right_h : List (Nat × Hint) := []
def reply_oneBit_right_m0 (v : Unit) (r : Int × Int × List Bool × List Int × Int × Int) : Option (As [.bool]) :=
  if eqi (Int.ofNat (List.length r.2.2.1)) 1 = true then Option.bind (reply_Same (r, (r.1, 0, r.2.2.1, [], r.2.2.2.2.1, 0), ())) fun (y : Bool × Unit) => some (y.1, ()) else some (false, ())
def reply_oneBit_right (x : As [.un, .pr (.int .u8) LAT1]) : Option (As [.bool]) := reply_oneBit_right_m0 x.1 x.2.1
theorem reply_oneBit_right_c0 (J : Orc (As [.bool])) (x : As [.un, .pr (.int .u8) LAT1]) : rfn Tryz.prog reply_oneBit_right_e 6 18446744073709551616 (Ev.get reply_oneBit_right_h) 315 reply_oneBit_right_s J x = reply_oneBit_right_m0 x.1 x.2.1 := by kernel_rfl
theorem reply_oneBit_right_t (x : As [.un, .pr (.int .u8) LAT1]) : evT Tryz.prog reply_oneBit_right_e 6 18446744073709551616 (Ev.get reply_oneBit_right_h) 315 reply_oneBit_right_s x = reply_oneBit_right x := by
  rw [rfn_eq, reply_oneBit_right_c0]
  rfl
theorem reply_oneBit_right_ok : CtOk Tryz.prog (fun _ => True) 315 ⟨reply_oneBit_right_s, reply_oneBit_right⟩ := ct_of_ev (env_cons reply_Same_ok env_nil) reply_oneBit_right_t
/-! reply_oneWord_right -/
@[reducible] def reply_oneWord_right_s : Sh := ⟨[.d (.un), .d (.pr (.int .u8) LAT1)], [], [.un, .pr (.int .u8) LAT1], [.d (.bool)], [], 0, [.bool]⟩
def reply_oneWord_right_e : Env := (cts [(104, (⟨reply_Same_s, reply_Same⟩ : Ct))])
def reply_oneWord_right_h : List (Nat × Hint) := []
def reply_oneWord_right_m0 (v : Unit) (r : Int × Int × List Bool × List Int × Int × Int) : Option (As [.bool]) :=
  if eqi (Int.ofNat (List.length r.2.2.2.1)) 1 = true then Option.bind (reply_Same (r, (r.1, 0, [], r.2.2.2.1, r.2.2.2.2.1, 0), ())) fun (y : Bool × Unit) => some (y.1, ()) else some (false, ())
def reply_oneWord_right (x : As [.un, .pr (.int .u8) LAT1]) : Option (As [.bool]) := reply_oneWord_right_m0 x.1 x.2.1
theorem reply_oneWord_right_c0 (J : Orc (As [.bool])) (x : As [.un, .pr (.int .u8) LAT1]) : rfn Tryz.prog reply_oneWord_right_e 6 18446744073709551616 (Ev.get reply_oneWord_right_h) 318 reply_oneWord_right_s J x = reply_oneWord_right_m0 x.1 x.2.1 := by kernel_rfl
theorem reply_oneWord_right_t (x : As [.un, .pr (.int .u8) LAT1]) : evT Tryz.prog reply_oneWord_right_e 6 18446744073709551616 (Ev.get reply_oneWord_right_h) 318 reply_oneWord_right_s x = reply_oneWord_right x := by
  rw [rfn_eq, reply_oneWord_right_c0]
  rfl
theorem reply_oneWord_right_ok : CtOk Tryz.prog (fun _ => True) 318 ⟨reply_oneWord_right_s, reply_oneWord_right⟩ := ct_of_ev (env_cons reply_Same_ok env_nil) reply_oneWord_right_t
/-! reply_count_right -/
@[reducible] def reply_count_right_s : Sh := ⟨[.d (.wr (.int .u16)), .d (.pr (.int .u8) LAT1)], [], [.wr (.int .u16), .pr (.int .u8) LAT1], [.d (.bool)], [], 0, [.bool]⟩
def reply_count_right_e : Env := (cts [(104, (⟨reply_Same_s, reply_Same⟩ : Ct))])
def reply_count_right_h : List (Nat × Hint) := []
def reply_count_right_m0 (k : Int) (r : Int × Int × List Bool × List Int × Int × Int) : Option (As [.bool]) :=
  if ge r.2.2.2.2.2 1 = true then if le r.2.2.2.2.2 k = true then Option.bind (reply_Same (r, (r.1, 0, [], [], r.2.2.2.2), ())) fun (y : Bool × Unit) => some (y.1, ()) else some (false, ()) else some (false, ())
def reply_count_right (x : As [.wr (.int .u16), .pr (.int .u8) LAT1]) : Option (As [.bool]) := reply_count_right_m0 x.1 x.2.1
theorem reply_count_right_c0 (J : Orc (As [.bool])) (x : As [.wr (.int .u16), .pr (.int .u8) LAT1]) : rfn Tryz.prog reply_count_right_e 6 18446744073709551616 (Ev.get reply_count_right_h) 321 reply_count_right_s J x = reply_count_right_m0 x.1 x.2.1 := by kernel_rfl
theorem reply_count_right_t (x : As [.wr (.int .u16), .pr (.int .u8) LAT1]) : evT Tryz.prog reply_count_right_e 6 18446744073709551616 (Ev.get reply_count_right_h) 321 reply_count_right_s x = reply_count_right x := by
  rw [rfn_eq, reply_count_right_c0]
  rfl
theorem reply_count_right_ok : CtOk Tryz.prog (fun _ => True) 321 ⟨reply_count_right_s, reply_count_right⟩ := ct_of_ev (env_cons reply_Same_ok env_nil) reply_count_right_t
/-! reply_Right -/
@[reducible] def reply_Right_s : Sh := ⟨[.d (.pr (.int .u8) LAT1)], [], [.pr (.int .u8) LAT1], [.d (.bool)], [], 0, [.bool]⟩
def reply_Right_e : Env := (cts [(286, (⟨reply_exception_right_s, reply_exception_right⟩ : Ct)), (307, (⟨reply_bitList_right_s, reply_bitList_right⟩ : Ct)), (310, (⟨reply_wordList_right_s, reply_wordList_right⟩ : Ct)), (315, (⟨reply_oneBit_right_s, reply_oneBit_right⟩ : Ct)), (318, (⟨reply_oneWord_right_s, reply_oneWord_right⟩ : Ct)), (321, (⟨reply_count_right_s, reply_count_right⟩ : Ct))])
def reply_Right_h : List (Nat × Hint) := []
def reply_Right_m0 (r : Int × Int × List Bool × List Int × Int × Int) : Option (As [.bool]) :=
  if nei r.2.1 0 = true then Option.bind (reply_exception_right ((), r, ())) fun (y : Bool × Unit) => some (y.1, ()) else if eqi r.1 1 = true then Option.bind (reply_bitList_right ((), r, ())) fun (y : Bool × Unit) => some (y.1, ()) else if eqi r.1 2 = true then Option.bind (reply_bitList_right ((), r, ())) fun (y : Bool × Unit) => some (y.1, ()) else if eqi r.1 3 = true then Option.bind (reply_wordList_right ((), r, ())) fun (y : Bool × Unit) => some (y.1, ()) else if eqi r.1 4 = true then Option.bind (reply_wordList_right ((), r, ())) fun (y : Bool × Unit) => some (y.1, ()) else if eqi r.1 23 = true then Option.bind (reply_wordList_right ((), r, ())) fun (y : Bool × Unit) => some (y.1, ()) else if eqi r.1 5 = true then Option.bind (reply_oneBit_right ((), r, ())) fun (y : Bool × Unit) => some (y.1, ()) else if eqi r.1 6 = true then Option.bind (reply_oneWord_right ((), r, ())) fun (y : Bool × Unit) => some (y.1, ()) else if eqi r.1 15 = true then Option.bind (reply_count_right (1968, r, ())) fun (y : Bool × Unit) => some (y.1, ()) else if eqi r.1 16 = true then Option.bind (reply_count_right (123, r, ())) fun (y : Bool × Unit) => some (y.1, ()) else some (false, ())
def reply_Right (x : As [.pr (.int .u8) LAT1]) : Option (As [.bool]) := reply_Right_m0 x.1
theorem reply_Right_c0 (J : Orc (As [.bool])) (x : As [.pr (.int .u8) LAT1]) : rfn Tryz.prog reply_Right_e 6 18446744073709551616 (Ev.get reply_Right_h) 102 reply_Right_s J x = reply_Right_m0 x.1 := by kernel_rfl
theorem reply_Right_t (x : As [.pr (.int .u8) LAT1]) : evT Tryz.prog reply_Right_e 6 18446744073709551616 (Ev.get reply_Right_h) 102 reply_Right_s x = reply_Right x := by
  rw [rfn_eq, reply_Right_c0]
  rfl
theorem reply_Right_ok : CtOk Tryz.prog (fun _ => True) 102 ⟨reply_Right_s, reply_Right⟩ := ct_of_ev (env_cons reply_exception_right_ok (env_cons reply_bitList_right_ok (env_cons reply_wordList_right_ok (env_cons reply_oneBit_right_ok (env_cons reply_oneWord_right_ok (env_cons reply_count_right_ok env_nil)))))) reply_Right_t
/-! reply_Echo -/
@[reducible] def reply_Echo_s : Sh := ⟨[.d (.pr (.int .u8) LAT2)], [], [.pr (.int .u8) LAT2], [.d (.pr (.int .u8) LAT1), .d (.bool)], [], 0, [.pr (.int .u8) LAT1, .bool]⟩
def reply_Echo_e : Env := (cts [(79, (⟨ask_Right_s, ask_Right⟩ : Ct))])
def reply_Echo_h : List (Nat × Hint) := [(15, ⟨[.rwb 4 2 4, .rwb 4 3 23], [2, 4]⟩), (1967, ⟨[], [1, 2, 4, 33]⟩)]
def reply_Echo_k1 (t2 : Int) (t2_2 : Int) (t2_3 : Int) (t2_4 : Int) (r : Int) (r_2 : Int) (r_3 : Int) (r_4 : Int) (o : List Bool) (o_2 : List Int) : St := { fr := [(2, .pb 0 0), (4, .pb 1 0)], nt := 40, up := [], own := [(0, .box 46 [.d (.int .u8) t2, .d (.int .u8) t2_2, .k (Go.Value.slice Option.none 0 0), .k (Go.Value.slice Option.none 0 0), .d (.int .u16) t2_3, .d (.int .u16) t2_4]), (1, .box 46 [.d (.int .u8) r, .d (.int .u8) r_2, .row 2, .row 3, .d (.int .u16) r_3, .d (.int .u16) r_4]), (2, .row .bool 4 o), (3, .row (.int .u16) 23 o_2)], nx := 4, log := [], ln := 0 }
def reply_Echo_k2 (t33 : Bool) (a : Int) (a_2 : Int) (a_3 : Int) (a_4 : Int) (a_5 : List Int) (a_6 : List Bool) (t2 : Int) (t2_2 : Int) (t2_3 : Int) (t2_4 : Int) (r : Int) (r_2 : Int) (r_3 : Int) (r_4 : Int) : St := { fr := [(1, .pb 0 0), (2, .pb 1 0), (4, .pb 2 0), (33, .d .bool t33)], nt := 40, up := [], own := [(0, .box 27 [.d (.int .u8) a, .d (.int .u16) a_2, .d (.int .u16) a_3, .d (.int .u16) a_4, .d (.sl (.int .u16)) a_5, .d (.sl .bool) a_6]), (1, .box 46 [.d (.int .u8) t2, .d (.int .u8) t2_2, .k (Go.Value.slice Option.none 0 0), .k (Go.Value.slice Option.none 0 0), .d (.int .u16) t2_3, .d (.int .u16) t2_4]), (2, .box 46 [.d (.int .u8) r, .d (.int .u8) r_2, .k (Go.Value.slice Option.none 0 0), .k (Go.Value.slice Option.none 0 0), .d (.int .u16) r_3, .d (.int .u16) r_4])], nx := 3, log := [], ln := 0 }
def reply_Echo_m1 (t2 : Int) (t2_2 : Int) (t2_3 : Int) (t2_4 : Int) (r : Int) (r_2 : Int) (r_3 : Int) (r_4 : Int) (o : List Bool) (o_2 : List Int) : Option (As [.pr (.int .u8) LAT1, .bool]) :=
  some ((r, r_2, o, o_2, r_3, r_4), true, ())
def reply_Echo_m2 (j1 : Int → Int → Int → Int → Int → Int → Int → Int → List Bool → List Int → Option (As [.pr (.int .u8) LAT1, .bool])) (t33 : Bool) (a : Int) (a_2 : Int) (a_3 : Int) (a_4 : Int) (a_5 : List Int) (a_6 : List Bool) (t2 : Int) (t2_2 : Int) (t2_3 : Int) (t2_4 : Int) (r : Int) (r_2 : Int) (r_3 : Int) (r_4 : Int) : Option (As [.pr (.int .u8) LAT1, .bool]) :=
  if t33 = true then j1 t2 t2_2 t2_3 t2_4 r r_2 r_3 a_3 [] [] else some ((0, 0, [], [], 0, 0), false, ())
def reply_Echo_m0 (j1 : Int → Int → Int → Int → Int → Int → Int → Int → List Bool → List Int → Option (As [.pr (.int .u8) LAT1, .bool])) (j2 : Bool → Int → Int → Int → Int → List Int → List Bool → Int → Int → Int → Int → Int → Int → Int → Int → Option (As [.pr (.int .u8) LAT1, .bool])) (a : Int × Int × Int × Int × List Int × List Bool) : Option (As [.pr (.int .u8) LAT1, .bool]) :=
  Option.bind (ask_Right (a, ())) fun (y : Bool × Unit) => if (!y.1) = true then some ((0, 0, [], [], 0, 0), false, ()) else if eqi a.1 5 = true then Option.bind (at? a.2.2.2.2.2 0) fun (y : Bool) => j1 0 0 0 0 a.1 0 a.2.1 0 [y] [] else if eqi a.1 6 = true then Option.bind (at? a.2.2.2.2.1 0) fun (y : Int) => j1 0 0 0 0 a.1 0 a.2.1 0 [] [y] else if eqi a.1 15 = true then j2 true a.1 a.2.1 a.2.2.1 a.2.2.2.1 a.2.2.2.2.1 a.2.2.2.2.2 0 0 0 0 a.1 0 a.2.1 0 else j2 (eqi a.1 16) a.1 a.2.1 a.2.2.1 a.2.2.2.1 a.2.2.2.2.1 a.2.2.2.2.2 0 0 0 0 a.1 0 a.2.1 0
def reply_Echo_K1 (t2 : Int) (t2_2 : Int) (t2_3 : Int) (t2_4 : Int) (r : Int) (r_2 : Int) (r_3 : Int) (r_4 : Int) (o : List Bool) (o_2 : List Int) : Option (As [.pr (.int .u8) LAT1, .bool]) := reply_Echo_m1 t2 t2_2 t2_3 t2_4 r r_2 r_3 r_4 o o_2
def reply_Echo_K2 (t33 : Bool) (a : Int) (a_2 : Int) (a_3 : Int) (a_4 : Int) (a_5 : List Int) (a_6 : List Bool) (t2 : Int) (t2_2 : Int) (t2_3 : Int) (t2_4 : Int) (r : Int) (r_2 : Int) (r_3 : Int) (r_4 : Int) : Option (As [.pr (.int .u8) LAT1, .bool]) := reply_Echo_m2 (reply_Echo_K1) t33 a a_2 a_3 a_4 a_5 a_6 t2 t2_2 t2_3 t2_4 r r_2 r_3 r_4
def reply_Echo (x : As [.pr (.int .u8) LAT2]) : Option (As [.pr (.int .u8) LAT1, .bool]) := reply_Echo_m0 reply_Echo_K1 reply_Echo_K2 x.1
theorem reply_Echo_c1 (J : Orc (As [.pr (.int .u8) LAT1, .bool])) (t2 : Int) (t2_2 : Int) (t2_3 : Int) (t2_4 : Int) (r : Int) (r_2 : Int) (r_3 : Int) (r_4 : Int) (o : List Bool) (o_2 : List Int) : pfn Tryz.prog reply_Echo_e 6 18446744073709551616 (Ev.get reply_Echo_h) 103 reply_Echo_s J 15 [] (reply_Echo_k1 t2 t2_2 t2_3 t2_4 r r_2 r_3 r_4 o o_2) = reply_Echo_m1 t2 t2_2 t2_3 t2_4 r r_2 r_3 r_4 o o_2 := by kernel_rfl
theorem reply_Echo_c2 (J : Orc (As [.pr (.int .u8) LAT1, .bool])) (t33 : Bool) (a : Int) (a_2 : Int) (a_3 : Int) (a_4 : Int) (a_5 : List Int) (a_6 : List Bool) (t2 : Int) (t2_2 : Int) (t2_3 : Int) (t2_4 : Int) (r : Int) (r_2 : Int) (r_3 : Int) (r_4 : Int) : pfn Tryz.prog reply_Echo_e 6 18446744073709551616 (Ev.get reply_Echo_h) 103 reply_Echo_s J 1967 [] (reply_Echo_k2 t33 a a_2 a_3 a_4 a_5 a_6 t2 t2_2 t2_3 t2_4 r r_2 r_3 r_4) = reply_Echo_m2 (fun t2 t2_2 t2_3 t2_4 r r_2 r_3 r_4 o o_2 => J 15 [] (reply_Echo_k1 t2 t2_2 t2_3 t2_4 r r_2 r_3 r_4 o o_2)) t33 a a_2 a_3 a_4 a_5 a_6 t2 t2_2 t2_3 t2_4 r r_2 r_3 r_4 := by kernel_rfl
theorem reply_Echo_c0 (J : Orc (As [.pr (.int .u8) LAT1, .bool])) (x : As [.pr (.int .u8) LAT2]) : rfn Tryz.prog reply_Echo_e 6 18446744073709551616 (Ev.get reply_Echo_h) 103 reply_Echo_s J x = reply_Echo_m0 (fun t2 t2_2 t2_3 t2_4 r r_2 r_3 r_4 o o_2 => J 15 [] (reply_Echo_k1 t2 t2_2 t2_3 t2_4 r r_2 r_3 r_4 o o_2)) (fun t33 a a_2 a_3 a_4 a_5 a_6 t2 t2_2 t2_3 t2_4 r r_2 r_3 r_4 => J 1967 [] (reply_Echo_k2 t33 a a_2 a_3 a_4 a_5 a_6 t2 t2_2 t2_3 t2_4 r r_2 r_3 r_4)) x.1 := by kernel_rfl
theorem reply_Echo_g1 (t2 : Int) (t2_2 : Int) (t2_3 : Int) (t2_4 : Int) (r : Int) (r_2 : Int) (r_3 : Int) (r_4 : Int) (o : List Bool) (o_2 : List Int) : jfn Tryz.prog reply_Echo_e 6 18446744073709551616 (Ev.get reply_Echo_h) 103 reply_Echo_s 15 [] (reply_Echo_k1 t2 t2_2 t2_3 t2_4 r r_2 r_3 r_4 o o_2) = reply_Echo_K1 t2 t2_2 t2_3 t2_4 r r_2 r_3 r_4 o o_2 := by
  rw [pfn_eq (by decide)]
  rw [reply_Echo_c1]
  rfl
theorem reply_Echo_g2 (t33 : Bool) (a : Int) (a_2 : Int) (a_3 : Int) (a_4 : Int) (a_5 : List Int) (a_6 : List Bool) (t2 : Int) (t2_2 : Int) (t2_3 : Int) (t2_4 : Int) (r : Int) (r_2 : Int) (r_3 : Int) (r_4 : Int) : jfn Tryz.prog reply_Echo_e 6 18446744073709551616 (Ev.get reply_Echo_h) 103 reply_Echo_s 1967 [] (reply_Echo_k2 t33 a a_2 a_3 a_4 a_5 a_6 t2 t2_2 t2_3 t2_4 r r_2 r_3 r_4) = reply_Echo_K2 t33 a a_2 a_3 a_4 a_5 a_6 t2 t2_2 t2_3 t2_4 r r_2 r_3 r_4 := by
  rw [pfn_eq (by decide)]
  have e1 : (fun t2 t2_2 t2_3 t2_4 r r_2 r_3 r_4 o o_2 => (jfn Tryz.prog reply_Echo_e 6 18446744073709551616 (Ev.get reply_Echo_h) 103 reply_Echo_s) 15 [] (reply_Echo_k1 t2 t2_2 t2_3 t2_4 r r_2 r_3 r_4 o o_2)) = reply_Echo_K1 := funext fun t2 => funext fun t2_2 => funext fun t2_3 => funext fun t2_4 => funext fun r => funext fun r_2 => funext fun r_3 => funext fun r_4 => funext fun o => funext fun o_2 => reply_Echo_g1 t2 t2_2 t2_3 t2_4 r r_2 r_3 r_4 o o_2
  rw [reply_Echo_c2, e1]
  rfl
theorem reply_Echo_t (x : As [.pr (.int .u8) LAT2]) : evT Tryz.prog reply_Echo_e 6 18446744073709551616 (Ev.get reply_Echo_h) 103 reply_Echo_s x = reply_Echo x := by
  have e1 : (fun t2 t2_2 t2_3 t2_4 r r_2 r_3 r_4 o o_2 => (jfn Tryz.prog reply_Echo_e 6 18446744073709551616 (Ev.get reply_Echo_h) 103 reply_Echo_s) 15 [] (reply_Echo_k1 t2 t2_2 t2_3 t2_4 r r_2 r_3 r_4 o o_2)) = reply_Echo_K1 := funext fun t2 => funext fun t2_2 => funext fun t2_3 => funext fun t2_4 => funext fun r => funext fun r_2 => funext fun r_3 => funext fun r_4 => funext fun o => funext fun o_2 => reply_Echo_g1 t2 t2_2 t2_3 t2_4 r r_2 r_3 r_4 o o_2
  have e2 : (fun t33 a a_2 a_3 a_4 a_5 a_6 t2 t2_2 t2_3 t2_4 r r_2 r_3 r_4 => (jfn Tryz.prog reply_Echo_e 6 18446744073709551616 (Ev.get reply_Echo_h) 103 reply_Echo_s) 1967 [] (reply_Echo_k2 t33 a a_2 a_3 a_4 a_5 a_6 t2 t2_2 t2_3 t2_4 r r_2 r_3 r_4)) = reply_Echo_K2 := funext fun t33 => funext fun a => funext fun a_2 => funext fun a_3 => funext fun a_4 => funext fun a_5 => funext fun a_6 => funext fun t2 => funext fun t2_2 => funext fun t2_3 => funext fun t2_4 => funext fun r => funext fun r_2 => funext fun r_3 => funext fun r_4 => reply_Echo_g2 t33 a a_2 a_3 a_4 a_5 a_6 t2 t2_2 t2_3 t2_4 r r_2 r_3 r_4
  rw [rfn_eq, reply_Echo_c0, e1, e2]
  rfl
theorem reply_Echo_ok : CtOk Tryz.prog (fun _ => True) 103 ⟨reply_Echo_s, reply_Echo⟩ := ct_of_ev (env_cons ask_Right_ok env_nil) reply_Echo_t
/-! slices_Index_Gbool -/
@[reducible] def slices_Index_Gbool_s : Sh := ⟨[.d (.sl .bool), .d (.bool)], [], [.sl .bool, .bool], [.d (.int .i64)], [], 0, [.int .i64]⟩
def slices_Index_Gbool_e : Env := (cts [])
def slices_Index_Gbool_h : List (Nat × Hint) := [(26, ⟨[], [0, 1, 7, 8]⟩)]
def slices_Index_Gbool_k1 (s : List Bool) (v : Bool) (t7 : Int) (t8 : Int) : St := { fr := [(0, .d (.sl .bool) s), (1, .d .bool v), (7, .d (.int .i64) t7), (8, .d (.int .i64) t8)], nt := 19, up := [], own := [], nx := 0, log := [], ln := 0 }
def slices_Index_Gbool_m1 (self1 : List Bool → Bool → Int → Int → Option (As [.int .i64])) (s : List Bool) (v : Bool) (t7 : Int) (t8 : Int) : Option (As [.int .i64]) :=
  if lt t8 t7 = true then Option.bind (at? s t8) fun (y : Bool) => if Sx.eqb v y = true then some (t8, ()) else self1 s v t7 (add .i64 t8 1) else some (-1, ())
def slices_Index_Gbool_m0 (j1 : List Bool → Bool → Int → Int → Option (As [.int .i64])) (s : List Bool) (v : Bool) : Option (As [.int .i64]) :=
  j1 s v (Int.ofNat (List.length s)) 0
def slices_Index_Gbool_K1 (s : List Bool) (v : Bool) (t7 : Int) (t8 : Int) : Option (As [.int .i64]) :=
  loopF (fun (self : (List Bool) × (Bool) × (Int) × (Int) → Option (As [.int .i64])) (s : (List Bool) × (Bool) × (Int) × (Int)) => slices_Index_Gbool_m1 (fun s v t7 t8 => self (s, v, t7, t8)) s.1 s.2.1 s.2.2.1 s.2.2.2) 18446744073709551616 (s, v, t7, t8)
def slices_Index_Gbool (x : As [.sl .bool, .bool]) : Option (As [.int .i64]) := slices_Index_Gbool_m0 slices_Index_Gbool_K1 x.1 x.2.1
theorem slices_Index_Gbool_c1 (J : Orc (As [.int .i64])) (w1 : St → Option (As [.int .i64])) (s : List Bool) (v : Bool) (t7 : Int) (t8 : Int) : pfn Tryz.prog slices_Index_Gbool_e 6 18446744073709551616 (Ev.get slices_Index_Gbool_h) 172 slices_Index_Gbool_s J 26 [w1] (slices_Index_Gbool_k1 s v t7 t8) = slices_Index_Gbool_m1 (fun s v t7 t8 => w1 (slices_Index_Gbool_k1 s v t7 t8)) s v t7 t8 := by kernel_rfl
theorem slices_Index_Gbool_c0 (J : Orc (As [.int .i64])) (x : As [.sl .bool, .bool]) : rfn Tryz.prog slices_Index_Gbool_e 6 18446744073709551616 (Ev.get slices_Index_Gbool_h) 172 slices_Index_Gbool_s J x = slices_Index_Gbool_m0 (fun s v t7 t8 => J 26 [] (slices_Index_Gbool_k1 s v t7 t8)) x.1 x.2.1 := by kernel_rfl
theorem slices_Index_Gbool_g1 (s : List Bool) (v : Bool) (t7 : Int) (t8 : Int) : jfn Tryz.prog slices_Index_Gbool_e 6 18446744073709551616 (Ev.get slices_Index_Gbool_h) 172 slices_Index_Gbool_s 26 [] (slices_Index_Gbool_k1 s v t7 t8) = slices_Index_Gbool_K1 s v t7 t8 := by
  rw [pfn_eq (by decide)]
  rw [pfn_loop (by kernel_rfl)]
  refine loopF_sim (σ := (List Bool) × (Bool) × (Int) × (Int)) (mk := fun s => slices_Index_Gbool_k1 s.1 s.2.1 s.2.2.1 s.2.2.2) (fun w1 s => ?_) 18446744073709551616 (s, v, t7, t8)
  refine (slices_Index_Gbool_c1 _ w1 s.1 s.2.1 s.2.2.1 s.2.2.2).trans ?_
  rfl
theorem slices_Index_Gbool_t (x : As [.sl .bool, .bool]) : evT Tryz.prog slices_Index_Gbool_e 6 18446744073709551616 (Ev.get slices_Index_Gbool_h) 172 slices_Index_Gbool_s x = slices_Index_Gbool x := by
  have e1 : (fun s v t7 t8 => (jfn Tryz.prog slices_Index_Gbool_e 6 18446744073709551616 (Ev.get slices_Index_Gbool_h) 172 slices_Index_Gbool_s) 26 [] (slices_Index_Gbool_k1 s v t7 t8)) = slices_Index_Gbool_K1 := funext fun s => funext fun v => funext fun t7 => funext fun t8 => slices_Index_Gbool_g1 s v t7 t8
  rw [rfn_eq, slices_Index_Gbool_c0, e1]
  rfl
theorem slices_Index_Gbool_ok : CtOk Tryz.prog (fun _ => True) 172 ⟨slices_Index_Gbool_s, slices_Index_Gbool⟩ := ct_of_ev env_nil slices_Index_Gbool_t
/-! slices_Contains_Gbool -/
@[reducible] def slices_Contains_Gbool_s : Sh := ⟨[.d (.sl .bool), .d (.bool)], [], [.sl .bool, .bool], [.d (.bool)], [], 0, [.bool]⟩
def slices_Contains_Gbool_e : Env := (cts [(172, (⟨slices_Index_Gbool_s, slices_Index_Gbool⟩ : Ct))])
def slices_Contains_Gbool_h : List (Nat × Hint) := []
def slices_Contains_Gbool_m0 (s : List Bool) (v : Bool) : Option (As [.bool]) :=
  Option.bind (slices_Index_Gbool (s, v, ())) fun (y : Int × Unit) => some (ge y.1 0, ())
def slices_Contains_Gbool (x : As [.sl .bool, .bool]) : Option (As [.bool]) := slices_Contains_Gbool_m0 x.1 x.2.1
theorem slices_Contains_Gbool_c0 (J : Orc (As [.bool])) (x : As [.sl .bool, .bool]) : rfn Tryz.prog slices_Contains_Gbool_e 6 18446744073709551616 (Ev.get slices_Contains_Gbool_h) 105 slices_Contains_Gbool_s J x = slices_Contains_Gbool_m0 x.1 x.2.1 := by kernel_rfl
theorem slices_Contains_Gbool_t (x : As [.sl .bool, .bool]) : evT Tryz.prog slices_Contains_Gbool_e 6 18446744073709551616 (Ev.get slices_Contains_Gbool_h) 105 slices_Contains_Gbool_s x = slices_Contains_Gbool x := by
  rw [rfn_eq, slices_Contains_Gbool_c0]
  rfl
theorem slices_Contains_Gbool_ok : CtOk Tryz.prog (fun _ => True) 105 ⟨slices_Contains_Gbool_s, slices_Contains_Gbool⟩ := ct_of_ev (env_cons slices_Index_Gbool_ok env_nil) slices_Contains_Gbool_t
/-! reply_Fits -/
@[reducible] def reply_Fits_s : Sh := ⟨[.d (.pr (.int .u8) LAT2), .d (.pr (.int .u8) LAT1)], [], [.pr (.int .u8) LAT2, .pr (.int .u8) LAT1], [.d (.bool)], [], 0, [.bool]⟩
def reply_Fits_e : Env := (cts [(79, (⟨ask_Right_s, ask_Right⟩ : Ct)), (102, (⟨reply_Right_s, reply_Right⟩ : Ct)), (103, (⟨reply_Echo_s, reply_Echo⟩ : Ct)), (104, (⟨reply_Same_s, reply_Same⟩ : Ct)), (105, (⟨slices_Contains_Gbool_s, slices_Contains_Gbool⟩ : Ct))])
def reply_Fits_h : List (Nat × Hint) := [(6, ⟨[], [2, 3, 22, 51, 52, 53, 54, 55, 56]⟩)]
def reply_Fits_k1 (t22 : Bool) (a : Int) (a_2 : Int) (a_3 : Int) (a_4 : Int) (a_5 : List Int) (a_6 : List Bool) (r : Int) (r_2 : Int) (r_3 : List Bool) (r_4 : List Int) (r_5 : Int) (r_6 : Int) : St := { fr := [(2, .pb 0 0), (3, .pb 1 0), (22, .d .bool t22)], nt := 63, up := [], own := [(0, .box 27 [.d (.int .u8) a, .d (.int .u16) a_2, .d (.int .u16) a_3, .d (.int .u16) a_4, .d (.sl (.int .u16)) a_5, .d (.sl .bool) a_6]), (1, .box 46 [.d (.int .u8) r, .d (.int .u8) r_2, .d (.sl .bool) r_3, .d (.sl (.int .u16)) r_4, .d (.int .u16) r_5, .d (.int .u16) r_6])], nx := 2, log := [], ln := 0 }
def reply_Fits_m1 (t22 : Bool) (a : Int) (a_2 : Int) (a_3 : Int) (a_4 : Int) (a_5 : List Int) (a_6 : List Bool) (r : Int) (r_2 : Int) (r_3 : List Bool) (r_4 : List Int) (r_5 : Int) (r_6 : Int) : Option (As [.bool]) :=
  if t22 = true then some (false, ()) else if nei r_2 0 = true then some (true, ()) else Option.bind (reply_Echo ((a, a_2, a_3, a_4, a_5, a_6), ())) fun (y : LAT4 × Bool × Unit) => if y.2.1 = true then Option.bind (reply_Same (y.1, (r, r_2, r_3, r_4, r_5, r_6), ())) fun (y : Bool × Unit) => some (y.1, ()) else if gt (Int.ofNat (List.length r_3)) 0 = true then if eqi (Int.ofNat (List.length r_3)) (mul .i64 (quo .i64 (add .i64 (cvt .i64 a_3) 7) 8) 8) = true then Option.bind (cut r_3 (cvt .i64 a_3) (Int.ofNat (List.length r_3))) fun (y : List Bool) => Option.bind (slices_Contains_Gbool (y, true, ())) fun (y : Bool × Unit) => some (!y.1, ()) else some (false, ()) else some (eqi (Int.ofNat (List.length r_4)) (cvt .i64 a_3), ())
def reply_Fits_m0 (j1 : Bool → Int → Int → Int → Int → List Int → List Bool → Int → Int → List Bool → List Int → Int → Int → Option (As [.bool])) (a : Int × Int × Int × Int × List Int × List Bool) (r : Int × Int × List Bool × List Int × Int × Int) : Option (As [.bool]) :=
  Option.bind (ask_Right (a, ())) fun (y : Bool × Unit) => if (!y.1) = true then j1 true a.1 a.2.1 a.2.2.1 a.2.2.2.1 a.2.2.2.2.1 a.2.2.2.2.2 r.1 r.2.1 r.2.2.1 r.2.2.2.1 r.2.2.2.2.1 r.2.2.2.2.2 else Option.bind (reply_Right (r, ())) fun (y : Bool × Unit) => if (!y.1) = true then j1 true a.1 a.2.1 a.2.2.1 a.2.2.2.1 a.2.2.2.2.1 a.2.2.2.2.2 r.1 r.2.1 r.2.2.1 r.2.2.2.1 r.2.2.2.2.1 r.2.2.2.2.2 else j1 (nei a.1 r.1) a.1 a.2.1 a.2.2.1 a.2.2.2.1 a.2.2.2.2.1 a.2.2.2.2.2 r.1 r.2.1 r.2.2.1 r.2.2.2.1 r.2.2.2.2.1 r.2.2.2.2.2
def reply_Fits_K1 (t22 : Bool) (a : Int) (a_2 : Int) (a_3 : Int) (a_4 : Int) (a_5 : List Int) (a_6 : List Bool) (r : Int) (r_2 : Int) (r_3 : List Bool) (r_4 : List Int) (r_5 : Int) (r_6 : Int) : Option (As [.bool]) := reply_Fits_m1 t22 a a_2 a_3 a_4 a_5 a_6 r r_2 r_3 r_4 r_5 r_6
def reply_Fits (x : As [.pr (.int .u8) LAT2, .pr (.int .u8) LAT1]) : Option (As [.bool]) := reply_Fits_m0 reply_Fits_K1 x.1 x.2.1
theorem reply_Fits_c1 (J : Orc (As [.bool])) (t22 : Bool) (a : Int) (a_2 : Int) (a_3 : Int) (a_4 : Int) (a_5 : List Int) (a_6 : List Bool) (r : Int) (r_2 : Int) (r_3 : List Bool) (r_4 : List Int) (r_5 : Int) (r_6 : Int) : pfn Tryz.prog reply_Fits_e 6 18446744073709551616 (Ev.get reply_Fits_h) 37 reply_Fits_s J 6 [] (reply_Fits_k1 t22 a a_2 a_3 a_4 a_5 a_6 r r_2 r_3 r_4 r_5 r_6) = reply_Fits_m1 t22 a a_2 a_3 a_4 a_5 a_6 r r_2 r_3 r_4 r_5 r_6 := by kernel_rfl
theorem reply_Fits_c0 (J : Orc (As [.bool])) (x : As [.pr (.int .u8) LAT2, .pr (.int .u8) LAT1]) : rfn Tryz.prog reply_Fits_e 6 18446744073709551616 (Ev.get reply_Fits_h) 37 reply_Fits_s J x = reply_Fits_m0 (fun t22 a a_2 a_3 a_4 a_5 a_6 r r_2 r_3 r_4 r_5 r_6 => J 6 [] (reply_Fits_k1 t22 a a_2 a_3 a_4 a_5 a_6 r r_2 r_3 r_4 r_5 r_6)) x.1 x.2.1 := by kernel_rfl
theorem reply_Fits_g1 (t22 : Bool) (a : Int) (a_2 : Int) (a_3 : Int) (a_4 : Int) (a_5 : List Int) (a_6 : List Bool) (r : Int) (r_2 : Int) (r_3 : List Bool) (r_4 : List Int) (r_5 : Int) (r_6 : Int) : jfn Tryz.prog reply_Fits_e 6 18446744073709551616 (Ev.get reply_Fits_h) 37 reply_Fits_s 6 [] (reply_Fits_k1 t22 a a_2 a_3 a_4 a_5 a_6 r r_2 r_3 r_4 r_5 r_6) = reply_Fits_K1 t22 a a_2 a_3 a_4 a_5 a_6 r r_2 r_3 r_4 r_5 r_6 := by
  rw [pfn_eq (by decide)]
  rw [reply_Fits_c1]
  rfl
theorem reply_Fits_t (x : As [.pr (.int .u8) LAT2, .pr (.int .u8) LAT1]) : evT Tryz.prog reply_Fits_e 6 18446744073709551616 (Ev.get reply_Fits_h) 37 reply_Fits_s x = reply_Fits x := by
  have e1 : (fun t22 a a_2 a_3 a_4 a_5 a_6 r r_2 r_3 r_4 r_5 r_6 => (jfn Tryz.prog reply_Fits_e 6 18446744073709551616 (Ev.get reply_Fits_h) 37 reply_Fits_s) 6 [] (reply_Fits_k1 t22 a a_2 a_3 a_4 a_5 a_6 r r_2 r_3 r_4 r_5 r_6)) = reply_Fits_K1 := funext fun t22 => funext fun a => funext fun a_2 => funext fun a_3 => funext fun a_4 => funext fun a_5 => funext fun a_6 => funext fun r => funext fun r_2 => funext fun r_3 => funext fun r_4 => funext fun r_5 => funext fun r_6 => reply_Fits_g1 t22 a a_2 a_3 a_4 a_5 a_6 r r_2 r_3 r_4 r_5 r_6
  rw [rfn_eq, reply_Fits_c0, e1]
  rfl
theorem reply_Fits_ok : CtOk Tryz.prog (fun _ => True) 37 ⟨reply_Fits_s, reply_Fits⟩ := ct_of_ev (env_cons ask_Right_ok (env_cons reply_Right_ok (env_cons reply_Echo_ok (env_cons reply_Same_ok (env_cons slices_Contains_Gbool_ok env_nil))))) reply_Fits_t
/-! bytes_Equal -/
@[reducible] def bytes_Equal_s : Sh := ⟨[.d (.sl (.int .u8)), .d (.sl (.int .u8))], [], [.sl (.int .u8), .sl (.int .u8)], [.d (.bool)], [], 0, [.bool]⟩
def bytes_Equal_e : Env := (cts [])
def bytes_Equal_h : List (Nat × Hint) := []
def bytes_Equal_m0 (a : List Int) (b : List Int) : Option (As [.bool]) :=
  some (eqs (Sx.toS a) (Sx.toS b), ())
def bytes_Equal (x : As [.sl (.int .u8), .sl (.int .u8)]) : Option (As [.bool]) := bytes_Equal_m0 x.1 x.2.1
theorem bytes_Equal_c0 (J : Orc (As [.bool])) (x : As [.sl (.int .u8), .sl (.int .u8)]) : rfn Tryz.prog bytes_Equal_e 6 18446744073709551616 (Ev.get bytes_Equal_h) 101 bytes_Equal_s J x = bytes_Equal_m0 x.1 x.2.1 := by kernel_rfl
theorem bytes_Equal_t (x : As [.sl (.int .u8), .sl (.int .u8)]) : evT Tryz.prog bytes_Equal_e 6 18446744073709551616 (Ev.get bytes_Equal_h) 101 bytes_Equal_s x = bytes_Equal x := by
  rw [rfn_eq, bytes_Equal_c0]
  rfl
theorem bytes_Equal_ok : CtOk Tryz.prog (fun _ => True) 101 ⟨bytes_Equal_s, bytes_Equal⟩ := ct_of_ev env_nil bytes_Equal_t
/-! reply_exception_read -/
@[reducible] def reply_exception_read_s : Sh := ⟨[.d (.un), .d (.sl (.int .u8))], [], [.un, .sl (.int .u8)], [.d (.pr (.int .u8) LAT1)], [], 0, [.pr (.int .u8) LAT1]⟩
def reply_exception_read_e : Env := (cts [(152, (⟨reply_Wrong_s, reply_Wrong⟩ : Ct))])
def reply_exception_read_h : List (Nat × Hint) := []
def reply_exception_read_m0 (v : Unit) (b : List Int) : Option (As [.pr (.int .u8) LAT1]) :=
  Option.bind (at? b 0) fun (y : Int) => Option.bind (at? b 1) fun (y_1 : Int) => Option.bind (reply_Wrong (y, y_1, ())) fun (y : LAT4 × Unit) => some (y.1, ())
def reply_exception_read (x : As [.un, .sl (.int .u8)]) : Option (As [.pr (.int .u8) LAT1]) := reply_exception_read_m0 x.1 x.2.1
theorem reply_exception_read_c0 (J : Orc (As [.pr (.int .u8) LAT1])) (x : As [.un, .sl (.int .u8)]) : rfn Tryz.prog reply_exception_read_e 6 18446744073709551616 (Ev.get reply_exception_read_h) 285 reply_exception_read_s J x = reply_exception_read_m0 x.1 x.2.1 := by kernel_rfl
theorem reply_exception_read_t (x : As [.un, .sl (.int .u8)]) : evT Tryz.prog reply_exception_read_e 6 18446744073709551616 (Ev.get reply_exception_read_h) 285 reply_exception_read_s x = reply_exception_read x := by
  rw [rfn_eq, reply_exception_read_c0]
  rfl
theorem reply_exception_read_ok : CtOk Tryz.prog (fun _ => True) 285 ⟨reply_exception_read_s, reply_exception_read⟩ := ct_of_ev (env_cons reply_Wrong_ok env_nil) reply_exception_read_t
/-! reply_exception_write -/
@[reducible] def reply_exception_write_s : Sh := ⟨[.d (.un), .d (.pr (.int .u8) LAT1)], [], [.un, .pr (.int .u8) LAT1], [.d (.sl (.int .u8))], [], 0, [.sl (.int .u8)]⟩
def reply_exception_write_e : Env := (cts [])
def reply_exception_write_h : List (Nat × Hint) := []
def reply_exception_write_m0 (v : Unit) (r : Int × Int × List Bool × List Int × Int × Int) : Option (As [.sl (.int .u8)]) :=
  some ([add .u8 r.1 128, r.2.1], ())
def reply_exception_write (x : As [.un, .pr (.int .u8) LAT1]) : Option (As [.sl (.int .u8)]) := reply_exception_write_m0 x.1 x.2.1
theorem reply_exception_write_c0 (J : Orc (As [.sl (.int .u8)])) (x : As [.un, .pr (.int .u8) LAT1]) : rfn Tryz.prog reply_exception_write_e 6 18446744073709551616 (Ev.get reply_exception_write_h) 287 reply_exception_write_s J x = reply_exception_write_m0 x.1 x.2.1 := by kernel_rfl
theorem reply_exception_write_t (x : As [.un, .pr (.int .u8) LAT1]) : evT Tryz.prog reply_exception_write_e 6 18446744073709551616 (Ev.get reply_exception_write_h) 287 reply_exception_write_s x = reply_exception_write x := by
  rw [rfn_eq, reply_exception_write_c0]
  rfl
theorem reply_exception_write_ok : CtOk Tryz.prog (fun _ => True) 287 ⟨reply_exception_write_s, reply_exception_write⟩ := ct_of_ev env_nil reply_exception_write_t
/-! ask_Unpack -/
@[reducible] def ask_Unpack_s : Sh := ⟨[.d (.sl (.int .u8))], [], [.sl (.int .u8)], [.d (.sl .bool)], [], 0, [.sl .bool]⟩
def ask_Unpack_e : Env := (cts [])
def ask_Unpack_h : List (Nat × Hint) := [(58, ⟨[], [0, 3, 10, 11]⟩)]
def ask_Unpack_k1 (b : List Int) (t10 : Int) (t11 : Int) (out : List Bool) : St := { fr := [(0, .d (.sl (.int .u8)) b), (3, .row 0), (10, .d (.int .i64) t10), (11, .d (.int .i64) t11)], nt := 29, up := [], own := [(0, .row .bool 4 out)], nx := 1, log := [], ln := 0 }
def ask_Unpack_m1 (self1 : List Int → Int → Int → List Bool → Option (As [.sl .bool])) (b : List Int) (t10 : Int) (t11 : Int) (out : List Bool) : Option (As [.sl .bool]) :=
  if lt t11 t10 = true then Option.bind (at? b (quo .i64 t11 8)) fun (y : Int) => need (ge (rem t11 8) 0) (Option.bind (at? out t11) fun (x : Bool) => Option.bind (at? out t11) fun (x : Bool) => self1 b t10 (add .i64 t11 1) (List.set out (Int.toNat t11) (eqi (Sx.band .u8 (Sx.shr .u8 y (rem t11 8)) 1) 1))) else some (out, ())
def ask_Unpack_m0 (j1 : List Int → Int → Int → List Bool → Option (As [.sl .bool])) (b : List Int) : Option (As [.sl .bool]) :=
  need (ge (mul .i64 8 (Int.ofNat (List.length b))) 0) (need (Ev.capOk (mul .i64 8 (Int.ofNat (List.length b))) (mul .i64 8 (Int.ofNat (List.length b)))) (need (small (Int.toNat (mul .i64 8 (Int.ofNat (List.length b))))) (j1 b (Int.ofNat (List.length (List.replicate (Int.toNat (mul .i64 8 (Int.ofNat (List.length b)))) false))) 0 (List.replicate (Int.toNat (mul .i64 8 (Int.ofNat (List.length b)))) false))))
def ask_Unpack_K1 (b : List Int) (t10 : Int) (t11 : Int) (out : List Bool) : Option (As [.sl .bool]) :=
  loopF (fun (self : (List Int) × (Int) × (Int) × (List Bool) → Option (As [.sl .bool])) (s : (List Int) × (Int) × (Int) × (List Bool)) => ask_Unpack_m1 (fun b t10 t11 out => self (b, t10, t11, out)) s.1 s.2.1 s.2.2.1 s.2.2.2) 18446744073709551616 (b, t10, t11, out)
def ask_Unpack (x : As [.sl (.int .u8)]) : Option (As [.sl .bool]) := ask_Unpack_m0 ask_Unpack_K1 x.1
theorem ask_Unpack_c1 (J : Orc (As [.sl .bool])) (w1 : St → Option (As [.sl .bool])) (b : List Int) (t10 : Int) (t11 : Int) (out : List Bool) : pfn Tryz.prog ask_Unpack_e 6 18446744073709551616 (Ev.get ask_Unpack_h) 244 ask_Unpack_s J 58 [w1] (ask_Unpack_k1 b t10 t11 out) = ask_Unpack_m1 (fun b t10 t11 out => w1 (ask_Unpack_k1 b t10 t11 out)) b t10 t11 out := by kernel_rfl
theorem ask_Unpack_c0 (J : Orc (As [.sl .bool])) (x : As [.sl (.int .u8)]) : rfn Tryz.prog ask_Unpack_e 6 18446744073709551616 (Ev.get ask_Unpack_h) 244 ask_Unpack_s J x = ask_Unpack_m0 (fun b t10 t11 out => J 58 [] (ask_Unpack_k1 b t10 t11 out)) x.1 := by kernel_rfl
theorem ask_Unpack_g1 (b : List Int) (t10 : Int) (t11 : Int) (out : List Bool) : jfn Tryz.prog ask_Unpack_e 6 18446744073709551616 (Ev.get ask_Unpack_h) 244 ask_Unpack_s 58 [] (ask_Unpack_k1 b t10 t11 out) = ask_Unpack_K1 b t10 t11 out := by
  rw [pfn_eq (by decide)]
  rw [pfn_loop (by kernel_rfl)]
  refine loopF_sim (σ := (List Int) × (Int) × (Int) × (List Bool)) (mk := fun s => ask_Unpack_k1 s.1 s.2.1 s.2.2.1 s.2.2.2) (fun w1 s => ?_) 18446744073709551616 (b, t10, t11, out)
  refine (ask_Unpack_c1 _ w1 s.1 s.2.1 s.2.2.1 s.2.2.2).trans ?_
  rfl
theorem ask_Unpack_t (x : As [.sl (.int .u8)]) : evT Tryz.prog ask_Unpack_e 6 18446744073709551616 (Ev.get ask_Unpack_h) 244 ask_Unpack_s x = ask_Unpack x := by
  have e1 : (fun b t10 t11 out => (jfn Tryz.prog ask_Unpack_e 6 18446744073709551616 (Ev.get ask_Unpack_h) 244 ask_Unpack_s) 58 [] (ask_Unpack_k1 b t10 t11 out)) = ask_Unpack_K1 := funext fun b => funext fun t10 => funext fun t11 => funext fun out => ask_Unpack_g1 b t10 t11 out
  rw [rfn_eq, ask_Unpack_c0, e1]
  rfl
theorem ask_Unpack_ok : CtOk Tryz.prog (fun _ => True) 244 ⟨ask_Unpack_s, ask_Unpack⟩ := ct_of_ev env_nil ask_Unpack_t
/-! reply_bitList_read -/
@[reducible] def reply_bitList_read_s : Sh := ⟨[.d (.un), .d (.sl (.int .u8))], [], [.un, .sl (.int .u8)], [.d (.pr (.int .u8) LAT1)], [], 0, [.pr (.int .u8) LAT1]⟩
def reply_bitList_read_e : Env := (cts [(244, (⟨ask_Unpack_s, ask_Unpack⟩ : Ct))])
def reply_bitList_read_h : List (Nat × Hint) := []
def reply_bitList_read_m0 (v : Unit) (b : List Int) : Option (As [.pr (.int .u8) LAT1]) :=
  Option.bind (at? b 0) fun (y : Int) => Option.bind (cut b 2 (Int.ofNat (List.length b))) fun (y_1 : List Int) => Option.bind (ask_Unpack (y_1, ())) fun (y_2 : List Bool × Unit) => some ((y, 0, y_2.1, [], 0, 0), ())
def reply_bitList_read (x : As [.un, .sl (.int .u8)]) : Option (As [.pr (.int .u8) LAT1]) := reply_bitList_read_m0 x.1 x.2.1
theorem reply_bitList_read_c0 (J : Orc (As [.pr (.int .u8) LAT1])) (x : As [.un, .sl (.int .u8)]) : rfn Tryz.prog reply_bitList_read_e 6 18446744073709551616 (Ev.get reply_bitList_read_h) 306 reply_bitList_read_s J x = reply_bitList_read_m0 x.1 x.2.1 := by kernel_rfl
theorem reply_bitList_read_t (x : As [.un, .sl (.int .u8)]) : evT Tryz.prog reply_bitList_read_e 6 18446744073709551616 (Ev.get reply_bitList_read_h) 306 reply_bitList_read_s x = reply_bitList_read x := by
  rw [rfn_eq, reply_bitList_read_c0]
  rfl
theorem reply_bitList_read_ok : CtOk Tryz.prog (fun _ => True) 306 ⟨reply_bitList_read_s, reply_bitList_read⟩ := ct_of_ev (env_cons ask_Unpack_ok env_nil) reply_bitList_read_t
/-! reply_bitList_write -/
@[reducible] def reply_bitList_write_s : Sh := ⟨[.d (.un), .d (.pr (.int .u8) LAT1)], [], [.un, .pr (.int .u8) LAT1], [.d (.sl (.int .u8))], [], 0, [.sl (.int .u8)]⟩
def reply_bitList_write_e : Env := (cts [(96, (⟨ask_Pack_s, ask_Pack⟩ : Ct))])
def reply_bitList_write_h : List (Nat × Hint) := []
def reply_bitList_write_m0 (v : Unit) (r : Int × Int × List Bool × List Int × Int × Int) : Option (As [.sl (.int .u8)]) :=
  Option.bind (ask_Pack (r.2.2.1, ())) fun (y : List Int × Unit) => need (small (2 + List.length y.1)) (some (r.1 :: Int.ofNat (List.length y.1 % 256) :: y.1, ()))
def reply_bitList_write (x : As [.un, .pr (.int .u8) LAT1]) : Option (As [.sl (.int .u8)]) := reply_bitList_write_m0 x.1 x.2.1
theorem reply_bitList_write_c0 (J : Orc (As [.sl (.int .u8)])) (x : As [.un, .pr (.int .u8) LAT1]) : rfn Tryz.prog reply_bitList_write_e 6 18446744073709551616 (Ev.get reply_bitList_write_h) 308 reply_bitList_write_s J x = reply_bitList_write_m0 x.1 x.2.1 := by kernel_rfl
theorem reply_bitList_write_t (x : As [.un, .pr (.int .u8) LAT1]) : evT Tryz.prog reply_bitList_write_e 6 18446744073709551616 (Ev.get reply_bitList_write_h) 308 reply_bitList_write_s x = reply_bitList_write x := by
  rw [rfn_eq, reply_bitList_write_c0]
  rfl
theorem reply_bitList_write_ok : CtOk Tryz.prog (fun _ => True) 308 ⟨reply_bitList_write_s, reply_bitList_write⟩ := ct_of_ev (env_cons ask_Pack_ok env_nil) reply_bitList_write_t
/-! reply_list -/
@[reducible] def reply_list_s : Sh := ⟨[.d (.sl (.int .u8))], [], [.sl (.int .u8)], [.d (.sl (.int .u16))], [], 0, [.sl (.int .u16)]⟩
def reply_list_e : Env := (cts [])
def reply_list_h : List (Nat × Hint) := [(58, ⟨[], [0, 3, 10, 11]⟩)]
def reply_list_k1 (b : List Int) (t10 : Int) (t11 : Int) (l : List Int) : St := { fr := [(0, .d (.sl (.int .u8)) b), (3, .row 0), (10, .d (.int .i64) t10), (11, .d (.int .i64) t11)], nt := 34, up := [], own := [(0, .row (.int .u16) 23 l)], nx := 1, log := [], ln := 0 }
def reply_list_m1 (self1 : List Int → Int → Int → List Int → Option (As [.sl (.int .u16)])) (b : List Int) (t10 : Int) (t11 : Int) (l : List Int) : Option (As [.sl (.int .u16)]) :=
  if lt t11 t10 = true then Option.bind (at? b (mul .i64 2 t11)) fun (y : Int) => Option.bind (at? b (add .i64 (mul .i64 2 t11) 1)) fun (y_1 : Int) => Option.bind (at? l t11) fun (x : Int) => Option.bind (at? l t11) fun (x : Int) => self1 b t10 (add .i64 t11 1) (List.set l (Int.toNat t11) (Sx.bor .u16 (Sx.shl .u16 (cvt .u16 y) 8) (cvt .u16 y_1))) else some (l, ())
def reply_list_m0 (j1 : List Int → Int → Int → List Int → Option (As [.sl (.int .u16)])) (b : List Int) : Option (As [.sl (.int .u16)]) :=
  need (ge (quo .i64 (Int.ofNat (List.length b)) 2) 0) (need (Ev.capOk (quo .i64 (Int.ofNat (List.length b)) 2) (quo .i64 (Int.ofNat (List.length b)) 2)) (need (small (Int.toNat (quo .i64 (Int.ofNat (List.length b)) 2))) (j1 b (Int.ofNat (List.length (List.replicate (α := Int) (Int.toNat (quo .i64 (Int.ofNat (List.length b)) 2)) 0))) 0 (List.replicate (Int.toNat (quo .i64 (Int.ofNat (List.length b)) 2)) 0))))
def reply_list_K1 (b : List Int) (t10 : Int) (t11 : Int) (l : List Int) : Option (As [.sl (.int .u16)]) :=
  loopF (fun (self : (List Int) × (Int) × (Int) × (List Int) → Option (As [.sl (.int .u16)])) (s : (List Int) × (Int) × (Int) × (List Int)) => reply_list_m1 (fun b t10 t11 l => self (b, t10, t11, l)) s.1 s.2.1 s.2.2.1 s.2.2.2) 18446744073709551616 (b, t10, t11, l)
def reply_list (x : As [.sl (.int .u8)]) : Option (As [.sl (.int .u16)]) := reply_list_m0 reply_list_K1 x.1
theorem reply_list_c1 (J : Orc (As [.sl (.int .u16)])) (w1 : St → Option (As [.sl (.int .u16)])) (b : List Int) (t10 : Int) (t11 : Int) (l : List Int) : pfn Tryz.prog reply_list_e 6 18446744073709551616 (Ev.get reply_list_h) 312 reply_list_s J 58 [w1] (reply_list_k1 b t10 t11 l) = reply_list_m1 (fun b t10 t11 l => w1 (reply_list_k1 b t10 t11 l)) b t10 t11 l := by kernel_rfl
theorem reply_list_c0 (J : Orc (As [.sl (.int .u16)])) (x : As [.sl (.int .u8)]) : rfn Tryz.prog reply_list_e 6 18446744073709551616 (Ev.get reply_list_h) 312 reply_list_s J x = reply_list_m0 (fun b t10 t11 l => J 58 [] (reply_list_k1 b t10 t11 l)) x.1 := by kernel_rfl
theorem reply_list_g1 (b : List Int) (t10 : Int) (t11 : Int) (l : List Int) : jfn Tryz.prog reply_list_e 6 18446744073709551616 (Ev.get reply_list_h) 312 reply_list_s 58 [] (reply_list_k1 b t10 t11 l) = reply_list_K1 b t10 t11 l := by
  rw [pfn_eq (by decide)]
  rw [pfn_loop (by kernel_rfl)]
  refine loopF_sim (σ := (List Int) × (Int) × (Int) × (List Int)) (mk := fun s => reply_list_k1 s.1 s.2.1 s.2.2.1 s.2.2.2) (fun w1 s => ?_) 18446744073709551616 (b, t10, t11, l)
  refine (reply_list_c1 _ w1 s.1 s.2.1 s.2.2.1 s.2.2.2).trans ?_
  rfl
theorem reply_list_t (x : As [.sl (.int .u8)]) : evT Tryz.prog reply_list_e 6 18446744073709551616 (Ev.get reply_list_h) 312 reply_list_s x = reply_list x := by
  have e1 : (fun b t10 t11 l => (jfn Tryz.prog reply_list_e 6 18446744073709551616 (Ev.get reply_list_h) 312 reply_list_s) 58 [] (reply_list_k1 b t10 t11 l)) = reply_list_K1 := funext fun b => funext fun t10 => funext fun t11 => funext fun l => reply_list_g1 b t10 t11 l
  rw [rfn_eq, reply_list_c0, e1]
  rfl
theorem reply_list_ok : CtOk Tryz.prog (fun _ => True) 312 ⟨reply_list_s, reply_list⟩ := ct_of_ev env_nil reply_list_t
/-! reply_wordList_read -/
@[reducible] def reply_wordList_read_s : Sh := ⟨[.d (.un), .d (.sl (.int .u8))], [], [.un, .sl (.int .u8)], [.d (.pr (.int .u8) LAT1)], [], 0, [.pr (.int .u8) LAT1]⟩
def reply_wordList_read_e : Env := (cts [(312, (⟨reply_list_s, reply_list⟩ : Ct))])
def reply_wordList_read_h : List (Nat × Hint) := []
def reply_wordList_read_m0 (v : Unit) (b : List Int) : Option (As [.pr (.int .u8) LAT1]) :=
  Option.bind (at? b 0) fun (y : Int) => Option.bind (cut b 2 (Int.ofNat (List.length b))) fun (y_1 : List Int) => Option.bind (reply_list (y_1, ())) fun (y_2 : List Int × Unit) => some ((y, 0, [], y_2.1, 0, 0), ())
def reply_wordList_read (x : As [.un, .sl (.int .u8)]) : Option (As [.pr (.int .u8) LAT1]) := reply_wordList_read_m0 x.1 x.2.1
theorem reply_wordList_read_c0 (J : Orc (As [.pr (.int .u8) LAT1])) (x : As [.un, .sl (.int .u8)]) : rfn Tryz.prog reply_wordList_read_e 6 18446744073709551616 (Ev.get reply_wordList_read_h) 309 reply_wordList_read_s J x = reply_wordList_read_m0 x.1 x.2.1 := by kernel_rfl
theorem reply_wordList_read_t (x : As [.un, .sl (.int .u8)]) : evT Tryz.prog reply_wordList_read_e 6 18446744073709551616 (Ev.get reply_wordList_read_h) 309 reply_wordList_read_s x = reply_wordList_read x := by
  rw [rfn_eq, reply_wordList_read_c0]
  rfl
theorem reply_wordList_read_ok : CtOk Tryz.prog (fun _ => True) 309 ⟨reply_wordList_read_s, reply_wordList_read⟩ := ct_of_ev (env_cons reply_list_ok env_nil) reply_wordList_read_t
/-! reply_numbers -/
@[reducible] def reply_numbers_s : Sh := ⟨[.row 0, .d (.sl (.int .u16))], [.row (.int .u8) 5], [.sl (.int .u16), .sl (.int .u8)], [.row 1], [(1, .row (.int .u8) 5)], 1, [.sl (.int .u8)]⟩
def reply_numbers_e : Env := (cts [])
def reply_numbers_h : List (Nat × Hint) := [(26, ⟨[.unl 0], [0, 7, 8, 9]⟩)]
def reply_numbers_k1 (t7 : List Int) (t8 : Int) (t9 : Int) (out : List Int) : St := { fr := [(0, .row 1), (7, .d (.sl (.int .u16)) t7), (8, .d (.int .i64) t8), (9, .d (.int .i64) t9)], nt := 23, up := [], own := [(1, .row (.int .u8) 5 out)], nx := 2, log := [], ln := 1 }
def reply_numbers_m1 (self1 : List Int → Int → Int → List Int → Option (As [.sl (.int .u8)])) (t7 : List Int) (t8 : Int) (t9 : Int) (out : List Int) : Option (As [.sl (.int .u8)]) :=
  if lt t9 t8 = true then Option.bind (at? t7 t9) fun (y : Int) => need (small (List.length out + 2)) (self1 t7 t8 (add .i64 t9 1) (out ++ [cvt .u8 (Sx.shr .u16 y 8), cvt .u8 y])) else some (out, ())
def reply_numbers_m0 (j1 : List Int → Int → Int → List Int → Option (As [.sl (.int .u8)])) (out : List Int) (l : List Int) : Option (As [.sl (.int .u8)]) :=
  j1 out (Int.ofNat (List.length out)) 0 l
def reply_numbers_K1 (t7 : List Int) (t8 : Int) (t9 : Int) (out : List Int) : Option (As [.sl (.int .u8)]) :=
  loopF (fun (self : (List Int) × (Int) × (Int) × (List Int) → Option (As [.sl (.int .u8)])) (s : (List Int) × (Int) × (Int) × (List Int)) => reply_numbers_m1 (fun t7 t8 t9 out => self (t7, t8, t9, out)) s.1 s.2.1 s.2.2.1 s.2.2.2) 18446744073709551616 (t7, t8, t9, out)
def reply_numbers (x : As [.sl (.int .u16), .sl (.int .u8)]) : Option (As [.sl (.int .u8)]) := reply_numbers_m0 reply_numbers_K1 x.1 x.2.1
theorem reply_numbers_c1 (J : Orc (As [.sl (.int .u8)])) (w1 : St → Option (As [.sl (.int .u8)])) (t7 : List Int) (t8 : Int) (t9 : Int) (out : List Int) : pfn Tryz.prog reply_numbers_e 6 18446744073709551616 (Ev.get reply_numbers_h) 313 reply_numbers_s J 26 [w1] (reply_numbers_k1 t7 t8 t9 out) = reply_numbers_m1 (fun t7 t8 t9 out => w1 (reply_numbers_k1 t7 t8 t9 out)) t7 t8 t9 out := by kernel_rfl
theorem reply_numbers_c0 (J : Orc (As [.sl (.int .u8)])) (x : As [.sl (.int .u16), .sl (.int .u8)]) : rfn Tryz.prog reply_numbers_e 6 18446744073709551616 (Ev.get reply_numbers_h) 313 reply_numbers_s J x = reply_numbers_m0 (fun t7 t8 t9 out => J 26 [] (reply_numbers_k1 t7 t8 t9 out)) x.1 x.2.1 := by kernel_rfl
theorem reply_numbers_g1 (t7 : List Int) (t8 : Int) (t9 : Int) (out : List Int) : jfn Tryz.prog reply_numbers_e 6 18446744073709551616 (Ev.get reply_numbers_h) 313 reply_numbers_s 26 [] (reply_numbers_k1 t7 t8 t9 out) = reply_numbers_K1 t7 t8 t9 out := by
  rw [pfn_eq (by decide)]
  rw [pfn_loop (by kernel_rfl)]
  refine loopF_sim (σ := (List Int) × (Int) × (Int) × (List Int)) (mk := fun s => reply_numbers_k1 s.1 s.2.1 s.2.2.1 s.2.2.2) (fun w1 s => ?_) 18446744073709551616 (t7, t8, t9, out)
  refine (reply_numbers_c1 _ w1 s.1 s.2.1 s.2.2.1 s.2.2.2).trans ?_
  rfl
theorem reply_numbers_t (x : As [.sl (.int .u16), .sl (.int .u8)]) : evT Tryz.prog reply_numbers_e 6 18446744073709551616 (Ev.get reply_numbers_h) 313 reply_numbers_s x = reply_numbers x := by
  have e1 : (fun t7 t8 t9 out => (jfn Tryz.prog reply_numbers_e 6 18446744073709551616 (Ev.get reply_numbers_h) 313 reply_numbers_s) 26 [] (reply_numbers_k1 t7 t8 t9 out)) = reply_numbers_K1 := funext fun t7 => funext fun t8 => funext fun t9 => funext fun out => reply_numbers_g1 t7 t8 t9 out
  rw [rfn_eq, reply_numbers_c0, e1]
  rfl
theorem reply_numbers_ok : CtOk Tryz.prog (fun _ => True) 313 ⟨reply_numbers_s, reply_numbers⟩ := ct_of_ev env_nil reply_numbers_t
/-! reply_wordList_write -/
@[reducible] def reply_wordList_write_s : Sh := ⟨[.d (.un), .d (.pr (.int .u8) LAT1)], [], [.un, .pr (.int .u8) LAT1], [.d (.sl (.int .u8))], [], 0, [.sl (.int .u8)]⟩
def reply_wordList_write_e : Env := (cts [(313, (⟨reply_numbers_s, reply_numbers⟩ : Ct))])
def reply_wordList_write_h : List (Nat × Hint) := []
def reply_wordList_write_m0 (v : Unit) (r : Int × Int × List Bool × List Int × Int × Int) : Option (As [.sl (.int .u8)]) :=
  Option.bind (reply_numbers (r.2.2.2.1, [r.1, cvt .u8 (mul .i64 2 (Int.ofNat (List.length r.2.2.2.1)))], ())) fun (y : List Int × Unit) => some (y.1, ())
def reply_wordList_write (x : As [.un, .pr (.int .u8) LAT1]) : Option (As [.sl (.int .u8)]) := reply_wordList_write_m0 x.1 x.2.1
theorem reply_wordList_write_c0 (J : Orc (As [.sl (.int .u8)])) (x : As [.un, .pr (.int .u8) LAT1]) : rfn Tryz.prog reply_wordList_write_e 6 18446744073709551616 (Ev.get reply_wordList_write_h) 311 reply_wordList_write_s J x = reply_wordList_write_m0 x.1 x.2.1 := by kernel_rfl
theorem reply_wordList_write_t (x : As [.un, .pr (.int .u8) LAT1]) : evT Tryz.prog reply_wordList_write_e 6 18446744073709551616 (Ev.get reply_wordList_write_h) 311 reply_wordList_write_s x = reply_wordList_write x := by
  rw [rfn_eq, reply_wordList_write_c0]
  rfl
theorem reply_wordList_write_ok : CtOk Tryz.prog (fun _ => True) 311 ⟨reply_wordList_write_s, reply_wordList_write⟩ := ct_of_ev (env_cons reply_numbers_ok env_nil) reply_wordList_write_t
/-! reply_oneBit_read -/
@[reducible] def reply_oneBit_read_s : Sh := ⟨[.d (.un), .d (.sl (.int .u8))], [], [.un, .sl (.int .u8)], [.d (.pr (.int .u8) LAT1)], [], 0, [.pr (.int .u8) LAT1]⟩
def reply_oneBit_read_e : Env := (cts [(312, (⟨reply_list_s, reply_list⟩ : Ct))])
def reply_oneBit_read_h : List (Nat × Hint) := []
def reply_oneBit_read_m0 (v : Unit) (b : List Int) : Option (As [.pr (.int .u8) LAT1]) :=
  Option.bind (cut b 1 (Int.ofNat (List.length b))) fun (y : List Int) => Option.bind (reply_list (y, ())) fun (y : List Int × Unit) => if lt (Int.ofNat (List.length y.1)) 2 = true then some ((0, 0, [], [], 0, 0), ()) else Option.bind (at? b 0) fun (y_1 : Int) => Option.bind (at? y.1 0) fun (y_2 : Int) => Option.bind (at? y.1 1) fun (y : Int) => some ((y_1, 0, [eqi y 65280], [], y_2, 0), ())
def reply_oneBit_read (x : As [.un, .sl (.int .u8)]) : Option (As [.pr (.int .u8) LAT1]) := reply_oneBit_read_m0 x.1 x.2.1
theorem reply_oneBit_read_c0 (J : Orc (As [.pr (.int .u8) LAT1])) (x : As [.un, .sl (.int .u8)]) : rfn Tryz.prog reply_oneBit_read_e 6 18446744073709551616 (Ev.get reply_oneBit_read_h) 314 reply_oneBit_read_s J x = reply_oneBit_read_m0 x.1 x.2.1 := by kernel_rfl
theorem reply_oneBit_read_t (x : As [.un, .sl (.int .u8)]) : evT Tryz.prog reply_oneBit_read_e 6 18446744073709551616 (Ev.get reply_oneBit_read_h) 314 reply_oneBit_read_s x = reply_oneBit_read x := by
  rw [rfn_eq, reply_oneBit_read_c0]
  rfl
theorem reply_oneBit_read_ok : CtOk Tryz.prog (fun _ => True) 314 ⟨reply_oneBit_read_s, reply_oneBit_read⟩ := ct_of_ev (env_cons reply_list_ok env_nil) reply_oneBit_read_t
/-! reply_oneBit_write -/
@[reducible] def reply_oneBit_write_s : Sh := ⟨[.d (.un), .d (.pr (.int .u8) LAT1)], [], [.un, .pr (.int .u8) LAT1], [.d (.sl (.int .u8))], [], 0, [.sl (.int .u8)]⟩
def reply_oneBit_write_e : Env := (cts [(313, (⟨reply_numbers_s, reply_numbers⟩ : Ct))])
def reply_oneBit_write_h : List (Nat × Hint) := [(7, ⟨[], [3, 5]⟩)]
def reply_oneBit_write_k1 (x : Int) (r : Int) (r_2 : Int) (r_3 : List Bool) (r_4 : List Int) (r_5 : Int) (r_6 : Int) : St := { fr := [(3, .pb 0 0), (5, .d (.int .u16) x)], nt := 18, up := [], own := [(0, .box 46 [.d (.int .u8) r, .d (.int .u8) r_2, .d (.sl .bool) r_3, .d (.sl (.int .u16)) r_4, .d (.int .u16) r_5, .d (.int .u16) r_6])], nx := 1, log := [], ln := 0 }
def reply_oneBit_write_m1 (x : Int) (r : Int) (r_2 : Int) (r_3 : List Bool) (r_4 : List Int) (r_5 : Int) (r_6 : Int) : Option (As [.sl (.int .u8)]) :=
  Option.bind (reply_numbers ([r_5, x], [r], ())) fun (y : List Int × Unit) => some (y.1, ())
def reply_oneBit_write_m0 (j1 : Int → Int → Int → List Bool → List Int → Int → Int → Option (As [.sl (.int .u8)])) (v : Unit) (r : Int × Int × List Bool × List Int × Int × Int) : Option (As [.sl (.int .u8)]) :=
  Option.bind (at? r.2.2.1 0) fun (y : Bool) => if y = true then j1 65280 r.1 r.2.1 r.2.2.1 r.2.2.2.1 r.2.2.2.2.1 r.2.2.2.2.2 else j1 0 r.1 r.2.1 r.2.2.1 r.2.2.2.1 r.2.2.2.2.1 r.2.2.2.2.2
def reply_oneBit_write_K1 (x : Int) (r : Int) (r_2 : Int) (r_3 : List Bool) (r_4 : List Int) (r_5 : Int) (r_6 : Int) : Option (As [.sl (.int .u8)]) := reply_oneBit_write_m1 x r r_2 r_3 r_4 r_5 r_6
def reply_oneBit_write (x : As [.un, .pr (.int .u8) LAT1]) : Option (As [.sl (.int .u8)]) := reply_oneBit_write_m0 reply_oneBit_write_K1 x.1 x.2.1
theorem reply_oneBit_write_c1 (J : Orc (As [.sl (.int .u8)])) (x : Int) (r : Int) (r_2 : Int) (r_3 : List Bool) (r_4 : List Int) (r_5 : Int) (r_6 : Int) : pfn Tryz.prog reply_oneBit_write_e 6 18446744073709551616 (Ev.get reply_oneBit_write_h) 316 reply_oneBit_write_s J 7 [] (reply_oneBit_write_k1 x r r_2 r_3 r_4 r_5 r_6) = reply_oneBit_write_m1 x r r_2 r_3 r_4 r_5 r_6 := by kernel_rfl
theorem reply_oneBit_write_c0 (J : Orc (As [.sl (.int .u8)])) (x : As [.un, .pr (.int .u8) LAT1]) : rfn Tryz.prog reply_oneBit_write_e 6 18446744073709551616 (Ev.get reply_oneBit_write_h) 316 reply_oneBit_write_s J x = reply_oneBit_write_m0 (fun x r r_2 r_3 r_4 r_5 r_6 => J 7 [] (reply_oneBit_write_k1 x r r_2 r_3 r_4 r_5 r_6)) x.1 x.2.1 := by kernel_rfl
theorem reply_oneBit_write_g1 (x : Int) (r : Int) (r_2 : Int) (r_3 : List Bool) (r_4 : List Int) (r_5 : Int) (r_6 : Int) : jfn Tryz.prog reply_oneBit_write_e 6 18446744073709551616 (Ev.get reply_oneBit_write_h) 316 reply_oneBit_write_s 7 [] (reply_oneBit_write_k1 x r r_2 r_3 r_4 r_5 r_6) = reply_oneBit_write_K1 x r r_2 r_3 r_4 r_5 r_6 := by
  rw [pfn_eq (by decide)]
  rw [reply_oneBit_write_c1]
  rfl
theorem reply_oneBit_write_t (x : As [.un, .pr (.int .u8) LAT1]) : evT Tryz.prog reply_oneBit_write_e 6 18446744073709551616 (Ev.get reply_oneBit_write_h) 316 reply_oneBit_write_s x = reply_oneBit_write x := by
  have e1 : (fun x r r_2 r_3 r_4 r_5 r_6 => (jfn Tryz.prog reply_oneBit_write_e 6 18446744073709551616 (Ev.get reply_oneBit_write_h) 316 reply_oneBit_write_s) 7 [] (reply_oneBit_write_k1 x r r_2 r_3 r_4 r_5 r_6)) = reply_oneBit_write_K1 := funext fun x => funext fun r => funext fun r_2 => funext fun r_3 => funext fun r_4 => funext fun r_5 => funext fun r_6 => reply_oneBit_write_g1 x r r_2 r_3 r_4 r_5 r_6
  rw [rfn_eq, reply_oneBit_write_c0, e1]
  rfl
theorem reply_oneBit_write_ok : CtOk Tryz.prog (fun _ => True) 316 ⟨reply_oneBit_write_s, reply_oneBit_write⟩ := ct_of_ev (env_cons reply_numbers_ok env_nil) reply_oneBit_write_t
end Go.Proofs.Lx

end
