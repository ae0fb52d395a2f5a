/- Proved in the last of these 11 parts (this is part 7): for every input PollTells returns true: what becomes of a poll, what it sends and which reply it takes, by requests, frames, ticks and drops, and which ones are right, are what the document's answer says. Conditions: those of the given statement, and no others. -/
import Derived.Test.YtbpmjafbgbcjeaaGreatPartd
import Derived.Test.YtbpmjafbgbcjeaaGreatProg
import Derived.Test.YtbpmjafbgbcjeaaGreatPartf
set_option linter.unusedVariables false
set_option linter.unusedSimpArgs false
set_option linter.unusedSectionVars false
section
/- Contracts, made by a program. -/
open Go Go.Proofs Ev Sx
set_option maxRecDepth 100000
namespace Go.Proofs.Lx
abbrev LBT2 : Ty := (.pr (.int .u16) (.pr (.int .u16) (.pr (.int .u16) (.pr (.sl (.int .u16)) (.sl .bool)))))
abbrev LBT0 : Ty := (.pr (.int .u8) (.pr (.int .i64) (.pr (.int .i64) (.pr .bool (.pr (.pr (.int .u8) LBT2) (.pr (.int .u16) (.pr (.int .i64) (.int .i64))))))))
abbrev LBT1 : Ty := (.pr (.int .u8) (.pr (.sl .bool) (.pr (.sl (.int .u16)) (.pr (.int .u16) (.int .u16)))))
abbrev LBT3 : Type := (Int × Int × Int × Int × List Int × List Bool)
abbrev LBT4 : Type := (Int × Int × List Bool × List Int × Int × Int)
abbrev LBT5 : Ty := (.pr (.int .u8) (.sl (.int .u8)))
abbrev ZoB1q0 : Type := Int × Int × Int × Int × List Int × List Bool
abbrev ZoB1q1 : Type := Int × Int × List Bool × List Int × Int × Int
abbrev ZoB1q2 : Type := Int × Int × Int × Int × Bool × LBT3 × Int × Int × Int
/-! ref22_may -/
@[reducible] def ref22_may_s : Sh := ⟨[.d (.int .u8), .d (.int .u8), .d (.int .i64), .d (.int .i64)], [], [.int .u8, .int .u8, .int .i64, .int .i64], [.d (.bool)], [], 0, [.bool]⟩
def ref22_may_e : Env := (cts [])
def ref22_may_h : List (Nat × Hint) := []
def ref22_may_m0 (unit : Int) (link : Int) (timeout : Int) (retries : Int) : Option (As [.bool]) :=
  if ge unit 1 = true then if le unit 247 = true then if ge link 1 = true then if le link 2 = true then if ge timeout 1 = true then if le timeout 100000 = true then if ge retries 0 = true then some (le retries 1000, ()) else some (false, ()) else some (false, ()) else some (false, ()) else some (false, ()) else some (false, ()) else some (false, ()) else some (false, ())
def ref22_may (x : As [.int .u8, .int .u8, .int .i64, .int .i64]) : Option (As [.bool]) := ref22_may_m0 x.1 x.2.1 x.2.2.1 x.2.2.2.1
theorem ref22_may_c0 (J : Orc (As [.bool])) (x : As [.int .u8, .int .u8, .int .i64, .int .i64]) : rfn Tryz.prog ref22_may_e 6 18446744073709551616 (Ev.get ref22_may_h) 77 ref22_may_s J x = ref22_may_m0 x.1 x.2.1 x.2.2.1 x.2.2.2.1 := by kernel_rfl
theorem ref22_may_t (x : As [.int .u8, .int .u8, .int .i64, .int .i64]) : evT Tryz.prog ref22_may_e 6 18446744073709551616 (Ev.get ref22_may_h) 77 ref22_may_s x = ref22_may x := by
  rw [rfn_eq, ref22_may_c0]
  rfl
theorem ref22_may_ok : CtOk Tryz.prog (fun _ => True) 77 ⟨ref22_may_s, ref22_may⟩ := ct_of_ev env_nil ref22_may_t
/-! ref22_New -/
@[reducible] def ref22_New_s : Sh := ⟨[.d (.int .u8), .d (.int .u8), .d (.int .i64), .d (.int .i64)], [], [.int .u8, .int .u8, .int .i64, .int .i64], [.d (.pr (.int .u8) LBT0), .d (.int .i64)], [], 0, [.pr (.int .u8) LBT0, .int .i64]⟩
def ref22_New_e : Env := (cts [(77, (⟨ref22_may_s, ref22_may⟩ : Ct))])
def ref22_New_h : List (Nat × Hint) := []
def ref22_New_m0 (unit : Int) (link : Int) (timeout : Int) (retries : Int) : Option (As [.pr (.int .u8) LBT0, .int .i64]) :=
  Option.bind (ref22_may (unit, link, timeout, retries, ())) fun (y : Bool × Unit) => if (!y.1) = true then some ((0, 0, 0, 0, false, (0, 0, 0, 0, [], []), 0, 0, 0), 2, ()) else some ((unit, link, timeout, retries, false, (0, 0, 0, 0, [], []), 0, 0, 0), 0, ())
def ref22_New (x : As [.int .u8, .int .u8, .int .i64, .int .i64]) : Option (As [.pr (.int .u8) LBT0, .int .i64]) := ref22_New_m0 x.1 x.2.1 x.2.2.1 x.2.2.2.1
theorem ref22_New_c0 (J : Orc (As [.pr (.int .u8) LBT0, .int .i64])) (x : As [.int .u8, .int .u8, .int .i64, .int .i64]) : rfn Tryz.prog ref22_New_e 6 18446744073709551616 (Ev.get ref22_New_h) 14 ref22_New_s J x = ref22_New_m0 x.1 x.2.1 x.2.2.1 x.2.2.2.1 := by kernel_rfl
theorem ref22_New_t (x : As [.int .u8, .int .u8, .int .i64, .int .i64]) : evT Tryz.prog ref22_New_e 6 18446744073709551616 (Ev.get ref22_New_h) 14 ref22_New_s x = ref22_New x := by
  rw [rfn_eq, ref22_New_c0]
  rfl
theorem ref22_New_ok : CtOk Tryz.prog (fun _ => True) 14 ⟨ref22_New_s, ref22_New⟩ := ct_of_ev (env_cons ref22_may_ok env_nil) ref22_New_t
/-! ref02_Right -/
@[reducible] def ref02_Right_s : Sh := ⟨[.d (.pr (.int .u8) LBT2)], [], [.pr (.int .u8) LBT2], [.d (.bool)], [], 0, [.bool]⟩
def ref02_Right_e : Env := (cts [])
def ref02_Right_h : List (Nat × Hint) := [(122, ⟨[], [3, 4, 5, 24, 25, 31, 32, 35, 36, 39, 40, 48, 49, 52, 53, 56, 57, 64, 65, 68, 69, 76, 77, 80, 81, 89, 90, 93, 94, 97, 98, 105, 106, 107, 110, 111, 114, 115, 122, 123, 126, 127, 130, 131, 134, 135]⟩), (491, ⟨[], [3, 4, 5, 24, 42, 48, 49, 52, 53, 56, 57, 64, 65, 68, 69, 76, 77, 80, 81, 89, 90, 93, 94, 97, 98, 105, 106, 107, 110, 111, 114, 115, 122, 123, 126, 127, 130, 131, 134, 135]⟩), (14, ⟨[], [1, 3, 4, 5, 22, 31, 32, 35, 36, 39, 40, 48, 49, 52, 53, 56, 57, 64, 65, 68, 69, 76, 77, 80, 81, 89, 90, 93, 94, 97, 98, 105, 106, 107, 110, 111, 114, 115, 122, 123, 126, 127, 130, 131, 134, 135]⟩)]
def ref02_Right_k1 (bits : Int) (words : Int) (many : Int) (t22 : Bool) (a : ZoB1q0) : St := { fr := [(1, .pb 0 0), (3, .d (.int .i64) bits), (4, .d (.int .i64) words), (5, .d (.int .i64) many), (22, .d .bool t22)], nt := 137, up := [], own := [(0, .box 27 [.d (.int .u8) a.1, .d (.int .u16) a.2.1, .d (.int .u16) a.2.2.1, .d (.int .u16) a.2.2.2.1, .d (.sl (.int .u16)) a.2.2.2.2.1, .d (.sl .bool) a.2.2.2.2.2])], nx := 1, log := [], ln := 0 }
def ref02_Right_k2 (bits : Int) (words : Int) (many : Int) (t24 : Int) (t25 : Bool) : St := { fr := [(3, .d (.int .i64) bits), (4, .d (.int .i64) words), (5, .d (.int .i64) many), (24, .d (.int .u8) t24), (25, .d .bool t25)], nt := 137, up := [], own := [], nx := 0, log := [], ln := 0 }
def ref02_Right_k3 (bits : Int) (words : Int) (many : Int) (t24 : Int) (t42 : Bool) : St := { fr := [(3, .d (.int .i64) bits), (4, .d (.int .i64) words), (5, .d (.int .i64) many), (24, .d (.int .u8) t24), (42, .d .bool t42)], nt := 137, up := [], own := [], nx := 0, log := [], ln := 0 }
def ref02_Right_m1 (j2 : Int → Int → Int → Int → Bool → Option (As [.bool])) (bits : Int) (words : Int) (many : Int) (t22 : Bool) (a : ZoB1q0) : Option (As [.bool]) :=
  if t22 = true then some (false, ()) else if eqi a.1 1 = true then j2 bits words many a.1 true else j2 bits words many a.1 (eqi a.1 2)
def ref02_Right_m2 (j3 : Int → Int → Int → Int → Bool → Option (As [.bool])) (bits : Int) (words : Int) (many : Int) (t24 : Int) (t25 : Bool) : Option (As [.bool]) :=
  if t25 = true then if eqi bits 0 = true then if eqi words 0 = true then if ge many 1 = true then some (le many 2000, ()) else some (false, ()) else some (false, ()) else some (false, ()) else if eqi t24 3 = true then j3 bits words many t24 true else j3 bits words many t24 (eqi t24 4)
def ref02_Right_m3 (bits : Int) (words : Int) (many : Int) (t24 : Int) (t42 : Bool) : Option (As [.bool]) :=
  if t42 = true then if eqi bits 0 = true then if eqi words 0 = true then if ge many 1 = true then some (le many 125, ()) else some (false, ()) else some (false, ()) else some (false, ()) else if eqi t24 5 = true then if eqi bits 1 = true then if eqi words 0 = true then some (eqi many 0, ()) else some (false, ()) else some (false, ()) else if eqi t24 6 = true then if eqi bits 0 = true then if eqi words 1 = true then some (eqi many 0, ()) else some (false, ()) else some (false, ()) else if eqi t24 15 = true then if eqi bits many = true then if eqi words 0 = true then if ge many 1 = true then some (le many 1968, ()) else some (false, ()) else some (false, ()) else some (false, ()) else if eqi t24 16 = true then if eqi bits 0 = true then if eqi words many = true then if ge many 1 = true then some (le many 123, ()) else some (false, ()) else some (false, ()) else some (false, ()) else if eqi t24 23 = true then if eqi bits 0 = true then if ge words 1 = true then if le words 121 = true then if ge many 1 = true then some (le many 125, ()) else some (false, ()) else some (false, ()) else some (false, ()) else some (false, ()) else some (false, ())
def ref02_Right_m0 (j1 : Int → Int → Int → Bool → ZoB1q0 → Option (As [.bool])) (a : ZoB1q0) : Option (As [.bool]) :=
  if nei a.1 23 = true then j1 (Int.ofNat (List.length a.2.2.2.2.2)) (Int.ofNat (List.length a.2.2.2.2.1)) (cvt .i64 a.2.2.1) (nei a.2.2.2.1 0) a else j1 (Int.ofNat (List.length a.2.2.2.2.2)) (Int.ofNat (List.length a.2.2.2.2.1)) (cvt .i64 a.2.2.1) false a
def ref02_Right_K3 (bits : Int) (words : Int) (many : Int) (t24 : Int) (t42 : Bool) : Option (As [.bool]) := ref02_Right_m3 bits words many t24 t42
def ref02_Right_K2 (bits : Int) (words : Int) (many : Int) (t24 : Int) (t25 : Bool) : Option (As [.bool]) := ref02_Right_m2 (ref02_Right_K3) bits words many t24 t25
def ref02_Right_K1 (bits : Int) (words : Int) (many : Int) (t22 : Bool) (a : ZoB1q0) : Option (As [.bool]) := ref02_Right_m1 (ref02_Right_K2) bits words many t22 a
def ref02_Right (x : As [.pr (.int .u8) LBT2]) : Option (As [.bool]) := ref02_Right_m0 ref02_Right_K1 x.1
theorem ref02_Right_c3 (J : Orc (As [.bool])) (bits : Int) (words : Int) (many : Int) (t24 : Int) (t42 : Bool) : pfn Tryz.prog ref02_Right_e 6 18446744073709551616 (Ev.get ref02_Right_h) 80 ref02_Right_s J 491 [] (ref02_Right_k3 bits words many t24 t42) = ref02_Right_m3 bits words many t24 t42 := by kernel_rfl
theorem ref02_Right_c2 (J : Orc (As [.bool])) (bits : Int) (words : Int) (many : Int) (t24 : Int) (t25 : Bool) : pfn Tryz.prog ref02_Right_e 6 18446744073709551616 (Ev.get ref02_Right_h) 80 ref02_Right_s J 122 [] (ref02_Right_k2 bits words many t24 t25) = ref02_Right_m2 (fun bits words many t24 t42 => J 491 [] (ref02_Right_k3 bits words many t24 t42)) bits words many t24 t25 := by kernel_rfl
theorem ref02_Right_c1 (J : Orc (As [.bool])) (bits : Int) (words : Int) (many : Int) (t22 : Bool) (a : ZoB1q0) : pfn Tryz.prog ref02_Right_e 6 18446744073709551616 (Ev.get ref02_Right_h) 80 ref02_Right_s J 14 [] (ref02_Right_k1 bits words many t22 a) = ref02_Right_m1 (fun bits words many t24 t25 => J 122 [] (ref02_Right_k2 bits words many t24 t25)) bits words many t22 a := by kernel_rfl
theorem ref02_Right_c0 (J : Orc (As [.bool])) (x : As [.pr (.int .u8) LBT2]) : rfn Tryz.prog ref02_Right_e 6 18446744073709551616 (Ev.get ref02_Right_h) 80 ref02_Right_s J x = ref02_Right_m0 (fun bits words many t22 a => J 14 [] (ref02_Right_k1 bits words many t22 a)) x.1 := by kernel_rfl
theorem ref02_Right_g3 (bits : Int) (words : Int) (many : Int) (t24 : Int) (t42 : Bool) : jfn Tryz.prog ref02_Right_e 6 18446744073709551616 (Ev.get ref02_Right_h) 80 ref02_Right_s 491 [] (ref02_Right_k3 bits words many t24 t42) = ref02_Right_K3 bits words many t24 t42 := by
  rw [pfn_eq (by decide)]
  rw [ref02_Right_c3]
  rfl
theorem ref02_Right_g2 (bits : Int) (words : Int) (many : Int) (t24 : Int) (t25 : Bool) : jfn Tryz.prog ref02_Right_e 6 18446744073709551616 (Ev.get ref02_Right_h) 80 ref02_Right_s 122 [] (ref02_Right_k2 bits words many t24 t25) = ref02_Right_K2 bits words many t24 t25 := by
  rw [pfn_eq (by decide)]
  have e3 : (fun bits words many t24 t42 => (jfn Tryz.prog ref02_Right_e 6 18446744073709551616 (Ev.get ref02_Right_h) 80 ref02_Right_s) 491 [] (ref02_Right_k3 bits words many t24 t42)) = ref02_Right_K3 := funext fun bits => funext fun words => funext fun many => funext fun t24 => funext fun t42 => ref02_Right_g3 bits words many t24 t42
  rw [ref02_Right_c2, e3]
  rfl
theorem ref02_Right_g1 (bits : Int) (words : Int) (many : Int) (t22 : Bool) (a : ZoB1q0) : jfn Tryz.prog ref02_Right_e 6 18446744073709551616 (Ev.get ref02_Right_h) 80 ref02_Right_s 14 [] (ref02_Right_k1 bits words many t22 a) = ref02_Right_K1 bits words many t22 a := by
  rw [pfn_eq (by decide)]
  have e2 : (fun bits words many t24 t25 => (jfn Tryz.prog ref02_Right_e 6 18446744073709551616 (Ev.get ref02_Right_h) 80 ref02_Right_s) 122 [] (ref02_Right_k2 bits words many t24 t25)) = ref02_Right_K2 := funext fun bits => funext fun words => funext fun many => funext fun t24 => funext fun t25 => ref02_Right_g2 bits words many t24 t25
  rw [ref02_Right_c1, e2]
  rfl
theorem ref02_Right_t (x : As [.pr (.int .u8) LBT2]) : evT Tryz.prog ref02_Right_e 6 18446744073709551616 (Ev.get ref02_Right_h) 80 ref02_Right_s x = ref02_Right x := by
  have e1 : (fun bits words many t22 a => (jfn Tryz.prog ref02_Right_e 6 18446744073709551616 (Ev.get ref02_Right_h) 80 ref02_Right_s) 14 [] (ref02_Right_k1 bits words many t22 a)) = ref02_Right_K1 := funext fun bits => funext fun words => funext fun many => funext fun t22 => funext fun a => ref02_Right_g1 bits words many t22 a
  rw [rfn_eq, ref02_Right_c0, e1]
  rfl
theorem ref02_Right_ok : CtOk Tryz.prog (fun _ => True) 80 ⟨ref02_Right_s, ref02_Right⟩ := ct_of_ev env_nil ref02_Right_t
/-! ref02_Same -/
@[reducible] def ref02_Same_s : Sh := ⟨[.d (.pr (.int .u8) LBT2), .d (.pr (.int .u8) LBT2)], [], [.pr (.int .u8) LBT2, .pr (.int .u8) LBT2], [.d (.bool)], [], 0, [.bool]⟩
def ref02_Same_e : Env := (cts [])
def ref02_Same_h : List (Nat × Hint) := [(7, ⟨[], [2, 3]⟩), (122, ⟨[], [2, 3, 6]⟩), (58, ⟨[], [2, 3, 5]⟩), (6, ⟨[], [2, 3, 50]⟩)]
def ref02_Same_k1 (t50 : Bool) (a : ZoB1q0) (b : ZoB1q0) : St := { fr := [(2, .pb 0 0), (3, .pb 1 0), (50, .d .bool t50)], nt := 87, up := [], own := [(0, .box 27 [.d (.int .u8) a.1, .d (.int .u16) a.2.1, .d (.int .u16) a.2.2.1, .d (.int .u16) a.2.2.2.1, .d (.sl (.int .u16)) a.2.2.2.2.1, .d (.sl .bool) a.2.2.2.2.2]), (1, .box 27 [.d (.int .u8) b.1, .d (.int .u16) b.2.1, .d (.int .u16) b.2.2.1, .d (.int .u16) b.2.2.2.1, .d (.sl (.int .u16)) b.2.2.2.2.1, .d (.sl .bool) b.2.2.2.2.2])], nx := 2, log := [], ln := 0 }
def ref02_Same_k2 (i : Int) (a : ZoB1q0) (b : ZoB1q0) : St := { fr := [(2, .pb 0 0), (3, .pb 1 0), (5, .d (.int .i64) i)], nt := 87, up := [], own := [(0, .box 27 [.d (.int .u8) a.1, .d (.int .u16) a.2.1, .d (.int .u16) a.2.2.1, .d (.int .u16) a.2.2.2.1, .d (.sl (.int .u16)) a.2.2.2.2.1, .d (.sl .bool) a.2.2.2.2.2]), (1, .box 27 [.d (.int .u8) b.1, .d (.int .u16) b.2.1, .d (.int .u16) b.2.2.1, .d (.int .u16) b.2.2.2.1, .d (.sl (.int .u16)) b.2.2.2.2.1, .d (.sl .bool) b.2.2.2.2.2])], nx := 2, log := [], ln := 0 }
def ref02_Same_k3 (a : ZoB1q0) (b : ZoB1q0) : St := { fr := [(2, .pb 0 0), (3, .pb 1 0)], nt := 87, up := [], own := [(0, .box 27 [.d (.int .u8) a.1, .d (.int .u16) a.2.1, .d (.int .u16) a.2.2.1, .d (.int .u16) a.2.2.2.1, .d (.sl (.int .u16)) a.2.2.2.2.1, .d (.sl .bool) a.2.2.2.2.2]), (1, .box 27 [.d (.int .u8) b.1, .d (.int .u16) b.2.1, .d (.int .u16) b.2.2.1, .d (.int .u16) b.2.2.2.1, .d (.sl (.int .u16)) b.2.2.2.2.1, .d (.sl .bool) b.2.2.2.2.2])], nx := 2, log := [], ln := 0 }
def ref02_Same_k4 (i : Int) (a : ZoB1q0) (b : ZoB1q0) : St := { fr := [(2, .pb 0 0), (3, .pb 1 0), (6, .d (.int .i64) i)], nt := 87, up := [], own := [(0, .box 27 [.d (.int .u8) a.1, .d (.int .u16) a.2.1, .d (.int .u16) a.2.2.1, .d (.int .u16) a.2.2.2.1, .d (.sl (.int .u16)) a.2.2.2.2.1, .d (.sl .bool) a.2.2.2.2.2]), (1, .box 27 [.d (.int .u8) b.1, .d (.int .u16) b.2.1, .d (.int .u16) b.2.2.1, .d (.int .u16) b.2.2.2.1, .d (.sl (.int .u16)) b.2.2.2.2.1, .d (.sl .bool) b.2.2.2.2.2])], nx := 2, log := [], ln := 0 }
def ref02_Same_m1 (j2 : Int → ZoB1q0 → ZoB1q0 → Option (As [.bool])) (t50 : Bool) (a : ZoB1q0) (b : ZoB1q0) : Option (As [.bool]) :=
  if t50 = true then some (false, ()) else j2 0 a b
def ref02_Same_m2 (j3 : ZoB1q0 → ZoB1q0 → Option (As [.bool])) (self2 : Int → ZoB1q0 → ZoB1q0 → Option (As [.bool])) (i : Int) (a : ZoB1q0) (b : ZoB1q0) : Option (As [.bool]) :=
  if lt i (Int.ofNat (List.length a.2.2.2.2.1)) = true then Option.bind (at? a.2.2.2.2.1 i) fun (y : Int) => Option.bind (at? b.2.2.2.2.1 i) fun (y_1 : Int) => if nei y y_1 = true then some (false, ()) else self2 (add .i64 i 1) a b else j3 a b
def ref02_Same_m3 (j4 : Int → ZoB1q0 → ZoB1q0 → Option (As [.bool])) (a : ZoB1q0) (b : ZoB1q0) : Option (As [.bool]) :=
  j4 0 a b
def ref02_Same_m4 (self4 : Int → ZoB1q0 → ZoB1q0 → Option (As [.bool])) (i : Int) (a : ZoB1q0) (b : ZoB1q0) : Option (As [.bool]) :=
  if lt i (Int.ofNat (List.length a.2.2.2.2.2)) = true then Option.bind (at? a.2.2.2.2.2 i) fun (y : Bool) => Option.bind (at? b.2.2.2.2.2 i) fun (y_1 : Bool) => if Sx.neb y y_1 = true then some (false, ()) else self4 (add .i64 i 1) a b else some (true, ())
def ref02_Same_m0 (j1 : Bool → ZoB1q0 → ZoB1q0 → Option (As [.bool])) (a : ZoB1q0) (b : ZoB1q0) : Option (As [.bool]) :=
  if nei a.1 b.1 = true then j1 true a b else if nei a.2.1 b.2.1 = true then j1 true a b else if nei a.2.2.1 b.2.2.1 = true then j1 true a b else if nei a.2.2.2.1 b.2.2.2.1 = true then j1 true a b else if nei (Int.ofNat (List.length a.2.2.2.2.1)) (Int.ofNat (List.length b.2.2.2.2.1)) = true then j1 true a b else j1 (nei (Int.ofNat (List.length a.2.2.2.2.2)) (Int.ofNat (List.length b.2.2.2.2.2))) a b
def ref02_Same_K4 (i : Int) (a : ZoB1q0) (b : ZoB1q0) : Option (As [.bool]) :=
  loopF (fun (self : (Int) × LBT3 × LBT3 → Option (As [.bool])) (s : (Int) × LBT3 × LBT3) => ref02_Same_m4 (fun i a b => self (i, a, b)) s.1 s.2.1 s.2.2) 18446744073709551616 (i, a, b)
def ref02_Same_K3 (a : ZoB1q0) (b : ZoB1q0) : Option (As [.bool]) := ref02_Same_m3 (ref02_Same_K4) a b
def ref02_Same_K2 (i : Int) (a : ZoB1q0) (b : ZoB1q0) : Option (As [.bool]) :=
  loopF (fun (self : (Int) × LBT3 × LBT3 → Option (As [.bool])) (s : (Int) × LBT3 × LBT3) => ref02_Same_m2 (ref02_Same_K3) (fun i a b => self (i, a, b)) s.1 s.2.1 s.2.2) 18446744073709551616 (i, a, b)
def ref02_Same_K1 (t50 : Bool) (a : ZoB1q0) (b : ZoB1q0) : Option (As [.bool]) := ref02_Same_m1 (ref02_Same_K2) t50 a b
def ref02_Same (x : As [.pr (.int .u8) LBT2, .pr (.int .u8) LBT2]) : Option (As [.bool]) := ref02_Same_m0 ref02_Same_K1 x.1 x.2.1
theorem ref02_Same_c4 (J : Orc (As [.bool])) (w4 : St → Option (As [.bool])) (i : Int) (a : ZoB1q0) (b : ZoB1q0) : pfn Tryz.prog ref02_Same_e 6 18446744073709551616 (Ev.get ref02_Same_h) 81 ref02_Same_s J 122 [w4] (ref02_Same_k4 i a b) = ref02_Same_m4 (fun i a b => w4 (ref02_Same_k4 i a b)) i a b := by kernel_rfl
theorem ref02_Same_c3 (J : Orc (As [.bool])) (a : ZoB1q0) (b : ZoB1q0) : pfn Tryz.prog ref02_Same_e 6 18446744073709551616 (Ev.get ref02_Same_h) 81 ref02_Same_s J 7 [] (ref02_Same_k3 a b) = ref02_Same_m3 (fun i a b => J 122 [] (ref02_Same_k4 i a b)) a b := by kernel_rfl
theorem ref02_Same_c2 (J : Orc (As [.bool])) (w2 : St → Option (As [.bool])) (i : Int) (a : ZoB1q0) (b : ZoB1q0) : pfn Tryz.prog ref02_Same_e 6 18446744073709551616 (Ev.get ref02_Same_h) 81 ref02_Same_s J 58 [w2] (ref02_Same_k2 i a b) = ref02_Same_m2 (fun a b => J 7 [] (ref02_Same_k3 a b)) (fun i a b => w2 (ref02_Same_k2 i a b)) i a b := by kernel_rfl
theorem ref02_Same_c1 (J : Orc (As [.bool])) (t50 : Bool) (a : ZoB1q0) (b : ZoB1q0) : pfn Tryz.prog ref02_Same_e 6 18446744073709551616 (Ev.get ref02_Same_h) 81 ref02_Same_s J 6 [] (ref02_Same_k1 t50 a b) = ref02_Same_m1 (fun i a b => J 58 [] (ref02_Same_k2 i a b)) t50 a b := by kernel_rfl
theorem ref02_Same_c0 (J : Orc (As [.bool])) (x : As [.pr (.int .u8) LBT2, .pr (.int .u8) LBT2]) : rfn Tryz.prog ref02_Same_e 6 18446744073709551616 (Ev.get ref02_Same_h) 81 ref02_Same_s J x = ref02_Same_m0 (fun t50 a b => J 6 [] (ref02_Same_k1 t50 a b)) x.1 x.2.1 := by kernel_rfl
theorem ref02_Same_g4 (i : Int) (a : ZoB1q0) (b : ZoB1q0) : jfn Tryz.prog ref02_Same_e 6 18446744073709551616 (Ev.get ref02_Same_h) 81 ref02_Same_s 122 [] (ref02_Same_k4 i a b) = ref02_Same_K4 i a b := by
  rw [pfn_eq (by decide)]
  rw [pfn_loop (by kernel_rfl)]
  refine loopF_sim (σ := (Int) × LBT3 × LBT3) (mk := fun s => ref02_Same_k4 s.1 s.2.1 s.2.2) (fun w4 s => ?_) 18446744073709551616 (i, a, b)
  refine (ref02_Same_c4 _ w4 s.1 s.2.1 s.2.2).trans ?_
  rfl
theorem ref02_Same_g3 (a : ZoB1q0) (b : ZoB1q0) : jfn Tryz.prog ref02_Same_e 6 18446744073709551616 (Ev.get ref02_Same_h) 81 ref02_Same_s 7 [] (ref02_Same_k3 a b) = ref02_Same_K3 a b := by
  rw [pfn_eq (by decide)]
  have e4 : (fun i a b => (jfn Tryz.prog ref02_Same_e 6 18446744073709551616 (Ev.get ref02_Same_h) 81 ref02_Same_s) 122 [] (ref02_Same_k4 i a b)) = ref02_Same_K4 := funext fun i => funext fun a => funext fun b => ref02_Same_g4 i a b
  rw [ref02_Same_c3, e4]
  rfl
theorem ref02_Same_g2 (i : Int) (a : ZoB1q0) (b : ZoB1q0) : jfn Tryz.prog ref02_Same_e 6 18446744073709551616 (Ev.get ref02_Same_h) 81 ref02_Same_s 58 [] (ref02_Same_k2 i a b) = ref02_Same_K2 i a b := by
  rw [pfn_eq (by decide)]
  rw [pfn_loop (by kernel_rfl)]
  refine loopF_sim (σ := (Int) × LBT3 × LBT3) (mk := fun s => ref02_Same_k2 s.1 s.2.1 s.2.2) (fun w2 s => ?_) 18446744073709551616 (i, a, b)
  have e3 : (fun a b => (jfn Tryz.prog ref02_Same_e 6 18446744073709551616 (Ev.get ref02_Same_h) 81 ref02_Same_s) 7 [] (ref02_Same_k3 a b)) = ref02_Same_K3 := funext fun a => funext fun b => ref02_Same_g3 a b
  refine (ref02_Same_c2 _ w2 s.1 s.2.1 s.2.2).trans ?_
  rw [e3]
theorem ref02_Same_g1 (t50 : Bool) (a : ZoB1q0) (b : ZoB1q0) : jfn Tryz.prog ref02_Same_e 6 18446744073709551616 (Ev.get ref02_Same_h) 81 ref02_Same_s 6 [] (ref02_Same_k1 t50 a b) = ref02_Same_K1 t50 a b := by
  rw [pfn_eq (by decide)]
  have e2 : (fun i a b => (jfn Tryz.prog ref02_Same_e 6 18446744073709551616 (Ev.get ref02_Same_h) 81 ref02_Same_s) 58 [] (ref02_Same_k2 i a b)) = ref02_Same_K2 := funext fun i => funext fun a => funext fun b => ref02_Same_g2 i a b
  rw [ref02_Same_c1, e2]
  rfl
theorem ref02_Same_t (x : As [.pr (.int .u8) LBT2, .pr (.int .u8) LBT2]) : evT Tryz.prog ref02_Same_e 6 18446744073709551616 (Ev.get ref02_Same_h) 81 ref02_Same_s x = ref02_Same x := by
  have e1 : (fun t50 a b => (jfn Tryz.prog ref02_Same_e 6 18446744073709551616 (Ev.get ref02_Same_h) 81 ref02_Same_s) 6 [] (ref02_Same_k1 t50 a b)) = ref02_Same_K1 := funext fun t50 => funext fun a => funext fun b => ref02_Same_g1 t50 a b
  rw [rfn_eq, ref02_Same_c0, e1]
  rfl
theorem ref02_Same_ok : CtOk Tryz.prog (fun _ => True) 81 ⟨ref02_Same_s, ref02_Same⟩ := ct_of_ev env_nil ref02_Same_t
/-! ref22_Right -/
@[reducible] def ref22_Right_s : Sh := ⟨[.d (.pr (.int .u8) LBT0)], [], [.pr (.int .u8) LBT0], [.d (.bool)], [], 0, [.bool]⟩
def ref22_Right_e : Env := (cts [(77, (⟨ref22_may_s, ref22_may⟩ : Ct)), (80, (⟨ref02_Right_s, ref02_Right⟩ : Ct)), (81, (⟨ref02_Same_s, ref02_Same⟩ : Ct))])
def ref22_Right_h : List (Nat × Hint) := []
def ref22_Right_m0 (p : ZoB1q2) : Option (As [.bool]) :=
  Option.bind (ref22_may (p.1, p.2.1, p.2.2.1, p.2.2.2.1, ())) fun (y : Bool × Unit) => if (!y.1) = true then some (false, ()) else if p.2.2.2.2.1 = true then Option.bind (ref02_Right (p.2.2.2.2.2.1, ())) fun (y : Bool × Unit) => if y.1 = true then if ge p.2.2.2.2.2.2.2.1 1 = true then if le p.2.2.2.2.2.2.2.1 p.2.2.1 = true then if ge p.2.2.2.2.2.2.2.2 0 = true then some (le p.2.2.2.2.2.2.2.2 p.2.2.2.1, ()) else some (false, ()) else some (false, ()) else some (false, ()) else some (false, ()) else Option.bind (ref02_Same (p.2.2.2.2.2.1, (0, 0, 0, 0, [], []), ())) fun (y : Bool × Unit) => if y.1 = true then if eqi p.2.2.2.2.2.2.2.1 0 = true then some (eqi p.2.2.2.2.2.2.2.2 0, ()) else some (false, ()) else some (false, ())
def ref22_Right (x : As [.pr (.int .u8) LBT0]) : Option (As [.bool]) := ref22_Right_m0 x.1
theorem ref22_Right_c0 (J : Orc (As [.bool])) (x : As [.pr (.int .u8) LBT0]) : rfn Tryz.prog ref22_Right_e 6 18446744073709551616 (Ev.get ref22_Right_h) 16 ref22_Right_s J x = ref22_Right_m0 x.1 := by kernel_rfl
theorem ref22_Right_t (x : As [.pr (.int .u8) LBT0]) : evT Tryz.prog ref22_Right_e 6 18446744073709551616 (Ev.get ref22_Right_h) 16 ref22_Right_s x = ref22_Right x := by
  rw [rfn_eq, ref22_Right_c0]
  rfl
theorem ref22_Right_ok : CtOk Tryz.prog (fun _ => True) 16 ⟨ref22_Right_s, ref22_Right⟩ := ct_of_ev (env_cons ref22_may_ok (env_cons ref02_Right_ok (env_cons ref02_Same_ok env_nil))) ref22_Right_t
/-! ref22_Same -/
@[reducible] def ref22_Same_s : Sh := ⟨[.d (.pr (.int .u8) LBT0), .d (.pr (.int .u8) LBT0)], [], [.pr (.int .u8) LBT0, .pr (.int .u8) LBT0], [.d (.bool)], [], 0, [.bool]⟩
def ref22_Same_e : Env := (cts [(81, (⟨ref02_Same_s, ref02_Same⟩ : Ct))])
def ref22_Same_h : List (Nat × Hint) := [(6, ⟨[], [2, 3, 30, 37, 38, 39, 40, 41, 44, 45, 46, 47, 48, 51, 52, 53, 54, 55, 58, 59, 60, 61, 62]⟩)]
def ref22_Same_k1 (t30 : Bool) (a : ZoB1q2) (b : ZoB1q2) : St := { fr := [(2, .pb 0 0), (3, .pb 1 0), (30, .d .bool t30)], nt := 64, up := [], own := [(0, .box 29 [.d (.int .u8) a.1, .d (.int .u8) a.2.1, .d (.int .i64) a.2.2.1, .d (.int .i64) a.2.2.2.1, .d .bool a.2.2.2.2.1, .d (.int .u8) a.2.2.2.2.2.1.1, .d (.int .u16) a.2.2.2.2.2.1.2.1, .d (.int .u16) a.2.2.2.2.2.1.2.2.1, .d (.int .u16) a.2.2.2.2.2.1.2.2.2.1, .d (.sl (.int .u16)) a.2.2.2.2.2.1.2.2.2.2.1, .d (.sl .bool) a.2.2.2.2.2.1.2.2.2.2.2, .d (.int .u16) a.2.2.2.2.2.2.1, .d (.int .i64) a.2.2.2.2.2.2.2.1, .d (.int .i64) a.2.2.2.2.2.2.2.2]), (1, .box 29 [.d (.int .u8) b.1, .d (.int .u8) b.2.1, .d (.int .i64) b.2.2.1, .d (.int .i64) b.2.2.2.1, .d .bool b.2.2.2.2.1, .d (.int .u8) b.2.2.2.2.2.1.1, .d (.int .u16) b.2.2.2.2.2.1.2.1, .d (.int .u16) b.2.2.2.2.2.1.2.2.1, .d (.int .u16) b.2.2.2.2.2.1.2.2.2.1, .d (.sl (.int .u16)) b.2.2.2.2.2.1.2.2.2.2.1, .d (.sl .bool) b.2.2.2.2.2.1.2.2.2.2.2, .d (.int .u16) b.2.2.2.2.2.2.1, .d (.int .i64) b.2.2.2.2.2.2.2.1, .d (.int .i64) b.2.2.2.2.2.2.2.2])], nx := 2, log := [], ln := 0 }
def ref22_Same_m1 (t30 : Bool) (a : ZoB1q2) (b : ZoB1q2) : Option (As [.bool]) :=
  if t30 = true then some (false, ()) else if Sx.eqb a.2.2.2.2.1 b.2.2.2.2.1 = true then if eqi a.2.2.2.2.2.2.1 b.2.2.2.2.2.2.1 = true then if eqi a.2.2.2.2.2.2.2.1 b.2.2.2.2.2.2.2.1 = true then if eqi a.2.2.2.2.2.2.2.2 b.2.2.2.2.2.2.2.2 = true then Option.bind (ref02_Same (a.2.2.2.2.2.1, b.2.2.2.2.2.1, ())) fun (y : Bool × Unit) => some (y.1, ()) else some (false, ()) else some (false, ()) else some (false, ()) else some (false, ())
def ref22_Same_m0 (j1 : Bool → ZoB1q2 → ZoB1q2 → Option (As [.bool])) (a : ZoB1q2) (b : ZoB1q2) : Option (As [.bool]) :=
  if nei a.1 b.1 = true then j1 true a b else if nei a.2.1 b.2.1 = true then j1 true a b else if nei a.2.2.1 b.2.2.1 = true then j1 true a b else j1 (nei a.2.2.2.1 b.2.2.2.1) a b
def ref22_Same_K1 (t30 : Bool) (a : ZoB1q2) (b : ZoB1q2) : Option (As [.bool]) := ref22_Same_m1 t30 a b
def ref22_Same (x : As [.pr (.int .u8) LBT0, .pr (.int .u8) LBT0]) : Option (As [.bool]) := ref22_Same_m0 ref22_Same_K1 x.1 x.2.1
theorem ref22_Same_c1 (J : Orc (As [.bool])) (t30 : Bool) (a : ZoB1q2) (b : ZoB1q2) : pfn Tryz.prog ref22_Same_e 6 18446744073709551616 (Ev.get ref22_Same_h) 18 ref22_Same_s J 6 [] (ref22_Same_k1 t30 a b) = ref22_Same_m1 t30 a b := by kernel_rfl
theorem ref22_Same_c0 (J : Orc (As [.bool])) (x : As [.pr (.int .u8) LBT0, .pr (.int .u8) LBT0]) : rfn Tryz.prog ref22_Same_e 6 18446744073709551616 (Ev.get ref22_Same_h) 18 ref22_Same_s J x = ref22_Same_m0 (fun t30 a b => J 6 [] (ref22_Same_k1 t30 a b)) x.1 x.2.1 := by kernel_rfl
theorem ref22_Same_g1 (t30 : Bool) (a : ZoB1q2) (b : ZoB1q2) : jfn Tryz.prog ref22_Same_e 6 18446744073709551616 (Ev.get ref22_Same_h) 18 ref22_Same_s 6 [] (ref22_Same_k1 t30 a b) = ref22_Same_K1 t30 a b := by
  rw [pfn_eq (by decide)]
  rw [ref22_Same_c1]
  rfl
theorem ref22_Same_t (x : As [.pr (.int .u8) LBT0, .pr (.int .u8) LBT0]) : evT Tryz.prog ref22_Same_e 6 18446744073709551616 (Ev.get ref22_Same_h) 18 ref22_Same_s x = ref22_Same x := by
  have e1 : (fun t30 a b => (jfn Tryz.prog ref22_Same_e 6 18446744073709551616 (Ev.get ref22_Same_h) 18 ref22_Same_s) 6 [] (ref22_Same_k1 t30 a b)) = ref22_Same_K1 := funext fun t30 => funext fun a => funext fun b => ref22_Same_g1 t30 a b
  rw [rfn_eq, ref22_Same_c0, e1]
  rfl
theorem ref22_Same_ok : CtOk Tryz.prog (fun _ => True) 18 ⟨ref22_Same_s, ref22_Same⟩ := ct_of_ev (env_cons ref02_Same_ok env_nil) ref22_Same_t
/-! ref22_Copy -/
@[reducible] def ref22_Copy_s : Sh := ⟨[.d (.pr (.int .u8) LBT0)], [], [.pr (.int .u8) LBT0], [.d (.pr (.int .u8) LBT0)], [], 0, [.pr (.int .u8) LBT0]⟩
def ref22_Copy_e : Env := (cts [])
def ref22_Copy_h : List (Nat × Hint) := []
def ref22_Copy_m0 (p : ZoB1q2) : Option (As [.pr (.int .u8) LBT0]) :=
  need (small (0 + List.length p.2.2.2.2.2.1.2.2.2.2.1)) (need (small (0 + List.length p.2.2.2.2.2.1.2.2.2.2.2)) (some ((p.1, p.2.1, p.2.2.1, p.2.2.2.1, p.2.2.2.2.1, (p.2.2.2.2.2.1.1, p.2.2.2.2.2.1.2.1, p.2.2.2.2.2.1.2.2.1, p.2.2.2.2.2.1.2.2.2.1, [] ++ p.2.2.2.2.2.1.2.2.2.2.1, [] ++ p.2.2.2.2.2.1.2.2.2.2.2), p.2.2.2.2.2.2), ())))
def ref22_Copy (x : As [.pr (.int .u8) LBT0]) : Option (As [.pr (.int .u8) LBT0]) := ref22_Copy_m0 x.1
theorem ref22_Copy_c0 (J : Orc (As [.pr (.int .u8) LBT0])) (x : As [.pr (.int .u8) LBT0]) : rfn Tryz.prog ref22_Copy_e 6 18446744073709551616 (Ev.get ref22_Copy_h) 19 ref22_Copy_s J x = ref22_Copy_m0 x.1 := by kernel_rfl
theorem ref22_Copy_t (x : As [.pr (.int .u8) LBT0]) : evT Tryz.prog ref22_Copy_e 6 18446744073709551616 (Ev.get ref22_Copy_h) 19 ref22_Copy_s x = ref22_Copy x := by
  rw [rfn_eq, ref22_Copy_c0]
  rfl
theorem ref22_Copy_ok : CtOk Tryz.prog (fun _ => True) 19 ⟨ref22_Copy_s, ref22_Copy⟩ := ct_of_ev env_nil ref22_Copy_t
/-! ref05_Pack -/
@[reducible] def ref05_Pack_s : Sh := ⟨[.d (.pr (.int .u16) LBT5)], [], [.pr (.int .u16) LBT5], [.d (.sl (.int .u8))], [], 0, [.sl (.int .u8)]⟩
def ref05_Pack_e : Env := (cts [])
def ref05_Pack_h : List (Nat × Hint) := [(122, ⟨[], [1, 4, 5]⟩)]
def ref05_Pack_k1 (i : Int) (x : Int × Int × List Int) (out : List Int) : St := { fr := [(1, .pb 0 0), (4, .row 1), (5, .d (.int .i64) i)], nt := 43, up := [], own := [(0, .box 143 [.d (.int .u16) x.1, .d (.int .u8) x.2.1, .d (.sl (.int .u8)) x.2.2]), (1, .row (.int .u8) 5 out)], nx := 2, log := [], ln := 0 }
def ref05_Pack_m1 (self1 : Int → Int × Int × List Int → List Int → Option (As [.sl (.int .u8)])) (i : Int) (x : Int × Int × List Int) (out : List Int) : Option (As [.sl (.int .u8)]) :=
  if lt i (Int.ofNat (List.length x.2.2)) = true then Option.bind (at? x.2.2 i) fun (y : Int) => need (small (List.length out + 1)) (self1 (add .i64 i 1) x (out ++ [y])) else some (out, ())
def ref05_Pack_m0 (j1 : Int → Int × Int × List Int → List Int → Option (As [.sl (.int .u8)])) (x : Int × Int × List Int) : Option (As [.sl (.int .u8)]) :=
  j1 0 x [cvt .u8 (quo .u16 x.1 256), cvt .u8 (rem x.1 256), 0, 0, cvt .u8 (quo .i64 (add .i64 (Int.ofNat (List.length x.2.2)) 1) 256), cvt .u8 (rem (add .i64 (Int.ofNat (List.length x.2.2)) 1) 256), x.2.1]
def ref05_Pack_K1 (i : Int) (x : Int × Int × List Int) (out : List Int) : Option (As [.sl (.int .u8)]) :=
  loopF (fun (self : (Int) × (Int × Int × List Int) × (List Int) → Option (As [.sl (.int .u8)])) (s : (Int) × (Int × Int × List Int) × (List Int)) => ref05_Pack_m1 (fun i x out => self (i, x, out)) s.1 s.2.1 s.2.2) 18446744073709551616 (i, x, out)
def ref05_Pack (x : As [.pr (.int .u16) LBT5]) : Option (As [.sl (.int .u8)]) := ref05_Pack_m0 ref05_Pack_K1 x.1
theorem ref05_Pack_c1 (J : Orc (As [.sl (.int .u8)])) (w1 : St → Option (As [.sl (.int .u8)])) (i : Int) (x : Int × Int × List Int) (out : List Int) : pfn Tryz.prog ref05_Pack_e 6 18446744073709551616 (Ev.get ref05_Pack_h) 138 ref05_Pack_s J 122 [w1] (ref05_Pack_k1 i x out) = ref05_Pack_m1 (fun i x out => w1 (ref05_Pack_k1 i x out)) i x out := by kernel_rfl
theorem ref05_Pack_c0 (J : Orc (As [.sl (.int .u8)])) (x : As [.pr (.int .u16) LBT5]) : rfn Tryz.prog ref05_Pack_e 6 18446744073709551616 (Ev.get ref05_Pack_h) 138 ref05_Pack_s J x = ref05_Pack_m0 (fun i x out => J 122 [] (ref05_Pack_k1 i x out)) x.1 := by kernel_rfl
theorem ref05_Pack_g1 (i : Int) (x : Int × Int × List Int) (out : List Int) : jfn Tryz.prog ref05_Pack_e 6 18446744073709551616 (Ev.get ref05_Pack_h) 138 ref05_Pack_s 122 [] (ref05_Pack_k1 i x out) = ref05_Pack_K1 i x out := by
  rw [pfn_eq (by decide)]
  rw [pfn_loop (by kernel_rfl)]
  refine loopF_sim (σ := (Int) × (Int × Int × List Int) × (List Int)) (mk := fun s => ref05_Pack_k1 s.1 s.2.1 s.2.2) (fun w1 s => ?_) 18446744073709551616 (i, x, out)
  refine (ref05_Pack_c1 _ w1 s.1 s.2.1 s.2.2).trans ?_
  rfl
theorem ref05_Pack_t (x : As [.pr (.int .u16) LBT5]) : evT Tryz.prog ref05_Pack_e 6 18446744073709551616 (Ev.get ref05_Pack_h) 138 ref05_Pack_s x = ref05_Pack x := by
  have e1 : (fun i x out => (jfn Tryz.prog ref05_Pack_e 6 18446744073709551616 (Ev.get ref05_Pack_h) 138 ref05_Pack_s) 122 [] (ref05_Pack_k1 i x out)) = ref05_Pack_K1 := funext fun i => funext fun x => funext fun out => ref05_Pack_g1 i x out
  rw [rfn_eq, ref05_Pack_c0, e1]
  rfl
theorem ref05_Pack_ok : CtOk Tryz.prog (fun _ => True) 138 ⟨ref05_Pack_s, ref05_Pack⟩ := ct_of_ev env_nil ref05_Pack_t
/-! ref01_Next -/
@[reducible] def ref01_Next_s : Sh := ⟨[.d (.int .u16), .d (.int .u8)], [], [.int .u16, .int .u8], [.d (.int .u16)], [], 0, [.int .u16]⟩
def ref01_Next_e : Env := (cts [])
def ref01_Next_h : List (Nat × Hint) := [(58, ⟨[], [0, 5]⟩), (233, ⟨[], [0, 5]⟩)]
def ref01_Next_k1 (sum : Int) (k : Int) : St := { fr := [(0, .d (.int .u16) sum), (5, .d (.int .i64) k)], nt := 24, up := [], own := [], nx := 0, log := [], ln := 0 }
def ref01_Next_k2 (sum : Int) (k : Int) : St := { fr := [(0, .d (.int .u16) sum), (5, .d (.int .i64) k)], nt := 24, up := [], own := [], nx := 0, log := [], ln := 0 }
def ref01_Next_m1 (j2 : Int → Int → Option (As [.int .u16])) (self1 : Int → Int → Option (As [.int .u16])) (sum : Int) (k : Int) : Option (As [.int .u16]) :=
  if lt k 8 = true then if eqi (rem sum 2) 1 = true then j2 (Sx.bxor .u16 (quo .u16 sum 2) 40961) k else j2 (quo .u16 sum 2) k else some (sum, ())
def ref01_Next_m2 (self1 : Int → Int → Option (As [.int .u16])) (sum : Int) (k : Int) : Option (As [.int .u16]) :=
  self1 sum (add .i64 k 1)
def ref01_Next_m0 (j1 : Int → Int → Option (As [.int .u16])) (sum : Int) (c : Int) : Option (As [.int .u16]) :=
  j1 (Sx.bxor .u16 sum (cvt .u16 c)) 0
def ref01_Next_K2 (u1 : Int → Int → Option (As [.int .u16])) (sum : Int) (k : Int) : Option (As [.int .u16]) := ref01_Next_m2 u1 sum k
def ref01_Next_K1 (sum : Int) (k : Int) : Option (As [.int .u16]) :=
  loopF (fun (self : (Int) × (Int) → Option (As [.int .u16])) (s : (Int) × (Int)) => ref01_Next_m1 (ref01_Next_K2 (fun sum k => self (sum, k))) (fun sum k => self (sum, k)) s.1 s.2) 18446744073709551616 (sum, k)
def ref01_Next (x : As [.int .u16, .int .u8]) : Option (As [.int .u16]) := ref01_Next_m0 ref01_Next_K1 x.1 x.2.1
theorem ref01_Next_c2 (J : Orc (As [.int .u16])) (w1 : St → Option (As [.int .u16])) (sum : Int) (k : Int) : pfn Tryz.prog ref01_Next_e 6 18446744073709551616 (Ev.get ref01_Next_h) 243 ref01_Next_s J 233 [w1] (ref01_Next_k2 sum k) = ref01_Next_m2 (fun sum k => w1 (ref01_Next_k1 sum k)) sum k := by kernel_rfl
theorem ref01_Next_c1 (J : Orc (As [.int .u16])) (w1 : St → Option (As [.int .u16])) (sum : Int) (k : Int) : pfn Tryz.prog ref01_Next_e 6 18446744073709551616 (Ev.get ref01_Next_h) 243 ref01_Next_s J 58 [w1] (ref01_Next_k1 sum k) = ref01_Next_m1 (fun sum k => J 233 [w1] (ref01_Next_k2 sum k)) (fun sum k => w1 (ref01_Next_k1 sum k)) sum k := by kernel_rfl
theorem ref01_Next_c0 (J : Orc (As [.int .u16])) (x : As [.int .u16, .int .u8]) : rfn Tryz.prog ref01_Next_e 6 18446744073709551616 (Ev.get ref01_Next_h) 243 ref01_Next_s J x = ref01_Next_m0 (fun sum k => J 58 [] (ref01_Next_k1 sum k)) x.1 x.2.1 := by kernel_rfl
theorem ref01_Next_g2 (w1 : St → Option (As [.int .u16])) (sum : Int) (k : Int) : jfn Tryz.prog ref01_Next_e 6 18446744073709551616 (Ev.get ref01_Next_h) 243 ref01_Next_s 233 [w1] (ref01_Next_k2 sum k) = ref01_Next_K2 (fun sum k => w1 (ref01_Next_k1 sum k)) sum k := by
  rw [pfn_eq (by decide)]
  rw [ref01_Next_c2]
  rfl
theorem ref01_Next_g1 (sum : Int) (k : Int) : jfn Tryz.prog ref01_Next_e 6 18446744073709551616 (Ev.get ref01_Next_h) 243 ref01_Next_s 58 [] (ref01_Next_k1 sum k) = ref01_Next_K1 sum k := by
  rw [pfn_eq (by decide)]
  rw [pfn_loop (by kernel_rfl)]
  refine loopF_sim (σ := (Int) × (Int)) (mk := fun s => ref01_Next_k1 s.1 s.2) (fun w1 s => ?_) 18446744073709551616 (sum, k)
  have e2 : (fun sum k => (jfn Tryz.prog ref01_Next_e 6 18446744073709551616 (Ev.get ref01_Next_h) 243 ref01_Next_s) 233 [w1] (ref01_Next_k2 sum k)) = ref01_Next_K2 (fun sum k => w1 (ref01_Next_k1 sum k)) := funext fun sum => funext fun k => ref01_Next_g2 w1 sum k
  refine (ref01_Next_c1 _ w1 s.1 s.2).trans ?_
  rw [e2]
theorem ref01_Next_t (x : As [.int .u16, .int .u8]) : evT Tryz.prog ref01_Next_e 6 18446744073709551616 (Ev.get ref01_Next_h) 243 ref01_Next_s x = ref01_Next x := by
  have e1 : (fun sum k => (jfn Tryz.prog ref01_Next_e 6 18446744073709551616 (Ev.get ref01_Next_h) 243 ref01_Next_s) 58 [] (ref01_Next_k1 sum k)) = ref01_Next_K1 := funext fun sum => funext fun k => ref01_Next_g1 sum k
  rw [rfn_eq, ref01_Next_c0, e1]
  rfl
theorem ref01_Next_ok : CtOk Tryz.prog (fun _ => True) 243 ⟨ref01_Next_s, ref01_Next⟩ := ct_of_ev env_nil ref01_Next_t
/-! ref01_Sum -/
@[reducible] def ref01_Sum_s : Sh := ⟨[.d (.sl (.int .u8))], [], [.sl (.int .u8)], [.d (.int .u16)], [], 0, [.int .u16]⟩
def ref01_Sum_e : Env := (cts [(243, (⟨ref01_Next_s, ref01_Next⟩ : Ct))])
def ref01_Sum_h : List (Nat × Hint) := [(58, ⟨[], [0, 3, 4]⟩)]
def ref01_Sum_k1 (b : List Int) (sum : Int) (i : Int) : St := { fr := [(0, .d (.sl (.int .u8)) b), (3, .d (.int .u16) sum), (4, .d (.int .i64) i)], nt := 18, up := [], own := [], nx := 0, log := [], ln := 0 }
def ref01_Sum_m1 (self1 : List Int → Int → Int → Option (As [.int .u16])) (b : List Int) (sum : Int) (i : Int) : Option (As [.int .u16]) :=
  if lt i (Int.ofNat (List.length b)) = true then Option.bind (at? b i) fun (y : Int) => Option.bind (ref01_Next (sum, y, ())) fun (y : Int × Unit) => self1 b y.1 (add .i64 i 1) else some (sum, ())
def ref01_Sum_m0 (j1 : List Int → Int → Int → Option (As [.int .u16])) (b : List Int) : Option (As [.int .u16]) :=
  j1 b 65535 0
def ref01_Sum_K1 (b : List Int) (sum : Int) (i : Int) : Option (As [.int .u16]) :=
  loopF (fun (self : (List Int) × (Int) × (Int) → Option (As [.int .u16])) (s : (List Int) × (Int) × (Int)) => ref01_Sum_m1 (fun b sum i => self (b, sum, i)) s.1 s.2.1 s.2.2) 18446744073709551616 (b, sum, i)
def ref01_Sum (x : As [.sl (.int .u8)]) : Option (As [.int .u16]) := ref01_Sum_m0 ref01_Sum_K1 x.1
theorem ref01_Sum_c1 (J : Orc (As [.int .u16])) (w1 : St → Option (As [.int .u16])) (b : List Int) (sum : Int) (i : Int) : pfn Tryz.prog ref01_Sum_e 6 18446744073709551616 (Ev.get ref01_Sum_h) 227 ref01_Sum_s J 58 [w1] (ref01_Sum_k1 b sum i) = ref01_Sum_m1 (fun b sum i => w1 (ref01_Sum_k1 b sum i)) b sum i := by kernel_rfl
theorem ref01_Sum_c0 (J : Orc (As [.int .u16])) (x : As [.sl (.int .u8)]) : rfn Tryz.prog ref01_Sum_e 6 18446744073709551616 (Ev.get ref01_Sum_h) 227 ref01_Sum_s J x = ref01_Sum_m0 (fun b sum i => J 58 [] (ref01_Sum_k1 b sum i)) x.1 := by kernel_rfl
theorem ref01_Sum_g1 (b : List Int) (sum : Int) (i : Int) : jfn Tryz.prog ref01_Sum_e 6 18446744073709551616 (Ev.get ref01_Sum_h) 227 ref01_Sum_s 58 [] (ref01_Sum_k1 b sum i) = ref01_Sum_K1 b sum i := by
  rw [pfn_eq (by decide)]
  rw [pfn_loop (by kernel_rfl)]
  refine loopF_sim (σ := (List Int) × (Int) × (Int)) (mk := fun s => ref01_Sum_k1 s.1 s.2.1 s.2.2) (fun w1 s => ?_) 18446744073709551616 (b, sum, i)
  refine (ref01_Sum_c1 _ w1 s.1 s.2.1 s.2.2).trans ?_
  rfl
theorem ref01_Sum_t (x : As [.sl (.int .u8)]) : evT Tryz.prog ref01_Sum_e 6 18446744073709551616 (Ev.get ref01_Sum_h) 227 ref01_Sum_s x = ref01_Sum x := by
  have e1 : (fun b sum i => (jfn Tryz.prog ref01_Sum_e 6 18446744073709551616 (Ev.get ref01_Sum_h) 227 ref01_Sum_s) 58 [] (ref01_Sum_k1 b sum i)) = ref01_Sum_K1 := funext fun b => funext fun sum => funext fun i => ref01_Sum_g1 b sum i
  rw [rfn_eq, ref01_Sum_c0, e1]
  rfl
theorem ref01_Sum_ok : CtOk Tryz.prog (fun _ => True) 227 ⟨ref01_Sum_s, ref01_Sum⟩ := ct_of_ev (env_cons ref01_Next_ok env_nil) ref01_Sum_t
/-! ref01_Put -/
@[reducible] def ref01_Put_s : Sh := ⟨[.d (.sl (.int .u8))], [], [.sl (.int .u8)], [.d (.sl (.int .u8))], [], 0, [.sl (.int .u8)]⟩
def ref01_Put_e : Env := (cts [(227, (⟨ref01_Sum_s, ref01_Sum⟩ : Ct))])
def ref01_Put_h : List (Nat × Hint) := []
def ref01_Put_m0 (b : List Int) : Option (As [.sl (.int .u8)]) :=
  need (small (0 + List.length b)) (Option.bind (ref01_Sum (b, ())) fun (y : Int × Unit) => need (small (List.length ([] ++ b) + 1)) (need (small (List.length ([] ++ b ++ [cvt .u8 (rem y.1 256)]) + 1)) (some ([] ++ b ++ [cvt .u8 (rem y.1 256)] ++ [cvt .u8 (quo .u16 y.1 256)], ()))))
def ref01_Put (x : As [.sl (.int .u8)]) : Option (As [.sl (.int .u8)]) := ref01_Put_m0 x.1
theorem ref01_Put_c0 (J : Orc (As [.sl (.int .u8)])) (x : As [.sl (.int .u8)]) : rfn Tryz.prog ref01_Put_e 6 18446744073709551616 (Ev.get ref01_Put_h) 199 ref01_Put_s J x = ref01_Put_m0 x.1 := by kernel_rfl
theorem ref01_Put_t (x : As [.sl (.int .u8)]) : evT Tryz.prog ref01_Put_e 6 18446744073709551616 (Ev.get ref01_Put_h) 199 ref01_Put_s x = ref01_Put x := by
  rw [rfn_eq, ref01_Put_c0]
  rfl
theorem ref01_Put_ok : CtOk Tryz.prog (fun _ => True) 199 ⟨ref01_Put_s, ref01_Put⟩ := ct_of_ev (env_cons ref01_Sum_ok env_nil) ref01_Put_t
/-! ref04_Bytes -/
@[reducible] def ref04_Bytes_s : Sh := ⟨[.d (.int .u8), .d (.sl (.int .u8))], [], [.int .u8, .sl (.int .u8)], [.d (.sl (.int .u8)), .d (.int .i64)], [], 0, [.sl (.int .u8), .int .i64]⟩
def ref04_Bytes_e : Env := (cts [(199, (⟨ref01_Put_s, ref01_Put⟩ : Ct))])
def ref04_Bytes_h : List (Nat × Hint) := [(6, ⟨[], [0, 1, 21]⟩)]
def ref04_Bytes_k1 (unit : Int) (pdu : List Int) (t21 : Bool) : St := { fr := [(0, .d (.int .u8) unit), (1, .d (.sl (.int .u8)) pdu), (21, .d .bool t21)], nt := 27, up := [], own := [], nx := 0, log := [], ln := 0 }
def ref04_Bytes_m1 (unit : Int) (pdu : List Int) (t21 : Bool) : Option (As [.sl (.int .u8), .int .i64]) :=
  if t21 = true then some ([], 2, ()) else need (small (1 + List.length pdu)) (Option.bind (ref01_Put (unit :: pdu, ())) fun (y : List Int × Unit) => some (y.1, 0, ()))
def ref04_Bytes_m0 (j1 : Int → List Int → Bool → Option (As [.sl (.int .u8), .int .i64])) (unit : Int) (pdu : List Int) : Option (As [.sl (.int .u8), .int .i64]) :=
  if lt unit 1 = true then j1 unit pdu true else if gt unit 247 = true then j1 unit pdu true else if lt (Int.ofNat (List.length pdu)) 1 = true then j1 unit pdu true else j1 unit pdu (gt (Int.ofNat (List.length pdu)) 253)
def ref04_Bytes_K1 (unit : Int) (pdu : List Int) (t21 : Bool) : Option (As [.sl (.int .u8), .int .i64]) := ref04_Bytes_m1 unit pdu t21
def ref04_Bytes (x : As [.int .u8, .sl (.int .u8)]) : Option (As [.sl (.int .u8), .int .i64]) := ref04_Bytes_m0 ref04_Bytes_K1 x.1 x.2.1
theorem ref04_Bytes_c1 (J : Orc (As [.sl (.int .u8), .int .i64])) (unit : Int) (pdu : List Int) (t21 : Bool) : pfn Tryz.prog ref04_Bytes_e 6 18446744073709551616 (Ev.get ref04_Bytes_h) 140 ref04_Bytes_s J 6 [] (ref04_Bytes_k1 unit pdu t21) = ref04_Bytes_m1 unit pdu t21 := by kernel_rfl
theorem ref04_Bytes_c0 (J : Orc (As [.sl (.int .u8), .int .i64])) (x : As [.int .u8, .sl (.int .u8)]) : rfn Tryz.prog ref04_Bytes_e 6 18446744073709551616 (Ev.get ref04_Bytes_h) 140 ref04_Bytes_s J x = ref04_Bytes_m0 (fun unit pdu t21 => J 6 [] (ref04_Bytes_k1 unit pdu t21)) x.1 x.2.1 := by kernel_rfl
theorem ref04_Bytes_g1 (unit : Int) (pdu : List Int) (t21 : Bool) : jfn Tryz.prog ref04_Bytes_e 6 18446744073709551616 (Ev.get ref04_Bytes_h) 140 ref04_Bytes_s 6 [] (ref04_Bytes_k1 unit pdu t21) = ref04_Bytes_K1 unit pdu t21 := by
  rw [pfn_eq (by decide)]
  rw [ref04_Bytes_c1]
  rfl
theorem ref04_Bytes_t (x : As [.int .u8, .sl (.int .u8)]) : evT Tryz.prog ref04_Bytes_e 6 18446744073709551616 (Ev.get ref04_Bytes_h) 140 ref04_Bytes_s x = ref04_Bytes x := by
  have e1 : (fun unit pdu t21 => (jfn Tryz.prog ref04_Bytes_e 6 18446744073709551616 (Ev.get ref04_Bytes_h) 140 ref04_Bytes_s) 6 [] (ref04_Bytes_k1 unit pdu t21)) = ref04_Bytes_K1 := funext fun unit => funext fun pdu => funext fun t21 => ref04_Bytes_g1 unit pdu t21
  rw [rfn_eq, ref04_Bytes_c0, e1]
  rfl
theorem ref04_Bytes_ok : CtOk Tryz.prog (fun _ => True) 140 ⟨ref04_Bytes_s, ref04_Bytes⟩ := ct_of_ev (env_cons ref01_Put_ok env_nil) ref04_Bytes_t
/-! ref02_Pack -/
@[reducible] def ref02_Pack_s : Sh := ⟨[.d (.sl .bool)], [], [.sl .bool], [.d (.sl (.int .u8))], [], 0, [.sl (.int .u8)]⟩
def ref02_Pack_e : Env := (cts [])
def ref02_Pack_h : List (Nat × Hint) := [(58, ⟨[.row 3 5], [0, 3, 4]⟩), (233, ⟨[], [0, 3, 4, 26, 27, 28, 29, 30, 31]⟩), (1865, ⟨[], [0, 3, 4, 5, 26, 27, 28, 29, 30, 31]⟩), (14922, ⟨[], [0, 3, 4, 5, 6, 26, 27, 28, 29, 30, 31]⟩), (59689, ⟨[], [0, 3, 4, 5, 6, 26, 27, 28, 29, 30, 31]⟩), (477513, ⟨[], [0, 3, 4, 5, 6, 32]⟩)]
def ref02_Pack_k1 (bits : List Bool) (i : Int) (out : List Int) : St := { fr := [(0, .d (.sl .bool) bits), (3, .row 0), (4, .d (.int .i64) i)], nt := 41, up := [], own := [(0, .row (.int .u8) 5 out)], nx := 1, log := [], ln := 0 }
def ref02_Pack_k2 (bits : List Bool) (i : Int) (c : Int) (k : Int) (out : List Int) : St := { fr := [(0, .d (.sl .bool) bits), (3, .row 0), (4, .d (.int .i64) i), (5, .d (.int .i64) c), (6, .d (.int .i64) k)], nt := 41, up := [], own := [(0, .row (.int .u8) 5 out)], nx := 1, log := [], ln := 0 }
def ref02_Pack_k3 (bits : List Bool) (i : Int) (c : Int) (k : Int) (t32 : Bool) (out : List Int) : St := { fr := [(0, .d (.sl .bool) bits), (3, .row 0), (4, .d (.int .i64) i), (5, .d (.int .i64) c), (6, .d (.int .i64) k), (32, .d .bool t32)], nt := 41, up := [], own := [(0, .row (.int .u8) 5 out)], nx := 1, log := [], ln := 0 }
def ref02_Pack_k4 (bits : List Bool) (i : Int) (c : Int) (out : List Int) : St := { fr := [(0, .d (.sl .bool) bits), (3, .row 0), (4, .d (.int .i64) i), (5, .d (.int .i64) c)], nt := 41, up := [], own := [(0, .row (.int .u8) 5 out)], nx := 1, log := [], ln := 0 }
def ref02_Pack_k5 (bits : List Bool) (i : Int) (c : Int) (k : Int) (out : List Int) : St := { fr := [(0, .d (.sl .bool) bits), (3, .row 0), (4, .d (.int .i64) i), (5, .d (.int .i64) c), (6, .d (.int .i64) k)], nt := 41, up := [], own := [(0, .row (.int .u8) 5 out)], nx := 1, log := [], ln := 0 }
def ref02_Pack_k6 (bits : List Bool) (i : Int) (out : List Int) : St := { fr := [(0, .d (.sl .bool) bits), (3, .row 0), (4, .d (.int .i64) i)], nt := 41, up := [], own := [(0, .row (.int .u8) 5 out)], nx := 1, log := [], ln := 0 }
def ref02_Pack_m1 (j2 : List Bool → Int → Int → Int → List Int → Option (As [.sl (.int .u8)])) (self1 : List Bool → Int → List Int → Option (As [.sl (.int .u8)])) (bits : List Bool) (i : Int) (out : List Int) : Option (As [.sl (.int .u8)]) :=
  if lt i (Int.ofNat (List.length bits)) = true then j2 bits i 0 7 out else some (out, ())
def ref02_Pack_m2 (j3 : List Bool → Int → Int → Int → Bool → List Int → Option (As [.sl (.int .u8)])) (j4 : List Bool → Int → Int → List Int → Option (As [.sl (.int .u8)])) (self1 : List Bool → Int → List Int → Option (As [.sl (.int .u8)])) (self2 : List Bool → Int → Int → Int → List Int → Option (As [.sl (.int .u8)])) (bits : List Bool) (i : Int) (c : Int) (k : Int) (out : List Int) : Option (As [.sl (.int .u8)]) :=
  if ge k 0 = true then if lt (add .i64 i k) (Int.ofNat (List.length bits)) = true then Option.bind (at? bits (add .i64 i k)) fun (y : Bool) => j3 bits i (mul .i64 c 2) k y out else j3 bits i (mul .i64 c 2) k false out else j4 bits i c out
def ref02_Pack_m3 (j5 : List Bool → Int → Int → Int → List Int → Option (As [.sl (.int .u8)])) (self1 : List Bool → Int → List Int → Option (As [.sl (.int .u8)])) (self2 : List Bool → Int → Int → Int → List Int → Option (As [.sl (.int .u8)])) (bits : List Bool) (i : Int) (c : Int) (k : Int) (t32 : Bool) (out : List Int) : Option (As [.sl (.int .u8)]) :=
  if t32 = true then j5 bits i (add .i64 c 1) k out else j5 bits i c k out
def ref02_Pack_m4 (j6 : List Bool → Int → List Int → Option (As [.sl (.int .u8)])) (self1 : List Bool → Int → List Int → Option (As [.sl (.int .u8)])) (bits : List Bool) (i : Int) (c : Int) (out : List Int) : Option (As [.sl (.int .u8)]) :=
  need (small (List.length out + 1)) (j6 bits i (out ++ [cvt .u8 c]))
def ref02_Pack_m5 (self1 : List Bool → Int → List Int → Option (As [.sl (.int .u8)])) (self2 : List Bool → Int → Int → Int → List Int → Option (As [.sl (.int .u8)])) (bits : List Bool) (i : Int) (c : Int) (k : Int) (out : List Int) : Option (As [.sl (.int .u8)]) :=
  self2 bits i c (Sx.sub .i64 k 1) out
def ref02_Pack_m6 (self1 : List Bool → Int → List Int → Option (As [.sl (.int .u8)])) (bits : List Bool) (i : Int) (out : List Int) : Option (As [.sl (.int .u8)]) :=
  self1 bits (add .i64 i 8) out
def ref02_Pack_m0 (j1 : List Bool → Int → List Int → Option (As [.sl (.int .u8)])) (bits : List Bool) : Option (As [.sl (.int .u8)]) :=
  j1 bits 0 []
def ref02_Pack_K5 (u1 : List Bool → Int → List Int → Option (As [.sl (.int .u8)])) (u2 : List Bool → Int → Int → Int → List Int → Option (As [.sl (.int .u8)])) (bits : List Bool) (i : Int) (c : Int) (k : Int) (out : List Int) : Option (As [.sl (.int .u8)]) := ref02_Pack_m5 u1 u2 bits i c k out
def ref02_Pack_K3 (u1 : List Bool → Int → List Int → Option (As [.sl (.int .u8)])) (u2 : List Bool → Int → Int → Int → List Int → Option (As [.sl (.int .u8)])) (bits : List Bool) (i : Int) (c : Int) (k : Int) (t32 : Bool) (out : List Int) : Option (As [.sl (.int .u8)]) := ref02_Pack_m3 (ref02_Pack_K5 u1 u2) u1 u2 bits i c k t32 out
def ref02_Pack_K6 (u1 : List Bool → Int → List Int → Option (As [.sl (.int .u8)])) (bits : List Bool) (i : Int) (out : List Int) : Option (As [.sl (.int .u8)]) := ref02_Pack_m6 u1 bits i out
def ref02_Pack_K4 (u1 : List Bool → Int → List Int → Option (As [.sl (.int .u8)])) (bits : List Bool) (i : Int) (c : Int) (out : List Int) : Option (As [.sl (.int .u8)]) := ref02_Pack_m4 (ref02_Pack_K6 u1) u1 bits i c out
def ref02_Pack_K2 (u1 : List Bool → Int → List Int → Option (As [.sl (.int .u8)])) (bits : List Bool) (i : Int) (c : Int) (k : Int) (out : List Int) : Option (As [.sl (.int .u8)]) :=
  loopF (fun (self : (List Bool) × (Int) × (Int) × (Int) × (List Int) → Option (As [.sl (.int .u8)])) (s : (List Bool) × (Int) × (Int) × (Int) × (List Int)) => ref02_Pack_m2 (ref02_Pack_K3 u1 (fun bits i c k out => self (bits, i, c, k, out))) (ref02_Pack_K4 u1) u1 (fun bits i c k out => self (bits, i, c, k, out)) s.1 s.2.1 s.2.2.1 s.2.2.2.1 s.2.2.2.2) 18446744073709551616 (bits, i, c, k, out)
def ref02_Pack_K1 (bits : List Bool) (i : Int) (out : List Int) : Option (As [.sl (.int .u8)]) :=
  loopF (fun (self : (List Bool) × (Int) × (List Int) → Option (As [.sl (.int .u8)])) (s : (List Bool) × (Int) × (List Int)) => ref02_Pack_m1 (ref02_Pack_K2 (fun bits i out => self (bits, i, out))) (fun bits i out => self (bits, i, out)) s.1 s.2.1 s.2.2) 18446744073709551616 (bits, i, out)
def ref02_Pack (x : As [.sl .bool]) : Option (As [.sl (.int .u8)]) := ref02_Pack_m0 ref02_Pack_K1 x.1
theorem ref02_Pack_c5 (J : Orc (As [.sl (.int .u8)])) (w1 : St → Option (As [.sl (.int .u8)])) (w2 : St → Option (As [.sl (.int .u8)])) (bits : List Bool) (i : Int) (c : Int) (k : Int) (out : List Int) : pfn Tryz.prog ref02_Pack_e 6 18446744073709551616 (Ev.get ref02_Pack_h) 193 ref02_Pack_s J 59689 [w1, w2] (ref02_Pack_k5 bits i c k out) = ref02_Pack_m5 (fun bits i out => w1 (ref02_Pack_k1 bits i out)) (fun bits i c k out => w2 (ref02_Pack_k2 bits i c k out)) bits i c k out := by kernel_rfl
theorem ref02_Pack_c3 (J : Orc (As [.sl (.int .u8)])) (w1 : St → Option (As [.sl (.int .u8)])) (w2 : St → Option (As [.sl (.int .u8)])) (bits : List Bool) (i : Int) (c : Int) (k : Int) (t32 : Bool) (out : List Int) : pfn Tryz.prog ref02_Pack_e 6 18446744073709551616 (Ev.get ref02_Pack_h) 193 ref02_Pack_s J 477513 [w1, w2] (ref02_Pack_k3 bits i c k t32 out) = ref02_Pack_m3 (fun bits i c k out => J 59689 [w1, w2] (ref02_Pack_k5 bits i c k out)) (fun bits i out => w1 (ref02_Pack_k1 bits i out)) (fun bits i c k out => w2 (ref02_Pack_k2 bits i c k out)) bits i c k t32 out := by kernel_rfl
theorem ref02_Pack_c6 (J : Orc (As [.sl (.int .u8)])) (w1 : St → Option (As [.sl (.int .u8)])) (bits : List Bool) (i : Int) (out : List Int) : pfn Tryz.prog ref02_Pack_e 6 18446744073709551616 (Ev.get ref02_Pack_h) 193 ref02_Pack_s J 233 [w1] (ref02_Pack_k6 bits i out) = ref02_Pack_m6 (fun bits i out => w1 (ref02_Pack_k1 bits i out)) bits i out := by kernel_rfl
theorem ref02_Pack_c4 (J : Orc (As [.sl (.int .u8)])) (w1 : St → Option (As [.sl (.int .u8)])) (bits : List Bool) (i : Int) (c : Int) (out : List Int) : pfn Tryz.prog ref02_Pack_e 6 18446744073709551616 (Ev.get ref02_Pack_h) 193 ref02_Pack_s J 1865 [w1] (ref02_Pack_k4 bits i c out) = ref02_Pack_m4 (fun bits i out => J 233 [w1] (ref02_Pack_k6 bits i out)) (fun bits i out => w1 (ref02_Pack_k1 bits i out)) bits i c out := by kernel_rfl
theorem ref02_Pack_c2 (J : Orc (As [.sl (.int .u8)])) (w1 : St → Option (As [.sl (.int .u8)])) (w2 : St → Option (As [.sl (.int .u8)])) (bits : List Bool) (i : Int) (c : Int) (k : Int) (out : List Int) : pfn Tryz.prog ref02_Pack_e 6 18446744073709551616 (Ev.get ref02_Pack_h) 193 ref02_Pack_s J 14922 [w1, w2] (ref02_Pack_k2 bits i c k out) = ref02_Pack_m2 (fun bits i c k t32 out => J 477513 [w1, w2] (ref02_Pack_k3 bits i c k t32 out)) (fun bits i c out => J 1865 [w1] (ref02_Pack_k4 bits i c out)) (fun bits i out => w1 (ref02_Pack_k1 bits i out)) (fun bits i c k out => w2 (ref02_Pack_k2 bits i c k out)) bits i c k out := by kernel_rfl
theorem ref02_Pack_c1 (J : Orc (As [.sl (.int .u8)])) (w1 : St → Option (As [.sl (.int .u8)])) (bits : List Bool) (i : Int) (out : List Int) : pfn Tryz.prog ref02_Pack_e 6 18446744073709551616 (Ev.get ref02_Pack_h) 193 ref02_Pack_s J 58 [w1] (ref02_Pack_k1 bits i out) = ref02_Pack_m1 (fun bits i c k out => J 14922 [w1] (ref02_Pack_k2 bits i c k out)) (fun bits i out => w1 (ref02_Pack_k1 bits i out)) bits i out := by kernel_rfl
theorem ref02_Pack_c0 (J : Orc (As [.sl (.int .u8)])) (x : As [.sl .bool]) : rfn Tryz.prog ref02_Pack_e 6 18446744073709551616 (Ev.get ref02_Pack_h) 193 ref02_Pack_s J x = ref02_Pack_m0 (fun bits i out => J 58 [] (ref02_Pack_k1 bits i out)) x.1 := by kernel_rfl
theorem ref02_Pack_g5 (w1 : St → Option (As [.sl (.int .u8)])) (w2 : St → Option (As [.sl (.int .u8)])) (bits : List Bool) (i : Int) (c : Int) (k : Int) (out : List Int) : jfn Tryz.prog ref02_Pack_e 6 18446744073709551616 (Ev.get ref02_Pack_h) 193 ref02_Pack_s 59689 [w1, w2] (ref02_Pack_k5 bits i c k out) = ref02_Pack_K5 (fun bits i out => w1 (ref02_Pack_k1 bits i out)) (fun bits i c k out => w2 (ref02_Pack_k2 bits i c k out)) bits i c k out := by
  rw [pfn_eq (by decide)]
  rw [ref02_Pack_c5]
  rfl
theorem ref02_Pack_g3 (w1 : St → Option (As [.sl (.int .u8)])) (w2 : St → Option (As [.sl (.int .u8)])) (bits : List Bool) (i : Int) (c : Int) (k : Int) (t32 : Bool) (out : List Int) : jfn Tryz.prog ref02_Pack_e 6 18446744073709551616 (Ev.get ref02_Pack_h) 193 ref02_Pack_s 477513 [w1, w2] (ref02_Pack_k3 bits i c k t32 out) = ref02_Pack_K3 (fun bits i out => w1 (ref02_Pack_k1 bits i out)) (fun bits i c k out => w2 (ref02_Pack_k2 bits i c k out)) bits i c k t32 out := by
  rw [pfn_eq (by decide)]
  have e5 : (fun bits i c k out => (jfn Tryz.prog ref02_Pack_e 6 18446744073709551616 (Ev.get ref02_Pack_h) 193 ref02_Pack_s) 59689 [w1, w2] (ref02_Pack_k5 bits i c k out)) = ref02_Pack_K5 (fun bits i out => w1 (ref02_Pack_k1 bits i out)) (fun bits i c k out => w2 (ref02_Pack_k2 bits i c k out)) := funext fun bits => funext fun i => funext fun c => funext fun k => funext fun out => ref02_Pack_g5 w1 w2 bits i c k out
  rw [ref02_Pack_c3, e5]
  rfl
theorem ref02_Pack_g6 (w1 : St → Option (As [.sl (.int .u8)])) (bits : List Bool) (i : Int) (out : List Int) : jfn Tryz.prog ref02_Pack_e 6 18446744073709551616 (Ev.get ref02_Pack_h) 193 ref02_Pack_s 233 [w1] (ref02_Pack_k6 bits i out) = ref02_Pack_K6 (fun bits i out => w1 (ref02_Pack_k1 bits i out)) bits i out := by
  rw [pfn_eq (by decide)]
  rw [ref02_Pack_c6]
  rfl
theorem ref02_Pack_g4 (w1 : St → Option (As [.sl (.int .u8)])) (bits : List Bool) (i : Int) (c : Int) (out : List Int) : jfn Tryz.prog ref02_Pack_e 6 18446744073709551616 (Ev.get ref02_Pack_h) 193 ref02_Pack_s 1865 [w1] (ref02_Pack_k4 bits i c out) = ref02_Pack_K4 (fun bits i out => w1 (ref02_Pack_k1 bits i out)) bits i c out := by
  rw [pfn_eq (by decide)]
  have e6 : (fun bits i out => (jfn Tryz.prog ref02_Pack_e 6 18446744073709551616 (Ev.get ref02_Pack_h) 193 ref02_Pack_s) 233 [w1] (ref02_Pack_k6 bits i out)) = ref02_Pack_K6 (fun bits i out => w1 (ref02_Pack_k1 bits i out)) := funext fun bits => funext fun i => funext fun out => ref02_Pack_g6 w1 bits i out
  rw [ref02_Pack_c4, e6]
  rfl
theorem ref02_Pack_g2 (w1 : St → Option (As [.sl (.int .u8)])) (bits : List Bool) (i : Int) (c : Int) (k : Int) (out : List Int) : jfn Tryz.prog ref02_Pack_e 6 18446744073709551616 (Ev.get ref02_Pack_h) 193 ref02_Pack_s 14922 [w1] (ref02_Pack_k2 bits i c k out) = ref02_Pack_K2 (fun bits i out => w1 (ref02_Pack_k1 bits i out)) bits i c k out := by
  rw [pfn_eq (by decide)]
  rw [pfn_loop (by kernel_rfl)]
  refine loopF_sim (σ := (List Bool) × (Int) × (Int) × (Int) × (List Int)) (mk := fun s => ref02_Pack_k2 s.1 s.2.1 s.2.2.1 s.2.2.2.1 s.2.2.2.2) (fun w2 s => ?_) 18446744073709551616 (bits, i, c, k, out)
  have e3 : (fun bits i c k t32 out => (jfn Tryz.prog ref02_Pack_e 6 18446744073709551616 (Ev.get ref02_Pack_h) 193 ref02_Pack_s) 477513 [w1, w2] (ref02_Pack_k3 bits i c k t32 out)) = ref02_Pack_K3 (fun bits i out => w1 (ref02_Pack_k1 bits i out)) (fun bits i c k out => w2 (ref02_Pack_k2 bits i c k out)) := funext fun bits => funext fun i => funext fun c => funext fun k => funext fun t32 => funext fun out => ref02_Pack_g3 w1 w2 bits i c k t32 out
  have e4 : (fun bits i c out => (jfn Tryz.prog ref02_Pack_e 6 18446744073709551616 (Ev.get ref02_Pack_h) 193 ref02_Pack_s) 1865 [w1] (ref02_Pack_k4 bits i c out)) = ref02_Pack_K4 (fun bits i out => w1 (ref02_Pack_k1 bits i out)) := funext fun bits => funext fun i => funext fun c => funext fun out => ref02_Pack_g4 w1 bits i c out
  refine (ref02_Pack_c2 _ w1 w2 s.1 s.2.1 s.2.2.1 s.2.2.2.1 s.2.2.2.2).trans ?_
  rw [e3, e4]
theorem ref02_Pack_g1 (bits : List Bool) (i : Int) (out : List Int) : jfn Tryz.prog ref02_Pack_e 6 18446744073709551616 (Ev.get ref02_Pack_h) 193 ref02_Pack_s 58 [] (ref02_Pack_k1 bits i out) = ref02_Pack_K1 bits i out := by
  rw [pfn_eq (by decide)]
  rw [pfn_loop (by kernel_rfl)]
  refine loopF_sim (σ := (List Bool) × (Int) × (List Int)) (mk := fun s => ref02_Pack_k1 s.1 s.2.1 s.2.2) (fun w1 s => ?_) 18446744073709551616 (bits, i, out)
  have e2 : (fun bits i c k out => (jfn Tryz.prog ref02_Pack_e 6 18446744073709551616 (Ev.get ref02_Pack_h) 193 ref02_Pack_s) 14922 [w1] (ref02_Pack_k2 bits i c k out)) = ref02_Pack_K2 (fun bits i out => w1 (ref02_Pack_k1 bits i out)) := funext fun bits => funext fun i => funext fun c => funext fun k => funext fun out => ref02_Pack_g2 w1 bits i c k out
  refine (ref02_Pack_c1 _ w1 s.1 s.2.1 s.2.2).trans ?_
  rw [e2]
theorem ref02_Pack_t (x : As [.sl .bool]) : evT Tryz.prog ref02_Pack_e 6 18446744073709551616 (Ev.get ref02_Pack_h) 193 ref02_Pack_s x = ref02_Pack x := by
  have e1 : (fun bits i out => (jfn Tryz.prog ref02_Pack_e 6 18446744073709551616 (Ev.get ref02_Pack_h) 193 ref02_Pack_s) 58 [] (ref02_Pack_k1 bits i out)) = ref02_Pack_K1 := funext fun bits => funext fun i => funext fun out => ref02_Pack_g1 bits i out
  rw [rfn_eq, ref02_Pack_c0, e1]
  rfl
theorem ref02_Pack_ok : CtOk Tryz.prog (fun _ => True) 193 ⟨ref02_Pack_s, ref02_Pack⟩ := ct_of_ev env_nil ref02_Pack_t
/-! ref02_Two -/
@[reducible] def ref02_Two_s : Sh := ⟨[.row 0, .d (.int .i64)], [.row (.int .u8) 5], [.int .i64, .sl (.int .u8)], [.row 1], [(1, .row (.int .u8) 5)], 1, [.sl (.int .u8)]⟩
def ref02_Two_e : Env := (cts [])
def ref02_Two_h : List (Nat × Hint) := []
def ref02_Two_m0 (b : Int) (x : List Int) : Option (As [.sl (.int .u8)]) :=
  need (small (List.length x + 1)) (need (small (List.length (x ++ [cvt .u8 (quo .i64 b 256)]) + 1)) (some (x ++ [cvt .u8 (quo .i64 b 256)] ++ [cvt .u8 (rem b 256)], ())))
def ref02_Two (x : As [.int .i64, .sl (.int .u8)]) : Option (As [.sl (.int .u8)]) := ref02_Two_m0 x.1 x.2.1
theorem ref02_Two_c0 (J : Orc (As [.sl (.int .u8)])) (x : As [.int .i64, .sl (.int .u8)]) : rfn Tryz.prog ref02_Two_e 6 18446744073709551616 (Ev.get ref02_Two_h) 195 ref02_Two_s J x = ref02_Two_m0 x.1 x.2.1 := by kernel_rfl
theorem ref02_Two_t (x : As [.int .i64, .sl (.int .u8)]) : evT Tryz.prog ref02_Two_e 6 18446744073709551616 (Ev.get ref02_Two_h) 195 ref02_Two_s x = ref02_Two x := by
  rw [rfn_eq, ref02_Two_c0]
  rfl
theorem ref02_Two_ok : CtOk Tryz.prog (fun _ => True) 195 ⟨ref02_Two_s, ref02_Two⟩ := ct_of_ev env_nil ref02_Two_t
/-! ref02_Words -/
@[reducible] def ref02_Words_s : Sh := ⟨[.row 0, .d (.sl (.int .u16))], [.row (.int .u8) 5], [.sl (.int .u16), .sl (.int .u8)], [.row 1], [(1, .row (.int .u8) 5)], 1, [.sl (.int .u8)]⟩
def ref02_Words_e : Env := (cts [(195, (⟨ref02_Two_s, ref02_Two⟩ : Ct))])
def ref02_Words_h : List (Nat × Hint) := [(26, ⟨[.unl 0], [0, 1, 5]⟩)]
def ref02_Words_k1 (l : List Int) (i : Int) (b : List Int) : St := { fr := [(0, .row 1), (1, .d (.sl (.int .u16)) l), (5, .d (.int .i64) i)], nt := 20, up := [], own := [(1, .row (.int .u8) 5 b)], nx := 2, log := [], ln := 1 }
def ref02_Words_m1 (self1 : List Int → Int → List Int → Option (As [.sl (.int .u8)])) (l : List Int) (i : Int) (b : List Int) : Option (As [.sl (.int .u8)]) :=
  if lt i (Int.ofNat (List.length l)) = true then Option.bind (at? l i) fun (y : Int) => Option.bind (ref02_Two (cvt .i64 y, b, ())) fun (y : List Int × Unit) => self1 l (add .i64 i 1) y.1 else some (b, ())
def ref02_Words_m0 (j1 : List Int → Int → List Int → Option (As [.sl (.int .u8)])) (b : List Int) (l : List Int) : Option (As [.sl (.int .u8)]) :=
  j1 b 0 l
def ref02_Words_K1 (l : List Int) (i : Int) (b : List Int) : Option (As [.sl (.int .u8)]) :=
  loopF (fun (self : (List Int) × (Int) × (List Int) → Option (As [.sl (.int .u8)])) (s : (List Int) × (Int) × (List Int)) => ref02_Words_m1 (fun l i b => self (l, i, b)) s.1 s.2.1 s.2.2) 18446744073709551616 (l, i, b)
def ref02_Words (x : As [.sl (.int .u16), .sl (.int .u8)]) : Option (As [.sl (.int .u8)]) := ref02_Words_m0 ref02_Words_K1 x.1 x.2.1
theorem ref02_Words_c1 (J : Orc (As [.sl (.int .u8)])) (w1 : St → Option (As [.sl (.int .u8)])) (l : List Int) (i : Int) (b : List Int) : pfn Tryz.prog ref02_Words_e 6 18446744073709551616 (Ev.get ref02_Words_h) 194 ref02_Words_s J 26 [w1] (ref02_Words_k1 l i b) = ref02_Words_m1 (fun l i b => w1 (ref02_Words_k1 l i b)) l i b := by kernel_rfl
theorem ref02_Words_c0 (J : Orc (As [.sl (.int .u8)])) (x : As [.sl (.int .u16), .sl (.int .u8)]) : rfn Tryz.prog ref02_Words_e 6 18446744073709551616 (Ev.get ref02_Words_h) 194 ref02_Words_s J x = ref02_Words_m0 (fun l i b => J 26 [] (ref02_Words_k1 l i b)) x.1 x.2.1 := by kernel_rfl
theorem ref02_Words_g1 (l : List Int) (i : Int) (b : List Int) : jfn Tryz.prog ref02_Words_e 6 18446744073709551616 (Ev.get ref02_Words_h) 194 ref02_Words_s 26 [] (ref02_Words_k1 l i b) = ref02_Words_K1 l i b := by
  rw [pfn_eq (by decide)]
  rw [pfn_loop (by kernel_rfl)]
  refine loopF_sim (σ := (List Int) × (Int) × (List Int)) (mk := fun s => ref02_Words_k1 s.1 s.2.1 s.2.2) (fun w1 s => ?_) 18446744073709551616 (l, i, b)
  refine (ref02_Words_c1 _ w1 s.1 s.2.1 s.2.2).trans ?_
  rfl
theorem ref02_Words_t (x : As [.sl (.int .u16), .sl (.int .u8)]) : evT Tryz.prog ref02_Words_e 6 18446744073709551616 (Ev.get ref02_Words_h) 194 ref02_Words_s x = ref02_Words x := by
  have e1 : (fun l i b => (jfn Tryz.prog ref02_Words_e 6 18446744073709551616 (Ev.get ref02_Words_h) 194 ref02_Words_s) 26 [] (ref02_Words_k1 l i b)) = ref02_Words_K1 := funext fun l => funext fun i => funext fun b => ref02_Words_g1 l i b
  rw [rfn_eq, ref02_Words_c0, e1]
  rfl
theorem ref02_Words_ok : CtOk Tryz.prog (fun _ => True) 194 ⟨ref02_Words_s, ref02_Words⟩ := ct_of_ev (env_cons ref02_Two_ok env_nil) ref02_Words_t
/-! ref02_Bytes -/
@[reducible] def ref02_Bytes_s : Sh := ⟨[.d (.pr (.int .u8) LBT2)], [], [.pr (.int .u8) LBT2], [.d (.sl (.int .u8)), .d (.int .i64)], [], 0, [.sl (.int .u8), .int .i64]⟩
def ref02_Bytes_e : Env := (cts [(80, (⟨ref02_Right_s, ref02_Right⟩ : Ct)), (193, (⟨ref02_Pack_s, ref02_Pack⟩ : Ct)), (194, (⟨ref02_Words_s, ref02_Words⟩ : Ct)), (195, (⟨ref02_Two_s, ref02_Two⟩ : Ct))])
def ref02_Bytes_h : List (Nat × Hint) := [(15, ⟨[], [4]⟩), (31486, ⟨[], [1, 4]⟩), (981, ⟨[], [4, 5]⟩)]
def ref02_Bytes_k1 (x : Int) (out : List Int) : St := { fr := [(4, .row 0), (5, .d (.int .i64) x)], nt := 105, up := [], own := [(0, .row (.int .u8) 5 out)], nx := 1, log := [], ln := 0 }
def ref02_Bytes_k2 (out : List Int) : St := { fr := [(4, .row 0)], nt := 105, up := [], own := [(0, .row (.int .u8) 5 out)], nx := 1, log := [], ln := 0 }
def ref02_Bytes_k3 (a : ZoB1q0) (out : List Int) : St := { fr := [(1, .pb 0 0), (4, .row 1)], nt := 105, up := [], own := [(0, .box 27 [.d (.int .u8) a.1, .d (.int .u16) a.2.1, .d (.int .u16) a.2.2.1, .d (.int .u16) a.2.2.2.1, .d (.sl (.int .u16)) a.2.2.2.2.1, .d (.sl .bool) a.2.2.2.2.2]), (1, .row (.int .u8) 5 out)], nx := 2, log := [], ln := 0 }
def ref02_Bytes_m1 (j2 : List Int → Option (As [.sl (.int .u8), .int .i64])) (x : Int) (out : List Int) : Option (As [.sl (.int .u8), .int .i64]) :=
  Option.bind (ref02_Two (x, out, ())) fun (y : List Int × Unit) => j2 y.1
def ref02_Bytes_m2 (out : List Int) : Option (As [.sl (.int .u8), .int .i64]) :=
  some (out, 0, ())
def ref02_Bytes_m3 (j2 : List Int → Option (As [.sl (.int .u8), .int .i64])) (a : ZoB1q0) (out : List Int) : Option (As [.sl (.int .u8), .int .i64]) :=
  Option.bind (ref02_Words (a.2.2.2.2.1, out, ())) fun (y : List Int × Unit) => j2 y.1
def ref02_Bytes_m0 (j1 : Int → List Int → Option (As [.sl (.int .u8), .int .i64])) (j2 : List Int → Option (As [.sl (.int .u8), .int .i64])) (j3 : ZoB1q0 → List Int → Option (As [.sl (.int .u8), .int .i64])) (a : ZoB1q0) : Option (As [.sl (.int .u8), .int .i64]) :=
  Option.bind (ref02_Right (a, ())) fun (y : Bool × Unit) => if (!y.1) = true then some ([], 12, ()) else Option.bind (ref02_Two (cvt .i64 a.2.1, [a.1], ())) fun (y : List Int × Unit) => if eqi a.1 5 = true then Option.bind (at? a.2.2.2.2.2 0) fun (y_1 : Bool) => if y_1 = true then j1 65280 y.1 else j1 0 y.1 else if eqi a.1 6 = true then Option.bind (at? a.2.2.2.2.1 0) fun (y_1 : Int) => Option.bind (ref02_Two (cvt .i64 y_1, y.1, ())) fun (y : List Int × Unit) => j2 y.1 else if eqi a.1 15 = true then Option.bind (ref02_Pack (a.2.2.2.2.2, ())) fun (y_1 : List Int × Unit) => Option.bind (ref02_Two (cvt .i64 a.2.2.1, y.1, ())) fun (y : List Int × Unit) => need (small (List.length y.1 + 1)) (need (small (List.length (y.1 ++ [Int.ofNat (List.length y_1.1 % 256)]) + List.length y_1.1)) (j2 (y.1 ++ [Int.ofNat (List.length y_1.1 % 256)] ++ y_1.1))) else if eqi a.1 16 = true then amb (eqAs ref02_Bytes_s.rs) [Option.bind (ref02_Two (cvt .i64 a.2.2.1, y.1, ())) fun (y : List Int × Unit) => need (small (List.length y.1 + 1)) (j3 a (y.1 ++ [cvt .u8 (mul .i64 2 (Int.ofNat (List.length a.2.2.2.2.1)))])), Option.bind (ref02_Two (cvt .i64 a.2.2.1, y.1, ())) fun (y : List Int × Unit) => need (small (List.length y.1 + 1)) (j3 a (y.1 ++ [cvt .u8 (mul .i64 2 (Int.ofNat (List.length a.2.2.2.2.1)))]))] else if eqi a.1 23 = true then Option.bind (ref02_Two (cvt .i64 a.2.2.1, y.1, ())) fun (y : List Int × Unit) => Option.bind (ref02_Two (cvt .i64 a.2.2.2.1, y.1, ())) fun (y : List Int × Unit) => Option.bind (ref02_Two (Int.ofNat (List.length a.2.2.2.2.1), y.1, ())) fun (y : List Int × Unit) => need (small (List.length y.1 + 1)) (Option.bind (ref02_Words (a.2.2.2.2.1, y.1 ++ [cvt .u8 (mul .i64 2 (Int.ofNat (List.length a.2.2.2.2.1)))], ())) fun (y : List Int × Unit) => j2 y.1) else Option.bind (ref02_Two (cvt .i64 a.2.2.1, y.1, ())) fun (y : List Int × Unit) => j2 y.1
def ref02_Bytes_K2 (out : List Int) : Option (As [.sl (.int .u8), .int .i64]) := ref02_Bytes_m2 out
def ref02_Bytes_K1 (x : Int) (out : List Int) : Option (As [.sl (.int .u8), .int .i64]) := ref02_Bytes_m1 (ref02_Bytes_K2) x out
def ref02_Bytes_K3 (a : ZoB1q0) (out : List Int) : Option (As [.sl (.int .u8), .int .i64]) := ref02_Bytes_m3 (ref02_Bytes_K2) a out
def ref02_Bytes (x : As [.pr (.int .u8) LBT2]) : Option (As [.sl (.int .u8), .int .i64]) := ref02_Bytes_m0 ref02_Bytes_K1 ref02_Bytes_K2 ref02_Bytes_K3 x.1
theorem ref02_Bytes_c2 (J : Orc (As [.sl (.int .u8), .int .i64])) (out : List Int) : pfn Tryz.prog ref02_Bytes_e 6 18446744073709551616 (Ev.get ref02_Bytes_h) 164 ref02_Bytes_s J 15 [] (ref02_Bytes_k2 out) = ref02_Bytes_m2 out := by kernel_rfl
theorem ref02_Bytes_c1 (J : Orc (As [.sl (.int .u8), .int .i64])) (x : Int) (out : List Int) : pfn Tryz.prog ref02_Bytes_e 6 18446744073709551616 (Ev.get ref02_Bytes_h) 164 ref02_Bytes_s J 981 [] (ref02_Bytes_k1 x out) = ref02_Bytes_m1 (fun out => J 15 [] (ref02_Bytes_k2 out)) x out := by kernel_rfl
theorem ref02_Bytes_c3 (J : Orc (As [.sl (.int .u8), .int .i64])) (a : ZoB1q0) (out : List Int) : pfn Tryz.prog ref02_Bytes_e 6 18446744073709551616 (Ev.get ref02_Bytes_h) 164 ref02_Bytes_s J 31486 [] (ref02_Bytes_k3 a out) = ref02_Bytes_m3 (fun out => J 15 [] (ref02_Bytes_k2 out)) a out := by kernel_rfl
theorem ref02_Bytes_c0 (J : Orc (As [.sl (.int .u8), .int .i64])) (x : As [.pr (.int .u8) LBT2]) : rfn Tryz.prog ref02_Bytes_e 6 18446744073709551616 (Ev.get ref02_Bytes_h) 164 ref02_Bytes_s J x = ref02_Bytes_m0 (fun x out => J 981 [] (ref02_Bytes_k1 x out)) (fun out => J 15 [] (ref02_Bytes_k2 out)) (fun a out => J 31486 [] (ref02_Bytes_k3 a out)) x.1 := by kernel_rfl
theorem ref02_Bytes_g2 (out : List Int) : jfn Tryz.prog ref02_Bytes_e 6 18446744073709551616 (Ev.get ref02_Bytes_h) 164 ref02_Bytes_s 15 [] (ref02_Bytes_k2 out) = ref02_Bytes_K2 out := by
  rw [pfn_eq (by decide)]
  rw [ref02_Bytes_c2]
  rfl
theorem ref02_Bytes_g1 (x : Int) (out : List Int) : jfn Tryz.prog ref02_Bytes_e 6 18446744073709551616 (Ev.get ref02_Bytes_h) 164 ref02_Bytes_s 981 [] (ref02_Bytes_k1 x out) = ref02_Bytes_K1 x out := by
  rw [pfn_eq (by decide)]
  have e2 : (fun out => (jfn Tryz.prog ref02_Bytes_e 6 18446744073709551616 (Ev.get ref02_Bytes_h) 164 ref02_Bytes_s) 15 [] (ref02_Bytes_k2 out)) = ref02_Bytes_K2 := funext fun out => ref02_Bytes_g2 out
  rw [ref02_Bytes_c1, e2]
  rfl
theorem ref02_Bytes_g3 (a : ZoB1q0) (out : List Int) : jfn Tryz.prog ref02_Bytes_e 6 18446744073709551616 (Ev.get ref02_Bytes_h) 164 ref02_Bytes_s 31486 [] (ref02_Bytes_k3 a out) = ref02_Bytes_K3 a out := by
  rw [pfn_eq (by decide)]
  have e2 : (fun out => (jfn Tryz.prog ref02_Bytes_e 6 18446744073709551616 (Ev.get ref02_Bytes_h) 164 ref02_Bytes_s) 15 [] (ref02_Bytes_k2 out)) = ref02_Bytes_K2 := funext fun out => ref02_Bytes_g2 out
  rw [ref02_Bytes_c3, e2]
  rfl
theorem ref02_Bytes_t (x : As [.pr (.int .u8) LBT2]) : evT Tryz.prog ref02_Bytes_e 6 18446744073709551616 (Ev.get ref02_Bytes_h) 164 ref02_Bytes_s x = ref02_Bytes x := by
  have e1 : (fun x out => (jfn Tryz.prog ref02_Bytes_e 6 18446744073709551616 (Ev.get ref02_Bytes_h) 164 ref02_Bytes_s) 981 [] (ref02_Bytes_k1 x out)) = ref02_Bytes_K1 := funext fun x => funext fun out => ref02_Bytes_g1 x out
  have e2 : (fun out => (jfn Tryz.prog ref02_Bytes_e 6 18446744073709551616 (Ev.get ref02_Bytes_h) 164 ref02_Bytes_s) 15 [] (ref02_Bytes_k2 out)) = ref02_Bytes_K2 := funext fun out => ref02_Bytes_g2 out
  have e3 : (fun a out => (jfn Tryz.prog ref02_Bytes_e 6 18446744073709551616 (Ev.get ref02_Bytes_h) 164 ref02_Bytes_s) 31486 [] (ref02_Bytes_k3 a out)) = ref02_Bytes_K3 := funext fun a => funext fun out => ref02_Bytes_g3 a out
  rw [rfn_eq, ref02_Bytes_c0, e1, e2, e3]
  rfl
theorem ref02_Bytes_ok : CtOk Tryz.prog (fun _ => True) 164 ⟨ref02_Bytes_s, ref02_Bytes⟩ := ct_of_ev (env_cons ref02_Right_ok (env_cons ref02_Pack_ok (env_cons ref02_Words_ok (env_cons ref02_Two_ok env_nil)))) ref02_Bytes_t
/-! ref04_Ask -/
@[reducible] def ref04_Ask_s : Sh := ⟨[.d (.int .u8), .d (.pr (.int .u8) LBT2)], [], [.int .u8, .pr (.int .u8) LBT2], [.d (.sl (.int .u8)), .d (.int .i64)], [], 0, [.sl (.int .u8), .int .i64]⟩
def ref04_Ask_e : Env := (cts [(140, (⟨ref04_Bytes_s, ref04_Bytes⟩ : Ct)), (164, (⟨ref02_Bytes_s, ref02_Bytes⟩ : Ct))])
def ref04_Ask_h : List (Nat × Hint) := []
def ref04_Ask_m0 (unit : Int) (a : ZoB1q0) : Option (As [.sl (.int .u8), .int .i64]) :=
  Option.bind (ref02_Bytes (a, ())) fun (y : List Int × Int × Unit) => if nei y.2.1 0 = true then some ([], 12, ()) else Option.bind (ref04_Bytes (unit, y.1, ())) fun (y : List Int × Int × Unit) => some (y.1, y.2.1, ())
def ref04_Ask (x : As [.int .u8, .pr (.int .u8) LBT2]) : Option (As [.sl (.int .u8), .int .i64]) := ref04_Ask_m0 x.1 x.2.1
theorem ref04_Ask_c0 (J : Orc (As [.sl (.int .u8), .int .i64])) (x : As [.int .u8, .pr (.int .u8) LBT2]) : rfn Tryz.prog ref04_Ask_e 6 18446744073709551616 (Ev.get ref04_Ask_h) 163 ref04_Ask_s J x = ref04_Ask_m0 x.1 x.2.1 := by kernel_rfl
theorem ref04_Ask_t (x : As [.int .u8, .pr (.int .u8) LBT2]) : evT Tryz.prog ref04_Ask_e 6 18446744073709551616 (Ev.get ref04_Ask_h) 163 ref04_Ask_s x = ref04_Ask x := by
  rw [rfn_eq, ref04_Ask_c0]
  rfl
theorem ref04_Ask_ok : CtOk Tryz.prog (fun _ => True) 163 ⟨ref04_Ask_s, ref04_Ask⟩ := ct_of_ev (env_cons ref04_Bytes_ok (env_cons ref02_Bytes_ok env_nil)) ref04_Ask_t
/-! ref22_sends -/
@[reducible] def ref22_sends_s : Sh := ⟨[.d (.pr (.int .u8) LBT0)], [], [.pr (.int .u8) LBT0], [.d (.pr (.int .u8) LBT0), .d (.sl (.int .u8))], [], 0, [.pr (.int .u8) LBT0, .sl (.int .u8)]⟩
def ref22_sends_e : Env := (cts [(138, (⟨ref05_Pack_s, ref05_Pack⟩ : Ct)), (163, (⟨ref04_Ask_s, ref04_Ask⟩ : Ct)), (164, (⟨ref02_Bytes_s, ref02_Bytes⟩ : Ct))])
def ref22_sends_h : List (Nat × Hint) := []
def ref22_sends_m0 (p : ZoB1q2) : Option (As [.pr (.int .u8) LBT0, .sl (.int .u8)]) :=
  if eqi p.2.1 1 = true then Option.bind (ref04_Ask (p.1, p.2.2.2.2.2.1, ())) fun (y : List Int × Int × Unit) => some ((p.1, p.2.1, p.2.2.1, p.2.2.2.1, p.2.2.2.2.1, p.2.2.2.2.2.1, p.2.2.2.2.2.2.1, p.2.2.1, p.2.2.2.2.2.2.2.2), y.1, ()) else Option.bind (ref02_Bytes (p.2.2.2.2.2.1, ())) fun (y : List Int × Int × Unit) => Option.bind (ref05_Pack ((cvt .u16 (rem (add .i64 (cvt .i64 p.2.2.2.2.2.2.1) 1) 65536), p.1, y.1), ())) fun (y : List Int × Unit) => some ((p.1, p.2.1, p.2.2.1, p.2.2.2.1, p.2.2.2.2.1, p.2.2.2.2.2.1, cvt .u16 (rem (add .i64 (cvt .i64 p.2.2.2.2.2.2.1) 1) 65536), p.2.2.1, p.2.2.2.2.2.2.2.2), y.1, ())
def ref22_sends (x : As [.pr (.int .u8) LBT0]) : Option (As [.pr (.int .u8) LBT0, .sl (.int .u8)]) := ref22_sends_m0 x.1
theorem ref22_sends_c0 (J : Orc (As [.pr (.int .u8) LBT0, .sl (.int .u8)])) (x : As [.pr (.int .u8) LBT0]) : rfn Tryz.prog ref22_sends_e 6 18446744073709551616 (Ev.get ref22_sends_h) 85 ref22_sends_s J x = ref22_sends_m0 x.1 := by kernel_rfl
theorem ref22_sends_t (x : As [.pr (.int .u8) LBT0]) : evT Tryz.prog ref22_sends_e 6 18446744073709551616 (Ev.get ref22_sends_h) 85 ref22_sends_s x = ref22_sends x := by
  rw [rfn_eq, ref22_sends_c0]
  rfl
theorem ref22_sends_ok : CtOk Tryz.prog (fun _ => True) 85 ⟨ref22_sends_s, ref22_sends⟩ := ct_of_ev (env_cons ref05_Pack_ok (env_cons ref04_Ask_ok (env_cons ref02_Bytes_ok env_nil))) ref22_sends_t
/-! ref22_Send -/
@[reducible] def ref22_Send_s : Sh := ⟨[.d (.pr (.int .u8) LBT0), .d (.pr (.int .u8) LBT2)], [], [.pr (.int .u8) LBT0, .pr (.int .u8) LBT2], [.d (.pr (.int .u8) LBT0), .d (.sl (.int .u8)), .d (.int .i64)], [], 0, [.pr (.int .u8) LBT0, .sl (.int .u8), .int .i64]⟩
def ref22_Send_e : Env := (cts [(19, (⟨ref22_Copy_s, ref22_Copy⟩ : Ct)), (80, (⟨ref02_Right_s, ref02_Right⟩ : Ct)), (85, (⟨ref22_sends_s, ref22_sends⟩ : Ct))])
def ref22_Send_h : List (Nat × Hint) := []
def ref22_Send_m0 (p : ZoB1q2) (a : ZoB1q0) : Option (As [.pr (.int .u8) LBT0, .sl (.int .u8), .int .i64]) :=
  if p.2.2.2.2.1 = true then some (p, [], 30, ()) else Option.bind (ref02_Right (a, ())) fun (y : Bool × Unit) => if (!y.1) = true then some (p, [], 12, ()) else Option.bind (ref22_Copy ((p.1, p.2.1, p.2.2.1, p.2.2.2.1, true, a, p.2.2.2.2.2.2.1, p.2.2.2.2.2.2.2.1, p.2.2.2.1), ())) fun (y : (ZoB1q2) × Unit) => Option.bind (ref22_sends (y.1, ())) fun (y : (ZoB1q2) × List Int × Unit) => some (y.1, y.2.1, 0, ())
def ref22_Send (x : As [.pr (.int .u8) LBT0, .pr (.int .u8) LBT2]) : Option (As [.pr (.int .u8) LBT0, .sl (.int .u8), .int .i64]) := ref22_Send_m0 x.1 x.2.1
theorem ref22_Send_c0 (J : Orc (As [.pr (.int .u8) LBT0, .sl (.int .u8), .int .i64])) (x : As [.pr (.int .u8) LBT0, .pr (.int .u8) LBT2]) : rfn Tryz.prog ref22_Send_e 6 18446744073709551616 (Ev.get ref22_Send_h) 21 ref22_Send_s J x = ref22_Send_m0 x.1 x.2.1 := by kernel_rfl
theorem ref22_Send_t (x : As [.pr (.int .u8) LBT0, .pr (.int .u8) LBT2]) : evT Tryz.prog ref22_Send_e 6 18446744073709551616 (Ev.get ref22_Send_h) 21 ref22_Send_s x = ref22_Send x := by
  rw [rfn_eq, ref22_Send_c0]
  rfl
theorem ref22_Send_ok : CtOk Tryz.prog (fun _ => True) 21 ⟨ref22_Send_s, ref22_Send⟩ := ct_of_ev (env_cons ref22_Copy_ok (env_cons ref02_Right_ok (env_cons ref22_sends_ok env_nil))) ref22_Send_t
/-! ref22_Drop -/
@[reducible] def ref22_Drop_s : Sh := ⟨[.d (.pr (.int .u8) LBT0)], [], [.pr (.int .u8) LBT0], [.d (.pr (.int .u8) LBT0)], [], 0, [.pr (.int .u8) LBT0]⟩
def ref22_Drop_e : Env := (cts [])
def ref22_Drop_h : List (Nat × Hint) := []
def ref22_Drop_m0 (p : ZoB1q2) : Option (As [.pr (.int .u8) LBT0]) :=
  some ((p.1, p.2.1, p.2.2.1, p.2.2.2.1, false, (0, 0, 0, 0, [], []), p.2.2.2.2.2.2.1, 0, 0), ())
def ref22_Drop (x : As [.pr (.int .u8) LBT0]) : Option (As [.pr (.int .u8) LBT0]) := ref22_Drop_m0 x.1
theorem ref22_Drop_c0 (J : Orc (As [.pr (.int .u8) LBT0])) (x : As [.pr (.int .u8) LBT0]) : rfn Tryz.prog ref22_Drop_e 6 18446744073709551616 (Ev.get ref22_Drop_h) 29 ref22_Drop_s J x = ref22_Drop_m0 x.1 := by kernel_rfl
theorem ref22_Drop_t (x : As [.pr (.int .u8) LBT0]) : evT Tryz.prog ref22_Drop_e 6 18446744073709551616 (Ev.get ref22_Drop_h) 29 ref22_Drop_s x = ref22_Drop x := by
  rw [rfn_eq, ref22_Drop_c0]
  rfl
theorem ref22_Drop_ok : CtOk Tryz.prog (fun _ => True) 29 ⟨ref22_Drop_s, ref22_Drop⟩ := ct_of_ev env_nil ref22_Drop_t
/-! ref03_Right -/
@[reducible] def ref03_Right_s : Sh := ⟨[.d (.pr (.int .u8) LBT1)], [], [.pr (.int .u8) LBT1], [.d (.bool)], [], 0, [.bool]⟩
def ref03_Right_e : Env := (cts [])
def ref03_Right_h : List (Nat × Hint) := [(122, ⟨[], [1, 3, 4, 41, 42, 48, 49, 52, 53, 54, 57, 58, 61, 62, 63, 66, 67, 68, 77, 78, 81, 82, 85, 86, 87, 90, 91, 92, 99, 100, 103, 104, 105, 112, 113, 116, 117, 118, 125, 126, 129, 130, 131, 134, 135, 136, 143, 144, 147, 148, 149, 152, 153, 154]⟩), (491, ⟨[], [1, 3, 4, 41, 70, 77, 78, 81, 82, 85, 86, 87, 90, 91, 92, 99, 100, 103, 104, 105, 112, 113, 116, 117, 118, 125, 126, 129, 130, 131, 134, 135, 136, 143, 144, 147, 148, 149, 152, 153, 154]⟩)]
def ref03_Right_k1 (bits : Int) (words : Int) (t41 : Int) (t42 : Bool) (r : ZoB1q1) : St := { fr := [(1, .pb 0 0), (3, .d (.int .i64) bits), (4, .d (.int .i64) words), (41, .d (.int .u8) t41), (42, .d .bool t42)], nt := 156, up := [], own := [(0, .box 46 [.d (.int .u8) r.1, .d (.int .u8) r.2.1, .d (.sl .bool) r.2.2.1, .d (.sl (.int .u16)) r.2.2.2.1, .d (.int .u16) r.2.2.2.2.1, .d (.int .u16) r.2.2.2.2.2])], nx := 1, log := [], ln := 0 }
def ref03_Right_k2 (bits : Int) (words : Int) (t41 : Int) (t70 : Bool) (r : ZoB1q1) : St := { fr := [(1, .pb 0 0), (3, .d (.int .i64) bits), (4, .d (.int .i64) words), (41, .d (.int .u8) t41), (70, .d .bool t70)], nt := 156, up := [], own := [(0, .box 46 [.d (.int .u8) r.1, .d (.int .u8) r.2.1, .d (.sl .bool) r.2.2.1, .d (.sl (.int .u16)) r.2.2.2.1, .d (.int .u16) r.2.2.2.2.1, .d (.int .u16) r.2.2.2.2.2])], nx := 1, log := [], ln := 0 }
def ref03_Right_m1 (j2 : Int → Int → Int → Bool → ZoB1q1 → Option (As [.bool])) (bits : Int) (words : Int) (t41 : Int) (t42 : Bool) (r : ZoB1q1) : Option (As [.bool]) :=
  if t42 = true then if ge bits 8 = true then if le bits 2000 = true then if eqi (rem bits 8) 0 = true then if eqi words 0 = true then if eqi r.2.2.2.2.1 0 = true then some (eqi r.2.2.2.2.2 0, ()) else some (false, ()) else some (false, ()) else some (false, ()) else some (false, ()) else some (false, ()) else if eqi t41 3 = true then j2 bits words t41 true r else if eqi t41 4 = true then j2 bits words t41 true r else j2 bits words t41 (eqi t41 23) r
def ref03_Right_m2 (bits : Int) (words : Int) (t41 : Int) (t70 : Bool) (r : ZoB1q1) : Option (As [.bool]) :=
  if t70 = true then if eqi bits 0 = true then if ge words 1 = true then if le words 125 = true then if eqi r.2.2.2.2.1 0 = true then some (eqi r.2.2.2.2.2 0, ()) else some (false, ()) else some (false, ()) else some (false, ()) else some (false, ()) else if eqi t41 5 = true then if eqi bits 1 = true then if eqi words 0 = true then some (eqi r.2.2.2.2.2 0, ()) else some (false, ()) else some (false, ()) else if eqi t41 6 = true then if eqi bits 0 = true then if eqi words 1 = true then some (eqi r.2.2.2.2.2 0, ()) else some (false, ()) else some (false, ()) else if eqi t41 15 = true then if eqi bits 0 = true then if eqi words 0 = true then if ge r.2.2.2.2.2 1 = true then some (le r.2.2.2.2.2 1968, ()) else some (false, ()) else some (false, ()) else some (false, ()) else if eqi t41 16 = true then if eqi bits 0 = true then if eqi words 0 = true then if ge r.2.2.2.2.2 1 = true then some (le r.2.2.2.2.2 123, ()) else some (false, ()) else some (false, ()) else some (false, ()) else some (false, ())
def ref03_Right_m0 (j1 : Int → Int → Int → Bool → ZoB1q1 → Option (As [.bool])) (r : ZoB1q1) : Option (As [.bool]) :=
  if nei r.2.1 0 = true then if le r.1 127 = true then if le r.2.1 4 = true then if eqi (Int.ofNat (List.length r.2.2.1)) 0 = true then if eqi (Int.ofNat (List.length r.2.2.2.1)) 0 = true then if eqi r.2.2.2.2.1 0 = true then some (eqi r.2.2.2.2.2 0, ()) else some (false, ()) else some (false, ()) else some (false, ()) else some (false, ()) else some (false, ()) else if eqi r.1 1 = true then j1 (Int.ofNat (List.length r.2.2.1)) (Int.ofNat (List.length r.2.2.2.1)) r.1 true r else j1 (Int.ofNat (List.length r.2.2.1)) (Int.ofNat (List.length r.2.2.2.1)) r.1 (eqi r.1 2) r
def ref03_Right_K2 (bits : Int) (words : Int) (t41 : Int) (t70 : Bool) (r : ZoB1q1) : Option (As [.bool]) := ref03_Right_m2 bits words t41 t70 r
def ref03_Right_K1 (bits : Int) (words : Int) (t41 : Int) (t42 : Bool) (r : ZoB1q1) : Option (As [.bool]) := ref03_Right_m1 (ref03_Right_K2) bits words t41 t42 r
def ref03_Right (x : As [.pr (.int .u8) LBT1]) : Option (As [.bool]) := ref03_Right_m0 ref03_Right_K1 x.1
theorem ref03_Right_c2 (J : Orc (As [.bool])) (bits : Int) (words : Int) (t41 : Int) (t70 : Bool) (r : ZoB1q1) : pfn Tryz.prog ref03_Right_e 6 18446744073709551616 (Ev.get ref03_Right_h) 168 ref03_Right_s J 491 [] (ref03_Right_k2 bits words t41 t70 r) = ref03_Right_m2 bits words t41 t70 r := by kernel_rfl
theorem ref03_Right_c1 (J : Orc (As [.bool])) (bits : Int) (words : Int) (t41 : Int) (t42 : Bool) (r : ZoB1q1) : pfn Tryz.prog ref03_Right_e 6 18446744073709551616 (Ev.get ref03_Right_h) 168 ref03_Right_s J 122 [] (ref03_Right_k1 bits words t41 t42 r) = ref03_Right_m1 (fun bits words t41 t70 r => J 491 [] (ref03_Right_k2 bits words t41 t70 r)) bits words t41 t42 r := by kernel_rfl
theorem ref03_Right_c0 (J : Orc (As [.bool])) (x : As [.pr (.int .u8) LBT1]) : rfn Tryz.prog ref03_Right_e 6 18446744073709551616 (Ev.get ref03_Right_h) 168 ref03_Right_s J x = ref03_Right_m0 (fun bits words t41 t42 r => J 122 [] (ref03_Right_k1 bits words t41 t42 r)) x.1 := by kernel_rfl
theorem ref03_Right_g2 (bits : Int) (words : Int) (t41 : Int) (t70 : Bool) (r : ZoB1q1) : jfn Tryz.prog ref03_Right_e 6 18446744073709551616 (Ev.get ref03_Right_h) 168 ref03_Right_s 491 [] (ref03_Right_k2 bits words t41 t70 r) = ref03_Right_K2 bits words t41 t70 r := by
  rw [pfn_eq (by decide)]
  rw [ref03_Right_c2]
  rfl
theorem ref03_Right_g1 (bits : Int) (words : Int) (t41 : Int) (t42 : Bool) (r : ZoB1q1) : jfn Tryz.prog ref03_Right_e 6 18446744073709551616 (Ev.get ref03_Right_h) 168 ref03_Right_s 122 [] (ref03_Right_k1 bits words t41 t42 r) = ref03_Right_K1 bits words t41 t42 r := by
  rw [pfn_eq (by decide)]
  have e2 : (fun bits words t41 t70 r => (jfn Tryz.prog ref03_Right_e 6 18446744073709551616 (Ev.get ref03_Right_h) 168 ref03_Right_s) 491 [] (ref03_Right_k2 bits words t41 t70 r)) = ref03_Right_K2 := funext fun bits => funext fun words => funext fun t41 => funext fun t70 => funext fun r => ref03_Right_g2 bits words t41 t70 r
  rw [ref03_Right_c1, e2]
  rfl
theorem ref03_Right_t (x : As [.pr (.int .u8) LBT1]) : evT Tryz.prog ref03_Right_e 6 18446744073709551616 (Ev.get ref03_Right_h) 168 ref03_Right_s x = ref03_Right x := by
  have e1 : (fun bits words t41 t42 r => (jfn Tryz.prog ref03_Right_e 6 18446744073709551616 (Ev.get ref03_Right_h) 168 ref03_Right_s) 122 [] (ref03_Right_k1 bits words t41 t42 r)) = ref03_Right_K1 := funext fun bits => funext fun words => funext fun t41 => funext fun t42 => funext fun r => ref03_Right_g1 bits words t41 t42 r
  rw [rfn_eq, ref03_Right_c0, e1]
  rfl
theorem ref03_Right_ok : CtOk Tryz.prog (fun _ => True) 168 ⟨ref03_Right_s, ref03_Right⟩ := ct_of_ev env_nil ref03_Right_t
/-! ref03_Bytes -/
@[reducible] def ref03_Bytes_s : Sh := ⟨[.d (.pr (.int .u8) LBT1)], [], [.pr (.int .u8) LBT1], [.d (.sl (.int .u8)), .d (.int .i64)], [], 0, [.sl (.int .u8), .int .i64]⟩
def ref03_Bytes_e : Env := (cts [(168, (⟨ref03_Right_s, ref03_Right⟩ : Ct)), (193, (⟨ref02_Pack_s, ref02_Pack⟩ : Ct)), (194, (⟨ref02_Words_s, ref02_Words⟩ : Ct)), (195, (⟨ref02_Two_s, ref02_Two⟩ : Ct))])
def ref03_Bytes_h : List (Nat × Hint) := [(127, ⟨[], [1, 5, 6]⟩), (255, ⟨[], [5, 6]⟩), (254, ⟨[], [1, 5, 6, 68]⟩), (122, ⟨[], [1, 20, 21, 64, 65, 66, 67]⟩), (491, ⟨[], [1, 35, 64, 65, 66, 67]⟩)]
def ref03_Bytes_k1 (t20 : Int) (t21 : Bool) (r : ZoB1q1) : St := { fr := [(1, .pb 0 0), (20, .d (.int .u8) t20), (21, .d .bool t21)], nt := 80, up := [], own := [(0, .box 46 [.d (.int .u8) r.1, .d (.int .u8) r.2.1, .d (.sl .bool) r.2.2.1, .d (.sl (.int .u16)) r.2.2.2.1, .d (.int .u16) r.2.2.2.2.1, .d (.int .u16) r.2.2.2.2.2])], nx := 1, log := [], ln := 0 }
def ref03_Bytes_k2 (t35 : Bool) (r : ZoB1q1) : St := { fr := [(1, .pb 0 0), (35, .d .bool t35)], nt := 80, up := [], own := [(0, .box 46 [.d (.int .u8) r.1, .d (.int .u8) r.2.1, .d (.sl .bool) r.2.2.1, .d (.sl (.int .u16)) r.2.2.2.1, .d (.int .u16) r.2.2.2.2.1, .d (.int .u16) r.2.2.2.2.2])], nx := 1, log := [], ln := 0 }
def ref03_Bytes_k3 (x : Int) (t68 : Bool) (r : ZoB1q1) (out : List Int) : St := { fr := [(1, .pb 0 0), (5, .row 1), (6, .d (.int .i64) x), (68, .d .bool t68)], nt := 80, up := [], own := [(0, .box 46 [.d (.int .u8) r.1, .d (.int .u8) r.2.1, .d (.sl .bool) r.2.2.1, .d (.sl (.int .u16)) r.2.2.2.1, .d (.int .u16) r.2.2.2.2.1, .d (.int .u16) r.2.2.2.2.2]), (1, .row (.int .u8) 5 out)], nx := 2, log := [], ln := 0 }
def ref03_Bytes_k4 (x : Int) (r : ZoB1q1) (out : List Int) : St := { fr := [(1, .pb 0 0), (5, .row 1), (6, .d (.int .i64) x)], nt := 80, up := [], own := [(0, .box 46 [.d (.int .u8) r.1, .d (.int .u8) r.2.1, .d (.sl .bool) r.2.2.1, .d (.sl (.int .u16)) r.2.2.2.1, .d (.int .u16) r.2.2.2.2.1, .d (.int .u16) r.2.2.2.2.2]), (1, .row (.int .u8) 5 out)], nx := 2, log := [], ln := 0 }
def ref03_Bytes_k5 (x : Int) (out : List Int) : St := { fr := [(5, .row 0), (6, .d (.int .i64) x)], nt := 80, up := [], own := [(0, .row (.int .u8) 5 out)], nx := 1, log := [], ln := 0 }
def ref03_Bytes_m1 (j2 : Bool → ZoB1q1 → Option (As [.sl (.int .u8), .int .i64])) (t20 : Int) (t21 : Bool) (r : ZoB1q1) : Option (As [.sl (.int .u8), .int .i64]) :=
  if t21 = true then Option.bind (ref02_Pack (r.2.2.1, ())) fun (y : List Int × Unit) => need (small (2 + List.length y.1)) (some (r.1 :: Int.ofNat (List.length y.1 % 256) :: y.1, 0, ())) else if eqi t20 3 = true then j2 true r else if eqi t20 4 = true then j2 true r else j2 (eqi t20 23) r
def ref03_Bytes_m2 (j3 : Int → Bool → ZoB1q1 → List Int → Option (As [.sl (.int .u8), .int .i64])) (t35 : Bool) (r : ZoB1q1) : Option (As [.sl (.int .u8), .int .i64]) :=
  if t35 = true then Option.bind (ref02_Words (r.2.2.2.1, [r.1, cvt .u8 (mul .i64 2 (Int.ofNat (List.length r.2.2.2.1)))], ())) fun (y : List Int × Unit) => some (y.1, 0, ()) else Option.bind (ref02_Two (cvt .i64 r.2.2.2.2.1, [r.1], ())) fun (y : List Int × Unit) => if eqi r.1 5 = true then Option.bind (at? r.2.2.1 0) fun (y_1 : Bool) => j3 (cvt .i64 r.2.2.2.2.2) y_1 r y.1 else j3 (cvt .i64 r.2.2.2.2.2) false r y.1
def ref03_Bytes_m3 (j4 : Int → ZoB1q1 → List Int → Option (As [.sl (.int .u8), .int .i64])) (x : Int) (t68 : Bool) (r : ZoB1q1) (out : List Int) : Option (As [.sl (.int .u8), .int .i64]) :=
  if t68 = true then j4 65280 r out else j4 x r out
def ref03_Bytes_m4 (j5 : Int → List Int → Option (As [.sl (.int .u8), .int .i64])) (x : Int) (r : ZoB1q1) (out : List Int) : Option (As [.sl (.int .u8), .int .i64]) :=
  if eqi r.1 6 = true then Option.bind (at? r.2.2.2.1 0) fun (y : Int) => j5 (cvt .i64 y) out else j5 x out
def ref03_Bytes_m5 (x : Int) (out : List Int) : Option (As [.sl (.int .u8), .int .i64]) :=
  Option.bind (ref02_Two (x, out, ())) fun (y : List Int × Unit) => some (y.1, 0, ())
def ref03_Bytes_m0 (j1 : Int → Bool → ZoB1q1 → Option (As [.sl (.int .u8), .int .i64])) (r : ZoB1q1) : Option (As [.sl (.int .u8), .int .i64]) :=
  Option.bind (ref03_Right (r, ())) fun (y : Bool × Unit) => if (!y.1) = true then some ([], 13, ()) else if nei r.2.1 0 = true then some ([add .u8 r.1 128, r.2.1], 0, ()) else if eqi r.1 1 = true then j1 r.1 true r else j1 r.1 (eqi r.1 2) r
def ref03_Bytes_K5 (x : Int) (out : List Int) : Option (As [.sl (.int .u8), .int .i64]) := ref03_Bytes_m5 x out
def ref03_Bytes_K4 (x : Int) (r : ZoB1q1) (out : List Int) : Option (As [.sl (.int .u8), .int .i64]) := ref03_Bytes_m4 (ref03_Bytes_K5) x r out
def ref03_Bytes_K3 (x : Int) (t68 : Bool) (r : ZoB1q1) (out : List Int) : Option (As [.sl (.int .u8), .int .i64]) := ref03_Bytes_m3 (ref03_Bytes_K4) x t68 r out
def ref03_Bytes_K2 (t35 : Bool) (r : ZoB1q1) : Option (As [.sl (.int .u8), .int .i64]) := ref03_Bytes_m2 (ref03_Bytes_K3) t35 r
def ref03_Bytes_K1 (t20 : Int) (t21 : Bool) (r : ZoB1q1) : Option (As [.sl (.int .u8), .int .i64]) := ref03_Bytes_m1 (ref03_Bytes_K2) t20 t21 r
def ref03_Bytes (x : As [.pr (.int .u8) LBT1]) : Option (As [.sl (.int .u8), .int .i64]) := ref03_Bytes_m0 ref03_Bytes_K1 x.1
theorem ref03_Bytes_c5 (J : Orc (As [.sl (.int .u8), .int .i64])) (x : Int) (out : List Int) : pfn Tryz.prog ref03_Bytes_e 6 18446744073709551616 (Ev.get ref03_Bytes_h) 136 ref03_Bytes_s J 255 [] (ref03_Bytes_k5 x out) = ref03_Bytes_m5 x out := by kernel_rfl
theorem ref03_Bytes_c4 (J : Orc (As [.sl (.int .u8), .int .i64])) (x : Int) (r : ZoB1q1) (out : List Int) : pfn Tryz.prog ref03_Bytes_e 6 18446744073709551616 (Ev.get ref03_Bytes_h) 136 ref03_Bytes_s J 127 [] (ref03_Bytes_k4 x r out) = ref03_Bytes_m4 (fun x out => J 255 [] (ref03_Bytes_k5 x out)) x r out := by kernel_rfl
theorem ref03_Bytes_c3 (J : Orc (As [.sl (.int .u8), .int .i64])) (x : Int) (t68 : Bool) (r : ZoB1q1) (out : List Int) : pfn Tryz.prog ref03_Bytes_e 6 18446744073709551616 (Ev.get ref03_Bytes_h) 136 ref03_Bytes_s J 254 [] (ref03_Bytes_k3 x t68 r out) = ref03_Bytes_m3 (fun x r out => J 127 [] (ref03_Bytes_k4 x r out)) x t68 r out := by kernel_rfl
theorem ref03_Bytes_c2 (J : Orc (As [.sl (.int .u8), .int .i64])) (t35 : Bool) (r : ZoB1q1) : pfn Tryz.prog ref03_Bytes_e 6 18446744073709551616 (Ev.get ref03_Bytes_h) 136 ref03_Bytes_s J 491 [] (ref03_Bytes_k2 t35 r) = ref03_Bytes_m2 (fun x t68 r out => J 254 [] (ref03_Bytes_k3 x t68 r out)) t35 r := by kernel_rfl
theorem ref03_Bytes_c1 (J : Orc (As [.sl (.int .u8), .int .i64])) (t20 : Int) (t21 : Bool) (r : ZoB1q1) : pfn Tryz.prog ref03_Bytes_e 6 18446744073709551616 (Ev.get ref03_Bytes_h) 136 ref03_Bytes_s J 122 [] (ref03_Bytes_k1 t20 t21 r) = ref03_Bytes_m1 (fun t35 r => J 491 [] (ref03_Bytes_k2 t35 r)) t20 t21 r := by kernel_rfl
theorem ref03_Bytes_c0 (J : Orc (As [.sl (.int .u8), .int .i64])) (x : As [.pr (.int .u8) LBT1]) : rfn Tryz.prog ref03_Bytes_e 6 18446744073709551616 (Ev.get ref03_Bytes_h) 136 ref03_Bytes_s J x = ref03_Bytes_m0 (fun t20 t21 r => J 122 [] (ref03_Bytes_k1 t20 t21 r)) x.1 := by kernel_rfl
theorem ref03_Bytes_g5 (x : Int) (out : List Int) : jfn Tryz.prog ref03_Bytes_e 6 18446744073709551616 (Ev.get ref03_Bytes_h) 136 ref03_Bytes_s 255 [] (ref03_Bytes_k5 x out) = ref03_Bytes_K5 x out := by
  rw [pfn_eq (by decide)]
  rw [ref03_Bytes_c5]
  rfl
theorem ref03_Bytes_g4 (x : Int) (r : ZoB1q1) (out : List Int) : jfn Tryz.prog ref03_Bytes_e 6 18446744073709551616 (Ev.get ref03_Bytes_h) 136 ref03_Bytes_s 127 [] (ref03_Bytes_k4 x r out) = ref03_Bytes_K4 x r out := by
  rw [pfn_eq (by decide)]
  have e5 : (fun x out => (jfn Tryz.prog ref03_Bytes_e 6 18446744073709551616 (Ev.get ref03_Bytes_h) 136 ref03_Bytes_s) 255 [] (ref03_Bytes_k5 x out)) = ref03_Bytes_K5 := funext fun x => funext fun out => ref03_Bytes_g5 x out
  rw [ref03_Bytes_c4, e5]
  rfl
theorem ref03_Bytes_g3 (x : Int) (t68 : Bool) (r : ZoB1q1) (out : List Int) : jfn Tryz.prog ref03_Bytes_e 6 18446744073709551616 (Ev.get ref03_Bytes_h) 136 ref03_Bytes_s 254 [] (ref03_Bytes_k3 x t68 r out) = ref03_Bytes_K3 x t68 r out := by
  rw [pfn_eq (by decide)]
  have e4 : (fun x r out => (jfn Tryz.prog ref03_Bytes_e 6 18446744073709551616 (Ev.get ref03_Bytes_h) 136 ref03_Bytes_s) 127 [] (ref03_Bytes_k4 x r out)) = ref03_Bytes_K4 := funext fun x => funext fun r => funext fun out => ref03_Bytes_g4 x r out
  rw [ref03_Bytes_c3, e4]
  rfl
theorem ref03_Bytes_g2 (t35 : Bool) (r : ZoB1q1) : jfn Tryz.prog ref03_Bytes_e 6 18446744073709551616 (Ev.get ref03_Bytes_h) 136 ref03_Bytes_s 491 [] (ref03_Bytes_k2 t35 r) = ref03_Bytes_K2 t35 r := by
  rw [pfn_eq (by decide)]
  have e3 : (fun x t68 r out => (jfn Tryz.prog ref03_Bytes_e 6 18446744073709551616 (Ev.get ref03_Bytes_h) 136 ref03_Bytes_s) 254 [] (ref03_Bytes_k3 x t68 r out)) = ref03_Bytes_K3 := funext fun x => funext fun t68 => funext fun r => funext fun out => ref03_Bytes_g3 x t68 r out
  rw [ref03_Bytes_c2, e3]
  rfl
theorem ref03_Bytes_g1 (t20 : Int) (t21 : Bool) (r : ZoB1q1) : jfn Tryz.prog ref03_Bytes_e 6 18446744073709551616 (Ev.get ref03_Bytes_h) 136 ref03_Bytes_s 122 [] (ref03_Bytes_k1 t20 t21 r) = ref03_Bytes_K1 t20 t21 r := by
  rw [pfn_eq (by decide)]
  have e2 : (fun t35 r => (jfn Tryz.prog ref03_Bytes_e 6 18446744073709551616 (Ev.get ref03_Bytes_h) 136 ref03_Bytes_s) 491 [] (ref03_Bytes_k2 t35 r)) = ref03_Bytes_K2 := funext fun t35 => funext fun r => ref03_Bytes_g2 t35 r
  rw [ref03_Bytes_c1, e2]
  rfl
theorem ref03_Bytes_t (x : As [.pr (.int .u8) LBT1]) : evT Tryz.prog ref03_Bytes_e 6 18446744073709551616 (Ev.get ref03_Bytes_h) 136 ref03_Bytes_s x = ref03_Bytes x := by
  have e1 : (fun t20 t21 r => (jfn Tryz.prog ref03_Bytes_e 6 18446744073709551616 (Ev.get ref03_Bytes_h) 136 ref03_Bytes_s) 122 [] (ref03_Bytes_k1 t20 t21 r)) = ref03_Bytes_K1 := funext fun t20 => funext fun t21 => funext fun r => ref03_Bytes_g1 t20 t21 r
  rw [rfn_eq, ref03_Bytes_c0, e1]
  rfl
theorem ref03_Bytes_ok : CtOk Tryz.prog (fun _ => True) 136 ⟨ref03_Bytes_s, ref03_Bytes⟩ := ct_of_ev (env_cons ref03_Right_ok (env_cons ref02_Pack_ok (env_cons ref02_Words_ok (env_cons ref02_Two_ok env_nil)))) ref03_Bytes_t
/-! ref02_Unpack -/
@[reducible] def ref02_Unpack_s : Sh := ⟨[.d (.sl (.int .u8))], [], [.sl (.int .u8)], [.d (.sl .bool)], [], 0, [.sl .bool]⟩
def ref02_Unpack_e : Env := (cts [])
def ref02_Unpack_h : List (Nat × Hint) := [(58, ⟨[.row 3 4], [0, 3, 4]⟩), (233, ⟨[], [0, 3, 4]⟩), (7462, ⟨[.row 3 4], [0, 3, 4, 5, 6]⟩)]
def ref02_Unpack_k1 (b : List Int) (i : Int) (out : List Bool) : St := { fr := [(0, .d (.sl (.int .u8)) b), (3, .row 0), (4, .d (.int .i64) i)], nt := 31, up := [], own := [(0, .row .bool 4 out)], nx := 1, log := [], ln := 0 }
def ref02_Unpack_k2 (b : List Int) (i : Int) (x : Int) (k : Int) (out : List Bool) : St := { fr := [(0, .d (.sl (.int .u8)) b), (3, .row 0), (4, .d (.int .i64) i), (5, .d (.int .i64) x), (6, .d (.int .i64) k)], nt := 31, up := [], own := [(0, .row .bool 4 out)], nx := 1, log := [], ln := 0 }
def ref02_Unpack_k3 (b : List Int) (i : Int) (out : List Bool) : St := { fr := [(0, .d (.sl (.int .u8)) b), (3, .row 0), (4, .d (.int .i64) i)], nt := 31, up := [], own := [(0, .row .bool 4 out)], nx := 1, log := [], ln := 0 }
def ref02_Unpack_m1 (j2 : List Int → Int → Int → Int → List Bool → Option (As [.sl .bool])) (self1 : List Int → Int → List Bool → Option (As [.sl .bool])) (b : List Int) (i : Int) (out : List Bool) : Option (As [.sl .bool]) :=
  if lt i (Int.ofNat (List.length b)) = true then Option.bind (at? b i) fun (y : Int) => j2 b i (cvt .i64 y) 0 out else some (out, ())
def ref02_Unpack_m2 (j3 : List Int → Int → List Bool → Option (As [.sl .bool])) (self1 : List Int → Int → List Bool → Option (As [.sl .bool])) (self2 : List Int → Int → Int → Int → List Bool → Option (As [.sl .bool])) (b : List Int) (i : Int) (x : Int) (k : Int) (out : List Bool) : Option (As [.sl .bool]) :=
  if lt k 8 = true then need (small (List.length out + 1)) (self2 b i (quo .i64 x 2) (add .i64 k 1) (out ++ [eqi (rem x 2) 1])) else j3 b i out
def ref02_Unpack_m3 (self1 : List Int → Int → List Bool → Option (As [.sl .bool])) (b : List Int) (i : Int) (out : List Bool) : Option (As [.sl .bool]) :=
  self1 b (add .i64 i 1) out
def ref02_Unpack_m0 (j1 : List Int → Int → List Bool → Option (As [.sl .bool])) (b : List Int) : Option (As [.sl .bool]) :=
  j1 b 0 []
def ref02_Unpack_K3 (u1 : List Int → Int → List Bool → Option (As [.sl .bool])) (b : List Int) (i : Int) (out : List Bool) : Option (As [.sl .bool]) := ref02_Unpack_m3 u1 b i out
def ref02_Unpack_K2 (u1 : List Int → Int → List Bool → Option (As [.sl .bool])) (b : List Int) (i : Int) (x : Int) (k : Int) (out : List Bool) : Option (As [.sl .bool]) :=
  loopF (fun (self : (List Int) × (Int) × (Int) × (Int) × (List Bool) → Option (As [.sl .bool])) (s : (List Int) × (Int) × (Int) × (Int) × (List Bool)) => ref02_Unpack_m2 (ref02_Unpack_K3 u1) u1 (fun b i x k out => self (b, i, x, k, out)) s.1 s.2.1 s.2.2.1 s.2.2.2.1 s.2.2.2.2) 18446744073709551616 (b, i, x, k, out)
def ref02_Unpack_K1 (b : List Int) (i : Int) (out : List Bool) : Option (As [.sl .bool]) :=
  loopF (fun (self : (List Int) × (Int) × (List Bool) → Option (As [.sl .bool])) (s : (List Int) × (Int) × (List Bool)) => ref02_Unpack_m1 (ref02_Unpack_K2 (fun b i out => self (b, i, out))) (fun b i out => self (b, i, out)) s.1 s.2.1 s.2.2) 18446744073709551616 (b, i, out)
def ref02_Unpack (x : As [.sl (.int .u8)]) : Option (As [.sl .bool]) := ref02_Unpack_m0 ref02_Unpack_K1 x.1
theorem ref02_Unpack_c3 (J : Orc (As [.sl .bool])) (w1 : St → Option (As [.sl .bool])) (b : List Int) (i : Int) (out : List Bool) : pfn Tryz.prog ref02_Unpack_e 6 18446744073709551616 (Ev.get ref02_Unpack_h) 166 ref02_Unpack_s J 233 [w1] (ref02_Unpack_k3 b i out) = ref02_Unpack_m3 (fun b i out => w1 (ref02_Unpack_k1 b i out)) b i out := by kernel_rfl
theorem ref02_Unpack_c2 (J : Orc (As [.sl .bool])) (w1 : St → Option (As [.sl .bool])) (w2 : St → Option (As [.sl .bool])) (b : List Int) (i : Int) (x : Int) (k : Int) (out : List Bool) : pfn Tryz.prog ref02_Unpack_e 6 18446744073709551616 (Ev.get ref02_Unpack_h) 166 ref02_Unpack_s J 7462 [w1, w2] (ref02_Unpack_k2 b i x k out) = ref02_Unpack_m2 (fun b i out => J 233 [w1] (ref02_Unpack_k3 b i out)) (fun b i out => w1 (ref02_Unpack_k1 b i out)) (fun b i x k out => w2 (ref02_Unpack_k2 b i x k out)) b i x k out := by kernel_rfl
theorem ref02_Unpack_c1 (J : Orc (As [.sl .bool])) (w1 : St → Option (As [.sl .bool])) (b : List Int) (i : Int) (out : List Bool) : pfn Tryz.prog ref02_Unpack_e 6 18446744073709551616 (Ev.get ref02_Unpack_h) 166 ref02_Unpack_s J 58 [w1] (ref02_Unpack_k1 b i out) = ref02_Unpack_m1 (fun b i x k out => J 7462 [w1] (ref02_Unpack_k2 b i x k out)) (fun b i out => w1 (ref02_Unpack_k1 b i out)) b i out := by kernel_rfl
theorem ref02_Unpack_c0 (J : Orc (As [.sl .bool])) (x : As [.sl (.int .u8)]) : rfn Tryz.prog ref02_Unpack_e 6 18446744073709551616 (Ev.get ref02_Unpack_h) 166 ref02_Unpack_s J x = ref02_Unpack_m0 (fun b i out => J 58 [] (ref02_Unpack_k1 b i out)) x.1 := by kernel_rfl
theorem ref02_Unpack_g3 (w1 : St → Option (As [.sl .bool])) (b : List Int) (i : Int) (out : List Bool) : jfn Tryz.prog ref02_Unpack_e 6 18446744073709551616 (Ev.get ref02_Unpack_h) 166 ref02_Unpack_s 233 [w1] (ref02_Unpack_k3 b i out) = ref02_Unpack_K3 (fun b i out => w1 (ref02_Unpack_k1 b i out)) b i out := by
  rw [pfn_eq (by decide)]
  rw [ref02_Unpack_c3]
  rfl
theorem ref02_Unpack_g2 (w1 : St → Option (As [.sl .bool])) (b : List Int) (i : Int) (x : Int) (k : Int) (out : List Bool) : jfn Tryz.prog ref02_Unpack_e 6 18446744073709551616 (Ev.get ref02_Unpack_h) 166 ref02_Unpack_s 7462 [w1] (ref02_Unpack_k2 b i x k out) = ref02_Unpack_K2 (fun b i out => w1 (ref02_Unpack_k1 b i out)) b i x k out := by
  rw [pfn_eq (by decide)]
  rw [pfn_loop (by kernel_rfl)]
  refine loopF_sim (σ := (List Int) × (Int) × (Int) × (Int) × (List Bool)) (mk := fun s => ref02_Unpack_k2 s.1 s.2.1 s.2.2.1 s.2.2.2.1 s.2.2.2.2) (fun w2 s => ?_) 18446744073709551616 (b, i, x, k, out)
  have e3 : (fun b i out => (jfn Tryz.prog ref02_Unpack_e 6 18446744073709551616 (Ev.get ref02_Unpack_h) 166 ref02_Unpack_s) 233 [w1] (ref02_Unpack_k3 b i out)) = ref02_Unpack_K3 (fun b i out => w1 (ref02_Unpack_k1 b i out)) := funext fun b => funext fun i => funext fun out => ref02_Unpack_g3 w1 b i out
  refine (ref02_Unpack_c2 _ w1 w2 s.1 s.2.1 s.2.2.1 s.2.2.2.1 s.2.2.2.2).trans ?_
  rw [e3]
theorem ref02_Unpack_g1 (b : List Int) (i : Int) (out : List Bool) : jfn Tryz.prog ref02_Unpack_e 6 18446744073709551616 (Ev.get ref02_Unpack_h) 166 ref02_Unpack_s 58 [] (ref02_Unpack_k1 b i out) = ref02_Unpack_K1 b i out := by
  rw [pfn_eq (by decide)]
  rw [pfn_loop (by kernel_rfl)]
  refine loopF_sim (σ := (List Int) × (Int) × (List Bool)) (mk := fun s => ref02_Unpack_k1 s.1 s.2.1 s.2.2) (fun w1 s => ?_) 18446744073709551616 (b, i, out)
  have e2 : (fun b i x k out => (jfn Tryz.prog ref02_Unpack_e 6 18446744073709551616 (Ev.get ref02_Unpack_h) 166 ref02_Unpack_s) 7462 [w1] (ref02_Unpack_k2 b i x k out)) = ref02_Unpack_K2 (fun b i out => w1 (ref02_Unpack_k1 b i out)) := funext fun b => funext fun i => funext fun x => funext fun k => funext fun out => ref02_Unpack_g2 w1 b i x k out
  refine (ref02_Unpack_c1 _ w1 s.1 s.2.1 s.2.2).trans ?_
  rw [e2]
theorem ref02_Unpack_t (x : As [.sl (.int .u8)]) : evT Tryz.prog ref02_Unpack_e 6 18446744073709551616 (Ev.get ref02_Unpack_h) 166 ref02_Unpack_s x = ref02_Unpack x := by
  have e1 : (fun b i out => (jfn Tryz.prog ref02_Unpack_e 6 18446744073709551616 (Ev.get ref02_Unpack_h) 166 ref02_Unpack_s) 58 [] (ref02_Unpack_k1 b i out)) = ref02_Unpack_K1 := funext fun b => funext fun i => funext fun out => ref02_Unpack_g1 b i out
  rw [rfn_eq, ref02_Unpack_c0, e1]
  rfl
theorem ref02_Unpack_ok : CtOk Tryz.prog (fun _ => True) 166 ⟨ref02_Unpack_s, ref02_Unpack⟩ := ct_of_ev env_nil ref02_Unpack_t
/-! ref02_At -/
@[reducible] def ref02_At_s : Sh := ⟨[.d (.sl (.int .u8)), .d (.int .i64)], [], [.sl (.int .u8), .int .i64], [.d (.int .i64)], [], 0, [.int .i64]⟩
def ref02_At_e : Env := (cts [])
def ref02_At_h : List (Nat × Hint) := []
def ref02_At_m0 (b : List Int) (i : Int) : Option (As [.int .i64]) :=
  if ge (add .i64 i 1) (Int.ofNat (List.length b)) = true then some (0, ()) else Option.bind (at? b i) fun (y : Int) => Option.bind (at? b (add .i64 i 1)) fun (y_1 : Int) => some (add .i64 (mul .i64 256 (cvt .i64 y)) (cvt .i64 y_1), ())
def ref02_At (x : As [.sl (.int .u8), .int .i64]) : Option (As [.int .i64]) := ref02_At_m0 x.1 x.2.1
theorem ref02_At_c0 (J : Orc (As [.int .i64])) (x : As [.sl (.int .u8), .int .i64]) : rfn Tryz.prog ref02_At_e 6 18446744073709551616 (Ev.get ref02_At_h) 167 ref02_At_s J x = ref02_At_m0 x.1 x.2.1 := by kernel_rfl
theorem ref02_At_t (x : As [.sl (.int .u8), .int .i64]) : evT Tryz.prog ref02_At_e 6 18446744073709551616 (Ev.get ref02_At_h) 167 ref02_At_s x = ref02_At x := by
  rw [rfn_eq, ref02_At_c0]
  rfl
theorem ref02_At_ok : CtOk Tryz.prog (fun _ => True) 167 ⟨ref02_At_s, ref02_At⟩ := ct_of_ev env_nil ref02_At_t
/-! ref03_Parse -/
@[reducible] def ref03_Parse_s : Sh := ⟨[.d (.sl (.int .u8))], [], [.sl (.int .u8)], [.d (.pr (.int .u8) LBT1), .d (.int .i64)], [], 0, [.pr (.int .u8) LBT1, .int .i64]⟩
def ref03_Parse_e : Env := (cts [(136, (⟨ref03_Bytes_s, ref03_Bytes⟩ : Ct)), (166, (⟨ref02_Unpack_s, ref02_Unpack⟩ : Ct)), (167, (⟨ref02_At_s, ref02_At⟩ : Ct))])
def ref03_Parse_h : List (Nat × Hint) := [(15, ⟨[], [0, 2, 4, 100, 101, 102, 103, 104]⟩), (31, ⟨[.frb 2, .frb 4], [0, 2, 4]⟩), (254, ⟨[], [2, 4, 105]⟩), (250, ⟨[], [0, 2, 4, 31, 32, 100, 101, 102, 103, 104]⟩), (1003, ⟨[], [0, 2, 4, 31, 39, 100, 101, 102, 103, 104]⟩), (64255, ⟨[], [0, 2, 4, 81, 100, 101, 102, 103, 104]⟩), (16058, ⟨[.rwb 4 3 23], [0, 2, 4, 5]⟩)]
def ref03_Parse_k1 (b : List Int) (t2 : Int) (t2_2 : Int) (t2_3 : Int) (t2_4 : Int) (r : Int) (r_2 : Int) (r_3 : Int) (r_4 : Int) : St := { fr := [(0, .d (.sl (.int .u8)) b), (2, .pb 0 0), (4, .pb 1 0)], nt := 108, up := [], own := [(0, .box 46 [.d (.int .u8) t2, .d (.int .u8) t2_2, .k (Go.Value.slice Option.none 0 0), .k (Go.Value.slice Option.none 0 0), .d (.int .u16) t2_3, .d (.int .u16) t2_4]), (1, .box 46 [.d (.int .u8) r, .d (.int .u8) r_2, .k (Go.Value.slice Option.none 0 0), .k (Go.Value.slice Option.none 0 0), .d (.int .u16) r_3, .d (.int .u16) r_4])], nx := 2, log := [], ln := 0 }
def ref03_Parse_k2 (b : List Int) (t31 : Int) (t32 : Bool) (t2 : Int) (t2_2 : Int) (t2_3 : Int) (t2_4 : Int) (r : Int) (r_2 : Int) (r_3 : Int) (r_4 : Int) : St := { fr := [(0, .d (.sl (.int .u8)) b), (2, .pb 0 0), (4, .pb 1 0), (31, .d (.int .u8) t31), (32, .d .bool t32)], nt := 108, up := [], own := [(0, .box 46 [.d (.int .u8) t2, .d (.int .u8) t2_2, .k (Go.Value.slice Option.none 0 0), .k (Go.Value.slice Option.none 0 0), .d (.int .u16) t2_3, .d (.int .u16) t2_4]), (1, .box 46 [.d (.int .u8) r, .d (.int .u8) r_2, .k (Go.Value.slice Option.none 0 0), .k (Go.Value.slice Option.none 0 0), .d (.int .u16) r_3, .d (.int .u16) r_4])], nx := 2, log := [], ln := 0 }
def ref03_Parse_k3 (b : List Int) (t2 : ZoB1q1) (r : ZoB1q1) : St := { fr := [(0, .d (.sl (.int .u8)) b), (2, .pb 0 0), (4, .pb 1 0)], nt := 108, up := [], own := [(0, .box 46 [.d (.int .u8) t2.1, .d (.int .u8) t2.2.1, .d (.sl .bool) t2.2.2.1, .d (.sl (.int .u16)) t2.2.2.2.1, .d (.int .u16) t2.2.2.2.2.1, .d (.int .u16) t2.2.2.2.2.2]), (1, .box 46 [.d (.int .u8) r.1, .d (.int .u8) r.2.1, .d (.sl .bool) r.2.2.1, .d (.sl (.int .u16)) r.2.2.2.1, .d (.int .u16) r.2.2.2.2.1, .d (.int .u16) r.2.2.2.2.2])], nx := 2, log := [], ln := 0 }
def ref03_Parse_k4 (b : List Int) (t31 : Int) (t39 : Bool) (t2 : Int) (t2_2 : Int) (t2_3 : Int) (t2_4 : Int) (r : Int) (r_2 : Int) (r_3 : Int) (r_4 : Int) : St := { fr := [(0, .d (.sl (.int .u8)) b), (2, .pb 0 0), (4, .pb 1 0), (31, .d (.int .u8) t31), (39, .d .bool t39)], nt := 108, up := [], own := [(0, .box 46 [.d (.int .u8) t2, .d (.int .u8) t2_2, .k (Go.Value.slice Option.none 0 0), .k (Go.Value.slice Option.none 0 0), .d (.int .u16) t2_3, .d (.int .u16) t2_4]), (1, .box 46 [.d (.int .u8) r, .d (.int .u8) r_2, .k (Go.Value.slice Option.none 0 0), .k (Go.Value.slice Option.none 0 0), .d (.int .u16) r_3, .d (.int .u16) r_4])], nx := 2, log := [], ln := 0 }
def ref03_Parse_k5 (t105 : Bool) (t2 : ZoB1q1) (r : ZoB1q1) : St := { fr := [(2, .pb 0 0), (4, .pb 1 0), (105, .d .bool t105)], nt := 108, up := [], own := [(0, .box 46 [.d (.int .u8) t2.1, .d (.int .u8) t2.2.1, .d (.sl .bool) t2.2.2.1, .d (.sl (.int .u16)) t2.2.2.2.1, .d (.int .u16) t2.2.2.2.2.1, .d (.int .u16) t2.2.2.2.2.2]), (1, .box 46 [.d (.int .u8) r.1, .d (.int .u8) r.2.1, .d (.sl .bool) r.2.2.1, .d (.sl (.int .u16)) r.2.2.2.1, .d (.int .u16) r.2.2.2.2.1, .d (.int .u16) r.2.2.2.2.2])], nx := 2, log := [], ln := 0 }
def ref03_Parse_k6 (b : List Int) (i : Int) (t2 : Int) (t2_2 : Int) (t2_3 : Int) (t2_4 : Int) (r : Int) (r_2 : Int) (r_3 : Int) (r_4 : Int) (o : List Int) : St := { fr := [(0, .d (.sl (.int .u8)) b), (2, .pb 0 0), (4, .pb 1 0), (5, .d (.int .i64) i)], nt := 108, up := [], own := [(0, .box 46 [.d (.int .u8) t2, .d (.int .u8) t2_2, .k (Go.Value.slice Option.none 0 0), .k (Go.Value.slice Option.none 0 0), .d (.int .u16) t2_3, .d (.int .u16) t2_4]), (1, .box 46 [.d (.int .u8) r, .d (.int .u8) r_2, .k (Go.Value.slice Option.none 0 0), .row 2, .d (.int .u16) r_3, .d (.int .u16) r_4]), (2, .row (.int .u16) 23 o)], nx := 3, log := [], ln := 0 }
def ref03_Parse_k7 (b : List Int) (t81 : Bool) (t2 : Int) (t2_2 : Int) (t2_3 : Int) (t2_4 : Int) (r : Int) (r_2 : Int) (r_3 : Int) (r_4 : Int) : St := { fr := [(0, .d (.sl (.int .u8)) b), (2, .pb 0 0), (4, .pb 1 0), (81, .d .bool t81)], nt := 108, up := [], own := [(0, .box 46 [.d (.int .u8) t2, .d (.int .u8) t2_2, .k (Go.Value.slice Option.none 0 0), .k (Go.Value.slice Option.none 0 0), .d (.int .u16) t2_3, .d (.int .u16) t2_4]), (1, .box 46 [.d (.int .u8) r, .d (.int .u8) r_2, .k (Go.Value.slice Option.none 0 0), .k (Go.Value.slice Option.none 0 0), .d (.int .u16) r_3, .d (.int .u16) r_4])], nx := 2, log := [], ln := 0 }
def ref03_Parse_m1 (j2 : List Int → Int → Bool → Int → Int → Int → Int → Int → Int → Int → Int → Option (As [.pr (.int .u8) LBT1, .int .i64])) (b : List Int) (t2 : Int) (t2_2 : Int) (t2_3 : Int) (t2_4 : Int) (r : Int) (r_2 : Int) (r_3 : Int) (r_4 : Int) : Option (As [.pr (.int .u8) LBT1, .int .i64]) :=
  Option.bind (at? b 0) fun (y : Int) => if eqi y 1 = true then j2 b y true t2 t2_2 t2_3 t2_4 r r_2 r_3 r_4 else j2 b y (eqi y 2) t2 t2_2 t2_3 t2_4 r r_2 r_3 r_4
def ref03_Parse_m2 (j3 : List Int → ZoB1q1 → ZoB1q1 → Option (As [.pr (.int .u8) LBT1, .int .i64])) (j4 : List Int → Int → Bool → Int → Int → Int → Int → Int → Int → Int → Int → Option (As [.pr (.int .u8) LBT1, .int .i64])) (b : List Int) (t31 : Int) (t32 : Bool) (t2 : Int) (t2_2 : Int) (t2_3 : Int) (t2_4 : Int) (r : Int) (r_2 : Int) (r_3 : Int) (r_4 : Int) : Option (As [.pr (.int .u8) LBT1, .int .i64]) :=
  if t32 = true then Option.bind (cut b 2 (Int.ofNat (List.length b))) fun (y : List Int) => Option.bind (ref02_Unpack (y, ())) fun (y : List Bool × Unit) => j3 b (t2, t2_2, [], [], t2_3, t2_4) (r, r_2, y.1, [], r_3, r_4) else if eqi t31 3 = true then j4 b t31 true t2 t2_2 t2_3 t2_4 r r_2 r_3 r_4 else if eqi t31 4 = true then j4 b t31 true t2 t2_2 t2_3 t2_4 r r_2 r_3 r_4 else j4 b t31 (eqi t31 23) t2 t2_2 t2_3 t2_4 r r_2 r_3 r_4
def ref03_Parse_m3 (j5 : Bool → ZoB1q1 → ZoB1q1 → Option (As [.pr (.int .u8) LBT1, .int .i64])) (b : List Int) (t2 : ZoB1q1) (r : ZoB1q1) : Option (As [.pr (.int .u8) LBT1, .int .i64]) :=
  Option.bind (ref03_Bytes (r, ())) fun (y : List Int × Int × Unit) => if nei y.2.1 0 = true then j5 true t2 r else j5 (nes (Sx.toS y.1) (Sx.toS b)) t2 r
def ref03_Parse_m4 (j6 : List Int → Int → Int → Int → Int → Int → Int → Int → Int → Int → List Int → Option (As [.pr (.int .u8) LBT1, .int .i64])) (j3 : List Int → ZoB1q1 → ZoB1q1 → Option (As [.pr (.int .u8) LBT1, .int .i64])) (j7 : List Int → Bool → Int → Int → Int → Int → Int → Int → Int → Int → Option (As [.pr (.int .u8) LBT1, .int .i64])) (b : List Int) (t31 : Int) (t39 : Bool) (t2 : Int) (t2_2 : Int) (t2_3 : Int) (t2_4 : Int) (r : Int) (r_2 : Int) (r_3 : Int) (r_4 : Int) : Option (As [.pr (.int .u8) LBT1, .int .i64]) :=
  if t39 = true then j6 b 2 t2 t2_2 t2_3 t2_4 r r_2 r_3 r_4 [] else if eqi t31 5 = true then Option.bind (ref02_At (b, 1, ())) fun (y : Int × Unit) => Option.bind (ref02_At (b, 3, ())) fun (y_1 : Int × Unit) => j3 b (t2, t2_2, [], [], t2_3, t2_4) (r, r_2, [eqi y_1.1 65280], [], cvt .u16 y.1, r_4) else if eqi t31 6 = true then Option.bind (ref02_At (b, 1, ())) fun (y : Int × Unit) => Option.bind (ref02_At (b, 3, ())) fun (y_1 : Int × Unit) => j3 b (t2, t2_2, [], [], t2_3, t2_4) (r, r_2, [], [cvt .u16 y_1.1], cvt .u16 y.1, r_4) else if eqi t31 15 = true then j7 b true t2 t2_2 t2_3 t2_4 r r_2 r_3 r_4 else j7 b (eqi t31 16) t2 t2_2 t2_3 t2_4 r r_2 r_3 r_4
def ref03_Parse_m5 (t105 : Bool) (t2 : ZoB1q1) (r : ZoB1q1) : Option (As [.pr (.int .u8) LBT1, .int .i64]) :=
  if t105 = true then some ((0, 0, [], [], 0, 0), 13, ()) else some (r, 0, ())
def ref03_Parse_m6 (j3 : List Int → ZoB1q1 → ZoB1q1 → Option (As [.pr (.int .u8) LBT1, .int .i64])) (self6 : List Int → Int → Int → Int → Int → Int → Int → Int → Int → Int → List Int → Option (As [.pr (.int .u8) LBT1, .int .i64])) (b : List Int) (i : Int) (t2 : Int) (t2_2 : Int) (t2_3 : Int) (t2_4 : Int) (r : Int) (r_2 : Int) (r_3 : Int) (r_4 : Int) (o : List Int) : Option (As [.pr (.int .u8) LBT1, .int .i64]) :=
  if lt (add .i64 i 1) (Int.ofNat (List.length b)) = true then Option.bind (ref02_At (b, i, ())) fun (y : Int × Unit) => need (small (List.length o + 1)) (self6 b (add .i64 i 2) t2 t2_2 t2_3 t2_4 r r_2 r_3 r_4 (o ++ [cvt .u16 y.1])) else j3 b (t2, t2_2, [], [], t2_3, t2_4) (r, r_2, [], o, r_3, r_4)
def ref03_Parse_m7 (j3 : List Int → ZoB1q1 → ZoB1q1 → Option (As [.pr (.int .u8) LBT1, .int .i64])) (b : List Int) (t81 : Bool) (t2 : Int) (t2_2 : Int) (t2_3 : Int) (t2_4 : Int) (r : Int) (r_2 : Int) (r_3 : Int) (r_4 : Int) : Option (As [.pr (.int .u8) LBT1, .int .i64]) :=
  if t81 = true then Option.bind (ref02_At (b, 1, ())) fun (y : Int × Unit) => Option.bind (ref02_At (b, 3, ())) fun (y_1 : Int × Unit) => j3 b (t2, t2_2, [], [], t2_3, t2_4) (r, r_2, [], [], cvt .u16 y.1, cvt .u16 y_1.1) else j3 b (t2, t2_2, [], [], t2_3, t2_4) (r, r_2, [], [], r_3, r_4)
def ref03_Parse_m0 (j1 : List Int → Int → Int → Int → Int → Int → Int → Int → Int → Option (As [.pr (.int .u8) LBT1, .int .i64])) (b : List Int) : Option (As [.pr (.int .u8) LBT1, .int .i64]) :=
  if lt (Int.ofNat (List.length b)) 2 = true then some ((0, 0, [], [], 0, 0), 13, ()) else Option.bind (at? b 0) fun (y : Int) => Option.bind (at? b 0) fun (y_1 : Int) => if gt y_1 127 = true then Option.bind (at? b 0) fun (y : Int) => Option.bind (at? b 1) fun (y_2 : Int) => j1 b 0 0 0 0 (Sx.sub .u8 y 128) y_2 0 0 else j1 b 0 0 0 0 y 0 0 0
def ref03_Parse_K5 (t105 : Bool) (t2 : ZoB1q1) (r : ZoB1q1) : Option (As [.pr (.int .u8) LBT1, .int .i64]) := ref03_Parse_m5 t105 t2 r
def ref03_Parse_K3 (b : List Int) (t2 : ZoB1q1) (r : ZoB1q1) : Option (As [.pr (.int .u8) LBT1, .int .i64]) := ref03_Parse_m3 (ref03_Parse_K5) b t2 r
def ref03_Parse_K6 (b : List Int) (i : Int) (t2 : Int) (t2_2 : Int) (t2_3 : Int) (t2_4 : Int) (r : Int) (r_2 : Int) (r_3 : Int) (r_4 : Int) (o : List Int) : Option (As [.pr (.int .u8) LBT1, .int .i64]) :=
  loopF (fun (self : (List Int) × (Int) × (Int) × (Int) × (Int) × (Int) × (Int) × (Int) × (Int) × (Int) × (List Int) → Option (As [.pr (.int .u8) LBT1, .int .i64])) (s : (List Int) × (Int) × (Int) × (Int) × (Int) × (Int) × (Int) × (Int) × (Int) × (Int) × (List Int)) => ref03_Parse_m6 (ref03_Parse_K3) (fun b i t2 t2_2 t2_3 t2_4 r r_2 r_3 r_4 o => self (b, i, t2, t2_2, t2_3, t2_4, r, r_2, r_3, r_4, o)) s.1 s.2.1 s.2.2.1 s.2.2.2.1 s.2.2.2.2.1 s.2.2.2.2.2.1 s.2.2.2.2.2.2.1 s.2.2.2.2.2.2.2.1 s.2.2.2.2.2.2.2.2.1 s.2.2.2.2.2.2.2.2.2.1 s.2.2.2.2.2.2.2.2.2.2) 18446744073709551616 (b, i, t2, t2_2, t2_3, t2_4, r, r_2, r_3, r_4, o)
def ref03_Parse_K7 (b : List Int) (t81 : Bool) (t2 : Int) (t2_2 : Int) (t2_3 : Int) (t2_4 : Int) (r : Int) (r_2 : Int) (r_3 : Int) (r_4 : Int) : Option (As [.pr (.int .u8) LBT1, .int .i64]) := ref03_Parse_m7 (ref03_Parse_K3) b t81 t2 t2_2 t2_3 t2_4 r r_2 r_3 r_4
def ref03_Parse_K4 (b : List Int) (t31 : Int) (t39 : Bool) (t2 : Int) (t2_2 : Int) (t2_3 : Int) (t2_4 : Int) (r : Int) (r_2 : Int) (r_3 : Int) (r_4 : Int) : Option (As [.pr (.int .u8) LBT1, .int .i64]) := ref03_Parse_m4 (ref03_Parse_K6) (ref03_Parse_K3) (ref03_Parse_K7) b t31 t39 t2 t2_2 t2_3 t2_4 r r_2 r_3 r_4
def ref03_Parse_K2 (b : List Int) (t31 : Int) (t32 : Bool) (t2 : Int) (t2_2 : Int) (t2_3 : Int) (t2_4 : Int) (r : Int) (r_2 : Int) (r_3 : Int) (r_4 : Int) : Option (As [.pr (.int .u8) LBT1, .int .i64]) := ref03_Parse_m2 (ref03_Parse_K3) (ref03_Parse_K4) b t31 t32 t2 t2_2 t2_3 t2_4 r r_2 r_3 r_4
def ref03_Parse_K1 (b : List Int) (t2 : Int) (t2_2 : Int) (t2_3 : Int) (t2_4 : Int) (r : Int) (r_2 : Int) (r_3 : Int) (r_4 : Int) : Option (As [.pr (.int .u8) LBT1, .int .i64]) := ref03_Parse_m1 (ref03_Parse_K2) b t2 t2_2 t2_3 t2_4 r r_2 r_3 r_4
def ref03_Parse (x : As [.sl (.int .u8)]) : Option (As [.pr (.int .u8) LBT1, .int .i64]) := ref03_Parse_m0 ref03_Parse_K1 x.1
theorem ref03_Parse_c5 (J : Orc (As [.pr (.int .u8) LBT1, .int .i64])) (t105 : Bool) (t2 : ZoB1q1) (r : ZoB1q1) : pfn Tryz.prog ref03_Parse_e 6 18446744073709551616 (Ev.get ref03_Parse_h) 89 ref03_Parse_s J 254 [] (ref03_Parse_k5 t105 t2 r) = ref03_Parse_m5 t105 t2 r := by kernel_rfl
theorem ref03_Parse_c3 (J : Orc (As [.pr (.int .u8) LBT1, .int .i64])) (b : List Int) (t2 : ZoB1q1) (r : ZoB1q1) : pfn Tryz.prog ref03_Parse_e 6 18446744073709551616 (Ev.get ref03_Parse_h) 89 ref03_Parse_s J 31 [] (ref03_Parse_k3 b t2 r) = ref03_Parse_m3 (fun t105 t2 r => J 254 [] (ref03_Parse_k5 t105 t2 r)) b t2 r := by kernel_rfl
theorem ref03_Parse_c6 (J : Orc (As [.pr (.int .u8) LBT1, .int .i64])) (w6 : St → Option (As [.pr (.int .u8) LBT1, .int .i64])) (b : List Int) (i : Int) (t2 : Int) (t2_2 : Int) (t2_3 : Int) (t2_4 : Int) (r : Int) (r_2 : Int) (r_3 : Int) (r_4 : Int) (o : List Int) : pfn Tryz.prog ref03_Parse_e 6 18446744073709551616 (Ev.get ref03_Parse_h) 89 ref03_Parse_s J 16058 [w6] (ref03_Parse_k6 b i t2 t2_2 t2_3 t2_4 r r_2 r_3 r_4 o) = ref03_Parse_m6 (fun b t2 r => J 31 [] (ref03_Parse_k3 b t2 r)) (fun b i t2 t2_2 t2_3 t2_4 r r_2 r_3 r_4 o => w6 (ref03_Parse_k6 b i t2 t2_2 t2_3 t2_4 r r_2 r_3 r_4 o)) b i t2 t2_2 t2_3 t2_4 r r_2 r_3 r_4 o := by kernel_rfl
theorem ref03_Parse_c7 (J : Orc (As [.pr (.int .u8) LBT1, .int .i64])) (b : List Int) (t81 : Bool) (t2 : Int) (t2_2 : Int) (t2_3 : Int) (t2_4 : Int) (r : Int) (r_2 : Int) (r_3 : Int) (r_4 : Int) : pfn Tryz.prog ref03_Parse_e 6 18446744073709551616 (Ev.get ref03_Parse_h) 89 ref03_Parse_s J 64255 [] (ref03_Parse_k7 b t81 t2 t2_2 t2_3 t2_4 r r_2 r_3 r_4) = ref03_Parse_m7 (fun b t2 r => J 31 [] (ref03_Parse_k3 b t2 r)) b t81 t2 t2_2 t2_3 t2_4 r r_2 r_3 r_4 := by kernel_rfl
theorem ref03_Parse_c4 (J : Orc (As [.pr (.int .u8) LBT1, .int .i64])) (b : List Int) (t31 : Int) (t39 : Bool) (t2 : Int) (t2_2 : Int) (t2_3 : Int) (t2_4 : Int) (r : Int) (r_2 : Int) (r_3 : Int) (r_4 : Int) : pfn Tryz.prog ref03_Parse_e 6 18446744073709551616 (Ev.get ref03_Parse_h) 89 ref03_Parse_s J 1003 [] (ref03_Parse_k4 b t31 t39 t2 t2_2 t2_3 t2_4 r r_2 r_3 r_4) = ref03_Parse_m4 (fun b i t2 t2_2 t2_3 t2_4 r r_2 r_3 r_4 o => J 16058 [] (ref03_Parse_k6 b i t2 t2_2 t2_3 t2_4 r r_2 r_3 r_4 o)) (fun b t2 r => J 31 [] (ref03_Parse_k3 b t2 r)) (fun b t81 t2 t2_2 t2_3 t2_4 r r_2 r_3 r_4 => J 64255 [] (ref03_Parse_k7 b t81 t2 t2_2 t2_3 t2_4 r r_2 r_3 r_4)) b t31 t39 t2 t2_2 t2_3 t2_4 r r_2 r_3 r_4 := by kernel_rfl
theorem ref03_Parse_c2 (J : Orc (As [.pr (.int .u8) LBT1, .int .i64])) (b : List Int) (t31 : Int) (t32 : Bool) (t2 : Int) (t2_2 : Int) (t2_3 : Int) (t2_4 : Int) (r : Int) (r_2 : Int) (r_3 : Int) (r_4 : Int) : pfn Tryz.prog ref03_Parse_e 6 18446744073709551616 (Ev.get ref03_Parse_h) 89 ref03_Parse_s J 250 [] (ref03_Parse_k2 b t31 t32 t2 t2_2 t2_3 t2_4 r r_2 r_3 r_4) = ref03_Parse_m2 (fun b t2 r => J 31 [] (ref03_Parse_k3 b t2 r)) (fun b t31 t39 t2 t2_2 t2_3 t2_4 r r_2 r_3 r_4 => J 1003 [] (ref03_Parse_k4 b t31 t39 t2 t2_2 t2_3 t2_4 r r_2 r_3 r_4)) b t31 t32 t2 t2_2 t2_3 t2_4 r r_2 r_3 r_4 := by kernel_rfl
theorem ref03_Parse_c1 (J : Orc (As [.pr (.int .u8) LBT1, .int .i64])) (b : List Int) (t2 : Int) (t2_2 : Int) (t2_3 : Int) (t2_4 : Int) (r : Int) (r_2 : Int) (r_3 : Int) (r_4 : Int) : pfn Tryz.prog ref03_Parse_e 6 18446744073709551616 (Ev.get ref03_Parse_h) 89 ref03_Parse_s J 15 [] (ref03_Parse_k1 b t2 t2_2 t2_3 t2_4 r r_2 r_3 r_4) = ref03_Parse_m1 (fun b t31 t32 t2 t2_2 t2_3 t2_4 r r_2 r_3 r_4 => J 250 [] (ref03_Parse_k2 b t31 t32 t2 t2_2 t2_3 t2_4 r r_2 r_3 r_4)) b t2 t2_2 t2_3 t2_4 r r_2 r_3 r_4 := by kernel_rfl
theorem ref03_Parse_c0 (J : Orc (As [.pr (.int .u8) LBT1, .int .i64])) (x : As [.sl (.int .u8)]) : rfn Tryz.prog ref03_Parse_e 6 18446744073709551616 (Ev.get ref03_Parse_h) 89 ref03_Parse_s J x = ref03_Parse_m0 (fun b t2 t2_2 t2_3 t2_4 r r_2 r_3 r_4 => J 15 [] (ref03_Parse_k1 b t2 t2_2 t2_3 t2_4 r r_2 r_3 r_4)) x.1 := by kernel_rfl
theorem ref03_Parse_g5 (t105 : Bool) (t2 : ZoB1q1) (r : ZoB1q1) : jfn Tryz.prog ref03_Parse_e 6 18446744073709551616 (Ev.get ref03_Parse_h) 89 ref03_Parse_s 254 [] (ref03_Parse_k5 t105 t2 r) = ref03_Parse_K5 t105 t2 r := by
  rw [pfn_eq (by decide)]
  rw [ref03_Parse_c5]
  rfl
theorem ref03_Parse_g3 (b : List Int) (t2 : ZoB1q1) (r : ZoB1q1) : jfn Tryz.prog ref03_Parse_e 6 18446744073709551616 (Ev.get ref03_Parse_h) 89 ref03_Parse_s 31 [] (ref03_Parse_k3 b t2 r) = ref03_Parse_K3 b t2 r := by
  rw [pfn_eq (by decide)]
  have e5 : (fun t105 t2 r => (jfn Tryz.prog ref03_Parse_e 6 18446744073709551616 (Ev.get ref03_Parse_h) 89 ref03_Parse_s) 254 [] (ref03_Parse_k5 t105 t2 r)) = ref03_Parse_K5 := funext fun t105 => funext fun t2 => funext fun r => ref03_Parse_g5 t105 t2 r
  rw [ref03_Parse_c3, e5]
  rfl
theorem ref03_Parse_g6 (b : List Int) (i : Int) (t2 : Int) (t2_2 : Int) (t2_3 : Int) (t2_4 : Int) (r : Int) (r_2 : Int) (r_3 : Int) (r_4 : Int) (o : List Int) : jfn Tryz.prog ref03_Parse_e 6 18446744073709551616 (Ev.get ref03_Parse_h) 89 ref03_Parse_s 16058 [] (ref03_Parse_k6 b i t2 t2_2 t2_3 t2_4 r r_2 r_3 r_4 o) = ref03_Parse_K6 b i t2 t2_2 t2_3 t2_4 r r_2 r_3 r_4 o := by
  rw [pfn_eq (by decide)]
  rw [pfn_loop (by kernel_rfl)]
  refine loopF_sim (σ := (List Int) × (Int) × (Int) × (Int) × (Int) × (Int) × (Int) × (Int) × (Int) × (Int) × (List Int)) (mk := fun s => ref03_Parse_k6 s.1 s.2.1 s.2.2.1 s.2.2.2.1 s.2.2.2.2.1 s.2.2.2.2.2.1 s.2.2.2.2.2.2.1 s.2.2.2.2.2.2.2.1 s.2.2.2.2.2.2.2.2.1 s.2.2.2.2.2.2.2.2.2.1 s.2.2.2.2.2.2.2.2.2.2) (fun w6 s => ?_) 18446744073709551616 (b, i, t2, t2_2, t2_3, t2_4, r, r_2, r_3, r_4, o)
  have e3 : (fun b t2 r => (jfn Tryz.prog ref03_Parse_e 6 18446744073709551616 (Ev.get ref03_Parse_h) 89 ref03_Parse_s) 31 [] (ref03_Parse_k3 b t2 r)) = ref03_Parse_K3 := funext fun b => funext fun t2 => funext fun r => ref03_Parse_g3 b t2 r
  refine (ref03_Parse_c6 _ w6 s.1 s.2.1 s.2.2.1 s.2.2.2.1 s.2.2.2.2.1 s.2.2.2.2.2.1 s.2.2.2.2.2.2.1 s.2.2.2.2.2.2.2.1 s.2.2.2.2.2.2.2.2.1 s.2.2.2.2.2.2.2.2.2.1 s.2.2.2.2.2.2.2.2.2.2).trans ?_
  rw [e3]
theorem ref03_Parse_g7 (b : List Int) (t81 : Bool) (t2 : Int) (t2_2 : Int) (t2_3 : Int) (t2_4 : Int) (r : Int) (r_2 : Int) (r_3 : Int) (r_4 : Int) : jfn Tryz.prog ref03_Parse_e 6 18446744073709551616 (Ev.get ref03_Parse_h) 89 ref03_Parse_s 64255 [] (ref03_Parse_k7 b t81 t2 t2_2 t2_3 t2_4 r r_2 r_3 r_4) = ref03_Parse_K7 b t81 t2 t2_2 t2_3 t2_4 r r_2 r_3 r_4 := by
  rw [pfn_eq (by decide)]
  have e3 : (fun b t2 r => (jfn Tryz.prog ref03_Parse_e 6 18446744073709551616 (Ev.get ref03_Parse_h) 89 ref03_Parse_s) 31 [] (ref03_Parse_k3 b t2 r)) = ref03_Parse_K3 := funext fun b => funext fun t2 => funext fun r => ref03_Parse_g3 b t2 r
  rw [ref03_Parse_c7, e3]
  rfl
theorem ref03_Parse_g4 (b : List Int) (t31 : Int) (t39 : Bool) (t2 : Int) (t2_2 : Int) (t2_3 : Int) (t2_4 : Int) (r : Int) (r_2 : Int) (r_3 : Int) (r_4 : Int) : jfn Tryz.prog ref03_Parse_e 6 18446744073709551616 (Ev.get ref03_Parse_h) 89 ref03_Parse_s 1003 [] (ref03_Parse_k4 b t31 t39 t2 t2_2 t2_3 t2_4 r r_2 r_3 r_4) = ref03_Parse_K4 b t31 t39 t2 t2_2 t2_3 t2_4 r r_2 r_3 r_4 := by
  rw [pfn_eq (by decide)]
  have e6 : (fun b i t2 t2_2 t2_3 t2_4 r r_2 r_3 r_4 o => (jfn Tryz.prog ref03_Parse_e 6 18446744073709551616 (Ev.get ref03_Parse_h) 89 ref03_Parse_s) 16058 [] (ref03_Parse_k6 b i t2 t2_2 t2_3 t2_4 r r_2 r_3 r_4 o)) = ref03_Parse_K6 := funext fun b => funext fun i => funext fun t2 => funext fun t2_2 => funext fun t2_3 => funext fun t2_4 => funext fun r => funext fun r_2 => funext fun r_3 => funext fun r_4 => funext fun o => ref03_Parse_g6 b i t2 t2_2 t2_3 t2_4 r r_2 r_3 r_4 o
  have e3 : (fun b t2 r => (jfn Tryz.prog ref03_Parse_e 6 18446744073709551616 (Ev.get ref03_Parse_h) 89 ref03_Parse_s) 31 [] (ref03_Parse_k3 b t2 r)) = ref03_Parse_K3 := funext fun b => funext fun t2 => funext fun r => ref03_Parse_g3 b t2 r
  have e7 : (fun b t81 t2 t2_2 t2_3 t2_4 r r_2 r_3 r_4 => (jfn Tryz.prog ref03_Parse_e 6 18446744073709551616 (Ev.get ref03_Parse_h) 89 ref03_Parse_s) 64255 [] (ref03_Parse_k7 b t81 t2 t2_2 t2_3 t2_4 r r_2 r_3 r_4)) = ref03_Parse_K7 := funext fun b => funext fun t81 => funext fun t2 => funext fun t2_2 => funext fun t2_3 => funext fun t2_4 => funext fun r => funext fun r_2 => funext fun r_3 => funext fun r_4 => ref03_Parse_g7 b t81 t2 t2_2 t2_3 t2_4 r r_2 r_3 r_4
  rw [ref03_Parse_c4, e6, e3, e7]
  rfl
theorem ref03_Parse_g2 (b : List Int) (t31 : Int) (t32 : Bool) (t2 : Int) (t2_2 : Int) (t2_3 : Int) (t2_4 : Int) (r : Int) (r_2 : Int) (r_3 : Int) (r_4 : Int) : jfn Tryz.prog ref03_Parse_e 6 18446744073709551616 (Ev.get ref03_Parse_h) 89 ref03_Parse_s 250 [] (ref03_Parse_k2 b t31 t32 t2 t2_2 t2_3 t2_4 r r_2 r_3 r_4) = ref03_Parse_K2 b t31 t32 t2 t2_2 t2_3 t2_4 r r_2 r_3 r_4 := by
  rw [pfn_eq (by decide)]
  have e3 : (fun b t2 r => (jfn Tryz.prog ref03_Parse_e 6 18446744073709551616 (Ev.get ref03_Parse_h) 89 ref03_Parse_s) 31 [] (ref03_Parse_k3 b t2 r)) = ref03_Parse_K3 := funext fun b => funext fun t2 => funext fun r => ref03_Parse_g3 b t2 r
  have e4 : (fun b t31 t39 t2 t2_2 t2_3 t2_4 r r_2 r_3 r_4 => (jfn Tryz.prog ref03_Parse_e 6 18446744073709551616 (Ev.get ref03_Parse_h) 89 ref03_Parse_s) 1003 [] (ref03_Parse_k4 b t31 t39 t2 t2_2 t2_3 t2_4 r r_2 r_3 r_4)) = ref03_Parse_K4 := funext fun b => funext fun t31 => funext fun t39 => funext fun t2 => funext fun t2_2 => funext fun t2_3 => funext fun t2_4 => funext fun r => funext fun r_2 => funext fun r_3 => funext fun r_4 => ref03_Parse_g4 b t31 t39 t2 t2_2 t2_3 t2_4 r r_2 r_3 r_4
  rw [ref03_Parse_c2, e3, e4]
  rfl
theorem ref03_Parse_g1 (b : List Int) (t2 : Int) (t2_2 : Int) (t2_3 : Int) (t2_4 : Int) (r : Int) (r_2 : Int) (r_3 : Int) (r_4 : Int) : jfn Tryz.prog ref03_Parse_e 6 18446744073709551616 (Ev.get ref03_Parse_h) 89 ref03_Parse_s 15 [] (ref03_Parse_k1 b t2 t2_2 t2_3 t2_4 r r_2 r_3 r_4) = ref03_Parse_K1 b t2 t2_2 t2_3 t2_4 r r_2 r_3 r_4 := by
  rw [pfn_eq (by decide)]
  have e2 : (fun b t31 t32 t2 t2_2 t2_3 t2_4 r r_2 r_3 r_4 => (jfn Tryz.prog ref03_Parse_e 6 18446744073709551616 (Ev.get ref03_Parse_h) 89 ref03_Parse_s) 250 [] (ref03_Parse_k2 b t31 t32 t2 t2_2 t2_3 t2_4 r r_2 r_3 r_4)) = ref03_Parse_K2 := funext fun b => funext fun t31 => funext fun t32 => funext fun t2 => funext fun t2_2 => funext fun t2_3 => funext fun t2_4 => funext fun r => funext fun r_2 => funext fun r_3 => funext fun r_4 => ref03_Parse_g2 b t31 t32 t2 t2_2 t2_3 t2_4 r r_2 r_3 r_4
  rw [ref03_Parse_c1, e2]
  rfl
theorem ref03_Parse_t (x : As [.sl (.int .u8)]) : evT Tryz.prog ref03_Parse_e 6 18446744073709551616 (Ev.get ref03_Parse_h) 89 ref03_Parse_s x = ref03_Parse x := by
  have e1 : (fun b t2 t2_2 t2_3 t2_4 r r_2 r_3 r_4 => (jfn Tryz.prog ref03_Parse_e 6 18446744073709551616 (Ev.get ref03_Parse_h) 89 ref03_Parse_s) 15 [] (ref03_Parse_k1 b t2 t2_2 t2_3 t2_4 r r_2 r_3 r_4)) = ref03_Parse_K1 := funext fun b => funext fun t2 => funext fun t2_2 => funext fun t2_3 => funext fun t2_4 => funext fun r => funext fun r_2 => funext fun r_3 => funext fun r_4 => ref03_Parse_g1 b t2 t2_2 t2_3 t2_4 r r_2 r_3 r_4
  rw [rfn_eq, ref03_Parse_c0, e1]
  rfl
theorem ref03_Parse_ok : CtOk Tryz.prog (fun _ => True) 89 ⟨ref03_Parse_s, ref03_Parse⟩ := ct_of_ev (env_cons ref03_Bytes_ok (env_cons ref02_Unpack_ok (env_cons ref02_At_ok env_nil))) ref03_Parse_t
/-! ref01_Cut -/
@[reducible] def ref01_Cut_s : Sh := ⟨[.d (.sl (.int .u8))], [], [.sl (.int .u8)], [.d (.sl (.int .u8)), .d (.int .i64)], [], 0, [.sl (.int .u8), .int .i64]⟩
def ref01_Cut_e : Env := (cts [(227, (⟨ref01_Sum_s, ref01_Sum⟩ : Ct))])
def ref01_Cut_h : List (Nat × Hint) := []
def ref01_Cut_m0 (b : List Int) : Option (As [.sl (.int .u8), .int .i64]) :=
  if lt (Int.ofNat (List.length b)) 2 = true then some ([], 10, ()) else Option.bind (cut b 0 (Sx.sub .i64 (Int.ofNat (List.length b)) 2)) fun (y : List Int) => Option.bind (ref01_Sum (y, ())) fun (y : Int × Unit) => Option.bind (at? b (Sx.sub .i64 (Int.ofNat (List.length b)) 2)) fun (y_1 : Int) => Option.bind (at? b (add .i64 (Sx.sub .i64 (Int.ofNat (List.length b)) 2) 1)) fun (y_2 : Int) => if nei (add .i64 (cvt .i64 y_1) (mul .i64 256 (cvt .i64 y_2))) (cvt .i64 y.1) = true then some ([], 11, ()) else Option.bind (cut b 0 (Sx.sub .i64 (Int.ofNat (List.length b)) 2)) fun (y : List Int) => need (small (0 + List.length y)) (some ([] ++ y, 0, ()))
def ref01_Cut (x : As [.sl (.int .u8)]) : Option (As [.sl (.int .u8), .int .i64]) := ref01_Cut_m0 x.1
theorem ref01_Cut_c0 (J : Orc (As [.sl (.int .u8), .int .i64])) (x : As [.sl (.int .u8)]) : rfn Tryz.prog ref01_Cut_e 6 18446744073709551616 (Ev.get ref01_Cut_h) 198 ref01_Cut_s J x = ref01_Cut_m0 x.1 := by kernel_rfl
theorem ref01_Cut_t (x : As [.sl (.int .u8)]) : evT Tryz.prog ref01_Cut_e 6 18446744073709551616 (Ev.get ref01_Cut_h) 198 ref01_Cut_s x = ref01_Cut x := by
  rw [rfn_eq, ref01_Cut_c0]
  rfl
theorem ref01_Cut_ok : CtOk Tryz.prog (fun _ => True) 198 ⟨ref01_Cut_s, ref01_Cut⟩ := ct_of_ev (env_cons ref01_Sum_ok env_nil) ref01_Cut_t
/-! ref04_Parse -/
@[reducible] def ref04_Parse_s : Sh := ⟨[.d (.sl (.int .u8))], [], [.sl (.int .u8)], [.d (.int .u8), .d (.sl (.int .u8)), .d (.int .i64)], [], 0, [.int .u8, .sl (.int .u8), .int .i64]⟩
def ref04_Parse_e : Env := (cts [(198, (⟨ref01_Cut_s, ref01_Cut⟩ : Ct))])
def ref04_Parse_h : List (Nat × Hint) := [(62, ⟨[], [5, 31]⟩), (6, ⟨[], [0, 14, 27, 28, 29, 30]⟩)]
def ref04_Parse_k1 (b : List Int) (t14 : Bool) : St := { fr := [(0, .d (.sl (.int .u8)) b), (14, .d .bool t14)], nt := 37, up := [], own := [], nx := 0, log := [], ln := 0 }
def ref04_Parse_k2 (in' : List Int) (t31 : Bool) : St := { fr := [(5, .d (.sl (.int .u8)) in'), (31, .d .bool t31)], nt := 37, up := [], own := [], nx := 0, log := [], ln := 0 }
def ref04_Parse_m1 (j2 : List Int → Bool → Option (As [.int .u8, .sl (.int .u8), .int .i64])) (b : List Int) (t14 : Bool) : Option (As [.int .u8, .sl (.int .u8), .int .i64]) :=
  if t14 = true then some (0, [], 10, ()) else Option.bind (ref01_Cut (b, ())) fun (y : List Int × Int × Unit) => if nei y.2.1 0 = true then some (0, [], 11, ()) else Option.bind (at? y.1 0) fun (y_1 : Int) => if lt y_1 1 = true then j2 y.1 true else Option.bind (at? y.1 0) fun (y_2 : Int) => j2 y.1 (gt y_2 247)
def ref04_Parse_m2 (in' : List Int) (t31 : Bool) : Option (As [.int .u8, .sl (.int .u8), .int .i64]) :=
  if t31 = true then some (0, [], 10, ()) else Option.bind (at? in' 0) fun (y : Int) => Option.bind (cut in' 1 (Int.ofNat (List.length in'))) fun (y_1 : List Int) => some (y, y_1, 0, ())
def ref04_Parse_m0 (j1 : List Int → Bool → Option (As [.int .u8, .sl (.int .u8), .int .i64])) (b : List Int) : Option (As [.int .u8, .sl (.int .u8), .int .i64]) :=
  if lt (Int.ofNat (List.length b)) 4 = true then j1 b true else j1 b (gt (Int.ofNat (List.length b)) 256)
def ref04_Parse_K2 (in' : List Int) (t31 : Bool) : Option (As [.int .u8, .sl (.int .u8), .int .i64]) := ref04_Parse_m2 in' t31
def ref04_Parse_K1 (b : List Int) (t14 : Bool) : Option (As [.int .u8, .sl (.int .u8), .int .i64]) := ref04_Parse_m1 (ref04_Parse_K2) b t14
def ref04_Parse (x : As [.sl (.int .u8)]) : Option (As [.int .u8, .sl (.int .u8), .int .i64]) := ref04_Parse_m0 ref04_Parse_K1 x.1
theorem ref04_Parse_c2 (J : Orc (As [.int .u8, .sl (.int .u8), .int .i64])) (in' : List Int) (t31 : Bool) : pfn Tryz.prog ref04_Parse_e 6 18446744073709551616 (Ev.get ref04_Parse_h) 139 ref04_Parse_s J 62 [] (ref04_Parse_k2 in' t31) = ref04_Parse_m2 in' t31 := by kernel_rfl
theorem ref04_Parse_c1 (J : Orc (As [.int .u8, .sl (.int .u8), .int .i64])) (b : List Int) (t14 : Bool) : pfn Tryz.prog ref04_Parse_e 6 18446744073709551616 (Ev.get ref04_Parse_h) 139 ref04_Parse_s J 6 [] (ref04_Parse_k1 b t14) = ref04_Parse_m1 (fun in' t31 => J 62 [] (ref04_Parse_k2 in' t31)) b t14 := by kernel_rfl
theorem ref04_Parse_c0 (J : Orc (As [.int .u8, .sl (.int .u8), .int .i64])) (x : As [.sl (.int .u8)]) : rfn Tryz.prog ref04_Parse_e 6 18446744073709551616 (Ev.get ref04_Parse_h) 139 ref04_Parse_s J x = ref04_Parse_m0 (fun b t14 => J 6 [] (ref04_Parse_k1 b t14)) x.1 := by kernel_rfl
theorem ref04_Parse_g2 (in' : List Int) (t31 : Bool) : jfn Tryz.prog ref04_Parse_e 6 18446744073709551616 (Ev.get ref04_Parse_h) 139 ref04_Parse_s 62 [] (ref04_Parse_k2 in' t31) = ref04_Parse_K2 in' t31 := by
  rw [pfn_eq (by decide)]
  rw [ref04_Parse_c2]
  rfl
theorem ref04_Parse_g1 (b : List Int) (t14 : Bool) : jfn Tryz.prog ref04_Parse_e 6 18446744073709551616 (Ev.get ref04_Parse_h) 139 ref04_Parse_s 6 [] (ref04_Parse_k1 b t14) = ref04_Parse_K1 b t14 := by
  rw [pfn_eq (by decide)]
  have e2 : (fun in' t31 => (jfn Tryz.prog ref04_Parse_e 6 18446744073709551616 (Ev.get ref04_Parse_h) 139 ref04_Parse_s) 62 [] (ref04_Parse_k2 in' t31)) = ref04_Parse_K2 := funext fun in' => funext fun t31 => ref04_Parse_g2 in' t31
  rw [ref04_Parse_c1, e2]
  rfl
theorem ref04_Parse_t (x : As [.sl (.int .u8)]) : evT Tryz.prog ref04_Parse_e 6 18446744073709551616 (Ev.get ref04_Parse_h) 139 ref04_Parse_s x = ref04_Parse x := by
  have e1 : (fun b t14 => (jfn Tryz.prog ref04_Parse_e 6 18446744073709551616 (Ev.get ref04_Parse_h) 139 ref04_Parse_s) 6 [] (ref04_Parse_k1 b t14)) = ref04_Parse_K1 := funext fun b => funext fun t14 => ref04_Parse_g1 b t14
  rw [rfn_eq, ref04_Parse_c0, e1]
  rfl
theorem ref04_Parse_ok : CtOk Tryz.prog (fun _ => True) 139 ⟨ref04_Parse_s, ref04_Parse⟩ := ct_of_ev (env_cons ref01_Cut_ok env_nil) ref04_Parse_t
/-! ref04_Reply -/
@[reducible] def ref04_Reply_s : Sh := ⟨[.d (.int .u8), .d (.sl (.int .u8))], [], [.int .u8, .sl (.int .u8)], [.d (.pr (.int .u8) LBT1), .d (.int .i64)], [], 0, [.pr (.int .u8) LBT1, .int .i64]⟩
def ref04_Reply_e : Env := (cts [(89, (⟨ref03_Parse_s, ref03_Parse⟩ : Ct)), (139, (⟨ref04_Parse_s, ref04_Parse⟩ : Ct))])
def ref04_Reply_h : List (Nat × Hint) := []
def ref04_Reply_m0 (unit : Int) (b : List Int) : Option (As [.pr (.int .u8) LBT1, .int .i64]) :=
  Option.bind (ref04_Parse (b, ())) fun (y : Int × List Int × Int × Unit) => if nei y.2.2.1 0 = true then some ((0, 0, [], [], 0, 0), y.2.2.1, ()) else if nei y.1 unit = true then some ((0, 0, [], [], 0, 0), 10, ()) else Option.bind (ref03_Parse (y.2.1, ())) fun (y : LBT4 × Int × Unit) => some (y.1, y.2.1, ())
def ref04_Reply (x : As [.int .u8, .sl (.int .u8)]) : Option (As [.pr (.int .u8) LBT1, .int .i64]) := ref04_Reply_m0 x.1 x.2.1
theorem ref04_Reply_c0 (J : Orc (As [.pr (.int .u8) LBT1, .int .i64])) (x : As [.int .u8, .sl (.int .u8)]) : rfn Tryz.prog ref04_Reply_e 6 18446744073709551616 (Ev.get ref04_Reply_h) 87 ref04_Reply_s J x = ref04_Reply_m0 x.1 x.2.1 := by kernel_rfl
theorem ref04_Reply_t (x : As [.int .u8, .sl (.int .u8)]) : evT Tryz.prog ref04_Reply_e 6 18446744073709551616 (Ev.get ref04_Reply_h) 87 ref04_Reply_s x = ref04_Reply x := by
  rw [rfn_eq, ref04_Reply_c0]
  rfl
theorem ref04_Reply_ok : CtOk Tryz.prog (fun _ => True) 87 ⟨ref04_Reply_s, ref04_Reply⟩ := ct_of_ev (env_cons ref03_Parse_ok (env_cons ref04_Parse_ok env_nil)) ref04_Reply_t
end Go.Proofs.Lx

end
