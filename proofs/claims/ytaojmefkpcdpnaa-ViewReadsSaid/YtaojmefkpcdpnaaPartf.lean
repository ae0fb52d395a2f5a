/- Proved in the last of these 10 parts (this is part 6): whatever is asked of the registers that show jobs: what reads registers that there are is replied with just these, all else is an exception. Conditions: those of the given statement, and no others. -/
import Derived.Test.YtaojmefkpcdpnaaParte
import Derived.Test.YtaojmefkpcdpnaaProg
set_option linter.unusedVariables false
set_option linter.unusedSimpArgs false
set_option linter.unusedSectionVars false
section
/- Contracts, made by a program. -/
open Go Go.Proofs Ev Sx
set_option maxRecDepth 100000
namespace Go.Proofs.Lx
abbrev LAT8 : Ty := (.pr (.int .i64) (.pr .bool (.pr .bool .bool)))
abbrev LAT0 : Ty := (.sl (.pr (.int .i64) LAT8))
abbrev LAT1 : Ty := (.pr (.int .u8) (.pr (.sl .bool) (.pr (.sl (.int .u16)) (.pr (.int .u16) (.int .u16)))))
abbrev LAT2 : Type := (Int × Int × Bool × Bool × Bool)
abbrev LAT10 : Ty := (.pr (.int .u8) (.pr (.sl (.int .u8)) (.int .u8)))
abbrev LAT3 : Ty := (.pr (.int .u32) LAT10)
abbrev LAT4 : Ty := (.pr (.int .u16) (.pr (.int .u16) (.pr (.int .u16) (.pr (.sl (.int .u16)) (.sl .bool)))))
abbrev LAT5 : Ty := (.pr (.sl .bool) (.pr (.sl (.int .u16)) (.sl (.int .u16))))
abbrev LAT6 : Type := (Int × Int × List Int × Int)
abbrev LAT7 : Ty := (.pr (.int .u32) (.pr (.int .u16) (.int .u16)))
abbrev LAT9 : Ty := (.pr (.int .i64) (.pr (.int .i64) (.pr .bool .bool)))
/-! view_last_Gapi_Job -/
@[reducible] def view_last_Gapi_Job_s : Sh := ⟨[.d (.sl LAT3), .d (.int .i64)], [], [.sl LAT3, .int .i64], [.d (.sl LAT3)], [], 0, [.sl LAT3]⟩
def view_last_Gapi_Job_e : Env := (cts [])
def view_last_Gapi_Job_h : List (Nat × Hint) := []
def view_last_Gapi_Job_m0 (l : List LAT6) (n : Int) : Option (As [.sl LAT3]) :=
  Option.bind (cut l (if gt 0 (Sx.sub .i64 (Int.ofNat (List.length l)) n) = true then 0 else Sx.sub .i64 (Int.ofNat (List.length l)) n) (Int.ofNat (List.length l))) fun (y : List LAT6) => some (y, ())
def view_last_Gapi_Job (x : As [.sl LAT3, .int .i64]) : Option (As [.sl LAT3]) := view_last_Gapi_Job_m0 x.1 x.2.1
theorem view_last_Gapi_Job_c0 (J : Orc (As [.sl LAT3])) (x : As [.sl LAT3, .int .i64]) : rfn Try.prog view_last_Gapi_Job_e 6 18446744073709551616 (Ev.get view_last_Gapi_Job_h) 25 view_last_Gapi_Job_s J x = view_last_Gapi_Job_m0 x.1 x.2.1 := by kernel_rfl
theorem view_last_Gapi_Job_t (x : As [.sl LAT3, .int .i64]) : evT Try.prog view_last_Gapi_Job_e 6 18446744073709551616 (Ev.get view_last_Gapi_Job_h) 25 view_last_Gapi_Job_s x = view_last_Gapi_Job x := by
  rw [rfn_eq, view_last_Gapi_Job_c0]
  rfl
theorem view_last_Gapi_Job_ok : CtOk Try.prog (fun _ => True) 25 ⟨view_last_Gapi_Job_s, view_last_Gapi_Job⟩ := ct_of_ev env_nil view_last_Gapi_Job_t
/-! words_Parts -/
@[reducible] def words_Parts_s : Sh := ⟨[.d (.int .u32)], [], [.int .u32], [.d (.int .u16), .d (.int .u16)], [], 0, [.int .u16, .int .u16]⟩
def words_Parts_e : Env := (cts [])
def words_Parts_h : List (Nat × Hint) := []
def words_Parts_m0 (x : Int) : Option (As [.int .u16, .int .u16]) :=
  some (cvt .u16 (Sx.shr .u32 x 16), cvt .u16 x, ())
def words_Parts (x : As [.int .u32]) : Option (As [.int .u16, .int .u16]) := words_Parts_m0 x.1
theorem words_Parts_c0 (J : Orc (As [.int .u16, .int .u16])) (x : As [.int .u32]) : rfn Try.prog words_Parts_e 6 18446744073709551616 (Ev.get words_Parts_h) 26 words_Parts_s J x = words_Parts_m0 x.1 := by kernel_rfl
theorem words_Parts_t (x : As [.int .u32]) : evT Try.prog words_Parts_e 6 18446744073709551616 (Ev.get words_Parts_h) 26 words_Parts_s x = words_Parts x := by
  rw [rfn_eq, words_Parts_c0]
  rfl
theorem words_Parts_ok : CtOk Try.prog (fun _ => True) 26 ⟨words_Parts_s, words_Parts⟩ := ct_of_ev env_nil words_Parts_t
/-! slices_Index_Guint32 -/
@[reducible] def slices_Index_Guint32_s : Sh := ⟨[.d (.sl (.int .u32)), .d (.int .u32)], [], [.sl (.int .u32), .int .u32], [.d (.int .i64)], [], 0, [.int .i64]⟩
def slices_Index_Guint32_e : Env := (cts [])
def slices_Index_Guint32_h : List (Nat × Hint) := [(26, ⟨[], [0, 1, 7, 8]⟩)]
def slices_Index_Guint32_k1 (s : List Int) (v : Int) (t7 : Int) (t8 : Int) : St := { fr := [(0, .d (.sl (.int .u32)) s), (1, .d (.int .u32) v), (7, .d (.int .i64) t7), (8, .d (.int .i64) t8)], nt := 19, up := [], own := [], nx := 0, log := [], ln := 0 }
def slices_Index_Guint32_m1 (self1 : List Int → Int → Int → Int → Option (As [.int .i64])) (s : List Int) (v : Int) (t7 : Int) (t8 : Int) : Option (As [.int .i64]) :=
  if lt t8 t7 = true then Option.bind (at? s t8) fun (y : Int) => if eqi v y = true then some (t8, ()) else self1 s v t7 (add .i64 t8 1) else some (-1, ())
def slices_Index_Guint32_m0 (j1 : List Int → Int → Int → Int → Option (As [.int .i64])) (s : List Int) (v : Int) : Option (As [.int .i64]) :=
  j1 s v (Int.ofNat (List.length s)) 0
def slices_Index_Guint32_K1 (s : List Int) (v : Int) (t7 : Int) (t8 : Int) : Option (As [.int .i64]) :=
  loopF (fun (self : (List Int) × (Int) × (Int) × (Int) → Option (As [.int .i64])) (s : (List Int) × (Int) × (Int) × (Int)) => slices_Index_Guint32_m1 (fun s v t7 t8 => self (s, v, t7, t8)) s.1 s.2.1 s.2.2.1 s.2.2.2) 18446744073709551616 (s, v, t7, t8)
def slices_Index_Guint32 (x : As [.sl (.int .u32), .int .u32]) : Option (As [.int .i64]) := slices_Index_Guint32_m0 slices_Index_Guint32_K1 x.1 x.2.1
theorem slices_Index_Guint32_c1 (J : Orc (As [.int .i64])) (w1 : St → Option (As [.int .i64])) (s : List Int) (v : Int) (t7 : Int) (t8 : Int) : pfn Try.prog slices_Index_Guint32_e 6 18446744073709551616 (Ev.get slices_Index_Guint32_h) 41 slices_Index_Guint32_s J 26 [w1] (slices_Index_Guint32_k1 s v t7 t8) = slices_Index_Guint32_m1 (fun s v t7 t8 => w1 (slices_Index_Guint32_k1 s v t7 t8)) s v t7 t8 := by kernel_rfl
theorem slices_Index_Guint32_c0 (J : Orc (As [.int .i64])) (x : As [.sl (.int .u32), .int .u32]) : rfn Try.prog slices_Index_Guint32_e 6 18446744073709551616 (Ev.get slices_Index_Guint32_h) 41 slices_Index_Guint32_s J x = slices_Index_Guint32_m0 (fun s v t7 t8 => J 26 [] (slices_Index_Guint32_k1 s v t7 t8)) x.1 x.2.1 := by kernel_rfl
theorem slices_Index_Guint32_g1 (s : List Int) (v : Int) (t7 : Int) (t8 : Int) : jfn Try.prog slices_Index_Guint32_e 6 18446744073709551616 (Ev.get slices_Index_Guint32_h) 41 slices_Index_Guint32_s 26 [] (slices_Index_Guint32_k1 s v t7 t8) = slices_Index_Guint32_K1 s v t7 t8 := by
  rw [pfn_eq (by decide)]
  rw [pfn_loop (by kernel_rfl)]
  refine loopF_sim (σ := (List Int) × (Int) × (Int) × (Int)) (mk := fun s => slices_Index_Guint32_k1 s.1 s.2.1 s.2.2.1 s.2.2.2) (fun w1 s => ?_) 18446744073709551616 (s, v, t7, t8)
  refine (slices_Index_Guint32_c1 _ w1 s.1 s.2.1 s.2.2.1 s.2.2.2).trans ?_
  rfl
theorem slices_Index_Guint32_t (x : As [.sl (.int .u32), .int .u32]) : evT Try.prog slices_Index_Guint32_e 6 18446744073709551616 (Ev.get slices_Index_Guint32_h) 41 slices_Index_Guint32_s x = slices_Index_Guint32 x := by
  have e1 : (fun s v t7 t8 => (jfn Try.prog slices_Index_Guint32_e 6 18446744073709551616 (Ev.get slices_Index_Guint32_h) 41 slices_Index_Guint32_s) 26 [] (slices_Index_Guint32_k1 s v t7 t8)) = slices_Index_Guint32_K1 := funext fun s => funext fun v => funext fun t7 => funext fun t8 => slices_Index_Guint32_g1 s v t7 t8
  rw [rfn_eq, slices_Index_Guint32_c0, e1]
  rfl
theorem slices_Index_Guint32_ok : CtOk Try.prog (fun _ => True) 41 ⟨slices_Index_Guint32_s, slices_Index_Guint32⟩ := ct_of_ev env_nil slices_Index_Guint32_t
/-! slices_Contains_Guint32 -/
@[reducible] def slices_Contains_Guint32_s : Sh := ⟨[.d (.sl (.int .u32)), .d (.int .u32)], [], [.sl (.int .u32), .int .u32], [.d (.bool)], [], 0, [.bool]⟩
def slices_Contains_Guint32_e : Env := (cts [(41, (⟨slices_Index_Guint32_s, slices_Index_Guint32⟩ : Ct))])
def slices_Contains_Guint32_h : List (Nat × Hint) := []
def slices_Contains_Guint32_m0 (s : List Int) (v : Int) : Option (As [.bool]) :=
  Option.bind (slices_Index_Guint32 (s, v, ())) fun (y : Int × Unit) => some (ge y.1 0, ())
def slices_Contains_Guint32 (x : As [.sl (.int .u32), .int .u32]) : Option (As [.bool]) := slices_Contains_Guint32_m0 x.1 x.2.1
theorem slices_Contains_Guint32_c0 (J : Orc (As [.bool])) (x : As [.sl (.int .u32), .int .u32]) : rfn Try.prog slices_Contains_Guint32_e 6 18446744073709551616 (Ev.get slices_Contains_Guint32_h) 27 slices_Contains_Guint32_s J x = slices_Contains_Guint32_m0 x.1 x.2.1 := by kernel_rfl
theorem slices_Contains_Guint32_t (x : As [.sl (.int .u32), .int .u32]) : evT Try.prog slices_Contains_Guint32_e 6 18446744073709551616 (Ev.get slices_Contains_Guint32_h) 27 slices_Contains_Guint32_s x = slices_Contains_Guint32 x := by
  rw [rfn_eq, slices_Contains_Guint32_c0]
  rfl
theorem slices_Contains_Guint32_ok : CtOk Try.prog (fun _ => True) 27 ⟨slices_Contains_Guint32_s, slices_Contains_Guint32⟩ := ct_of_ev (env_cons slices_Index_Guint32_ok env_nil) slices_Contains_Guint32_t
/-! view_Mem -/
@[reducible] def view_Mem_s : Sh := ⟨[.d (.sl LAT3), .d (.sl (.int .u32))], [], [.sl LAT3, .sl (.int .u32)], [.d (.pr (.sl .bool) LAT5)], [], 0, [.pr (.sl .bool) LAT5]⟩
def view_Mem_e : Env := (cts [(25, (⟨view_last_Gapi_Job_s, view_last_Gapi_Job⟩ : Ct)), (26, (⟨words_Parts_s, words_Parts⟩ : Ct)), (27, (⟨slices_Contains_Guint32_s, slices_Contains_Guint32⟩ : Ct))])
def view_Mem_h : List (Nat × Hint) := [(63, ⟨[], [4, 5]⟩), (506, ⟨[], [1, 4, 5, 25, 26, 27, 53, 54, 55, 56]⟩), (259279, ⟨[], [1, 4, 5, 8, 9, 10, 25, 26, 27, 53, 54, 55, 56]⟩), (518558, ⟨[], [1, 4, 5, 8, 9, 10, 25, 26, 27, 57]⟩)]
def view_Mem_k1 (waits : List Int) (t25 : List LAT6) (t26 : Int) (t27 : Int) (h : List Int) : St := { fr := [(1, .d (.sl (.int .u32)) waits), (4, .pb 0 0), (5, .row 1), (25, .d (.sl LAT3) t25), (26, .d (.int .i64) t26), (27, .d (.int .i64) t27)], nt := 74, up := [], own := [(0, .box 39 [.k (Go.Value.slice Option.none 0 0), .k (Go.Value.slice Option.none 0 0), .k (Go.Value.slice Option.none 0 0), .k (Go.Value.slice Option.none 0 0)]), (1, .row (.int .u16) 41 h)], nx := 2, log := [], ln := 0 }
def view_Mem_k2 (waits : List Int) (at' : Int) (stand : Int) (t25 : List LAT6) (t26 : Int) (t27 : Int) (t57 : Bool) (h : List Int) (j : Int × Int × List Int × Int) : St := { fr := [(1, .d (.sl (.int .u32)) waits), (4, .pb 0 0), (5, .row 1), (8, .pb 2 0), (9, .d (.int .i64) at'), (10, .d (.int .u8) stand), (25, .d (.sl LAT3) t25), (26, .d (.int .i64) t26), (27, .d (.int .i64) t27), (57, .d .bool t57)], nt := 74, up := [], own := [(0, .box 39 [.k (Go.Value.slice Option.none 0 0), .k (Go.Value.slice Option.none 0 0), .k (Go.Value.slice Option.none 0 0), .k (Go.Value.slice Option.none 0 0)]), (1, .row (.int .u16) 41 h), (2, .box 48 [.d (.int .u32) j.1, .d (.int .u8) j.2.1, .d (.sl (.int .u8)) j.2.2.1, .d (.int .u8) j.2.2.2])], nx := 3, log := [], ln := 0 }
def view_Mem_k3 (h : List Int) : St := { fr := [(4, .pb 0 0), (5, .row 1)], nt := 74, up := [], own := [(0, .box 39 [.k (Go.Value.slice Option.none 0 0), .k (Go.Value.slice Option.none 0 0), .k (Go.Value.slice Option.none 0 0), .k (Go.Value.slice Option.none 0 0)]), (1, .row (.int .u16) 41 h)], nx := 2, log := [], ln := 0 }
def view_Mem_k4 (waits : List Int) (at' : Int) (stand : Int) (t25 : List LAT6) (t26 : Int) (t27 : Int) (h : List Int) (j : Int × Int × List Int × Int) : St := { fr := [(1, .d (.sl (.int .u32)) waits), (4, .pb 0 0), (5, .row 1), (8, .pb 2 0), (9, .d (.int .i64) at'), (10, .d (.int .u8) stand), (25, .d (.sl LAT3) t25), (26, .d (.int .i64) t26), (27, .d (.int .i64) t27)], nt := 74, up := [], own := [(0, .box 39 [.k (Go.Value.slice Option.none 0 0), .k (Go.Value.slice Option.none 0 0), .k (Go.Value.slice Option.none 0 0), .k (Go.Value.slice Option.none 0 0)]), (1, .row (.int .u16) 41 h), (2, .box 48 [.d (.int .u32) j.1, .d (.int .u8) j.2.1, .d (.sl (.int .u8)) j.2.2.1, .d (.int .u8) j.2.2.2])], nx := 3, log := [], ln := 0 }
def view_Mem_m1 (j2 : List Int → Int → Int → List LAT6 → Int → Int → Bool → List Int → Int × Int × List Int × Int → Option (As [.pr (.sl .bool) LAT5])) (j3 : List Int → Option (As [.pr (.sl .bool) LAT5])) (self1 : List Int → List LAT6 → Int → Int → List Int → Option (As [.pr (.sl .bool) LAT5])) (waits : List Int) (t25 : List LAT6) (t26 : Int) (t27 : Int) (h : List Int) : Option (As [.pr (.sl .bool) LAT5]) :=
  if lt t27 t26 = true then Option.bind (at? t25 t27) fun (y : Int × Int × List Int × Int) => Option.bind (words_Parts (y.1, ())) fun (y_1 : Int × Int × Unit) => Option.bind (at? h (add .i64 2 (mul .i64 4 t27))) fun (x : Int) => Option.bind (at? h (add .i64 2 (mul .i64 4 t27))) fun (x : Int) => Option.bind (at? (List.set h (Int.toNat (add .i64 2 (mul .i64 4 t27))) y_1.1) (add .i64 (add .i64 2 (mul .i64 4 t27)) 1)) fun (x : Int) => Option.bind (at? (List.set h (Int.toNat (add .i64 2 (mul .i64 4 t27))) y_1.1) (add .i64 (add .i64 2 (mul .i64 4 t27)) 1)) fun (x : Int) => if eqi y.2.2.2 1 = true then Option.bind (slices_Contains_Guint32 (waits, y.1, ())) fun (y_2 : Bool × Unit) => j2 waits (add .i64 2 (mul .i64 4 t27)) y.2.2.2 t25 t26 t27 y_2.1 (List.set (List.set h (Int.toNat (add .i64 2 (mul .i64 4 t27))) y_1.1) (Int.toNat (add .i64 (add .i64 2 (mul .i64 4 t27)) 1)) y_1.2.1) y else j2 waits (add .i64 2 (mul .i64 4 t27)) y.2.2.2 t25 t26 t27 false (List.set (List.set h (Int.toNat (add .i64 2 (mul .i64 4 t27))) y_1.1) (Int.toNat (add .i64 (add .i64 2 (mul .i64 4 t27)) 1)) y_1.2.1) y else j3 h
def view_Mem_m2 (j4 : List Int → Int → Int → List LAT6 → Int → Int → List Int → Int × Int × List Int × Int → Option (As [.pr (.sl .bool) LAT5])) (self1 : List Int → List LAT6 → Int → Int → List Int → Option (As [.pr (.sl .bool) LAT5])) (waits : List Int) (at' : Int) (stand : Int) (t25 : List LAT6) (t26 : Int) (t27 : Int) (t57 : Bool) (h : List Int) (j : Int × Int × List Int × Int) : Option (As [.pr (.sl .bool) LAT5]) :=
  if t57 = true then j4 waits at' 6 t25 t26 t27 h j else j4 waits at' stand t25 t26 t27 h j
def view_Mem_m3 (h : List Int) : Option (As [.pr (.sl .bool) LAT5]) :=
  some (([], [], h, []), ())
def view_Mem_m4 (self1 : List Int → List LAT6 → Int → Int → List Int → Option (As [.pr (.sl .bool) LAT5])) (waits : List Int) (at' : Int) (stand : Int) (t25 : List LAT6) (t26 : Int) (t27 : Int) (h : List Int) (j : Int × Int × List Int × Int) : Option (As [.pr (.sl .bool) LAT5]) :=
  Option.bind (at? h (add .i64 at' 2)) fun (x : Int) => Option.bind (at? h (add .i64 at' 2)) fun (x : Int) => Option.bind (at? (List.set h (Int.toNat (add .i64 at' 2)) (cvt .u16 stand)) (add .i64 at' 3)) fun (x : Int) => Option.bind (at? (List.set h (Int.toNat (add .i64 at' 2)) (cvt .u16 stand)) (add .i64 at' 3)) fun (x : Int) => self1 waits t25 t26 (add .i64 t27 1) (List.set (List.set h (Int.toNat (add .i64 at' 2)) (cvt .u16 stand)) (Int.toNat (add .i64 at' 3)) (cvt .u16 j.2.1))
def view_Mem_m0 (j1 : List Int → List LAT6 → Int → Int → List Int → Option (As [.pr (.sl .bool) LAT5])) (l : List LAT6) (waits : List Int) : Option (As [.pr (.sl .bool) LAT5]) :=
  Option.bind (view_last_Gapi_Job (l, 12, ())) fun (y : List LAT6 × Unit) => j1 waits y.1 (Int.ofNat (List.length y.1)) 0 [cvt .u16 (if lt 65535 (Int.ofNat (List.length l)) = true then 65535 else Int.ofNat (List.length l)), cvt .u16 (Int.ofNat (List.length y.1)), 0, 0, 0, 0, 0, 0, 0, 0, 0, 0, 0, 0, 0, 0, 0, 0, 0, 0, 0, 0, 0, 0, 0, 0, 0, 0, 0, 0, 0, 0, 0, 0, 0, 0, 0, 0, 0, 0, 0, 0, 0, 0, 0, 0, 0, 0, 0, 0]
def view_Mem_K4 (u1 : List Int → List LAT6 → Int → Int → List Int → Option (As [.pr (.sl .bool) LAT5])) (waits : List Int) (at' : Int) (stand : Int) (t25 : List LAT6) (t26 : Int) (t27 : Int) (h : List Int) (j : Int × Int × List Int × Int) : Option (As [.pr (.sl .bool) LAT5]) := view_Mem_m4 u1 waits at' stand t25 t26 t27 h j
def view_Mem_K2 (u1 : List Int → List LAT6 → Int → Int → List Int → Option (As [.pr (.sl .bool) LAT5])) (waits : List Int) (at' : Int) (stand : Int) (t25 : List LAT6) (t26 : Int) (t27 : Int) (t57 : Bool) (h : List Int) (j : Int × Int × List Int × Int) : Option (As [.pr (.sl .bool) LAT5]) := view_Mem_m2 (view_Mem_K4 u1) u1 waits at' stand t25 t26 t27 t57 h j
def view_Mem_K3 (h : List Int) : Option (As [.pr (.sl .bool) LAT5]) := view_Mem_m3 h
def view_Mem_K1 (waits : List Int) (t25 : List LAT6) (t26 : Int) (t27 : Int) (h : List Int) : Option (As [.pr (.sl .bool) LAT5]) :=
  loopF (fun (self : (List Int) × (List LAT6) × (Int) × (Int) × (List Int) → Option (As [.pr (.sl .bool) LAT5])) (s : (List Int) × (List LAT6) × (Int) × (Int) × (List Int)) => view_Mem_m1 (view_Mem_K2 (fun waits t25 t26 t27 h => self (waits, t25, t26, t27, h))) (view_Mem_K3) (fun waits t25 t26 t27 h => self (waits, t25, t26, t27, h)) s.1 s.2.1 s.2.2.1 s.2.2.2.1 s.2.2.2.2) 18446744073709551616 (waits, t25, t26, t27, h)
def view_Mem (x : As [.sl LAT3, .sl (.int .u32)]) : Option (As [.pr (.sl .bool) LAT5]) := view_Mem_m0 view_Mem_K1 x.1 x.2.1
theorem view_Mem_c4 (J : Orc (As [.pr (.sl .bool) LAT5])) (w1 : St → Option (As [.pr (.sl .bool) LAT5])) (waits : List Int) (at' : Int) (stand : Int) (t25 : List LAT6) (t26 : Int) (t27 : Int) (h : List Int) (j : Int × Int × List Int × Int) : pfn Try.prog view_Mem_e 6 18446744073709551616 (Ev.get view_Mem_h) 9 view_Mem_s J 259279 [w1] (view_Mem_k4 waits at' stand t25 t26 t27 h j) = view_Mem_m4 (fun waits t25 t26 t27 h => w1 (view_Mem_k1 waits t25 t26 t27 h)) waits at' stand t25 t26 t27 h j := by kernel_rfl
theorem view_Mem_c2 (J : Orc (As [.pr (.sl .bool) LAT5])) (w1 : St → Option (As [.pr (.sl .bool) LAT5])) (waits : List Int) (at' : Int) (stand : Int) (t25 : List LAT6) (t26 : Int) (t27 : Int) (t57 : Bool) (h : List Int) (j : Int × Int × List Int × Int) : pfn Try.prog view_Mem_e 6 18446744073709551616 (Ev.get view_Mem_h) 9 view_Mem_s J 518558 [w1] (view_Mem_k2 waits at' stand t25 t26 t27 t57 h j) = view_Mem_m2 (fun waits at' stand t25 t26 t27 h j => J 259279 [w1] (view_Mem_k4 waits at' stand t25 t26 t27 h j)) (fun waits t25 t26 t27 h => w1 (view_Mem_k1 waits t25 t26 t27 h)) waits at' stand t25 t26 t27 t57 h j := by kernel_rfl
theorem view_Mem_c3 (J : Orc (As [.pr (.sl .bool) LAT5])) (h : List Int) : pfn Try.prog view_Mem_e 6 18446744073709551616 (Ev.get view_Mem_h) 9 view_Mem_s J 63 [] (view_Mem_k3 h) = view_Mem_m3 h := by kernel_rfl
theorem view_Mem_c1 (J : Orc (As [.pr (.sl .bool) LAT5])) (w1 : St → Option (As [.pr (.sl .bool) LAT5])) (waits : List Int) (t25 : List LAT6) (t26 : Int) (t27 : Int) (h : List Int) : pfn Try.prog view_Mem_e 6 18446744073709551616 (Ev.get view_Mem_h) 9 view_Mem_s J 506 [w1] (view_Mem_k1 waits t25 t26 t27 h) = view_Mem_m1 (fun waits at' stand t25 t26 t27 t57 h j => J 518558 [w1] (view_Mem_k2 waits at' stand t25 t26 t27 t57 h j)) (fun h => J 63 [] (view_Mem_k3 h)) (fun waits t25 t26 t27 h => w1 (view_Mem_k1 waits t25 t26 t27 h)) waits t25 t26 t27 h := by kernel_rfl
theorem view_Mem_c0 (J : Orc (As [.pr (.sl .bool) LAT5])) (x : As [.sl LAT3, .sl (.int .u32)]) : rfn Try.prog view_Mem_e 6 18446744073709551616 (Ev.get view_Mem_h) 9 view_Mem_s J x = view_Mem_m0 (fun waits t25 t26 t27 h => J 506 [] (view_Mem_k1 waits t25 t26 t27 h)) x.1 x.2.1 := by kernel_rfl
theorem view_Mem_g4 (w1 : St → Option (As [.pr (.sl .bool) LAT5])) (waits : List Int) (at' : Int) (stand : Int) (t25 : List LAT6) (t26 : Int) (t27 : Int) (h : List Int) (j : Int × Int × List Int × Int) : jfn Try.prog view_Mem_e 6 18446744073709551616 (Ev.get view_Mem_h) 9 view_Mem_s 259279 [w1] (view_Mem_k4 waits at' stand t25 t26 t27 h j) = view_Mem_K4 (fun waits t25 t26 t27 h => w1 (view_Mem_k1 waits t25 t26 t27 h)) waits at' stand t25 t26 t27 h j := by
  rw [pfn_eq (by decide)]
  rw [view_Mem_c4]
  rfl
theorem view_Mem_g2 (w1 : St → Option (As [.pr (.sl .bool) LAT5])) (waits : List Int) (at' : Int) (stand : Int) (t25 : List LAT6) (t26 : Int) (t27 : Int) (t57 : Bool) (h : List Int) (j : Int × Int × List Int × Int) : jfn Try.prog view_Mem_e 6 18446744073709551616 (Ev.get view_Mem_h) 9 view_Mem_s 518558 [w1] (view_Mem_k2 waits at' stand t25 t26 t27 t57 h j) = view_Mem_K2 (fun waits t25 t26 t27 h => w1 (view_Mem_k1 waits t25 t26 t27 h)) waits at' stand t25 t26 t27 t57 h j := by
  rw [pfn_eq (by decide)]
  have e4 : (fun waits at' stand t25 t26 t27 h j => (jfn Try.prog view_Mem_e 6 18446744073709551616 (Ev.get view_Mem_h) 9 view_Mem_s) 259279 [w1] (view_Mem_k4 waits at' stand t25 t26 t27 h j)) = view_Mem_K4 (fun waits t25 t26 t27 h => w1 (view_Mem_k1 waits t25 t26 t27 h)) := funext fun waits => funext fun at' => funext fun stand => funext fun t25 => funext fun t26 => funext fun t27 => funext fun h => funext fun j => view_Mem_g4 w1 waits at' stand t25 t26 t27 h j
  rw [view_Mem_c2, e4]
  rfl
theorem view_Mem_g3 (h : List Int) : jfn Try.prog view_Mem_e 6 18446744073709551616 (Ev.get view_Mem_h) 9 view_Mem_s 63 [] (view_Mem_k3 h) = view_Mem_K3 h := by
  rw [pfn_eq (by decide)]
  rw [view_Mem_c3]
  rfl
theorem view_Mem_g1 (waits : List Int) (t25 : List LAT6) (t26 : Int) (t27 : Int) (h : List Int) : jfn Try.prog view_Mem_e 6 18446744073709551616 (Ev.get view_Mem_h) 9 view_Mem_s 506 [] (view_Mem_k1 waits t25 t26 t27 h) = view_Mem_K1 waits t25 t26 t27 h := by
  rw [pfn_eq (by decide)]
  rw [pfn_loop (by kernel_rfl)]
  refine loopF_sim (σ := (List Int) × (List LAT6) × (Int) × (Int) × (List Int)) (mk := fun s => view_Mem_k1 s.1 s.2.1 s.2.2.1 s.2.2.2.1 s.2.2.2.2) (fun w1 s => ?_) 18446744073709551616 (waits, t25, t26, t27, h)
  have e2 : (fun waits at' stand t25 t26 t27 t57 h j => (jfn Try.prog view_Mem_e 6 18446744073709551616 (Ev.get view_Mem_h) 9 view_Mem_s) 518558 [w1] (view_Mem_k2 waits at' stand t25 t26 t27 t57 h j)) = view_Mem_K2 (fun waits t25 t26 t27 h => w1 (view_Mem_k1 waits t25 t26 t27 h)) := funext fun waits => funext fun at' => funext fun stand => funext fun t25 => funext fun t26 => funext fun t27 => funext fun t57 => funext fun h => funext fun j => view_Mem_g2 w1 waits at' stand t25 t26 t27 t57 h j
  have e3 : (fun h => (jfn Try.prog view_Mem_e 6 18446744073709551616 (Ev.get view_Mem_h) 9 view_Mem_s) 63 [] (view_Mem_k3 h)) = view_Mem_K3 := funext fun h => view_Mem_g3 h
  refine (view_Mem_c1 _ w1 s.1 s.2.1 s.2.2.1 s.2.2.2.1 s.2.2.2.2).trans ?_
  rw [e2, e3]
theorem view_Mem_t (x : As [.sl LAT3, .sl (.int .u32)]) : evT Try.prog view_Mem_e 6 18446744073709551616 (Ev.get view_Mem_h) 9 view_Mem_s x = view_Mem x := by
  have e1 : (fun waits t25 t26 t27 h => (jfn Try.prog view_Mem_e 6 18446744073709551616 (Ev.get view_Mem_h) 9 view_Mem_s) 506 [] (view_Mem_k1 waits t25 t26 t27 h)) = view_Mem_K1 := funext fun waits => funext fun t25 => funext fun t26 => funext fun t27 => funext fun h => view_Mem_g1 waits t25 t26 t27 h
  rw [rfn_eq, view_Mem_c0, e1]
  rfl
theorem view_Mem_ok : CtOk Try.prog (fun _ => True) 9 ⟨view_Mem_s, view_Mem⟩ := ct_of_ev (env_cons view_last_Gapi_Job_ok (env_cons words_Parts_ok (env_cons slices_Contains_Guint32_ok env_nil))) view_Mem_t
/-! view_Space -/
@[reducible] def view_Space_s : Sh := ⟨[], [], [], [.d (.pr LAT0 (.pr LAT0 (.pr LAT0 LAT0)))], [], 0, [.pr LAT0 (.pr LAT0 (.pr LAT0 LAT0))]⟩
def view_Space_e : Env := (cts [])
def view_Space_h : List (Nat × Hint) := []
def view_Space_m0 : Option (As [.pr LAT0 (.pr LAT0 (.pr LAT0 LAT0))]) :=
  some (([], [], [(0, 50, true, false, false)], []), ())
def view_Space (x : As []) : Option (As [.pr LAT0 (.pr LAT0 (.pr LAT0 LAT0))]) := view_Space_m0
theorem view_Space_c0 (J : Orc (As [.pr LAT0 (.pr LAT0 (.pr LAT0 LAT0))])) (x : As []) : rfn Try.prog view_Space_e 6 18446744073709551616 (Ev.get view_Space_h) 17 view_Space_s J x = view_Space_m0 := by kernel_rfl
theorem view_Space_t (x : As []) : evT Try.prog view_Space_e 6 18446744073709551616 (Ev.get view_Space_h) 17 view_Space_s x = view_Space x := by
  rw [rfn_eq, view_Space_c0]
  rfl
theorem view_Space_ok : CtOk Try.prog (fun _ => True) 17 ⟨view_Space_s, view_Space⟩ := ct_of_ev env_nil view_Space_t
/-! ask_shape -/
@[reducible] def ask_shape_s : Sh := ⟨[.d (.int .u8)], [], [.int .u8], [.d (.pr (.int .i64) LAT9), .d (.bool)], [], 0, [.pr (.int .i64) LAT9, .bool]⟩
def ask_shape_e : Env := (cts [])
def ask_shape_h : List (Nat × Hint) := []
def ask_shape_m0 (f : Int) : Option (As [.pr (.int .i64) LAT9, .bool]) :=
  some (Ev.gdV (.pr (.int .i64) LAT9) (if eqi 1 f = true then some (2000, 0, 0, false, false) else if eqi 2 f = true then some (2000, 0, 0, false, false) else if eqi 3 f = true then some (125, 0, 0, false, false) else if eqi 4 f = true then some (125, 0, 0, false, false) else if eqi 5 f = true then some (0, 1, 0, false, false) else if eqi 6 f = true then some (0, 0, 1, false, false) else if eqi 15 f = true then some (1968, 1968, 0, false, true) else if eqi 16 f = true then some (123, 0, 123, false, true) else if eqi 23 f = true then some (125, 0, 121, true, false) else Option.none) (0, 0, 0, false, false), Ev.isV (.pr (.int .i64) LAT9) (if eqi 1 f = true then some (2000, 0, 0, false, false) else if eqi 2 f = true then some (2000, 0, 0, false, false) else if eqi 3 f = true then some (125, 0, 0, false, false) else if eqi 4 f = true then some (125, 0, 0, false, false) else if eqi 5 f = true then some (0, 1, 0, false, false) else if eqi 6 f = true then some (0, 0, 1, false, false) else if eqi 15 f = true then some (1968, 1968, 0, false, true) else if eqi 16 f = true then some (123, 0, 123, false, true) else if eqi 23 f = true then some (125, 0, 121, true, false) else Option.none), ())
def ask_shape (x : As [.int .u8]) : Option (As [.pr (.int .i64) LAT9, .bool]) := ask_shape_m0 x.1
theorem ask_shape_c0 (J : Orc (As [.pr (.int .i64) LAT9, .bool])) (x : As [.int .u8]) : rfn Try.prog ask_shape_e 6 18446744073709551616 (Ev.get ask_shape_h) 35 ask_shape_s J x = ask_shape_m0 x.1 := by kernel_rfl
theorem ask_shape_t (x : As [.int .u8]) : evT Try.prog ask_shape_e 6 18446744073709551616 (Ev.get ask_shape_h) 35 ask_shape_s x = ask_shape x := by
  rw [rfn_eq, ask_shape_c0]
  rfl
theorem ask_shape_ok : CtOk Try.prog (fun _ => True) 35 ⟨ask_shape_s, ask_shape⟩ := ct_of_ev env_nil ask_shape_t
/-! ask_within -/
@[reducible] def ask_within_s : Sh := ⟨[.d (.int .i64), .d (.int .i64)], [], [.int .i64, .int .i64], [.d (.bool)], [], 0, [.bool]⟩
def ask_within_e : Env := (cts [])
def ask_within_h : List (Nat × Hint) := []
def ask_within_m0 (n : Int) (most : Int) : Option (As [.bool]) :=
  if eqi most 0 = true then some (eqi n 0, ()) else if ge n 1 = true then some (le n most, ()) else some (false, ())
def ask_within (x : As [.int .i64, .int .i64]) : Option (As [.bool]) := ask_within_m0 x.1 x.2.1
theorem ask_within_c0 (J : Orc (As [.bool])) (x : As [.int .i64, .int .i64]) : rfn Try.prog ask_within_e 6 18446744073709551616 (Ev.get ask_within_h) 48 ask_within_s J x = ask_within_m0 x.1 x.2.1 := by kernel_rfl
theorem ask_within_t (x : As [.int .i64, .int .i64]) : evT Try.prog ask_within_e 6 18446744073709551616 (Ev.get ask_within_h) 48 ask_within_s x = ask_within x := by
  rw [rfn_eq, ask_within_c0]
  rfl
theorem ask_within_ok : CtOk Try.prog (fun _ => True) 48 ⟨ask_within_s, ask_within⟩ := ct_of_ev env_nil ask_within_t
/-! ask_Right -/
@[reducible] def ask_Right_s : Sh := ⟨[.d (.pr (.int .u8) LAT4)], [], [.pr (.int .u8) LAT4], [.d (.bool)], [], 0, [.bool]⟩
def ask_Right_e : Env := (cts [(35, (⟨ask_shape_s, ask_shape⟩ : Ct)), (48, (⟨ask_within_s, ask_within⟩ : Ct))])
def ask_Right_h : List (Nat × Hint) := [(30, ⟨[], [1, 3, 47, 52, 53, 54, 55, 56, 57, 58, 59, 60, 61, 62]⟩), (14, ⟨[], [1, 3, 22, 31, 32, 33, 34, 35, 36, 37, 40, 41, 42, 43, 44, 45, 46, 52, 53, 54, 55, 56, 57, 58, 59, 60, 61, 62]⟩)]
def ask_Right_k1 (t22 : Bool) (a : Int) (a_2 : Int) (a_3 : Int) (a_4 : Int) (a_5 : List Int) (a_6 : List Bool) (s : Int) (s_2 : Int) (s_3 : Int) (s_4 : Bool) (s_5 : Bool) : St := { fr := [(1, .pb 0 0), (3, .pb 1 0), (22, .d .bool t22)], nt := 64, up := [], own := [(0, .box 52 [.d (.int .u8) a, .d (.int .u16) a_2, .d (.int .u16) a_3, .d (.int .u16) a_4, .d (.sl (.int .u16)) a_5, .d (.sl .bool) a_6]), (1, .box 101 [.d (.int .i64) s, .d (.int .i64) s_2, .d (.int .i64) s_3, .d .bool s_4, .d .bool s_5])], nx := 2, log := [], ln := 0 }
def ask_Right_k2 (t47 : Bool) (a : Int) (a_2 : Int) (a_3 : Int) (a_4 : Int) (a_5 : List Int) (a_6 : List Bool) (s : Int) (s_2 : Int) (s_3 : Int) (s_4 : Bool) (s_5 : Bool) : St := { fr := [(1, .pb 0 0), (3, .pb 1 0), (47, .d .bool t47)], nt := 64, up := [], own := [(0, .box 52 [.d (.int .u8) a, .d (.int .u16) a_2, .d (.int .u16) a_3, .d (.int .u16) a_4, .d (.sl (.int .u16)) a_5, .d (.sl .bool) a_6]), (1, .box 101 [.d (.int .i64) s, .d (.int .i64) s_2, .d (.int .i64) s_3, .d .bool s_4, .d .bool s_5])], nx := 2, log := [], ln := 0 }
def ask_Right_m1 (j2 : Bool → Int → Int → Int → Int → List Int → List Bool → Int → Int → Int → Bool → Bool → Option (As [.bool])) (t22 : Bool) (a : Int) (a_2 : Int) (a_3 : Int) (a_4 : Int) (a_5 : List Int) (a_6 : List Bool) (s : Int) (s_2 : Int) (s_3 : Int) (s_4 : Bool) (s_5 : Bool) : Option (As [.bool]) :=
  if t22 = true then some (false, ()) else Option.bind (ask_within (cvt .i64 a_3, s, ())) fun (y : Bool × Unit) => if (!y.1) = true then j2 true a a_2 a_3 a_4 a_5 a_6 s s_2 s_3 s_4 s_5 else Option.bind (ask_within (Int.ofNat (List.length a_6), s_2, ())) fun (y : Bool × Unit) => if (!y.1) = true then j2 true a a_2 a_3 a_4 a_5 a_6 s s_2 s_3 s_4 s_5 else Option.bind (ask_within (Int.ofNat (List.length a_5), s_3, ())) fun (y : Bool × Unit) => j2 (!y.1) a a_2 a_3 a_4 a_5 a_6 s s_2 s_3 s_4 s_5
def ask_Right_m2 (t47 : Bool) (a : Int) (a_2 : Int) (a_3 : Int) (a_4 : Int) (a_5 : List Int) (a_6 : List Bool) (s : Int) (s_2 : Int) (s_3 : Int) (s_4 : Bool) (s_5 : Bool) : Option (As [.bool]) :=
  if t47 = true then some (false, ()) else if (!s_5) = true then some (true, ()) else some (eqi (add .i64 (Int.ofNat (List.length a_6)) (Int.ofNat (List.length a_5))) (cvt .i64 a_3), ())
def ask_Right_m0 (j1 : Bool → Int → Int → Int → Int → List Int → List Bool → Int → Int → Int → Bool → Bool → Option (As [.bool])) (a : Int × Int × Int × Int × List Int × List Bool) : Option (As [.bool]) :=
  Option.bind (ask_shape (a.1, ())) fun (y : (Int × Int × Int × Bool × Bool) × Bool × Unit) => if (!y.2.1) = true then j1 true a.1 a.2.1 a.2.2.1 a.2.2.2.1 a.2.2.2.2.1 a.2.2.2.2.2 y.1.1 y.1.2.1 y.1.2.2.1 y.1.2.2.2.1 y.1.2.2.2.2 else if (!y.1.2.2.2.1) = true then j1 (nei a.2.2.2.1 0) a.1 a.2.1 a.2.2.1 a.2.2.2.1 a.2.2.2.2.1 a.2.2.2.2.2 y.1.1 y.1.2.1 y.1.2.2.1 y.1.2.2.2.1 y.1.2.2.2.2 else j1 false a.1 a.2.1 a.2.2.1 a.2.2.2.1 a.2.2.2.2.1 a.2.2.2.2.2 y.1.1 y.1.2.1 y.1.2.2.1 y.1.2.2.2.1 y.1.2.2.2.2
def ask_Right_K2 (t47 : Bool) (a : Int) (a_2 : Int) (a_3 : Int) (a_4 : Int) (a_5 : List Int) (a_6 : List Bool) (s : Int) (s_2 : Int) (s_3 : Int) (s_4 : Bool) (s_5 : Bool) : Option (As [.bool]) := ask_Right_m2 t47 a a_2 a_3 a_4 a_5 a_6 s s_2 s_3 s_4 s_5
def ask_Right_K1 (t22 : Bool) (a : Int) (a_2 : Int) (a_3 : Int) (a_4 : Int) (a_5 : List Int) (a_6 : List Bool) (s : Int) (s_2 : Int) (s_3 : Int) (s_4 : Bool) (s_5 : Bool) : Option (As [.bool]) := ask_Right_m1 (ask_Right_K2) t22 a a_2 a_3 a_4 a_5 a_6 s s_2 s_3 s_4 s_5
def ask_Right (x : As [.pr (.int .u8) LAT4]) : Option (As [.bool]) := ask_Right_m0 ask_Right_K1 x.1
theorem ask_Right_c2 (J : Orc (As [.bool])) (t47 : Bool) (a : Int) (a_2 : Int) (a_3 : Int) (a_4 : Int) (a_5 : List Int) (a_6 : List Bool) (s : Int) (s_2 : Int) (s_3 : Int) (s_4 : Bool) (s_5 : Bool) : pfn Try.prog ask_Right_e 6 18446744073709551616 (Ev.get ask_Right_h) 36 ask_Right_s J 30 [] (ask_Right_k2 t47 a a_2 a_3 a_4 a_5 a_6 s s_2 s_3 s_4 s_5) = ask_Right_m2 t47 a a_2 a_3 a_4 a_5 a_6 s s_2 s_3 s_4 s_5 := by kernel_rfl
theorem ask_Right_c1 (J : Orc (As [.bool])) (t22 : Bool) (a : Int) (a_2 : Int) (a_3 : Int) (a_4 : Int) (a_5 : List Int) (a_6 : List Bool) (s : Int) (s_2 : Int) (s_3 : Int) (s_4 : Bool) (s_5 : Bool) : pfn Try.prog ask_Right_e 6 18446744073709551616 (Ev.get ask_Right_h) 36 ask_Right_s J 14 [] (ask_Right_k1 t22 a a_2 a_3 a_4 a_5 a_6 s s_2 s_3 s_4 s_5) = ask_Right_m1 (fun t47 a a_2 a_3 a_4 a_5 a_6 s s_2 s_3 s_4 s_5 => J 30 [] (ask_Right_k2 t47 a a_2 a_3 a_4 a_5 a_6 s s_2 s_3 s_4 s_5)) t22 a a_2 a_3 a_4 a_5 a_6 s s_2 s_3 s_4 s_5 := by kernel_rfl
theorem ask_Right_c0 (J : Orc (As [.bool])) (x : As [.pr (.int .u8) LAT4]) : rfn Try.prog ask_Right_e 6 18446744073709551616 (Ev.get ask_Right_h) 36 ask_Right_s J x = ask_Right_m0 (fun t22 a a_2 a_3 a_4 a_5 a_6 s s_2 s_3 s_4 s_5 => J 14 [] (ask_Right_k1 t22 a a_2 a_3 a_4 a_5 a_6 s s_2 s_3 s_4 s_5)) x.1 := by kernel_rfl
theorem ask_Right_g2 (t47 : Bool) (a : Int) (a_2 : Int) (a_3 : Int) (a_4 : Int) (a_5 : List Int) (a_6 : List Bool) (s : Int) (s_2 : Int) (s_3 : Int) (s_4 : Bool) (s_5 : Bool) : jfn Try.prog ask_Right_e 6 18446744073709551616 (Ev.get ask_Right_h) 36 ask_Right_s 30 [] (ask_Right_k2 t47 a a_2 a_3 a_4 a_5 a_6 s s_2 s_3 s_4 s_5) = ask_Right_K2 t47 a a_2 a_3 a_4 a_5 a_6 s s_2 s_3 s_4 s_5 := by
  rw [pfn_eq (by decide)]
  rw [ask_Right_c2]
  rfl
theorem ask_Right_g1 (t22 : Bool) (a : Int) (a_2 : Int) (a_3 : Int) (a_4 : Int) (a_5 : List Int) (a_6 : List Bool) (s : Int) (s_2 : Int) (s_3 : Int) (s_4 : Bool) (s_5 : Bool) : jfn Try.prog ask_Right_e 6 18446744073709551616 (Ev.get ask_Right_h) 36 ask_Right_s 14 [] (ask_Right_k1 t22 a a_2 a_3 a_4 a_5 a_6 s s_2 s_3 s_4 s_5) = ask_Right_K1 t22 a a_2 a_3 a_4 a_5 a_6 s s_2 s_3 s_4 s_5 := by
  rw [pfn_eq (by decide)]
  have e2 : (fun t47 a a_2 a_3 a_4 a_5 a_6 s s_2 s_3 s_4 s_5 => (jfn Try.prog ask_Right_e 6 18446744073709551616 (Ev.get ask_Right_h) 36 ask_Right_s) 30 [] (ask_Right_k2 t47 a a_2 a_3 a_4 a_5 a_6 s s_2 s_3 s_4 s_5)) = ask_Right_K2 := funext fun t47 => funext fun a => funext fun a_2 => funext fun a_3 => funext fun a_4 => funext fun a_5 => funext fun a_6 => funext fun s => funext fun s_2 => funext fun s_3 => funext fun s_4 => funext fun s_5 => ask_Right_g2 t47 a a_2 a_3 a_4 a_5 a_6 s s_2 s_3 s_4 s_5
  rw [ask_Right_c1, e2]
  rfl
theorem ask_Right_t (x : As [.pr (.int .u8) LAT4]) : evT Try.prog ask_Right_e 6 18446744073709551616 (Ev.get ask_Right_h) 36 ask_Right_s x = ask_Right x := by
  have e1 : (fun t22 a a_2 a_3 a_4 a_5 a_6 s s_2 s_3 s_4 s_5 => (jfn Try.prog ask_Right_e 6 18446744073709551616 (Ev.get ask_Right_h) 36 ask_Right_s) 14 [] (ask_Right_k1 t22 a a_2 a_3 a_4 a_5 a_6 s s_2 s_3 s_4 s_5)) = ask_Right_K1 := funext fun t22 => funext fun a => funext fun a_2 => funext fun a_3 => funext fun a_4 => funext fun a_5 => funext fun a_6 => funext fun s => funext fun s_2 => funext fun s_3 => funext fun s_4 => funext fun s_5 => ask_Right_g1 t22 a a_2 a_3 a_4 a_5 a_6 s s_2 s_3 s_4 s_5
  rw [rfn_eq, ask_Right_c0, e1]
  rfl
theorem ask_Right_ok : CtOk Try.prog (fun _ => True) 36 ⟨ask_Right_s, ask_Right⟩ := ct_of_ev (env_cons ask_shape_ok (env_cons ask_within_ok env_nil)) ask_Right_t
/-! ask_numbers -/
@[reducible] def ask_numbers_s : Sh := ⟨[.row 0, .d (.sl (.int .u16))], [.row (.int .u8) 5], [.sl (.int .u16), .sl (.int .u8)], [.row 1], [(1, .row (.int .u8) 5)], 1, [.sl (.int .u8)]⟩
def ask_numbers_e : Env := (cts [])
def ask_numbers_h : List (Nat × Hint) := [(26, ⟨[.unl 0], [0, 7, 8, 9]⟩)]
def ask_numbers_k1 (t7 : List Int) (t8 : Int) (t9 : Int) (out : List Int) : St := { fr := [(0, .row 1), (7, .d (.sl (.int .u16)) t7), (8, .d (.int .i64) t8), (9, .d (.int .i64) t9)], nt := 23, up := [], own := [(1, .row (.int .u8) 5 out)], nx := 2, log := [], ln := 1 }
def ask_numbers_m1 (self1 : List Int → Int → Int → List Int → Option (As [.sl (.int .u8)])) (t7 : List Int) (t8 : Int) (t9 : Int) (out : List Int) : Option (As [.sl (.int .u8)]) :=
  if lt t9 t8 = true then Option.bind (at? t7 t9) fun (y : Int) => need (small (List.length out + Nat.succ (Nat.succ 0))) (self1 t7 t8 (add .i64 t9 1) (out ++ [cvt .u8 (Sx.shr .u16 y 8), cvt .u8 y])) else some (out, ())
def ask_numbers_m0 (j1 : List Int → Int → Int → List Int → Option (As [.sl (.int .u8)])) (out : List Int) (l : List Int) : Option (As [.sl (.int .u8)]) :=
  j1 out (Int.ofNat (List.length out)) 0 l
def ask_numbers_K1 (t7 : List Int) (t8 : Int) (t9 : Int) (out : List Int) : Option (As [.sl (.int .u8)]) :=
  loopF (fun (self : (List Int) × (Int) × (Int) × (List Int) → Option (As [.sl (.int .u8)])) (s : (List Int) × (Int) × (Int) × (List Int)) => ask_numbers_m1 (fun t7 t8 t9 out => self (t7, t8, t9, out)) s.1 s.2.1 s.2.2.1 s.2.2.2) 18446744073709551616 (t7, t8, t9, out)
def ask_numbers (x : As [.sl (.int .u16), .sl (.int .u8)]) : Option (As [.sl (.int .u8)]) := ask_numbers_m0 ask_numbers_K1 x.1 x.2.1
theorem ask_numbers_c1 (J : Orc (As [.sl (.int .u8)])) (w1 : St → Option (As [.sl (.int .u8)])) (t7 : List Int) (t8 : Int) (t9 : Int) (out : List Int) : pfn Try.prog ask_numbers_e 6 18446744073709551616 (Ev.get ask_numbers_h) 37 ask_numbers_s J 26 [w1] (ask_numbers_k1 t7 t8 t9 out) = ask_numbers_m1 (fun t7 t8 t9 out => w1 (ask_numbers_k1 t7 t8 t9 out)) t7 t8 t9 out := by kernel_rfl
theorem ask_numbers_c0 (J : Orc (As [.sl (.int .u8)])) (x : As [.sl (.int .u16), .sl (.int .u8)]) : rfn Try.prog ask_numbers_e 6 18446744073709551616 (Ev.get ask_numbers_h) 37 ask_numbers_s J x = ask_numbers_m0 (fun t7 t8 t9 out => J 26 [] (ask_numbers_k1 t7 t8 t9 out)) x.1 x.2.1 := by kernel_rfl
theorem ask_numbers_g1 (t7 : List Int) (t8 : Int) (t9 : Int) (out : List Int) : jfn Try.prog ask_numbers_e 6 18446744073709551616 (Ev.get ask_numbers_h) 37 ask_numbers_s 26 [] (ask_numbers_k1 t7 t8 t9 out) = ask_numbers_K1 t7 t8 t9 out := by
  rw [pfn_eq (by decide)]
  rw [pfn_loop (by kernel_rfl)]
  refine loopF_sim (σ := (List Int) × (Int) × (Int) × (List Int)) (mk := fun s => ask_numbers_k1 s.1 s.2.1 s.2.2.1 s.2.2.2) (fun w1 s => ?_) 18446744073709551616 (t7, t8, t9, out)
  refine (ask_numbers_c1 _ w1 s.1 s.2.1 s.2.2.1 s.2.2.2).trans ?_
  rfl
theorem ask_numbers_t (x : As [.sl (.int .u16), .sl (.int .u8)]) : evT Try.prog ask_numbers_e 6 18446744073709551616 (Ev.get ask_numbers_h) 37 ask_numbers_s x = ask_numbers x := by
  have e1 : (fun t7 t8 t9 out => (jfn Try.prog ask_numbers_e 6 18446744073709551616 (Ev.get ask_numbers_h) 37 ask_numbers_s) 26 [] (ask_numbers_k1 t7 t8 t9 out)) = ask_numbers_K1 := funext fun t7 => funext fun t8 => funext fun t9 => funext fun out => ask_numbers_g1 t7 t8 t9 out
  rw [rfn_eq, ask_numbers_c0, e1]
  rfl
theorem ask_numbers_ok : CtOk Try.prog (fun _ => True) 37 ⟨ask_numbers_s, ask_numbers⟩ := ct_of_ev env_nil ask_numbers_t
/-! ask_Pack -/
@[reducible] def ask_Pack_s : Sh := ⟨[.d (.sl .bool)], [], [.sl .bool], [.d (.sl (.int .u8))], [], 0, [.sl (.int .u8)]⟩
def ask_Pack_e : Env := (cts [])
def ask_Pack_h : List (Nat × Hint) := [(7, ⟨[], [0, 3]⟩), (250, ⟨[], [4, 18, 19, 20]⟩)]
def ask_Pack_k1 (bits : List Bool) (n : Int) : St := { fr := [(0, .d (.sl .bool) bits), (3, .d (.int .i64) n)], nt := 38, up := [], own := [], nx := 0, log := [], ln := 0 }
def ask_Pack_k2 (t18 : List Bool) (t19 : Int) (t20 : Int) (out : List Int) : St := { fr := [(4, .row 0), (18, .d (.sl .bool) t18), (19, .d (.int .i64) t19), (20, .d (.int .i64) t20)], nt := 38, up := [], own := [(0, .row (.int .u8) 5 out)], nx := 1, log := [], ln := 0 }
def ask_Pack_m1 (j2 : List Bool → Int → Int → List Int → Option (As [.sl (.int .u8)])) (bits : List Bool) (n : Int) : Option (As [.sl (.int .u8)]) :=
  need (ge n 0) (need (Ev.capOk n n) (need (small (Int.toNat n)) (j2 bits (Int.ofNat (List.length bits)) 0 (List.replicate (Int.toNat n) 0))))
def ask_Pack_m2 (self2 : List Bool → Int → Int → List Int → Option (As [.sl (.int .u8)])) (t18 : List Bool) (t19 : Int) (t20 : Int) (out : List Int) : Option (As [.sl (.int .u8)]) :=
  if lt t20 t19 = true then Option.bind (at? t18 t20) fun (y : Bool) => if y = true then Option.bind (at? out (quo .i64 t20 8)) fun (x : Int) => Option.bind (at? out (quo .i64 t20 8)) fun (y : Int) => need (ge (rem t20 8) 0) (Option.bind (at? out (quo .i64 t20 8)) fun (x : Int) => Option.bind (at? out (quo .i64 t20 8)) fun (x : Int) => self2 t18 t19 (add .i64 t20 1) (List.set out (Int.toNat (quo .i64 t20 8)) (Sx.bor .u8 y (Sx.shl .u8 1 (rem t20 8))))) else self2 t18 t19 (add .i64 t20 1) out else some (out, ())
def ask_Pack_m0 (j1 : List Bool → Int → Option (As [.sl (.int .u8)])) (bits : List Bool) : Option (As [.sl (.int .u8)]) :=
  if gt (rem (Int.ofNat (List.length bits)) 8) 0 = true then j1 bits (add .i64 (quo .i64 (Int.ofNat (List.length bits)) 8) 1) else j1 bits (quo .i64 (Int.ofNat (List.length bits)) 8)
def ask_Pack_K2 (t18 : List Bool) (t19 : Int) (t20 : Int) (out : List Int) : Option (As [.sl (.int .u8)]) :=
  loopF (fun (self : (List Bool) × (Int) × (Int) × (List Int) → Option (As [.sl (.int .u8)])) (s : (List Bool) × (Int) × (Int) × (List Int)) => ask_Pack_m2 (fun t18 t19 t20 out => self (t18, t19, t20, out)) s.1 s.2.1 s.2.2.1 s.2.2.2) 18446744073709551616 (t18, t19, t20, out)
def ask_Pack_K1 (bits : List Bool) (n : Int) : Option (As [.sl (.int .u8)]) := ask_Pack_m1 (ask_Pack_K2) bits n
def ask_Pack (x : As [.sl .bool]) : Option (As [.sl (.int .u8)]) := ask_Pack_m0 ask_Pack_K1 x.1
theorem ask_Pack_c2 (J : Orc (As [.sl (.int .u8)])) (w2 : St → Option (As [.sl (.int .u8)])) (t18 : List Bool) (t19 : Int) (t20 : Int) (out : List Int) : pfn Try.prog ask_Pack_e 6 18446744073709551616 (Ev.get ask_Pack_h) 38 ask_Pack_s J 250 [w2] (ask_Pack_k2 t18 t19 t20 out) = ask_Pack_m2 (fun t18 t19 t20 out => w2 (ask_Pack_k2 t18 t19 t20 out)) t18 t19 t20 out := by kernel_rfl
theorem ask_Pack_c1 (J : Orc (As [.sl (.int .u8)])) (bits : List Bool) (n : Int) : pfn Try.prog ask_Pack_e 6 18446744073709551616 (Ev.get ask_Pack_h) 38 ask_Pack_s J 7 [] (ask_Pack_k1 bits n) = ask_Pack_m1 (fun t18 t19 t20 out => J 250 [] (ask_Pack_k2 t18 t19 t20 out)) bits n := by kernel_rfl
theorem ask_Pack_c0 (J : Orc (As [.sl (.int .u8)])) (x : As [.sl .bool]) : rfn Try.prog ask_Pack_e 6 18446744073709551616 (Ev.get ask_Pack_h) 38 ask_Pack_s J x = ask_Pack_m0 (fun bits n => J 7 [] (ask_Pack_k1 bits n)) x.1 := by kernel_rfl
theorem ask_Pack_g2 (t18 : List Bool) (t19 : Int) (t20 : Int) (out : List Int) : jfn Try.prog ask_Pack_e 6 18446744073709551616 (Ev.get ask_Pack_h) 38 ask_Pack_s 250 [] (ask_Pack_k2 t18 t19 t20 out) = ask_Pack_K2 t18 t19 t20 out := by
  rw [pfn_eq (by decide)]
  rw [pfn_loop (by kernel_rfl)]
  refine loopF_sim (σ := (List Bool) × (Int) × (Int) × (List Int)) (mk := fun s => ask_Pack_k2 s.1 s.2.1 s.2.2.1 s.2.2.2) (fun w2 s => ?_) 18446744073709551616 (t18, t19, t20, out)
  refine (ask_Pack_c2 _ w2 s.1 s.2.1 s.2.2.1 s.2.2.2).trans ?_
  rfl
theorem ask_Pack_g1 (bits : List Bool) (n : Int) : jfn Try.prog ask_Pack_e 6 18446744073709551616 (Ev.get ask_Pack_h) 38 ask_Pack_s 7 [] (ask_Pack_k1 bits n) = ask_Pack_K1 bits n := by
  rw [pfn_eq (by decide)]
  have e2 : (fun t18 t19 t20 out => (jfn Try.prog ask_Pack_e 6 18446744073709551616 (Ev.get ask_Pack_h) 38 ask_Pack_s) 250 [] (ask_Pack_k2 t18 t19 t20 out)) = ask_Pack_K2 := funext fun t18 => funext fun t19 => funext fun t20 => funext fun out => ask_Pack_g2 t18 t19 t20 out
  rw [ask_Pack_c1, e2]
  rfl
theorem ask_Pack_t (x : As [.sl .bool]) : evT Try.prog ask_Pack_e 6 18446744073709551616 (Ev.get ask_Pack_h) 38 ask_Pack_s x = ask_Pack x := by
  have e1 : (fun bits n => (jfn Try.prog ask_Pack_e 6 18446744073709551616 (Ev.get ask_Pack_h) 38 ask_Pack_s) 7 [] (ask_Pack_k1 bits n)) = ask_Pack_K1 := funext fun bits => funext fun n => ask_Pack_g1 bits n
  rw [rfn_eq, ask_Pack_c0, e1]
  rfl
theorem ask_Pack_ok : CtOk Try.prog (fun _ => True) 38 ⟨ask_Pack_s, ask_Pack⟩ := ct_of_ev env_nil ask_Pack_t
/-! ask_Bytes -/
@[reducible] def ask_Bytes_s : Sh := ⟨[.d (.pr (.int .u8) LAT4)], [], [.pr (.int .u8) LAT4], [.d (.sl (.int .u8)), .d (.int .i64)], [], 0, [.sl (.int .u8), .int .i64]⟩
def ask_Bytes_e : Env := (cts [(35, (⟨ask_shape_s, ask_shape⟩ : Ct)), (36, (⟨ask_Right_s, ask_Right⟩ : Ct)), (37, (⟨ask_numbers_s, ask_numbers⟩ : Ct)), (38, (⟨ask_Pack_s, ask_Pack⟩ : Ct))])
def ask_Bytes_h : List (Nat × Hint) := [(31, ⟨[], [1, 4, 6, 48, 49, 50, 51]⟩), (63, ⟨[], [1, 4, 6, 48, 49, 50, 51]⟩), (127, ⟨[], [6]⟩), (508, ⟨[], [1, 4, 6, 43]⟩)]
def ask_Bytes_k1 (a : Int) (a_2 : Int) (a_3 : Int) (a_4 : Int) (a_5 : List Int) (a_6 : List Bool) (s : Int) (s_2 : Int) (s_3 : Int) (s_4 : Bool) (s_5 : Bool) (out : List Int) : St := { fr := [(1, .pb 0 0), (4, .pb 1 0), (6, .row 2)], nt := 102, up := [], own := [(0, .box 52 [.d (.int .u8) a, .d (.int .u16) a_2, .d (.int .u16) a_3, .d (.int .u16) a_4, .d (.sl (.int .u16)) a_5, .d (.sl .bool) a_6]), (1, .box 101 [.d (.int .i64) s, .d (.int .i64) s_2, .d (.int .i64) s_3, .d .bool s_4, .d .bool s_5]), (2, .row (.int .u8) 5 out)], nx := 3, log := [], ln := 0 }
def ask_Bytes_k2 (a : Int) (a_2 : Int) (a_3 : Int) (a_4 : Int) (a_5 : List Int) (a_6 : List Bool) (s : Int) (s_2 : Int) (s_3 : Int) (s_4 : Bool) (s_5 : Bool) (out : List Int) : St := { fr := [(1, .pb 0 0), (4, .pb 1 0), (6, .row 2)], nt := 102, up := [], own := [(0, .box 52 [.d (.int .u8) a, .d (.int .u16) a_2, .d (.int .u16) a_3, .d (.int .u16) a_4, .d (.sl (.int .u16)) a_5, .d (.sl .bool) a_6]), (1, .box 101 [.d (.int .i64) s, .d (.int .i64) s_2, .d (.int .i64) s_3, .d .bool s_4, .d .bool s_5]), (2, .row (.int .u8) 5 out)], nx := 3, log := [], ln := 0 }
def ask_Bytes_k3 (t43 : Bool) (a : Int) (a_2 : Int) (a_3 : Int) (a_4 : Int) (a_5 : List Int) (a_6 : List Bool) (s : Int) (s_2 : Int) (s_3 : Int) (s_4 : Bool) (s_5 : Bool) (out : List Int) : St := { fr := [(1, .pb 0 0), (4, .pb 1 0), (6, .row 2), (43, .d .bool t43)], nt := 102, up := [], own := [(0, .box 52 [.d (.int .u8) a, .d (.int .u16) a_2, .d (.int .u16) a_3, .d (.int .u16) a_4, .d (.sl (.int .u16)) a_5, .d (.sl .bool) a_6]), (1, .box 101 [.d (.int .i64) s, .d (.int .i64) s_2, .d (.int .i64) s_3, .d .bool s_4, .d .bool s_5]), (2, .row (.int .u8) 5 out)], nx := 3, log := [], ln := 0 }
def ask_Bytes_k4 (out : List Int) : St := { fr := [(6, .row 0)], nt := 102, up := [], own := [(0, .row (.int .u8) 5 out)], nx := 1, log := [], ln := 0 }
def ask_Bytes_m1 (j2 : Int → Int → Int → Int → List Int → List Bool → Int → Int → Int → Bool → Bool → List Int → Option (As [.sl (.int .u8), .int .i64])) (a : Int) (a_2 : Int) (a_3 : Int) (a_4 : Int) (a_5 : List Int) (a_6 : List Bool) (s : Int) (s_2 : Int) (s_3 : Int) (s_4 : Bool) (s_5 : Bool) (out : List Int) : Option (As [.sl (.int .u8), .int .i64]) :=
  if s_4 = true then Option.bind (ask_numbers ([a_4, cvt .u16 (Int.ofNat (List.length a_5))], out, ())) fun (y : List Int × Unit) => j2 a a_2 a_3 a_4 a_5 a_6 s s_2 s_3 s_4 s_5 y.1 else j2 a a_2 a_3 a_4 a_5 a_6 s s_2 s_3 s_4 s_5 out
def ask_Bytes_m2 (j3 : Bool → Int → Int → Int → Int → List Int → List Bool → Int → Int → Int → Bool → Bool → List Int → Option (As [.sl (.int .u8), .int .i64])) (a : Int) (a_2 : Int) (a_3 : Int) (a_4 : Int) (a_5 : List Int) (a_6 : List Bool) (s : Int) (s_2 : Int) (s_3 : Int) (s_4 : Bool) (s_5 : Bool) (out : List Int) : Option (As [.sl (.int .u8), .int .i64]) :=
  if eqi a 5 = true then Option.bind (at? a_6 0) fun (y : Bool) => j3 y a a_2 a_3 a_4 a_5 a_6 s s_2 s_3 s_4 s_5 out else j3 false a a_2 a_3 a_4 a_5 a_6 s s_2 s_3 s_4 s_5 out
def ask_Bytes_m3 (j4 : List Int → Option (As [.sl (.int .u8), .int .i64])) (t43 : Bool) (a : Int) (a_2 : Int) (a_3 : Int) (a_4 : Int) (a_5 : List Int) (a_6 : List Bool) (s : Int) (s_2 : Int) (s_3 : Int) (s_4 : Bool) (s_5 : Bool) (out : List Int) : Option (As [.sl (.int .u8), .int .i64]) :=
  if t43 = true then Option.bind (ask_numbers ([65280], out, ())) fun (y : List Int × Unit) => j4 y.1 else if eqi a 5 = true then Option.bind (ask_numbers ([0], out, ())) fun (y : List Int × Unit) => j4 y.1 else if eqi a 6 = true then Option.bind (ask_numbers (a_5, out, ())) fun (y : List Int × Unit) => j4 y.1 else if gt s_2 0 = true then Option.bind (ask_Pack (a_6, ())) fun (y : List Int × Unit) => need (small (List.length out + Nat.succ 0)) (need (small (List.length (out ++ [cvt .u8 (Int.ofNat (List.length y.1))]) + List.length y.1)) (j4 (out ++ [cvt .u8 (Int.ofNat (List.length y.1))] ++ y.1))) else if gt s_3 0 = true then need (small (List.length out + Nat.succ 0)) (Option.bind (ask_numbers (a_5, out ++ [cvt .u8 (mul .i64 2 (Int.ofNat (List.length a_5)))], ())) fun (y : List Int × Unit) => j4 y.1) else j4 out
def ask_Bytes_m4 (out : List Int) : Option (As [.sl (.int .u8), .int .i64]) :=
  some (out, 0, ())
def ask_Bytes_m0 (j1 : Int → Int → Int → Int → List Int → List Bool → Int → Int → Int → Bool → Bool → List Int → Option (As [.sl (.int .u8), .int .i64])) (a : Int × Int × Int × Int × List Int × List Bool) : Option (As [.sl (.int .u8), .int .i64]) :=
  Option.bind (ask_Right (a, ())) fun (y : Bool × Unit) => if (!y.1) = true then some ([], 12, ()) else Option.bind (ask_shape (a.1, ())) fun (y : (Int × Int × Int × Bool × Bool) × Bool × Unit) => Option.bind (ask_numbers ([a.2.1], [a.1], ())) fun (y_1 : List Int × Unit) => if gt y.1.1 0 = true then Option.bind (ask_numbers ([a.2.2.1], y_1.1, ())) fun (y_2 : List Int × Unit) => j1 a.1 a.2.1 a.2.2.1 a.2.2.2.1 a.2.2.2.2.1 a.2.2.2.2.2 y.1.1 y.1.2.1 y.1.2.2.1 y.1.2.2.2.1 y.1.2.2.2.2 y_2.1 else j1 a.1 a.2.1 a.2.2.1 a.2.2.2.1 a.2.2.2.2.1 a.2.2.2.2.2 y.1.1 y.1.2.1 y.1.2.2.1 y.1.2.2.2.1 y.1.2.2.2.2 y_1.1
def ask_Bytes_K4 (out : List Int) : Option (As [.sl (.int .u8), .int .i64]) := ask_Bytes_m4 out
def ask_Bytes_K3 (t43 : Bool) (a : Int) (a_2 : Int) (a_3 : Int) (a_4 : Int) (a_5 : List Int) (a_6 : List Bool) (s : Int) (s_2 : Int) (s_3 : Int) (s_4 : Bool) (s_5 : Bool) (out : List Int) : Option (As [.sl (.int .u8), .int .i64]) := ask_Bytes_m3 (ask_Bytes_K4) t43 a a_2 a_3 a_4 a_5 a_6 s s_2 s_3 s_4 s_5 out
def ask_Bytes_K2 (a : Int) (a_2 : Int) (a_3 : Int) (a_4 : Int) (a_5 : List Int) (a_6 : List Bool) (s : Int) (s_2 : Int) (s_3 : Int) (s_4 : Bool) (s_5 : Bool) (out : List Int) : Option (As [.sl (.int .u8), .int .i64]) := ask_Bytes_m2 (ask_Bytes_K3) a a_2 a_3 a_4 a_5 a_6 s s_2 s_3 s_4 s_5 out
def ask_Bytes_K1 (a : Int) (a_2 : Int) (a_3 : Int) (a_4 : Int) (a_5 : List Int) (a_6 : List Bool) (s : Int) (s_2 : Int) (s_3 : Int) (s_4 : Bool) (s_5 : Bool) (out : List Int) : Option (As [.sl (.int .u8), .int .i64]) := ask_Bytes_m1 (ask_Bytes_K2) a a_2 a_3 a_4 a_5 a_6 s s_2 s_3 s_4 s_5 out
def ask_Bytes (x : As [.pr (.int .u8) LAT4]) : Option (As [.sl (.int .u8), .int .i64]) := ask_Bytes_m0 ask_Bytes_K1 x.1
theorem ask_Bytes_c4 (J : Orc (As [.sl (.int .u8), .int .i64])) (out : List Int) : pfn Try.prog ask_Bytes_e 6 18446744073709551616 (Ev.get ask_Bytes_h) 15 ask_Bytes_s J 127 [] (ask_Bytes_k4 out) = ask_Bytes_m4 out := by kernel_rfl
theorem ask_Bytes_c3 (J : Orc (As [.sl (.int .u8), .int .i64])) (t43 : Bool) (a : Int) (a_2 : Int) (a_3 : Int) (a_4 : Int) (a_5 : List Int) (a_6 : List Bool) (s : Int) (s_2 : Int) (s_3 : Int) (s_4 : Bool) (s_5 : Bool) (out : List Int) : pfn Try.prog ask_Bytes_e 6 18446744073709551616 (Ev.get ask_Bytes_h) 15 ask_Bytes_s J 508 [] (ask_Bytes_k3 t43 a a_2 a_3 a_4 a_5 a_6 s s_2 s_3 s_4 s_5 out) = ask_Bytes_m3 (fun out => J 127 [] (ask_Bytes_k4 out)) t43 a a_2 a_3 a_4 a_5 a_6 s s_2 s_3 s_4 s_5 out := by kernel_rfl
theorem ask_Bytes_c2 (J : Orc (As [.sl (.int .u8), .int .i64])) (a : Int) (a_2 : Int) (a_3 : Int) (a_4 : Int) (a_5 : List Int) (a_6 : List Bool) (s : Int) (s_2 : Int) (s_3 : Int) (s_4 : Bool) (s_5 : Bool) (out : List Int) : pfn Try.prog ask_Bytes_e 6 18446744073709551616 (Ev.get ask_Bytes_h) 15 ask_Bytes_s J 63 [] (ask_Bytes_k2 a a_2 a_3 a_4 a_5 a_6 s s_2 s_3 s_4 s_5 out) = ask_Bytes_m2 (fun t43 a a_2 a_3 a_4 a_5 a_6 s s_2 s_3 s_4 s_5 out => J 508 [] (ask_Bytes_k3 t43 a a_2 a_3 a_4 a_5 a_6 s s_2 s_3 s_4 s_5 out)) a a_2 a_3 a_4 a_5 a_6 s s_2 s_3 s_4 s_5 out := by kernel_rfl
theorem ask_Bytes_c1 (J : Orc (As [.sl (.int .u8), .int .i64])) (a : Int) (a_2 : Int) (a_3 : Int) (a_4 : Int) (a_5 : List Int) (a_6 : List Bool) (s : Int) (s_2 : Int) (s_3 : Int) (s_4 : Bool) (s_5 : Bool) (out : List Int) : pfn Try.prog ask_Bytes_e 6 18446744073709551616 (Ev.get ask_Bytes_h) 15 ask_Bytes_s J 31 [] (ask_Bytes_k1 a a_2 a_3 a_4 a_5 a_6 s s_2 s_3 s_4 s_5 out) = ask_Bytes_m1 (fun a a_2 a_3 a_4 a_5 a_6 s s_2 s_3 s_4 s_5 out => J 63 [] (ask_Bytes_k2 a a_2 a_3 a_4 a_5 a_6 s s_2 s_3 s_4 s_5 out)) a a_2 a_3 a_4 a_5 a_6 s s_2 s_3 s_4 s_5 out := by kernel_rfl
theorem ask_Bytes_c0 (J : Orc (As [.sl (.int .u8), .int .i64])) (x : As [.pr (.int .u8) LAT4]) : rfn Try.prog ask_Bytes_e 6 18446744073709551616 (Ev.get ask_Bytes_h) 15 ask_Bytes_s J x = ask_Bytes_m0 (fun a a_2 a_3 a_4 a_5 a_6 s s_2 s_3 s_4 s_5 out => J 31 [] (ask_Bytes_k1 a a_2 a_3 a_4 a_5 a_6 s s_2 s_3 s_4 s_5 out)) x.1 := by kernel_rfl
theorem ask_Bytes_g4 (out : List Int) : jfn Try.prog ask_Bytes_e 6 18446744073709551616 (Ev.get ask_Bytes_h) 15 ask_Bytes_s 127 [] (ask_Bytes_k4 out) = ask_Bytes_K4 out := by
  rw [pfn_eq (by decide)]
  rw [ask_Bytes_c4]
  rfl
theorem ask_Bytes_g3 (t43 : Bool) (a : Int) (a_2 : Int) (a_3 : Int) (a_4 : Int) (a_5 : List Int) (a_6 : List Bool) (s : Int) (s_2 : Int) (s_3 : Int) (s_4 : Bool) (s_5 : Bool) (out : List Int) : jfn Try.prog ask_Bytes_e 6 18446744073709551616 (Ev.get ask_Bytes_h) 15 ask_Bytes_s 508 [] (ask_Bytes_k3 t43 a a_2 a_3 a_4 a_5 a_6 s s_2 s_3 s_4 s_5 out) = ask_Bytes_K3 t43 a a_2 a_3 a_4 a_5 a_6 s s_2 s_3 s_4 s_5 out := by
  rw [pfn_eq (by decide)]
  have e4 : (fun out => (jfn Try.prog ask_Bytes_e 6 18446744073709551616 (Ev.get ask_Bytes_h) 15 ask_Bytes_s) 127 [] (ask_Bytes_k4 out)) = ask_Bytes_K4 := funext fun out => ask_Bytes_g4 out
  rw [ask_Bytes_c3, e4]
  rfl
theorem ask_Bytes_g2 (a : Int) (a_2 : Int) (a_3 : Int) (a_4 : Int) (a_5 : List Int) (a_6 : List Bool) (s : Int) (s_2 : Int) (s_3 : Int) (s_4 : Bool) (s_5 : Bool) (out : List Int) : jfn Try.prog ask_Bytes_e 6 18446744073709551616 (Ev.get ask_Bytes_h) 15 ask_Bytes_s 63 [] (ask_Bytes_k2 a a_2 a_3 a_4 a_5 a_6 s s_2 s_3 s_4 s_5 out) = ask_Bytes_K2 a a_2 a_3 a_4 a_5 a_6 s s_2 s_3 s_4 s_5 out := by
  rw [pfn_eq (by decide)]
  have e3 : (fun t43 a a_2 a_3 a_4 a_5 a_6 s s_2 s_3 s_4 s_5 out => (jfn Try.prog ask_Bytes_e 6 18446744073709551616 (Ev.get ask_Bytes_h) 15 ask_Bytes_s) 508 [] (ask_Bytes_k3 t43 a a_2 a_3 a_4 a_5 a_6 s s_2 s_3 s_4 s_5 out)) = ask_Bytes_K3 := funext fun t43 => funext fun a => funext fun a_2 => funext fun a_3 => funext fun a_4 => funext fun a_5 => funext fun a_6 => funext fun s => funext fun s_2 => funext fun s_3 => funext fun s_4 => funext fun s_5 => funext fun out => ask_Bytes_g3 t43 a a_2 a_3 a_4 a_5 a_6 s s_2 s_3 s_4 s_5 out
  rw [ask_Bytes_c2, e3]
  rfl
theorem ask_Bytes_g1 (a : Int) (a_2 : Int) (a_3 : Int) (a_4 : Int) (a_5 : List Int) (a_6 : List Bool) (s : Int) (s_2 : Int) (s_3 : Int) (s_4 : Bool) (s_5 : Bool) (out : List Int) : jfn Try.prog ask_Bytes_e 6 18446744073709551616 (Ev.get ask_Bytes_h) 15 ask_Bytes_s 31 [] (ask_Bytes_k1 a a_2 a_3 a_4 a_5 a_6 s s_2 s_3 s_4 s_5 out) = ask_Bytes_K1 a a_2 a_3 a_4 a_5 a_6 s s_2 s_3 s_4 s_5 out := by
  rw [pfn_eq (by decide)]
  have e2 : (fun a a_2 a_3 a_4 a_5 a_6 s s_2 s_3 s_4 s_5 out => (jfn Try.prog ask_Bytes_e 6 18446744073709551616 (Ev.get ask_Bytes_h) 15 ask_Bytes_s) 63 [] (ask_Bytes_k2 a a_2 a_3 a_4 a_5 a_6 s s_2 s_3 s_4 s_5 out)) = ask_Bytes_K2 := funext fun a => funext fun a_2 => funext fun a_3 => funext fun a_4 => funext fun a_5 => funext fun a_6 => funext fun s => funext fun s_2 => funext fun s_3 => funext fun s_4 => funext fun s_5 => funext fun out => ask_Bytes_g2 a a_2 a_3 a_4 a_5 a_6 s s_2 s_3 s_4 s_5 out
  rw [ask_Bytes_c1, e2]
  rfl
theorem ask_Bytes_t (x : As [.pr (.int .u8) LAT4]) : evT Try.prog ask_Bytes_e 6 18446744073709551616 (Ev.get ask_Bytes_h) 15 ask_Bytes_s x = ask_Bytes x := by
  have e1 : (fun a a_2 a_3 a_4 a_5 a_6 s s_2 s_3 s_4 s_5 out => (jfn Try.prog ask_Bytes_e 6 18446744073709551616 (Ev.get ask_Bytes_h) 15 ask_Bytes_s) 31 [] (ask_Bytes_k1 a a_2 a_3 a_4 a_5 a_6 s s_2 s_3 s_4 s_5 out)) = ask_Bytes_K1 := funext fun a => funext fun a_2 => funext fun a_3 => funext fun a_4 => funext fun a_5 => funext fun a_6 => funext fun s => funext fun s_2 => funext fun s_3 => funext fun s_4 => funext fun s_5 => funext fun out => ask_Bytes_g1 a a_2 a_3 a_4 a_5 a_6 s s_2 s_3 s_4 s_5 out
  rw [rfn_eq, ask_Bytes_c0, e1]
  rfl
theorem ask_Bytes_ok : CtOk Try.prog (fun _ => True) 15 ⟨ask_Bytes_s, ask_Bytes⟩ := ct_of_ev (env_cons ask_shape_ok (env_cons ask_Right_ok (env_cons ask_numbers_ok (env_cons ask_Pack_ok env_nil)))) ask_Bytes_t
/-! bytes_Equal -/
@[reducible] def bytes_Equal_s : Sh := ⟨[.d (.sl (.int .u8)), .d (.sl (.int .u8))], [], [.sl (.int .u8), .sl (.int .u8)], [.d (.bool)], [], 0, [.bool]⟩
def bytes_Equal_e : Env := (cts [])
def bytes_Equal_h : List (Nat × Hint) := []
def bytes_Equal_m0 (a : List Int) (b : List Int) : Option (As [.bool]) :=
  some (eqs (Sx.toS a) (Sx.toS b), ())
def bytes_Equal (x : As [.sl (.int .u8), .sl (.int .u8)]) : Option (As [.bool]) := bytes_Equal_m0 x.1 x.2.1
theorem bytes_Equal_c0 (J : Orc (As [.bool])) (x : As [.sl (.int .u8), .sl (.int .u8)]) : rfn Try.prog bytes_Equal_e 6 18446744073709551616 (Ev.get bytes_Equal_h) 33 bytes_Equal_s J x = bytes_Equal_m0 x.1 x.2.1 := by kernel_rfl
theorem bytes_Equal_t (x : As [.sl (.int .u8), .sl (.int .u8)]) : evT Try.prog bytes_Equal_e 6 18446744073709551616 (Ev.get bytes_Equal_h) 33 bytes_Equal_s x = bytes_Equal x := by
  rw [rfn_eq, bytes_Equal_c0]
  rfl
theorem bytes_Equal_ok : CtOk Try.prog (fun _ => True) 33 ⟨bytes_Equal_s, bytes_Equal⟩ := ct_of_ev env_nil bytes_Equal_t
/-! ask_list -/
@[reducible] def ask_list_s : Sh := ⟨[.d (.sl (.int .u8))], [], [.sl (.int .u8)], [.d (.sl (.int .u16))], [], 0, [.sl (.int .u16)]⟩
def ask_list_e : Env := (cts [])
def ask_list_h : List (Nat × Hint) := [(58, ⟨[], [0, 3, 10, 11]⟩)]
def ask_list_k1 (b : List Int) (t10 : Int) (t11 : Int) (l : List Int) : St := { fr := [(0, .d (.sl (.int .u8)) b), (3, .row 0), (10, .d (.int .i64) t10), (11, .d (.int .i64) t11)], nt := 34, up := [], own := [(0, .row (.int .u16) 41 l)], nx := 1, log := [], ln := 0 }
def ask_list_m1 (self1 : List Int → Int → Int → List Int → Option (As [.sl (.int .u16)])) (b : List Int) (t10 : Int) (t11 : Int) (l : List Int) : Option (As [.sl (.int .u16)]) :=
  if lt t11 t10 = true then Option.bind (at? b (mul .i64 2 t11)) fun (y : Int) => Option.bind (at? b (add .i64 (mul .i64 2 t11) 1)) fun (y_1 : Int) => Option.bind (at? l t11) fun (x : Int) => Option.bind (at? l t11) fun (x : Int) => self1 b t10 (add .i64 t11 1) (List.set l (Int.toNat t11) (Sx.bor .u16 (Sx.shl .u16 (cvt .u16 y) 8) (cvt .u16 y_1))) else some (l, ())
def ask_list_m0 (j1 : List Int → Int → Int → List Int → Option (As [.sl (.int .u16)])) (b : List Int) : Option (As [.sl (.int .u16)]) :=
  need (ge (quo .i64 (Int.ofNat (List.length b)) 2) 0) (need (Ev.capOk (quo .i64 (Int.ofNat (List.length b)) 2) (quo .i64 (Int.ofNat (List.length b)) 2)) (need (small (Int.toNat (quo .i64 (Int.ofNat (List.length b)) 2))) (j1 b (Int.ofNat (List.length (List.replicate (α := Int) (Int.toNat (quo .i64 (Int.ofNat (List.length b)) 2)) 0))) 0 (List.replicate (Int.toNat (quo .i64 (Int.ofNat (List.length b)) 2)) 0))))
def ask_list_K1 (b : List Int) (t10 : Int) (t11 : Int) (l : List Int) : Option (As [.sl (.int .u16)]) :=
  loopF (fun (self : (List Int) × (Int) × (Int) × (List Int) → Option (As [.sl (.int .u16)])) (s : (List Int) × (Int) × (Int) × (List Int)) => ask_list_m1 (fun b t10 t11 l => self (b, t10, t11, l)) s.1 s.2.1 s.2.2.1 s.2.2.2) 18446744073709551616 (b, t10, t11, l)
def ask_list (x : As [.sl (.int .u8)]) : Option (As [.sl (.int .u16)]) := ask_list_m0 ask_list_K1 x.1
theorem ask_list_c1 (J : Orc (As [.sl (.int .u16)])) (w1 : St → Option (As [.sl (.int .u16)])) (b : List Int) (t10 : Int) (t11 : Int) (l : List Int) : pfn Try.prog ask_list_e 6 18446744073709551616 (Ev.get ask_list_h) 64 ask_list_s J 58 [w1] (ask_list_k1 b t10 t11 l) = ask_list_m1 (fun b t10 t11 l => w1 (ask_list_k1 b t10 t11 l)) b t10 t11 l := by kernel_rfl
theorem ask_list_c0 (J : Orc (As [.sl (.int .u16)])) (x : As [.sl (.int .u8)]) : rfn Try.prog ask_list_e 6 18446744073709551616 (Ev.get ask_list_h) 64 ask_list_s J x = ask_list_m0 (fun b t10 t11 l => J 58 [] (ask_list_k1 b t10 t11 l)) x.1 := by kernel_rfl
theorem ask_list_g1 (b : List Int) (t10 : Int) (t11 : Int) (l : List Int) : jfn Try.prog ask_list_e 6 18446744073709551616 (Ev.get ask_list_h) 64 ask_list_s 58 [] (ask_list_k1 b t10 t11 l) = ask_list_K1 b t10 t11 l := by
  rw [pfn_eq (by decide)]
  rw [pfn_loop (by kernel_rfl)]
  refine loopF_sim (σ := (List Int) × (Int) × (Int) × (List Int)) (mk := fun s => ask_list_k1 s.1 s.2.1 s.2.2.1 s.2.2.2) (fun w1 s => ?_) 18446744073709551616 (b, t10, t11, l)
  refine (ask_list_c1 _ w1 s.1 s.2.1 s.2.2.1 s.2.2.2).trans ?_
  rfl
theorem ask_list_t (x : As [.sl (.int .u8)]) : evT Try.prog ask_list_e 6 18446744073709551616 (Ev.get ask_list_h) 64 ask_list_s x = ask_list x := by
  have e1 : (fun b t10 t11 l => (jfn Try.prog ask_list_e 6 18446744073709551616 (Ev.get ask_list_h) 64 ask_list_s) 58 [] (ask_list_k1 b t10 t11 l)) = ask_list_K1 := funext fun b => funext fun t10 => funext fun t11 => funext fun l => ask_list_g1 b t10 t11 l
  rw [rfn_eq, ask_list_c0, e1]
  rfl
theorem ask_list_ok : CtOk Try.prog (fun _ => True) 64 ⟨ask_list_s, ask_list⟩ := ct_of_ev env_nil ask_list_t
/-! ask_Unpack -/
@[reducible] def ask_Unpack_s : Sh := ⟨[.d (.sl (.int .u8))], [], [.sl (.int .u8)], [.d (.sl .bool)], [], 0, [.sl .bool]⟩
def ask_Unpack_e : Env := (cts [])
def ask_Unpack_h : List (Nat × Hint) := [(58, ⟨[], [0, 3, 10, 11]⟩)]
def ask_Unpack_k1 (b : List Int) (t10 : Int) (t11 : Int) (out : List Bool) : St := { fr := [(0, .d (.sl (.int .u8)) b), (3, .row 0), (10, .d (.int .i64) t10), (11, .d (.int .i64) t11)], nt := 29, up := [], own := [(0, .row .bool 4 out)], nx := 1, log := [], ln := 0 }
def ask_Unpack_m1 (self1 : List Int → Int → Int → List Bool → Option (As [.sl .bool])) (b : List Int) (t10 : Int) (t11 : Int) (out : List Bool) : Option (As [.sl .bool]) :=
  if lt t11 t10 = true then Option.bind (at? b (quo .i64 t11 8)) fun (y : Int) => need (ge (rem t11 8) 0) (Option.bind (at? out t11) fun (x : Bool) => Option.bind (at? out t11) fun (x : Bool) => self1 b t10 (add .i64 t11 1) (List.set out (Int.toNat t11) (eqi (Sx.band .u8 (Sx.shr .u8 y (rem t11 8)) 1) 1))) else some (out, ())
def ask_Unpack_m0 (j1 : List Int → Int → Int → List Bool → Option (As [.sl .bool])) (b : List Int) : Option (As [.sl .bool]) :=
  need (ge (mul .i64 8 (Int.ofNat (List.length b))) 0) (need (Ev.capOk (mul .i64 8 (Int.ofNat (List.length b))) (mul .i64 8 (Int.ofNat (List.length b)))) (need (small (Int.toNat (mul .i64 8 (Int.ofNat (List.length b))))) (j1 b (Int.ofNat (List.length (List.replicate (Int.toNat (mul .i64 8 (Int.ofNat (List.length b)))) false))) 0 (List.replicate (Int.toNat (mul .i64 8 (Int.ofNat (List.length b)))) false))))
def ask_Unpack_K1 (b : List Int) (t10 : Int) (t11 : Int) (out : List Bool) : Option (As [.sl .bool]) :=
  loopF (fun (self : (List Int) × (Int) × (Int) × (List Bool) → Option (As [.sl .bool])) (s : (List Int) × (Int) × (Int) × (List Bool)) => ask_Unpack_m1 (fun b t10 t11 out => self (b, t10, t11, out)) s.1 s.2.1 s.2.2.1 s.2.2.2) 18446744073709551616 (b, t10, t11, out)
def ask_Unpack (x : As [.sl (.int .u8)]) : Option (As [.sl .bool]) := ask_Unpack_m0 ask_Unpack_K1 x.1
theorem ask_Unpack_c1 (J : Orc (As [.sl .bool])) (w1 : St → Option (As [.sl .bool])) (b : List Int) (t10 : Int) (t11 : Int) (out : List Bool) : pfn Try.prog ask_Unpack_e 6 18446744073709551616 (Ev.get ask_Unpack_h) 71 ask_Unpack_s J 58 [w1] (ask_Unpack_k1 b t10 t11 out) = ask_Unpack_m1 (fun b t10 t11 out => w1 (ask_Unpack_k1 b t10 t11 out)) b t10 t11 out := by kernel_rfl
theorem ask_Unpack_c0 (J : Orc (As [.sl .bool])) (x : As [.sl (.int .u8)]) : rfn Try.prog ask_Unpack_e 6 18446744073709551616 (Ev.get ask_Unpack_h) 71 ask_Unpack_s J x = ask_Unpack_m0 (fun b t10 t11 out => J 58 [] (ask_Unpack_k1 b t10 t11 out)) x.1 := by kernel_rfl
theorem ask_Unpack_g1 (b : List Int) (t10 : Int) (t11 : Int) (out : List Bool) : jfn Try.prog ask_Unpack_e 6 18446744073709551616 (Ev.get ask_Unpack_h) 71 ask_Unpack_s 58 [] (ask_Unpack_k1 b t10 t11 out) = ask_Unpack_K1 b t10 t11 out := by
  rw [pfn_eq (by decide)]
  rw [pfn_loop (by kernel_rfl)]
  refine loopF_sim (σ := (List Int) × (Int) × (Int) × (List Bool)) (mk := fun s => ask_Unpack_k1 s.1 s.2.1 s.2.2.1 s.2.2.2) (fun w1 s => ?_) 18446744073709551616 (b, t10, t11, out)
  refine (ask_Unpack_c1 _ w1 s.1 s.2.1 s.2.2.1 s.2.2.2).trans ?_
  rfl
theorem ask_Unpack_t (x : As [.sl (.int .u8)]) : evT Try.prog ask_Unpack_e 6 18446744073709551616 (Ev.get ask_Unpack_h) 71 ask_Unpack_s x = ask_Unpack x := by
  have e1 : (fun b t10 t11 out => (jfn Try.prog ask_Unpack_e 6 18446744073709551616 (Ev.get ask_Unpack_h) 71 ask_Unpack_s) 58 [] (ask_Unpack_k1 b t10 t11 out)) = ask_Unpack_K1 := funext fun b => funext fun t10 => funext fun t11 => funext fun out => ask_Unpack_g1 b t10 t11 out
  rw [rfn_eq, ask_Unpack_c0, e1]
  rfl
theorem ask_Unpack_ok : CtOk Try.prog (fun _ => True) 71 ⟨ask_Unpack_s, ask_Unpack⟩ := ct_of_ev env_nil ask_Unpack_t
/-! ask_written -/
@[reducible] def ask_written_s : Sh := ⟨[.d (.pr (.int .u8) LAT4), .d (.pr (.int .i64) LAT9), .d (.sl (.int .u8))], [], [.pr (.int .u8) LAT4, .pr (.int .i64) LAT9, .sl (.int .u8)], [.d (.pr (.int .u8) LAT4), .d (.bool)], [], 0, [.pr (.int .u8) LAT4, .bool]⟩
def ask_written_e : Env := (cts [(64, (⟨ask_list_s, ask_list⟩ : Ct)), (71, (⟨ask_Unpack_s, ask_Unpack⟩ : Ct))])
def ask_written_h : List (Nat × Hint) := [(15, ⟨[.frb 3, .frb 6], [3, 6]⟩)]
def ask_written_k1 (a : Int) (a_2 : Int) (a_3 : Int) (a_4 : Int) (a_5 : List Int) (a_6 : List Bool) (t6 : Int) (t6_2 : Int) (t6_3 : Int) (t6_4 : Int) (t6_5 : List Int) (t6_6 : List Bool) : St := { fr := [(3, .pb 0 0), (6, .pb 1 0)], nt := 63, up := [], own := [(0, .box 52 [.d (.int .u8) a, .d (.int .u16) a_2, .d (.int .u16) a_3, .d (.int .u16) a_4, .d (.sl (.int .u16)) a_5, .d (.sl .bool) a_6]), (1, .box 52 [.d (.int .u8) t6, .d (.int .u16) t6_2, .d (.int .u16) t6_3, .d (.int .u16) t6_4, .d (.sl (.int .u16)) t6_5, .d (.sl .bool) t6_6])], nx := 2, log := [], ln := 0 }
def ask_written_m1 (a : Int) (a_2 : Int) (a_3 : Int) (a_4 : Int) (a_5 : List Int) (a_6 : List Bool) (t6 : Int) (t6_2 : Int) (t6_3 : Int) (t6_4 : Int) (t6_5 : List Int) (t6_6 : List Bool) : Option (As [.pr (.int .u8) LAT4, .bool]) :=
  some ((a, a_2, a_3, a_4, a_5, a_6), true, ())
def ask_written_m0 (j1 : Int → Int → Int → Int → List Int → List Bool → Int → Int → Int → Int → List Int → List Bool → Option (As [.pr (.int .u8) LAT4, .bool])) (a : Int × Int × Int × Int × List Int × List Bool) (s : Int × Int × Int × Bool × Bool) (rest : List Int) : Option (As [.pr (.int .u8) LAT4, .bool]) :=
  if eqi (add .i64 s.2.1 s.2.2.1) 0 = true then some (a, true, ()) else if lt (Int.ofNat (List.length rest)) 2 = true then some ((0, 0, 0, 0, [], []), false, ()) else if eqi a.1 5 = true then Option.bind (at? rest 0) fun (y : Int) => j1 a.1 a.2.1 a.2.2.1 a.2.2.2.1 a.2.2.2.2.1 [nei y 0] 0 0 0 0 [] [] else if eqi a.1 6 = true then Option.bind (ask_list (rest, ())) fun (y : List Int × Unit) => j1 a.1 a.2.1 a.2.2.1 a.2.2.2.1 y.1 a.2.2.2.2.2 0 0 0 0 [] [] else if gt s.2.1 0 = true then Option.bind (cut rest 1 (Int.ofNat (List.length rest))) fun (y : List Int) => Option.bind (ask_Unpack (y, ())) fun (y : List Bool × Unit) => if lt (Int.ofNat (List.length y.1)) (cvt .i64 a.2.2.1) = true then some ((0, 0, 0, 0, [], []), false, ()) else Option.bind (cut y.1 0 a.2.2.1) fun (y_1 : List Bool) => need (le a.2.2.1 a.2.2.1) (need (le a.2.2.1 (Int.ofNat (List.length y.1))) (j1 a.1 a.2.1 a.2.2.1 a.2.2.2.1 a.2.2.2.2.1 y_1 0 0 0 0 [] [])) else Option.bind (cut rest 1 (Int.ofNat (List.length rest))) fun (y : List Int) => Option.bind (ask_list (y, ())) fun (y : List Int × Unit) => j1 a.1 a.2.1 a.2.2.1 a.2.2.2.1 y.1 a.2.2.2.2.2 0 0 0 0 [] []
def ask_written_K1 (a : Int) (a_2 : Int) (a_3 : Int) (a_4 : Int) (a_5 : List Int) (a_6 : List Bool) (t6 : Int) (t6_2 : Int) (t6_3 : Int) (t6_4 : Int) (t6_5 : List Int) (t6_6 : List Bool) : Option (As [.pr (.int .u8) LAT4, .bool]) := ask_written_m1 a a_2 a_3 a_4 a_5 a_6 t6 t6_2 t6_3 t6_4 t6_5 t6_6
def ask_written (x : As [.pr (.int .u8) LAT4, .pr (.int .i64) LAT9, .sl (.int .u8)]) : Option (As [.pr (.int .u8) LAT4, .bool]) := ask_written_m0 ask_written_K1 x.1 x.2.1 x.2.2.1
theorem ask_written_c1 (J : Orc (As [.pr (.int .u8) LAT4, .bool])) (a : Int) (a_2 : Int) (a_3 : Int) (a_4 : Int) (a_5 : List Int) (a_6 : List Bool) (t6 : Int) (t6_2 : Int) (t6_3 : Int) (t6_4 : Int) (t6_5 : List Int) (t6_6 : List Bool) : pfn Try.prog ask_written_e 6 18446744073709551616 (Ev.get ask_written_h) 65 ask_written_s J 15 [] (ask_written_k1 a a_2 a_3 a_4 a_5 a_6 t6 t6_2 t6_3 t6_4 t6_5 t6_6) = ask_written_m1 a a_2 a_3 a_4 a_5 a_6 t6 t6_2 t6_3 t6_4 t6_5 t6_6 := by kernel_rfl
theorem ask_written_c0 (J : Orc (As [.pr (.int .u8) LAT4, .bool])) (x : As [.pr (.int .u8) LAT4, .pr (.int .i64) LAT9, .sl (.int .u8)]) : rfn Try.prog ask_written_e 6 18446744073709551616 (Ev.get ask_written_h) 65 ask_written_s J x = ask_written_m0 (fun a a_2 a_3 a_4 a_5 a_6 t6 t6_2 t6_3 t6_4 t6_5 t6_6 => J 15 [] (ask_written_k1 a a_2 a_3 a_4 a_5 a_6 t6 t6_2 t6_3 t6_4 t6_5 t6_6)) x.1 x.2.1 x.2.2.1 := by kernel_rfl
theorem ask_written_g1 (a : Int) (a_2 : Int) (a_3 : Int) (a_4 : Int) (a_5 : List Int) (a_6 : List Bool) (t6 : Int) (t6_2 : Int) (t6_3 : Int) (t6_4 : Int) (t6_5 : List Int) (t6_6 : List Bool) : jfn Try.prog ask_written_e 6 18446744073709551616 (Ev.get ask_written_h) 65 ask_written_s 15 [] (ask_written_k1 a a_2 a_3 a_4 a_5 a_6 t6 t6_2 t6_3 t6_4 t6_5 t6_6) = ask_written_K1 a a_2 a_3 a_4 a_5 a_6 t6 t6_2 t6_3 t6_4 t6_5 t6_6 := by
  rw [pfn_eq (by decide)]
  rw [ask_written_c1]
  rfl
theorem ask_written_t (x : As [.pr (.int .u8) LAT4, .pr (.int .i64) LAT9, .sl (.int .u8)]) : evT Try.prog ask_written_e 6 18446744073709551616 (Ev.get ask_written_h) 65 ask_written_s x = ask_written x := by
  have e1 : (fun a a_2 a_3 a_4 a_5 a_6 t6 t6_2 t6_3 t6_4 t6_5 t6_6 => (jfn Try.prog ask_written_e 6 18446744073709551616 (Ev.get ask_written_h) 65 ask_written_s) 15 [] (ask_written_k1 a a_2 a_3 a_4 a_5 a_6 t6 t6_2 t6_3 t6_4 t6_5 t6_6)) = ask_written_K1 := funext fun a => funext fun a_2 => funext fun a_3 => funext fun a_4 => funext fun a_5 => funext fun a_6 => funext fun t6 => funext fun t6_2 => funext fun t6_3 => funext fun t6_4 => funext fun t6_5 => funext fun t6_6 => ask_written_g1 a a_2 a_3 a_4 a_5 a_6 t6 t6_2 t6_3 t6_4 t6_5 t6_6
  rw [rfn_eq, ask_written_c0, e1]
  rfl
theorem ask_written_ok : CtOk Try.prog (fun _ => True) 65 ⟨ask_written_s, ask_written⟩ := ct_of_ev (env_cons ask_list_ok (env_cons ask_Unpack_ok env_nil)) ask_written_t
/-! ask_read -/
@[reducible] def ask_read_s : Sh := ⟨[.d (.sl (.int .u8))], [], [.sl (.int .u8)], [.d (.pr (.int .u8) LAT4), .d (.bool)], [], 0, [.pr (.int .u8) LAT4, .bool]⟩
def ask_read_e : Env := (cts [(35, (⟨ask_shape_s, ask_shape⟩ : Ct)), (64, (⟨ask_list_s, ask_list⟩ : Ct)), (65, (⟨ask_written_s, ask_written⟩ : Ct))])
def ask_read_h : List (Nat × Hint) := [(255, ⟨[], [2, 4, 6, 7, 8]⟩), (511, ⟨[], [2, 4, 7, 8]⟩), (6, ⟨[], [0, 2, 16]⟩)]
def ask_read_k1 (b : List Int) (t16 : Bool) (t2 : Int) (t2_2 : Int) (t2_3 : Int) (t2_4 : Int) : St := { fr := [(0, .d (.sl (.int .u8)) b), (2, .pb 0 0), (16, .d .bool t16)], nt := 67, up := [], own := [(0, .box 52 [.d (.int .u8) t2, .d (.int .u16) t2_2, .d (.int .u16) t2_3, .d (.int .u16) t2_4, .k (Go.Value.slice Option.none 0 0), .k (Go.Value.slice Option.none 0 0)])], nx := 1, log := [], ln := 0 }
def ask_read_k2 (l : List Int) (rest : List Int) (t2 : Int) (t2_2 : Int) (t2_3 : Int) (t2_4 : Int) (s : Int) (s_2 : Int) (s_3 : Int) (s_4 : Bool) (s_5 : Bool) (a : Int) (a_2 : Int) (a_3 : Int) (a_4 : Int) : St := { fr := [(2, .pb 0 0), (4, .pb 1 0), (6, .d (.sl (.int .u16)) l), (7, .pb 2 0), (8, .d (.sl (.int .u8)) rest)], nt := 67, up := [], own := [(0, .box 52 [.d (.int .u8) t2, .d (.int .u16) t2_2, .d (.int .u16) t2_3, .d (.int .u16) t2_4, .k (Go.Value.slice Option.none 0 0), .k (Go.Value.slice Option.none 0 0)]), (1, .box 101 [.d (.int .i64) s, .d (.int .i64) s_2, .d (.int .i64) s_3, .d .bool s_4, .d .bool s_5]), (2, .box 52 [.d (.int .u8) a, .d (.int .u16) a_2, .d (.int .u16) a_3, .d (.int .u16) a_4, .k (Go.Value.slice Option.none 0 0), .k (Go.Value.slice Option.none 0 0)])], nx := 3, log := [], ln := 0 }
def ask_read_k3 (rest : List Int) (t2 : Int) (t2_2 : Int) (t2_3 : Int) (t2_4 : Int) (s : Int) (s_2 : Int) (s_3 : Int) (s_4 : Bool) (s_5 : Bool) (a : Int) (a_2 : Int) (a_3 : Int) (a_4 : Int) : St := { fr := [(2, .pb 0 0), (4, .pb 1 0), (7, .pb 2 0), (8, .d (.sl (.int .u8)) rest)], nt := 67, up := [], own := [(0, .box 52 [.d (.int .u8) t2, .d (.int .u16) t2_2, .d (.int .u16) t2_3, .d (.int .u16) t2_4, .k (Go.Value.slice Option.none 0 0), .k (Go.Value.slice Option.none 0 0)]), (1, .box 101 [.d (.int .i64) s, .d (.int .i64) s_2, .d (.int .i64) s_3, .d .bool s_4, .d .bool s_5]), (2, .box 52 [.d (.int .u8) a, .d (.int .u16) a_2, .d (.int .u16) a_3, .d (.int .u16) a_4, .k (Go.Value.slice Option.none 0 0), .k (Go.Value.slice Option.none 0 0)])], nx := 3, log := [], ln := 0 }
def ask_read_m1 (j2 : List Int → List Int → Int → Int → Int → Int → Int → Int → Int → Bool → Bool → Int → Int → Int → Int → Option (As [.pr (.int .u8) LAT4, .bool])) (b : List Int) (t16 : Bool) (t2 : Int) (t2_2 : Int) (t2_3 : Int) (t2_4 : Int) : Option (As [.pr (.int .u8) LAT4, .bool]) :=
  if t16 = true then some ((0, 0, 0, 0, [], []), false, ()) else Option.bind (at? b 0) fun (y : Int) => Option.bind (ask_shape (y, ())) fun (y : (Int × Int × Int × Bool × Bool) × Bool × Unit) => if (!y.2.1) = true then some ((0, 0, 0, 0, [], []), false, ()) else Option.bind (cut b 1 (Int.ofNat (List.length b))) fun (y_1 : List Int) => Option.bind (ask_list (y_1, ())) fun (y_2 : List Int × Unit) => Option.bind (at? b 0) fun (y_3 : Int) => Option.bind (at? y_2.1 0) fun (y_4 : Int) => Option.bind (cut b 3 (Int.ofNat (List.length b))) fun (y_5 : List Int) => if gt y.1.1 0 = true then Option.bind (at? y_2.1 1) fun (y_6 : Int) => Option.bind (cut b 5 (Int.ofNat (List.length b))) fun (y_7 : List Int) => j2 y_2.1 y_7 t2 t2_2 t2_3 t2_4 y.1.1 y.1.2.1 y.1.2.2.1 y.1.2.2.2.1 y.1.2.2.2.2 y_3 y_4 y_6 0 else j2 y_2.1 y_5 t2 t2_2 t2_3 t2_4 y.1.1 y.1.2.1 y.1.2.2.1 y.1.2.2.2.1 y.1.2.2.2.2 y_3 y_4 0 0
def ask_read_m2 (j3 : List Int → Int → Int → Int → Int → Int → Int → Int → Bool → Bool → Int → Int → Int → Int → Option (As [.pr (.int .u8) LAT4, .bool])) (l : List Int) (rest : List Int) (t2 : Int) (t2_2 : Int) (t2_3 : Int) (t2_4 : Int) (s : Int) (s_2 : Int) (s_3 : Int) (s_4 : Bool) (s_5 : Bool) (a : Int) (a_2 : Int) (a_3 : Int) (a_4 : Int) : Option (As [.pr (.int .u8) LAT4, .bool]) :=
  if s_4 = true then if lt (Int.ofNat (List.length rest)) 4 = true then some ((0, 0, 0, 0, [], []), false, ()) else Option.bind (at? l 2) fun (y : Int) => Option.bind (cut rest 4 (Int.ofNat (List.length rest))) fun (y_1 : List Int) => j3 y_1 t2 t2_2 t2_3 t2_4 s s_2 s_3 s_4 s_5 a a_2 a_3 y else j3 rest t2 t2_2 t2_3 t2_4 s s_2 s_3 s_4 s_5 a a_2 a_3 a_4
def ask_read_m3 (rest : List Int) (t2 : Int) (t2_2 : Int) (t2_3 : Int) (t2_4 : Int) (s : Int) (s_2 : Int) (s_3 : Int) (s_4 : Bool) (s_5 : Bool) (a : Int) (a_2 : Int) (a_3 : Int) (a_4 : Int) : Option (As [.pr (.int .u8) LAT4, .bool]) :=
  Option.bind (ask_written ((a, a_2, a_3, a_4, [], []), (s, s_2, s_3, s_4, s_5), rest, ())) fun (y : (Int × Int × Int × Int × List Int × List Bool) × Bool × Unit) => some (y.1, y.2.1, ())
def ask_read_m0 (j1 : List Int → Bool → Int → Int → Int → Int → Option (As [.pr (.int .u8) LAT4, .bool])) (b : List Int) : Option (As [.pr (.int .u8) LAT4, .bool]) :=
  if lt (Int.ofNat (List.length b)) 5 = true then j1 b true 0 0 0 0 else j1 b (gt (Int.ofNat (List.length b)) 253) 0 0 0 0
def ask_read_K3 (rest : List Int) (t2 : Int) (t2_2 : Int) (t2_3 : Int) (t2_4 : Int) (s : Int) (s_2 : Int) (s_3 : Int) (s_4 : Bool) (s_5 : Bool) (a : Int) (a_2 : Int) (a_3 : Int) (a_4 : Int) : Option (As [.pr (.int .u8) LAT4, .bool]) := ask_read_m3 rest t2 t2_2 t2_3 t2_4 s s_2 s_3 s_4 s_5 a a_2 a_3 a_4
def ask_read_K2 (l : List Int) (rest : List Int) (t2 : Int) (t2_2 : Int) (t2_3 : Int) (t2_4 : Int) (s : Int) (s_2 : Int) (s_3 : Int) (s_4 : Bool) (s_5 : Bool) (a : Int) (a_2 : Int) (a_3 : Int) (a_4 : Int) : Option (As [.pr (.int .u8) LAT4, .bool]) := ask_read_m2 (ask_read_K3) l rest t2 t2_2 t2_3 t2_4 s s_2 s_3 s_4 s_5 a a_2 a_3 a_4
def ask_read_K1 (b : List Int) (t16 : Bool) (t2 : Int) (t2_2 : Int) (t2_3 : Int) (t2_4 : Int) : Option (As [.pr (.int .u8) LAT4, .bool]) := ask_read_m1 (ask_read_K2) b t16 t2 t2_2 t2_3 t2_4
def ask_read (x : As [.sl (.int .u8)]) : Option (As [.pr (.int .u8) LAT4, .bool]) := ask_read_m0 ask_read_K1 x.1
theorem ask_read_c3 (J : Orc (As [.pr (.int .u8) LAT4, .bool])) (rest : List Int) (t2 : Int) (t2_2 : Int) (t2_3 : Int) (t2_4 : Int) (s : Int) (s_2 : Int) (s_3 : Int) (s_4 : Bool) (s_5 : Bool) (a : Int) (a_2 : Int) (a_3 : Int) (a_4 : Int) : pfn Try.prog ask_read_e 6 18446744073709551616 (Ev.get ask_read_h) 47 ask_read_s J 511 [] (ask_read_k3 rest t2 t2_2 t2_3 t2_4 s s_2 s_3 s_4 s_5 a a_2 a_3 a_4) = ask_read_m3 rest t2 t2_2 t2_3 t2_4 s s_2 s_3 s_4 s_5 a a_2 a_3 a_4 := by kernel_rfl
theorem ask_read_c2 (J : Orc (As [.pr (.int .u8) LAT4, .bool])) (l : List Int) (rest : List Int) (t2 : Int) (t2_2 : Int) (t2_3 : Int) (t2_4 : Int) (s : Int) (s_2 : Int) (s_3 : Int) (s_4 : Bool) (s_5 : Bool) (a : Int) (a_2 : Int) (a_3 : Int) (a_4 : Int) : pfn Try.prog ask_read_e 6 18446744073709551616 (Ev.get ask_read_h) 47 ask_read_s J 255 [] (ask_read_k2 l rest t2 t2_2 t2_3 t2_4 s s_2 s_3 s_4 s_5 a a_2 a_3 a_4) = ask_read_m2 (fun rest t2 t2_2 t2_3 t2_4 s s_2 s_3 s_4 s_5 a a_2 a_3 a_4 => J 511 [] (ask_read_k3 rest t2 t2_2 t2_3 t2_4 s s_2 s_3 s_4 s_5 a a_2 a_3 a_4)) l rest t2 t2_2 t2_3 t2_4 s s_2 s_3 s_4 s_5 a a_2 a_3 a_4 := by kernel_rfl
theorem ask_read_c1 (J : Orc (As [.pr (.int .u8) LAT4, .bool])) (b : List Int) (t16 : Bool) (t2 : Int) (t2_2 : Int) (t2_3 : Int) (t2_4 : Int) : pfn Try.prog ask_read_e 6 18446744073709551616 (Ev.get ask_read_h) 47 ask_read_s J 6 [] (ask_read_k1 b t16 t2 t2_2 t2_3 t2_4) = ask_read_m1 (fun l rest t2 t2_2 t2_3 t2_4 s s_2 s_3 s_4 s_5 a a_2 a_3 a_4 => J 255 [] (ask_read_k2 l rest t2 t2_2 t2_3 t2_4 s s_2 s_3 s_4 s_5 a a_2 a_3 a_4)) b t16 t2 t2_2 t2_3 t2_4 := by kernel_rfl
theorem ask_read_c0 (J : Orc (As [.pr (.int .u8) LAT4, .bool])) (x : As [.sl (.int .u8)]) : rfn Try.prog ask_read_e 6 18446744073709551616 (Ev.get ask_read_h) 47 ask_read_s J x = ask_read_m0 (fun b t16 t2 t2_2 t2_3 t2_4 => J 6 [] (ask_read_k1 b t16 t2 t2_2 t2_3 t2_4)) x.1 := by kernel_rfl
theorem ask_read_g3 (rest : List Int) (t2 : Int) (t2_2 : Int) (t2_3 : Int) (t2_4 : Int) (s : Int) (s_2 : Int) (s_3 : Int) (s_4 : Bool) (s_5 : Bool) (a : Int) (a_2 : Int) (a_3 : Int) (a_4 : Int) : jfn Try.prog ask_read_e 6 18446744073709551616 (Ev.get ask_read_h) 47 ask_read_s 511 [] (ask_read_k3 rest t2 t2_2 t2_3 t2_4 s s_2 s_3 s_4 s_5 a a_2 a_3 a_4) = ask_read_K3 rest t2 t2_2 t2_3 t2_4 s s_2 s_3 s_4 s_5 a a_2 a_3 a_4 := by
  rw [pfn_eq (by decide)]
  rw [ask_read_c3]
  rfl
theorem ask_read_g2 (l : List Int) (rest : List Int) (t2 : Int) (t2_2 : Int) (t2_3 : Int) (t2_4 : Int) (s : Int) (s_2 : Int) (s_3 : Int) (s_4 : Bool) (s_5 : Bool) (a : Int) (a_2 : Int) (a_3 : Int) (a_4 : Int) : jfn Try.prog ask_read_e 6 18446744073709551616 (Ev.get ask_read_h) 47 ask_read_s 255 [] (ask_read_k2 l rest t2 t2_2 t2_3 t2_4 s s_2 s_3 s_4 s_5 a a_2 a_3 a_4) = ask_read_K2 l rest t2 t2_2 t2_3 t2_4 s s_2 s_3 s_4 s_5 a a_2 a_3 a_4 := by
  rw [pfn_eq (by decide)]
  have e3 : (fun rest t2 t2_2 t2_3 t2_4 s s_2 s_3 s_4 s_5 a a_2 a_3 a_4 => (jfn Try.prog ask_read_e 6 18446744073709551616 (Ev.get ask_read_h) 47 ask_read_s) 511 [] (ask_read_k3 rest t2 t2_2 t2_3 t2_4 s s_2 s_3 s_4 s_5 a a_2 a_3 a_4)) = ask_read_K3 := funext fun rest => funext fun t2 => funext fun t2_2 => funext fun t2_3 => funext fun t2_4 => funext fun s => funext fun s_2 => funext fun s_3 => funext fun s_4 => funext fun s_5 => funext fun a => funext fun a_2 => funext fun a_3 => funext fun a_4 => ask_read_g3 rest t2 t2_2 t2_3 t2_4 s s_2 s_3 s_4 s_5 a a_2 a_3 a_4
  rw [ask_read_c2, e3]
  rfl
theorem ask_read_g1 (b : List Int) (t16 : Bool) (t2 : Int) (t2_2 : Int) (t2_3 : Int) (t2_4 : Int) : jfn Try.prog ask_read_e 6 18446744073709551616 (Ev.get ask_read_h) 47 ask_read_s 6 [] (ask_read_k1 b t16 t2 t2_2 t2_3 t2_4) = ask_read_K1 b t16 t2 t2_2 t2_3 t2_4 := by
  rw [pfn_eq (by decide)]
  have e2 : (fun l rest t2 t2_2 t2_3 t2_4 s s_2 s_3 s_4 s_5 a a_2 a_3 a_4 => (jfn Try.prog ask_read_e 6 18446744073709551616 (Ev.get ask_read_h) 47 ask_read_s) 255 [] (ask_read_k2 l rest t2 t2_2 t2_3 t2_4 s s_2 s_3 s_4 s_5 a a_2 a_3 a_4)) = ask_read_K2 := funext fun l => funext fun rest => funext fun t2 => funext fun t2_2 => funext fun t2_3 => funext fun t2_4 => funext fun s => funext fun s_2 => funext fun s_3 => funext fun s_4 => funext fun s_5 => funext fun a => funext fun a_2 => funext fun a_3 => funext fun a_4 => ask_read_g2 l rest t2 t2_2 t2_3 t2_4 s s_2 s_3 s_4 s_5 a a_2 a_3 a_4
  rw [ask_read_c1, e2]
  rfl
theorem ask_read_t (x : As [.sl (.int .u8)]) : evT Try.prog ask_read_e 6 18446744073709551616 (Ev.get ask_read_h) 47 ask_read_s x = ask_read x := by
  have e1 : (fun b t16 t2 t2_2 t2_3 t2_4 => (jfn Try.prog ask_read_e 6 18446744073709551616 (Ev.get ask_read_h) 47 ask_read_s) 6 [] (ask_read_k1 b t16 t2 t2_2 t2_3 t2_4)) = ask_read_K1 := funext fun b => funext fun t16 => funext fun t2 => funext fun t2_2 => funext fun t2_3 => funext fun t2_4 => ask_read_g1 b t16 t2 t2_2 t2_3 t2_4
  rw [rfn_eq, ask_read_c0, e1]
  rfl
theorem ask_read_ok : CtOk Try.prog (fun _ => True) 47 ⟨ask_read_s, ask_read⟩ := ct_of_ev (env_cons ask_shape_ok (env_cons ask_list_ok (env_cons ask_written_ok env_nil))) ask_read_t
/-! ask_Parse -/
@[reducible] def ask_Parse_s : Sh := ⟨[.d (.sl (.int .u8))], [], [.sl (.int .u8)], [.d (.pr (.int .u8) LAT4), .d (.int .i64)], [], 0, [.pr (.int .u8) LAT4, .int .i64]⟩
def ask_Parse_e : Env := (cts [(15, (⟨ask_Bytes_s, ask_Bytes⟩ : Ct)), (33, (⟨bytes_Equal_s, bytes_Equal⟩ : Ct)), (47, (⟨ask_read_s, ask_read⟩ : Ct))])
def ask_Parse_h : List (Nat × Hint) := [(61, ⟨[], [2, 4, 28]⟩)]
def ask_Parse_k1 (t28 : Bool) (t2 : Int) (t2_2 : Int) (t2_3 : Int) (t2_4 : Int) (a : Int) (a_2 : Int) (a_3 : Int) (a_4 : Int) (a_5 : List Int) (a_6 : List Bool) : St := { fr := [(2, .pb 0 0), (4, .pb 1 0), (28, .d .bool t28)], nt := 31, up := [], own := [(0, .box 52 [.d (.int .u8) t2, .d (.int .u16) t2_2, .d (.int .u16) t2_3, .d (.int .u16) t2_4, .k (Go.Value.slice Option.none 0 0), .k (Go.Value.slice Option.none 0 0)]), (1, .box 52 [.d (.int .u8) a, .d (.int .u16) a_2, .d (.int .u16) a_3, .d (.int .u16) a_4, .d (.sl (.int .u16)) a_5, .d (.sl .bool) a_6])], nx := 2, log := [], ln := 0 }
def ask_Parse_m1 (t28 : Bool) (t2 : Int) (t2_2 : Int) (t2_3 : Int) (t2_4 : Int) (a : Int) (a_2 : Int) (a_3 : Int) (a_4 : Int) (a_5 : List Int) (a_6 : List Bool) : Option (As [.pr (.int .u8) LAT4, .int .i64]) :=
  if t28 = true then some ((0, 0, 0, 0, [], []), 12, ()) else some ((a, a_2, a_3, a_4, a_5, a_6), 0, ())
def ask_Parse_m0 (j1 : Bool → Int → Int → Int → Int → Int → Int → Int → Int → List Int → List Bool → Option (As [.pr (.int .u8) LAT4, .int .i64])) (b : List Int) : Option (As [.pr (.int .u8) LAT4, .int .i64]) :=
  Option.bind (ask_read (b, ())) fun (y : (Int × Int × Int × Int × List Int × List Bool) × Bool × Unit) => if (!y.2.1) = true then some ((0, 0, 0, 0, [], []), 12, ()) else Option.bind (ask_Bytes (y.1, ())) fun (y_1 : List Int × Int × Unit) => if nei y_1.2.1 0 = true then j1 true 0 0 0 0 y.1.1 y.1.2.1 y.1.2.2.1 y.1.2.2.2.1 y.1.2.2.2.2.1 y.1.2.2.2.2.2 else Option.bind (bytes_Equal (y_1.1, b, ())) fun (y_2 : Bool × Unit) => j1 (!y_2.1) 0 0 0 0 y.1.1 y.1.2.1 y.1.2.2.1 y.1.2.2.2.1 y.1.2.2.2.2.1 y.1.2.2.2.2.2
def ask_Parse_K1 (t28 : Bool) (t2 : Int) (t2_2 : Int) (t2_3 : Int) (t2_4 : Int) (a : Int) (a_2 : Int) (a_3 : Int) (a_4 : Int) (a_5 : List Int) (a_6 : List Bool) : Option (As [.pr (.int .u8) LAT4, .int .i64]) := ask_Parse_m1 t28 t2 t2_2 t2_3 t2_4 a a_2 a_3 a_4 a_5 a_6
def ask_Parse (x : As [.sl (.int .u8)]) : Option (As [.pr (.int .u8) LAT4, .int .i64]) := ask_Parse_m0 ask_Parse_K1 x.1
theorem ask_Parse_c1 (J : Orc (As [.pr (.int .u8) LAT4, .int .i64])) (t28 : Bool) (t2 : Int) (t2_2 : Int) (t2_3 : Int) (t2_4 : Int) (a : Int) (a_2 : Int) (a_3 : Int) (a_4 : Int) (a_5 : List Int) (a_6 : List Bool) : pfn Try.prog ask_Parse_e 6 18446744073709551616 (Ev.get ask_Parse_h) 34 ask_Parse_s J 61 [] (ask_Parse_k1 t28 t2 t2_2 t2_3 t2_4 a a_2 a_3 a_4 a_5 a_6) = ask_Parse_m1 t28 t2 t2_2 t2_3 t2_4 a a_2 a_3 a_4 a_5 a_6 := by kernel_rfl
theorem ask_Parse_c0 (J : Orc (As [.pr (.int .u8) LAT4, .int .i64])) (x : As [.sl (.int .u8)]) : rfn Try.prog ask_Parse_e 6 18446744073709551616 (Ev.get ask_Parse_h) 34 ask_Parse_s J x = ask_Parse_m0 (fun t28 t2 t2_2 t2_3 t2_4 a a_2 a_3 a_4 a_5 a_6 => J 61 [] (ask_Parse_k1 t28 t2 t2_2 t2_3 t2_4 a a_2 a_3 a_4 a_5 a_6)) x.1 := by kernel_rfl
theorem ask_Parse_g1 (t28 : Bool) (t2 : Int) (t2_2 : Int) (t2_3 : Int) (t2_4 : Int) (a : Int) (a_2 : Int) (a_3 : Int) (a_4 : Int) (a_5 : List Int) (a_6 : List Bool) : jfn Try.prog ask_Parse_e 6 18446744073709551616 (Ev.get ask_Parse_h) 34 ask_Parse_s 61 [] (ask_Parse_k1 t28 t2 t2_2 t2_3 t2_4 a a_2 a_3 a_4 a_5 a_6) = ask_Parse_K1 t28 t2 t2_2 t2_3 t2_4 a a_2 a_3 a_4 a_5 a_6 := by
  rw [pfn_eq (by decide)]
  rw [ask_Parse_c1]
  rfl
theorem ask_Parse_t (x : As [.sl (.int .u8)]) : evT Try.prog ask_Parse_e 6 18446744073709551616 (Ev.get ask_Parse_h) 34 ask_Parse_s x = ask_Parse x := by
  have e1 : (fun t28 t2 t2_2 t2_3 t2_4 a a_2 a_3 a_4 a_5 a_6 => (jfn Try.prog ask_Parse_e 6 18446744073709551616 (Ev.get ask_Parse_h) 34 ask_Parse_s) 61 [] (ask_Parse_k1 t28 t2 t2_2 t2_3 t2_4 a a_2 a_3 a_4 a_5 a_6)) = ask_Parse_K1 := funext fun t28 => funext fun t2 => funext fun t2_2 => funext fun t2_3 => funext fun t2_4 => funext fun a => funext fun a_2 => funext fun a_3 => funext fun a_4 => funext fun a_5 => funext fun a_6 => ask_Parse_g1 t28 t2 t2_2 t2_3 t2_4 a a_2 a_3 a_4 a_5 a_6
  rw [rfn_eq, ask_Parse_c0, e1]
  rfl
theorem ask_Parse_ok : CtOk Try.prog (fun _ => True) 34 ⟨ask_Parse_s, ask_Parse⟩ := ct_of_ev (env_cons ask_Bytes_ok (env_cons bytes_Equal_ok (env_cons ask_read_ok env_nil))) ask_Parse_t
/-! ask_Look -/
@[reducible] def ask_Look_s : Sh := ⟨[.d (.sl (.int .u8))], [], [.sl (.int .u8)], [.d (.pr (.int .u8) LAT4), .d (.int .u8)], [], 0, [.pr (.int .u8) LAT4, .int .u8]⟩
def ask_Look_e : Env := (cts [(34, (⟨ask_Parse_s, ask_Parse⟩ : Ct)), (35, (⟨ask_shape_s, ask_shape⟩ : Ct))])
def ask_Look_h : List (Nat × Hint) := []
def ask_Look_m0 (b : List Int) : Option (As [.pr (.int .u8) LAT4, .int .u8]) :=
  if eqi (Int.ofNat (List.length b)) 0 = true then some ((0, 0, 0, 0, [], []), 1, ()) else Option.bind (ask_Parse (b, ())) fun (y : (Int × Int × Int × Int × List Int × List Bool) × Int × Unit) => if eqi y.2.1 0 = true then some (y.1, 0, ()) else Option.bind (at? b 0) fun (y : Int) => Option.bind (at? b 0) fun (y_1 : Int) => Option.bind (ask_shape (y_1, ())) fun (y_2 : (Int × Int × Int × Bool × Bool) × Bool × Unit) => if (!y_2.2.1) = true then some ((y, 0, 0, 0, [], []), 1, ()) else some ((y, 0, 0, 0, [], []), 3, ())
def ask_Look (x : As [.sl (.int .u8)]) : Option (As [.pr (.int .u8) LAT4, .int .u8]) := ask_Look_m0 x.1
theorem ask_Look_c0 (J : Orc (As [.pr (.int .u8) LAT4, .int .u8])) (x : As [.sl (.int .u8)]) : rfn Try.prog ask_Look_e 6 18446744073709551616 (Ev.get ask_Look_h) 14 ask_Look_s J x = ask_Look_m0 x.1 := by kernel_rfl
theorem ask_Look_t (x : As [.sl (.int .u8)]) : evT Try.prog ask_Look_e 6 18446744073709551616 (Ev.get ask_Look_h) 14 ask_Look_s x = ask_Look x := by
  rw [rfn_eq, ask_Look_c0]
  rfl
theorem ask_Look_ok : CtOk Try.prog (fun _ => True) 14 ⟨ask_Look_s, ask_Look⟩ := ct_of_ev (env_cons ask_Parse_ok (env_cons ask_shape_ok env_nil)) ask_Look_t
/-! reply_Wrong -/
@[reducible] def reply_Wrong_s : Sh := ⟨[.d (.int .u8), .d (.int .u8)], [], [.int .u8, .int .u8], [.d (.pr (.int .u8) LAT1)], [], 0, [.pr (.int .u8) LAT1]⟩
def reply_Wrong_e : Env := (cts [])
def reply_Wrong_h : List (Nat × Hint) := []
def reply_Wrong_m0 (f : Int) (except : Int) : Option (As [.pr (.int .u8) LAT1]) :=
  some ((rem f 128, except, [], [], 0, 0), ())
def reply_Wrong (x : As [.int .u8, .int .u8]) : Option (As [.pr (.int .u8) LAT1]) := reply_Wrong_m0 x.1 x.2.1
theorem reply_Wrong_c0 (J : Orc (As [.pr (.int .u8) LAT1])) (x : As [.int .u8, .int .u8]) : rfn Try.prog reply_Wrong_e 6 18446744073709551616 (Ev.get reply_Wrong_h) 44 reply_Wrong_s J x = reply_Wrong_m0 x.1 x.2.1 := by kernel_rfl
theorem reply_Wrong_t (x : As [.int .u8, .int .u8]) : evT Try.prog reply_Wrong_e 6 18446744073709551616 (Ev.get reply_Wrong_h) 44 reply_Wrong_s x = reply_Wrong x := by
  rw [rfn_eq, reply_Wrong_c0]
  rfl
theorem reply_Wrong_ok : CtOk Try.prog (fun _ => True) 44 ⟨reply_Wrong_s, reply_Wrong⟩ := ct_of_ev env_nil reply_Wrong_t
/-! slices_Equal_Gbool -/
@[reducible] def slices_Equal_Gbool_s : Sh := ⟨[.d (.sl .bool), .d (.sl .bool)], [], [.sl .bool, .sl .bool], [.d (.bool)], [], 0, [.bool]⟩
def slices_Equal_Gbool_e : Env := (cts [])
def slices_Equal_Gbool_h : List (Nat × Hint) := [(58, ⟨[], [0, 1, 12, 13]⟩)]
def slices_Equal_Gbool_k1 (s1 : List Bool) (s2 : List Bool) (t12 : Int) (t13 : Int) : St := { fr := [(0, .d (.sl .bool) s1), (1, .d (.sl .bool) s2), (12, .d (.int .i64) t12), (13, .d (.int .i64) t13)], nt := 26, up := [], own := [], nx := 0, log := [], ln := 0 }
def slices_Equal_Gbool_m1 (self1 : List Bool → List Bool → Int → Int → Option (As [.bool])) (s1 : List Bool) (s2 : List Bool) (t12 : Int) (t13 : Int) : Option (As [.bool]) :=
  if lt t13 t12 = true then Option.bind (at? s1 t13) fun (y : Bool) => Option.bind (at? s2 t13) fun (y_1 : Bool) => if Sx.neb y y_1 = true then some (false, ()) else self1 s1 s2 t12 (add .i64 t13 1) else some (true, ())
def slices_Equal_Gbool_m0 (j1 : List Bool → List Bool → Int → Int → Option (As [.bool])) (s1 : List Bool) (s2 : List Bool) : Option (As [.bool]) :=
  if nei (Int.ofNat (List.length s1)) (Int.ofNat (List.length s2)) = true then some (false, ()) else j1 s1 s2 (Int.ofNat (List.length s1)) 0
def slices_Equal_Gbool_K1 (s1 : List Bool) (s2 : List Bool) (t12 : Int) (t13 : Int) : Option (As [.bool]) :=
  loopF (fun (self : (List Bool) × (List Bool) × (Int) × (Int) → Option (As [.bool])) (s : (List Bool) × (List Bool) × (Int) × (Int)) => slices_Equal_Gbool_m1 (fun s1 s2 t12 t13 => self (s1, s2, t12, t13)) s.1 s.2.1 s.2.2.1 s.2.2.2) 18446744073709551616 (s1, s2, t12, t13)
def slices_Equal_Gbool (x : As [.sl .bool, .sl .bool]) : Option (As [.bool]) := slices_Equal_Gbool_m0 slices_Equal_Gbool_K1 x.1 x.2.1
theorem slices_Equal_Gbool_c1 (J : Orc (As [.bool])) (w1 : St → Option (As [.bool])) (s1 : List Bool) (s2 : List Bool) (t12 : Int) (t13 : Int) : pfn Try.prog slices_Equal_Gbool_e 6 18446744073709551616 (Ev.get slices_Equal_Gbool_h) 91 slices_Equal_Gbool_s J 58 [w1] (slices_Equal_Gbool_k1 s1 s2 t12 t13) = slices_Equal_Gbool_m1 (fun s1 s2 t12 t13 => w1 (slices_Equal_Gbool_k1 s1 s2 t12 t13)) s1 s2 t12 t13 := by kernel_rfl
theorem slices_Equal_Gbool_c0 (J : Orc (As [.bool])) (x : As [.sl .bool, .sl .bool]) : rfn Try.prog slices_Equal_Gbool_e 6 18446744073709551616 (Ev.get slices_Equal_Gbool_h) 91 slices_Equal_Gbool_s J x = slices_Equal_Gbool_m0 (fun s1 s2 t12 t13 => J 58 [] (slices_Equal_Gbool_k1 s1 s2 t12 t13)) x.1 x.2.1 := by kernel_rfl
theorem slices_Equal_Gbool_g1 (s1 : List Bool) (s2 : List Bool) (t12 : Int) (t13 : Int) : jfn Try.prog slices_Equal_Gbool_e 6 18446744073709551616 (Ev.get slices_Equal_Gbool_h) 91 slices_Equal_Gbool_s 58 [] (slices_Equal_Gbool_k1 s1 s2 t12 t13) = slices_Equal_Gbool_K1 s1 s2 t12 t13 := by
  rw [pfn_eq (by decide)]
  rw [pfn_loop (by kernel_rfl)]
  refine loopF_sim (σ := (List Bool) × (List Bool) × (Int) × (Int)) (mk := fun s => slices_Equal_Gbool_k1 s.1 s.2.1 s.2.2.1 s.2.2.2) (fun w1 s => ?_) 18446744073709551616 (s1, s2, t12, t13)
  refine (slices_Equal_Gbool_c1 _ w1 s.1 s.2.1 s.2.2.1 s.2.2.2).trans ?_
  rfl
theorem slices_Equal_Gbool_t (x : As [.sl .bool, .sl .bool]) : evT Try.prog slices_Equal_Gbool_e 6 18446744073709551616 (Ev.get slices_Equal_Gbool_h) 91 slices_Equal_Gbool_s x = slices_Equal_Gbool x := by
  have e1 : (fun s1 s2 t12 t13 => (jfn Try.prog slices_Equal_Gbool_e 6 18446744073709551616 (Ev.get slices_Equal_Gbool_h) 91 slices_Equal_Gbool_s) 58 [] (slices_Equal_Gbool_k1 s1 s2 t12 t13)) = slices_Equal_Gbool_K1 := funext fun s1 => funext fun s2 => funext fun t12 => funext fun t13 => slices_Equal_Gbool_g1 s1 s2 t12 t13
  rw [rfn_eq, slices_Equal_Gbool_c0, e1]
  rfl
theorem slices_Equal_Gbool_ok : CtOk Try.prog (fun _ => True) 91 ⟨slices_Equal_Gbool_s, slices_Equal_Gbool⟩ := ct_of_ev env_nil slices_Equal_Gbool_t
/-! slices_Equal_Guint16 -/
@[reducible] def slices_Equal_Guint16_s : Sh := ⟨[.d (.sl (.int .u16)), .d (.sl (.int .u16))], [], [.sl (.int .u16), .sl (.int .u16)], [.d (.bool)], [], 0, [.bool]⟩
def slices_Equal_Guint16_e : Env := (cts [])
def slices_Equal_Guint16_h : List (Nat × Hint) := [(58, ⟨[], [0, 1, 12, 13]⟩)]
def slices_Equal_Guint16_k1 (s1 : List Int) (s2 : List Int) (t12 : Int) (t13 : Int) : St := { fr := [(0, .d (.sl (.int .u16)) s1), (1, .d (.sl (.int .u16)) s2), (12, .d (.int .i64) t12), (13, .d (.int .i64) t13)], nt := 26, up := [], own := [], nx := 0, log := [], ln := 0 }
def slices_Equal_Guint16_m1 (self1 : List Int → List Int → Int → Int → Option (As [.bool])) (s1 : List Int) (s2 : List Int) (t12 : Int) (t13 : Int) : Option (As [.bool]) :=
  if lt t13 t12 = true then Option.bind (at? s1 t13) fun (y : Int) => Option.bind (at? s2 t13) fun (y_1 : Int) => if nei y y_1 = true then some (false, ()) else self1 s1 s2 t12 (add .i64 t13 1) else some (true, ())
def slices_Equal_Guint16_m0 (j1 : List Int → List Int → Int → Int → Option (As [.bool])) (s1 : List Int) (s2 : List Int) : Option (As [.bool]) :=
  if nei (Int.ofNat (List.length s1)) (Int.ofNat (List.length s2)) = true then some (false, ()) else j1 s1 s2 (Int.ofNat (List.length s1)) 0
def slices_Equal_Guint16_K1 (s1 : List Int) (s2 : List Int) (t12 : Int) (t13 : Int) : Option (As [.bool]) :=
  loopF (fun (self : (List Int) × (List Int) × (Int) × (Int) → Option (As [.bool])) (s : (List Int) × (List Int) × (Int) × (Int)) => slices_Equal_Guint16_m1 (fun s1 s2 t12 t13 => self (s1, s2, t12, t13)) s.1 s.2.1 s.2.2.1 s.2.2.2) 18446744073709551616 (s1, s2, t12, t13)
def slices_Equal_Guint16 (x : As [.sl (.int .u16), .sl (.int .u16)]) : Option (As [.bool]) := slices_Equal_Guint16_m0 slices_Equal_Guint16_K1 x.1 x.2.1
theorem slices_Equal_Guint16_c1 (J : Orc (As [.bool])) (w1 : St → Option (As [.bool])) (s1 : List Int) (s2 : List Int) (t12 : Int) (t13 : Int) : pfn Try.prog slices_Equal_Guint16_e 6 18446744073709551616 (Ev.get slices_Equal_Guint16_h) 92 slices_Equal_Guint16_s J 58 [w1] (slices_Equal_Guint16_k1 s1 s2 t12 t13) = slices_Equal_Guint16_m1 (fun s1 s2 t12 t13 => w1 (slices_Equal_Guint16_k1 s1 s2 t12 t13)) s1 s2 t12 t13 := by kernel_rfl
theorem slices_Equal_Guint16_c0 (J : Orc (As [.bool])) (x : As [.sl (.int .u16), .sl (.int .u16)]) : rfn Try.prog slices_Equal_Guint16_e 6 18446744073709551616 (Ev.get slices_Equal_Guint16_h) 92 slices_Equal_Guint16_s J x = slices_Equal_Guint16_m0 (fun s1 s2 t12 t13 => J 58 [] (slices_Equal_Guint16_k1 s1 s2 t12 t13)) x.1 x.2.1 := by kernel_rfl
theorem slices_Equal_Guint16_g1 (s1 : List Int) (s2 : List Int) (t12 : Int) (t13 : Int) : jfn Try.prog slices_Equal_Guint16_e 6 18446744073709551616 (Ev.get slices_Equal_Guint16_h) 92 slices_Equal_Guint16_s 58 [] (slices_Equal_Guint16_k1 s1 s2 t12 t13) = slices_Equal_Guint16_K1 s1 s2 t12 t13 := by
  rw [pfn_eq (by decide)]
  rw [pfn_loop (by kernel_rfl)]
  refine loopF_sim (σ := (List Int) × (List Int) × (Int) × (Int)) (mk := fun s => slices_Equal_Guint16_k1 s.1 s.2.1 s.2.2.1 s.2.2.2) (fun w1 s => ?_) 18446744073709551616 (s1, s2, t12, t13)
  refine (slices_Equal_Guint16_c1 _ w1 s.1 s.2.1 s.2.2.1 s.2.2.2).trans ?_
  rfl
theorem slices_Equal_Guint16_t (x : As [.sl (.int .u16), .sl (.int .u16)]) : evT Try.prog slices_Equal_Guint16_e 6 18446744073709551616 (Ev.get slices_Equal_Guint16_h) 92 slices_Equal_Guint16_s x = slices_Equal_Guint16 x := by
  have e1 : (fun s1 s2 t12 t13 => (jfn Try.prog slices_Equal_Guint16_e 6 18446744073709551616 (Ev.get slices_Equal_Guint16_h) 92 slices_Equal_Guint16_s) 58 [] (slices_Equal_Guint16_k1 s1 s2 t12 t13)) = slices_Equal_Guint16_K1 := funext fun s1 => funext fun s2 => funext fun t12 => funext fun t13 => slices_Equal_Guint16_g1 s1 s2 t12 t13
  rw [rfn_eq, slices_Equal_Guint16_c0, e1]
  rfl
theorem slices_Equal_Guint16_ok : CtOk Try.prog (fun _ => True) 92 ⟨slices_Equal_Guint16_s, slices_Equal_Guint16⟩ := ct_of_ev env_nil slices_Equal_Guint16_t
/-! reply_Same -/
@[reducible] def reply_Same_s : Sh := ⟨[.d (.pr (.int .u8) LAT1), .d (.pr (.int .u8) LAT1)], [], [.pr (.int .u8) LAT1, .pr (.int .u8) LAT1], [.d (.bool)], [], 0, [.bool]⟩
def reply_Same_e : Env := (cts [(91, (⟨slices_Equal_Gbool_s, slices_Equal_Gbool⟩ : Ct)), (92, (⟨slices_Equal_Guint16_s, slices_Equal_Guint16⟩ : Ct))])
def reply_Same_h : List (Nat × Hint) := []
def reply_Same_m0 (a : Int × Int × List Bool × List Int × Int × Int) (b : Int × Int × List Bool × List Int × Int × Int) : Option (As [.bool]) :=
  if eqi a.1 b.1 = true then if eqi a.2.1 b.2.1 = true then if eqi a.2.2.2.2.1 b.2.2.2.2.1 = true then if eqi a.2.2.2.2.2 b.2.2.2.2.2 = true then Option.bind (slices_Equal_Gbool (a.2.2.1, b.2.2.1, ())) fun (y : Bool × Unit) => if y.1 = true then Option.bind (slices_Equal_Guint16 (a.2.2.2.1, b.2.2.2.1, ())) fun (y : Bool × Unit) => some (y.1, ()) else some (false, ()) else some (false, ()) else some (false, ()) else some (false, ()) else some (false, ())
def reply_Same (x : As [.pr (.int .u8) LAT1, .pr (.int .u8) LAT1]) : Option (As [.bool]) := reply_Same_m0 x.1 x.2.1
theorem reply_Same_c0 (J : Orc (As [.bool])) (x : As [.pr (.int .u8) LAT1, .pr (.int .u8) LAT1]) : rfn Try.prog reply_Same_e 6 18446744073709551616 (Ev.get reply_Same_h) 90 reply_Same_s J x = reply_Same_m0 x.1 x.2.1 := by kernel_rfl
theorem reply_Same_t (x : As [.pr (.int .u8) LAT1, .pr (.int .u8) LAT1]) : evT Try.prog reply_Same_e 6 18446744073709551616 (Ev.get reply_Same_h) 90 reply_Same_s x = reply_Same x := by
  rw [rfn_eq, reply_Same_c0]
  rfl
theorem reply_Same_ok : CtOk Try.prog (fun _ => True) 90 ⟨reply_Same_s, reply_Same⟩ := ct_of_ev (env_cons slices_Equal_Gbool_ok (env_cons slices_Equal_Guint16_ok env_nil)) reply_Same_t
/-! reply_exception_right -/
@[reducible] def reply_exception_right_s : Sh := ⟨[.d (.un), .d (.pr (.int .u8) LAT1)], [], [.un, .pr (.int .u8) LAT1], [.d (.bool)], [], 0, [.bool]⟩
def reply_exception_right_e : Env := (cts [(44, (⟨reply_Wrong_s, reply_Wrong⟩ : Ct)), (90, (⟨reply_Same_s, reply_Same⟩ : Ct))])
def reply_exception_right_h : List (Nat × Hint) := []
def reply_exception_right_m0 (v : Unit) (r : Int × Int × List Bool × List Int × Int × Int) : Option (As [.bool]) :=
  if lt r.1 128 = true then if ge r.2.1 1 = true then if le r.2.1 4 = true then Option.bind (reply_Wrong (r.1, r.2.1, ())) fun (y : (Int × Int × List Bool × List Int × Int × Int) × Unit) => Option.bind (reply_Same (r, y.1, ())) fun (y : Bool × Unit) => some (y.1, ()) else some (false, ()) else some (false, ()) else some (false, ())
def reply_exception_right (x : As [.un, .pr (.int .u8) LAT1]) : Option (As [.bool]) := reply_exception_right_m0 x.1 x.2.1
theorem reply_exception_right_c0 (J : Orc (As [.bool])) (x : As [.un, .pr (.int .u8) LAT1]) : rfn Try.prog reply_exception_right_e 6 18446744073709551616 (Ev.get reply_exception_right_h) 88 reply_exception_right_s J x = reply_exception_right_m0 x.1 x.2.1 := by kernel_rfl
theorem reply_exception_right_t (x : As [.un, .pr (.int .u8) LAT1]) : evT Try.prog reply_exception_right_e 6 18446744073709551616 (Ev.get reply_exception_right_h) 88 reply_exception_right_s x = reply_exception_right x := by
  rw [rfn_eq, reply_exception_right_c0]
  rfl
theorem reply_exception_right_ok : CtOk Try.prog (fun _ => True) 88 ⟨reply_exception_right_s, reply_exception_right⟩ := ct_of_ev (env_cons reply_Wrong_ok (env_cons reply_Same_ok env_nil)) reply_exception_right_t
/-! reply_exception_write -/
@[reducible] def reply_exception_write_s : Sh := ⟨[.d (.un), .d (.pr (.int .u8) LAT1)], [], [.un, .pr (.int .u8) LAT1], [.d (.sl (.int .u8))], [], 0, [.sl (.int .u8)]⟩
def reply_exception_write_e : Env := (cts [])
def reply_exception_write_h : List (Nat × Hint) := []
def reply_exception_write_m0 (v : Unit) (r : Int × Int × List Bool × List Int × Int × Int) : Option (As [.sl (.int .u8)]) :=
  some ([add .u8 r.1 128, r.2.1], ())
def reply_exception_write (x : As [.un, .pr (.int .u8) LAT1]) : Option (As [.sl (.int .u8)]) := reply_exception_write_m0 x.1 x.2.1
theorem reply_exception_write_c0 (J : Orc (As [.sl (.int .u8)])) (x : As [.un, .pr (.int .u8) LAT1]) : rfn Try.prog reply_exception_write_e 6 18446744073709551616 (Ev.get reply_exception_write_h) 89 reply_exception_write_s J x = reply_exception_write_m0 x.1 x.2.1 := by kernel_rfl
theorem reply_exception_write_t (x : As [.un, .pr (.int .u8) LAT1]) : evT Try.prog reply_exception_write_e 6 18446744073709551616 (Ev.get reply_exception_write_h) 89 reply_exception_write_s x = reply_exception_write x := by
  rw [rfn_eq, reply_exception_write_c0]
  rfl
theorem reply_exception_write_ok : CtOk Try.prog (fun _ => True) 89 ⟨reply_exception_write_s, reply_exception_write⟩ := ct_of_ev env_nil reply_exception_write_t
/-! reply_bitList_right -/
@[reducible] def reply_bitList_right_s : Sh := ⟨[.d (.un), .d (.pr (.int .u8) LAT1)], [], [.un, .pr (.int .u8) LAT1], [.d (.bool)], [], 0, [.bool]⟩
def reply_bitList_right_e : Env := (cts [(90, (⟨reply_Same_s, reply_Same⟩ : Ct))])
def reply_bitList_right_h : List (Nat × Hint) := []
def reply_bitList_right_m0 (v : Unit) (r : Int × Int × List Bool × List Int × Int × Int) : Option (As [.bool]) :=
  if ge (Int.ofNat (List.length r.2.2.1)) 8 = true then if le (Int.ofNat (List.length r.2.2.1)) 2000 = true then if eqi (rem (Int.ofNat (List.length r.2.2.1)) 8) 0 = true then Option.bind (reply_Same (r, (r.1, 0, r.2.2.1, [], 0, 0), ())) fun (y : Bool × Unit) => some (y.1, ()) else some (false, ()) else some (false, ()) else some (false, ())
def reply_bitList_right (x : As [.un, .pr (.int .u8) LAT1]) : Option (As [.bool]) := reply_bitList_right_m0 x.1 x.2.1
theorem reply_bitList_right_c0 (J : Orc (As [.bool])) (x : As [.un, .pr (.int .u8) LAT1]) : rfn Try.prog reply_bitList_right_e 6 18446744073709551616 (Ev.get reply_bitList_right_h) 94 reply_bitList_right_s J x = reply_bitList_right_m0 x.1 x.2.1 := by kernel_rfl
theorem reply_bitList_right_t (x : As [.un, .pr (.int .u8) LAT1]) : evT Try.prog reply_bitList_right_e 6 18446744073709551616 (Ev.get reply_bitList_right_h) 94 reply_bitList_right_s x = reply_bitList_right x := by
  rw [rfn_eq, reply_bitList_right_c0]
  rfl
theorem reply_bitList_right_ok : CtOk Try.prog (fun _ => True) 94 ⟨reply_bitList_right_s, reply_bitList_right⟩ := ct_of_ev (env_cons reply_Same_ok env_nil) reply_bitList_right_t
/-! reply_bitList_write -/
@[reducible] def reply_bitList_write_s : Sh := ⟨[.d (.un), .d (.pr (.int .u8) LAT1)], [], [.un, .pr (.int .u8) LAT1], [.d (.sl (.int .u8))], [], 0, [.sl (.int .u8)]⟩
def reply_bitList_write_e : Env := (cts [(38, (⟨ask_Pack_s, ask_Pack⟩ : Ct))])
def reply_bitList_write_h : List (Nat × Hint) := []
def reply_bitList_write_m0 (v : Unit) (r : Int × Int × List Bool × List Int × Int × Int) : Option (As [.sl (.int .u8)]) :=
  Option.bind (ask_Pack (r.2.2.1, ())) fun (y : List Int × Unit) => need (small (Nat.succ (Nat.succ 0) + List.length y.1)) (some (r.1 :: cvt .u8 (Int.ofNat (List.length y.1)) :: y.1, ()))
def reply_bitList_write (x : As [.un, .pr (.int .u8) LAT1]) : Option (As [.sl (.int .u8)]) := reply_bitList_write_m0 x.1 x.2.1
theorem reply_bitList_write_c0 (J : Orc (As [.sl (.int .u8)])) (x : As [.un, .pr (.int .u8) LAT1]) : rfn Try.prog reply_bitList_write_e 6 18446744073709551616 (Ev.get reply_bitList_write_h) 95 reply_bitList_write_s J x = reply_bitList_write_m0 x.1 x.2.1 := by kernel_rfl
theorem reply_bitList_write_t (x : As [.un, .pr (.int .u8) LAT1]) : evT Try.prog reply_bitList_write_e 6 18446744073709551616 (Ev.get reply_bitList_write_h) 95 reply_bitList_write_s x = reply_bitList_write x := by
  rw [rfn_eq, reply_bitList_write_c0]
  rfl
theorem reply_bitList_write_ok : CtOk Try.prog (fun _ => True) 95 ⟨reply_bitList_write_s, reply_bitList_write⟩ := ct_of_ev (env_cons ask_Pack_ok env_nil) reply_bitList_write_t
/-! reply_wordList_right -/
@[reducible] def reply_wordList_right_s : Sh := ⟨[.d (.un), .d (.pr (.int .u8) LAT1)], [], [.un, .pr (.int .u8) LAT1], [.d (.bool)], [], 0, [.bool]⟩
def reply_wordList_right_e : Env := (cts [(90, (⟨reply_Same_s, reply_Same⟩ : Ct))])
def reply_wordList_right_h : List (Nat × Hint) := []
def reply_wordList_right_m0 (v : Unit) (r : Int × Int × List Bool × List Int × Int × Int) : Option (As [.bool]) :=
  if ge (Int.ofNat (List.length r.2.2.2.1)) 1 = true then if le (Int.ofNat (List.length r.2.2.2.1)) 125 = true then Option.bind (reply_Same (r, (r.1, 0, [], r.2.2.2.1, 0, 0), ())) fun (y : Bool × Unit) => some (y.1, ()) else some (false, ()) else some (false, ())
def reply_wordList_right (x : As [.un, .pr (.int .u8) LAT1]) : Option (As [.bool]) := reply_wordList_right_m0 x.1 x.2.1
theorem reply_wordList_right_c0 (J : Orc (As [.bool])) (x : As [.un, .pr (.int .u8) LAT1]) : rfn Try.prog reply_wordList_right_e 6 18446744073709551616 (Ev.get reply_wordList_right_h) 97 reply_wordList_right_s J x = reply_wordList_right_m0 x.1 x.2.1 := by kernel_rfl
theorem reply_wordList_right_t (x : As [.un, .pr (.int .u8) LAT1]) : evT Try.prog reply_wordList_right_e 6 18446744073709551616 (Ev.get reply_wordList_right_h) 97 reply_wordList_right_s x = reply_wordList_right x := by
  rw [rfn_eq, reply_wordList_right_c0]
  rfl
theorem reply_wordList_right_ok : CtOk Try.prog (fun _ => True) 97 ⟨reply_wordList_right_s, reply_wordList_right⟩ := ct_of_ev (env_cons reply_Same_ok env_nil) reply_wordList_right_t
/-! reply_numbers -/
@[reducible] def reply_numbers_s : Sh := ⟨[.row 0, .d (.sl (.int .u16))], [.row (.int .u8) 5], [.sl (.int .u16), .sl (.int .u8)], [.row 1], [(1, .row (.int .u8) 5)], 1, [.sl (.int .u8)]⟩
def reply_numbers_e : Env := (cts [])
def reply_numbers_h : List (Nat × Hint) := [(26, ⟨[.unl 0], [0, 7, 8, 9]⟩)]
def reply_numbers_k1 (t7 : List Int) (t8 : Int) (t9 : Int) (out : List Int) : St := { fr := [(0, .row 1), (7, .d (.sl (.int .u16)) t7), (8, .d (.int .i64) t8), (9, .d (.int .i64) t9)], nt := 23, up := [], own := [(1, .row (.int .u8) 5 out)], nx := 2, log := [], ln := 1 }
def reply_numbers_m1 (self1 : List Int → Int → Int → List Int → Option (As [.sl (.int .u8)])) (t7 : List Int) (t8 : Int) (t9 : Int) (out : List Int) : Option (As [.sl (.int .u8)]) :=
  if lt t9 t8 = true then Option.bind (at? t7 t9) fun (y : Int) => need (small (List.length out + Nat.succ (Nat.succ 0))) (self1 t7 t8 (add .i64 t9 1) (out ++ [cvt .u8 (Sx.shr .u16 y 8), cvt .u8 y])) else some (out, ())
def reply_numbers_m0 (j1 : List Int → Int → Int → List Int → Option (As [.sl (.int .u8)])) (out : List Int) (l : List Int) : Option (As [.sl (.int .u8)]) :=
  j1 out (Int.ofNat (List.length out)) 0 l
def reply_numbers_K1 (t7 : List Int) (t8 : Int) (t9 : Int) (out : List Int) : Option (As [.sl (.int .u8)]) :=
  loopF (fun (self : (List Int) × (Int) × (Int) × (List Int) → Option (As [.sl (.int .u8)])) (s : (List Int) × (Int) × (Int) × (List Int)) => reply_numbers_m1 (fun t7 t8 t9 out => self (t7, t8, t9, out)) s.1 s.2.1 s.2.2.1 s.2.2.2) 18446744073709551616 (t7, t8, t9, out)
def reply_numbers (x : As [.sl (.int .u16), .sl (.int .u8)]) : Option (As [.sl (.int .u8)]) := reply_numbers_m0 reply_numbers_K1 x.1 x.2.1
theorem reply_numbers_c1 (J : Orc (As [.sl (.int .u8)])) (w1 : St → Option (As [.sl (.int .u8)])) (t7 : List Int) (t8 : Int) (t9 : Int) (out : List Int) : pfn Try.prog reply_numbers_e 6 18446744073709551616 (Ev.get reply_numbers_h) 100 reply_numbers_s J 26 [w1] (reply_numbers_k1 t7 t8 t9 out) = reply_numbers_m1 (fun t7 t8 t9 out => w1 (reply_numbers_k1 t7 t8 t9 out)) t7 t8 t9 out := by kernel_rfl
theorem reply_numbers_c0 (J : Orc (As [.sl (.int .u8)])) (x : As [.sl (.int .u16), .sl (.int .u8)]) : rfn Try.prog reply_numbers_e 6 18446744073709551616 (Ev.get reply_numbers_h) 100 reply_numbers_s J x = reply_numbers_m0 (fun t7 t8 t9 out => J 26 [] (reply_numbers_k1 t7 t8 t9 out)) x.1 x.2.1 := by kernel_rfl
theorem reply_numbers_g1 (t7 : List Int) (t8 : Int) (t9 : Int) (out : List Int) : jfn Try.prog reply_numbers_e 6 18446744073709551616 (Ev.get reply_numbers_h) 100 reply_numbers_s 26 [] (reply_numbers_k1 t7 t8 t9 out) = reply_numbers_K1 t7 t8 t9 out := by
  rw [pfn_eq (by decide)]
  rw [pfn_loop (by kernel_rfl)]
  refine loopF_sim (σ := (List Int) × (Int) × (Int) × (List Int)) (mk := fun s => reply_numbers_k1 s.1 s.2.1 s.2.2.1 s.2.2.2) (fun w1 s => ?_) 18446744073709551616 (t7, t8, t9, out)
  refine (reply_numbers_c1 _ w1 s.1 s.2.1 s.2.2.1 s.2.2.2).trans ?_
  rfl
theorem reply_numbers_t (x : As [.sl (.int .u16), .sl (.int .u8)]) : evT Try.prog reply_numbers_e 6 18446744073709551616 (Ev.get reply_numbers_h) 100 reply_numbers_s x = reply_numbers x := by
  have e1 : (fun t7 t8 t9 out => (jfn Try.prog reply_numbers_e 6 18446744073709551616 (Ev.get reply_numbers_h) 100 reply_numbers_s) 26 [] (reply_numbers_k1 t7 t8 t9 out)) = reply_numbers_K1 := funext fun t7 => funext fun t8 => funext fun t9 => funext fun out => reply_numbers_g1 t7 t8 t9 out
  rw [rfn_eq, reply_numbers_c0, e1]
  rfl
theorem reply_numbers_ok : CtOk Try.prog (fun _ => True) 100 ⟨reply_numbers_s, reply_numbers⟩ := ct_of_ev env_nil reply_numbers_t
/-! reply_wordList_write -/
@[reducible] def reply_wordList_write_s : Sh := ⟨[.d (.un), .d (.pr (.int .u8) LAT1)], [], [.un, .pr (.int .u8) LAT1], [.d (.sl (.int .u8))], [], 0, [.sl (.int .u8)]⟩
def reply_wordList_write_e : Env := (cts [(100, (⟨reply_numbers_s, reply_numbers⟩ : Ct))])
def reply_wordList_write_h : List (Nat × Hint) := []
def reply_wordList_write_m0 (v : Unit) (r : Int × Int × List Bool × List Int × Int × Int) : Option (As [.sl (.int .u8)]) :=
  Option.bind (reply_numbers (r.2.2.2.1, [r.1, cvt .u8 (mul .i64 2 (Int.ofNat (List.length r.2.2.2.1)))], ())) fun (y : List Int × Unit) => some (y.1, ())
def reply_wordList_write (x : As [.un, .pr (.int .u8) LAT1]) : Option (As [.sl (.int .u8)]) := reply_wordList_write_m0 x.1 x.2.1
theorem reply_wordList_write_c0 (J : Orc (As [.sl (.int .u8)])) (x : As [.un, .pr (.int .u8) LAT1]) : rfn Try.prog reply_wordList_write_e 6 18446744073709551616 (Ev.get reply_wordList_write_h) 98 reply_wordList_write_s J x = reply_wordList_write_m0 x.1 x.2.1 := by kernel_rfl
theorem reply_wordList_write_t (x : As [.un, .pr (.int .u8) LAT1]) : evT Try.prog reply_wordList_write_e 6 18446744073709551616 (Ev.get reply_wordList_write_h) 98 reply_wordList_write_s x = reply_wordList_write x := by
  rw [rfn_eq, reply_wordList_write_c0]
  rfl
theorem reply_wordList_write_ok : CtOk Try.prog (fun _ => True) 98 ⟨reply_wordList_write_s, reply_wordList_write⟩ := ct_of_ev (env_cons reply_numbers_ok env_nil) reply_wordList_write_t
/-! reply_oneBit_right -/
@[reducible] def reply_oneBit_right_s : Sh := ⟨[.d (.un), .d (.pr (.int .u8) LAT1)], [], [.un, .pr (.int .u8) LAT1], [.d (.bool)], [], 0, [.bool]⟩
def reply_oneBit_right_e : Env := (cts [(90, (⟨reply_Same_s, reply_Same⟩ : Ct))])
def reply_oneBit_right_h : List (Nat × Hint) := []
def reply_oneBit_right_m0 (v : Unit) (r : Int × Int × List Bool × List Int × Int × Int) : Option (As [.bool]) :=
  if eqi (Int.ofNat (List.length r.2.2.1)) 1 = true then Option.bind (reply_Same (r, (r.1, 0, r.2.2.1, [], r.2.2.2.2.1, 0), ())) fun (y : Bool × Unit) => some (y.1, ()) else some (false, ())
def reply_oneBit_right (x : As [.un, .pr (.int .u8) LAT1]) : Option (As [.bool]) := reply_oneBit_right_m0 x.1 x.2.1
theorem reply_oneBit_right_c0 (J : Orc (As [.bool])) (x : As [.un, .pr (.int .u8) LAT1]) : rfn Try.prog reply_oneBit_right_e 6 18446744073709551616 (Ev.get reply_oneBit_right_h) 102 reply_oneBit_right_s J x = reply_oneBit_right_m0 x.1 x.2.1 := by kernel_rfl
theorem reply_oneBit_right_t (x : As [.un, .pr (.int .u8) LAT1]) : evT Try.prog reply_oneBit_right_e 6 18446744073709551616 (Ev.get reply_oneBit_right_h) 102 reply_oneBit_right_s x = reply_oneBit_right x := by
  rw [rfn_eq, reply_oneBit_right_c0]
  rfl
theorem reply_oneBit_right_ok : CtOk Try.prog (fun _ => True) 102 ⟨reply_oneBit_right_s, reply_oneBit_right⟩ := ct_of_ev (env_cons reply_Same_ok env_nil) reply_oneBit_right_t
/-! reply_oneBit_write -/
@[reducible] def reply_oneBit_write_s : Sh := ⟨[.d (.un), .d (.pr (.int .u8) LAT1)], [], [.un, .pr (.int .u8) LAT1], [.d (.sl (.int .u8))], [], 0, [.sl (.int .u8)]⟩
def reply_oneBit_write_e : Env := (cts [(100, (⟨reply_numbers_s, reply_numbers⟩ : Ct))])
def reply_oneBit_write_h : List (Nat × Hint) := [(7, ⟨[], [3, 5]⟩)]
def reply_oneBit_write_k1 (x : Int) (r : Int) (r_2 : Int) (r_3 : List Bool) (r_4 : List Int) (r_5 : Int) (r_6 : Int) : St := { fr := [(3, .pb 0 0), (5, .d (.int .u16) x)], nt := 18, up := [], own := [(0, .box 55 [.d (.int .u8) r, .d (.int .u8) r_2, .d (.sl .bool) r_3, .d (.sl (.int .u16)) r_4, .d (.int .u16) r_5, .d (.int .u16) r_6])], nx := 1, log := [], ln := 0 }
def reply_oneBit_write_m1 (x : Int) (r : Int) (r_2 : Int) (r_3 : List Bool) (r_4 : List Int) (r_5 : Int) (r_6 : Int) : Option (As [.sl (.int .u8)]) :=
  Option.bind (reply_numbers ([r_5, x], [r], ())) fun (y : List Int × Unit) => some (y.1, ())
def reply_oneBit_write_m0 (j1 : Int → Int → Int → List Bool → List Int → Int → Int → Option (As [.sl (.int .u8)])) (v : Unit) (r : Int × Int × List Bool × List Int × Int × Int) : Option (As [.sl (.int .u8)]) :=
  Option.bind (at? r.2.2.1 0) fun (y : Bool) => if y = true then j1 65280 r.1 r.2.1 r.2.2.1 r.2.2.2.1 r.2.2.2.2.1 r.2.2.2.2.2 else j1 0 r.1 r.2.1 r.2.2.1 r.2.2.2.1 r.2.2.2.2.1 r.2.2.2.2.2
def reply_oneBit_write_K1 (x : Int) (r : Int) (r_2 : Int) (r_3 : List Bool) (r_4 : List Int) (r_5 : Int) (r_6 : Int) : Option (As [.sl (.int .u8)]) := reply_oneBit_write_m1 x r r_2 r_3 r_4 r_5 r_6
def reply_oneBit_write (x : As [.un, .pr (.int .u8) LAT1]) : Option (As [.sl (.int .u8)]) := reply_oneBit_write_m0 reply_oneBit_write_K1 x.1 x.2.1
theorem reply_oneBit_write_c1 (J : Orc (As [.sl (.int .u8)])) (x : Int) (r : Int) (r_2 : Int) (r_3 : List Bool) (r_4 : List Int) (r_5 : Int) (r_6 : Int) : pfn Try.prog reply_oneBit_write_e 6 18446744073709551616 (Ev.get reply_oneBit_write_h) 103 reply_oneBit_write_s J 7 [] (reply_oneBit_write_k1 x r r_2 r_3 r_4 r_5 r_6) = reply_oneBit_write_m1 x r r_2 r_3 r_4 r_5 r_6 := by kernel_rfl
theorem reply_oneBit_write_c0 (J : Orc (As [.sl (.int .u8)])) (x : As [.un, .pr (.int .u8) LAT1]) : rfn Try.prog reply_oneBit_write_e 6 18446744073709551616 (Ev.get reply_oneBit_write_h) 103 reply_oneBit_write_s J x = reply_oneBit_write_m0 (fun x r r_2 r_3 r_4 r_5 r_6 => J 7 [] (reply_oneBit_write_k1 x r r_2 r_3 r_4 r_5 r_6)) x.1 x.2.1 := by kernel_rfl
theorem reply_oneBit_write_g1 (x : Int) (r : Int) (r_2 : Int) (r_3 : List Bool) (r_4 : List Int) (r_5 : Int) (r_6 : Int) : jfn Try.prog reply_oneBit_write_e 6 18446744073709551616 (Ev.get reply_oneBit_write_h) 103 reply_oneBit_write_s 7 [] (reply_oneBit_write_k1 x r r_2 r_3 r_4 r_5 r_6) = reply_oneBit_write_K1 x r r_2 r_3 r_4 r_5 r_6 := by
  rw [pfn_eq (by decide)]
  rw [reply_oneBit_write_c1]
  rfl
theorem reply_oneBit_write_t (x : As [.un, .pr (.int .u8) LAT1]) : evT Try.prog reply_oneBit_write_e 6 18446744073709551616 (Ev.get reply_oneBit_write_h) 103 reply_oneBit_write_s x = reply_oneBit_write x := by
  have e1 : (fun x r r_2 r_3 r_4 r_5 r_6 => (jfn Try.prog reply_oneBit_write_e 6 18446744073709551616 (Ev.get reply_oneBit_write_h) 103 reply_oneBit_write_s) 7 [] (reply_oneBit_write_k1 x r r_2 r_3 r_4 r_5 r_6)) = reply_oneBit_write_K1 := funext fun x => funext fun r => funext fun r_2 => funext fun r_3 => funext fun r_4 => funext fun r_5 => funext fun r_6 => reply_oneBit_write_g1 x r r_2 r_3 r_4 r_5 r_6
  rw [rfn_eq, reply_oneBit_write_c0, e1]
  rfl
theorem reply_oneBit_write_ok : CtOk Try.prog (fun _ => True) 103 ⟨reply_oneBit_write_s, reply_oneBit_write⟩ := ct_of_ev (env_cons reply_numbers_ok env_nil) reply_oneBit_write_t
/-! reply_oneWord_right -/
@[reducible] def reply_oneWord_right_s : Sh := ⟨[.d (.un), .d (.pr (.int .u8) LAT1)], [], [.un, .pr (.int .u8) LAT1], [.d (.bool)], [], 0, [.bool]⟩
def reply_oneWord_right_e : Env := (cts [(90, (⟨reply_Same_s, reply_Same⟩ : Ct))])
def reply_oneWord_right_h : List (Nat × Hint) := []
def reply_oneWord_right_m0 (v : Unit) (r : Int × Int × List Bool × List Int × Int × Int) : Option (As [.bool]) :=
  if eqi (Int.ofNat (List.length r.2.2.2.1)) 1 = true then Option.bind (reply_Same (r, (r.1, 0, [], r.2.2.2.1, r.2.2.2.2.1, 0), ())) fun (y : Bool × Unit) => some (y.1, ()) else some (false, ())
def reply_oneWord_right (x : As [.un, .pr (.int .u8) LAT1]) : Option (As [.bool]) := reply_oneWord_right_m0 x.1 x.2.1
theorem reply_oneWord_right_c0 (J : Orc (As [.bool])) (x : As [.un, .pr (.int .u8) LAT1]) : rfn Try.prog reply_oneWord_right_e 6 18446744073709551616 (Ev.get reply_oneWord_right_h) 105 reply_oneWord_right_s J x = reply_oneWord_right_m0 x.1 x.2.1 := by kernel_rfl
theorem reply_oneWord_right_t (x : As [.un, .pr (.int .u8) LAT1]) : evT Try.prog reply_oneWord_right_e 6 18446744073709551616 (Ev.get reply_oneWord_right_h) 105 reply_oneWord_right_s x = reply_oneWord_right x := by
  rw [rfn_eq, reply_oneWord_right_c0]
  rfl
theorem reply_oneWord_right_ok : CtOk Try.prog (fun _ => True) 105 ⟨reply_oneWord_right_s, reply_oneWord_right⟩ := ct_of_ev (env_cons reply_Same_ok env_nil) reply_oneWord_right_t
/-! reply_oneWord_write -/
@[reducible] def reply_oneWord_write_s : Sh := ⟨[.d (.un), .d (.pr (.int .u8) LAT1)], [], [.un, .pr (.int .u8) LAT1], [.d (.sl (.int .u8))], [], 0, [.sl (.int .u8)]⟩
def reply_oneWord_write_e : Env := (cts [(100, (⟨reply_numbers_s, reply_numbers⟩ : Ct))])
def reply_oneWord_write_h : List (Nat × Hint) := []
def reply_oneWord_write_m0 (v : Unit) (r : Int × Int × List Bool × List Int × Int × Int) : Option (As [.sl (.int .u8)]) :=
  Option.bind (at? r.2.2.2.1 0) fun (y : Int) => amb (eqAs reply_oneWord_write_s.rs) [Option.bind (reply_numbers ([r.2.2.2.2.1, y], [r.1], ())) fun (y : List Int × Unit) => some (y.1, ()), Option.bind (reply_numbers ([r.2.2.2.2.1, y], [r.1], ())) fun (y : List Int × Unit) => some (y.1, ())]
def reply_oneWord_write (x : As [.un, .pr (.int .u8) LAT1]) : Option (As [.sl (.int .u8)]) := reply_oneWord_write_m0 x.1 x.2.1
theorem reply_oneWord_write_c0 (J : Orc (As [.sl (.int .u8)])) (x : As [.un, .pr (.int .u8) LAT1]) : rfn Try.prog reply_oneWord_write_e 6 18446744073709551616 (Ev.get reply_oneWord_write_h) 106 reply_oneWord_write_s J x = reply_oneWord_write_m0 x.1 x.2.1 := by kernel_rfl
theorem reply_oneWord_write_t (x : As [.un, .pr (.int .u8) LAT1]) : evT Try.prog reply_oneWord_write_e 6 18446744073709551616 (Ev.get reply_oneWord_write_h) 106 reply_oneWord_write_s x = reply_oneWord_write x := by
  rw [rfn_eq, reply_oneWord_write_c0]
  rfl
theorem reply_oneWord_write_ok : CtOk Try.prog (fun _ => True) 106 ⟨reply_oneWord_write_s, reply_oneWord_write⟩ := ct_of_ev (env_cons reply_numbers_ok env_nil) reply_oneWord_write_t
/-! reply_count_right -/
@[reducible] def reply_count_right_s : Sh := ⟨[.d (.wr (.int .u16)), .d (.pr (.int .u8) LAT1)], [], [.wr (.int .u16), .pr (.int .u8) LAT1], [.d (.bool)], [], 0, [.bool]⟩
def reply_count_right_e : Env := (cts [(90, (⟨reply_Same_s, reply_Same⟩ : Ct))])
def reply_count_right_h : List (Nat × Hint) := []
def reply_count_right_m0 (k : Int) (r : Int × Int × List Bool × List Int × Int × Int) : Option (As [.bool]) :=
  if ge r.2.2.2.2.2 1 = true then if le r.2.2.2.2.2 k = true then Option.bind (reply_Same (r, (r.1, 0, [], [], r.2.2.2.2), ())) fun (y : Bool × Unit) => some (y.1, ()) else some (false, ()) else some (false, ())
def reply_count_right (x : As [.wr (.int .u16), .pr (.int .u8) LAT1]) : Option (As [.bool]) := reply_count_right_m0 x.1 x.2.1
theorem reply_count_right_c0 (J : Orc (As [.bool])) (x : As [.wr (.int .u16), .pr (.int .u8) LAT1]) : rfn Try.prog reply_count_right_e 6 18446744073709551616 (Ev.get reply_count_right_h) 108 reply_count_right_s J x = reply_count_right_m0 x.1 x.2.1 := by kernel_rfl
theorem reply_count_right_t (x : As [.wr (.int .u16), .pr (.int .u8) LAT1]) : evT Try.prog reply_count_right_e 6 18446744073709551616 (Ev.get reply_count_right_h) 108 reply_count_right_s x = reply_count_right x := by
  rw [rfn_eq, reply_count_right_c0]
  rfl
theorem reply_count_right_ok : CtOk Try.prog (fun _ => True) 108 ⟨reply_count_right_s, reply_count_right⟩ := ct_of_ev (env_cons reply_Same_ok env_nil) reply_count_right_t
/-! reply_count_write -/
@[reducible] def reply_count_write_s : Sh := ⟨[.d (.wr (.int .u16)), .d (.pr (.int .u8) LAT1)], [], [.wr (.int .u16), .pr (.int .u8) LAT1], [.d (.sl (.int .u8))], [], 0, [.sl (.int .u8)]⟩
def reply_count_write_e : Env := (cts [(100, (⟨reply_numbers_s, reply_numbers⟩ : Ct))])
def reply_count_write_h : List (Nat × Hint) := []
def reply_count_write_m0 (v : Int) (r : Int × Int × List Bool × List Int × Int × Int) : Option (As [.sl (.int .u8)]) :=
  Option.bind (reply_numbers ([r.2.2.2.2.1, r.2.2.2.2.2], [r.1], ())) fun (y : List Int × Unit) => some (y.1, ())
def reply_count_write (x : As [.wr (.int .u16), .pr (.int .u8) LAT1]) : Option (As [.sl (.int .u8)]) := reply_count_write_m0 x.1 x.2.1
theorem reply_count_write_c0 (J : Orc (As [.sl (.int .u8)])) (x : As [.wr (.int .u16), .pr (.int .u8) LAT1]) : rfn Try.prog reply_count_write_e 6 18446744073709551616 (Ev.get reply_count_write_h) 109 reply_count_write_s J x = reply_count_write_m0 x.1 x.2.1 := by kernel_rfl
theorem reply_count_write_t (x : As [.wr (.int .u16), .pr (.int .u8) LAT1]) : evT Try.prog reply_count_write_e 6 18446744073709551616 (Ev.get reply_count_write_h) 109 reply_count_write_s x = reply_count_write x := by
  rw [rfn_eq, reply_count_write_c0]
  rfl
theorem reply_count_write_ok : CtOk Try.prog (fun _ => True) 109 ⟨reply_count_write_s, reply_count_write⟩ := ct_of_ev (env_cons reply_numbers_ok env_nil) reply_count_write_t
/-! reply_Bytes -/
@[reducible] def reply_Bytes_s : Sh := ⟨[.d (.pr (.int .u8) LAT1)], [], [.pr (.int .u8) LAT1], [.d (.sl (.int .u8)), .d (.int .i64)], [], 0, [.sl (.int .u8), .int .i64]⟩
def reply_Bytes_e : Env := (cts [(88, (⟨reply_exception_right_s, reply_exception_right⟩ : Ct)), (89, (⟨reply_exception_write_s, reply_exception_write⟩ : Ct)), (94, (⟨reply_bitList_right_s, reply_bitList_right⟩ : Ct)), (95, (⟨reply_bitList_write_s, reply_bitList_write⟩ : Ct)), (97, (⟨reply_wordList_right_s, reply_wordList_right⟩ : Ct)), (98, (⟨reply_wordList_write_s, reply_wordList_write⟩ : Ct)), (102, (⟨reply_oneBit_right_s, reply_oneBit_right⟩ : Ct)), (103, (⟨reply_oneBit_write_s, reply_oneBit_write⟩ : Ct)), (105, (⟨reply_oneWord_right_s, reply_oneWord_right⟩ : Ct)), (106, (⟨reply_oneWord_write_s, reply_oneWord_write⟩ : Ct)), (108, (⟨reply_count_right_s, reply_count_right⟩ : Ct)), (109, (⟨reply_count_write_s, reply_count_write⟩ : Ct))])
def reply_Bytes_h : List (Nat × Hint) := []
def reply_Bytes_m0 (r : Int × Int × List Bool × List Int × Int × Int) : Option (As [.sl (.int .u8), .int .i64]) :=
  if nei r.2.1 0 = true then Option.bind (reply_exception_right ((), r, ())) fun (y : Bool × Unit) => if y.1 = true then Option.bind (reply_exception_write ((), r, ())) fun (y : List Int × Unit) => some (y.1, 0, ()) else some ([], 13, ()) else if eqi r.1 1 = true then Option.bind (reply_bitList_right ((), r, ())) fun (y : Bool × Unit) => if y.1 = true then Option.bind (reply_bitList_write ((), r, ())) fun (y : List Int × Unit) => some (y.1, 0, ()) else some ([], 13, ()) else if eqi r.1 2 = true then Option.bind (reply_bitList_right ((), r, ())) fun (y : Bool × Unit) => if y.1 = true then Option.bind (reply_bitList_write ((), r, ())) fun (y : List Int × Unit) => some (y.1, 0, ()) else some ([], 13, ()) else if eqi r.1 3 = true then Option.bind (reply_wordList_right ((), r, ())) fun (y : Bool × Unit) => if y.1 = true then Option.bind (reply_wordList_write ((), r, ())) fun (y : List Int × Unit) => some (y.1, 0, ()) else some ([], 13, ()) else if eqi r.1 4 = true then Option.bind (reply_wordList_right ((), r, ())) fun (y : Bool × Unit) => if y.1 = true then Option.bind (reply_wordList_write ((), r, ())) fun (y : List Int × Unit) => some (y.1, 0, ()) else some ([], 13, ()) else if eqi r.1 23 = true then Option.bind (reply_wordList_right ((), r, ())) fun (y : Bool × Unit) => if y.1 = true then Option.bind (reply_wordList_write ((), r, ())) fun (y : List Int × Unit) => some (y.1, 0, ()) else some ([], 13, ()) else if eqi r.1 5 = true then Option.bind (reply_oneBit_right ((), r, ())) fun (y : Bool × Unit) => if y.1 = true then Option.bind (reply_oneBit_write ((), r, ())) fun (y : List Int × Unit) => some (y.1, 0, ()) else some ([], 13, ()) else if eqi r.1 6 = true then Option.bind (reply_oneWord_right ((), r, ())) fun (y : Bool × Unit) => if y.1 = true then Option.bind (reply_oneWord_write ((), r, ())) fun (y : List Int × Unit) => some (y.1, 0, ()) else some ([], 13, ()) else if eqi r.1 15 = true then Option.bind (reply_count_right (1968, r, ())) fun (y : Bool × Unit) => if y.1 = true then Option.bind (reply_count_write (1968, r, ())) fun (y : List Int × Unit) => some (y.1, 0, ()) else some ([], 13, ()) else if eqi r.1 16 = true then Option.bind (reply_count_right (123, r, ())) fun (y : Bool × Unit) => if y.1 = true then Option.bind (reply_count_write (123, r, ())) fun (y : List Int × Unit) => some (y.1, 0, ()) else some ([], 13, ()) else some ([], 13, ())
def reply_Bytes (x : As [.pr (.int .u8) LAT1]) : Option (As [.sl (.int .u8), .int .i64]) := reply_Bytes_m0 x.1
theorem reply_Bytes_c0 (J : Orc (As [.sl (.int .u8), .int .i64])) (x : As [.pr (.int .u8) LAT1]) : rfn Try.prog reply_Bytes_e 6 18446744073709551616 (Ev.get reply_Bytes_h) 43 reply_Bytes_s J x = reply_Bytes_m0 x.1 := by kernel_rfl
theorem reply_Bytes_t (x : As [.pr (.int .u8) LAT1]) : evT Try.prog reply_Bytes_e 6 18446744073709551616 (Ev.get reply_Bytes_h) 43 reply_Bytes_s x = reply_Bytes x := by
  rw [rfn_eq, reply_Bytes_c0]
  rfl
theorem reply_Bytes_ok : CtOk Try.prog (fun _ => True) 43 ⟨reply_Bytes_s, reply_Bytes⟩ := ct_of_ev (env_cons reply_exception_right_ok (env_cons reply_exception_write_ok (env_cons reply_bitList_right_ok (env_cons reply_bitList_write_ok (env_cons reply_wordList_right_ok (env_cons reply_wordList_write_ok (env_cons reply_oneBit_right_ok (env_cons reply_oneBit_write_ok (env_cons reply_oneWord_right_ok (env_cons reply_oneWord_write_ok (env_cons reply_count_right_ok (env_cons reply_count_write_ok env_nil)))))))))))) reply_Bytes_t
/-! slices_Clone_Gbool -/
@[reducible] def slices_Clone_Gbool_s : Sh := ⟨[.d (.sl .bool)], [], [.sl .bool], [.d (.sl .bool)], [], 0, [.sl .bool]⟩
def slices_Clone_Gbool_e : Env := (cts [])
def slices_Clone_Gbool_h : List (Nat × Hint) := []
def slices_Clone_Gbool_m0 (s : List Bool) : Option (As [.sl .bool]) :=
  if eqi (Int.ofNat (List.length s)) 0 = true then amb (eqAs slices_Clone_Gbool_s.rs) [some ([], ()), need (small (0 + List.length s)) (some (s, ()))] else need (small (0 + List.length s)) (some (s, ()))
def slices_Clone_Gbool (x : As [.sl .bool]) : Option (As [.sl .bool]) := slices_Clone_Gbool_m0 x.1
theorem slices_Clone_Gbool_c0 (J : Orc (As [.sl .bool])) (x : As [.sl .bool]) : rfn Try.prog slices_Clone_Gbool_e 6 18446744073709551616 (Ev.get slices_Clone_Gbool_h) 53 slices_Clone_Gbool_s J x = slices_Clone_Gbool_m0 x.1 := by kernel_rfl
theorem slices_Clone_Gbool_t (x : As [.sl .bool]) : evT Try.prog slices_Clone_Gbool_e 6 18446744073709551616 (Ev.get slices_Clone_Gbool_h) 53 slices_Clone_Gbool_s x = slices_Clone_Gbool x := by
  rw [rfn_eq, slices_Clone_Gbool_c0]
  rfl
theorem slices_Clone_Gbool_ok : CtOk Try.prog (fun _ => True) 53 ⟨slices_Clone_Gbool_s, slices_Clone_Gbool⟩ := ct_of_ev env_nil slices_Clone_Gbool_t
/-! slices_Clone_Guint16 -/
@[reducible] def slices_Clone_Guint16_s : Sh := ⟨[.d (.sl (.int .u16))], [], [.sl (.int .u16)], [.d (.sl (.int .u16))], [], 0, [.sl (.int .u16)]⟩
def slices_Clone_Guint16_e : Env := (cts [])
def slices_Clone_Guint16_h : List (Nat × Hint) := []
def slices_Clone_Guint16_m0 (s : List Int) : Option (As [.sl (.int .u16)]) :=
  if eqi (Int.ofNat (List.length s)) 0 = true then amb (eqAs slices_Clone_Guint16_s.rs) [some ([], ()), need (small (0 + List.length s)) (some (s, ()))] else need (small (0 + List.length s)) (some (s, ()))
def slices_Clone_Guint16 (x : As [.sl (.int .u16)]) : Option (As [.sl (.int .u16)]) := slices_Clone_Guint16_m0 x.1
theorem slices_Clone_Guint16_c0 (J : Orc (As [.sl (.int .u16)])) (x : As [.sl (.int .u16)]) : rfn Try.prog slices_Clone_Guint16_e 6 18446744073709551616 (Ev.get slices_Clone_Guint16_h) 54 slices_Clone_Guint16_s J x = slices_Clone_Guint16_m0 x.1 := by kernel_rfl
theorem slices_Clone_Guint16_t (x : As [.sl (.int .u16)]) : evT Try.prog slices_Clone_Guint16_e 6 18446744073709551616 (Ev.get slices_Clone_Guint16_h) 54 slices_Clone_Guint16_s x = slices_Clone_Guint16 x := by
  rw [rfn_eq, slices_Clone_Guint16_c0]
  rfl
theorem slices_Clone_Guint16_ok : CtOk Try.prog (fun _ => True) 54 ⟨slices_Clone_Guint16_s, slices_Clone_Guint16⟩ := ct_of_ev env_nil slices_Clone_Guint16_t
/-! model_own -/
@[reducible] def model_own_s : Sh := ⟨[.d (.pr (.sl .bool) LAT5)], [], [.pr (.sl .bool) LAT5], [.d (.pr (.sl .bool) LAT5)], [], 0, [.pr (.sl .bool) LAT5]⟩
def model_own_e : Env := (cts [(53, (⟨slices_Clone_Gbool_s, slices_Clone_Gbool⟩ : Ct)), (54, (⟨slices_Clone_Guint16_s, slices_Clone_Guint16⟩ : Ct))])
def model_own_h : List (Nat × Hint) := []
def model_own_m0 (m : List Bool × List Bool × List Int × List Int) : Option (As [.pr (.sl .bool) LAT5]) :=
  Option.bind (slices_Clone_Gbool (m.1, ())) fun (y : List Bool × Unit) => Option.bind (slices_Clone_Gbool (m.2.1, ())) fun (y_1 : List Bool × Unit) => Option.bind (slices_Clone_Guint16 (m.2.2.1, ())) fun (y_2 : List Int × Unit) => Option.bind (slices_Clone_Guint16 (m.2.2.2, ())) fun (y_3 : List Int × Unit) => some ((y.1, y_1.1, y_2.1, y_3.1), ())
def model_own (x : As [.pr (.sl .bool) LAT5]) : Option (As [.pr (.sl .bool) LAT5]) := model_own_m0 x.1
theorem model_own_c0 (J : Orc (As [.pr (.sl .bool) LAT5])) (x : As [.pr (.sl .bool) LAT5]) : rfn Try.prog model_own_e 6 18446744073709551616 (Ev.get model_own_h) 45 model_own_s J x = model_own_m0 x.1 := by kernel_rfl
theorem model_own_t (x : As [.pr (.sl .bool) LAT5]) : evT Try.prog model_own_e 6 18446744073709551616 (Ev.get model_own_h) 45 model_own_s x = model_own x := by
  rw [rfn_eq, model_own_c0]
  rfl
theorem model_own_ok : CtOk Try.prog (fun _ => True) 45 ⟨model_own_s, model_own⟩ := ct_of_ev (env_cons slices_Clone_Gbool_ok (env_cons slices_Clone_Guint16_ok env_nil)) model_own_t
/-! model_open -/
@[reducible] def model_open_s : Sh := ⟨[.d (.pr LAT0 (.pr LAT0 (.pr LAT0 LAT0))), .d (.pr (.sl .bool) LAT5)], [], [.pr LAT0 (.pr LAT0 (.pr LAT0 LAT0)), .pr (.sl .bool) LAT5], [.d (.pr (.pr LAT0 (.sl .bool)) (.pr (.pr LAT0 (.sl .bool)) (.pr (.pr LAT0 (.sl (.int .u16))) (.pr LAT0 (.sl (.int .u16))))))], [], 0, [.pr (.pr LAT0 (.sl .bool)) (.pr (.pr LAT0 (.sl .bool)) (.pr (.pr LAT0 (.sl (.int .u16))) (.pr LAT0 (.sl (.int .u16)))))]⟩
def model_open_e : Env := (cts [])
def model_open_h : List (Nat × Hint) := []
def model_open_m0 (s : List LAT2 × List LAT2 × List LAT2 × List LAT2) (m : List Bool × List Bool × List Int × List Int) : Option (As [.pr (.pr LAT0 (.sl .bool)) (.pr (.pr LAT0 (.sl .bool)) (.pr (.pr LAT0 (.sl (.int .u16))) (.pr LAT0 (.sl (.int .u16)))))]) :=
  some (((s.1, m.1), (s.2.1, m.2.1), (s.2.2.1, m.2.2.1), s.2.2.2, m.2.2.2), ())
def model_open (x : As [.pr LAT0 (.pr LAT0 (.pr LAT0 LAT0)), .pr (.sl .bool) LAT5]) : Option (As [.pr (.pr LAT0 (.sl .bool)) (.pr (.pr LAT0 (.sl .bool)) (.pr (.pr LAT0 (.sl (.int .u16))) (.pr LAT0 (.sl (.int .u16)))))]) := model_open_m0 x.1 x.2.1
theorem model_open_c0 (J : Orc (As [.pr (.pr LAT0 (.sl .bool)) (.pr (.pr LAT0 (.sl .bool)) (.pr (.pr LAT0 (.sl (.int .u16))) (.pr LAT0 (.sl (.int .u16)))))])) (x : As [.pr LAT0 (.pr LAT0 (.pr LAT0 LAT0)), .pr (.sl .bool) LAT5]) : rfn Try.prog model_open_e 6 18446744073709551616 (Ev.get model_open_h) 57 model_open_s J x = model_open_m0 x.1 x.2.1 := by kernel_rfl
theorem model_open_t (x : As [.pr LAT0 (.pr LAT0 (.pr LAT0 LAT0)), .pr (.sl .bool) LAT5]) : evT Try.prog model_open_e 6 18446744073709551616 (Ev.get model_open_h) 57 model_open_s x = model_open x := by
  rw [rfn_eq, model_open_c0]
  rfl
theorem model_open_ok : CtOk Try.prog (fun _ => True) 57 ⟨model_open_s, model_open⟩ := ct_of_ev env_nil model_open_t
/-! model_uses -/
@[reducible] def model_uses_s : Sh := ⟨[.d (.int .u8)], [], [.int .u8], [.d (.pr (.int .i64) (.int .i64))], [], 0, [.pr (.int .i64) (.int .i64)]⟩
def model_uses_e : Env := (cts [])
def model_uses_h : List (Nat × Hint) := []
def model_uses_m0 (f : Int) : Option (As [.pr (.int .i64) (.int .i64)]) :=
  some (Ev.gdV (.pr (.int .i64) (.int .i64)) (if eqi 1 f = true then some (1, 0) else if eqi 2 f = true then some (2, 0) else if eqi 3 f = true then some (3, 0) else if eqi 4 f = true then some (4, 0) else if eqi 5 f = true then some (0, 1) else if eqi 6 f = true then some (0, 3) else if eqi 15 f = true then some (0, 1) else if eqi 16 f = true then some (0, 3) else if eqi 23 f = true then some (3, 3) else Option.none) (0, 0), ())
def model_uses (x : As [.int .u8]) : Option (As [.pr (.int .i64) (.int .i64)]) := model_uses_m0 x.1
theorem model_uses_c0 (J : Orc (As [.pr (.int .i64) (.int .i64)])) (x : As [.int .u8]) : rfn Try.prog model_uses_e 6 18446744073709551616 (Ev.get model_uses_h) 58 model_uses_s J x = model_uses_m0 x.1 := by kernel_rfl
theorem model_uses_t (x : As [.int .u8]) : evT Try.prog model_uses_e 6 18446744073709551616 (Ev.get model_uses_h) 58 model_uses_s x = model_uses x := by
  rw [rfn_eq, model_uses_c0]
  rfl
theorem model_uses_ok : CtOk Try.prog (fun _ => True) 58 ⟨model_uses_s, model_uses⟩ := ct_of_ev env_nil model_uses_t
/-! model_target -/
@[reducible] def model_target_s : Sh := ⟨[.d (.pr (.int .u8) LAT4)], [], [.pr (.int .u8) LAT4], [.d (.int .i64), .d (.int .i64)], [], 0, [.int .i64, .int .i64]⟩
def model_target_e : Env := (cts [])
def model_target_h : List (Nat × Hint) := []
def model_target_m0 (a : Int × Int × Int × Int × List Int × List Bool) : Option (As [.int .i64, .int .i64]) :=
  if eqi a.1 23 = true then some (cvt .i64 a.2.2.2.1, add .i64 (Int.ofNat (List.length a.2.2.2.2.2)) (Int.ofNat (List.length a.2.2.2.2.1)), ()) else some (cvt .i64 a.2.1, add .i64 (Int.ofNat (List.length a.2.2.2.2.2)) (Int.ofNat (List.length a.2.2.2.2.1)), ())
def model_target (x : As [.pr (.int .u8) LAT4]) : Option (As [.int .i64, .int .i64]) := model_target_m0 x.1
theorem model_target_c0 (J : Orc (As [.int .i64, .int .i64])) (x : As [.pr (.int .u8) LAT4]) : rfn Try.prog model_target_e 6 18446744073709551616 (Ev.get model_target_h) 59 model_target_s J x = model_target_m0 x.1 := by kernel_rfl
theorem model_target_t (x : As [.pr (.int .u8) LAT4]) : evT Try.prog model_target_e 6 18446744073709551616 (Ev.get model_target_h) 59 model_target_s x = model_target x := by
  rw [rfn_eq, model_target_c0]
  rfl
theorem model_target_ok : CtOk Try.prog (fun _ => True) 59 ⟨model_target_s, model_target⟩ := ct_of_ev env_nil model_target_t
/-! model_table_bool_readable_z1 -/
@[reducible] def model_table_bool_readable_z1_s : Sh := ⟨[.d (.pr (.int .i64) LAT8)], [], [.pr (.int .i64) LAT8], [.d (.bool)], [], 0, [.bool]⟩
def model_table_bool_readable_z1_e : Env := (cts [])
def model_table_bool_readable_z1_h : List (Nat × Hint) := []
def model_table_bool_readable_z1_m0 (x : Int × Int × Bool × Bool × Bool) : Option (As [.bool]) :=
  some (x.2.2.1, ())
def model_table_bool_readable_z1 (x : As [.pr (.int .i64) LAT8]) : Option (As [.bool]) := model_table_bool_readable_z1_m0 x.1
theorem model_table_bool_readable_z1_c0 (J : Orc (As [.bool])) (x : As [.pr (.int .i64) LAT8]) : rfn Try.prog model_table_bool_readable_z1_e 6 18446744073709551616 (Ev.get model_table_bool_readable_z1_h) 113 model_table_bool_readable_z1_s J x = model_table_bool_readable_z1_m0 x.1 := by kernel_rfl
theorem model_table_bool_readable_z1_t (x : As [.pr (.int .i64) LAT8]) : evT Try.prog model_table_bool_readable_z1_e 6 18446744073709551616 (Ev.get model_table_bool_readable_z1_h) 113 model_table_bool_readable_z1_s x = model_table_bool_readable_z1 x := by
  rw [rfn_eq, model_table_bool_readable_z1_c0]
  rfl
theorem model_table_bool_readable_z1_ok : CtOk Try.prog (fun _ => True) 113 ⟨model_table_bool_readable_z1_s, model_table_bool_readable_z1⟩ := ct_of_ev env_nil model_table_bool_readable_z1_t
/-! model_table_bool_writable_z1 -/
@[reducible] def model_table_bool_writable_z1_s : Sh := ⟨[.d (.pr (.int .i64) LAT8), .pb 0 0, .pb 1 0], [.box 3 [.d (.int .i64)], .box 3 [.d (.int .i64)]], [.pr (.int .i64) LAT8, .int .i64, .int .i64], [.d (.bool)], [(0, .box 3 [.d (.int .i64)]), (1, .box 3 [.d (.int .i64)])], 0, [.bool, .int .i64, .int .i64]⟩
def model_table_bool_writable_z1_e : Env := (cts [])
def model_table_bool_writable_z1_h : List (Nat × Hint) := []
def model_table_bool_writable_z1_m0 (x : Int × Int × Bool × Bool × Bool) (v : Int) (v_2 : Int) : Option (As [.bool, .int .i64, .int .i64]) :=
  if x.2.2.2.1 = true then if (!x.2.2.2.2) = true then some (true, v, v_2, ()) else if eqi x.1 v = true then some (eqi x.2.1 v_2, v, v_2, ()) else some (false, v, v_2, ()) else some (false, v, v_2, ())
def model_table_bool_writable_z1 (x : As [.pr (.int .i64) LAT8, .int .i64, .int .i64]) : Option (As [.bool, .int .i64, .int .i64]) := model_table_bool_writable_z1_m0 x.1 x.2.1 x.2.2.1
theorem model_table_bool_writable_z1_c0 (J : Orc (As [.bool, .int .i64, .int .i64])) (x : As [.pr (.int .i64) LAT8, .int .i64, .int .i64]) : rfn Try.prog model_table_bool_writable_z1_e 6 18446744073709551616 (Ev.get model_table_bool_writable_z1_h) 114 model_table_bool_writable_z1_s J x = model_table_bool_writable_z1_m0 x.1 x.2.1 x.2.2.1 := by kernel_rfl
theorem model_table_bool_writable_z1_t (x : As [.pr (.int .i64) LAT8, .int .i64, .int .i64]) : evT Try.prog model_table_bool_writable_z1_e 6 18446744073709551616 (Ev.get model_table_bool_writable_z1_h) 114 model_table_bool_writable_z1_s x = model_table_bool_writable_z1 x := by
  rw [rfn_eq, model_table_bool_writable_z1_c0]
  rfl
theorem model_table_bool_writable_z1_ok : CtOk Try.prog (fun _ => True) 114 ⟨model_table_bool_writable_z1_s, model_table_bool_writable_z1⟩ := ct_of_ev env_nil model_table_bool_writable_z1_t
/-! model_meet -/
@[reducible] def model_meet_s : Sh := ⟨[.d (.pr (.int .i64) LAT8), .d (.int .i64), .d (.int .i64)], [], [.pr (.int .i64) LAT8, .int .i64, .int .i64], [.d (.int .i64), .d (.int .i64)], [], 0, [.int .i64, .int .i64]⟩
def model_meet_e : Env := (cts [])
def model_meet_h : List (Nat × Hint) := [(15, ⟨[], [1, 3, 8]⟩), (30, ⟨[], [1, 2, 3, 8, 32]⟩), (6, ⟨[], [1, 2, 3, 17, 25, 26, 27, 28, 29, 30, 31]⟩)]
def model_meet_k1 (at' : Int) (endV : Int) (t17 : Bool) (x : Int × Int × Bool × Bool × Bool) : St := { fr := [(1, .d (.int .i64) at'), (2, .d (.int .i64) endV), (3, .pb 0 0), (17, .d .bool t17)], nt := 45, up := [], own := [(0, .box 70 [.d (.int .i64) x.1, .d (.int .i64) x.2.1, .d .bool x.2.2.1, .d .bool x.2.2.2.1, .d .bool x.2.2.2.2])], nx := 1, log := [], ln := 0 }
def model_meet_k2 (at' : Int) (endV : Int) (to' : Int) (t32 : Bool) (x : Int × Int × Bool × Bool × Bool) : St := { fr := [(1, .d (.int .i64) at'), (2, .d (.int .i64) endV), (3, .pb 0 0), (8, .d (.int .i64) to'), (32, .d .bool t32)], nt := 45, up := [], own := [(0, .box 70 [.d (.int .i64) x.1, .d (.int .i64) x.2.1, .d .bool x.2.2.1, .d .bool x.2.2.2.1, .d .bool x.2.2.2.2])], nx := 1, log := [], ln := 0 }
def model_meet_k3 (at' : Int) (to' : Int) (x : Int × Int × Bool × Bool × Bool) : St := { fr := [(1, .d (.int .i64) at'), (3, .pb 0 0), (8, .d (.int .i64) to')], nt := 45, up := [], own := [(0, .box 70 [.d (.int .i64) x.1, .d (.int .i64) x.2.1, .d .bool x.2.2.1, .d .bool x.2.2.2.1, .d .bool x.2.2.2.2])], nx := 1, log := [], ln := 0 }
def model_meet_m1 (j2 : Int → Int → Int → Bool → Int × Int × Bool × Bool × Bool → Option (As [.int .i64, .int .i64])) (at' : Int) (endV : Int) (t17 : Bool) (x : Int × Int × Bool × Bool × Bool) : Option (As [.int .i64, .int .i64]) :=
  if t17 = true then some (at', at', ()) else if lt x.1 0 = true then j2 at' endV endV true x else j2 at' endV endV (lt x.2.1 (Sx.sub .i64 endV x.1)) x
def model_meet_m2 (j3 : Int → Int → Int × Int × Bool × Bool × Bool → Option (As [.int .i64, .int .i64])) (at' : Int) (endV : Int) (to' : Int) (t32 : Bool) (x : Int × Int × Bool × Bool × Bool) : Option (As [.int .i64, .int .i64]) :=
  if t32 = true then j3 at' (if lt (add .i64 x.1 x.2.1) endV = true then add .i64 x.1 x.2.1 else endV) x else j3 at' to' x
def model_meet_m3 (at' : Int) (to' : Int) (x : Int × Int × Bool × Bool × Bool) : Option (As [.int .i64, .int .i64]) :=
  some (if gt x.1 at' = true then x.1 else at', to', ())
def model_meet_m0 (j1 : Int → Int → Bool → Int × Int × Bool × Bool × Bool → Option (As [.int .i64, .int .i64])) (x : Int × Int × Bool × Bool × Bool) (at' : Int) (endV : Int) : Option (As [.int .i64, .int .i64]) :=
  if lt x.2.1 1 = true then j1 at' endV true x else j1 at' endV (ge x.1 endV) x
def model_meet_K3 (at' : Int) (to' : Int) (x : Int × Int × Bool × Bool × Bool) : Option (As [.int .i64, .int .i64]) := model_meet_m3 at' to' x
def model_meet_K2 (at' : Int) (endV : Int) (to' : Int) (t32 : Bool) (x : Int × Int × Bool × Bool × Bool) : Option (As [.int .i64, .int .i64]) := model_meet_m2 (model_meet_K3) at' endV to' t32 x
def model_meet_K1 (at' : Int) (endV : Int) (t17 : Bool) (x : Int × Int × Bool × Bool × Bool) : Option (As [.int .i64, .int .i64]) := model_meet_m1 (model_meet_K2) at' endV t17 x
def model_meet (x : As [.pr (.int .i64) LAT8, .int .i64, .int .i64]) : Option (As [.int .i64, .int .i64]) := model_meet_m0 model_meet_K1 x.1 x.2.1 x.2.2.1
theorem model_meet_c3 (J : Orc (As [.int .i64, .int .i64])) (at' : Int) (to' : Int) (x : Int × Int × Bool × Bool × Bool) : pfn Try.prog model_meet_e 6 18446744073709551616 (Ev.get model_meet_h) 115 model_meet_s J 15 [] (model_meet_k3 at' to' x) = model_meet_m3 at' to' x := by kernel_rfl
theorem model_meet_c2 (J : Orc (As [.int .i64, .int .i64])) (at' : Int) (endV : Int) (to' : Int) (t32 : Bool) (x : Int × Int × Bool × Bool × Bool) : pfn Try.prog model_meet_e 6 18446744073709551616 (Ev.get model_meet_h) 115 model_meet_s J 30 [] (model_meet_k2 at' endV to' t32 x) = model_meet_m2 (fun at' to' x => J 15 [] (model_meet_k3 at' to' x)) at' endV to' t32 x := by kernel_rfl
theorem model_meet_c1 (J : Orc (As [.int .i64, .int .i64])) (at' : Int) (endV : Int) (t17 : Bool) (x : Int × Int × Bool × Bool × Bool) : pfn Try.prog model_meet_e 6 18446744073709551616 (Ev.get model_meet_h) 115 model_meet_s J 6 [] (model_meet_k1 at' endV t17 x) = model_meet_m1 (fun at' endV to' t32 x => J 30 [] (model_meet_k2 at' endV to' t32 x)) at' endV t17 x := by kernel_rfl
theorem model_meet_c0 (J : Orc (As [.int .i64, .int .i64])) (x : As [.pr (.int .i64) LAT8, .int .i64, .int .i64]) : rfn Try.prog model_meet_e 6 18446744073709551616 (Ev.get model_meet_h) 115 model_meet_s J x = model_meet_m0 (fun at' endV t17 x => J 6 [] (model_meet_k1 at' endV t17 x)) x.1 x.2.1 x.2.2.1 := by kernel_rfl
theorem model_meet_g3 (at' : Int) (to' : Int) (x : Int × Int × Bool × Bool × Bool) : jfn Try.prog model_meet_e 6 18446744073709551616 (Ev.get model_meet_h) 115 model_meet_s 15 [] (model_meet_k3 at' to' x) = model_meet_K3 at' to' x := by
  rw [pfn_eq (by decide)]
  rw [model_meet_c3]
  rfl
theorem model_meet_g2 (at' : Int) (endV : Int) (to' : Int) (t32 : Bool) (x : Int × Int × Bool × Bool × Bool) : jfn Try.prog model_meet_e 6 18446744073709551616 (Ev.get model_meet_h) 115 model_meet_s 30 [] (model_meet_k2 at' endV to' t32 x) = model_meet_K2 at' endV to' t32 x := by
  rw [pfn_eq (by decide)]
  have e3 : (fun at' to' x => (jfn Try.prog model_meet_e 6 18446744073709551616 (Ev.get model_meet_h) 115 model_meet_s) 15 [] (model_meet_k3 at' to' x)) = model_meet_K3 := funext fun at' => funext fun to' => funext fun x => model_meet_g3 at' to' x
  rw [model_meet_c2, e3]
  rfl
theorem model_meet_g1 (at' : Int) (endV : Int) (t17 : Bool) (x : Int × Int × Bool × Bool × Bool) : jfn Try.prog model_meet_e 6 18446744073709551616 (Ev.get model_meet_h) 115 model_meet_s 6 [] (model_meet_k1 at' endV t17 x) = model_meet_K1 at' endV t17 x := by
  rw [pfn_eq (by decide)]
  have e2 : (fun at' endV to' t32 x => (jfn Try.prog model_meet_e 6 18446744073709551616 (Ev.get model_meet_h) 115 model_meet_s) 30 [] (model_meet_k2 at' endV to' t32 x)) = model_meet_K2 := funext fun at' => funext fun endV => funext fun to' => funext fun t32 => funext fun x => model_meet_g2 at' endV to' t32 x
  rw [model_meet_c1, e2]
  rfl
theorem model_meet_t (x : As [.pr (.int .i64) LAT8, .int .i64, .int .i64]) : evT Try.prog model_meet_e 6 18446744073709551616 (Ev.get model_meet_h) 115 model_meet_s x = model_meet x := by
  have e1 : (fun at' endV t17 x => (jfn Try.prog model_meet_e 6 18446744073709551616 (Ev.get model_meet_h) 115 model_meet_s) 6 [] (model_meet_k1 at' endV t17 x)) = model_meet_K1 := funext fun at' => funext fun endV => funext fun t17 => funext fun x => model_meet_g1 at' endV t17 x
  rw [rfn_eq, model_meet_c0, e1]
  rfl
theorem model_meet_ok : CtOk Try.prog (fun _ => True) 115 ⟨model_meet_s, model_meet⟩ := ct_of_ev env_nil model_meet_t
/-! model_table_uint16_readable_z1 -/
@[reducible] def model_table_uint16_readable_z1_s : Sh := ⟨[.d (.pr (.int .i64) LAT8)], [], [.pr (.int .i64) LAT8], [.d (.bool)], [], 0, [.bool]⟩
def model_table_uint16_readable_z1_e : Env := (cts [])
def model_table_uint16_readable_z1_h : List (Nat × Hint) := []
def model_table_uint16_readable_z1_m0 (x : Int × Int × Bool × Bool × Bool) : Option (As [.bool]) :=
  some (x.2.2.1, ())
def model_table_uint16_readable_z1 (x : As [.pr (.int .i64) LAT8]) : Option (As [.bool]) := model_table_uint16_readable_z1_m0 x.1
theorem model_table_uint16_readable_z1_c0 (J : Orc (As [.bool])) (x : As [.pr (.int .i64) LAT8]) : rfn Try.prog model_table_uint16_readable_z1_e 6 18446744073709551616 (Ev.get model_table_uint16_readable_z1_h) 118 model_table_uint16_readable_z1_s J x = model_table_uint16_readable_z1_m0 x.1 := by kernel_rfl
theorem model_table_uint16_readable_z1_t (x : As [.pr (.int .i64) LAT8]) : evT Try.prog model_table_uint16_readable_z1_e 6 18446744073709551616 (Ev.get model_table_uint16_readable_z1_h) 118 model_table_uint16_readable_z1_s x = model_table_uint16_readable_z1 x := by
  rw [rfn_eq, model_table_uint16_readable_z1_c0]
  rfl
theorem model_table_uint16_readable_z1_ok : CtOk Try.prog (fun _ => True) 118 ⟨model_table_uint16_readable_z1_s, model_table_uint16_readable_z1⟩ := ct_of_ev env_nil model_table_uint16_readable_z1_t
end Go.Proofs.Lx

end
