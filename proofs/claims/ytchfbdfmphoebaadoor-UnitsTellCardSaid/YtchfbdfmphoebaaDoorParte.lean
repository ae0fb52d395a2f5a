/- Proved in the last of these 9 parts (this is part 5): UnitsTell is true for every input. Conditions: those of the given statement, and no others. -/
import Derived.Test.YtchfbdfmphoebaaDoorPartd
import Derived.Test.YtchfbdfmphoebaaDoorProg
set_option linter.unusedVariables false
set_option linter.unusedSimpArgs false
set_option linter.unusedSectionVars false
section
/- Contracts, made by a program. -/
open Go Go.Proofs Ev Sx
set_option maxRecDepth 100000
namespace Go.Proofs.Lx
abbrev LAT0 : Ty := (.pr .str (.pr (.int .i64) (.int .i64)))
/-! strings_Index -/
def strings_Index_m0 (s : List UInt8) (substr : List UInt8) : Option (As [.int .i64]) :=
  if eqi (Int.ofNat (List.length substr)) 0 = true then some (0, ()) else if eqs substr s = true then some (0, ()) else if eqi (Int.ofNat (List.length substr)) 1 = true then Option.bind (at? substr 0) fun (c : UInt8) => some (Go.Lib.indexByte s (UInt8.ofNat (Int.toNat (Int.ofNat (UInt8.toNat c)))), ()) else if ge (Int.ofNat (List.length substr)) (Int.ofNat (List.length s)) = true then some (-1, ()) else Option.none
def strings_Index (x : As [.str, .str]) : Option (As [.int .i64]) := strings_Index_m0 x.1 x.2.1
/-! strings_Contains -/
def strings_Contains_m0 (s : List UInt8) (substr : List UInt8) : Option (As [.bool]) :=
  Option.bind (strings_Index (s, substr, ())) fun (y : Int × Unit) => some (ge y.1 0, ())
def strings_Contains (x : As [.str, .str]) : Option (As [.bool]) := strings_Contains_m0 x.1 x.2.1
/-! istringslite_HasPrefix -/
@[reducible] def istringslite_HasPrefix_s : Sh := ⟨[.d (.str), .d (.str)], [], [.str, .str], [.d (.bool)], [], 0, [.bool]⟩
def istringslite_HasPrefix_e : Env := (cts [])
def istringslite_HasPrefix_h : List (Nat × Hint) := []
def istringslite_HasPrefix_m0 (s : List UInt8) (prefixV : List UInt8) : Option (As [.bool]) :=
  if ge (Int.ofNat (List.length s)) (Int.ofNat (List.length prefixV)) = true then Option.bind (cut s 0 (Int.ofNat (List.length prefixV))) fun (y : List UInt8) => some (eqs y prefixV, ()) else some (false, ())
def istringslite_HasPrefix (x : As [.str, .str]) : Option (As [.bool]) := istringslite_HasPrefix_m0 x.1 x.2.1
theorem istringslite_HasPrefix_c0 (J : Orc (As [.bool])) (x : As [.str, .str]) : rfn Tryd.prog istringslite_HasPrefix_e 6 18446744073709551616 (Ev.get istringslite_HasPrefix_h) 91 istringslite_HasPrefix_s J x = istringslite_HasPrefix_m0 x.1 x.2.1 := by kernel_rfl
theorem istringslite_HasPrefix_t (x : As [.str, .str]) : evT Tryd.prog istringslite_HasPrefix_e 6 18446744073709551616 (Ev.get istringslite_HasPrefix_h) 91 istringslite_HasPrefix_s x = istringslite_HasPrefix x := by
  rw [rfn_eq, istringslite_HasPrefix_c0]
  rfl
theorem istringslite_HasPrefix_ok : CtOk Tryd.prog I0 91 ⟨istringslite_HasPrefix_s, istringslite_HasPrefix⟩ := ct_of_ev env_nil istringslite_HasPrefix_t
/-! istringslite_CutPrefix -/
@[reducible] def istringslite_CutPrefix_s : Sh := ⟨[.d (.str), .d (.str)], [], [.str, .str], [.d (.str), .d (.bool)], [], 0, [.str, .bool]⟩
def istringslite_CutPrefix_e : Env := (cts [(91, (⟨istringslite_HasPrefix_s, istringslite_HasPrefix⟩ : Ct))])
def istringslite_CutPrefix_h : List (Nat × Hint) := []
def istringslite_CutPrefix_m0 (s : List UInt8) (prefixV : List UInt8) : Option (As [.str, .bool]) :=
  Option.bind (istringslite_HasPrefix (s, prefixV, ())) fun (y : Bool × Unit) => if (!y.1) = true then some (s, false, ()) else Option.bind (cut s (Int.ofNat (List.length prefixV)) (Int.ofNat (List.length s))) fun (y : List UInt8) => some (y, true, ())
def istringslite_CutPrefix (x : As [.str, .str]) : Option (As [.str, .bool]) := istringslite_CutPrefix_m0 x.1 x.2.1
theorem istringslite_CutPrefix_c0 (J : Orc (As [.str, .bool])) (x : As [.str, .str]) : rfn Tryd.prog istringslite_CutPrefix_e 6 18446744073709551616 (Ev.get istringslite_CutPrefix_h) 76 istringslite_CutPrefix_s J x = istringslite_CutPrefix_m0 x.1 x.2.1 := by kernel_rfl
theorem istringslite_CutPrefix_t (x : As [.str, .str]) : evT Tryd.prog istringslite_CutPrefix_e 6 18446744073709551616 (Ev.get istringslite_CutPrefix_h) 76 istringslite_CutPrefix_s x = istringslite_CutPrefix x := by
  rw [rfn_eq, istringslite_CutPrefix_c0]
  rfl
theorem istringslite_CutPrefix_ok : CtOk Tryd.prog I0 76 ⟨istringslite_CutPrefix_s, istringslite_CutPrefix⟩ := ct_of_ev (env_cons istringslite_HasPrefix_ok env_nil) istringslite_CutPrefix_t
/-! strings_CutPrefix -/
@[reducible] def strings_CutPrefix_s : Sh := ⟨[.d (.str), .d (.str)], [], [.str, .str], [.d (.str), .d (.bool)], [], 0, [.str, .bool]⟩
def strings_CutPrefix_e : Env := (cts [(76, (⟨istringslite_CutPrefix_s, istringslite_CutPrefix⟩ : Ct))])
def strings_CutPrefix_h : List (Nat × Hint) := []
def strings_CutPrefix_m0 (s : List UInt8) (prefixV : List UInt8) : Option (As [.str, .bool]) :=
  Option.bind (istringslite_CutPrefix (s, prefixV, ())) fun (y : List UInt8 × Bool × Unit) => some (y.1, y.2.1, ())
def strings_CutPrefix (x : As [.str, .str]) : Option (As [.str, .bool]) := strings_CutPrefix_m0 x.1 x.2.1
theorem strings_CutPrefix_c0 (J : Orc (As [.str, .bool])) (x : As [.str, .str]) : rfn Tryd.prog strings_CutPrefix_e 6 18446744073709551616 (Ev.get strings_CutPrefix_h) 40 strings_CutPrefix_s J x = strings_CutPrefix_m0 x.1 x.2.1 := by kernel_rfl
theorem strings_CutPrefix_t (x : As [.str, .str]) : evT Tryd.prog strings_CutPrefix_e 6 18446744073709551616 (Ev.get strings_CutPrefix_h) 40 strings_CutPrefix_s x = strings_CutPrefix x := by
  rw [rfn_eq, strings_CutPrefix_c0]
  rfl
theorem strings_CutPrefix_ok : CtOk Tryd.prog I0 40 ⟨strings_CutPrefix_s, strings_CutPrefix⟩ := ct_of_ev (env_cons istringslite_CutPrefix_ok env_nil) strings_CutPrefix_t
/-! units_allDigits -/
@[reducible] def units_allDigits_s : Sh := ⟨[.d (.str)], [], [.str], [.d (.bool)], [], 0, [.bool]⟩
def units_allDigits_e : Env := (cts [])
def units_allDigits_h : List (Nat × Hint) := [(3, ⟨[], [0]⟩), (26, ⟨[], [0, 5, 6, 14, 15, 16, 17]⟩), (1689, ⟨[], [0, 5, 6, 18]⟩)]
def units_allDigits_k1 (s : List UInt8) (t5 : Int) (t6 : Int) : St := { fr := [(0, .d .str s), (5, .d (.int .i64) t5), (6, .d (.int .i64) t6)], nt := 22, up := [], own := [], nx := 0, log := [], ln := 0 }
def units_allDigits_k2 (s : List UInt8) (t5 : Int) (t6 : Int) (t18 : Bool) : St := { fr := [(0, .d .str s), (5, .d (.int .i64) t5), (6, .d (.int .i64) t6), (18, .d .bool t18)], nt := 22, up := [], own := [], nx := 0, log := [], ln := 0 }
def units_allDigits_k3 (s : List UInt8) : St := { fr := [(0, .d .str s)], nt := 22, up := [], own := [], nx := 0, log := [], ln := 0 }
def units_allDigits_m1 (j2 : List UInt8 → Int → Int → Bool → Option (As [.bool])) (j3 : List UInt8 → Option (As [.bool])) (self1 : List UInt8 → Int → Int → Option (As [.bool])) (s : List UInt8) (t5 : Int) (t6 : Int) : Option (As [.bool]) :=
  if lt t6 t5 = true then Option.bind (at? s t6) fun (c : UInt8) => if lt (Int.ofNat (UInt8.toNat c)) 48 = true then j2 s t5 t6 true else Option.bind (at? s t6) fun (c : UInt8) => j2 s t5 t6 (gt (Int.ofNat (UInt8.toNat c)) 57) else j3 s
def units_allDigits_m2 (self1 : List UInt8 → Int → Int → Option (As [.bool])) (s : List UInt8) (t5 : Int) (t6 : Int) (t18 : Bool) : Option (As [.bool]) :=
  if t18 = true then some (false, ()) else self1 s t5 (add .i64 t6 1)
def units_allDigits_m3 (s : List UInt8) : Option (As [.bool]) :=
  some (nes s [], ())
def units_allDigits_m0 (j1 : List UInt8 → Int → Int → Option (As [.bool])) (s : List UInt8) : Option (As [.bool]) :=
  j1 s (Int.ofNat (List.length s)) 0
def units_allDigits_K2 (u1 : List UInt8 → Int → Int → Option (As [.bool])) (s : List UInt8) (t5 : Int) (t6 : Int) (t18 : Bool) : Option (As [.bool]) := units_allDigits_m2 u1 s t5 t6 t18
def units_allDigits_K3 (s : List UInt8) : Option (As [.bool]) := units_allDigits_m3 s
def units_allDigits_K1 (s : List UInt8) (t5 : Int) (t6 : Int) : Option (As [.bool]) :=
  loopF (fun (self : (List UInt8) × (Int) × (Int) → Option (As [.bool])) (s : (List UInt8) × (Int) × (Int)) => units_allDigits_m1 (units_allDigits_K2 (fun s t5 t6 => self (s, t5, t6))) (units_allDigits_K3) (fun s t5 t6 => self (s, t5, t6)) s.1 s.2.1 s.2.2) 18446744073709551616 (s, t5, t6)
def units_allDigits (x : As [.str]) : Option (As [.bool]) := units_allDigits_m0 units_allDigits_K1 x.1
theorem units_allDigits_c2 (J : Orc (As [.bool])) (w1 : St → Option (As [.bool])) (s : List UInt8) (t5 : Int) (t6 : Int) (t18 : Bool) : pfn Tryd.prog units_allDigits_e 6 18446744073709551616 (Ev.get units_allDigits_h) 48 units_allDigits_s J 1689 [w1] (units_allDigits_k2 s t5 t6 t18) = units_allDigits_m2 (fun s t5 t6 => w1 (units_allDigits_k1 s t5 t6)) s t5 t6 t18 := by kernel_rfl
theorem units_allDigits_c3 (J : Orc (As [.bool])) (s : List UInt8) : pfn Tryd.prog units_allDigits_e 6 18446744073709551616 (Ev.get units_allDigits_h) 48 units_allDigits_s J 3 [] (units_allDigits_k3 s) = units_allDigits_m3 s := by kernel_rfl
theorem units_allDigits_c1 (J : Orc (As [.bool])) (w1 : St → Option (As [.bool])) (s : List UInt8) (t5 : Int) (t6 : Int) : pfn Tryd.prog units_allDigits_e 6 18446744073709551616 (Ev.get units_allDigits_h) 48 units_allDigits_s J 26 [w1] (units_allDigits_k1 s t5 t6) = units_allDigits_m1 (fun s t5 t6 t18 => J 1689 [w1] (units_allDigits_k2 s t5 t6 t18)) (fun s => J 3 [] (units_allDigits_k3 s)) (fun s t5 t6 => w1 (units_allDigits_k1 s t5 t6)) s t5 t6 := by kernel_rfl
theorem units_allDigits_c0 (J : Orc (As [.bool])) (x : As [.str]) : rfn Tryd.prog units_allDigits_e 6 18446744073709551616 (Ev.get units_allDigits_h) 48 units_allDigits_s J x = units_allDigits_m0 (fun s t5 t6 => J 26 [] (units_allDigits_k1 s t5 t6)) x.1 := by kernel_rfl
theorem units_allDigits_g2 (w1 : St → Option (As [.bool])) (s : List UInt8) (t5 : Int) (t6 : Int) (t18 : Bool) : jfn Tryd.prog units_allDigits_e 6 18446744073709551616 (Ev.get units_allDigits_h) 48 units_allDigits_s 1689 [w1] (units_allDigits_k2 s t5 t6 t18) = units_allDigits_K2 (fun s t5 t6 => w1 (units_allDigits_k1 s t5 t6)) s t5 t6 t18 := by
  rw [pfn_eq (by decide)]
  rw [units_allDigits_c2]
  rfl
theorem units_allDigits_g3 (s : List UInt8) : jfn Tryd.prog units_allDigits_e 6 18446744073709551616 (Ev.get units_allDigits_h) 48 units_allDigits_s 3 [] (units_allDigits_k3 s) = units_allDigits_K3 s := by
  rw [pfn_eq (by decide)]
  rw [units_allDigits_c3]
  rfl
theorem units_allDigits_g1 (s : List UInt8) (t5 : Int) (t6 : Int) : jfn Tryd.prog units_allDigits_e 6 18446744073709551616 (Ev.get units_allDigits_h) 48 units_allDigits_s 26 [] (units_allDigits_k1 s t5 t6) = units_allDigits_K1 s t5 t6 := by
  rw [pfn_eq (by decide)]
  rw [pfn_loop (by kernel_rfl)]
  refine loopF_sim (σ := (List UInt8) × (Int) × (Int)) (mk := fun s => units_allDigits_k1 s.1 s.2.1 s.2.2) (fun w1 s => ?_) 18446744073709551616 (s, t5, t6)
  have e2 : (fun s t5 t6 t18 => (jfn Tryd.prog units_allDigits_e 6 18446744073709551616 (Ev.get units_allDigits_h) 48 units_allDigits_s) 1689 [w1] (units_allDigits_k2 s t5 t6 t18)) = units_allDigits_K2 (fun s t5 t6 => w1 (units_allDigits_k1 s t5 t6)) := funext fun s => funext fun t5 => funext fun t6 => funext fun t18 => units_allDigits_g2 w1 s t5 t6 t18
  have e3 : (fun s => (jfn Tryd.prog units_allDigits_e 6 18446744073709551616 (Ev.get units_allDigits_h) 48 units_allDigits_s) 3 [] (units_allDigits_k3 s)) = units_allDigits_K3 := funext fun s => units_allDigits_g3 s
  refine (units_allDigits_c1 _ w1 s.1 s.2.1 s.2.2).trans ?_
  rw [e2, e3]
theorem units_allDigits_t (x : As [.str]) : evT Tryd.prog units_allDigits_e 6 18446744073709551616 (Ev.get units_allDigits_h) 48 units_allDigits_s x = units_allDigits x := by
  have e1 : (fun s t5 t6 => (jfn Tryd.prog units_allDigits_e 6 18446744073709551616 (Ev.get units_allDigits_h) 48 units_allDigits_s) 26 [] (units_allDigits_k1 s t5 t6)) = units_allDigits_K1 := funext fun s => funext fun t5 => funext fun t6 => units_allDigits_g1 s t5 t6
  rw [rfn_eq, units_allDigits_c0, e1]
  rfl
theorem units_allDigits_ok : CtOk Tryd.prog I0 48 ⟨units_allDigits_s, units_allDigits⟩ := ct_of_ev env_nil units_allDigits_t
/-! strings_trimRightByte -/
@[reducible] def strings_trimRightByte_s : Sh := ⟨[.d (.str), .d (.int .u8)], [], [.str, .int .u8], [.d (.str)], [], 0, [.str]⟩
def strings_trimRightByte_e : Env := (cts [])
def strings_trimRightByte_h : List (Nat × Hint) := [(12, ⟨[], [0, 1, 9, 10, 11, 12, 13, 14, 15]⟩), (48, ⟨[], [0, 1, 16]⟩)]
def strings_trimRightByte_k1 (s : List UInt8) (c : Int) : St := { fr := [(0, .d .str s), (1, .d (.int .u8) c)], nt := 23, up := [], own := [], nx := 0, log := [], ln := 0 }
def strings_trimRightByte_k2 (s : List UInt8) (c : Int) (t16 : Bool) : St := { fr := [(0, .d .str s), (1, .d (.int .u8) c), (16, .d .bool t16)], nt := 23, up := [], own := [], nx := 0, log := [], ln := 0 }
def strings_trimRightByte_m1 (j2 : List UInt8 → Int → Bool → Option (As [.str])) (self1 : List UInt8 → Int → Option (As [.str])) (s : List UInt8) (c : Int) : Option (As [.str]) :=
  if gt (Int.ofNat (List.length s)) 0 = true then Option.bind (at? s (Sx.sub .i64 (Int.ofNat (List.length s)) 1)) fun (c_1 : UInt8) => j2 s c (eqi (Int.ofNat (UInt8.toNat c_1)) c) else j2 s c false
def strings_trimRightByte_m2 (self1 : List UInt8 → Int → Option (As [.str])) (s : List UInt8) (c : Int) (t16 : Bool) : Option (As [.str]) :=
  if t16 = true then Option.bind (cut s 0 (Sx.sub .i64 (Int.ofNat (List.length s)) 1)) fun (y : List UInt8) => self1 y c else some (s, ())
def strings_trimRightByte_m0 (j1 : List UInt8 → Int → Option (As [.str])) (s : List UInt8) (c : Int) : Option (As [.str]) :=
  j1 s c
def strings_trimRightByte_K2 (u1 : List UInt8 → Int → Option (As [.str])) (s : List UInt8) (c : Int) (t16 : Bool) : Option (As [.str]) := strings_trimRightByte_m2 u1 s c t16
def strings_trimRightByte_K1 (s : List UInt8) (c : Int) : Option (As [.str]) :=
  loopF (fun (self : (List UInt8) × (Int) → Option (As [.str])) (s : (List UInt8) × (Int)) => strings_trimRightByte_m1 (strings_trimRightByte_K2 (fun s c => self (s, c))) (fun s c => self (s, c)) s.1 s.2) 18446744073709551616 (s, c)
def strings_trimRightByte (x : As [.str, .int .u8]) : Option (As [.str]) := strings_trimRightByte_m0 strings_trimRightByte_K1 x.1 x.2.1
theorem strings_trimRightByte_c2 (J : Orc (As [.str])) (w1 : St → Option (As [.str])) (s : List UInt8) (c : Int) (t16 : Bool) : pfn Tryd.prog strings_trimRightByte_e 6 18446744073709551616 (Ev.get strings_trimRightByte_h) 67 strings_trimRightByte_s J 48 [w1] (strings_trimRightByte_k2 s c t16) = strings_trimRightByte_m2 (fun s c => w1 (strings_trimRightByte_k1 s c)) s c t16 := by kernel_rfl
theorem strings_trimRightByte_c1 (J : Orc (As [.str])) (w1 : St → Option (As [.str])) (s : List UInt8) (c : Int) : pfn Tryd.prog strings_trimRightByte_e 6 18446744073709551616 (Ev.get strings_trimRightByte_h) 67 strings_trimRightByte_s J 12 [w1] (strings_trimRightByte_k1 s c) = strings_trimRightByte_m1 (fun s c t16 => J 48 [w1] (strings_trimRightByte_k2 s c t16)) (fun s c => w1 (strings_trimRightByte_k1 s c)) s c := by kernel_rfl
theorem strings_trimRightByte_c0 (J : Orc (As [.str])) (x : As [.str, .int .u8]) : rfn Tryd.prog strings_trimRightByte_e 6 18446744073709551616 (Ev.get strings_trimRightByte_h) 67 strings_trimRightByte_s J x = strings_trimRightByte_m0 (fun s c => J 12 [] (strings_trimRightByte_k1 s c)) x.1 x.2.1 := by kernel_rfl
theorem strings_trimRightByte_g2 (w1 : St → Option (As [.str])) (s : List UInt8) (c : Int) (t16 : Bool) : jfn Tryd.prog strings_trimRightByte_e 6 18446744073709551616 (Ev.get strings_trimRightByte_h) 67 strings_trimRightByte_s 48 [w1] (strings_trimRightByte_k2 s c t16) = strings_trimRightByte_K2 (fun s c => w1 (strings_trimRightByte_k1 s c)) s c t16 := by
  rw [pfn_eq (by decide)]
  rw [strings_trimRightByte_c2]
  rfl
theorem strings_trimRightByte_g1 (s : List UInt8) (c : Int) : jfn Tryd.prog strings_trimRightByte_e 6 18446744073709551616 (Ev.get strings_trimRightByte_h) 67 strings_trimRightByte_s 12 [] (strings_trimRightByte_k1 s c) = strings_trimRightByte_K1 s c := by
  rw [pfn_eq (by decide)]
  rw [pfn_loop (by kernel_rfl)]
  refine loopF_sim (σ := (List UInt8) × (Int)) (mk := fun s => strings_trimRightByte_k1 s.1 s.2) (fun w1 s => ?_) 18446744073709551616 (s, c)
  have e2 : (fun s c t16 => (jfn Tryd.prog strings_trimRightByte_e 6 18446744073709551616 (Ev.get strings_trimRightByte_h) 67 strings_trimRightByte_s) 48 [w1] (strings_trimRightByte_k2 s c t16)) = strings_trimRightByte_K2 (fun s c => w1 (strings_trimRightByte_k1 s c)) := funext fun s => funext fun c => funext fun t16 => strings_trimRightByte_g2 w1 s c t16
  refine (strings_trimRightByte_c1 _ w1 s.1 s.2).trans ?_
  rw [e2]
theorem strings_trimRightByte_t (x : As [.str, .int .u8]) : evT Tryd.prog strings_trimRightByte_e 6 18446744073709551616 (Ev.get strings_trimRightByte_h) 67 strings_trimRightByte_s x = strings_trimRightByte x := by
  have e1 : (fun s c => (jfn Tryd.prog strings_trimRightByte_e 6 18446744073709551616 (Ev.get strings_trimRightByte_h) 67 strings_trimRightByte_s) 12 [] (strings_trimRightByte_k1 s c)) = strings_trimRightByte_K1 := funext fun s => funext fun c => strings_trimRightByte_g1 s c
  rw [rfn_eq, strings_trimRightByte_c0, e1]
  rfl
theorem strings_trimRightByte_ok : CtOk Tryd.prog I0 67 ⟨strings_trimRightByte_s, strings_trimRightByte⟩ := ct_of_ev env_nil strings_trimRightByte_t
/-! strings_makeASCIISet -/
@[reducible] def strings_makeASCIISet_s : Sh := ⟨[.d (.str)], [], [.str], [.d (.ar 256 .bool), .d (.bool)], [], 0, [.ar 256 .bool, .bool]⟩
def strings_makeASCIISet_e : Env := (cts [])
def strings_makeASCIISet_h : List (Nat × Hint) := [(3, ⟨[], [2]⟩), (26, ⟨[], [0, 2, 4]⟩)]
def strings_makeASCIISet_k1 (chars : List UInt8) (i : Int) (as' : List Bool) : St := { fr := [(0, .d .str chars), (2, .pb 0 0), (4, .d (.int .i64) i)], nt := 21, up := [], own := [(0, .row .bool 112 as')], nx := 1, log := [], ln := 0 }
def strings_makeASCIISet_k2 (as' : List Bool) : St := { fr := [(2, .pb 0 0)], nt := 21, up := [], own := [(0, .row .bool 112 as')], nx := 1, log := [], ln := 0 }
def strings_makeASCIISet_m1 (j2 : List Bool → Option (As [.ar 256 .bool, .bool])) (self1 : List UInt8 → Int → List Bool → Option (As [.ar 256 .bool, .bool])) (chars : List UInt8) (i : Int) (as' : List Bool) : Option (As [.ar 256 .bool, .bool]) :=
  if lt i (Int.ofNat (List.length chars)) = true then Option.bind (at? chars i) fun (c : UInt8) => if ge (Int.ofNat (UInt8.toNat c)) 128 = true then need (eqi (Int.ofNat (List.length as')) 256) (need (eqi (Int.ofNat (List.length as')) (Int.ofNat (List.length as'))) (need (eqi 256 (Int.ofNat (List.length as' * 1))) (need (eqi (Int.ofNat (List.length as')) 256) (need (eqi (Int.ofNat (List.length as')) 256) (some (as', false, ())))))) else need (lt (Int.ofNat (UInt8.toNat c)) 256) (Option.bind (at? as' (Int.ofNat (UInt8.toNat c))) fun (x : Bool) => Option.bind (at? as' (Int.ofNat (UInt8.toNat c))) fun (x : Bool) => self1 chars (add .i64 i 1) (List.set as' (Int.toNat (Int.ofNat (UInt8.toNat c))) true)) else j2 as'
def strings_makeASCIISet_m2 (as' : List Bool) : Option (As [.ar 256 .bool, .bool]) :=
  need (eqi (Int.ofNat (List.length as')) 256) (need (eqi (Int.ofNat (List.length as')) (Int.ofNat (List.length as'))) (need (eqi 256 (Int.ofNat (List.length as' * 1))) (need (eqi (Int.ofNat (List.length as')) 256) (need (eqi (Int.ofNat (List.length as')) 256) (some (as', true, ()))))))
def strings_makeASCIISet_m0 (j1 : List UInt8 → Int → List Bool → Option (As [.ar 256 .bool, .bool])) (chars : List UInt8) : Option (As [.ar 256 .bool, .bool]) :=
  j1 chars 0 (List.replicate 256 false)
def strings_makeASCIISet_K2 (as' : List Bool) : Option (As [.ar 256 .bool, .bool]) := strings_makeASCIISet_m2 as'
def strings_makeASCIISet_K1 (chars : List UInt8) (i : Int) (as' : List Bool) : Option (As [.ar 256 .bool, .bool]) :=
  loopF (fun (self : (List UInt8) × (Int) × (List Bool) → Option (As [.ar 256 .bool, .bool])) (s : (List UInt8) × (Int) × (List Bool)) => strings_makeASCIISet_m1 (strings_makeASCIISet_K2) (fun chars i as' => self (chars, i, as')) s.1 s.2.1 s.2.2) 18446744073709551616 (chars, i, as')
def strings_makeASCIISet (x : As [.str]) : Option (As [.ar 256 .bool, .bool]) := strings_makeASCIISet_m0 strings_makeASCIISet_K1 x.1
theorem strings_makeASCIISet_c2 (J : Orc (As [.ar 256 .bool, .bool])) (as' : List Bool) : pfn Tryd.prog strings_makeASCIISet_e 6 18446744073709551616 (Ev.get strings_makeASCIISet_h) 68 strings_makeASCIISet_s J 3 [] (strings_makeASCIISet_k2 as') = strings_makeASCIISet_m2 as' := by kernel_rfl
theorem strings_makeASCIISet_c1 (J : Orc (As [.ar 256 .bool, .bool])) (w1 : St → Option (As [.ar 256 .bool, .bool])) (chars : List UInt8) (i : Int) (as' : List Bool) : pfn Tryd.prog strings_makeASCIISet_e 6 18446744073709551616 (Ev.get strings_makeASCIISet_h) 68 strings_makeASCIISet_s J 26 [w1] (strings_makeASCIISet_k1 chars i as') = strings_makeASCIISet_m1 (fun as' => J 3 [] (strings_makeASCIISet_k2 as')) (fun chars i as' => w1 (strings_makeASCIISet_k1 chars i as')) chars i as' := by kernel_rfl
theorem strings_makeASCIISet_c0 (J : Orc (As [.ar 256 .bool, .bool])) (x : As [.str]) : rfn Tryd.prog strings_makeASCIISet_e 6 18446744073709551616 (Ev.get strings_makeASCIISet_h) 68 strings_makeASCIISet_s J x = strings_makeASCIISet_m0 (fun chars i as' => J 26 [] (strings_makeASCIISet_k1 chars i as')) x.1 := by kernel_rfl
theorem strings_makeASCIISet_g2 (as' : List Bool) : jfn Tryd.prog strings_makeASCIISet_e 6 18446744073709551616 (Ev.get strings_makeASCIISet_h) 68 strings_makeASCIISet_s 3 [] (strings_makeASCIISet_k2 as') = strings_makeASCIISet_K2 as' := by
  rw [pfn_eq (by decide)]
  rw [strings_makeASCIISet_c2]
  rfl
theorem strings_makeASCIISet_g1 (chars : List UInt8) (i : Int) (as' : List Bool) : jfn Tryd.prog strings_makeASCIISet_e 6 18446744073709551616 (Ev.get strings_makeASCIISet_h) 68 strings_makeASCIISet_s 26 [] (strings_makeASCIISet_k1 chars i as') = strings_makeASCIISet_K1 chars i as' := by
  rw [pfn_eq (by decide)]
  rw [pfn_loop (by kernel_rfl)]
  refine loopF_sim (σ := (List UInt8) × (Int) × (List Bool)) (mk := fun s => strings_makeASCIISet_k1 s.1 s.2.1 s.2.2) (fun w1 s => ?_) 18446744073709551616 (chars, i, as')
  have e2 : (fun as' => (jfn Tryd.prog strings_makeASCIISet_e 6 18446744073709551616 (Ev.get strings_makeASCIISet_h) 68 strings_makeASCIISet_s) 3 [] (strings_makeASCIISet_k2 as')) = strings_makeASCIISet_K2 := funext fun as' => strings_makeASCIISet_g2 as'
  refine (strings_makeASCIISet_c1 _ w1 s.1 s.2.1 s.2.2).trans ?_
  rw [e2]
theorem strings_makeASCIISet_t (x : As [.str]) : evT Tryd.prog strings_makeASCIISet_e 6 18446744073709551616 (Ev.get strings_makeASCIISet_h) 68 strings_makeASCIISet_s x = strings_makeASCIISet x := by
  have e1 : (fun chars i as' => (jfn Tryd.prog strings_makeASCIISet_e 6 18446744073709551616 (Ev.get strings_makeASCIISet_h) 68 strings_makeASCIISet_s) 26 [] (strings_makeASCIISet_k1 chars i as')) = strings_makeASCIISet_K1 := funext fun chars => funext fun i => funext fun as' => strings_makeASCIISet_g1 chars i as'
  rw [rfn_eq, strings_makeASCIISet_c0, e1]
  rfl
theorem strings_makeASCIISet_ok : CtOk Tryd.prog I0 68 ⟨strings_makeASCIISet_s, strings_makeASCIISet⟩ := ct_of_ev env_nil strings_makeASCIISet_t
/-! units_Parse -/
@[reducible] def units_Parse_s : Sh := ⟨[.d (.str)], [], [.str], [.d (.pr (.int .i64) (.int .u8)), .d (.bool)], [], 0, [.pr (.int .i64) (.int .u8), .bool]⟩
def units_Parse_e : Env := (cts [(40, (⟨strings_CutPrefix_s, strings_CutPrefix⟩ : Ct)), (48, (⟨units_allDigits_s, units_allDigits⟩ : Ct)), (67, (⟨strings_trimRightByte_s, strings_trimRightByte⟩ : Ct)), (68, (⟨strings_makeASCIISet_s, strings_makeASCIISet⟩ : Ct))])
def units_Parse_h : List (Nat × Hint) := [(255, ⟨[], [2, 5, 7, 9]⟩), (511, ⟨[], [2, 7, 9]⟩), (2042, ⟨[], [2, 5, 7, 9, 54, 55]⟩), (522854, ⟨[], [2, 5, 7, 9, 11, 54, 55, 59, 60]⟩), (62, ⟨[], [2, 5, 6, 7, 48]⟩), (30, ⟨[], [2, 5, 6, 7, 8, 36, 40, 41, 42, 43, 44, 45, 46, 47]⟩)]
def units_Parse_k1 (negative : Bool) (whole : List UInt8) (rest : List UInt8) (point : Bool) (t36 : Bool) (t2 : Int) (t2_2 : Int) : St := { fr := [(2, .pb 0 0), (5, .d .bool negative), (6, .d .str whole), (7, .d .str rest), (8, .d .bool point), (36, .d .bool t36)], nt := 84, up := [], own := [(0, .box 40 [.d (.int .i64) t2, .d (.int .u8) t2_2])], nx := 1, log := [], ln := 0 }
def units_Parse_k2 (negative : Bool) (whole : List UInt8) (rest : List UInt8) (t48 : Bool) (t2 : Int) (t2_2 : Int) : St := { fr := [(2, .pb 0 0), (5, .d .bool negative), (6, .d .str whole), (7, .d .str rest), (48, .d .bool t48)], nt := 84, up := [], own := [(0, .box 40 [.d (.int .i64) t2, .d (.int .u8) t2_2])], nx := 1, log := [], ln := 0 }
def units_Parse_k3 (negative : Bool) (rest : List UInt8) (n : Int) (t54 : List UInt8) (t54_2 : List UInt8) (t55 : Int) (t2 : Int) (t2_2 : Int) : St := { fr := [(2, .pb 0 0), (5, .d .bool negative), (7, .d .str rest), (9, .d (.int .i64) n), (54, .agg [.d .str t54, .d .str t54_2]), (55, .d (.int .i64) t55)], nt := 84, up := [], own := [(0, .box 40 [.d (.int .i64) t2, .d (.int .u8) t2_2])], nx := 1, log := [], ln := 0 }
def units_Parse_k4 (negative : Bool) (rest : List UInt8) (n : Int) (part : List UInt8) (t54 : List UInt8) (t54_2 : List UInt8) (t55 : Int) (t59 : Int) (t60 : Int) (t2 : Int) (t2_2 : Int) : St := { fr := [(2, .pb 0 0), (5, .d .bool negative), (7, .d .str rest), (9, .d (.int .i64) n), (11, .d .str part), (54, .agg [.d .str t54, .d .str t54_2]), (55, .d (.int .i64) t55), (59, .d (.int .i64) t59), (60, .d (.int .i64) t60)], nt := 84, up := [], own := [(0, .box 40 [.d (.int .i64) t2, .d (.int .u8) t2_2])], nx := 1, log := [], ln := 0 }
def units_Parse_k5 (negative : Bool) (rest : List UInt8) (n : Int) (t2 : Int) (t2_2 : Int) : St := { fr := [(2, .pb 0 0), (5, .d .bool negative), (7, .d .str rest), (9, .d (.int .i64) n)], nt := 84, up := [], own := [(0, .box 40 [.d (.int .i64) t2, .d (.int .u8) t2_2])], nx := 1, log := [], ln := 0 }
def units_Parse_k6 (rest : List UInt8) (n : Int) (t2 : Int) (t2_2 : Int) : St := { fr := [(2, .pb 0 0), (7, .d .str rest), (9, .d (.int .i64) n)], nt := 84, up := [], own := [(0, .box 40 [.d (.int .i64) t2, .d (.int .u8) t2_2])], nx := 1, log := [], ln := 0 }
def units_Parse_m1 (j2 : Bool → List UInt8 → List UInt8 → Bool → Int → Int → Option (As [.pr (.int .i64) (.int .u8), .bool])) (negative : Bool) (whole : List UInt8) (rest : List UInt8) (point : Bool) (t36 : Bool) (t2 : Int) (t2_2 : Int) : Option (As [.pr (.int .i64) (.int .u8), .bool]) :=
  if t36 = true then some ((0, 0), false, ()) else if point = true then Option.bind (units_allDigits (rest, ())) fun (y : Bool × Unit) => if (!y.1) = true then j2 negative whole rest true t2 t2_2 else j2 negative whole rest (gt (Int.ofNat (List.length rest)) 6) t2 t2_2 else j2 negative whole rest false t2 t2_2
def units_Parse_m2 (j3 : Bool → List UInt8 → Int → List UInt8 → List UInt8 → Int → Int → Int → Option (As [.pr (.int .i64) (.int .u8), .bool])) (negative : Bool) (whole : List UInt8) (rest : List UInt8) (t48 : Bool) (t2 : Int) (t2_2 : Int) : Option (As [.pr (.int .i64) (.int .u8), .bool]) :=
  if t48 = true then some ((0, 0), false, ()) else if eqs rest [] = true then j3 negative rest 0 whole rest 0 t2 t2_2 else Option.bind (strings_trimRightByte (rest, 48, ())) fun (y : List UInt8 × Unit) => j3 negative y.1 0 whole y.1 0 t2 t2_2
def units_Parse_m3 (j4 : Bool → List UInt8 → Int → List UInt8 → List UInt8 → List UInt8 → Int → Int → Int → Int → Int → Option (As [.pr (.int .i64) (.int .u8), .bool])) (j5 : Bool → List UInt8 → Int → Int → Int → Option (As [.pr (.int .i64) (.int .u8), .bool])) (self3 : Bool → List UInt8 → Int → List UInt8 → List UInt8 → Int → Int → Int → Option (As [.pr (.int .i64) (.int .u8), .bool])) (negative : Bool) (rest : List UInt8) (n : Int) (t54 : List UInt8) (t54_2 : List UInt8) (t55 : Int) (t2 : Int) (t2_2 : Int) : Option (As [.pr (.int .i64) (.int .u8), .bool]) :=
  if lt t55 2 = true then if eqi t55 1 = true then j4 negative rest n t54_2 t54 t54_2 t55 (Int.ofNat (List.length t54_2)) 0 t2 t2_2 else if eqi t55 0 = true then j4 negative rest n t54 t54 t54_2 t55 (Int.ofNat (List.length t54)) 0 t2 t2_2 else Option.none else j5 negative rest n t2 t2_2
def units_Parse_m4 (self3 : Bool → List UInt8 → Int → List UInt8 → List UInt8 → Int → Int → Int → Option (As [.pr (.int .i64) (.int .u8), .bool])) (self4 : Bool → List UInt8 → Int → List UInt8 → List UInt8 → List UInt8 → Int → Int → Int → Int → Int → Option (As [.pr (.int .i64) (.int .u8), .bool])) (negative : Bool) (rest : List UInt8) (n : Int) (part : List UInt8) (t54 : List UInt8) (t54_2 : List UInt8) (t55 : Int) (t59 : Int) (t60 : Int) (t2 : Int) (t2_2 : Int) : Option (As [.pr (.int .i64) (.int .u8), .bool]) :=
  if lt t60 t59 = true then Option.bind (at? part t60) fun (c : UInt8) => if gt (add .i64 (mul .i64 10 n) (cvt .i64 (Sx.sub .u8 (Int.ofNat (UInt8.toNat c)) 48))) 1000000000000 = true then some ((0, 0), false, ()) else self4 negative rest (add .i64 (mul .i64 10 n) (cvt .i64 (Sx.sub .u8 (Int.ofNat (UInt8.toNat c)) 48))) part t54 t54_2 t55 t59 (add .i64 t60 1) t2 t2_2 else self3 negative rest n t54 t54_2 (add .i64 t55 1) t2 t2_2
def units_Parse_m5 (j6 : List UInt8 → Int → Int → Int → Option (As [.pr (.int .i64) (.int .u8), .bool])) (negative : Bool) (rest : List UInt8) (n : Int) (t2 : Int) (t2_2 : Int) : Option (As [.pr (.int .i64) (.int .u8), .bool]) :=
  if negative = true then j6 rest (Sx.neg .i64 n) t2 t2_2 else j6 rest n t2 t2_2
def units_Parse_m6 (rest : List UInt8) (n : Int) (t2 : Int) (t2_2 : Int) : Option (As [.pr (.int .i64) (.int .u8), .bool]) :=
  some ((n, cvt .u8 (Int.ofNat (List.length rest))), true, ())
def units_Parse_m0 (j1 : Bool → List UInt8 → List UInt8 → Bool → Bool → Int → Int → Option (As [.pr (.int .i64) (.int .u8), .bool])) (s : List UInt8) : Option (As [.pr (.int .i64) (.int .u8), .bool]) :=
  Option.bind (strings_CutPrefix (s, [45], ())) fun (y : List UInt8 × Bool × Unit) => if eqs [46] y.1 = true then Option.bind (cut y.1 1 (Int.ofNat (List.length y.1))) fun (y_1 : List UInt8) => Option.bind (units_allDigits ([], ())) fun (y_2 : Bool × Unit) => if (!y_2.1) = true then j1 y.2.1 [] y_1 true true 0 0 else j1 y.2.1 [] y_1 true false 0 0 else if ge (Go.Lib.indexByte y.1 46) 0 = true then Option.bind (cut y.1 0 (Go.Lib.indexByte y.1 46)) fun (y_1 : List UInt8) => Option.bind (cut y.1 (add .i64 (Go.Lib.indexByte y.1 46) 1) (Int.ofNat (List.length y.1))) fun (y_2 : List UInt8) => Option.bind (units_allDigits (y_1, ())) fun (y_3 : Bool × Unit) => if (!y_3.1) = true then j1 y.2.1 y_1 y_2 true true 0 0 else if gt (Int.ofNat (List.length y_1)) 1 = true then Option.bind (at? y_1 0) fun (c : UInt8) => j1 y.2.1 y_1 y_2 true (eqi (Int.ofNat (UInt8.toNat c)) 48) 0 0 else j1 y.2.1 y_1 y_2 true false 0 0 else Option.bind (units_allDigits (y.1, ())) fun (y_1 : Bool × Unit) => if (!y_1.1) = true then j1 y.2.1 y.1 [] false true 0 0 else if gt (Int.ofNat (List.length y.1)) 1 = true then Option.bind (at? y.1 0) fun (c : UInt8) => j1 y.2.1 y.1 [] false (eqi (Int.ofNat (UInt8.toNat c)) 48) 0 0 else j1 y.2.1 y.1 [] false false 0 0
def units_Parse_K4 (u3 : Bool → List UInt8 → Int → List UInt8 → List UInt8 → Int → Int → Int → Option (As [.pr (.int .i64) (.int .u8), .bool])) (negative : Bool) (rest : List UInt8) (n : Int) (part : List UInt8) (t54 : List UInt8) (t54_2 : List UInt8) (t55 : Int) (t59 : Int) (t60 : Int) (t2 : Int) (t2_2 : Int) : Option (As [.pr (.int .i64) (.int .u8), .bool]) :=
  loopF (fun (self : (Bool) × (List UInt8) × (Int) × (List UInt8) × (List UInt8) × (List UInt8) × (Int) × (Int) × (Int) × (Int) × (Int) → Option (As [.pr (.int .i64) (.int .u8), .bool])) (s : (Bool) × (List UInt8) × (Int) × (List UInt8) × (List UInt8) × (List UInt8) × (Int) × (Int) × (Int) × (Int) × (Int)) => units_Parse_m4 u3 (fun negative rest n part t54 t54_2 t55 t59 t60 t2 t2_2 => self (negative, rest, n, part, t54, t54_2, t55, t59, t60, t2, t2_2)) s.1 s.2.1 s.2.2.1 s.2.2.2.1 s.2.2.2.2.1 s.2.2.2.2.2.1 s.2.2.2.2.2.2.1 s.2.2.2.2.2.2.2.1 s.2.2.2.2.2.2.2.2.1 s.2.2.2.2.2.2.2.2.2.1 s.2.2.2.2.2.2.2.2.2.2) 18446744073709551616 (negative, rest, n, part, t54, t54_2, t55, t59, t60, t2, t2_2)
def units_Parse_K6 (rest : List UInt8) (n : Int) (t2 : Int) (t2_2 : Int) : Option (As [.pr (.int .i64) (.int .u8), .bool]) := units_Parse_m6 rest n t2 t2_2
def units_Parse_K5 (negative : Bool) (rest : List UInt8) (n : Int) (t2 : Int) (t2_2 : Int) : Option (As [.pr (.int .i64) (.int .u8), .bool]) := units_Parse_m5 (units_Parse_K6) negative rest n t2 t2_2
def units_Parse_K3 (negative : Bool) (rest : List UInt8) (n : Int) (t54 : List UInt8) (t54_2 : List UInt8) (t55 : Int) (t2 : Int) (t2_2 : Int) : Option (As [.pr (.int .i64) (.int .u8), .bool]) :=
  loopF (fun (self : (Bool) × (List UInt8) × (Int) × (List UInt8) × (List UInt8) × (Int) × (Int) × (Int) → Option (As [.pr (.int .i64) (.int .u8), .bool])) (s : (Bool) × (List UInt8) × (Int) × (List UInt8) × (List UInt8) × (Int) × (Int) × (Int)) => units_Parse_m3 (units_Parse_K4 (fun negative rest n t54 t54_2 t55 t2 t2_2 => self (negative, rest, n, t54, t54_2, t55, t2, t2_2))) (units_Parse_K5) (fun negative rest n t54 t54_2 t55 t2 t2_2 => self (negative, rest, n, t54, t54_2, t55, t2, t2_2)) s.1 s.2.1 s.2.2.1 s.2.2.2.1 s.2.2.2.2.1 s.2.2.2.2.2.1 s.2.2.2.2.2.2.1 s.2.2.2.2.2.2.2) 18446744073709551616 (negative, rest, n, t54, t54_2, t55, t2, t2_2)
def units_Parse_K2 (negative : Bool) (whole : List UInt8) (rest : List UInt8) (t48 : Bool) (t2 : Int) (t2_2 : Int) : Option (As [.pr (.int .i64) (.int .u8), .bool]) := units_Parse_m2 (units_Parse_K3) negative whole rest t48 t2 t2_2
def units_Parse_K1 (negative : Bool) (whole : List UInt8) (rest : List UInt8) (point : Bool) (t36 : Bool) (t2 : Int) (t2_2 : Int) : Option (As [.pr (.int .i64) (.int .u8), .bool]) := units_Parse_m1 (units_Parse_K2) negative whole rest point t36 t2 t2_2
def units_Parse (x : As [.str]) : Option (As [.pr (.int .i64) (.int .u8), .bool]) := units_Parse_m0 units_Parse_K1 x.1
theorem units_Parse_c4 (J : Orc (As [.pr (.int .i64) (.int .u8), .bool])) (w3 : St → Option (As [.pr (.int .i64) (.int .u8), .bool])) (w4 : St → Option (As [.pr (.int .i64) (.int .u8), .bool])) (negative : Bool) (rest : List UInt8) (n : Int) (part : List UInt8) (t54 : List UInt8) (t54_2 : List UInt8) (t55 : Int) (t59 : Int) (t60 : Int) (t2 : Int) (t2_2 : Int) : pfn Tryd.prog units_Parse_e 6 18446744073709551616 (Ev.get units_Parse_h) 14 units_Parse_s J 522854 [w3, w4] (units_Parse_k4 negative rest n part t54 t54_2 t55 t59 t60 t2 t2_2) = units_Parse_m4 (fun negative rest n t54 t54_2 t55 t2 t2_2 => w3 (units_Parse_k3 negative rest n t54 t54_2 t55 t2 t2_2)) (fun negative rest n part t54 t54_2 t55 t59 t60 t2 t2_2 => w4 (units_Parse_k4 negative rest n part t54 t54_2 t55 t59 t60 t2 t2_2)) negative rest n part t54 t54_2 t55 t59 t60 t2 t2_2 := by kernel_rfl
theorem units_Parse_c6 (J : Orc (As [.pr (.int .i64) (.int .u8), .bool])) (rest : List UInt8) (n : Int) (t2 : Int) (t2_2 : Int) : pfn Tryd.prog units_Parse_e 6 18446744073709551616 (Ev.get units_Parse_h) 14 units_Parse_s J 511 [] (units_Parse_k6 rest n t2 t2_2) = units_Parse_m6 rest n t2 t2_2 := by kernel_rfl
theorem units_Parse_c5 (J : Orc (As [.pr (.int .i64) (.int .u8), .bool])) (negative : Bool) (rest : List UInt8) (n : Int) (t2 : Int) (t2_2 : Int) : pfn Tryd.prog units_Parse_e 6 18446744073709551616 (Ev.get units_Parse_h) 14 units_Parse_s J 255 [] (units_Parse_k5 negative rest n t2 t2_2) = units_Parse_m5 (fun rest n t2 t2_2 => J 511 [] (units_Parse_k6 rest n t2 t2_2)) negative rest n t2 t2_2 := by kernel_rfl
theorem units_Parse_c3 (J : Orc (As [.pr (.int .i64) (.int .u8), .bool])) (w3 : St → Option (As [.pr (.int .i64) (.int .u8), .bool])) (negative : Bool) (rest : List UInt8) (n : Int) (t54 : List UInt8) (t54_2 : List UInt8) (t55 : Int) (t2 : Int) (t2_2 : Int) : pfn Tryd.prog units_Parse_e 6 18446744073709551616 (Ev.get units_Parse_h) 14 units_Parse_s J 2042 [w3] (units_Parse_k3 negative rest n t54 t54_2 t55 t2 t2_2) = units_Parse_m3 (fun negative rest n part t54 t54_2 t55 t59 t60 t2 t2_2 => J 522854 [w3] (units_Parse_k4 negative rest n part t54 t54_2 t55 t59 t60 t2 t2_2)) (fun negative rest n t2 t2_2 => J 255 [] (units_Parse_k5 negative rest n t2 t2_2)) (fun negative rest n t54 t54_2 t55 t2 t2_2 => w3 (units_Parse_k3 negative rest n t54 t54_2 t55 t2 t2_2)) negative rest n t54 t54_2 t55 t2 t2_2 := by kernel_rfl
theorem units_Parse_c2 (J : Orc (As [.pr (.int .i64) (.int .u8), .bool])) (negative : Bool) (whole : List UInt8) (rest : List UInt8) (t48 : Bool) (t2 : Int) (t2_2 : Int) : pfn Tryd.prog units_Parse_e 6 18446744073709551616 (Ev.get units_Parse_h) 14 units_Parse_s J 62 [] (units_Parse_k2 negative whole rest t48 t2 t2_2) = units_Parse_m2 (fun negative rest n t54 t54_2 t55 t2 t2_2 => J 2042 [] (units_Parse_k3 negative rest n t54 t54_2 t55 t2 t2_2)) negative whole rest t48 t2 t2_2 := by kernel_rfl
theorem units_Parse_c1 (J : Orc (As [.pr (.int .i64) (.int .u8), .bool])) (negative : Bool) (whole : List UInt8) (rest : List UInt8) (point : Bool) (t36 : Bool) (t2 : Int) (t2_2 : Int) : pfn Tryd.prog units_Parse_e 6 18446744073709551616 (Ev.get units_Parse_h) 14 units_Parse_s J 30 [] (units_Parse_k1 negative whole rest point t36 t2 t2_2) = units_Parse_m1 (fun negative whole rest t48 t2 t2_2 => J 62 [] (units_Parse_k2 negative whole rest t48 t2 t2_2)) negative whole rest point t36 t2 t2_2 := by kernel_rfl
theorem units_Parse_c0 (J : Orc (As [.pr (.int .i64) (.int .u8), .bool])) (x : As [.str]) : rfn Tryd.prog units_Parse_e 6 18446744073709551616 (Ev.get units_Parse_h) 14 units_Parse_s J x = units_Parse_m0 (fun negative whole rest point t36 t2 t2_2 => J 30 [] (units_Parse_k1 negative whole rest point t36 t2 t2_2)) x.1 := by kernel_rfl
theorem units_Parse_g4 (w3 : St → Option (As [.pr (.int .i64) (.int .u8), .bool])) (negative : Bool) (rest : List UInt8) (n : Int) (part : List UInt8) (t54 : List UInt8) (t54_2 : List UInt8) (t55 : Int) (t59 : Int) (t60 : Int) (t2 : Int) (t2_2 : Int) : jfn Tryd.prog units_Parse_e 6 18446744073709551616 (Ev.get units_Parse_h) 14 units_Parse_s 522854 [w3] (units_Parse_k4 negative rest n part t54 t54_2 t55 t59 t60 t2 t2_2) = units_Parse_K4 (fun negative rest n t54 t54_2 t55 t2 t2_2 => w3 (units_Parse_k3 negative rest n t54 t54_2 t55 t2 t2_2)) negative rest n part t54 t54_2 t55 t59 t60 t2 t2_2 := by
  rw [pfn_eq (by decide)]
  rw [pfn_loop (by kernel_rfl)]
  refine loopF_sim (σ := (Bool) × (List UInt8) × (Int) × (List UInt8) × (List UInt8) × (List UInt8) × (Int) × (Int) × (Int) × (Int) × (Int)) (mk := fun s => units_Parse_k4 s.1 s.2.1 s.2.2.1 s.2.2.2.1 s.2.2.2.2.1 s.2.2.2.2.2.1 s.2.2.2.2.2.2.1 s.2.2.2.2.2.2.2.1 s.2.2.2.2.2.2.2.2.1 s.2.2.2.2.2.2.2.2.2.1 s.2.2.2.2.2.2.2.2.2.2) (fun w4 s => ?_) 18446744073709551616 (negative, rest, n, part, t54, t54_2, t55, t59, t60, t2, t2_2)
  refine (units_Parse_c4 _ w3 w4 s.1 s.2.1 s.2.2.1 s.2.2.2.1 s.2.2.2.2.1 s.2.2.2.2.2.1 s.2.2.2.2.2.2.1 s.2.2.2.2.2.2.2.1 s.2.2.2.2.2.2.2.2.1 s.2.2.2.2.2.2.2.2.2.1 s.2.2.2.2.2.2.2.2.2.2).trans ?_
  rfl
theorem units_Parse_g6 (rest : List UInt8) (n : Int) (t2 : Int) (t2_2 : Int) : jfn Tryd.prog units_Parse_e 6 18446744073709551616 (Ev.get units_Parse_h) 14 units_Parse_s 511 [] (units_Parse_k6 rest n t2 t2_2) = units_Parse_K6 rest n t2 t2_2 := by
  rw [pfn_eq (by decide)]
  rw [units_Parse_c6]
  rfl
theorem units_Parse_g5 (negative : Bool) (rest : List UInt8) (n : Int) (t2 : Int) (t2_2 : Int) : jfn Tryd.prog units_Parse_e 6 18446744073709551616 (Ev.get units_Parse_h) 14 units_Parse_s 255 [] (units_Parse_k5 negative rest n t2 t2_2) = units_Parse_K5 negative rest n t2 t2_2 := by
  rw [pfn_eq (by decide)]
  have e6 : (fun rest n t2 t2_2 => (jfn Tryd.prog units_Parse_e 6 18446744073709551616 (Ev.get units_Parse_h) 14 units_Parse_s) 511 [] (units_Parse_k6 rest n t2 t2_2)) = units_Parse_K6 := funext fun rest => funext fun n => funext fun t2 => funext fun t2_2 => units_Parse_g6 rest n t2 t2_2
  rw [units_Parse_c5, e6]
  rfl
theorem units_Parse_g3 (negative : Bool) (rest : List UInt8) (n : Int) (t54 : List UInt8) (t54_2 : List UInt8) (t55 : Int) (t2 : Int) (t2_2 : Int) : jfn Tryd.prog units_Parse_e 6 18446744073709551616 (Ev.get units_Parse_h) 14 units_Parse_s 2042 [] (units_Parse_k3 negative rest n t54 t54_2 t55 t2 t2_2) = units_Parse_K3 negative rest n t54 t54_2 t55 t2 t2_2 := by
  rw [pfn_eq (by decide)]
  rw [pfn_loop (by kernel_rfl)]
  refine loopF_sim (σ := (Bool) × (List UInt8) × (Int) × (List UInt8) × (List UInt8) × (Int) × (Int) × (Int)) (mk := fun s => units_Parse_k3 s.1 s.2.1 s.2.2.1 s.2.2.2.1 s.2.2.2.2.1 s.2.2.2.2.2.1 s.2.2.2.2.2.2.1 s.2.2.2.2.2.2.2) (fun w3 s => ?_) 18446744073709551616 (negative, rest, n, t54, t54_2, t55, t2, t2_2)
  have e4 : (fun negative rest n part t54 t54_2 t55 t59 t60 t2 t2_2 => (jfn Tryd.prog units_Parse_e 6 18446744073709551616 (Ev.get units_Parse_h) 14 units_Parse_s) 522854 [w3] (units_Parse_k4 negative rest n part t54 t54_2 t55 t59 t60 t2 t2_2)) = units_Parse_K4 (fun negative rest n t54 t54_2 t55 t2 t2_2 => w3 (units_Parse_k3 negative rest n t54 t54_2 t55 t2 t2_2)) := funext fun negative => funext fun rest => funext fun n => funext fun part => funext fun t54 => funext fun t54_2 => funext fun t55 => funext fun t59 => funext fun t60 => funext fun t2 => funext fun t2_2 => units_Parse_g4 w3 negative rest n part t54 t54_2 t55 t59 t60 t2 t2_2
  have e5 : (fun negative rest n t2 t2_2 => (jfn Tryd.prog units_Parse_e 6 18446744073709551616 (Ev.get units_Parse_h) 14 units_Parse_s) 255 [] (units_Parse_k5 negative rest n t2 t2_2)) = units_Parse_K5 := funext fun negative => funext fun rest => funext fun n => funext fun t2 => funext fun t2_2 => units_Parse_g5 negative rest n t2 t2_2
  refine (units_Parse_c3 _ w3 s.1 s.2.1 s.2.2.1 s.2.2.2.1 s.2.2.2.2.1 s.2.2.2.2.2.1 s.2.2.2.2.2.2.1 s.2.2.2.2.2.2.2).trans ?_
  rw [e4, e5]
theorem units_Parse_g2 (negative : Bool) (whole : List UInt8) (rest : List UInt8) (t48 : Bool) (t2 : Int) (t2_2 : Int) : jfn Tryd.prog units_Parse_e 6 18446744073709551616 (Ev.get units_Parse_h) 14 units_Parse_s 62 [] (units_Parse_k2 negative whole rest t48 t2 t2_2) = units_Parse_K2 negative whole rest t48 t2 t2_2 := by
  rw [pfn_eq (by decide)]
  have e3 : (fun negative rest n t54 t54_2 t55 t2 t2_2 => (jfn Tryd.prog units_Parse_e 6 18446744073709551616 (Ev.get units_Parse_h) 14 units_Parse_s) 2042 [] (units_Parse_k3 negative rest n t54 t54_2 t55 t2 t2_2)) = units_Parse_K3 := funext fun negative => funext fun rest => funext fun n => funext fun t54 => funext fun t54_2 => funext fun t55 => funext fun t2 => funext fun t2_2 => units_Parse_g3 negative rest n t54 t54_2 t55 t2 t2_2
  rw [units_Parse_c2, e3]
  rfl
theorem units_Parse_g1 (negative : Bool) (whole : List UInt8) (rest : List UInt8) (point : Bool) (t36 : Bool) (t2 : Int) (t2_2 : Int) : jfn Tryd.prog units_Parse_e 6 18446744073709551616 (Ev.get units_Parse_h) 14 units_Parse_s 30 [] (units_Parse_k1 negative whole rest point t36 t2 t2_2) = units_Parse_K1 negative whole rest point t36 t2 t2_2 := by
  rw [pfn_eq (by decide)]
  have e2 : (fun negative whole rest t48 t2 t2_2 => (jfn Tryd.prog units_Parse_e 6 18446744073709551616 (Ev.get units_Parse_h) 14 units_Parse_s) 62 [] (units_Parse_k2 negative whole rest t48 t2 t2_2)) = units_Parse_K2 := funext fun negative => funext fun whole => funext fun rest => funext fun t48 => funext fun t2 => funext fun t2_2 => units_Parse_g2 negative whole rest t48 t2 t2_2
  rw [units_Parse_c1, e2]
  rfl
theorem units_Parse_t (x : As [.str]) : evT Tryd.prog units_Parse_e 6 18446744073709551616 (Ev.get units_Parse_h) 14 units_Parse_s x = units_Parse x := by
  have e1 : (fun negative whole rest point t36 t2 t2_2 => (jfn Tryd.prog units_Parse_e 6 18446744073709551616 (Ev.get units_Parse_h) 14 units_Parse_s) 30 [] (units_Parse_k1 negative whole rest point t36 t2 t2_2)) = units_Parse_K1 := funext fun negative => funext fun whole => funext fun rest => funext fun point => funext fun t36 => funext fun t2 => funext fun t2_2 => units_Parse_g1 negative whole rest point t36 t2 t2_2
  rw [rfn_eq, units_Parse_c0, e1]
  rfl
theorem units_Parse_ok : CtOk Tryd.prog I0 14 ⟨units_Parse_s, units_Parse⟩ := ct_of_ev (env_cons strings_CutPrefix_ok (env_cons units_allDigits_ok (env_cons strings_trimRightByte_ok (env_cons strings_makeASCIISet_ok env_nil)))) units_Parse_t
/-! units_Right -/
@[reducible] def units_Right_s : Sh := ⟨[.d (.pr (.int .i64) (.int .u8))], [], [.pr (.int .i64) (.int .u8)], [.d (.bool)], [], 0, [.bool]⟩
def units_Right_e : Env := (cts [])
def units_Right_h : List (Nat × Hint) := []
def units_Right_m0 (d : Int × Int) : Option (As [.bool]) :=
  if ge d.1 (-1000000000000) = true then if le d.1 1000000000000 = true then if le d.2 6 = true then if eqi d.2 0 = true then some (true, ()) else some (nei (rem d.1 10) 0, ()) else some (false, ()) else some (false, ()) else some (false, ())
def units_Right (x : As [.pr (.int .i64) (.int .u8)]) : Option (As [.bool]) := units_Right_m0 x.1
theorem units_Right_c0 (J : Orc (As [.bool])) (x : As [.pr (.int .i64) (.int .u8)]) : rfn Tryd.prog units_Right_e 6 18446744073709551616 (Ev.get units_Right_h) 16 units_Right_s J x = units_Right_m0 x.1 := by kernel_rfl
theorem units_Right_t (x : As [.pr (.int .i64) (.int .u8)]) : evT Tryd.prog units_Right_e 6 18446744073709551616 (Ev.get units_Right_h) 16 units_Right_s x = units_Right x := by
  rw [rfn_eq, units_Right_c0]
  rfl
theorem units_Right_ok : CtOk Tryd.prog I0 16 ⟨units_Right_s, units_Right⟩ := ct_of_ev env_nil units_Right_t
/-! bits_Mul64 -/
@[reducible] def bits_Mul64_s : Sh := ⟨[.d (.int .u64), .d (.int .u64)], [], [.int .u64, .int .u64], [.d (.int .u64), .d (.int .u64)], [], 0, [.int .u64, .int .u64]⟩
def bits_Mul64_e : Env := (cts [])
def bits_Mul64_h : List (Nat × Hint) := []
def bits_Mul64_m0 (x : Int) (y : Int) : Option (As [.int .u64, .int .u64]) :=
  some (add .u64 (add .u64 (mul .u64 (Sx.shr .u64 x 32) (Sx.shr .u64 y 32)) (Sx.shr .u64 (add .u64 (mul .u64 (Sx.shr .u64 x 32) (Sx.band .u64 y 4294967295)) (Sx.shr .u64 (mul .u64 (Sx.band .u64 x 4294967295) (Sx.band .u64 y 4294967295)) 32)) 32)) (Sx.shr .u64 (add .u64 (Sx.band .u64 (add .u64 (mul .u64 (Sx.shr .u64 x 32) (Sx.band .u64 y 4294967295)) (Sx.shr .u64 (mul .u64 (Sx.band .u64 x 4294967295) (Sx.band .u64 y 4294967295)) 32)) 4294967295) (mul .u64 (Sx.band .u64 x 4294967295) (Sx.shr .u64 y 32))) 32), mul .u64 x y, ())
def bits_Mul64 (x : As [.int .u64, .int .u64]) : Option (As [.int .u64, .int .u64]) := bits_Mul64_m0 x.1 x.2.1
theorem bits_Mul64_c0 (J : Orc (As [.int .u64, .int .u64])) (x : As [.int .u64, .int .u64]) : rfn Tryd.prog bits_Mul64_e 6 18446744073709551616 (Ev.get bits_Mul64_h) 54 bits_Mul64_s J x = bits_Mul64_m0 x.1 x.2.1 := by kernel_rfl
theorem bits_Mul64_t (x : As [.int .u64, .int .u64]) : evT Tryd.prog bits_Mul64_e 6 18446744073709551616 (Ev.get bits_Mul64_h) 54 bits_Mul64_s x = bits_Mul64 x := by
  rw [rfn_eq, bits_Mul64_c0]
  rfl
theorem bits_Mul64_ok : CtOk Tryd.prog I0 54 ⟨bits_Mul64_s, bits_Mul64⟩ := ct_of_ev env_nil bits_Mul64_t
/-! bits_Mul32 -/
@[reducible] def bits_Mul32_s : Sh := ⟨[.d (.int .u32), .d (.int .u32)], [], [.int .u32, .int .u32], [.d (.int .u32), .d (.int .u32)], [], 0, [.int .u32, .int .u32]⟩
def bits_Mul32_e : Env := (cts [])
def bits_Mul32_h : List (Nat × Hint) := []
def bits_Mul32_m0 (x : Int) (y : Int) : Option (As [.int .u32, .int .u32]) :=
  some (cvt .u32 (Sx.shr .u64 (mul .u64 (cvt .u64 x) (cvt .u64 y)) 32), cvt .u32 (mul .u64 (cvt .u64 x) (cvt .u64 y)), ())
def bits_Mul32 (x : As [.int .u32, .int .u32]) : Option (As [.int .u32, .int .u32]) := bits_Mul32_m0 x.1 x.2.1
theorem bits_Mul32_c0 (J : Orc (As [.int .u32, .int .u32])) (x : As [.int .u32, .int .u32]) : rfn Tryd.prog bits_Mul32_e 6 18446744073709551616 (Ev.get bits_Mul32_h) 90 bits_Mul32_s J x = bits_Mul32_m0 x.1 x.2.1 := by kernel_rfl
theorem bits_Mul32_t (x : As [.int .u32, .int .u32]) : evT Tryd.prog bits_Mul32_e 6 18446744073709551616 (Ev.get bits_Mul32_h) 90 bits_Mul32_s x = bits_Mul32 x := by
  rw [rfn_eq, bits_Mul32_c0]
  rfl
theorem bits_Mul32_ok : CtOk Tryd.prog I0 90 ⟨bits_Mul32_s, bits_Mul32⟩ := ct_of_ev env_nil bits_Mul32_t
/-! bits_Mul -/
@[reducible] def bits_Mul_s : Sh := ⟨[.d (.int .u64), .d (.int .u64)], [], [.int .u64, .int .u64], [.d (.int .u64), .d (.int .u64)], [], 0, [.int .u64, .int .u64]⟩
def bits_Mul_e : Env := (cts [(54, (⟨bits_Mul64_s, bits_Mul64⟩ : Ct)), (90, (⟨bits_Mul32_s, bits_Mul32⟩ : Ct))])
def bits_Mul_h : List (Nat × Hint) := []
def bits_Mul_m0 (x : Int) (y : Int) : Option (As [.int .u64, .int .u64]) :=
  Option.bind (bits_Mul64 (x, y, ())) fun (y : Int × Int × Unit) => some (y.1, y.2.1, ())
def bits_Mul (x : As [.int .u64, .int .u64]) : Option (As [.int .u64, .int .u64]) := bits_Mul_m0 x.1 x.2.1
theorem bits_Mul_c0 (J : Orc (As [.int .u64, .int .u64])) (x : As [.int .u64, .int .u64]) : rfn Tryd.prog bits_Mul_e 6 18446744073709551616 (Ev.get bits_Mul_h) 60 bits_Mul_s J x = bits_Mul_m0 x.1 x.2.1 := by kernel_rfl
theorem bits_Mul_t (x : As [.int .u64, .int .u64]) : evT Tryd.prog bits_Mul_e 6 18446744073709551616 (Ev.get bits_Mul_h) 60 bits_Mul_s x = bits_Mul x := by
  rw [rfn_eq, bits_Mul_c0]
  rfl
theorem bits_Mul_ok : CtOk Tryd.prog I0 60 ⟨bits_Mul_s, bits_Mul⟩ := ct_of_ev (env_cons bits_Mul64_ok (env_cons bits_Mul32_ok env_nil)) bits_Mul_t
/-! strings_HasPrefix -/
@[reducible] def strings_HasPrefix_s : Sh := ⟨[.d (.str), .d (.str)], [], [.str, .str], [.d (.bool)], [], 0, [.bool]⟩
def strings_HasPrefix_e : Env := (cts [(91, (⟨istringslite_HasPrefix_s, istringslite_HasPrefix⟩ : Ct))])
def strings_HasPrefix_h : List (Nat × Hint) := []
def strings_HasPrefix_m0 (s : List UInt8) (prefixV : List UInt8) : Option (As [.bool]) :=
  Option.bind (istringslite_HasPrefix (s, prefixV, ())) fun (y : Bool × Unit) => some (y.1, ())
def strings_HasPrefix (x : As [.str, .str]) : Option (As [.bool]) := strings_HasPrefix_m0 x.1 x.2.1
theorem strings_HasPrefix_c0 (J : Orc (As [.bool])) (x : As [.str, .str]) : rfn Tryd.prog strings_HasPrefix_e 6 18446744073709551616 (Ev.get strings_HasPrefix_h) 61 strings_HasPrefix_s J x = strings_HasPrefix_m0 x.1 x.2.1 := by kernel_rfl
theorem strings_HasPrefix_t (x : As [.str, .str]) : evT Tryd.prog strings_HasPrefix_e 6 18446744073709551616 (Ev.get strings_HasPrefix_h) 61 strings_HasPrefix_s x = strings_HasPrefix x := by
  rw [rfn_eq, strings_HasPrefix_c0]
  rfl
theorem strings_HasPrefix_ok : CtOk Tryd.prog I0 61 ⟨strings_HasPrefix_s, strings_HasPrefix⟩ := ct_of_ev (env_cons istringslite_HasPrefix_ok env_nil) strings_HasPrefix_t
/-! strings_Repeat -/
@[reducible] def strings_Repeat_s : Sh := ⟨[.d (.str), .d (.int .i64)], [], [.str, .int .i64], [.d (.str)], [], 0, [.str]⟩
def strings_Repeat_e : Env := (cts [(60, (⟨bits_Mul_s, bits_Mul⟩ : Ct)), (61, (⟨strings_HasPrefix_s, strings_HasPrefix⟩ : Ct))])
def strings_Repeat_h : List (Nat × Hint) := [(7, ⟨[], [0, 1, 32, 33, 53, 54, 62, 63, 71, 72, 80, 81, 89, 90]⟩), (31, ⟨[], [0, 6, 53, 54, 62, 63, 71, 72, 80, 81, 89, 90]⟩), (255, ⟨[], [0, 7]⟩), (1023, ⟨[], [0, 7, 8]⟩), (65532, ⟨[], [7, 8, 9]⟩), (2042, ⟨[], [0, 7, 43, 53, 54, 62, 63, 71, 72, 80, 81, 89, 90]⟩), (16340, ⟨[], [0, 7, 49, 62, 63, 71, 72, 80, 81, 89, 90]⟩), (65363, ⟨[], [0, 7, 58, 71, 72, 80, 81, 89, 90]⟩), (261455, ⟨[], [0, 7, 67, 80, 81, 89, 90]⟩), (1045823, ⟨[], [0, 7, 76, 89, 90]⟩), (4183295, ⟨[], [0, 7, 85]⟩), (62, ⟨[], [0, 6, 34, 53, 54, 62, 63, 71, 72, 80, 81, 89, 90]⟩)]
def strings_Repeat_k1 (s : List UInt8) (count : Int) : St := { fr := [(0, .d .str s), (1, .d (.int .i64) count)], nt := 125, up := [], own := [], nx := 0, log := [], ln := 0 }
def strings_Repeat_k2 (s : List UInt8) (lo : Int) (t34 : Bool) : St := { fr := [(0, .d .str s), (6, .d (.int .u64) lo), (34, .d .bool t34)], nt := 125, up := [], own := [], nx := 0, log := [], ln := 0 }
def strings_Repeat_k3 (s : List UInt8) (lo : Int) : St := { fr := [(0, .d .str s), (6, .d (.int .u64) lo)], nt := 125, up := [], own := [], nx := 0, log := [], ln := 0 }
def strings_Repeat_k4 (s : List UInt8) (n : Int) (t43 : Bool) : St := { fr := [(0, .d .str s), (7, .d (.int .i64) n), (43, .d .bool t43)], nt := 125, up := [], own := [], nx := 0, log := [], ln := 0 }
def strings_Repeat_k5 (s : List UInt8) (n : Int) (t49 : Bool) : St := { fr := [(0, .d .str s), (7, .d (.int .i64) n), (49, .d .bool t49)], nt := 125, up := [], own := [], nx := 0, log := [], ln := 0 }
def strings_Repeat_k6 (s : List UInt8) (n : Int) : St := { fr := [(0, .d .str s), (7, .d (.int .i64) n)], nt := 125, up := [], own := [], nx := 0, log := [], ln := 0 }
def strings_Repeat_k7 (s : List UInt8) (n : Int) (t58 : Bool) : St := { fr := [(0, .d .str s), (7, .d (.int .i64) n), (58, .d .bool t58)], nt := 125, up := [], own := [], nx := 0, log := [], ln := 0 }
def strings_Repeat_k8 (s : List UInt8) (n : Int) (chunkMax : Int) : St := { fr := [(0, .d .str s), (7, .d (.int .i64) n), (8, .d (.int .i64) chunkMax)], nt := 125, up := [], own := [], nx := 0, log := [], ln := 0 }
def strings_Repeat_k9 (s : List UInt8) (n : Int) (t67 : Bool) : St := { fr := [(0, .d .str s), (7, .d (.int .i64) n), (67, .d .bool t67)], nt := 125, up := [], own := [], nx := 0, log := [], ln := 0 }
def strings_Repeat_k10 (s : List UInt8) (n : Int) (t76 : Bool) : St := { fr := [(0, .d .str s), (7, .d (.int .i64) n), (76, .d .bool t76)], nt := 125, up := [], own := [], nx := 0, log := [], ln := 0 }
def strings_Repeat_k11 (s : List UInt8) (n : Int) (t85 : Bool) : St := { fr := [(0, .d .str s), (7, .d (.int .i64) n), (85, .d .bool t85)], nt := 125, up := [], own := [], nx := 0, log := [], ln := 0 }
def strings_Repeat_m1 (j2 : List UInt8 → Int → Bool → Option (As [.str])) (s : List UInt8) (count : Int) : Option (As [.str]) :=
  Option.bind (bits_Mul (Int.ofNat (List.length s % 18446744073709551616), cvt .u64 count, ())) fun (y : Int × Int × Unit) => if gt y.1 0 = true then j2 s y.2.1 true else j2 s y.2.1 (gt y.2.1 9223372036854775807)
def strings_Repeat_m2 (j3 : List UInt8 → Int → Option (As [.str])) (s : List UInt8) (lo : Int) (t34 : Bool) : Option (As [.str]) :=
  if t34 = true then Option.none else j3 s lo
def strings_Repeat_m3 (j4 : List UInt8 → Int → Bool → Option (As [.str])) (s : List UInt8) (lo : Int) : Option (As [.str]) :=
  if eqi (Int.ofNat (List.length s)) 0 = true then some ([], ()) else Option.bind (at? s 0) fun (c : UInt8) => if eqi (Int.ofNat (UInt8.toNat c)) 32 = true then j4 s (cvt .i64 lo) true else if eqi (Int.ofNat (UInt8.toNat c)) 45 = true then j4 s (cvt .i64 lo) true else if eqi (Int.ofNat (UInt8.toNat c)) 48 = true then j4 s (cvt .i64 lo) true else if eqi (Int.ofNat (UInt8.toNat c)) 61 = true then j4 s (cvt .i64 lo) true else j4 s (cvt .i64 lo) (eqi (Int.ofNat (UInt8.toNat c)) 9)
def strings_Repeat_m4 (j5 : List UInt8 → Int → Bool → Option (As [.str])) (j6 : List UInt8 → Int → Option (As [.str])) (s : List UInt8) (n : Int) (t43 : Bool) : Option (As [.str]) :=
  if t43 = true then if le n 128 = true then Option.bind (strings_HasPrefix ([32, 32, 32, 32, 32, 32, 32, 32, 32, 32, 32, 32, 32, 32, 32, 32, 32, 32, 32, 32, 32, 32, 32, 32, 32, 32, 32, 32, 32, 32, 32, 32, 32, 32, 32, 32, 32, 32, 32, 32, 32, 32, 32, 32, 32, 32, 32, 32, 32, 32, 32, 32, 32, 32, 32, 32, 32, 32, 32, 32, 32, 32, 32, 32, 32, 32, 32, 32, 32, 32, 32, 32, 32, 32, 32, 32, 32, 32, 32, 32, 32, 32, 32, 32, 32, 32, 32, 32, 32, 32, 32, 32, 32, 32, 32, 32, 32, 32, 32, 32, 32, 32, 32, 32, 32, 32, 32, 32, 32, 32, 32, 32, 32, 32, 32, 32, 32, 32, 32, 32, 32, 32, 32, 32, 32, 32, 32, 32], s, ())) fun (y : Bool × Unit) => j5 s n y.1 else j5 s n false else j6 s n
def strings_Repeat_m5 (j7 : List UInt8 → Int → Bool → Option (As [.str])) (s : List UInt8) (n : Int) (t49 : Bool) : Option (As [.str]) :=
  if t49 = true then Option.bind (cut [32, 32, 32, 32, 32, 32, 32, 32, 32, 32, 32, 32, 32, 32, 32, 32, 32, 32, 32, 32, 32, 32, 32, 32, 32, 32, 32, 32, 32, 32, 32, 32, 32, 32, 32, 32, 32, 32, 32, 32, 32, 32, 32, 32, 32, 32, 32, 32, 32, 32, 32, 32, 32, 32, 32, 32, 32, 32, 32, 32, 32, 32, 32, 32, 32, 32, 32, 32, 32, 32, 32, 32, 32, 32, 32, 32, 32, 32, 32, 32, 32, 32, 32, 32, 32, 32, 32, 32, 32, 32, 32, 32, 32, 32, 32, 32, 32, 32, 32, 32, 32, 32, 32, 32, 32, 32, 32, 32, 32, 32, 32, 32, 32, 32, 32, 32, 32, 32, 32, 32, 32, 32, 32, 32, 32, 32, 32, 32] 0 n) fun (y : List UInt8) => some (y, ()) else if le n 128 = true then Option.bind (strings_HasPrefix ([45, 45, 45, 45, 45, 45, 45, 45, 45, 45, 45, 45, 45, 45, 45, 45, 45, 45, 45, 45, 45, 45, 45, 45, 45, 45, 45, 45, 45, 45, 45, 45, 45, 45, 45, 45, 45, 45, 45, 45, 45, 45, 45, 45, 45, 45, 45, 45, 45, 45, 45, 45, 45, 45, 45, 45, 45, 45, 45, 45, 45, 45, 45, 45, 45, 45, 45, 45, 45, 45, 45, 45, 45, 45, 45, 45, 45, 45, 45, 45, 45, 45, 45, 45, 45, 45, 45, 45, 45, 45, 45, 45, 45, 45, 45, 45, 45, 45, 45, 45, 45, 45, 45, 45, 45, 45, 45, 45, 45, 45, 45, 45, 45, 45, 45, 45, 45, 45, 45, 45, 45, 45, 45, 45, 45, 45, 45, 45], s, ())) fun (y : Bool × Unit) => j7 s n y.1 else j7 s n false
def strings_Repeat_m6 (j8 : List UInt8 → Int → Int → Option (As [.str])) (s : List UInt8) (n : Int) : Option (As [.str]) :=
  if gt n 8192 = true then need (nei (Int.ofNat (List.length s)) 0) (if eqi (mul .i64 (quo .i64 8192 (Int.ofNat (List.length s))) (Int.ofNat (List.length s))) 0 = true then j8 s n (Int.ofNat (List.length s)) else j8 s n (mul .i64 (quo .i64 8192 (Int.ofNat (List.length s))) (Int.ofNat (List.length s)))) else j8 s n n
def strings_Repeat_m7 (j9 : List UInt8 → Int → Bool → Option (As [.str])) (s : List UInt8) (n : Int) (t58 : Bool) : Option (As [.str]) :=
  if t58 = true then Option.bind (cut [45, 45, 45, 45, 45, 45, 45, 45, 45, 45, 45, 45, 45, 45, 45, 45, 45, 45, 45, 45, 45, 45, 45, 45, 45, 45, 45, 45, 45, 45, 45, 45, 45, 45, 45, 45, 45, 45, 45, 45, 45, 45, 45, 45, 45, 45, 45, 45, 45, 45, 45, 45, 45, 45, 45, 45, 45, 45, 45, 45, 45, 45, 45, 45, 45, 45, 45, 45, 45, 45, 45, 45, 45, 45, 45, 45, 45, 45, 45, 45, 45, 45, 45, 45, 45, 45, 45, 45, 45, 45, 45, 45, 45, 45, 45, 45, 45, 45, 45, 45, 45, 45, 45, 45, 45, 45, 45, 45, 45, 45, 45, 45, 45, 45, 45, 45, 45, 45, 45, 45, 45, 45, 45, 45, 45, 45, 45, 45] 0 n) fun (y : List UInt8) => some (y, ()) else if le n 64 = true then Option.bind (strings_HasPrefix ([48, 48, 48, 48, 48, 48, 48, 48, 48, 48, 48, 48, 48, 48, 48, 48, 48, 48, 48, 48, 48, 48, 48, 48, 48, 48, 48, 48, 48, 48, 48, 48, 48, 48, 48, 48, 48, 48, 48, 48, 48, 48, 48, 48, 48, 48, 48, 48, 48, 48, 48, 48, 48, 48, 48, 48, 48, 48, 48, 48, 48, 48, 48, 48], s, ())) fun (y : Bool × Unit) => j9 s n y.1 else j9 s n false
def strings_Repeat_m8 (s : List UInt8) (n : Int) (chunkMax : Int) : Option (As [.str]) :=
  if lt n 0 = true then Option.none else Option.none
def strings_Repeat_m9 (j10 : List UInt8 → Int → Bool → Option (As [.str])) (s : List UInt8) (n : Int) (t67 : Bool) : Option (As [.str]) :=
  if t67 = true then Option.bind (cut [48, 48, 48, 48, 48, 48, 48, 48, 48, 48, 48, 48, 48, 48, 48, 48, 48, 48, 48, 48, 48, 48, 48, 48, 48, 48, 48, 48, 48, 48, 48, 48, 48, 48, 48, 48, 48, 48, 48, 48, 48, 48, 48, 48, 48, 48, 48, 48, 48, 48, 48, 48, 48, 48, 48, 48, 48, 48, 48, 48, 48, 48, 48, 48] 0 n) fun (y : List UInt8) => some (y, ()) else if le n 128 = true then Option.bind (strings_HasPrefix ([61, 61, 61, 61, 61, 61, 61, 61, 61, 61, 61, 61, 61, 61, 61, 61, 61, 61, 61, 61, 61, 61, 61, 61, 61, 61, 61, 61, 61, 61, 61, 61, 61, 61, 61, 61, 61, 61, 61, 61, 61, 61, 61, 61, 61, 61, 61, 61, 61, 61, 61, 61, 61, 61, 61, 61, 61, 61, 61, 61, 61, 61, 61, 61, 61, 61, 61, 61, 61, 61, 61, 61, 61, 61, 61, 61, 61, 61, 61, 61, 61, 61, 61, 61, 61, 61, 61, 61, 61, 61, 61, 61, 61, 61, 61, 61, 61, 61, 61, 61, 61, 61, 61, 61, 61, 61, 61, 61, 61, 61, 61, 61, 61, 61, 61, 61, 61, 61, 61, 61, 61, 61, 61, 61, 61, 61, 61, 61], s, ())) fun (y : Bool × Unit) => j10 s n y.1 else j10 s n false
def strings_Repeat_m10 (j11 : List UInt8 → Int → Bool → Option (As [.str])) (s : List UInt8) (n : Int) (t76 : Bool) : Option (As [.str]) :=
  if t76 = true then Option.bind (cut [61, 61, 61, 61, 61, 61, 61, 61, 61, 61, 61, 61, 61, 61, 61, 61, 61, 61, 61, 61, 61, 61, 61, 61, 61, 61, 61, 61, 61, 61, 61, 61, 61, 61, 61, 61, 61, 61, 61, 61, 61, 61, 61, 61, 61, 61, 61, 61, 61, 61, 61, 61, 61, 61, 61, 61, 61, 61, 61, 61, 61, 61, 61, 61, 61, 61, 61, 61, 61, 61, 61, 61, 61, 61, 61, 61, 61, 61, 61, 61, 61, 61, 61, 61, 61, 61, 61, 61, 61, 61, 61, 61, 61, 61, 61, 61, 61, 61, 61, 61, 61, 61, 61, 61, 61, 61, 61, 61, 61, 61, 61, 61, 61, 61, 61, 61, 61, 61, 61, 61, 61, 61, 61, 61, 61, 61, 61, 61] 0 n) fun (y : List UInt8) => some (y, ()) else if le n 64 = true then Option.bind (strings_HasPrefix ([9, 9, 9, 9, 9, 9, 9, 9, 9, 9, 9, 9, 9, 9, 9, 9, 9, 9, 9, 9, 9, 9, 9, 9, 9, 9, 9, 9, 9, 9, 9, 9, 9, 9, 9, 9, 9, 9, 9, 9, 9, 9, 9, 9, 9, 9, 9, 9, 9, 9, 9, 9, 9, 9, 9, 9, 9, 9, 9, 9, 9, 9, 9, 9], s, ())) fun (y : Bool × Unit) => j11 s n y.1 else j11 s n false
def strings_Repeat_m11 (j6 : List UInt8 → Int → Option (As [.str])) (s : List UInt8) (n : Int) (t85 : Bool) : Option (As [.str]) :=
  if t85 = true then Option.bind (cut [9, 9, 9, 9, 9, 9, 9, 9, 9, 9, 9, 9, 9, 9, 9, 9, 9, 9, 9, 9, 9, 9, 9, 9, 9, 9, 9, 9, 9, 9, 9, 9, 9, 9, 9, 9, 9, 9, 9, 9, 9, 9, 9, 9, 9, 9, 9, 9, 9, 9, 9, 9, 9, 9, 9, 9, 9, 9, 9, 9, 9, 9, 9, 9] 0 n) fun (y : List UInt8) => some (y, ()) else j6 s n
def strings_Repeat_m0 (j1 : List UInt8 → Int → Option (As [.str])) (s : List UInt8) (count : Int) : Option (As [.str]) :=
  if eqi count 0 = true then some ([], ()) else if eqi count 1 = true then some (s, ()) else if lt count 0 = true then Option.none else j1 s count
def strings_Repeat_K8 (s : List UInt8) (n : Int) (chunkMax : Int) : Option (As [.str]) := strings_Repeat_m8 s n chunkMax
def strings_Repeat_K6 (s : List UInt8) (n : Int) : Option (As [.str]) := strings_Repeat_m6 (strings_Repeat_K8) s n
def strings_Repeat_K11 (s : List UInt8) (n : Int) (t85 : Bool) : Option (As [.str]) := strings_Repeat_m11 (strings_Repeat_K6) s n t85
def strings_Repeat_K10 (s : List UInt8) (n : Int) (t76 : Bool) : Option (As [.str]) := strings_Repeat_m10 (strings_Repeat_K11) s n t76
def strings_Repeat_K9 (s : List UInt8) (n : Int) (t67 : Bool) : Option (As [.str]) := strings_Repeat_m9 (strings_Repeat_K10) s n t67
def strings_Repeat_K7 (s : List UInt8) (n : Int) (t58 : Bool) : Option (As [.str]) := strings_Repeat_m7 (strings_Repeat_K9) s n t58
def strings_Repeat_K5 (s : List UInt8) (n : Int) (t49 : Bool) : Option (As [.str]) := strings_Repeat_m5 (strings_Repeat_K7) s n t49
def strings_Repeat_K4 (s : List UInt8) (n : Int) (t43 : Bool) : Option (As [.str]) := strings_Repeat_m4 (strings_Repeat_K5) (strings_Repeat_K6) s n t43
def strings_Repeat_K3 (s : List UInt8) (lo : Int) : Option (As [.str]) := strings_Repeat_m3 (strings_Repeat_K4) s lo
def strings_Repeat_K2 (s : List UInt8) (lo : Int) (t34 : Bool) : Option (As [.str]) := strings_Repeat_m2 (strings_Repeat_K3) s lo t34
def strings_Repeat_K1 (s : List UInt8) (count : Int) : Option (As [.str]) := strings_Repeat_m1 (strings_Repeat_K2) s count
def strings_Repeat (x : As [.str, .int .i64]) : Option (As [.str]) := strings_Repeat_m0 strings_Repeat_K1 x.1 x.2.1
theorem strings_Repeat_c8 (J : Orc (As [.str])) (s : List UInt8) (n : Int) (chunkMax : Int) : pfn Tryd.prog strings_Repeat_e 6 18446744073709551616 (Ev.get strings_Repeat_h) 33 strings_Repeat_s J 1023 [] (strings_Repeat_k8 s n chunkMax) = strings_Repeat_m8 s n chunkMax := by kernel_rfl
theorem strings_Repeat_c6 (J : Orc (As [.str])) (s : List UInt8) (n : Int) : pfn Tryd.prog strings_Repeat_e 6 18446744073709551616 (Ev.get strings_Repeat_h) 33 strings_Repeat_s J 255 [] (strings_Repeat_k6 s n) = strings_Repeat_m6 (fun s n chunkMax => J 1023 [] (strings_Repeat_k8 s n chunkMax)) s n := by kernel_rfl
theorem strings_Repeat_c11 (J : Orc (As [.str])) (s : List UInt8) (n : Int) (t85 : Bool) : pfn Tryd.prog strings_Repeat_e 6 18446744073709551616 (Ev.get strings_Repeat_h) 33 strings_Repeat_s J 4183295 [] (strings_Repeat_k11 s n t85) = strings_Repeat_m11 (fun s n => J 255 [] (strings_Repeat_k6 s n)) s n t85 := by kernel_rfl
theorem strings_Repeat_c10 (J : Orc (As [.str])) (s : List UInt8) (n : Int) (t76 : Bool) : pfn Tryd.prog strings_Repeat_e 6 18446744073709551616 (Ev.get strings_Repeat_h) 33 strings_Repeat_s J 1045823 [] (strings_Repeat_k10 s n t76) = strings_Repeat_m10 (fun s n t85 => J 4183295 [] (strings_Repeat_k11 s n t85)) s n t76 := by kernel_rfl
theorem strings_Repeat_c9 (J : Orc (As [.str])) (s : List UInt8) (n : Int) (t67 : Bool) : pfn Tryd.prog strings_Repeat_e 6 18446744073709551616 (Ev.get strings_Repeat_h) 33 strings_Repeat_s J 261455 [] (strings_Repeat_k9 s n t67) = strings_Repeat_m9 (fun s n t76 => J 1045823 [] (strings_Repeat_k10 s n t76)) s n t67 := by kernel_rfl
theorem strings_Repeat_c7 (J : Orc (As [.str])) (s : List UInt8) (n : Int) (t58 : Bool) : pfn Tryd.prog strings_Repeat_e 6 18446744073709551616 (Ev.get strings_Repeat_h) 33 strings_Repeat_s J 65363 [] (strings_Repeat_k7 s n t58) = strings_Repeat_m7 (fun s n t67 => J 261455 [] (strings_Repeat_k9 s n t67)) s n t58 := by kernel_rfl
theorem strings_Repeat_c5 (J : Orc (As [.str])) (s : List UInt8) (n : Int) (t49 : Bool) : pfn Tryd.prog strings_Repeat_e 6 18446744073709551616 (Ev.get strings_Repeat_h) 33 strings_Repeat_s J 16340 [] (strings_Repeat_k5 s n t49) = strings_Repeat_m5 (fun s n t58 => J 65363 [] (strings_Repeat_k7 s n t58)) s n t49 := by kernel_rfl
theorem strings_Repeat_c4 (J : Orc (As [.str])) (s : List UInt8) (n : Int) (t43 : Bool) : pfn Tryd.prog strings_Repeat_e 6 18446744073709551616 (Ev.get strings_Repeat_h) 33 strings_Repeat_s J 2042 [] (strings_Repeat_k4 s n t43) = strings_Repeat_m4 (fun s n t49 => J 16340 [] (strings_Repeat_k5 s n t49)) (fun s n => J 255 [] (strings_Repeat_k6 s n)) s n t43 := by kernel_rfl
theorem strings_Repeat_c3 (J : Orc (As [.str])) (s : List UInt8) (lo : Int) : pfn Tryd.prog strings_Repeat_e 6 18446744073709551616 (Ev.get strings_Repeat_h) 33 strings_Repeat_s J 31 [] (strings_Repeat_k3 s lo) = strings_Repeat_m3 (fun s n t43 => J 2042 [] (strings_Repeat_k4 s n t43)) s lo := by kernel_rfl
theorem strings_Repeat_c2 (J : Orc (As [.str])) (s : List UInt8) (lo : Int) (t34 : Bool) : pfn Tryd.prog strings_Repeat_e 6 18446744073709551616 (Ev.get strings_Repeat_h) 33 strings_Repeat_s J 62 [] (strings_Repeat_k2 s lo t34) = strings_Repeat_m2 (fun s lo => J 31 [] (strings_Repeat_k3 s lo)) s lo t34 := by kernel_rfl
theorem strings_Repeat_c1 (J : Orc (As [.str])) (s : List UInt8) (count : Int) : pfn Tryd.prog strings_Repeat_e 6 18446744073709551616 (Ev.get strings_Repeat_h) 33 strings_Repeat_s J 7 [] (strings_Repeat_k1 s count) = strings_Repeat_m1 (fun s lo t34 => J 62 [] (strings_Repeat_k2 s lo t34)) s count := by kernel_rfl
theorem strings_Repeat_c0 (J : Orc (As [.str])) (x : As [.str, .int .i64]) : rfn Tryd.prog strings_Repeat_e 6 18446744073709551616 (Ev.get strings_Repeat_h) 33 strings_Repeat_s J x = strings_Repeat_m0 (fun s count => J 7 [] (strings_Repeat_k1 s count)) x.1 x.2.1 := by kernel_rfl
theorem strings_Repeat_g8 (s : List UInt8) (n : Int) (chunkMax : Int) : jfn Tryd.prog strings_Repeat_e 6 18446744073709551616 (Ev.get strings_Repeat_h) 33 strings_Repeat_s 1023 [] (strings_Repeat_k8 s n chunkMax) = strings_Repeat_K8 s n chunkMax := by
  rw [pfn_eq (by decide)]
  rw [strings_Repeat_c8]
  rfl
theorem strings_Repeat_g6 (s : List UInt8) (n : Int) : jfn Tryd.prog strings_Repeat_e 6 18446744073709551616 (Ev.get strings_Repeat_h) 33 strings_Repeat_s 255 [] (strings_Repeat_k6 s n) = strings_Repeat_K6 s n := by
  rw [pfn_eq (by decide)]
  have e8 : (fun s n chunkMax => (jfn Tryd.prog strings_Repeat_e 6 18446744073709551616 (Ev.get strings_Repeat_h) 33 strings_Repeat_s) 1023 [] (strings_Repeat_k8 s n chunkMax)) = strings_Repeat_K8 := funext fun s => funext fun n => funext fun chunkMax => strings_Repeat_g8 s n chunkMax
  rw [strings_Repeat_c6, e8]
  rfl
theorem strings_Repeat_g11 (s : List UInt8) (n : Int) (t85 : Bool) : jfn Tryd.prog strings_Repeat_e 6 18446744073709551616 (Ev.get strings_Repeat_h) 33 strings_Repeat_s 4183295 [] (strings_Repeat_k11 s n t85) = strings_Repeat_K11 s n t85 := by
  rw [pfn_eq (by decide)]
  have e6 : (fun s n => (jfn Tryd.prog strings_Repeat_e 6 18446744073709551616 (Ev.get strings_Repeat_h) 33 strings_Repeat_s) 255 [] (strings_Repeat_k6 s n)) = strings_Repeat_K6 := funext fun s => funext fun n => strings_Repeat_g6 s n
  rw [strings_Repeat_c11, e6]
  rfl
theorem strings_Repeat_g10 (s : List UInt8) (n : Int) (t76 : Bool) : jfn Tryd.prog strings_Repeat_e 6 18446744073709551616 (Ev.get strings_Repeat_h) 33 strings_Repeat_s 1045823 [] (strings_Repeat_k10 s n t76) = strings_Repeat_K10 s n t76 := by
  rw [pfn_eq (by decide)]
  have e11 : (fun s n t85 => (jfn Tryd.prog strings_Repeat_e 6 18446744073709551616 (Ev.get strings_Repeat_h) 33 strings_Repeat_s) 4183295 [] (strings_Repeat_k11 s n t85)) = strings_Repeat_K11 := funext fun s => funext fun n => funext fun t85 => strings_Repeat_g11 s n t85
  rw [strings_Repeat_c10, e11]
  rfl
theorem strings_Repeat_g9 (s : List UInt8) (n : Int) (t67 : Bool) : jfn Tryd.prog strings_Repeat_e 6 18446744073709551616 (Ev.get strings_Repeat_h) 33 strings_Repeat_s 261455 [] (strings_Repeat_k9 s n t67) = strings_Repeat_K9 s n t67 := by
  rw [pfn_eq (by decide)]
  have e10 : (fun s n t76 => (jfn Tryd.prog strings_Repeat_e 6 18446744073709551616 (Ev.get strings_Repeat_h) 33 strings_Repeat_s) 1045823 [] (strings_Repeat_k10 s n t76)) = strings_Repeat_K10 := funext fun s => funext fun n => funext fun t76 => strings_Repeat_g10 s n t76
  rw [strings_Repeat_c9, e10]
  rfl
theorem strings_Repeat_g7 (s : List UInt8) (n : Int) (t58 : Bool) : jfn Tryd.prog strings_Repeat_e 6 18446744073709551616 (Ev.get strings_Repeat_h) 33 strings_Repeat_s 65363 [] (strings_Repeat_k7 s n t58) = strings_Repeat_K7 s n t58 := by
  rw [pfn_eq (by decide)]
  have e9 : (fun s n t67 => (jfn Tryd.prog strings_Repeat_e 6 18446744073709551616 (Ev.get strings_Repeat_h) 33 strings_Repeat_s) 261455 [] (strings_Repeat_k9 s n t67)) = strings_Repeat_K9 := funext fun s => funext fun n => funext fun t67 => strings_Repeat_g9 s n t67
  rw [strings_Repeat_c7, e9]
  rfl
theorem strings_Repeat_g5 (s : List UInt8) (n : Int) (t49 : Bool) : jfn Tryd.prog strings_Repeat_e 6 18446744073709551616 (Ev.get strings_Repeat_h) 33 strings_Repeat_s 16340 [] (strings_Repeat_k5 s n t49) = strings_Repeat_K5 s n t49 := by
  rw [pfn_eq (by decide)]
  have e7 : (fun s n t58 => (jfn Tryd.prog strings_Repeat_e 6 18446744073709551616 (Ev.get strings_Repeat_h) 33 strings_Repeat_s) 65363 [] (strings_Repeat_k7 s n t58)) = strings_Repeat_K7 := funext fun s => funext fun n => funext fun t58 => strings_Repeat_g7 s n t58
  rw [strings_Repeat_c5, e7]
  rfl
theorem strings_Repeat_g4 (s : List UInt8) (n : Int) (t43 : Bool) : jfn Tryd.prog strings_Repeat_e 6 18446744073709551616 (Ev.get strings_Repeat_h) 33 strings_Repeat_s 2042 [] (strings_Repeat_k4 s n t43) = strings_Repeat_K4 s n t43 := by
  rw [pfn_eq (by decide)]
  have e5 : (fun s n t49 => (jfn Tryd.prog strings_Repeat_e 6 18446744073709551616 (Ev.get strings_Repeat_h) 33 strings_Repeat_s) 16340 [] (strings_Repeat_k5 s n t49)) = strings_Repeat_K5 := funext fun s => funext fun n => funext fun t49 => strings_Repeat_g5 s n t49
  have e6 : (fun s n => (jfn Tryd.prog strings_Repeat_e 6 18446744073709551616 (Ev.get strings_Repeat_h) 33 strings_Repeat_s) 255 [] (strings_Repeat_k6 s n)) = strings_Repeat_K6 := funext fun s => funext fun n => strings_Repeat_g6 s n
  rw [strings_Repeat_c4, e5, e6]
  rfl
theorem strings_Repeat_g3 (s : List UInt8) (lo : Int) : jfn Tryd.prog strings_Repeat_e 6 18446744073709551616 (Ev.get strings_Repeat_h) 33 strings_Repeat_s 31 [] (strings_Repeat_k3 s lo) = strings_Repeat_K3 s lo := by
  rw [pfn_eq (by decide)]
  have e4 : (fun s n t43 => (jfn Tryd.prog strings_Repeat_e 6 18446744073709551616 (Ev.get strings_Repeat_h) 33 strings_Repeat_s) 2042 [] (strings_Repeat_k4 s n t43)) = strings_Repeat_K4 := funext fun s => funext fun n => funext fun t43 => strings_Repeat_g4 s n t43
  rw [strings_Repeat_c3, e4]
  rfl
theorem strings_Repeat_g2 (s : List UInt8) (lo : Int) (t34 : Bool) : jfn Tryd.prog strings_Repeat_e 6 18446744073709551616 (Ev.get strings_Repeat_h) 33 strings_Repeat_s 62 [] (strings_Repeat_k2 s lo t34) = strings_Repeat_K2 s lo t34 := by
  rw [pfn_eq (by decide)]
  have e3 : (fun s lo => (jfn Tryd.prog strings_Repeat_e 6 18446744073709551616 (Ev.get strings_Repeat_h) 33 strings_Repeat_s) 31 [] (strings_Repeat_k3 s lo)) = strings_Repeat_K3 := funext fun s => funext fun lo => strings_Repeat_g3 s lo
  rw [strings_Repeat_c2, e3]
  rfl
theorem strings_Repeat_g1 (s : List UInt8) (count : Int) : jfn Tryd.prog strings_Repeat_e 6 18446744073709551616 (Ev.get strings_Repeat_h) 33 strings_Repeat_s 7 [] (strings_Repeat_k1 s count) = strings_Repeat_K1 s count := by
  rw [pfn_eq (by decide)]
  have e2 : (fun s lo t34 => (jfn Tryd.prog strings_Repeat_e 6 18446744073709551616 (Ev.get strings_Repeat_h) 33 strings_Repeat_s) 62 [] (strings_Repeat_k2 s lo t34)) = strings_Repeat_K2 := funext fun s => funext fun lo => funext fun t34 => strings_Repeat_g2 s lo t34
  rw [strings_Repeat_c1, e2]
  rfl
theorem strings_Repeat_t (x : As [.str, .int .i64]) : evT Tryd.prog strings_Repeat_e 6 18446744073709551616 (Ev.get strings_Repeat_h) 33 strings_Repeat_s x = strings_Repeat x := by
  have e1 : (fun s count => (jfn Tryd.prog strings_Repeat_e 6 18446744073709551616 (Ev.get strings_Repeat_h) 33 strings_Repeat_s) 7 [] (strings_Repeat_k1 s count)) = strings_Repeat_K1 := funext fun s => funext fun count => strings_Repeat_g1 s count
  rw [rfn_eq, strings_Repeat_c0, e1]
  rfl
theorem strings_Repeat_ok : CtOk Tryd.prog I0 33 ⟨strings_Repeat_s, strings_Repeat⟩ := ct_of_ev (env_cons bits_Mul_ok (env_cons strings_HasPrefix_ok env_nil)) strings_Repeat_t
/-! units_power -/
@[reducible] def units_power_s : Sh := ⟨[.d (.int .i64)], [], [.int .i64], [.d (.int .i64)], [], 0, [.int .i64]⟩
def units_power_e : Env := (cts [])
def units_power_h : List (Nat × Hint) := [(58, ⟨[], [3, 4, 5]⟩)]
def units_power_k1 (p : Int) (t4 : Int) (t5 : Int) : St := { fr := [(3, .d (.int .i64) p), (4, .d (.int .i64) t4), (5, .d (.int .i64) t5)], nt := 11, up := [], own := [], nx := 0, log := [], ln := 0 }
def units_power_m1 (self1 : Int → Int → Int → Option (As [.int .i64])) (p : Int) (t4 : Int) (t5 : Int) : Option (As [.int .i64]) :=
  if lt t5 t4 = true then self1 (mul .i64 p 10) t4 (add .i64 t5 1) else some (p, ())
def units_power_m0 (j1 : Int → Int → Int → Option (As [.int .i64])) (n : Int) : Option (As [.int .i64]) :=
  j1 1 n 0
def units_power_K1 (p : Int) (t4 : Int) (t5 : Int) : Option (As [.int .i64]) :=
  loopF (fun (self : (Int) × (Int) × (Int) → Option (As [.int .i64])) (s : (Int) × (Int) × (Int)) => units_power_m1 (fun p t4 t5 => self (p, t4, t5)) s.1 s.2.1 s.2.2) 18446744073709551616 (p, t4, t5)
def units_power (x : As [.int .i64]) : Option (As [.int .i64]) := units_power_m0 units_power_K1 x.1
theorem units_power_c1 (J : Orc (As [.int .i64])) (w1 : St → Option (As [.int .i64])) (p : Int) (t4 : Int) (t5 : Int) : pfn Tryd.prog units_power_e 6 18446744073709551616 (Ev.get units_power_h) 50 units_power_s J 58 [w1] (units_power_k1 p t4 t5) = units_power_m1 (fun p t4 t5 => w1 (units_power_k1 p t4 t5)) p t4 t5 := by kernel_rfl
theorem units_power_c0 (J : Orc (As [.int .i64])) (x : As [.int .i64]) : rfn Tryd.prog units_power_e 6 18446744073709551616 (Ev.get units_power_h) 50 units_power_s J x = units_power_m0 (fun p t4 t5 => J 58 [] (units_power_k1 p t4 t5)) x.1 := by kernel_rfl
theorem units_power_g1 (p : Int) (t4 : Int) (t5 : Int) : jfn Tryd.prog units_power_e 6 18446744073709551616 (Ev.get units_power_h) 50 units_power_s 58 [] (units_power_k1 p t4 t5) = units_power_K1 p t4 t5 := by
  rw [pfn_eq (by decide)]
  rw [pfn_loop (by kernel_rfl)]
  refine loopF_sim (σ := (Int) × (Int) × (Int)) (mk := fun s => units_power_k1 s.1 s.2.1 s.2.2) (fun w1 s => ?_) 18446744073709551616 (p, t4, t5)
  refine (units_power_c1 _ w1 s.1 s.2.1 s.2.2).trans ?_
  rfl
theorem units_power_t (x : As [.int .i64]) : evT Tryd.prog units_power_e 6 18446744073709551616 (Ev.get units_power_h) 50 units_power_s x = units_power x := by
  have e1 : (fun p t4 t5 => (jfn Tryd.prog units_power_e 6 18446744073709551616 (Ev.get units_power_h) 50 units_power_s) 58 [] (units_power_k1 p t4 t5)) = units_power_K1 := funext fun p => funext fun t4 => funext fun t5 => units_power_g1 p t4 t5
  rw [rfn_eq, units_power_c0, e1]
  rfl
theorem units_power_ok : CtOk Tryd.prog I0 50 ⟨units_power_s, units_power⟩ := ct_of_ev env_nil units_power_t
/-! units_Show -/
@[reducible] def units_Show_s : Sh := ⟨[.d (.pr (.int .i64) (.int .u8))], [], [.pr (.int .i64) (.int .u8)], [.d (.str)], [], 0, [.str]⟩
def units_Show_e : Env := (cts [(16, (⟨units_Right_s, units_Right⟩ : Ct)), (33, (⟨strings_Repeat_s, strings_Repeat⟩ : Ct)), (50, (⟨units_power_s, units_power⟩ : Ct)), (51, (⟨strconv_FormatInt_s, strconv_FormatInt⟩ : Ct))])
def units_Show_h : List (Nat × Hint) := [(15, ⟨[], [1, 3, 4]⟩)]
def units_Show_k1 (n : Int) (sign : List UInt8) (d : Int × Int) : St := { fr := [(1, .pb 0 0), (3, .d (.int .i64) n), (4, .d .str sign)], nt := 47, up := [], own := [(0, .box 40 [.d (.int .i64) d.1, .d (.int .u8) d.2])], nx := 1, log := [], ln := 0 }
def units_Show_m1 (n : Int) (sign : List UInt8) (d : Int × Int) : Option (As [.str]) :=
  Option.bind (units_power (cvt .i64 d.2, ())) fun (y : Int × Unit) => need (nei y.1 0) (Option.bind (strconv_FormatInt (quo .i64 n y.1, 10, ())) fun (y_1 : List UInt8 × Unit) => need (small (List.length sign + List.length y_1.1)) (if eqi d.2 0 = true then some (sign ++ y_1.1, ()) else need (nei y.1 0) (Option.bind (strconv_FormatInt (rem n y.1, 10, ())) fun (y : List UInt8 × Unit) => need (small (List.length (sign ++ y_1.1) + 1)) (Option.bind (strings_Repeat ([48], Sx.sub .i64 (cvt .i64 d.2) (Int.ofNat (List.length y.1)), ())) fun (y_2 : List UInt8 × Unit) => need (small (List.length (sign ++ y_1.1 ++ [46]) + List.length y_2.1)) (need (small (List.length (sign ++ y_1.1 ++ [46] ++ y_2.1) + List.length y.1)) (some (sign ++ y_1.1 ++ [46] ++ y_2.1 ++ y.1, ())))))))
def units_Show_m0 (j1 : Int → List UInt8 → Int × Int → Option (As [.str])) (d : Int × Int) : Option (As [.str]) :=
  Option.bind (units_Right (d, ())) fun (y : Bool × Unit) => if (!y.1) = true then some ([], ()) else if lt d.1 0 = true then j1 (Sx.neg .i64 d.1) [45] d else j1 d.1 [] d
def units_Show_K1 (n : Int) (sign : List UInt8) (d : Int × Int) : Option (As [.str]) := units_Show_m1 n sign d
def units_Show (x : As [.pr (.int .i64) (.int .u8)]) : Option (As [.str]) := units_Show_m0 units_Show_K1 x.1
theorem units_Show_c1 (J : Orc (As [.str])) (n : Int) (sign : List UInt8) (d : Int × Int) : pfn Tryd.prog units_Show_e 6 18446744073709551616 (Ev.get units_Show_h) 18 units_Show_s J 15 [] (units_Show_k1 n sign d) = units_Show_m1 n sign d := by kernel_rfl
theorem units_Show_c0 (J : Orc (As [.str])) (x : As [.pr (.int .i64) (.int .u8)]) : rfn Tryd.prog units_Show_e 6 18446744073709551616 (Ev.get units_Show_h) 18 units_Show_s J x = units_Show_m0 (fun n sign d => J 15 [] (units_Show_k1 n sign d)) x.1 := by kernel_rfl
theorem units_Show_g1 (n : Int) (sign : List UInt8) (d : Int × Int) : jfn Tryd.prog units_Show_e 6 18446744073709551616 (Ev.get units_Show_h) 18 units_Show_s 15 [] (units_Show_k1 n sign d) = units_Show_K1 n sign d := by
  rw [pfn_eq (by decide)]
  rw [units_Show_c1]
  rfl
theorem units_Show_t (x : As [.pr (.int .i64) (.int .u8)]) : evT Tryd.prog units_Show_e 6 18446744073709551616 (Ev.get units_Show_h) 18 units_Show_s x = units_Show x := by
  have e1 : (fun n sign d => (jfn Tryd.prog units_Show_e 6 18446744073709551616 (Ev.get units_Show_h) 18 units_Show_s) 15 [] (units_Show_k1 n sign d)) = units_Show_K1 := funext fun n => funext fun sign => funext fun d => units_Show_g1 n sign d
  rw [rfn_eq, units_Show_c0, e1]
  rfl
theorem units_Show_ok : CtOk Tryd.prog I0 18 ⟨units_Show_s, units_Show⟩ := ct_of_ev (env_cons units_Right_ok (env_cons strings_Repeat_ok (env_cons units_power_ok (env_cons strconv_FormatInt_ok env_nil)))) units_Show_t
/-! bits_LeadingZeros64 -/
@[reducible] def bits_LeadingZeros64_s : Sh := ⟨[.d (.int .u64)], [], [.int .u64], [.d (.int .i64)], [], 0, [.int .i64]⟩
def bits_LeadingZeros64_e : Env := (cts [])
def bits_LeadingZeros64_h : List (Nat × Hint) := []
def bits_LeadingZeros64_m0 (x : Int) : Option (As [.int .i64]) :=
  if ge x 4294967296 = true then if ge (Sx.shr .u64 x 32) 65536 = true then if ge (Sx.shr .u64 (Sx.shr .u64 x 32) 16) 256 = true then Option.bind (at? [0, 1, 2, 2, 3, 3, 3, 3, 4, 4, 4, 4, 4, 4, 4, 4, 5, 5, 5, 5, 5, 5, 5, 5, 5, 5, 5, 5, 5, 5, 5, 5, 6, 6, 6, 6, 6, 6, 6, 6, 6, 6, 6, 6, 6, 6, 6, 6, 6, 6, 6, 6, 6, 6, 6, 6, 6, 6, 6, 6, 6, 6, 6, 6, 7, 7, 7, 7, 7, 7, 7, 7, 7, 7, 7, 7, 7, 7, 7, 7, 7, 7, 7, 7, 7, 7, 7, 7, 7, 7, 7, 7, 7, 7, 7, 7, 7, 7, 7, 7, 7, 7, 7, 7, 7, 7, 7, 7, 7, 7, 7, 7, 7, 7, 7, 7, 7, 7, 7, 7, 7, 7, 7, 7, 7, 7, 7, 7, 8, 8, 8, 8, 8, 8, 8, 8, 8, 8, 8, 8, 8, 8, 8, 8, 8, 8, 8, 8, 8, 8, 8, 8, 8, 8, 8, 8, 8, 8, 8, 8, 8, 8, 8, 8, 8, 8, 8, 8, 8, 8, 8, 8, 8, 8, 8, 8, 8, 8, 8, 8, 8, 8, 8, 8, 8, 8, 8, 8, 8, 8, 8, 8, 8, 8, 8, 8, 8, 8, 8, 8, 8, 8, 8, 8, 8, 8, 8, 8, 8, 8, 8, 8, 8, 8, 8, 8, 8, 8, 8, 8, 8, 8, 8, 8, 8, 8, 8, 8, 8, 8, 8, 8, 8, 8, 8, 8, 8, 8, 8, 8, 8, 8, 8, 8, 8, 8, 8, 8, 8, 8, 8, 8, 8, 8, 8, 8] (cvt .u8 (Sx.shr .u64 (Sx.shr .u64 (Sx.shr .u64 x 32) 16) 8))) fun (c : UInt8) => some (Sx.sub .i64 64 (add .i64 56 (cvt .i64 (Int.ofNat (UInt8.toNat c)))), ()) else Option.bind (at? [0, 1, 2, 2, 3, 3, 3, 3, 4, 4, 4, 4, 4, 4, 4, 4, 5, 5, 5, 5, 5, 5, 5, 5, 5, 5, 5, 5, 5, 5, 5, 5, 6, 6, 6, 6, 6, 6, 6, 6, 6, 6, 6, 6, 6, 6, 6, 6, 6, 6, 6, 6, 6, 6, 6, 6, 6, 6, 6, 6, 6, 6, 6, 6, 7, 7, 7, 7, 7, 7, 7, 7, 7, 7, 7, 7, 7, 7, 7, 7, 7, 7, 7, 7, 7, 7, 7, 7, 7, 7, 7, 7, 7, 7, 7, 7, 7, 7, 7, 7, 7, 7, 7, 7, 7, 7, 7, 7, 7, 7, 7, 7, 7, 7, 7, 7, 7, 7, 7, 7, 7, 7, 7, 7, 7, 7, 7, 7, 8, 8, 8, 8, 8, 8, 8, 8, 8, 8, 8, 8, 8, 8, 8, 8, 8, 8, 8, 8, 8, 8, 8, 8, 8, 8, 8, 8, 8, 8, 8, 8, 8, 8, 8, 8, 8, 8, 8, 8, 8, 8, 8, 8, 8, 8, 8, 8, 8, 8, 8, 8, 8, 8, 8, 8, 8, 8, 8, 8, 8, 8, 8, 8, 8, 8, 8, 8, 8, 8, 8, 8, 8, 8, 8, 8, 8, 8, 8, 8, 8, 8, 8, 8, 8, 8, 8, 8, 8, 8, 8, 8, 8, 8, 8, 8, 8, 8, 8, 8, 8, 8, 8, 8, 8, 8, 8, 8, 8, 8, 8, 8, 8, 8, 8, 8, 8, 8, 8, 8, 8, 8, 8, 8, 8, 8, 8, 8] (cvt .u8 (Sx.shr .u64 (Sx.shr .u64 x 32) 16))) fun (c : UInt8) => some (Sx.sub .i64 64 (add .i64 48 (cvt .i64 (Int.ofNat (UInt8.toNat c)))), ()) else if ge (Sx.shr .u64 x 32) 256 = true then Option.bind (at? [0, 1, 2, 2, 3, 3, 3, 3, 4, 4, 4, 4, 4, 4, 4, 4, 5, 5, 5, 5, 5, 5, 5, 5, 5, 5, 5, 5, 5, 5, 5, 5, 6, 6, 6, 6, 6, 6, 6, 6, 6, 6, 6, 6, 6, 6, 6, 6, 6, 6, 6, 6, 6, 6, 6, 6, 6, 6, 6, 6, 6, 6, 6, 6, 7, 7, 7, 7, 7, 7, 7, 7, 7, 7, 7, 7, 7, 7, 7, 7, 7, 7, 7, 7, 7, 7, 7, 7, 7, 7, 7, 7, 7, 7, 7, 7, 7, 7, 7, 7, 7, 7, 7, 7, 7, 7, 7, 7, 7, 7, 7, 7, 7, 7, 7, 7, 7, 7, 7, 7, 7, 7, 7, 7, 7, 7, 7, 7, 8, 8, 8, 8, 8, 8, 8, 8, 8, 8, 8, 8, 8, 8, 8, 8, 8, 8, 8, 8, 8, 8, 8, 8, 8, 8, 8, 8, 8, 8, 8, 8, 8, 8, 8, 8, 8, 8, 8, 8, 8, 8, 8, 8, 8, 8, 8, 8, 8, 8, 8, 8, 8, 8, 8, 8, 8, 8, 8, 8, 8, 8, 8, 8, 8, 8, 8, 8, 8, 8, 8, 8, 8, 8, 8, 8, 8, 8, 8, 8, 8, 8, 8, 8, 8, 8, 8, 8, 8, 8, 8, 8, 8, 8, 8, 8, 8, 8, 8, 8, 8, 8, 8, 8, 8, 8, 8, 8, 8, 8, 8, 8, 8, 8, 8, 8, 8, 8, 8, 8, 8, 8, 8, 8, 8, 8, 8, 8] (cvt .u8 (Sx.shr .u64 (Sx.shr .u64 x 32) 8))) fun (c : UInt8) => some (Sx.sub .i64 64 (add .i64 40 (cvt .i64 (Int.ofNat (UInt8.toNat c)))), ()) else Option.bind (at? [0, 1, 2, 2, 3, 3, 3, 3, 4, 4, 4, 4, 4, 4, 4, 4, 5, 5, 5, 5, 5, 5, 5, 5, 5, 5, 5, 5, 5, 5, 5, 5, 6, 6, 6, 6, 6, 6, 6, 6, 6, 6, 6, 6, 6, 6, 6, 6, 6, 6, 6, 6, 6, 6, 6, 6, 6, 6, 6, 6, 6, 6, 6, 6, 7, 7, 7, 7, 7, 7, 7, 7, 7, 7, 7, 7, 7, 7, 7, 7, 7, 7, 7, 7, 7, 7, 7, 7, 7, 7, 7, 7, 7, 7, 7, 7, 7, 7, 7, 7, 7, 7, 7, 7, 7, 7, 7, 7, 7, 7, 7, 7, 7, 7, 7, 7, 7, 7, 7, 7, 7, 7, 7, 7, 7, 7, 7, 7, 8, 8, 8, 8, 8, 8, 8, 8, 8, 8, 8, 8, 8, 8, 8, 8, 8, 8, 8, 8, 8, 8, 8, 8, 8, 8, 8, 8, 8, 8, 8, 8, 8, 8, 8, 8, 8, 8, 8, 8, 8, 8, 8, 8, 8, 8, 8, 8, 8, 8, 8, 8, 8, 8, 8, 8, 8, 8, 8, 8, 8, 8, 8, 8, 8, 8, 8, 8, 8, 8, 8, 8, 8, 8, 8, 8, 8, 8, 8, 8, 8, 8, 8, 8, 8, 8, 8, 8, 8, 8, 8, 8, 8, 8, 8, 8, 8, 8, 8, 8, 8, 8, 8, 8, 8, 8, 8, 8, 8, 8, 8, 8, 8, 8, 8, 8, 8, 8, 8, 8, 8, 8, 8, 8, 8, 8, 8, 8] (cvt .u8 (Sx.shr .u64 x 32))) fun (c : UInt8) => some (Sx.sub .i64 64 (add .i64 32 (cvt .i64 (Int.ofNat (UInt8.toNat c)))), ()) else if ge x 65536 = true then if ge (Sx.shr .u64 x 16) 256 = true then Option.bind (at? [0, 1, 2, 2, 3, 3, 3, 3, 4, 4, 4, 4, 4, 4, 4, 4, 5, 5, 5, 5, 5, 5, 5, 5, 5, 5, 5, 5, 5, 5, 5, 5, 6, 6, 6, 6, 6, 6, 6, 6, 6, 6, 6, 6, 6, 6, 6, 6, 6, 6, 6, 6, 6, 6, 6, 6, 6, 6, 6, 6, 6, 6, 6, 6, 7, 7, 7, 7, 7, 7, 7, 7, 7, 7, 7, 7, 7, 7, 7, 7, 7, 7, 7, 7, 7, 7, 7, 7, 7, 7, 7, 7, 7, 7, 7, 7, 7, 7, 7, 7, 7, 7, 7, 7, 7, 7, 7, 7, 7, 7, 7, 7, 7, 7, 7, 7, 7, 7, 7, 7, 7, 7, 7, 7, 7, 7, 7, 7, 8, 8, 8, 8, 8, 8, 8, 8, 8, 8, 8, 8, 8, 8, 8, 8, 8, 8, 8, 8, 8, 8, 8, 8, 8, 8, 8, 8, 8, 8, 8, 8, 8, 8, 8, 8, 8, 8, 8, 8, 8, 8, 8, 8, 8, 8, 8, 8, 8, 8, 8, 8, 8, 8, 8, 8, 8, 8, 8, 8, 8, 8, 8, 8, 8, 8, 8, 8, 8, 8, 8, 8, 8, 8, 8, 8, 8, 8, 8, 8, 8, 8, 8, 8, 8, 8, 8, 8, 8, 8, 8, 8, 8, 8, 8, 8, 8, 8, 8, 8, 8, 8, 8, 8, 8, 8, 8, 8, 8, 8, 8, 8, 8, 8, 8, 8, 8, 8, 8, 8, 8, 8, 8, 8, 8, 8, 8, 8] (cvt .u8 (Sx.shr .u64 (Sx.shr .u64 x 16) 8))) fun (c : UInt8) => some (Sx.sub .i64 64 (add .i64 24 (cvt .i64 (Int.ofNat (UInt8.toNat c)))), ()) else Option.bind (at? [0, 1, 2, 2, 3, 3, 3, 3, 4, 4, 4, 4, 4, 4, 4, 4, 5, 5, 5, 5, 5, 5, 5, 5, 5, 5, 5, 5, 5, 5, 5, 5, 6, 6, 6, 6, 6, 6, 6, 6, 6, 6, 6, 6, 6, 6, 6, 6, 6, 6, 6, 6, 6, 6, 6, 6, 6, 6, 6, 6, 6, 6, 6, 6, 7, 7, 7, 7, 7, 7, 7, 7, 7, 7, 7, 7, 7, 7, 7, 7, 7, 7, 7, 7, 7, 7, 7, 7, 7, 7, 7, 7, 7, 7, 7, 7, 7, 7, 7, 7, 7, 7, 7, 7, 7, 7, 7, 7, 7, 7, 7, 7, 7, 7, 7, 7, 7, 7, 7, 7, 7, 7, 7, 7, 7, 7, 7, 7, 8, 8, 8, 8, 8, 8, 8, 8, 8, 8, 8, 8, 8, 8, 8, 8, 8, 8, 8, 8, 8, 8, 8, 8, 8, 8, 8, 8, 8, 8, 8, 8, 8, 8, 8, 8, 8, 8, 8, 8, 8, 8, 8, 8, 8, 8, 8, 8, 8, 8, 8, 8, 8, 8, 8, 8, 8, 8, 8, 8, 8, 8, 8, 8, 8, 8, 8, 8, 8, 8, 8, 8, 8, 8, 8, 8, 8, 8, 8, 8, 8, 8, 8, 8, 8, 8, 8, 8, 8, 8, 8, 8, 8, 8, 8, 8, 8, 8, 8, 8, 8, 8, 8, 8, 8, 8, 8, 8, 8, 8, 8, 8, 8, 8, 8, 8, 8, 8, 8, 8, 8, 8, 8, 8, 8, 8, 8, 8] (cvt .u8 (Sx.shr .u64 x 16))) fun (c : UInt8) => some (Sx.sub .i64 64 (add .i64 16 (cvt .i64 (Int.ofNat (UInt8.toNat c)))), ()) else if ge x 256 = true then Option.bind (at? [0, 1, 2, 2, 3, 3, 3, 3, 4, 4, 4, 4, 4, 4, 4, 4, 5, 5, 5, 5, 5, 5, 5, 5, 5, 5, 5, 5, 5, 5, 5, 5, 6, 6, 6, 6, 6, 6, 6, 6, 6, 6, 6, 6, 6, 6, 6, 6, 6, 6, 6, 6, 6, 6, 6, 6, 6, 6, 6, 6, 6, 6, 6, 6, 7, 7, 7, 7, 7, 7, 7, 7, 7, 7, 7, 7, 7, 7, 7, 7, 7, 7, 7, 7, 7, 7, 7, 7, 7, 7, 7, 7, 7, 7, 7, 7, 7, 7, 7, 7, 7, 7, 7, 7, 7, 7, 7, 7, 7, 7, 7, 7, 7, 7, 7, 7, 7, 7, 7, 7, 7, 7, 7, 7, 7, 7, 7, 7, 8, 8, 8, 8, 8, 8, 8, 8, 8, 8, 8, 8, 8, 8, 8, 8, 8, 8, 8, 8, 8, 8, 8, 8, 8, 8, 8, 8, 8, 8, 8, 8, 8, 8, 8, 8, 8, 8, 8, 8, 8, 8, 8, 8, 8, 8, 8, 8, 8, 8, 8, 8, 8, 8, 8, 8, 8, 8, 8, 8, 8, 8, 8, 8, 8, 8, 8, 8, 8, 8, 8, 8, 8, 8, 8, 8, 8, 8, 8, 8, 8, 8, 8, 8, 8, 8, 8, 8, 8, 8, 8, 8, 8, 8, 8, 8, 8, 8, 8, 8, 8, 8, 8, 8, 8, 8, 8, 8, 8, 8, 8, 8, 8, 8, 8, 8, 8, 8, 8, 8, 8, 8, 8, 8, 8, 8, 8, 8] (cvt .u8 (Sx.shr .u64 x 8))) fun (c : UInt8) => some (Sx.sub .i64 64 (add .i64 8 (cvt .i64 (Int.ofNat (UInt8.toNat c)))), ()) else Option.bind (at? [0, 1, 2, 2, 3, 3, 3, 3, 4, 4, 4, 4, 4, 4, 4, 4, 5, 5, 5, 5, 5, 5, 5, 5, 5, 5, 5, 5, 5, 5, 5, 5, 6, 6, 6, 6, 6, 6, 6, 6, 6, 6, 6, 6, 6, 6, 6, 6, 6, 6, 6, 6, 6, 6, 6, 6, 6, 6, 6, 6, 6, 6, 6, 6, 7, 7, 7, 7, 7, 7, 7, 7, 7, 7, 7, 7, 7, 7, 7, 7, 7, 7, 7, 7, 7, 7, 7, 7, 7, 7, 7, 7, 7, 7, 7, 7, 7, 7, 7, 7, 7, 7, 7, 7, 7, 7, 7, 7, 7, 7, 7, 7, 7, 7, 7, 7, 7, 7, 7, 7, 7, 7, 7, 7, 7, 7, 7, 7, 8, 8, 8, 8, 8, 8, 8, 8, 8, 8, 8, 8, 8, 8, 8, 8, 8, 8, 8, 8, 8, 8, 8, 8, 8, 8, 8, 8, 8, 8, 8, 8, 8, 8, 8, 8, 8, 8, 8, 8, 8, 8, 8, 8, 8, 8, 8, 8, 8, 8, 8, 8, 8, 8, 8, 8, 8, 8, 8, 8, 8, 8, 8, 8, 8, 8, 8, 8, 8, 8, 8, 8, 8, 8, 8, 8, 8, 8, 8, 8, 8, 8, 8, 8, 8, 8, 8, 8, 8, 8, 8, 8, 8, 8, 8, 8, 8, 8, 8, 8, 8, 8, 8, 8, 8, 8, 8, 8, 8, 8, 8, 8, 8, 8, 8, 8, 8, 8, 8, 8, 8, 8, 8, 8, 8, 8, 8, 8] (cvt .u8 x)) fun (c : UInt8) => some (Sx.sub .i64 64 (add .i64 0 (cvt .i64 (Int.ofNat (UInt8.toNat c)))), ())
def bits_LeadingZeros64 (x : As [.int .u64]) : Option (As [.int .i64]) := bits_LeadingZeros64_m0 x.1
theorem bits_LeadingZeros64_c0 (J : Orc (As [.int .i64])) (x : As [.int .u64]) : rfn Tryd.prog bits_LeadingZeros64_e 6 18446744073709551616 (Ev.get bits_LeadingZeros64_h) 89 bits_LeadingZeros64_s J x = bits_LeadingZeros64_m0 x.1 := by kernel_rfl
theorem bits_LeadingZeros64_t (x : As [.int .u64]) : evT Tryd.prog bits_LeadingZeros64_e 6 18446744073709551616 (Ev.get bits_LeadingZeros64_h) 89 bits_LeadingZeros64_s x = bits_LeadingZeros64 x := by
  rw [rfn_eq, bits_LeadingZeros64_c0]
  rfl
theorem bits_LeadingZeros64_ok : CtOk Tryd.prog I0 89 ⟨bits_LeadingZeros64_s, bits_LeadingZeros64⟩ := ct_of_ev env_nil bits_LeadingZeros64_t
/-! bits_Div64 -/
@[reducible] def bits_Div64_s : Sh := ⟨[.d (.int .u64), .d (.int .u64), .d (.int .u64)], [], [.int .u64, .int .u64, .int .u64], [.d (.int .u64), .d (.int .u64)], [], 0, [.int .u64, .int .u64]⟩
def bits_Div64_e : Env := (cts [(89, (⟨bits_LeadingZeros64_s, bits_LeadingZeros64⟩ : Ct))])
def bits_Div64_h : List (Nat × Hint) := [(3, ⟨[], [0, 1, 2, 70, 71, 72, 73, 74, 75, 76, 77, 105, 106, 107, 108, 109, 110, 111, 112]⟩), (7, ⟨[], [0, 1, 2, 70, 71, 72, 73, 74, 75, 76, 77, 105, 106, 107, 108, 109, 110, 111, 112]⟩), (32767, ⟨[], [2, 8, 9, 10, 11, 13, 14, 15, 105, 106, 107, 108, 109, 110, 111, 112]⟩), (524287, ⟨[], [2, 8, 14, 15, 17, 18]⟩), (2097148, ⟨[], [2, 8, 9, 10, 14, 15, 16, 17, 18, 105, 106, 107, 108, 109, 110, 111, 112]⟩), (8388592, ⟨[], [2, 8, 9, 10, 14, 15, 16, 17, 18, 113]⟩), (131068, ⟨[], [2, 8, 9, 10, 11, 13, 14, 15, 16, 70, 71, 72, 73, 74, 75, 76, 77, 105, 106, 107, 108, 109, 110, 111, 112]⟩), (524272, ⟨[], [2, 8, 9, 10, 11, 13, 14, 15, 16, 78]⟩)]
def bits_Div64_k1 (hi : Int) (lo : Int) (y : Int) : St := { fr := [(0, .d (.int .u64) hi), (1, .d (.int .u64) lo), (2, .d (.int .u64) y)], nt := 135, up := [], own := [], nx := 0, log := [], ln := 0 }
def bits_Div64_k2 (hi : Int) (lo : Int) (y : Int) : St := { fr := [(0, .d (.int .u64) hi), (1, .d (.int .u64) lo), (2, .d (.int .u64) y)], nt := 135, up := [], own := [], nx := 0, log := [], ln := 0 }
def bits_Div64_k3 (y : Int) (s : Int) (yn1 : Int) (yn0 : Int) (un32 : Int) (un1 : Int) (un0 : Int) (q1 : Int) (rhat : Int) : St := { fr := [(2, .d (.int .u64) y), (8, .d (.int .u64) s), (9, .d (.int .u64) yn1), (10, .d (.int .u64) yn0), (11, .d (.int .u64) un32), (13, .d (.int .u64) un1), (14, .d (.int .u64) un0), (15, .d (.int .u64) q1), (16, .d (.int .u64) rhat)], nt := 135, up := [], own := [], nx := 0, log := [], ln := 0 }
def bits_Div64_k4 (y : Int) (s : Int) (yn1 : Int) (yn0 : Int) (un32 : Int) (un1 : Int) (un0 : Int) (q1 : Int) (rhat : Int) (t78 : Bool) : St := { fr := [(2, .d (.int .u64) y), (8, .d (.int .u64) s), (9, .d (.int .u64) yn1), (10, .d (.int .u64) yn0), (11, .d (.int .u64) un32), (13, .d (.int .u64) un1), (14, .d (.int .u64) un0), (15, .d (.int .u64) q1), (16, .d (.int .u64) rhat), (78, .d .bool t78)], nt := 135, up := [], own := [], nx := 0, log := [], ln := 0 }
def bits_Div64_k5 (y : Int) (s : Int) (yn1 : Int) (yn0 : Int) (un32 : Int) (un1 : Int) (un0 : Int) (q1 : Int) : St := { fr := [(2, .d (.int .u64) y), (8, .d (.int .u64) s), (9, .d (.int .u64) yn1), (10, .d (.int .u64) yn0), (11, .d (.int .u64) un32), (13, .d (.int .u64) un1), (14, .d (.int .u64) un0), (15, .d (.int .u64) q1)], nt := 135, up := [], own := [], nx := 0, log := [], ln := 0 }
def bits_Div64_k6 (y : Int) (s : Int) (yn1 : Int) (yn0 : Int) (un0 : Int) (q1 : Int) (rhat : Int) (un21 : Int) (q0 : Int) : St := { fr := [(2, .d (.int .u64) y), (8, .d (.int .u64) s), (9, .d (.int .u64) yn1), (10, .d (.int .u64) yn0), (14, .d (.int .u64) un0), (15, .d (.int .u64) q1), (16, .d (.int .u64) rhat), (17, .d (.int .u64) un21), (18, .d (.int .u64) q0)], nt := 135, up := [], own := [], nx := 0, log := [], ln := 0 }
def bits_Div64_k7 (y : Int) (s : Int) (yn1 : Int) (yn0 : Int) (un0 : Int) (q1 : Int) (rhat : Int) (un21 : Int) (q0 : Int) (t113 : Bool) : St := { fr := [(2, .d (.int .u64) y), (8, .d (.int .u64) s), (9, .d (.int .u64) yn1), (10, .d (.int .u64) yn0), (14, .d (.int .u64) un0), (15, .d (.int .u64) q1), (16, .d (.int .u64) rhat), (17, .d (.int .u64) un21), (18, .d (.int .u64) q0), (113, .d .bool t113)], nt := 135, up := [], own := [], nx := 0, log := [], ln := 0 }
def bits_Div64_k8 (y : Int) (s : Int) (un0 : Int) (q1 : Int) (un21 : Int) (q0 : Int) : St := { fr := [(2, .d (.int .u64) y), (8, .d (.int .u64) s), (14, .d (.int .u64) un0), (15, .d (.int .u64) q1), (17, .d (.int .u64) un21), (18, .d (.int .u64) q0)], nt := 135, up := [], own := [], nx := 0, log := [], ln := 0 }
def bits_Div64_m1 (j2 : Int → Int → Int → Option (As [.int .u64, .int .u64])) (hi : Int) (lo : Int) (y : Int) : Option (As [.int .u64, .int .u64]) :=
  if le y hi = true then Option.none else j2 hi lo y
def bits_Div64_m2 (j3 : Int → Int → Int → Int → Int → Int → Int → Int → Int → Option (As [.int .u64, .int .u64])) (hi : Int) (lo : Int) (y : Int) : Option (As [.int .u64, .int .u64]) :=
  if eqi hi 0 = true then need (nei y 0) (need (nei y 0) (some (quo .u64 lo y, rem lo y, ()))) else Option.bind (bits_LeadingZeros64 (y, ())) fun (y_1 : Int × Unit) => need (ge (cvt .u64 y_1.1) 0) (need (ge (cvt .u64 y_1.1) 0) (need (ge (Sx.sub .u64 64 (cvt .u64 y_1.1)) 0) (need (ge (cvt .u64 y_1.1) 0) (need (nei (Sx.shr .u64 (Sx.shl .u64 y (cvt .u64 y_1.1)) 32) 0) (j3 (Sx.shl .u64 y (cvt .u64 y_1.1)) (cvt .u64 y_1.1) (Sx.shr .u64 (Sx.shl .u64 y (cvt .u64 y_1.1)) 32) (Sx.band .u64 (Sx.shl .u64 y (cvt .u64 y_1.1)) 4294967295) (Sx.bor .u64 (Sx.shl .u64 hi (cvt .u64 y_1.1)) (Sx.shr .u64 lo (Sx.sub .u64 64 (cvt .u64 y_1.1)))) (Sx.shr .u64 (Sx.shl .u64 lo (cvt .u64 y_1.1)) 32) (Sx.band .u64 (Sx.shl .u64 lo (cvt .u64 y_1.1)) 4294967295) (quo .u64 (Sx.bor .u64 (Sx.shl .u64 hi (cvt .u64 y_1.1)) (Sx.shr .u64 lo (Sx.sub .u64 64 (cvt .u64 y_1.1)))) (Sx.shr .u64 (Sx.shl .u64 y (cvt .u64 y_1.1)) 32)) (Sx.sub .u64 (Sx.bor .u64 (Sx.shl .u64 hi (cvt .u64 y_1.1)) (Sx.shr .u64 lo (Sx.sub .u64 64 (cvt .u64 y_1.1)))) (mul .u64 (quo .u64 (Sx.bor .u64 (Sx.shl .u64 hi (cvt .u64 y_1.1)) (Sx.shr .u64 lo (Sx.sub .u64 64 (cvt .u64 y_1.1)))) (Sx.shr .u64 (Sx.shl .u64 y (cvt .u64 y_1.1)) 32)) (Sx.shr .u64 (Sx.shl .u64 y (cvt .u64 y_1.1)) 32))))))))
def bits_Div64_m3 (j4 : Int → Int → Int → Int → Int → Int → Int → Int → Int → Bool → Option (As [.int .u64, .int .u64])) (self3 : Int → Int → Int → Int → Int → Int → Int → Int → Int → Option (As [.int .u64, .int .u64])) (y : Int) (s : Int) (yn1 : Int) (yn0 : Int) (un32 : Int) (un1 : Int) (un0 : Int) (q1 : Int) (rhat : Int) : Option (As [.int .u64, .int .u64]) :=
  if ge q1 4294967296 = true then j4 y s yn1 yn0 un32 un1 un0 q1 rhat true else j4 y s yn1 yn0 un32 un1 un0 q1 rhat (gt (mul .u64 q1 yn0) (add .u64 (mul .u64 4294967296 rhat) un1))
def bits_Div64_m4 (j5 : Int → Int → Int → Int → Int → Int → Int → Int → Option (As [.int .u64, .int .u64])) (self3 : Int → Int → Int → Int → Int → Int → Int → Int → Int → Option (As [.int .u64, .int .u64])) (y : Int) (s : Int) (yn1 : Int) (yn0 : Int) (un32 : Int) (un1 : Int) (un0 : Int) (q1 : Int) (rhat : Int) (t78 : Bool) : Option (As [.int .u64, .int .u64]) :=
  if t78 = true then if ge (add .u64 rhat yn1) 4294967296 = true then j5 y s yn1 yn0 un32 un1 un0 (Sx.sub .u64 q1 1) else self3 y s yn1 yn0 un32 un1 un0 (Sx.sub .u64 q1 1) (add .u64 rhat yn1) else j5 y s yn1 yn0 un32 un1 un0 q1
def bits_Div64_m5 (j6 : Int → Int → Int → Int → Int → Int → Int → Int → Int → Option (As [.int .u64, .int .u64])) (y : Int) (s : Int) (yn1 : Int) (yn0 : Int) (un32 : Int) (un1 : Int) (un0 : Int) (q1 : Int) : Option (As [.int .u64, .int .u64]) :=
  need (nei yn1 0) (j6 y s yn1 yn0 un0 q1 (Sx.sub .u64 (Sx.sub .u64 (add .u64 (mul .u64 un32 4294967296) un1) (mul .u64 q1 y)) (mul .u64 (quo .u64 (Sx.sub .u64 (add .u64 (mul .u64 un32 4294967296) un1) (mul .u64 q1 y)) yn1) yn1)) (Sx.sub .u64 (add .u64 (mul .u64 un32 4294967296) un1) (mul .u64 q1 y)) (quo .u64 (Sx.sub .u64 (add .u64 (mul .u64 un32 4294967296) un1) (mul .u64 q1 y)) yn1))
def bits_Div64_m6 (j7 : Int → Int → Int → Int → Int → Int → Int → Int → Int → Bool → Option (As [.int .u64, .int .u64])) (self6 : Int → Int → Int → Int → Int → Int → Int → Int → Int → Option (As [.int .u64, .int .u64])) (y : Int) (s : Int) (yn1 : Int) (yn0 : Int) (un0 : Int) (q1 : Int) (rhat : Int) (un21 : Int) (q0 : Int) : Option (As [.int .u64, .int .u64]) :=
  if ge q0 4294967296 = true then j7 y s yn1 yn0 un0 q1 rhat un21 q0 true else j7 y s yn1 yn0 un0 q1 rhat un21 q0 (gt (mul .u64 q0 yn0) (add .u64 (mul .u64 4294967296 rhat) un0))
def bits_Div64_m7 (j8 : Int → Int → Int → Int → Int → Int → Option (As [.int .u64, .int .u64])) (self6 : Int → Int → Int → Int → Int → Int → Int → Int → Int → Option (As [.int .u64, .int .u64])) (y : Int) (s : Int) (yn1 : Int) (yn0 : Int) (un0 : Int) (q1 : Int) (rhat : Int) (un21 : Int) (q0 : Int) (t113 : Bool) : Option (As [.int .u64, .int .u64]) :=
  if t113 = true then if ge (add .u64 rhat yn1) 4294967296 = true then j8 y s un0 q1 un21 (Sx.sub .u64 q0 1) else self6 y s yn1 yn0 un0 q1 (add .u64 rhat yn1) un21 (Sx.sub .u64 q0 1) else j8 y s un0 q1 un21 q0
def bits_Div64_m8 (y : Int) (s : Int) (un0 : Int) (q1 : Int) (un21 : Int) (q0 : Int) : Option (As [.int .u64, .int .u64]) :=
  need (ge s 0) (some (add .u64 (mul .u64 q1 4294967296) q0, Sx.shr .u64 (Sx.sub .u64 (add .u64 (mul .u64 un21 4294967296) un0) (mul .u64 q0 y)) s, ()))
def bits_Div64_m0 (j1 : Int → Int → Int → Option (As [.int .u64, .int .u64])) (hi : Int) (lo : Int) (y : Int) : Option (As [.int .u64, .int .u64]) :=
  if eqi y 0 = true then Option.none else j1 hi lo y
def bits_Div64_K8 (y : Int) (s : Int) (un0 : Int) (q1 : Int) (un21 : Int) (q0 : Int) : Option (As [.int .u64, .int .u64]) := bits_Div64_m8 y s un0 q1 un21 q0
def bits_Div64_K7 (u6 : Int → Int → Int → Int → Int → Int → Int → Int → Int → Option (As [.int .u64, .int .u64])) (y : Int) (s : Int) (yn1 : Int) (yn0 : Int) (un0 : Int) (q1 : Int) (rhat : Int) (un21 : Int) (q0 : Int) (t113 : Bool) : Option (As [.int .u64, .int .u64]) := bits_Div64_m7 (bits_Div64_K8) u6 y s yn1 yn0 un0 q1 rhat un21 q0 t113
def bits_Div64_K6 (y : Int) (s : Int) (yn1 : Int) (yn0 : Int) (un0 : Int) (q1 : Int) (rhat : Int) (un21 : Int) (q0 : Int) : Option (As [.int .u64, .int .u64]) :=
  loopF (fun (self : (Int) × (Int) × (Int) × (Int) × (Int) × (Int) × (Int) × (Int) × (Int) → Option (As [.int .u64, .int .u64])) (s : (Int) × (Int) × (Int) × (Int) × (Int) × (Int) × (Int) × (Int) × (Int)) => bits_Div64_m6 (bits_Div64_K7 (fun y s yn1 yn0 un0 q1 rhat un21 q0 => self (y, s, yn1, yn0, un0, q1, rhat, un21, q0))) (fun y s yn1 yn0 un0 q1 rhat un21 q0 => self (y, s, yn1, yn0, un0, q1, rhat, un21, q0)) s.1 s.2.1 s.2.2.1 s.2.2.2.1 s.2.2.2.2.1 s.2.2.2.2.2.1 s.2.2.2.2.2.2.1 s.2.2.2.2.2.2.2.1 s.2.2.2.2.2.2.2.2) 18446744073709551616 (y, s, yn1, yn0, un0, q1, rhat, un21, q0)
def bits_Div64_K5 (y : Int) (s : Int) (yn1 : Int) (yn0 : Int) (un32 : Int) (un1 : Int) (un0 : Int) (q1 : Int) : Option (As [.int .u64, .int .u64]) := bits_Div64_m5 (bits_Div64_K6) y s yn1 yn0 un32 un1 un0 q1
def bits_Div64_K4 (u3 : Int → Int → Int → Int → Int → Int → Int → Int → Int → Option (As [.int .u64, .int .u64])) (y : Int) (s : Int) (yn1 : Int) (yn0 : Int) (un32 : Int) (un1 : Int) (un0 : Int) (q1 : Int) (rhat : Int) (t78 : Bool) : Option (As [.int .u64, .int .u64]) := bits_Div64_m4 (bits_Div64_K5) u3 y s yn1 yn0 un32 un1 un0 q1 rhat t78
def bits_Div64_K3 (y : Int) (s : Int) (yn1 : Int) (yn0 : Int) (un32 : Int) (un1 : Int) (un0 : Int) (q1 : Int) (rhat : Int) : Option (As [.int .u64, .int .u64]) :=
  loopF (fun (self : (Int) × (Int) × (Int) × (Int) × (Int) × (Int) × (Int) × (Int) × (Int) → Option (As [.int .u64, .int .u64])) (s : (Int) × (Int) × (Int) × (Int) × (Int) × (Int) × (Int) × (Int) × (Int)) => bits_Div64_m3 (bits_Div64_K4 (fun y s yn1 yn0 un32 un1 un0 q1 rhat => self (y, s, yn1, yn0, un32, un1, un0, q1, rhat))) (fun y s yn1 yn0 un32 un1 un0 q1 rhat => self (y, s, yn1, yn0, un32, un1, un0, q1, rhat)) s.1 s.2.1 s.2.2.1 s.2.2.2.1 s.2.2.2.2.1 s.2.2.2.2.2.1 s.2.2.2.2.2.2.1 s.2.2.2.2.2.2.2.1 s.2.2.2.2.2.2.2.2) 18446744073709551616 (y, s, yn1, yn0, un32, un1, un0, q1, rhat)
def bits_Div64_K2 (hi : Int) (lo : Int) (y : Int) : Option (As [.int .u64, .int .u64]) := bits_Div64_m2 (bits_Div64_K3) hi lo y
def bits_Div64_K1 (hi : Int) (lo : Int) (y : Int) : Option (As [.int .u64, .int .u64]) := bits_Div64_m1 (bits_Div64_K2) hi lo y
def bits_Div64 (x : As [.int .u64, .int .u64, .int .u64]) : Option (As [.int .u64, .int .u64]) := bits_Div64_m0 bits_Div64_K1 x.1 x.2.1 x.2.2.1
theorem bits_Div64_c8 (J : Orc (As [.int .u64, .int .u64])) (y : Int) (s : Int) (un0 : Int) (q1 : Int) (un21 : Int) (q0 : Int) : pfn Tryd.prog bits_Div64_e 6 18446744073709551616 (Ev.get bits_Div64_h) 55 bits_Div64_s J 524287 [] (bits_Div64_k8 y s un0 q1 un21 q0) = bits_Div64_m8 y s un0 q1 un21 q0 := by kernel_rfl
theorem bits_Div64_c7 (J : Orc (As [.int .u64, .int .u64])) (w6 : St → Option (As [.int .u64, .int .u64])) (y : Int) (s : Int) (yn1 : Int) (yn0 : Int) (un0 : Int) (q1 : Int) (rhat : Int) (un21 : Int) (q0 : Int) (t113 : Bool) : pfn Tryd.prog bits_Div64_e 6 18446744073709551616 (Ev.get bits_Div64_h) 55 bits_Div64_s J 8388592 [w6] (bits_Div64_k7 y s yn1 yn0 un0 q1 rhat un21 q0 t113) = bits_Div64_m7 (fun y s un0 q1 un21 q0 => J 524287 [] (bits_Div64_k8 y s un0 q1 un21 q0)) (fun y s yn1 yn0 un0 q1 rhat un21 q0 => w6 (bits_Div64_k6 y s yn1 yn0 un0 q1 rhat un21 q0)) y s yn1 yn0 un0 q1 rhat un21 q0 t113 := by kernel_rfl
theorem bits_Div64_c6 (J : Orc (As [.int .u64, .int .u64])) (w6 : St → Option (As [.int .u64, .int .u64])) (y : Int) (s : Int) (yn1 : Int) (yn0 : Int) (un0 : Int) (q1 : Int) (rhat : Int) (un21 : Int) (q0 : Int) : pfn Tryd.prog bits_Div64_e 6 18446744073709551616 (Ev.get bits_Div64_h) 55 bits_Div64_s J 2097148 [w6] (bits_Div64_k6 y s yn1 yn0 un0 q1 rhat un21 q0) = bits_Div64_m6 (fun y s yn1 yn0 un0 q1 rhat un21 q0 t113 => J 8388592 [w6] (bits_Div64_k7 y s yn1 yn0 un0 q1 rhat un21 q0 t113)) (fun y s yn1 yn0 un0 q1 rhat un21 q0 => w6 (bits_Div64_k6 y s yn1 yn0 un0 q1 rhat un21 q0)) y s yn1 yn0 un0 q1 rhat un21 q0 := by kernel_rfl
theorem bits_Div64_c5 (J : Orc (As [.int .u64, .int .u64])) (y : Int) (s : Int) (yn1 : Int) (yn0 : Int) (un32 : Int) (un1 : Int) (un0 : Int) (q1 : Int) : pfn Tryd.prog bits_Div64_e 6 18446744073709551616 (Ev.get bits_Div64_h) 55 bits_Div64_s J 32767 [] (bits_Div64_k5 y s yn1 yn0 un32 un1 un0 q1) = bits_Div64_m5 (fun y s yn1 yn0 un0 q1 rhat un21 q0 => J 2097148 [] (bits_Div64_k6 y s yn1 yn0 un0 q1 rhat un21 q0)) y s yn1 yn0 un32 un1 un0 q1 := by kernel_rfl
theorem bits_Div64_c4 (J : Orc (As [.int .u64, .int .u64])) (w3 : St → Option (As [.int .u64, .int .u64])) (y : Int) (s : Int) (yn1 : Int) (yn0 : Int) (un32 : Int) (un1 : Int) (un0 : Int) (q1 : Int) (rhat : Int) (t78 : Bool) : pfn Tryd.prog bits_Div64_e 6 18446744073709551616 (Ev.get bits_Div64_h) 55 bits_Div64_s J 524272 [w3] (bits_Div64_k4 y s yn1 yn0 un32 un1 un0 q1 rhat t78) = bits_Div64_m4 (fun y s yn1 yn0 un32 un1 un0 q1 => J 32767 [] (bits_Div64_k5 y s yn1 yn0 un32 un1 un0 q1)) (fun y s yn1 yn0 un32 un1 un0 q1 rhat => w3 (bits_Div64_k3 y s yn1 yn0 un32 un1 un0 q1 rhat)) y s yn1 yn0 un32 un1 un0 q1 rhat t78 := by kernel_rfl
theorem bits_Div64_c3 (J : Orc (As [.int .u64, .int .u64])) (w3 : St → Option (As [.int .u64, .int .u64])) (y : Int) (s : Int) (yn1 : Int) (yn0 : Int) (un32 : Int) (un1 : Int) (un0 : Int) (q1 : Int) (rhat : Int) : pfn Tryd.prog bits_Div64_e 6 18446744073709551616 (Ev.get bits_Div64_h) 55 bits_Div64_s J 131068 [w3] (bits_Div64_k3 y s yn1 yn0 un32 un1 un0 q1 rhat) = bits_Div64_m3 (fun y s yn1 yn0 un32 un1 un0 q1 rhat t78 => J 524272 [w3] (bits_Div64_k4 y s yn1 yn0 un32 un1 un0 q1 rhat t78)) (fun y s yn1 yn0 un32 un1 un0 q1 rhat => w3 (bits_Div64_k3 y s yn1 yn0 un32 un1 un0 q1 rhat)) y s yn1 yn0 un32 un1 un0 q1 rhat := by kernel_rfl
theorem bits_Div64_c2 (J : Orc (As [.int .u64, .int .u64])) (hi : Int) (lo : Int) (y : Int) : pfn Tryd.prog bits_Div64_e 6 18446744073709551616 (Ev.get bits_Div64_h) 55 bits_Div64_s J 7 [] (bits_Div64_k2 hi lo y) = bits_Div64_m2 (fun y s yn1 yn0 un32 un1 un0 q1 rhat => J 131068 [] (bits_Div64_k3 y s yn1 yn0 un32 un1 un0 q1 rhat)) hi lo y := by kernel_rfl
theorem bits_Div64_c1 (J : Orc (As [.int .u64, .int .u64])) (hi : Int) (lo : Int) (y : Int) : pfn Tryd.prog bits_Div64_e 6 18446744073709551616 (Ev.get bits_Div64_h) 55 bits_Div64_s J 3 [] (bits_Div64_k1 hi lo y) = bits_Div64_m1 (fun hi lo y => J 7 [] (bits_Div64_k2 hi lo y)) hi lo y := by kernel_rfl
theorem bits_Div64_c0 (J : Orc (As [.int .u64, .int .u64])) (x : As [.int .u64, .int .u64, .int .u64]) : rfn Tryd.prog bits_Div64_e 6 18446744073709551616 (Ev.get bits_Div64_h) 55 bits_Div64_s J x = bits_Div64_m0 (fun hi lo y => J 3 [] (bits_Div64_k1 hi lo y)) x.1 x.2.1 x.2.2.1 := by kernel_rfl
theorem bits_Div64_g8 (y : Int) (s : Int) (un0 : Int) (q1 : Int) (un21 : Int) (q0 : Int) : jfn Tryd.prog bits_Div64_e 6 18446744073709551616 (Ev.get bits_Div64_h) 55 bits_Div64_s 524287 [] (bits_Div64_k8 y s un0 q1 un21 q0) = bits_Div64_K8 y s un0 q1 un21 q0 := by
  rw [pfn_eq (by decide)]
  rw [bits_Div64_c8]
  rfl
theorem bits_Div64_g7 (w6 : St → Option (As [.int .u64, .int .u64])) (y : Int) (s : Int) (yn1 : Int) (yn0 : Int) (un0 : Int) (q1 : Int) (rhat : Int) (un21 : Int) (q0 : Int) (t113 : Bool) : jfn Tryd.prog bits_Div64_e 6 18446744073709551616 (Ev.get bits_Div64_h) 55 bits_Div64_s 8388592 [w6] (bits_Div64_k7 y s yn1 yn0 un0 q1 rhat un21 q0 t113) = bits_Div64_K7 (fun y s yn1 yn0 un0 q1 rhat un21 q0 => w6 (bits_Div64_k6 y s yn1 yn0 un0 q1 rhat un21 q0)) y s yn1 yn0 un0 q1 rhat un21 q0 t113 := by
  rw [pfn_eq (by decide)]
  have e8 : (fun y s un0 q1 un21 q0 => (jfn Tryd.prog bits_Div64_e 6 18446744073709551616 (Ev.get bits_Div64_h) 55 bits_Div64_s) 524287 [] (bits_Div64_k8 y s un0 q1 un21 q0)) = bits_Div64_K8 := funext fun y => funext fun s => funext fun un0 => funext fun q1 => funext fun un21 => funext fun q0 => bits_Div64_g8 y s un0 q1 un21 q0
  rw [bits_Div64_c7, e8]
  rfl
theorem bits_Div64_g6 (y : Int) (s : Int) (yn1 : Int) (yn0 : Int) (un0 : Int) (q1 : Int) (rhat : Int) (un21 : Int) (q0 : Int) : jfn Tryd.prog bits_Div64_e 6 18446744073709551616 (Ev.get bits_Div64_h) 55 bits_Div64_s 2097148 [] (bits_Div64_k6 y s yn1 yn0 un0 q1 rhat un21 q0) = bits_Div64_K6 y s yn1 yn0 un0 q1 rhat un21 q0 := by
  rw [pfn_eq (by decide)]
  rw [pfn_loop (by kernel_rfl)]
  refine loopF_sim (σ := (Int) × (Int) × (Int) × (Int) × (Int) × (Int) × (Int) × (Int) × (Int)) (mk := fun s => bits_Div64_k6 s.1 s.2.1 s.2.2.1 s.2.2.2.1 s.2.2.2.2.1 s.2.2.2.2.2.1 s.2.2.2.2.2.2.1 s.2.2.2.2.2.2.2.1 s.2.2.2.2.2.2.2.2) (fun w6 s => ?_) 18446744073709551616 (y, s, yn1, yn0, un0, q1, rhat, un21, q0)
  have e7 : (fun y s yn1 yn0 un0 q1 rhat un21 q0 t113 => (jfn Tryd.prog bits_Div64_e 6 18446744073709551616 (Ev.get bits_Div64_h) 55 bits_Div64_s) 8388592 [w6] (bits_Div64_k7 y s yn1 yn0 un0 q1 rhat un21 q0 t113)) = bits_Div64_K7 (fun y s yn1 yn0 un0 q1 rhat un21 q0 => w6 (bits_Div64_k6 y s yn1 yn0 un0 q1 rhat un21 q0)) := funext fun y => funext fun s => funext fun yn1 => funext fun yn0 => funext fun un0 => funext fun q1 => funext fun rhat => funext fun un21 => funext fun q0 => funext fun t113 => bits_Div64_g7 w6 y s yn1 yn0 un0 q1 rhat un21 q0 t113
  refine (bits_Div64_c6 _ w6 s.1 s.2.1 s.2.2.1 s.2.2.2.1 s.2.2.2.2.1 s.2.2.2.2.2.1 s.2.2.2.2.2.2.1 s.2.2.2.2.2.2.2.1 s.2.2.2.2.2.2.2.2).trans ?_
  rw [e7]
theorem bits_Div64_g5 (y : Int) (s : Int) (yn1 : Int) (yn0 : Int) (un32 : Int) (un1 : Int) (un0 : Int) (q1 : Int) : jfn Tryd.prog bits_Div64_e 6 18446744073709551616 (Ev.get bits_Div64_h) 55 bits_Div64_s 32767 [] (bits_Div64_k5 y s yn1 yn0 un32 un1 un0 q1) = bits_Div64_K5 y s yn1 yn0 un32 un1 un0 q1 := by
  rw [pfn_eq (by decide)]
  have e6 : (fun y s yn1 yn0 un0 q1 rhat un21 q0 => (jfn Tryd.prog bits_Div64_e 6 18446744073709551616 (Ev.get bits_Div64_h) 55 bits_Div64_s) 2097148 [] (bits_Div64_k6 y s yn1 yn0 un0 q1 rhat un21 q0)) = bits_Div64_K6 := funext fun y => funext fun s => funext fun yn1 => funext fun yn0 => funext fun un0 => funext fun q1 => funext fun rhat => funext fun un21 => funext fun q0 => bits_Div64_g6 y s yn1 yn0 un0 q1 rhat un21 q0
  rw [bits_Div64_c5, e6]
  rfl
theorem bits_Div64_g4 (w3 : St → Option (As [.int .u64, .int .u64])) (y : Int) (s : Int) (yn1 : Int) (yn0 : Int) (un32 : Int) (un1 : Int) (un0 : Int) (q1 : Int) (rhat : Int) (t78 : Bool) : jfn Tryd.prog bits_Div64_e 6 18446744073709551616 (Ev.get bits_Div64_h) 55 bits_Div64_s 524272 [w3] (bits_Div64_k4 y s yn1 yn0 un32 un1 un0 q1 rhat t78) = bits_Div64_K4 (fun y s yn1 yn0 un32 un1 un0 q1 rhat => w3 (bits_Div64_k3 y s yn1 yn0 un32 un1 un0 q1 rhat)) y s yn1 yn0 un32 un1 un0 q1 rhat t78 := by
  rw [pfn_eq (by decide)]
  have e5 : (fun y s yn1 yn0 un32 un1 un0 q1 => (jfn Tryd.prog bits_Div64_e 6 18446744073709551616 (Ev.get bits_Div64_h) 55 bits_Div64_s) 32767 [] (bits_Div64_k5 y s yn1 yn0 un32 un1 un0 q1)) = bits_Div64_K5 := funext fun y => funext fun s => funext fun yn1 => funext fun yn0 => funext fun un32 => funext fun un1 => funext fun un0 => funext fun q1 => bits_Div64_g5 y s yn1 yn0 un32 un1 un0 q1
  rw [bits_Div64_c4, e5]
  rfl
theorem bits_Div64_g3 (y : Int) (s : Int) (yn1 : Int) (yn0 : Int) (un32 : Int) (un1 : Int) (un0 : Int) (q1 : Int) (rhat : Int) : jfn Tryd.prog bits_Div64_e 6 18446744073709551616 (Ev.get bits_Div64_h) 55 bits_Div64_s 131068 [] (bits_Div64_k3 y s yn1 yn0 un32 un1 un0 q1 rhat) = bits_Div64_K3 y s yn1 yn0 un32 un1 un0 q1 rhat := by
  rw [pfn_eq (by decide)]
  rw [pfn_loop (by kernel_rfl)]
  refine loopF_sim (σ := (Int) × (Int) × (Int) × (Int) × (Int) × (Int) × (Int) × (Int) × (Int)) (mk := fun s => bits_Div64_k3 s.1 s.2.1 s.2.2.1 s.2.2.2.1 s.2.2.2.2.1 s.2.2.2.2.2.1 s.2.2.2.2.2.2.1 s.2.2.2.2.2.2.2.1 s.2.2.2.2.2.2.2.2) (fun w3 s => ?_) 18446744073709551616 (y, s, yn1, yn0, un32, un1, un0, q1, rhat)
  have e4 : (fun y s yn1 yn0 un32 un1 un0 q1 rhat t78 => (jfn Tryd.prog bits_Div64_e 6 18446744073709551616 (Ev.get bits_Div64_h) 55 bits_Div64_s) 524272 [w3] (bits_Div64_k4 y s yn1 yn0 un32 un1 un0 q1 rhat t78)) = bits_Div64_K4 (fun y s yn1 yn0 un32 un1 un0 q1 rhat => w3 (bits_Div64_k3 y s yn1 yn0 un32 un1 un0 q1 rhat)) := funext fun y => funext fun s => funext fun yn1 => funext fun yn0 => funext fun un32 => funext fun un1 => funext fun un0 => funext fun q1 => funext fun rhat => funext fun t78 => bits_Div64_g4 w3 y s yn1 yn0 un32 un1 un0 q1 rhat t78
  refine (bits_Div64_c3 _ w3 s.1 s.2.1 s.2.2.1 s.2.2.2.1 s.2.2.2.2.1 s.2.2.2.2.2.1 s.2.2.2.2.2.2.1 s.2.2.2.2.2.2.2.1 s.2.2.2.2.2.2.2.2).trans ?_
  rw [e4]
theorem bits_Div64_g2 (hi : Int) (lo : Int) (y : Int) : jfn Tryd.prog bits_Div64_e 6 18446744073709551616 (Ev.get bits_Div64_h) 55 bits_Div64_s 7 [] (bits_Div64_k2 hi lo y) = bits_Div64_K2 hi lo y := by
  rw [pfn_eq (by decide)]
  have e3 : (fun y s yn1 yn0 un32 un1 un0 q1 rhat => (jfn Tryd.prog bits_Div64_e 6 18446744073709551616 (Ev.get bits_Div64_h) 55 bits_Div64_s) 131068 [] (bits_Div64_k3 y s yn1 yn0 un32 un1 un0 q1 rhat)) = bits_Div64_K3 := funext fun y => funext fun s => funext fun yn1 => funext fun yn0 => funext fun un32 => funext fun un1 => funext fun un0 => funext fun q1 => funext fun rhat => bits_Div64_g3 y s yn1 yn0 un32 un1 un0 q1 rhat
  rw [bits_Div64_c2, e3]
  rfl
theorem bits_Div64_g1 (hi : Int) (lo : Int) (y : Int) : jfn Tryd.prog bits_Div64_e 6 18446744073709551616 (Ev.get bits_Div64_h) 55 bits_Div64_s 3 [] (bits_Div64_k1 hi lo y) = bits_Div64_K1 hi lo y := by
  rw [pfn_eq (by decide)]
  have e2 : (fun hi lo y => (jfn Tryd.prog bits_Div64_e 6 18446744073709551616 (Ev.get bits_Div64_h) 55 bits_Div64_s) 7 [] (bits_Div64_k2 hi lo y)) = bits_Div64_K2 := funext fun hi => funext fun lo => funext fun y => bits_Div64_g2 hi lo y
  rw [bits_Div64_c1, e2]
  rfl
theorem bits_Div64_t (x : As [.int .u64, .int .u64, .int .u64]) : evT Tryd.prog bits_Div64_e 6 18446744073709551616 (Ev.get bits_Div64_h) 55 bits_Div64_s x = bits_Div64 x := by
  have e1 : (fun hi lo y => (jfn Tryd.prog bits_Div64_e 6 18446744073709551616 (Ev.get bits_Div64_h) 55 bits_Div64_s) 3 [] (bits_Div64_k1 hi lo y)) = bits_Div64_K1 := funext fun hi => funext fun lo => funext fun y => bits_Div64_g1 hi lo y
  rw [rfn_eq, bits_Div64_c0, e1]
  rfl
theorem bits_Div64_ok : CtOk Tryd.prog I0 55 ⟨bits_Div64_s, bits_Div64⟩ := ct_of_ev (env_cons bits_LeadingZeros64_ok env_nil) bits_Div64_t
/-! units_Times -/
@[reducible] def units_Times_s : Sh := ⟨[.d (.pr (.int .i64) (.int .u8)), .d (.int .i64), .d (.int .i64)], [], [.pr (.int .i64) (.int .u8), .int .i64, .int .i64], [.d (.pr (.int .i64) (.int .u8)), .d (.bool)], [], 0, [.pr (.int .i64) (.int .u8), .bool]⟩
def units_Times_e : Env := (cts [(16, (⟨units_Right_s, units_Right⟩ : Ct)), (50, (⟨units_power_s, units_power⟩ : Ct)), (54, (⟨bits_Mul64_s, bits_Mul64⟩ : Ct)), (55, (⟨bits_Div64_s, bits_Div64⟩ : Ct))])
def units_Times_h : List (Nat × Hint) := [(15, ⟨[], [1, 2, 3, 6, 8, 73, 74, 75]⟩), (1023, ⟨[], [3, 6, 11, 13]⟩), (8191, ⟨[], [6, 8, 13]⟩), (4092, ⟨[], [3, 6, 11, 13, 73, 74, 75]⟩), (16368, ⟨[], [3, 6, 11, 13, 76]⟩), (6, ⟨[], [1, 2, 3, 6, 32, 73, 74, 75]⟩)]
def units_Times_k1 (num : Int) (den : Int) (t32 : Bool) (d : Int) (d_2 : Int) (t6 : Int) (t6_2 : Int) : St := { fr := [(1, .d (.int .i64) num), (2, .d (.int .i64) den), (3, .pb 0 0), (6, .pb 1 0), (32, .d .bool t32)], nt := 94, up := [], own := [(0, .box 40 [.d (.int .i64) d, .d (.int .u8) d_2]), (1, .box 40 [.d (.int .i64) t6, .d (.int .u8) t6_2])], nx := 2, log := [], ln := 0 }
def units_Times_k2 (num : Int) (den : Int) (n : Int) (d : Int) (d_2 : Int) (t6 : Int) (t6_2 : Int) : St := { fr := [(1, .d (.int .i64) num), (2, .d (.int .i64) den), (3, .pb 0 0), (6, .pb 1 0), (8, .d (.int .i64) n)], nt := 94, up := [], own := [(0, .box 40 [.d (.int .i64) d, .d (.int .u8) d_2]), (1, .box 40 [.d (.int .i64) t6, .d (.int .u8) t6_2])], nx := 2, log := [], ln := 0 }
def units_Times_k3 (q : Int) (places : Int) (d : Int) (d_2 : Int) (t6 : Int) (t6_2 : Int) : St := { fr := [(3, .pb 0 0), (6, .pb 1 0), (11, .d (.int .u64) q), (13, .d (.int .u8) places)], nt := 94, up := [], own := [(0, .box 40 [.d (.int .i64) d, .d (.int .u8) d_2]), (1, .box 40 [.d (.int .i64) t6, .d (.int .u8) t6_2])], nx := 2, log := [], ln := 0 }
def units_Times_k4 (q : Int) (places : Int) (t76 : Bool) (d : Int) (d_2 : Int) (t6 : Int) (t6_2 : Int) : St := { fr := [(3, .pb 0 0), (6, .pb 1 0), (11, .d (.int .u64) q), (13, .d (.int .u8) places), (76, .d .bool t76)], nt := 94, up := [], own := [(0, .box 40 [.d (.int .i64) d, .d (.int .u8) d_2]), (1, .box 40 [.d (.int .i64) t6, .d (.int .u8) t6_2])], nx := 2, log := [], ln := 0 }
def units_Times_k5 (q : Int) (places : Int) (d : Int) (d_2 : Int) (t6 : Int) (t6_2 : Int) : St := { fr := [(3, .pb 0 0), (6, .pb 1 0), (11, .d (.int .u64) q), (13, .d (.int .u8) places)], nt := 94, up := [], own := [(0, .box 40 [.d (.int .i64) d, .d (.int .u8) d_2]), (1, .box 40 [.d (.int .i64) t6, .d (.int .u8) t6_2])], nx := 2, log := [], ln := 0 }
def units_Times_k6 (n : Int) (places : Int) (t6 : Int) (t6_2 : Int) : St := { fr := [(6, .pb 0 0), (8, .d (.int .i64) n), (13, .d (.int .u8) places)], nt := 94, up := [], own := [(0, .box 40 [.d (.int .i64) t6, .d (.int .u8) t6_2])], nx := 1, log := [], ln := 0 }
def units_Times_m1 (j2 : Int → Int → Int → Int → Int → Int → Int → Option (As [.pr (.int .i64) (.int .u8), .bool])) (num : Int) (den : Int) (t32 : Bool) (d : Int) (d_2 : Int) (t6 : Int) (t6_2 : Int) : Option (As [.pr (.int .i64) (.int .u8), .bool]) :=
  if t32 = true then some ((0, 0), false, ()) else if lt d 0 = true then j2 num den (Sx.neg .i64 d) d d_2 t6 t6_2 else j2 num den d d d_2 t6 t6_2
def units_Times_m2 (j3 : Int → Int → Int → Int → Int → Int → Option (As [.pr (.int .i64) (.int .u8), .bool])) (num : Int) (den : Int) (n : Int) (d : Int) (d_2 : Int) (t6 : Int) (t6_2 : Int) : Option (As [.pr (.int .i64) (.int .u8), .bool]) :=
  Option.bind (units_power (Sx.sub .i64 6 (cvt .i64 d_2), ())) fun (y : Int × Unit) => Option.bind (bits_Mul64 (cvt .u64 (mul .i64 n y.1), cvt .u64 num, ())) fun (y : Int × Int × Unit) => if ge y.1 (cvt .u64 den) = true then some ((0, 0), false, ()) else Option.bind (bits_Div64 (y.1, y.2.1, cvt .u64 den, ())) fun (y : Int × Int × Unit) => if nei y.2.1 0 = true then some ((0, 0), false, ()) else j3 y.1 6 d d_2 t6 t6_2
def units_Times_m3 (j4 : Int → Int → Bool → Int → Int → Int → Int → Option (As [.pr (.int .i64) (.int .u8), .bool])) (self3 : Int → Int → Int → Int → Int → Int → Option (As [.pr (.int .i64) (.int .u8), .bool])) (q : Int) (places : Int) (d : Int) (d_2 : Int) (t6 : Int) (t6_2 : Int) : Option (As [.pr (.int .i64) (.int .u8), .bool]) :=
  if gt places 0 = true then j4 q places (eqi (rem q 10) 0) d d_2 t6 t6_2 else j4 q places false d d_2 t6 t6_2
def units_Times_m4 (j5 : Int → Int → Int → Int → Int → Int → Option (As [.pr (.int .i64) (.int .u8), .bool])) (self3 : Int → Int → Int → Int → Int → Int → Option (As [.pr (.int .i64) (.int .u8), .bool])) (q : Int) (places : Int) (t76 : Bool) (d : Int) (d_2 : Int) (t6 : Int) (t6_2 : Int) : Option (As [.pr (.int .i64) (.int .u8), .bool]) :=
  if t76 = true then self3 (quo .u64 q 10) (Sx.sub .u8 places 1) d d_2 t6 t6_2 else j5 q places d d_2 t6 t6_2
def units_Times_m5 (j6 : Int → Int → Int → Int → Option (As [.pr (.int .i64) (.int .u8), .bool])) (q : Int) (places : Int) (d : Int) (d_2 : Int) (t6 : Int) (t6_2 : Int) : Option (As [.pr (.int .i64) (.int .u8), .bool]) :=
  if gt q 1000000000000 = true then some ((0, 0), false, ()) else if lt d 0 = true then j6 (Sx.neg .i64 (cvt .i64 q)) places t6 t6_2 else j6 (cvt .i64 q) places t6 t6_2
def units_Times_m6 (n : Int) (places : Int) (t6 : Int) (t6_2 : Int) : Option (As [.pr (.int .i64) (.int .u8), .bool]) :=
  some ((n, places), true, ())
def units_Times_m0 (j1 : Int → Int → Bool → Int → Int → Int → Int → Option (As [.pr (.int .i64) (.int .u8), .bool])) (d : Int × Int) (num : Int) (den : Int) : Option (As [.pr (.int .i64) (.int .u8), .bool]) :=
  Option.bind (units_Right (d, ())) fun (y : Bool × Unit) => if (!y.1) = true then j1 num den true d.1 d.2 0 0 else if lt num 1 = true then j1 num den true d.1 d.2 0 0 else if gt num 1000000000 = true then j1 num den true d.1 d.2 0 0 else if lt den 1 = true then j1 num den true d.1 d.2 0 0 else j1 num den (gt den 1000000000) d.1 d.2 0 0
def units_Times_K6 (n : Int) (places : Int) (t6 : Int) (t6_2 : Int) : Option (As [.pr (.int .i64) (.int .u8), .bool]) := units_Times_m6 n places t6 t6_2
def units_Times_K5 (q : Int) (places : Int) (d : Int) (d_2 : Int) (t6 : Int) (t6_2 : Int) : Option (As [.pr (.int .i64) (.int .u8), .bool]) := units_Times_m5 (units_Times_K6) q places d d_2 t6 t6_2
def units_Times_K4 (u3 : Int → Int → Int → Int → Int → Int → Option (As [.pr (.int .i64) (.int .u8), .bool])) (q : Int) (places : Int) (t76 : Bool) (d : Int) (d_2 : Int) (t6 : Int) (t6_2 : Int) : Option (As [.pr (.int .i64) (.int .u8), .bool]) := units_Times_m4 (units_Times_K5) u3 q places t76 d d_2 t6 t6_2
def units_Times_K3 (q : Int) (places : Int) (d : Int) (d_2 : Int) (t6 : Int) (t6_2 : Int) : Option (As [.pr (.int .i64) (.int .u8), .bool]) :=
  loopF (fun (self : (Int) × (Int) × (Int) × (Int) × (Int) × (Int) → Option (As [.pr (.int .i64) (.int .u8), .bool])) (s : (Int) × (Int) × (Int) × (Int) × (Int) × (Int)) => units_Times_m3 (units_Times_K4 (fun q places d d_2 t6 t6_2 => self (q, places, d, d_2, t6, t6_2))) (fun q places d d_2 t6 t6_2 => self (q, places, d, d_2, t6, t6_2)) s.1 s.2.1 s.2.2.1 s.2.2.2.1 s.2.2.2.2.1 s.2.2.2.2.2) 18446744073709551616 (q, places, d, d_2, t6, t6_2)
def units_Times_K2 (num : Int) (den : Int) (n : Int) (d : Int) (d_2 : Int) (t6 : Int) (t6_2 : Int) : Option (As [.pr (.int .i64) (.int .u8), .bool]) := units_Times_m2 (units_Times_K3) num den n d d_2 t6 t6_2
def units_Times_K1 (num : Int) (den : Int) (t32 : Bool) (d : Int) (d_2 : Int) (t6 : Int) (t6_2 : Int) : Option (As [.pr (.int .i64) (.int .u8), .bool]) := units_Times_m1 (units_Times_K2) num den t32 d d_2 t6 t6_2
def units_Times (x : As [.pr (.int .i64) (.int .u8), .int .i64, .int .i64]) : Option (As [.pr (.int .i64) (.int .u8), .bool]) := units_Times_m0 units_Times_K1 x.1 x.2.1 x.2.2.1
theorem units_Times_c6 (J : Orc (As [.pr (.int .i64) (.int .u8), .bool])) (n : Int) (places : Int) (t6 : Int) (t6_2 : Int) : pfn Tryd.prog units_Times_e 6 18446744073709551616 (Ev.get units_Times_h) 22 units_Times_s J 8191 [] (units_Times_k6 n places t6 t6_2) = units_Times_m6 n places t6 t6_2 := by kernel_rfl
theorem units_Times_c5 (J : Orc (As [.pr (.int .i64) (.int .u8), .bool])) (q : Int) (places : Int) (d : Int) (d_2 : Int) (t6 : Int) (t6_2 : Int) : pfn Tryd.prog units_Times_e 6 18446744073709551616 (Ev.get units_Times_h) 22 units_Times_s J 1023 [] (units_Times_k5 q places d d_2 t6 t6_2) = units_Times_m5 (fun n places t6 t6_2 => J 8191 [] (units_Times_k6 n places t6 t6_2)) q places d d_2 t6 t6_2 := by kernel_rfl
theorem units_Times_c4 (J : Orc (As [.pr (.int .i64) (.int .u8), .bool])) (w3 : St → Option (As [.pr (.int .i64) (.int .u8), .bool])) (q : Int) (places : Int) (t76 : Bool) (d : Int) (d_2 : Int) (t6 : Int) (t6_2 : Int) : pfn Tryd.prog units_Times_e 6 18446744073709551616 (Ev.get units_Times_h) 22 units_Times_s J 16368 [w3] (units_Times_k4 q places t76 d d_2 t6 t6_2) = units_Times_m4 (fun q places d d_2 t6 t6_2 => J 1023 [] (units_Times_k5 q places d d_2 t6 t6_2)) (fun q places d d_2 t6 t6_2 => w3 (units_Times_k3 q places d d_2 t6 t6_2)) q places t76 d d_2 t6 t6_2 := by kernel_rfl
theorem units_Times_c3 (J : Orc (As [.pr (.int .i64) (.int .u8), .bool])) (w3 : St → Option (As [.pr (.int .i64) (.int .u8), .bool])) (q : Int) (places : Int) (d : Int) (d_2 : Int) (t6 : Int) (t6_2 : Int) : pfn Tryd.prog units_Times_e 6 18446744073709551616 (Ev.get units_Times_h) 22 units_Times_s J 4092 [w3] (units_Times_k3 q places d d_2 t6 t6_2) = units_Times_m3 (fun q places t76 d d_2 t6 t6_2 => J 16368 [w3] (units_Times_k4 q places t76 d d_2 t6 t6_2)) (fun q places d d_2 t6 t6_2 => w3 (units_Times_k3 q places d d_2 t6 t6_2)) q places d d_2 t6 t6_2 := by kernel_rfl
theorem units_Times_c2 (J : Orc (As [.pr (.int .i64) (.int .u8), .bool])) (num : Int) (den : Int) (n : Int) (d : Int) (d_2 : Int) (t6 : Int) (t6_2 : Int) : pfn Tryd.prog units_Times_e 6 18446744073709551616 (Ev.get units_Times_h) 22 units_Times_s J 15 [] (units_Times_k2 num den n d d_2 t6 t6_2) = units_Times_m2 (fun q places d d_2 t6 t6_2 => J 4092 [] (units_Times_k3 q places d d_2 t6 t6_2)) num den n d d_2 t6 t6_2 := by kernel_rfl
theorem units_Times_c1 (J : Orc (As [.pr (.int .i64) (.int .u8), .bool])) (num : Int) (den : Int) (t32 : Bool) (d : Int) (d_2 : Int) (t6 : Int) (t6_2 : Int) : pfn Tryd.prog units_Times_e 6 18446744073709551616 (Ev.get units_Times_h) 22 units_Times_s J 6 [] (units_Times_k1 num den t32 d d_2 t6 t6_2) = units_Times_m1 (fun num den n d d_2 t6 t6_2 => J 15 [] (units_Times_k2 num den n d d_2 t6 t6_2)) num den t32 d d_2 t6 t6_2 := by kernel_rfl
theorem units_Times_c0 (J : Orc (As [.pr (.int .i64) (.int .u8), .bool])) (x : As [.pr (.int .i64) (.int .u8), .int .i64, .int .i64]) : rfn Tryd.prog units_Times_e 6 18446744073709551616 (Ev.get units_Times_h) 22 units_Times_s J x = units_Times_m0 (fun num den t32 d d_2 t6 t6_2 => J 6 [] (units_Times_k1 num den t32 d d_2 t6 t6_2)) x.1 x.2.1 x.2.2.1 := by kernel_rfl
theorem units_Times_g6 (n : Int) (places : Int) (t6 : Int) (t6_2 : Int) : jfn Tryd.prog units_Times_e 6 18446744073709551616 (Ev.get units_Times_h) 22 units_Times_s 8191 [] (units_Times_k6 n places t6 t6_2) = units_Times_K6 n places t6 t6_2 := by
  rw [pfn_eq (by decide)]
  rw [units_Times_c6]
  rfl
theorem units_Times_g5 (q : Int) (places : Int) (d : Int) (d_2 : Int) (t6 : Int) (t6_2 : Int) : jfn Tryd.prog units_Times_e 6 18446744073709551616 (Ev.get units_Times_h) 22 units_Times_s 1023 [] (units_Times_k5 q places d d_2 t6 t6_2) = units_Times_K5 q places d d_2 t6 t6_2 := by
  rw [pfn_eq (by decide)]
  have e6 : (fun n places t6 t6_2 => (jfn Tryd.prog units_Times_e 6 18446744073709551616 (Ev.get units_Times_h) 22 units_Times_s) 8191 [] (units_Times_k6 n places t6 t6_2)) = units_Times_K6 := funext fun n => funext fun places => funext fun t6 => funext fun t6_2 => units_Times_g6 n places t6 t6_2
  rw [units_Times_c5, e6]
  rfl
theorem units_Times_g4 (w3 : St → Option (As [.pr (.int .i64) (.int .u8), .bool])) (q : Int) (places : Int) (t76 : Bool) (d : Int) (d_2 : Int) (t6 : Int) (t6_2 : Int) : jfn Tryd.prog units_Times_e 6 18446744073709551616 (Ev.get units_Times_h) 22 units_Times_s 16368 [w3] (units_Times_k4 q places t76 d d_2 t6 t6_2) = units_Times_K4 (fun q places d d_2 t6 t6_2 => w3 (units_Times_k3 q places d d_2 t6 t6_2)) q places t76 d d_2 t6 t6_2 := by
  rw [pfn_eq (by decide)]
  have e5 : (fun q places d d_2 t6 t6_2 => (jfn Tryd.prog units_Times_e 6 18446744073709551616 (Ev.get units_Times_h) 22 units_Times_s) 1023 [] (units_Times_k5 q places d d_2 t6 t6_2)) = units_Times_K5 := funext fun q => funext fun places => funext fun d => funext fun d_2 => funext fun t6 => funext fun t6_2 => units_Times_g5 q places d d_2 t6 t6_2
  rw [units_Times_c4, e5]
  rfl
theorem units_Times_g3 (q : Int) (places : Int) (d : Int) (d_2 : Int) (t6 : Int) (t6_2 : Int) : jfn Tryd.prog units_Times_e 6 18446744073709551616 (Ev.get units_Times_h) 22 units_Times_s 4092 [] (units_Times_k3 q places d d_2 t6 t6_2) = units_Times_K3 q places d d_2 t6 t6_2 := by
  rw [pfn_eq (by decide)]
  rw [pfn_loop (by kernel_rfl)]
  refine loopF_sim (σ := (Int) × (Int) × (Int) × (Int) × (Int) × (Int)) (mk := fun s => units_Times_k3 s.1 s.2.1 s.2.2.1 s.2.2.2.1 s.2.2.2.2.1 s.2.2.2.2.2) (fun w3 s => ?_) 18446744073709551616 (q, places, d, d_2, t6, t6_2)
  have e4 : (fun q places t76 d d_2 t6 t6_2 => (jfn Tryd.prog units_Times_e 6 18446744073709551616 (Ev.get units_Times_h) 22 units_Times_s) 16368 [w3] (units_Times_k4 q places t76 d d_2 t6 t6_2)) = units_Times_K4 (fun q places d d_2 t6 t6_2 => w3 (units_Times_k3 q places d d_2 t6 t6_2)) := funext fun q => funext fun places => funext fun t76 => funext fun d => funext fun d_2 => funext fun t6 => funext fun t6_2 => units_Times_g4 w3 q places t76 d d_2 t6 t6_2
  refine (units_Times_c3 _ w3 s.1 s.2.1 s.2.2.1 s.2.2.2.1 s.2.2.2.2.1 s.2.2.2.2.2).trans ?_
  rw [e4]
theorem units_Times_g2 (num : Int) (den : Int) (n : Int) (d : Int) (d_2 : Int) (t6 : Int) (t6_2 : Int) : jfn Tryd.prog units_Times_e 6 18446744073709551616 (Ev.get units_Times_h) 22 units_Times_s 15 [] (units_Times_k2 num den n d d_2 t6 t6_2) = units_Times_K2 num den n d d_2 t6 t6_2 := by
  rw [pfn_eq (by decide)]
  have e3 : (fun q places d d_2 t6 t6_2 => (jfn Tryd.prog units_Times_e 6 18446744073709551616 (Ev.get units_Times_h) 22 units_Times_s) 4092 [] (units_Times_k3 q places d d_2 t6 t6_2)) = units_Times_K3 := funext fun q => funext fun places => funext fun d => funext fun d_2 => funext fun t6 => funext fun t6_2 => units_Times_g3 q places d d_2 t6 t6_2
  rw [units_Times_c2, e3]
  rfl
theorem units_Times_g1 (num : Int) (den : Int) (t32 : Bool) (d : Int) (d_2 : Int) (t6 : Int) (t6_2 : Int) : jfn Tryd.prog units_Times_e 6 18446744073709551616 (Ev.get units_Times_h) 22 units_Times_s 6 [] (units_Times_k1 num den t32 d d_2 t6 t6_2) = units_Times_K1 num den t32 d d_2 t6 t6_2 := by
  rw [pfn_eq (by decide)]
  have e2 : (fun num den n d d_2 t6 t6_2 => (jfn Tryd.prog units_Times_e 6 18446744073709551616 (Ev.get units_Times_h) 22 units_Times_s) 15 [] (units_Times_k2 num den n d d_2 t6 t6_2)) = units_Times_K2 := funext fun num => funext fun den => funext fun n => funext fun d => funext fun d_2 => funext fun t6 => funext fun t6_2 => units_Times_g2 num den n d d_2 t6 t6_2
  rw [units_Times_c1, e2]
  rfl
theorem units_Times_t (x : As [.pr (.int .i64) (.int .u8), .int .i64, .int .i64]) : evT Tryd.prog units_Times_e 6 18446744073709551616 (Ev.get units_Times_h) 22 units_Times_s x = units_Times x := by
  have e1 : (fun num den t32 d d_2 t6 t6_2 => (jfn Tryd.prog units_Times_e 6 18446744073709551616 (Ev.get units_Times_h) 22 units_Times_s) 6 [] (units_Times_k1 num den t32 d d_2 t6 t6_2)) = units_Times_K1 := funext fun num => funext fun den => funext fun t32 => funext fun d => funext fun d_2 => funext fun t6 => funext fun t6_2 => units_Times_g1 num den t32 d d_2 t6 t6_2
  rw [rfn_eq, units_Times_c0, e1]
  rfl
theorem units_Times_ok : CtOk Tryd.prog I0 22 ⟨units_Times_s, units_Times⟩ := ct_of_ev (env_cons units_Right_ok (env_cons units_power_ok (env_cons bits_Mul64_ok (env_cons bits_Div64_ok env_nil)))) units_Times_t
end Go.Proofs.Lx

end
