/- Proved in the last of these 9 parts (this is part 5): blanks between tokens, comments at lines' ends and lines that have no token say nothing but the numbers of lines. Conditions: those of the given statement, and no others. -/
import Derived.Test.YtempdfdmcgolbaaDoorPartd
import Derived.Test.YtempdfdmcgolbaaDoorProg
set_option linter.unusedVariables false
set_option linter.unusedSimpArgs false
set_option linter.unusedSectionVars false
section
/- Contracts, made by a program. -/
open Go Go.Proofs Ev Sx
set_option maxRecDepth 100000
namespace Go.Proofs.Lx
abbrev LAT0 : Ty := (.pr (.int .u8) (.pr .str (.pr (.pr (.int .i64) (.int .u8)) (.int .i64))))
abbrev LAT1 : Type := (Int × List UInt8 × (Int × Int) × Int)
/-! strings_trimLeftByte -/
@[reducible] def strings_trimLeftByte_s : Sh := ⟨[.d (.str), .d (.int .u8)], [], [.str, .int .u8], [.d (.str)], [], 0, [.str]⟩
def strings_trimLeftByte_e : Env := (cts [])
def strings_trimLeftByte_h : List (Nat × Hint) := [(12, ⟨[], [0, 1, 9, 10, 11, 12]⟩), (48, ⟨[], [0, 1, 13]⟩)]
def strings_trimLeftByte_k1 (s : List UInt8) (c : Int) : St := { fr := [(0, .d .str s), (1, .d (.int .u8) c)], nt := 17, up := [], own := [], nx := 0, log := [], ln := 0 }
def strings_trimLeftByte_k2 (s : List UInt8) (c : Int) (t13 : Bool) : St := { fr := [(0, .d .str s), (1, .d (.int .u8) c), (13, .d .bool t13)], nt := 17, up := [], own := [], nx := 0, log := [], ln := 0 }
def strings_trimLeftByte_m1 (j2 : List UInt8 → Int → Bool → Option (As [.str])) (self1 : List UInt8 → Int → Option (As [.str])) (s : List UInt8) (c : Int) : Option (As [.str]) :=
  if gt (Int.ofNat (List.length s)) 0 = true then Option.bind (at? s 0) fun (c_1 : UInt8) => j2 s c (eqi (Int.ofNat (UInt8.toNat c_1)) c) else j2 s c false
def strings_trimLeftByte_m2 (self1 : List UInt8 → Int → Option (As [.str])) (s : List UInt8) (c : Int) (t13 : Bool) : Option (As [.str]) :=
  if t13 = true then Option.bind (cut s 1 (Int.ofNat (List.length s))) fun (y : List UInt8) => self1 y c else some (s, ())
def strings_trimLeftByte_m0 (j1 : List UInt8 → Int → Option (As [.str])) (s : List UInt8) (c : Int) : Option (As [.str]) :=
  j1 s c
def strings_trimLeftByte_K2 (u1 : List UInt8 → Int → Option (As [.str])) (s : List UInt8) (c : Int) (t13 : Bool) : Option (As [.str]) := strings_trimLeftByte_m2 u1 s c t13
def strings_trimLeftByte_K1 (s : List UInt8) (c : Int) : Option (As [.str]) :=
  loopF (fun (self : (List UInt8) × (Int) → Option (As [.str])) (s : (List UInt8) × (Int)) => strings_trimLeftByte_m1 (strings_trimLeftByte_K2 (fun s c => self (s, c))) (fun s c => self (s, c)) s.1 s.2) 18446744073709551616 (s, c)
def strings_trimLeftByte (x : As [.str, .int .u8]) : Option (As [.str]) := strings_trimLeftByte_m0 strings_trimLeftByte_K1 x.1 x.2.1
theorem strings_trimLeftByte_c2 (J : Orc (As [.str])) (w1 : St → Option (As [.str])) (s : List UInt8) (c : Int) (t13 : Bool) : pfn Tryd.prog strings_trimLeftByte_e 6 18446744073709551616 (Ev.get strings_trimLeftByte_h) 61 strings_trimLeftByte_s J 48 [w1] (strings_trimLeftByte_k2 s c t13) = strings_trimLeftByte_m2 (fun s c => w1 (strings_trimLeftByte_k1 s c)) s c t13 := by kernel_rfl
theorem strings_trimLeftByte_c1 (J : Orc (As [.str])) (w1 : St → Option (As [.str])) (s : List UInt8) (c : Int) : pfn Tryd.prog strings_trimLeftByte_e 6 18446744073709551616 (Ev.get strings_trimLeftByte_h) 61 strings_trimLeftByte_s J 12 [w1] (strings_trimLeftByte_k1 s c) = strings_trimLeftByte_m1 (fun s c t13 => J 48 [w1] (strings_trimLeftByte_k2 s c t13)) (fun s c => w1 (strings_trimLeftByte_k1 s c)) s c := by kernel_rfl
theorem strings_trimLeftByte_c0 (J : Orc (As [.str])) (x : As [.str, .int .u8]) : rfn Tryd.prog strings_trimLeftByte_e 6 18446744073709551616 (Ev.get strings_trimLeftByte_h) 61 strings_trimLeftByte_s J x = strings_trimLeftByte_m0 (fun s c => J 12 [] (strings_trimLeftByte_k1 s c)) x.1 x.2.1 := by kernel_rfl
theorem strings_trimLeftByte_g2 (w1 : St → Option (As [.str])) (s : List UInt8) (c : Int) (t13 : Bool) : jfn Tryd.prog strings_trimLeftByte_e 6 18446744073709551616 (Ev.get strings_trimLeftByte_h) 61 strings_trimLeftByte_s 48 [w1] (strings_trimLeftByte_k2 s c t13) = strings_trimLeftByte_K2 (fun s c => w1 (strings_trimLeftByte_k1 s c)) s c t13 := by
  rw [pfn_eq (by decide)]
  rw [strings_trimLeftByte_c2]
  rfl
theorem strings_trimLeftByte_g1 (s : List UInt8) (c : Int) : jfn Tryd.prog strings_trimLeftByte_e 6 18446744073709551616 (Ev.get strings_trimLeftByte_h) 61 strings_trimLeftByte_s 12 [] (strings_trimLeftByte_k1 s c) = strings_trimLeftByte_K1 s c := by
  rw [pfn_eq (by decide)]
  rw [pfn_loop (by kernel_rfl)]
  refine loopF_sim (σ := (List UInt8) × (Int)) (mk := fun s => strings_trimLeftByte_k1 s.1 s.2) (fun w1 s => ?_) 18446744073709551616 (s, c)
  have e2 : (fun s c t13 => (jfn Tryd.prog strings_trimLeftByte_e 6 18446744073709551616 (Ev.get strings_trimLeftByte_h) 61 strings_trimLeftByte_s) 48 [w1] (strings_trimLeftByte_k2 s c t13)) = strings_trimLeftByte_K2 (fun s c => w1 (strings_trimLeftByte_k1 s c)) := funext fun s => funext fun c => funext fun t13 => strings_trimLeftByte_g2 w1 s c t13
  refine (strings_trimLeftByte_c1 _ w1 s.1 s.2).trans ?_
  rw [e2]
theorem strings_trimLeftByte_t (x : As [.str, .int .u8]) : evT Tryd.prog strings_trimLeftByte_e 6 18446744073709551616 (Ev.get strings_trimLeftByte_h) 61 strings_trimLeftByte_s x = strings_trimLeftByte x := by
  have e1 : (fun s c => (jfn Tryd.prog strings_trimLeftByte_e 6 18446744073709551616 (Ev.get strings_trimLeftByte_h) 61 strings_trimLeftByte_s) 12 [] (strings_trimLeftByte_k1 s c)) = strings_trimLeftByte_K1 := funext fun s => funext fun c => strings_trimLeftByte_g1 s c
  rw [rfn_eq, strings_trimLeftByte_c0, e1]
  rfl
theorem strings_trimLeftByte_ok : CtOk Tryd.prog (fun _ => True) 61 ⟨strings_trimLeftByte_s, strings_trimLeftByte⟩ := ct_of_ev env_nil strings_trimLeftByte_t
/-! strings_makeASCIISet -/
@[reducible] def strings_makeASCIISet_s : Sh := ⟨[.d (.str)], [], [.str], [.d (.ar 256 .bool), .d (.bool)], [], 0, [.ar 256 .bool, .bool]⟩
def strings_makeASCIISet_e : Env := (cts [])
def strings_makeASCIISet_h : List (Nat × Hint) := [(3, ⟨[], [2]⟩), (26, ⟨[], [0, 2, 4]⟩)]
def strings_makeASCIISet_k1 (chars : List UInt8) (i : Int) (as' : List Bool) : St := { fr := [(0, .d .str chars), (2, .pb 0 0), (4, .d (.int .i64) i)], nt := 21, up := [], own := [(0, .row .bool 89 as')], nx := 1, log := [], ln := 0 }
def strings_makeASCIISet_k2 (as' : List Bool) : St := { fr := [(2, .pb 0 0)], nt := 21, up := [], own := [(0, .row .bool 89 as')], nx := 1, log := [], ln := 0 }
def strings_makeASCIISet_m1 (j2 : List Bool → Option (As [.ar 256 .bool, .bool])) (self1 : List UInt8 → Int → List Bool → Option (As [.ar 256 .bool, .bool])) (chars : List UInt8) (i : Int) (as' : List Bool) : Option (As [.ar 256 .bool, .bool]) :=
  if lt i (Int.ofNat (List.length chars)) = true then Option.bind (at? chars i) fun (c : UInt8) => if ge (Int.ofNat (UInt8.toNat c)) 128 = true then need (eqi (Int.ofNat (List.length as')) 256) (need (eqi (Int.ofNat (List.length as')) (Int.ofNat (List.length as'))) (need (eqi 256 (Int.ofNat (List.length as' * 1))) (need (eqi (Int.ofNat (List.length as')) 256) (need (eqi (Int.ofNat (List.length as')) 256) (some (as', false, ())))))) else need (lt (Int.ofNat (UInt8.toNat c)) 256) (Option.bind (at? as' (Int.ofNat (UInt8.toNat c))) fun (x : Bool) => Option.bind (at? as' (Int.ofNat (UInt8.toNat c))) fun (x : Bool) => self1 chars (add .i64 i 1) (List.set as' (Int.toNat (Int.ofNat (UInt8.toNat c))) true)) else j2 as'
def strings_makeASCIISet_m2 (as' : List Bool) : Option (As [.ar 256 .bool, .bool]) :=
  need (eqi (Int.ofNat (List.length as')) 256) (need (eqi (Int.ofNat (List.length as')) (Int.ofNat (List.length as'))) (need (eqi 256 (Int.ofNat (List.length as' * 1))) (need (eqi (Int.ofNat (List.length as')) 256) (need (eqi (Int.ofNat (List.length as')) 256) (some (as', true, ()))))))
def strings_makeASCIISet_m0 (j1 : List UInt8 → Int → List Bool → Option (As [.ar 256 .bool, .bool])) (chars : List UInt8) : Option (As [.ar 256 .bool, .bool]) :=
  j1 chars 0 (List.replicate 256 false)
def strings_makeASCIISet_K2 (as' : List Bool) : Option (As [.ar 256 .bool, .bool]) := strings_makeASCIISet_m2 as'
def strings_makeASCIISet_K1 (chars : List UInt8) (i : Int) (as' : List Bool) : Option (As [.ar 256 .bool, .bool]) :=
  loopF (fun (self : (List UInt8) × (Int) × (List Bool) → Option (As [.ar 256 .bool, .bool])) (s : (List UInt8) × (Int) × (List Bool)) => strings_makeASCIISet_m1 (strings_makeASCIISet_K2) (fun chars i as' => self (chars, i, as')) s.1 s.2.1 s.2.2) 18446744073709551616 (chars, i, as')
def strings_makeASCIISet (x : As [.str]) : Option (As [.ar 256 .bool, .bool]) := strings_makeASCIISet_m0 strings_makeASCIISet_K1 x.1
theorem strings_makeASCIISet_c2 (J : Orc (As [.ar 256 .bool, .bool])) (as' : List Bool) : pfn Tryd.prog strings_makeASCIISet_e 6 18446744073709551616 (Ev.get strings_makeASCIISet_h) 62 strings_makeASCIISet_s J 3 [] (strings_makeASCIISet_k2 as') = strings_makeASCIISet_m2 as' := by kernel_rfl
theorem strings_makeASCIISet_c1 (J : Orc (As [.ar 256 .bool, .bool])) (w1 : St → Option (As [.ar 256 .bool, .bool])) (chars : List UInt8) (i : Int) (as' : List Bool) : pfn Tryd.prog strings_makeASCIISet_e 6 18446744073709551616 (Ev.get strings_makeASCIISet_h) 62 strings_makeASCIISet_s J 26 [w1] (strings_makeASCIISet_k1 chars i as') = strings_makeASCIISet_m1 (fun as' => J 3 [] (strings_makeASCIISet_k2 as')) (fun chars i as' => w1 (strings_makeASCIISet_k1 chars i as')) chars i as' := by kernel_rfl
theorem strings_makeASCIISet_c0 (J : Orc (As [.ar 256 .bool, .bool])) (x : As [.str]) : rfn Tryd.prog strings_makeASCIISet_e 6 18446744073709551616 (Ev.get strings_makeASCIISet_h) 62 strings_makeASCIISet_s J x = strings_makeASCIISet_m0 (fun chars i as' => J 26 [] (strings_makeASCIISet_k1 chars i as')) x.1 := by kernel_rfl
theorem strings_makeASCIISet_g2 (as' : List Bool) : jfn Tryd.prog strings_makeASCIISet_e 6 18446744073709551616 (Ev.get strings_makeASCIISet_h) 62 strings_makeASCIISet_s 3 [] (strings_makeASCIISet_k2 as') = strings_makeASCIISet_K2 as' := by
  rw [pfn_eq (by decide)]
  rw [strings_makeASCIISet_c2]
  rfl
theorem strings_makeASCIISet_g1 (chars : List UInt8) (i : Int) (as' : List Bool) : jfn Tryd.prog strings_makeASCIISet_e 6 18446744073709551616 (Ev.get strings_makeASCIISet_h) 62 strings_makeASCIISet_s 26 [] (strings_makeASCIISet_k1 chars i as') = strings_makeASCIISet_K1 chars i as' := by
  rw [pfn_eq (by decide)]
  rw [pfn_loop (by kernel_rfl)]
  refine loopF_sim (σ := (List UInt8) × (Int) × (List Bool)) (mk := fun s => strings_makeASCIISet_k1 s.1 s.2.1 s.2.2) (fun w1 s => ?_) 18446744073709551616 (chars, i, as')
  have e2 : (fun as' => (jfn Tryd.prog strings_makeASCIISet_e 6 18446744073709551616 (Ev.get strings_makeASCIISet_h) 62 strings_makeASCIISet_s) 3 [] (strings_makeASCIISet_k2 as')) = strings_makeASCIISet_K2 := funext fun as' => strings_makeASCIISet_g2 as'
  refine (strings_makeASCIISet_c1 _ w1 s.1 s.2.1 s.2.2).trans ?_
  rw [e2]
theorem strings_makeASCIISet_t (x : As [.str]) : evT Tryd.prog strings_makeASCIISet_e 6 18446744073709551616 (Ev.get strings_makeASCIISet_h) 62 strings_makeASCIISet_s x = strings_makeASCIISet x := by
  have e1 : (fun chars i as' => (jfn Tryd.prog strings_makeASCIISet_e 6 18446744073709551616 (Ev.get strings_makeASCIISet_h) 62 strings_makeASCIISet_s) 26 [] (strings_makeASCIISet_k1 chars i as')) = strings_makeASCIISet_K1 := funext fun chars => funext fun i => funext fun as' => strings_makeASCIISet_g1 chars i as'
  rw [rfn_eq, strings_makeASCIISet_c0, e1]
  rfl
theorem strings_makeASCIISet_ok : CtOk Tryd.prog (fun _ => True) 62 ⟨strings_makeASCIISet_s, strings_makeASCIISet⟩ := ct_of_ev env_nil strings_makeASCIISet_t
/-! strings_trimLeftASCII -/
@[reducible] def strings_trimLeftASCII_s : Sh := ⟨[.d .str, .pb 0 0], [.row .bool 89], [.str, .sl .bool], [.d .str], [(0, .row .bool 89)], 0, [.str, .sl .bool]⟩
def strings_trimLeftASCII_e : Env := (cts [])
def strings_trimLeftASCII_h : List (Nat × Hint) := [(12, ⟨[], [0, 1]⟩)]
def strings_trimLeftASCII_k1 (s : List UInt8) (as' : List Bool) : St := { fr := [(0, .d .str s), (1, .pb 0 0)], nt := 16, up := [], own := [(0, .row .bool 89 as')], nx := 1, log := [], ln := 1 }
def strings_trimLeftASCII_m1 (self1 : List UInt8 → List Bool → Option (As [.str, .sl .bool])) (s : List UInt8) (as' : List Bool) : Option (As [.str, .sl .bool]) :=
  if gt (Int.ofNat (List.length s)) 0 = true then Option.bind (at? s 0) fun (c : UInt8) => need (lt (Int.ofNat (UInt8.toNat c)) 256) (Option.bind (at? as' (Int.ofNat (UInt8.toNat c))) fun (x : Bool) => Option.bind (at? as' (Int.ofNat (UInt8.toNat c))) fun (y : Bool) => if (!y) = true then some (s, as', ()) else Option.bind (cut s 1 (Int.ofNat (List.length s))) fun (y : List UInt8) => self1 y as') else some (s, as', ())
def strings_trimLeftASCII_m0 (j1 : List UInt8 → List Bool → Option (As [.str, .sl .bool])) (s : List UInt8) (as' : List Bool) : Option (As [.str, .sl .bool]) :=
  j1 s as'
def strings_trimLeftASCII_K1 (s : List UInt8) (as' : List Bool) : Option (As [.str, .sl .bool]) :=
  loopF (fun (self : (List UInt8) × (List Bool) → Option (As [.str, .sl .bool])) (s : (List UInt8) × (List Bool)) => strings_trimLeftASCII_m1 (fun s as' => self (s, as')) s.1 s.2) 18446744073709551616 (s, as')
def strings_trimLeftASCII (x : As [.str, .sl .bool]) : Option (As [.str, .sl .bool]) := strings_trimLeftASCII_m0 strings_trimLeftASCII_K1 x.1 x.2.1
theorem strings_trimLeftASCII_c1 (J : Orc (As [.str, .sl .bool])) (w1 : St → Option (As [.str, .sl .bool])) (s : List UInt8) (as' : List Bool) : pfn Tryd.prog strings_trimLeftASCII_e 6 18446744073709551616 (Ev.get strings_trimLeftASCII_h) 63 strings_trimLeftASCII_s J 12 [w1] (strings_trimLeftASCII_k1 s as') = strings_trimLeftASCII_m1 (fun s as' => w1 (strings_trimLeftASCII_k1 s as')) s as' := by kernel_rfl
theorem strings_trimLeftASCII_c0 (J : Orc (As [.str, .sl .bool])) (x : As [.str, .sl .bool]) : rfn Tryd.prog strings_trimLeftASCII_e 6 18446744073709551616 (Ev.get strings_trimLeftASCII_h) 63 strings_trimLeftASCII_s J x = strings_trimLeftASCII_m0 (fun s as' => J 12 [] (strings_trimLeftASCII_k1 s as')) x.1 x.2.1 := by kernel_rfl
theorem strings_trimLeftASCII_g1 (s : List UInt8) (as' : List Bool) : jfn Tryd.prog strings_trimLeftASCII_e 6 18446744073709551616 (Ev.get strings_trimLeftASCII_h) 63 strings_trimLeftASCII_s 12 [] (strings_trimLeftASCII_k1 s as') = strings_trimLeftASCII_K1 s as' := by
  rw [pfn_eq (by decide)]
  rw [pfn_loop (by kernel_rfl)]
  refine loopF_sim (σ := (List UInt8) × (List Bool)) (mk := fun s => strings_trimLeftASCII_k1 s.1 s.2) (fun w1 s => ?_) 18446744073709551616 (s, as')
  refine (strings_trimLeftASCII_c1 _ w1 s.1 s.2).trans ?_
  rfl
theorem strings_trimLeftASCII_t (x : As [.str, .sl .bool]) : evT Tryd.prog strings_trimLeftASCII_e 6 18446744073709551616 (Ev.get strings_trimLeftASCII_h) 63 strings_trimLeftASCII_s x = strings_trimLeftASCII x := by
  have e1 : (fun s as' => (jfn Tryd.prog strings_trimLeftASCII_e 6 18446744073709551616 (Ev.get strings_trimLeftASCII_h) 63 strings_trimLeftASCII_s) 12 [] (strings_trimLeftASCII_k1 s as')) = strings_trimLeftASCII_K1 := funext fun s => funext fun as' => strings_trimLeftASCII_g1 s as'
  rw [rfn_eq, strings_trimLeftASCII_c0, e1]
  rfl
theorem strings_trimLeftASCII_ok : CtOk Tryd.prog (fun _ => True) 63 ⟨strings_trimLeftASCII_s, strings_trimLeftASCII⟩ := ct_of_ev env_nil strings_trimLeftASCII_t
@[reducible] def strings_trimLeftUnicode_s : Sh := ⟨[.d (.str), .d (.str)], [], [.str, .str], [.d (.str)], [], 0, [.str]⟩
def strings_trimLeftUnicode (_ : As strings_trimLeftUnicode_s.ps) : Option (As strings_trimLeftUnicode_s.rs) := none
theorem strings_trimLeftUnicode_ok : CtOk Tryd.prog (fun _ => True) 64 ⟨strings_trimLeftUnicode_s, strings_trimLeftUnicode⟩ := fun _ _ _ _ _ _ _ _ h => by cases h
/-! strings_TrimLeft -/
@[reducible] def strings_TrimLeft_s : Sh := ⟨[.d (.str), .d (.str)], [], [.str, .str], [.d (.str)], [], 0, [.str]⟩
def strings_TrimLeft_e : Env := (cts [(61, (⟨strings_trimLeftByte_s, strings_trimLeftByte⟩ : Ct)), (62, (⟨strings_makeASCIISet_s, strings_makeASCIISet⟩ : Ct)), (63, (⟨strings_trimLeftASCII_s, strings_trimLeftASCII⟩ : Ct)), (64, (⟨strings_trimLeftUnicode_s, strings_trimLeftUnicode⟩ : Ct))])
def strings_TrimLeft_h : List (Nat × Hint) := [(14, ⟨[], [0, 1, 21]⟩), (6, ⟨[], [0, 1, 12, 18, 19, 20]⟩)]
def strings_TrimLeft_k1 (s : List UInt8) (cutset : List UInt8) (t12 : Bool) : St := { fr := [(0, .d .str s), (1, .d .str cutset), (12, .d .bool t12)], nt := 37, up := [], own := [], nx := 0, log := [], ln := 0 }
def strings_TrimLeft_k2 (s : List UInt8) (cutset : List UInt8) (t21 : Bool) : St := { fr := [(0, .d .str s), (1, .d .str cutset), (21, .d .bool t21)], nt := 37, up := [], own := [], nx := 0, log := [], ln := 0 }
def strings_TrimLeft_m1 (j2 : List UInt8 → List UInt8 → Bool → Option (As [.str])) (s : List UInt8) (cutset : List UInt8) (t12 : Bool) : Option (As [.str]) :=
  if t12 = true then some (s, ()) else if eqi (Int.ofNat (List.length cutset)) 1 = true then Option.bind (at? cutset 0) fun (c : UInt8) => j2 s cutset (lt (Int.ofNat (UInt8.toNat c)) 128) else j2 s cutset false
def strings_TrimLeft_m2 (s : List UInt8) (cutset : List UInt8) (t21 : Bool) : Option (As [.str]) :=
  if t21 = true then Option.bind (at? cutset 0) fun (c : UInt8) => Option.bind (strings_trimLeftByte (s, Int.ofNat (UInt8.toNat c), ())) fun (y : List UInt8 × Unit) => some (y.fst, ()) else Option.bind (strings_makeASCIISet (cutset, ())) fun (y : List Bool × Bool × Unit) => need (eqi 256 (Int.ofNat (List.length y.fst))) (need (eqi 256 (Int.ofNat (List.length y.fst * 1))) (if y.snd.fst = true then Option.bind (strings_trimLeftASCII (s, y.fst, ())) fun (y : List UInt8 × List Bool × Unit) => some (y.fst, ()) else Option.bind (strings_trimLeftUnicode (s, cutset, ())) fun (y : List UInt8 × Unit) => some (y.fst, ())))
def strings_TrimLeft_m0 (j1 : List UInt8 → List UInt8 → Bool → Option (As [.str])) (s : List UInt8) (cutset : List UInt8) : Option (As [.str]) :=
  if eqs s [] = true then j1 s cutset true else j1 s cutset (eqs cutset [])
def strings_TrimLeft_K2 (s : List UInt8) (cutset : List UInt8) (t21 : Bool) : Option (As [.str]) := strings_TrimLeft_m2 s cutset t21
def strings_TrimLeft_K1 (s : List UInt8) (cutset : List UInt8) (t12 : Bool) : Option (As [.str]) := strings_TrimLeft_m1 (strings_TrimLeft_K2) s cutset t12
def strings_TrimLeft (x : As [.str, .str]) : Option (As [.str]) := strings_TrimLeft_m0 strings_TrimLeft_K1 x.1 x.2.1
theorem strings_TrimLeft_c2 (J : Orc (As [.str])) (s : List UInt8) (cutset : List UInt8) (t21 : Bool) : pfn Tryd.prog strings_TrimLeft_e 6 18446744073709551616 (Ev.get strings_TrimLeft_h) 19 strings_TrimLeft_s J 14 [] (strings_TrimLeft_k2 s cutset t21) = strings_TrimLeft_m2 s cutset t21 := by kernel_rfl
theorem strings_TrimLeft_c1 (J : Orc (As [.str])) (s : List UInt8) (cutset : List UInt8) (t12 : Bool) : pfn Tryd.prog strings_TrimLeft_e 6 18446744073709551616 (Ev.get strings_TrimLeft_h) 19 strings_TrimLeft_s J 6 [] (strings_TrimLeft_k1 s cutset t12) = strings_TrimLeft_m1 (fun s cutset t21 => J 14 [] (strings_TrimLeft_k2 s cutset t21)) s cutset t12 := by kernel_rfl
theorem strings_TrimLeft_c0 (J : Orc (As [.str])) (x : As [.str, .str]) : rfn Tryd.prog strings_TrimLeft_e 6 18446744073709551616 (Ev.get strings_TrimLeft_h) 19 strings_TrimLeft_s J x = strings_TrimLeft_m0 (fun s cutset t12 => J 6 [] (strings_TrimLeft_k1 s cutset t12)) x.1 x.2.1 := by kernel_rfl
theorem strings_TrimLeft_g2 (s : List UInt8) (cutset : List UInt8) (t21 : Bool) : jfn Tryd.prog strings_TrimLeft_e 6 18446744073709551616 (Ev.get strings_TrimLeft_h) 19 strings_TrimLeft_s 14 [] (strings_TrimLeft_k2 s cutset t21) = strings_TrimLeft_K2 s cutset t21 := by
  rw [pfn_eq (by decide)]
  rw [strings_TrimLeft_c2]
  rfl
theorem strings_TrimLeft_g1 (s : List UInt8) (cutset : List UInt8) (t12 : Bool) : jfn Tryd.prog strings_TrimLeft_e 6 18446744073709551616 (Ev.get strings_TrimLeft_h) 19 strings_TrimLeft_s 6 [] (strings_TrimLeft_k1 s cutset t12) = strings_TrimLeft_K1 s cutset t12 := by
  rw [pfn_eq (by decide)]
  have e2 : (fun s cutset t21 => (jfn Tryd.prog strings_TrimLeft_e 6 18446744073709551616 (Ev.get strings_TrimLeft_h) 19 strings_TrimLeft_s) 14 [] (strings_TrimLeft_k2 s cutset t21)) = strings_TrimLeft_K2 := funext fun s => funext fun cutset => funext fun t21 => strings_TrimLeft_g2 s cutset t21
  rw [strings_TrimLeft_c1, e2]
  rfl
theorem strings_TrimLeft_t (x : As [.str, .str]) : evT Tryd.prog strings_TrimLeft_e 6 18446744073709551616 (Ev.get strings_TrimLeft_h) 19 strings_TrimLeft_s x = strings_TrimLeft x := by
  have e1 : (fun s cutset t12 => (jfn Tryd.prog strings_TrimLeft_e 6 18446744073709551616 (Ev.get strings_TrimLeft_h) 19 strings_TrimLeft_s) 6 [] (strings_TrimLeft_k1 s cutset t12)) = strings_TrimLeft_K1 := funext fun s => funext fun cutset => funext fun t12 => strings_TrimLeft_g1 s cutset t12
  rw [rfn_eq, strings_TrimLeft_c0, e1]
  rfl
theorem strings_TrimLeft_ok : CtOk Tryd.prog (fun _ => True) 19 ⟨strings_TrimLeft_s, strings_TrimLeft⟩ := ct_of_ev (env_cons strings_trimLeftByte_ok (env_cons strings_makeASCIISet_ok (env_cons strings_trimLeftASCII_ok (env_cons strings_trimLeftUnicode_ok env_nil)))) strings_TrimLeft_t
/-! lex_letter -/
@[reducible] def lex_letter_s : Sh := ⟨[.d (.int .u8)], [], [.int .u8], [.d (.bool)], [], 0, [.bool]⟩
def lex_letter_e : Env := (cts [])
def lex_letter_h : List (Nat × Hint) := []
def lex_letter_m0 (c : Int) : Option (As [.bool]) :=
  if ge c 97 = true then if le c 122 = true then some (true, ()) else if ge c 65 = true then some (le c 90, ()) else some (false, ()) else if ge c 65 = true then some (le c 90, ()) else some (false, ())
def lex_letter (x : As [.int .u8]) : Option (As [.bool]) := lex_letter_m0 x.1
theorem lex_letter_c0 (J : Orc (As [.bool])) (x : As [.int .u8]) : rfn Tryd.prog lex_letter_e 6 18446744073709551616 (Ev.get lex_letter_h) 98 lex_letter_s J x = lex_letter_m0 x.1 := by kernel_rfl
theorem lex_letter_t (x : As [.int .u8]) : evT Tryd.prog lex_letter_e 6 18446744073709551616 (Ev.get lex_letter_h) 98 lex_letter_s x = lex_letter x := by
  rw [rfn_eq, lex_letter_c0]
  rfl
theorem lex_letter_ok : CtOk Tryd.prog (fun _ => True) 98 ⟨lex_letter_s, lex_letter⟩ := ct_of_ev env_nil lex_letter_t
/-! lex_classes_z1 -/
@[reducible] def lex_classes_z1_s : Sh := ⟨[.d (.int .u8)], [], [.int .u8], [.d (.bool)], [], 0, [.bool]⟩
def lex_classes_z1_e : Env := (cts [(98, (⟨lex_letter_s, lex_letter⟩ : Ct))])
def lex_classes_z1_h : List (Nat × Hint) := []
def lex_classes_z1_m0 (c : Int) : Option (As [.bool]) :=
  Option.bind (lex_letter (c, ())) fun (y : Bool × Unit) => if y.fst = true then some (true, ()) else some (eqi c 37, ())
def lex_classes_z1 (x : As [.int .u8]) : Option (As [.bool]) := lex_classes_z1_m0 x.1
theorem lex_classes_z1_c0 (J : Orc (As [.bool])) (x : As [.int .u8]) : rfn Tryd.prog lex_classes_z1_e 6 18446744073709551616 (Ev.get lex_classes_z1_h) 97 lex_classes_z1_s J x = lex_classes_z1_m0 x.1 := by kernel_rfl
theorem lex_classes_z1_t (x : As [.int .u8]) : evT Tryd.prog lex_classes_z1_e 6 18446744073709551616 (Ev.get lex_classes_z1_h) 97 lex_classes_z1_s x = lex_classes_z1 x := by
  rw [rfn_eq, lex_classes_z1_c0]
  rfl
theorem lex_classes_z1_ok : CtOk Tryd.prog (fun _ => True) 97 ⟨lex_classes_z1_s, lex_classes_z1⟩ := ct_of_ev (env_cons lex_letter_ok env_nil) lex_classes_z1_t
/-! lex_digit -/
@[reducible] def lex_digit_s : Sh := ⟨[.d (.int .u8)], [], [.int .u8], [.d (.bool)], [], 0, [.bool]⟩
def lex_digit_e : Env := (cts [])
def lex_digit_h : List (Nat × Hint) := []
def lex_digit_m0 (c : Int) : Option (As [.bool]) :=
  if ge c 48 = true then some (le c 57, ()) else some (false, ())
def lex_digit (x : As [.int .u8]) : Option (As [.bool]) := lex_digit_m0 x.1
theorem lex_digit_c0 (J : Orc (As [.bool])) (x : As [.int .u8]) : rfn Tryd.prog lex_digit_e 6 18446744073709551616 (Ev.get lex_digit_h) 100 lex_digit_s J x = lex_digit_m0 x.1 := by kernel_rfl
theorem lex_digit_t (x : As [.int .u8]) : evT Tryd.prog lex_digit_e 6 18446744073709551616 (Ev.get lex_digit_h) 100 lex_digit_s x = lex_digit x := by
  rw [rfn_eq, lex_digit_c0]
  rfl
theorem lex_digit_ok : CtOk Tryd.prog (fun _ => True) 100 ⟨lex_digit_s, lex_digit⟩ := ct_of_ev env_nil lex_digit_t
/-! lex_classes_z2 -/
@[reducible] def lex_classes_z2_s : Sh := ⟨[.d (.int .u8)], [], [.int .u8], [.d (.bool)], [], 0, [.bool]⟩
def lex_classes_z2_e : Env := (cts [(98, (⟨lex_letter_s, lex_letter⟩ : Ct)), (100, (⟨lex_digit_s, lex_digit⟩ : Ct))])
def lex_classes_z2_h : List (Nat × Hint) := []
def lex_classes_z2_m0 (c : Int) : Option (As [.bool]) :=
  Option.bind (lex_letter (c, ())) fun (y : Bool × Unit) => if y.fst = true then some (true, ()) else Option.bind (lex_digit (c, ())) fun (y : Bool × Unit) => if y.fst = true then some (true, ()) else if eqi c 95 = true then some (true, ()) else some (eqi c 37, ())
def lex_classes_z2 (x : As [.int .u8]) : Option (As [.bool]) := lex_classes_z2_m0 x.1
theorem lex_classes_z2_c0 (J : Orc (As [.bool])) (x : As [.int .u8]) : rfn Tryd.prog lex_classes_z2_e 6 18446744073709551616 (Ev.get lex_classes_z2_h) 99 lex_classes_z2_s J x = lex_classes_z2_m0 x.1 := by kernel_rfl
theorem lex_classes_z2_t (x : As [.int .u8]) : evT Tryd.prog lex_classes_z2_e 6 18446744073709551616 (Ev.get lex_classes_z2_h) 99 lex_classes_z2_s x = lex_classes_z2 x := by
  rw [rfn_eq, lex_classes_z2_c0]
  rfl
theorem lex_classes_z2_ok : CtOk Tryd.prog (fun _ => True) 99 ⟨lex_classes_z2_s, lex_classes_z2⟩ := ct_of_ev (env_cons lex_letter_ok (env_cons lex_digit_ok env_nil)) lex_classes_z2_t
/-! lex_word -/
@[reducible] def lex_word_s : Sh := ⟨[.pb 0 0], [.box 35 [.d (.int .u8), .d .str, .d (.int .i64), .d (.int .u8), .d (.int .i64)]], [.int .u8, .str, .int .i64, .int .u8, .int .i64], [.d (.int .i64)], [(0, .box 35 [.d (.int .u8), .d .str, .d (.int .i64), .d (.int .u8), .d (.int .i64)])], 0, [.int .i64, .int .u8, .str, .int .i64, .int .u8, .int .i64]⟩
def lex_word_e : Env := (cts [])
def lex_word_h : List (Nat × Hint) := []
def lex_word_m0 (t : Int) (t_2 : List UInt8) (v : Int) (v_2 : Int) (v_3 : Int) : Option (As [.int .i64, .int .u8, .str, .int .i64, .int .u8, .int .i64]) :=
  if gt (Int.ofNat (List.length t_2)) 20 = true then some (133, t, t_2, v, v_2, v_3, ()) else some (0, t, t_2, v, v_2, v_3, ())
def lex_word (x : As [.int .u8, .str, .int .i64, .int .u8, .int .i64]) : Option (As [.int .i64, .int .u8, .str, .int .i64, .int .u8, .int .i64]) := lex_word_m0 x.1 x.2.1 x.2.2.1 x.2.2.2.1 x.2.2.2.2.1
theorem lex_word_c0 (J : Orc (As [.int .i64, .int .u8, .str, .int .i64, .int .u8, .int .i64])) (x : As [.int .u8, .str, .int .i64, .int .u8, .int .i64]) : rfn Tryd.prog lex_word_e 6 18446744073709551616 (Ev.get lex_word_h) 101 lex_word_s J x = lex_word_m0 x.1 x.2.1 x.2.2.1 x.2.2.2.1 x.2.2.2.2.1 := by kernel_rfl
theorem lex_word_t (x : As [.int .u8, .str, .int .i64, .int .u8, .int .i64]) : evT Tryd.prog lex_word_e 6 18446744073709551616 (Ev.get lex_word_h) 101 lex_word_s x = lex_word x := by
  rw [rfn_eq, lex_word_c0]
  rfl
theorem lex_word_ok : CtOk Tryd.prog (fun _ => True) 101 ⟨lex_word_s, lex_word⟩ := ct_of_ev env_nil lex_word_t
/-! lex_classes_z3 -/
@[reducible] def lex_classes_z3_s : Sh := ⟨[.d (.int .u8)], [], [.int .u8], [.d (.bool)], [], 0, [.bool]⟩
def lex_classes_z3_e : Env := (cts [(100, (⟨lex_digit_s, lex_digit⟩ : Ct))])
def lex_classes_z3_h : List (Nat × Hint) := []
def lex_classes_z3_m0 (c : Int) : Option (As [.bool]) :=
  Option.bind (lex_digit (c, ())) fun (y : Bool × Unit) => if y.fst = true then some (true, ()) else some (eqi c 45, ())
def lex_classes_z3 (x : As [.int .u8]) : Option (As [.bool]) := lex_classes_z3_m0 x.1
theorem lex_classes_z3_c0 (J : Orc (As [.bool])) (x : As [.int .u8]) : rfn Tryd.prog lex_classes_z3_e 6 18446744073709551616 (Ev.get lex_classes_z3_h) 102 lex_classes_z3_s J x = lex_classes_z3_m0 x.1 := by kernel_rfl
theorem lex_classes_z3_t (x : As [.int .u8]) : evT Tryd.prog lex_classes_z3_e 6 18446744073709551616 (Ev.get lex_classes_z3_h) 102 lex_classes_z3_s x = lex_classes_z3 x := by
  rw [rfn_eq, lex_classes_z3_c0]
  rfl
theorem lex_classes_z3_ok : CtOk Tryd.prog (fun _ => True) 102 ⟨lex_classes_z3_s, lex_classes_z3⟩ := ct_of_ev (env_cons lex_digit_ok env_nil) lex_classes_z3_t
/-! lex_classes_z4 -/
@[reducible] def lex_classes_z4_s : Sh := ⟨[.d (.int .u8)], [], [.int .u8], [.d (.bool)], [], 0, [.bool]⟩
def lex_classes_z4_e : Env := (cts [(100, (⟨lex_digit_s, lex_digit⟩ : Ct))])
def lex_classes_z4_h : List (Nat × Hint) := []
def lex_classes_z4_m0 (c : Int) : Option (As [.bool]) :=
  Option.bind (lex_digit (c, ())) fun (y : Bool × Unit) => if y.fst = true then some (true, ()) else if eqi c 46 = true then some (true, ()) else some (eqi c 45, ())
def lex_classes_z4 (x : As [.int .u8]) : Option (As [.bool]) := lex_classes_z4_m0 x.1
theorem lex_classes_z4_c0 (J : Orc (As [.bool])) (x : As [.int .u8]) : rfn Tryd.prog lex_classes_z4_e 6 18446744073709551616 (Ev.get lex_classes_z4_h) 103 lex_classes_z4_s J x = lex_classes_z4_m0 x.1 := by kernel_rfl
theorem lex_classes_z4_t (x : As [.int .u8]) : evT Tryd.prog lex_classes_z4_e 6 18446744073709551616 (Ev.get lex_classes_z4_h) 103 lex_classes_z4_s x = lex_classes_z4 x := by
  rw [rfn_eq, lex_classes_z4_c0]
  rfl
theorem lex_classes_z4_ok : CtOk Tryd.prog (fun _ => True) 103 ⟨lex_classes_z4_s, lex_classes_z4⟩ := ct_of_ev (env_cons lex_digit_ok env_nil) lex_classes_z4_t
/-! istringslite_HasPrefix -/
@[reducible] def istringslite_HasPrefix_s : Sh := ⟨[.d (.str), .d (.str)], [], [.str, .str], [.d (.bool)], [], 0, [.bool]⟩
def istringslite_HasPrefix_e : Env := (cts [])
def istringslite_HasPrefix_h : List (Nat × Hint) := []
def istringslite_HasPrefix_m0 (s : List UInt8) (prefixV : List UInt8) : Option (As [.bool]) :=
  if ge (Int.ofNat (List.length s)) (Int.ofNat (List.length prefixV)) = true then Option.bind (cut s 0 (Int.ofNat (List.length prefixV))) fun (y : List UInt8) => some (eqs y prefixV, ()) else some (false, ())
def istringslite_HasPrefix (x : As [.str, .str]) : Option (As [.bool]) := istringslite_HasPrefix_m0 x.1 x.2.1
theorem istringslite_HasPrefix_c0 (J : Orc (As [.bool])) (x : As [.str, .str]) : rfn Tryd.prog istringslite_HasPrefix_e 6 18446744073709551616 (Ev.get istringslite_HasPrefix_h) 65 istringslite_HasPrefix_s J x = istringslite_HasPrefix_m0 x.1 x.2.1 := by kernel_rfl
theorem istringslite_HasPrefix_t (x : As [.str, .str]) : evT Tryd.prog istringslite_HasPrefix_e 6 18446744073709551616 (Ev.get istringslite_HasPrefix_h) 65 istringslite_HasPrefix_s x = istringslite_HasPrefix x := by
  rw [rfn_eq, istringslite_HasPrefix_c0]
  rfl
theorem istringslite_HasPrefix_ok : CtOk Tryd.prog (fun _ => True) 65 ⟨istringslite_HasPrefix_s, istringslite_HasPrefix⟩ := ct_of_ev env_nil istringslite_HasPrefix_t
/-! istringslite_CutPrefix -/
@[reducible] def istringslite_CutPrefix_s : Sh := ⟨[.d (.str), .d (.str)], [], [.str, .str], [.d (.str), .d (.bool)], [], 0, [.str, .bool]⟩
def istringslite_CutPrefix_e : Env := (cts [(65, (⟨istringslite_HasPrefix_s, istringslite_HasPrefix⟩ : Ct))])
def istringslite_CutPrefix_h : List (Nat × Hint) := []
def istringslite_CutPrefix_m0 (s : List UInt8) (prefixV : List UInt8) : Option (As [.str, .bool]) :=
  Option.bind (istringslite_HasPrefix (s, prefixV, ())) fun (y : Bool × Unit) => if (!y.fst) = true then some (s, false, ()) else Option.bind (cut s (Int.ofNat (List.length prefixV)) (Int.ofNat (List.length s))) fun (y : List UInt8) => some (y, true, ())
def istringslite_CutPrefix (x : As [.str, .str]) : Option (As [.str, .bool]) := istringslite_CutPrefix_m0 x.1 x.2.1
theorem istringslite_CutPrefix_c0 (J : Orc (As [.str, .bool])) (x : As [.str, .str]) : rfn Tryd.prog istringslite_CutPrefix_e 6 18446744073709551616 (Ev.get istringslite_CutPrefix_h) 119 istringslite_CutPrefix_s J x = istringslite_CutPrefix_m0 x.1 x.2.1 := by kernel_rfl
theorem istringslite_CutPrefix_t (x : As [.str, .str]) : evT Tryd.prog istringslite_CutPrefix_e 6 18446744073709551616 (Ev.get istringslite_CutPrefix_h) 119 istringslite_CutPrefix_s x = istringslite_CutPrefix x := by
  rw [rfn_eq, istringslite_CutPrefix_c0]
  rfl
theorem istringslite_CutPrefix_ok : CtOk Tryd.prog (fun _ => True) 119 ⟨istringslite_CutPrefix_s, istringslite_CutPrefix⟩ := ct_of_ev (env_cons istringslite_HasPrefix_ok env_nil) istringslite_CutPrefix_t
/-! strings_CutPrefix -/
@[reducible] def strings_CutPrefix_s : Sh := ⟨[.d (.str), .d (.str)], [], [.str, .str], [.d (.str), .d (.bool)], [], 0, [.str, .bool]⟩
def strings_CutPrefix_e : Env := (cts [(119, (⟨istringslite_CutPrefix_s, istringslite_CutPrefix⟩ : Ct))])
def strings_CutPrefix_h : List (Nat × Hint) := []
def strings_CutPrefix_m0 (s : List UInt8) (prefixV : List UInt8) : Option (As [.str, .bool]) :=
  Option.bind (istringslite_CutPrefix (s, prefixV, ())) fun (y : List UInt8 × Bool × Unit) => some (y.fst, y.snd.fst, ())
def strings_CutPrefix (x : As [.str, .str]) : Option (As [.str, .bool]) := strings_CutPrefix_m0 x.1 x.2.1
theorem strings_CutPrefix_c0 (J : Orc (As [.str, .bool])) (x : As [.str, .str]) : rfn Tryd.prog strings_CutPrefix_e 6 18446744073709551616 (Ev.get strings_CutPrefix_h) 70 strings_CutPrefix_s J x = strings_CutPrefix_m0 x.1 x.2.1 := by kernel_rfl
theorem strings_CutPrefix_t (x : As [.str, .str]) : evT Tryd.prog strings_CutPrefix_e 6 18446744073709551616 (Ev.get strings_CutPrefix_h) 70 strings_CutPrefix_s x = strings_CutPrefix x := by
  rw [rfn_eq, strings_CutPrefix_c0]
  rfl
theorem strings_CutPrefix_ok : CtOk Tryd.prog (fun _ => True) 70 ⟨strings_CutPrefix_s, strings_CutPrefix⟩ := ct_of_ev (env_cons istringslite_CutPrefix_ok env_nil) strings_CutPrefix_t
/-! units_allDigits -/
@[reducible] def units_allDigits_s : Sh := ⟨[.d (.str)], [], [.str], [.d (.bool)], [], 0, [.bool]⟩
def units_allDigits_e : Env := (cts [])
def units_allDigits_h : List (Nat × Hint) := [(3, ⟨[], [0]⟩), (26, ⟨[], [0, 5, 6, 14, 15, 16, 17]⟩), (1689, ⟨[], [0, 5, 6, 18]⟩)]
def units_allDigits_k1 (s : List UInt8) (t5 : Int) (t6 : Int) : St := { fr := [(0, .d .str s), (5, .d (.int .i64) t5), (6, .d (.int .i64) t6)], nt := 22, up := [], own := [], nx := 0, log := [], ln := 0 }
def units_allDigits_k2 (s : List UInt8) (t5 : Int) (t6 : Int) (t18 : Bool) : St := { fr := [(0, .d .str s), (5, .d (.int .i64) t5), (6, .d (.int .i64) t6), (18, .d .bool t18)], nt := 22, up := [], own := [], nx := 0, log := [], ln := 0 }
def units_allDigits_k3 (s : List UInt8) : St := { fr := [(0, .d .str s)], nt := 22, up := [], own := [], nx := 0, log := [], ln := 0 }
def units_allDigits_m1 (j2 : List UInt8 → Int → Int → Bool → Option (As [.bool])) (j3 : List UInt8 → Option (As [.bool])) (self1 : List UInt8 → Int → Int → Option (As [.bool])) (s : List UInt8) (t5 : Int) (t6 : Int) : Option (As [.bool]) :=
  if lt t6 t5 = true then Option.bind (at? s t6) fun (c : UInt8) => if lt (Int.ofNat (UInt8.toNat c)) 48 = true then j2 s t5 t6 true else Option.bind (at? s t6) fun (c : UInt8) => j2 s t5 t6 (gt (Int.ofNat (UInt8.toNat c)) 57) else j3 s
def units_allDigits_m2 (self1 : List UInt8 → Int → Int → Option (As [.bool])) (s : List UInt8) (t5 : Int) (t6 : Int) (t18 : Bool) : Option (As [.bool]) :=
  if t18 = true then some (false, ()) else self1 s t5 (add .i64 t6 1)
def units_allDigits_m3 (s : List UInt8) : Option (As [.bool]) :=
  some (nes s [], ())
def units_allDigits_m0 (j1 : List UInt8 → Int → Int → Option (As [.bool])) (s : List UInt8) : Option (As [.bool]) :=
  j1 s (Int.ofNat (List.length s)) 0
def units_allDigits_K2 (u1 : List UInt8 → Int → Int → Option (As [.bool])) (s : List UInt8) (t5 : Int) (t6 : Int) (t18 : Bool) : Option (As [.bool]) := units_allDigits_m2 u1 s t5 t6 t18
def units_allDigits_K3 (s : List UInt8) : Option (As [.bool]) := units_allDigits_m3 s
def units_allDigits_K1 (s : List UInt8) (t5 : Int) (t6 : Int) : Option (As [.bool]) :=
  loopF (fun (self : (List UInt8) × (Int) × (Int) → Option (As [.bool])) (s : (List UInt8) × (Int) × (Int)) => units_allDigits_m1 (units_allDigits_K2 (fun s t5 t6 => self (s, t5, t6))) (units_allDigits_K3) (fun s t5 t6 => self (s, t5, t6)) s.1 s.2.1 s.2.2) 18446744073709551616 (s, t5, t6)
def units_allDigits (x : As [.str]) : Option (As [.bool]) := units_allDigits_m0 units_allDigits_K1 x.1
theorem units_allDigits_c2 (J : Orc (As [.bool])) (w1 : St → Option (As [.bool])) (s : List UInt8) (t5 : Int) (t6 : Int) (t18 : Bool) : pfn Tryd.prog units_allDigits_e 6 18446744073709551616 (Ev.get units_allDigits_h) 76 units_allDigits_s J 1689 [w1] (units_allDigits_k2 s t5 t6 t18) = units_allDigits_m2 (fun s t5 t6 => w1 (units_allDigits_k1 s t5 t6)) s t5 t6 t18 := by kernel_rfl
theorem units_allDigits_c3 (J : Orc (As [.bool])) (s : List UInt8) : pfn Tryd.prog units_allDigits_e 6 18446744073709551616 (Ev.get units_allDigits_h) 76 units_allDigits_s J 3 [] (units_allDigits_k3 s) = units_allDigits_m3 s := by kernel_rfl
theorem units_allDigits_c1 (J : Orc (As [.bool])) (w1 : St → Option (As [.bool])) (s : List UInt8) (t5 : Int) (t6 : Int) : pfn Tryd.prog units_allDigits_e 6 18446744073709551616 (Ev.get units_allDigits_h) 76 units_allDigits_s J 26 [w1] (units_allDigits_k1 s t5 t6) = units_allDigits_m1 (fun s t5 t6 t18 => J 1689 [w1] (units_allDigits_k2 s t5 t6 t18)) (fun s => J 3 [] (units_allDigits_k3 s)) (fun s t5 t6 => w1 (units_allDigits_k1 s t5 t6)) s t5 t6 := by kernel_rfl
theorem units_allDigits_c0 (J : Orc (As [.bool])) (x : As [.str]) : rfn Tryd.prog units_allDigits_e 6 18446744073709551616 (Ev.get units_allDigits_h) 76 units_allDigits_s J x = units_allDigits_m0 (fun s t5 t6 => J 26 [] (units_allDigits_k1 s t5 t6)) x.1 := by kernel_rfl
theorem units_allDigits_g2 (w1 : St → Option (As [.bool])) (s : List UInt8) (t5 : Int) (t6 : Int) (t18 : Bool) : jfn Tryd.prog units_allDigits_e 6 18446744073709551616 (Ev.get units_allDigits_h) 76 units_allDigits_s 1689 [w1] (units_allDigits_k2 s t5 t6 t18) = units_allDigits_K2 (fun s t5 t6 => w1 (units_allDigits_k1 s t5 t6)) s t5 t6 t18 := by
  rw [pfn_eq (by decide)]
  rw [units_allDigits_c2]
  rfl
theorem units_allDigits_g3 (s : List UInt8) : jfn Tryd.prog units_allDigits_e 6 18446744073709551616 (Ev.get units_allDigits_h) 76 units_allDigits_s 3 [] (units_allDigits_k3 s) = units_allDigits_K3 s := by
  rw [pfn_eq (by decide)]
  rw [units_allDigits_c3]
  rfl
theorem units_allDigits_g1 (s : List UInt8) (t5 : Int) (t6 : Int) : jfn Tryd.prog units_allDigits_e 6 18446744073709551616 (Ev.get units_allDigits_h) 76 units_allDigits_s 26 [] (units_allDigits_k1 s t5 t6) = units_allDigits_K1 s t5 t6 := by
  rw [pfn_eq (by decide)]
  rw [pfn_loop (by kernel_rfl)]
  refine loopF_sim (σ := (List UInt8) × (Int) × (Int)) (mk := fun s => units_allDigits_k1 s.1 s.2.1 s.2.2) (fun w1 s => ?_) 18446744073709551616 (s, t5, t6)
  have e2 : (fun s t5 t6 t18 => (jfn Tryd.prog units_allDigits_e 6 18446744073709551616 (Ev.get units_allDigits_h) 76 units_allDigits_s) 1689 [w1] (units_allDigits_k2 s t5 t6 t18)) = units_allDigits_K2 (fun s t5 t6 => w1 (units_allDigits_k1 s t5 t6)) := funext fun s => funext fun t5 => funext fun t6 => funext fun t18 => units_allDigits_g2 w1 s t5 t6 t18
  have e3 : (fun s => (jfn Tryd.prog units_allDigits_e 6 18446744073709551616 (Ev.get units_allDigits_h) 76 units_allDigits_s) 3 [] (units_allDigits_k3 s)) = units_allDigits_K3 := funext fun s => units_allDigits_g3 s
  refine (units_allDigits_c1 _ w1 s.1 s.2.1 s.2.2).trans ?_
  rw [e2, e3]
theorem units_allDigits_t (x : As [.str]) : evT Tryd.prog units_allDigits_e 6 18446744073709551616 (Ev.get units_allDigits_h) 76 units_allDigits_s x = units_allDigits x := by
  have e1 : (fun s t5 t6 => (jfn Tryd.prog units_allDigits_e 6 18446744073709551616 (Ev.get units_allDigits_h) 76 units_allDigits_s) 26 [] (units_allDigits_k1 s t5 t6)) = units_allDigits_K1 := funext fun s => funext fun t5 => funext fun t6 => units_allDigits_g1 s t5 t6
  rw [rfn_eq, units_allDigits_c0, e1]
  rfl
theorem units_allDigits_ok : CtOk Tryd.prog (fun _ => True) 76 ⟨units_allDigits_s, units_allDigits⟩ := ct_of_ev env_nil units_allDigits_t
/-! strings_trimRightByte -/
@[reducible] def strings_trimRightByte_s : Sh := ⟨[.d (.str), .d (.int .u8)], [], [.str, .int .u8], [.d (.str)], [], 0, [.str]⟩
def strings_trimRightByte_e : Env := (cts [])
def strings_trimRightByte_h : List (Nat × Hint) := [(12, ⟨[], [0, 1, 9, 10, 11, 12, 13, 14, 15]⟩), (48, ⟨[], [0, 1, 16]⟩)]
def strings_trimRightByte_k1 (s : List UInt8) (c : Int) : St := { fr := [(0, .d .str s), (1, .d (.int .u8) c)], nt := 23, up := [], own := [], nx := 0, log := [], ln := 0 }
def strings_trimRightByte_k2 (s : List UInt8) (c : Int) (t16 : Bool) : St := { fr := [(0, .d .str s), (1, .d (.int .u8) c), (16, .d .bool t16)], nt := 23, up := [], own := [], nx := 0, log := [], ln := 0 }
def strings_trimRightByte_m1 (j2 : List UInt8 → Int → Bool → Option (As [.str])) (self1 : List UInt8 → Int → Option (As [.str])) (s : List UInt8) (c : Int) : Option (As [.str]) :=
  if gt (Int.ofNat (List.length s)) 0 = true then Option.bind (at? s (Sx.sub .i64 (Int.ofNat (List.length s)) 1)) fun (c_1 : UInt8) => j2 s c (eqi (Int.ofNat (UInt8.toNat c_1)) c) else j2 s c false
def strings_trimRightByte_m2 (self1 : List UInt8 → Int → Option (As [.str])) (s : List UInt8) (c : Int) (t16 : Bool) : Option (As [.str]) :=
  if t16 = true then Option.bind (cut s 0 (Sx.sub .i64 (Int.ofNat (List.length s)) 1)) fun (y : List UInt8) => self1 y c else some (s, ())
def strings_trimRightByte_m0 (j1 : List UInt8 → Int → Option (As [.str])) (s : List UInt8) (c : Int) : Option (As [.str]) :=
  j1 s c
def strings_trimRightByte_K2 (u1 : List UInt8 → Int → Option (As [.str])) (s : List UInt8) (c : Int) (t16 : Bool) : Option (As [.str]) := strings_trimRightByte_m2 u1 s c t16
def strings_trimRightByte_K1 (s : List UInt8) (c : Int) : Option (As [.str]) :=
  loopF (fun (self : (List UInt8) × (Int) → Option (As [.str])) (s : (List UInt8) × (Int)) => strings_trimRightByte_m1 (strings_trimRightByte_K2 (fun s c => self (s, c))) (fun s c => self (s, c)) s.1 s.2) 18446744073709551616 (s, c)
def strings_trimRightByte (x : As [.str, .int .u8]) : Option (As [.str]) := strings_trimRightByte_m0 strings_trimRightByte_K1 x.1 x.2.1
theorem strings_trimRightByte_c2 (J : Orc (As [.str])) (w1 : St → Option (As [.str])) (s : List UInt8) (c : Int) (t16 : Bool) : pfn Tryd.prog strings_trimRightByte_e 6 18446744073709551616 (Ev.get strings_trimRightByte_h) 94 strings_trimRightByte_s J 48 [w1] (strings_trimRightByte_k2 s c t16) = strings_trimRightByte_m2 (fun s c => w1 (strings_trimRightByte_k1 s c)) s c t16 := by kernel_rfl
theorem strings_trimRightByte_c1 (J : Orc (As [.str])) (w1 : St → Option (As [.str])) (s : List UInt8) (c : Int) : pfn Tryd.prog strings_trimRightByte_e 6 18446744073709551616 (Ev.get strings_trimRightByte_h) 94 strings_trimRightByte_s J 12 [w1] (strings_trimRightByte_k1 s c) = strings_trimRightByte_m1 (fun s c t16 => J 48 [w1] (strings_trimRightByte_k2 s c t16)) (fun s c => w1 (strings_trimRightByte_k1 s c)) s c := by kernel_rfl
theorem strings_trimRightByte_c0 (J : Orc (As [.str])) (x : As [.str, .int .u8]) : rfn Tryd.prog strings_trimRightByte_e 6 18446744073709551616 (Ev.get strings_trimRightByte_h) 94 strings_trimRightByte_s J x = strings_trimRightByte_m0 (fun s c => J 12 [] (strings_trimRightByte_k1 s c)) x.1 x.2.1 := by kernel_rfl
theorem strings_trimRightByte_g2 (w1 : St → Option (As [.str])) (s : List UInt8) (c : Int) (t16 : Bool) : jfn Tryd.prog strings_trimRightByte_e 6 18446744073709551616 (Ev.get strings_trimRightByte_h) 94 strings_trimRightByte_s 48 [w1] (strings_trimRightByte_k2 s c t16) = strings_trimRightByte_K2 (fun s c => w1 (strings_trimRightByte_k1 s c)) s c t16 := by
  rw [pfn_eq (by decide)]
  rw [strings_trimRightByte_c2]
  rfl
theorem strings_trimRightByte_g1 (s : List UInt8) (c : Int) : jfn Tryd.prog strings_trimRightByte_e 6 18446744073709551616 (Ev.get strings_trimRightByte_h) 94 strings_trimRightByte_s 12 [] (strings_trimRightByte_k1 s c) = strings_trimRightByte_K1 s c := by
  rw [pfn_eq (by decide)]
  rw [pfn_loop (by kernel_rfl)]
  refine loopF_sim (σ := (List UInt8) × (Int)) (mk := fun s => strings_trimRightByte_k1 s.1 s.2) (fun w1 s => ?_) 18446744073709551616 (s, c)
  have e2 : (fun s c t16 => (jfn Tryd.prog strings_trimRightByte_e 6 18446744073709551616 (Ev.get strings_trimRightByte_h) 94 strings_trimRightByte_s) 48 [w1] (strings_trimRightByte_k2 s c t16)) = strings_trimRightByte_K2 (fun s c => w1 (strings_trimRightByte_k1 s c)) := funext fun s => funext fun c => funext fun t16 => strings_trimRightByte_g2 w1 s c t16
  refine (strings_trimRightByte_c1 _ w1 s.1 s.2).trans ?_
  rw [e2]
theorem strings_trimRightByte_t (x : As [.str, .int .u8]) : evT Tryd.prog strings_trimRightByte_e 6 18446744073709551616 (Ev.get strings_trimRightByte_h) 94 strings_trimRightByte_s x = strings_trimRightByte x := by
  have e1 : (fun s c => (jfn Tryd.prog strings_trimRightByte_e 6 18446744073709551616 (Ev.get strings_trimRightByte_h) 94 strings_trimRightByte_s) 12 [] (strings_trimRightByte_k1 s c)) = strings_trimRightByte_K1 := funext fun s => funext fun c => strings_trimRightByte_g1 s c
  rw [rfn_eq, strings_trimRightByte_c0, e1]
  rfl
theorem strings_trimRightByte_ok : CtOk Tryd.prog (fun _ => True) 94 ⟨strings_trimRightByte_s, strings_trimRightByte⟩ := ct_of_ev env_nil strings_trimRightByte_t
/-! units_Parse -/
@[reducible] def units_Parse_s : Sh := ⟨[.d (.str)], [], [.str], [.d (.pr (.int .i64) (.int .u8)), .d (.bool)], [], 0, [.pr (.int .i64) (.int .u8), .bool]⟩
def units_Parse_e : Env := (cts [(62, (⟨strings_makeASCIISet_s, strings_makeASCIISet⟩ : Ct)), (70, (⟨strings_CutPrefix_s, strings_CutPrefix⟩ : Ct)), (76, (⟨units_allDigits_s, units_allDigits⟩ : Ct)), (94, (⟨strings_trimRightByte_s, strings_trimRightByte⟩ : Ct))])
def units_Parse_h : List (Nat × Hint) := [(255, ⟨[], [2, 5, 7, 9]⟩), (511, ⟨[], [2, 7, 9]⟩), (2042, ⟨[], [2, 5, 7, 9, 54, 55]⟩), (522854, ⟨[], [2, 5, 7, 9, 11, 54, 55, 59, 60]⟩), (62, ⟨[], [2, 5, 6, 7, 48]⟩), (30, ⟨[], [2, 5, 6, 7, 8, 36, 40, 41, 42, 43, 44, 45, 46, 47]⟩)]
def units_Parse_k1 (negative : Bool) (whole : List UInt8) (rest : List UInt8) (point : Bool) (t36 : Bool) (t2 : Int) (t2_2 : Int) : St := { fr := [(2, .pb 0 0), (5, .d .bool negative), (6, .d .str whole), (7, .d .str rest), (8, .d .bool point), (36, .d .bool t36)], nt := 84, up := [], own := [(0, .box 33 [.d (.int .i64) t2, .d (.int .u8) t2_2])], nx := 1, log := [], ln := 0 }
def units_Parse_k2 (negative : Bool) (whole : List UInt8) (rest : List UInt8) (t48 : Bool) (t2 : Int) (t2_2 : Int) : St := { fr := [(2, .pb 0 0), (5, .d .bool negative), (6, .d .str whole), (7, .d .str rest), (48, .d .bool t48)], nt := 84, up := [], own := [(0, .box 33 [.d (.int .i64) t2, .d (.int .u8) t2_2])], nx := 1, log := [], ln := 0 }
def units_Parse_k3 (negative : Bool) (rest : List UInt8) (n : Int) (t54 : List UInt8) (t54_2 : List UInt8) (t55 : Int) (t2 : Int) (t2_2 : Int) : St := { fr := [(2, .pb 0 0), (5, .d .bool negative), (7, .d .str rest), (9, .d (.int .i64) n), (54, .agg [.d .str t54, .d .str t54_2]), (55, .d (.int .i64) t55)], nt := 84, up := [], own := [(0, .box 33 [.d (.int .i64) t2, .d (.int .u8) t2_2])], nx := 1, log := [], ln := 0 }
def units_Parse_k4 (negative : Bool) (rest : List UInt8) (n : Int) (part : List UInt8) (t54 : List UInt8) (t54_2 : List UInt8) (t55 : Int) (t59 : Int) (t60 : Int) (t2 : Int) (t2_2 : Int) : St := { fr := [(2, .pb 0 0), (5, .d .bool negative), (7, .d .str rest), (9, .d (.int .i64) n), (11, .d .str part), (54, .agg [.d .str t54, .d .str t54_2]), (55, .d (.int .i64) t55), (59, .d (.int .i64) t59), (60, .d (.int .i64) t60)], nt := 84, up := [], own := [(0, .box 33 [.d (.int .i64) t2, .d (.int .u8) t2_2])], nx := 1, log := [], ln := 0 }
def units_Parse_k5 (negative : Bool) (rest : List UInt8) (n : Int) (t2 : Int) (t2_2 : Int) : St := { fr := [(2, .pb 0 0), (5, .d .bool negative), (7, .d .str rest), (9, .d (.int .i64) n)], nt := 84, up := [], own := [(0, .box 33 [.d (.int .i64) t2, .d (.int .u8) t2_2])], nx := 1, log := [], ln := 0 }
def units_Parse_k6 (rest : List UInt8) (n : Int) (t2 : Int) (t2_2 : Int) : St := { fr := [(2, .pb 0 0), (7, .d .str rest), (9, .d (.int .i64) n)], nt := 84, up := [], own := [(0, .box 33 [.d (.int .i64) t2, .d (.int .u8) t2_2])], nx := 1, log := [], ln := 0 }
def units_Parse_m1 (j2 : Bool → List UInt8 → List UInt8 → Bool → Int → Int → Option (As [.pr (.int .i64) (.int .u8), .bool])) (negative : Bool) (whole : List UInt8) (rest : List UInt8) (point : Bool) (t36 : Bool) (t2 : Int) (t2_2 : Int) : Option (As [.pr (.int .i64) (.int .u8), .bool]) :=
  if t36 = true then some ((0, 0), false, ()) else if point = true then Option.bind (units_allDigits (rest, ())) fun (y : Bool × Unit) => if (!y.fst) = true then j2 negative whole rest true t2 t2_2 else j2 negative whole rest (gt (Int.ofNat (List.length rest)) 6) t2 t2_2 else j2 negative whole rest false t2 t2_2
def units_Parse_m2 (j3 : Bool → List UInt8 → Int → List UInt8 → List UInt8 → Int → Int → Int → Option (As [.pr (.int .i64) (.int .u8), .bool])) (negative : Bool) (whole : List UInt8) (rest : List UInt8) (t48 : Bool) (t2 : Int) (t2_2 : Int) : Option (As [.pr (.int .i64) (.int .u8), .bool]) :=
  if t48 = true then some ((0, 0), false, ()) else if eqs rest [] = true then j3 negative rest 0 whole rest 0 t2 t2_2 else Option.bind (strings_trimRightByte (rest, 48, ())) fun (y : List UInt8 × Unit) => j3 negative y.fst 0 whole y.fst 0 t2 t2_2
def units_Parse_m3 (j4 : Bool → List UInt8 → Int → List UInt8 → List UInt8 → List UInt8 → Int → Int → Int → Int → Int → Option (As [.pr (.int .i64) (.int .u8), .bool])) (j5 : Bool → List UInt8 → Int → Int → Int → Option (As [.pr (.int .i64) (.int .u8), .bool])) (self3 : Bool → List UInt8 → Int → List UInt8 → List UInt8 → Int → Int → Int → Option (As [.pr (.int .i64) (.int .u8), .bool])) (negative : Bool) (rest : List UInt8) (n : Int) (t54 : List UInt8) (t54_2 : List UInt8) (t55 : Int) (t2 : Int) (t2_2 : Int) : Option (As [.pr (.int .i64) (.int .u8), .bool]) :=
  if lt t55 2 = true then if eqi t55 1 = true then j4 negative rest n t54_2 t54 t54_2 t55 (Int.ofNat (List.length t54_2)) 0 t2 t2_2 else if eqi t55 0 = true then j4 negative rest n t54 t54 t54_2 t55 (Int.ofNat (List.length t54)) 0 t2 t2_2 else Option.none else j5 negative rest n t2 t2_2
def units_Parse_m4 (self3 : Bool → List UInt8 → Int → List UInt8 → List UInt8 → Int → Int → Int → Option (As [.pr (.int .i64) (.int .u8), .bool])) (self4 : Bool → List UInt8 → Int → List UInt8 → List UInt8 → List UInt8 → Int → Int → Int → Int → Int → Option (As [.pr (.int .i64) (.int .u8), .bool])) (negative : Bool) (rest : List UInt8) (n : Int) (part : List UInt8) (t54 : List UInt8) (t54_2 : List UInt8) (t55 : Int) (t59 : Int) (t60 : Int) (t2 : Int) (t2_2 : Int) : Option (As [.pr (.int .i64) (.int .u8), .bool]) :=
  if lt t60 t59 = true then Option.bind (at? part t60) fun (c : UInt8) => if gt (add .i64 (mul .i64 10 n) (cvt .i64 (Sx.sub .u8 (Int.ofNat (UInt8.toNat c)) 48))) 1000000000000 = true then some ((0, 0), false, ()) else self4 negative rest (add .i64 (mul .i64 10 n) (cvt .i64 (Sx.sub .u8 (Int.ofNat (UInt8.toNat c)) 48))) part t54 t54_2 t55 t59 (add .i64 t60 1) t2 t2_2 else self3 negative rest n t54 t54_2 (add .i64 t55 1) t2 t2_2
def units_Parse_m5 (j6 : List UInt8 → Int → Int → Int → Option (As [.pr (.int .i64) (.int .u8), .bool])) (negative : Bool) (rest : List UInt8) (n : Int) (t2 : Int) (t2_2 : Int) : Option (As [.pr (.int .i64) (.int .u8), .bool]) :=
  if negative = true then j6 rest (Sx.neg .i64 n) t2 t2_2 else j6 rest n t2 t2_2
def units_Parse_m6 (rest : List UInt8) (n : Int) (t2 : Int) (t2_2 : Int) : Option (As [.pr (.int .i64) (.int .u8), .bool]) :=
  some ((n, Int.ofNat (List.length rest % 256)), true, ())
def units_Parse_m0 (j1 : Bool → List UInt8 → List UInt8 → Bool → Bool → Int → Int → Option (As [.pr (.int .i64) (.int .u8), .bool])) (s : List UInt8) : Option (As [.pr (.int .i64) (.int .u8), .bool]) :=
  Option.bind (strings_CutPrefix (s, [45], ())) fun (y : List UInt8 × Bool × Unit) => if eqs [46] y.fst = true then Option.bind (cut y.fst 1 (Int.ofNat (List.length y.fst))) fun (y_1 : List UInt8) => Option.bind (units_allDigits ([], ())) fun (y_2 : Bool × Unit) => if (!y_2.fst) = true then j1 y.snd.fst [] y_1 true true 0 0 else j1 y.snd.fst [] y_1 true false 0 0 else if ge (Go.Lib.indexByte y.fst 46) 0 = true then Option.bind (cut y.fst 0 (Go.Lib.indexByte y.fst 46)) fun (y_1 : List UInt8) => Option.bind (cut y.fst (add .i64 (Go.Lib.indexByte y.fst 46) 1) (Int.ofNat (List.length y.fst))) fun (y_2 : List UInt8) => Option.bind (units_allDigits (y_1, ())) fun (y_3 : Bool × Unit) => if (!y_3.fst) = true then j1 y.snd.fst y_1 y_2 true true 0 0 else if gt (Int.ofNat (List.length y_1)) 1 = true then Option.bind (at? y_1 0) fun (c : UInt8) => j1 y.snd.fst y_1 y_2 true (eqi (Int.ofNat (UInt8.toNat c)) 48) 0 0 else j1 y.snd.fst y_1 y_2 true false 0 0 else Option.bind (units_allDigits (y.fst, ())) fun (y_1 : Bool × Unit) => if (!y_1.fst) = true then j1 y.snd.fst y.fst [] false true 0 0 else if gt (Int.ofNat (List.length y.fst)) 1 = true then Option.bind (at? y.fst 0) fun (c : UInt8) => j1 y.snd.fst y.fst [] false (eqi (Int.ofNat (UInt8.toNat c)) 48) 0 0 else j1 y.snd.fst y.fst [] false false 0 0
def units_Parse_K4 (u3 : Bool → List UInt8 → Int → List UInt8 → List UInt8 → Int → Int → Int → Option (As [.pr (.int .i64) (.int .u8), .bool])) (negative : Bool) (rest : List UInt8) (n : Int) (part : List UInt8) (t54 : List UInt8) (t54_2 : List UInt8) (t55 : Int) (t59 : Int) (t60 : Int) (t2 : Int) (t2_2 : Int) : Option (As [.pr (.int .i64) (.int .u8), .bool]) :=
  loopF (fun (self : (Bool) × (List UInt8) × (Int) × (List UInt8) × (List UInt8) × (List UInt8) × (Int) × (Int) × (Int) × (Int) × (Int) → Option (As [.pr (.int .i64) (.int .u8), .bool])) (s : (Bool) × (List UInt8) × (Int) × (List UInt8) × (List UInt8) × (List UInt8) × (Int) × (Int) × (Int) × (Int) × (Int)) => units_Parse_m4 u3 (fun negative rest n part t54 t54_2 t55 t59 t60 t2 t2_2 => self (negative, rest, n, part, t54, t54_2, t55, t59, t60, t2, t2_2)) s.1 s.2.1 s.2.2.1 s.2.2.2.1 s.2.2.2.2.1 s.2.2.2.2.2.1 s.2.2.2.2.2.2.1 s.2.2.2.2.2.2.2.1 s.2.2.2.2.2.2.2.2.1 s.2.2.2.2.2.2.2.2.2.1 s.2.2.2.2.2.2.2.2.2.2) 18446744073709551616 (negative, rest, n, part, t54, t54_2, t55, t59, t60, t2, t2_2)
def units_Parse_K6 (rest : List UInt8) (n : Int) (t2 : Int) (t2_2 : Int) : Option (As [.pr (.int .i64) (.int .u8), .bool]) := units_Parse_m6 rest n t2 t2_2
def units_Parse_K5 (negative : Bool) (rest : List UInt8) (n : Int) (t2 : Int) (t2_2 : Int) : Option (As [.pr (.int .i64) (.int .u8), .bool]) := units_Parse_m5 (units_Parse_K6) negative rest n t2 t2_2
def units_Parse_K3 (negative : Bool) (rest : List UInt8) (n : Int) (t54 : List UInt8) (t54_2 : List UInt8) (t55 : Int) (t2 : Int) (t2_2 : Int) : Option (As [.pr (.int .i64) (.int .u8), .bool]) :=
  loopF (fun (self : (Bool) × (List UInt8) × (Int) × (List UInt8) × (List UInt8) × (Int) × (Int) × (Int) → Option (As [.pr (.int .i64) (.int .u8), .bool])) (s : (Bool) × (List UInt8) × (Int) × (List UInt8) × (List UInt8) × (Int) × (Int) × (Int)) => units_Parse_m3 (units_Parse_K4 (fun negative rest n t54 t54_2 t55 t2 t2_2 => self (negative, rest, n, t54, t54_2, t55, t2, t2_2))) (units_Parse_K5) (fun negative rest n t54 t54_2 t55 t2 t2_2 => self (negative, rest, n, t54, t54_2, t55, t2, t2_2)) s.1 s.2.1 s.2.2.1 s.2.2.2.1 s.2.2.2.2.1 s.2.2.2.2.2.1 s.2.2.2.2.2.2.1 s.2.2.2.2.2.2.2) 18446744073709551616 (negative, rest, n, t54, t54_2, t55, t2, t2_2)
def units_Parse_K2 (negative : Bool) (whole : List UInt8) (rest : List UInt8) (t48 : Bool) (t2 : Int) (t2_2 : Int) : Option (As [.pr (.int .i64) (.int .u8), .bool]) := units_Parse_m2 (units_Parse_K3) negative whole rest t48 t2 t2_2
def units_Parse_K1 (negative : Bool) (whole : List UInt8) (rest : List UInt8) (point : Bool) (t36 : Bool) (t2 : Int) (t2_2 : Int) : Option (As [.pr (.int .i64) (.int .u8), .bool]) := units_Parse_m1 (units_Parse_K2) negative whole rest point t36 t2 t2_2
def units_Parse (x : As [.str]) : Option (As [.pr (.int .i64) (.int .u8), .bool]) := units_Parse_m0 units_Parse_K1 x.1
theorem units_Parse_c4 (J : Orc (As [.pr (.int .i64) (.int .u8), .bool])) (w3 : St → Option (As [.pr (.int .i64) (.int .u8), .bool])) (w4 : St → Option (As [.pr (.int .i64) (.int .u8), .bool])) (negative : Bool) (rest : List UInt8) (n : Int) (part : List UInt8) (t54 : List UInt8) (t54_2 : List UInt8) (t55 : Int) (t59 : Int) (t60 : Int) (t2 : Int) (t2_2 : Int) : pfn Tryd.prog units_Parse_e 6 18446744073709551616 (Ev.get units_Parse_h) 28 units_Parse_s J 522854 [w3, w4] (units_Parse_k4 negative rest n part t54 t54_2 t55 t59 t60 t2 t2_2) = units_Parse_m4 (fun negative rest n t54 t54_2 t55 t2 t2_2 => w3 (units_Parse_k3 negative rest n t54 t54_2 t55 t2 t2_2)) (fun negative rest n part t54 t54_2 t55 t59 t60 t2 t2_2 => w4 (units_Parse_k4 negative rest n part t54 t54_2 t55 t59 t60 t2 t2_2)) negative rest n part t54 t54_2 t55 t59 t60 t2 t2_2 := by kernel_rfl
theorem units_Parse_c6 (J : Orc (As [.pr (.int .i64) (.int .u8), .bool])) (rest : List UInt8) (n : Int) (t2 : Int) (t2_2 : Int) : pfn Tryd.prog units_Parse_e 6 18446744073709551616 (Ev.get units_Parse_h) 28 units_Parse_s J 511 [] (units_Parse_k6 rest n t2 t2_2) = units_Parse_m6 rest n t2 t2_2 := by kernel_rfl
theorem units_Parse_c5 (J : Orc (As [.pr (.int .i64) (.int .u8), .bool])) (negative : Bool) (rest : List UInt8) (n : Int) (t2 : Int) (t2_2 : Int) : pfn Tryd.prog units_Parse_e 6 18446744073709551616 (Ev.get units_Parse_h) 28 units_Parse_s J 255 [] (units_Parse_k5 negative rest n t2 t2_2) = units_Parse_m5 (fun rest n t2 t2_2 => J 511 [] (units_Parse_k6 rest n t2 t2_2)) negative rest n t2 t2_2 := by kernel_rfl
theorem units_Parse_c3 (J : Orc (As [.pr (.int .i64) (.int .u8), .bool])) (w3 : St → Option (As [.pr (.int .i64) (.int .u8), .bool])) (negative : Bool) (rest : List UInt8) (n : Int) (t54 : List UInt8) (t54_2 : List UInt8) (t55 : Int) (t2 : Int) (t2_2 : Int) : pfn Tryd.prog units_Parse_e 6 18446744073709551616 (Ev.get units_Parse_h) 28 units_Parse_s J 2042 [w3] (units_Parse_k3 negative rest n t54 t54_2 t55 t2 t2_2) = units_Parse_m3 (fun negative rest n part t54 t54_2 t55 t59 t60 t2 t2_2 => J 522854 [w3] (units_Parse_k4 negative rest n part t54 t54_2 t55 t59 t60 t2 t2_2)) (fun negative rest n t2 t2_2 => J 255 [] (units_Parse_k5 negative rest n t2 t2_2)) (fun negative rest n t54 t54_2 t55 t2 t2_2 => w3 (units_Parse_k3 negative rest n t54 t54_2 t55 t2 t2_2)) negative rest n t54 t54_2 t55 t2 t2_2 := by kernel_rfl
theorem units_Parse_c2 (J : Orc (As [.pr (.int .i64) (.int .u8), .bool])) (negative : Bool) (whole : List UInt8) (rest : List UInt8) (t48 : Bool) (t2 : Int) (t2_2 : Int) : pfn Tryd.prog units_Parse_e 6 18446744073709551616 (Ev.get units_Parse_h) 28 units_Parse_s J 62 [] (units_Parse_k2 negative whole rest t48 t2 t2_2) = units_Parse_m2 (fun negative rest n t54 t54_2 t55 t2 t2_2 => J 2042 [] (units_Parse_k3 negative rest n t54 t54_2 t55 t2 t2_2)) negative whole rest t48 t2 t2_2 := by kernel_rfl
theorem units_Parse_c1 (J : Orc (As [.pr (.int .i64) (.int .u8), .bool])) (negative : Bool) (whole : List UInt8) (rest : List UInt8) (point : Bool) (t36 : Bool) (t2 : Int) (t2_2 : Int) : pfn Tryd.prog units_Parse_e 6 18446744073709551616 (Ev.get units_Parse_h) 28 units_Parse_s J 30 [] (units_Parse_k1 negative whole rest point t36 t2 t2_2) = units_Parse_m1 (fun negative whole rest t48 t2 t2_2 => J 62 [] (units_Parse_k2 negative whole rest t48 t2 t2_2)) negative whole rest point t36 t2 t2_2 := by kernel_rfl
theorem units_Parse_c0 (J : Orc (As [.pr (.int .i64) (.int .u8), .bool])) (x : As [.str]) : rfn Tryd.prog units_Parse_e 6 18446744073709551616 (Ev.get units_Parse_h) 28 units_Parse_s J x = units_Parse_m0 (fun negative whole rest point t36 t2 t2_2 => J 30 [] (units_Parse_k1 negative whole rest point t36 t2 t2_2)) x.1 := by kernel_rfl
theorem units_Parse_g4 (w3 : St → Option (As [.pr (.int .i64) (.int .u8), .bool])) (negative : Bool) (rest : List UInt8) (n : Int) (part : List UInt8) (t54 : List UInt8) (t54_2 : List UInt8) (t55 : Int) (t59 : Int) (t60 : Int) (t2 : Int) (t2_2 : Int) : jfn Tryd.prog units_Parse_e 6 18446744073709551616 (Ev.get units_Parse_h) 28 units_Parse_s 522854 [w3] (units_Parse_k4 negative rest n part t54 t54_2 t55 t59 t60 t2 t2_2) = units_Parse_K4 (fun negative rest n t54 t54_2 t55 t2 t2_2 => w3 (units_Parse_k3 negative rest n t54 t54_2 t55 t2 t2_2)) negative rest n part t54 t54_2 t55 t59 t60 t2 t2_2 := by
  rw [pfn_eq (by decide)]
  rw [pfn_loop (by kernel_rfl)]
  refine loopF_sim (σ := (Bool) × (List UInt8) × (Int) × (List UInt8) × (List UInt8) × (List UInt8) × (Int) × (Int) × (Int) × (Int) × (Int)) (mk := fun s => units_Parse_k4 s.1 s.2.1 s.2.2.1 s.2.2.2.1 s.2.2.2.2.1 s.2.2.2.2.2.1 s.2.2.2.2.2.2.1 s.2.2.2.2.2.2.2.1 s.2.2.2.2.2.2.2.2.1 s.2.2.2.2.2.2.2.2.2.1 s.2.2.2.2.2.2.2.2.2.2) (fun w4 s => ?_) 18446744073709551616 (negative, rest, n, part, t54, t54_2, t55, t59, t60, t2, t2_2)
  refine (units_Parse_c4 _ w3 w4 s.1 s.2.1 s.2.2.1 s.2.2.2.1 s.2.2.2.2.1 s.2.2.2.2.2.1 s.2.2.2.2.2.2.1 s.2.2.2.2.2.2.2.1 s.2.2.2.2.2.2.2.2.1 s.2.2.2.2.2.2.2.2.2.1 s.2.2.2.2.2.2.2.2.2.2).trans ?_
  rfl
theorem units_Parse_g6 (rest : List UInt8) (n : Int) (t2 : Int) (t2_2 : Int) : jfn Tryd.prog units_Parse_e 6 18446744073709551616 (Ev.get units_Parse_h) 28 units_Parse_s 511 [] (units_Parse_k6 rest n t2 t2_2) = units_Parse_K6 rest n t2 t2_2 := by
  rw [pfn_eq (by decide)]
  rw [units_Parse_c6]
  rfl
theorem units_Parse_g5 (negative : Bool) (rest : List UInt8) (n : Int) (t2 : Int) (t2_2 : Int) : jfn Tryd.prog units_Parse_e 6 18446744073709551616 (Ev.get units_Parse_h) 28 units_Parse_s 255 [] (units_Parse_k5 negative rest n t2 t2_2) = units_Parse_K5 negative rest n t2 t2_2 := by
  rw [pfn_eq (by decide)]
  have e6 : (fun rest n t2 t2_2 => (jfn Tryd.prog units_Parse_e 6 18446744073709551616 (Ev.get units_Parse_h) 28 units_Parse_s) 511 [] (units_Parse_k6 rest n t2 t2_2)) = units_Parse_K6 := funext fun rest => funext fun n => funext fun t2 => funext fun t2_2 => units_Parse_g6 rest n t2 t2_2
  rw [units_Parse_c5, e6]
  rfl
theorem units_Parse_g3 (negative : Bool) (rest : List UInt8) (n : Int) (t54 : List UInt8) (t54_2 : List UInt8) (t55 : Int) (t2 : Int) (t2_2 : Int) : jfn Tryd.prog units_Parse_e 6 18446744073709551616 (Ev.get units_Parse_h) 28 units_Parse_s 2042 [] (units_Parse_k3 negative rest n t54 t54_2 t55 t2 t2_2) = units_Parse_K3 negative rest n t54 t54_2 t55 t2 t2_2 := by
  rw [pfn_eq (by decide)]
  rw [pfn_loop (by kernel_rfl)]
  refine loopF_sim (σ := (Bool) × (List UInt8) × (Int) × (List UInt8) × (List UInt8) × (Int) × (Int) × (Int)) (mk := fun s => units_Parse_k3 s.1 s.2.1 s.2.2.1 s.2.2.2.1 s.2.2.2.2.1 s.2.2.2.2.2.1 s.2.2.2.2.2.2.1 s.2.2.2.2.2.2.2) (fun w3 s => ?_) 18446744073709551616 (negative, rest, n, t54, t54_2, t55, t2, t2_2)
  have e4 : (fun negative rest n part t54 t54_2 t55 t59 t60 t2 t2_2 => (jfn Tryd.prog units_Parse_e 6 18446744073709551616 (Ev.get units_Parse_h) 28 units_Parse_s) 522854 [w3] (units_Parse_k4 negative rest n part t54 t54_2 t55 t59 t60 t2 t2_2)) = units_Parse_K4 (fun negative rest n t54 t54_2 t55 t2 t2_2 => w3 (units_Parse_k3 negative rest n t54 t54_2 t55 t2 t2_2)) := funext fun negative => funext fun rest => funext fun n => funext fun part => funext fun t54 => funext fun t54_2 => funext fun t55 => funext fun t59 => funext fun t60 => funext fun t2 => funext fun t2_2 => units_Parse_g4 w3 negative rest n part t54 t54_2 t55 t59 t60 t2 t2_2
  have e5 : (fun negative rest n t2 t2_2 => (jfn Tryd.prog units_Parse_e 6 18446744073709551616 (Ev.get units_Parse_h) 28 units_Parse_s) 255 [] (units_Parse_k5 negative rest n t2 t2_2)) = units_Parse_K5 := funext fun negative => funext fun rest => funext fun n => funext fun t2 => funext fun t2_2 => units_Parse_g5 negative rest n t2 t2_2
  refine (units_Parse_c3 _ w3 s.1 s.2.1 s.2.2.1 s.2.2.2.1 s.2.2.2.2.1 s.2.2.2.2.2.1 s.2.2.2.2.2.2.1 s.2.2.2.2.2.2.2).trans ?_
  rw [e4, e5]
theorem units_Parse_g2 (negative : Bool) (whole : List UInt8) (rest : List UInt8) (t48 : Bool) (t2 : Int) (t2_2 : Int) : jfn Tryd.prog units_Parse_e 6 18446744073709551616 (Ev.get units_Parse_h) 28 units_Parse_s 62 [] (units_Parse_k2 negative whole rest t48 t2 t2_2) = units_Parse_K2 negative whole rest t48 t2 t2_2 := by
  rw [pfn_eq (by decide)]
  have e3 : (fun negative rest n t54 t54_2 t55 t2 t2_2 => (jfn Tryd.prog units_Parse_e 6 18446744073709551616 (Ev.get units_Parse_h) 28 units_Parse_s) 2042 [] (units_Parse_k3 negative rest n t54 t54_2 t55 t2 t2_2)) = units_Parse_K3 := funext fun negative => funext fun rest => funext fun n => funext fun t54 => funext fun t54_2 => funext fun t55 => funext fun t2 => funext fun t2_2 => units_Parse_g3 negative rest n t54 t54_2 t55 t2 t2_2
  rw [units_Parse_c2, e3]
  rfl
theorem units_Parse_g1 (negative : Bool) (whole : List UInt8) (rest : List UInt8) (point : Bool) (t36 : Bool) (t2 : Int) (t2_2 : Int) : jfn Tryd.prog units_Parse_e 6 18446744073709551616 (Ev.get units_Parse_h) 28 units_Parse_s 30 [] (units_Parse_k1 negative whole rest point t36 t2 t2_2) = units_Parse_K1 negative whole rest point t36 t2 t2_2 := by
  rw [pfn_eq (by decide)]
  have e2 : (fun negative whole rest t48 t2 t2_2 => (jfn Tryd.prog units_Parse_e 6 18446744073709551616 (Ev.get units_Parse_h) 28 units_Parse_s) 62 [] (units_Parse_k2 negative whole rest t48 t2 t2_2)) = units_Parse_K2 := funext fun negative => funext fun whole => funext fun rest => funext fun t48 => funext fun t2 => funext fun t2_2 => units_Parse_g2 negative whole rest t48 t2 t2_2
  rw [units_Parse_c1, e2]
  rfl
theorem units_Parse_t (x : As [.str]) : evT Tryd.prog units_Parse_e 6 18446744073709551616 (Ev.get units_Parse_h) 28 units_Parse_s x = units_Parse x := by
  have e1 : (fun negative whole rest point t36 t2 t2_2 => (jfn Tryd.prog units_Parse_e 6 18446744073709551616 (Ev.get units_Parse_h) 28 units_Parse_s) 30 [] (units_Parse_k1 negative whole rest point t36 t2 t2_2)) = units_Parse_K1 := funext fun negative => funext fun whole => funext fun rest => funext fun point => funext fun t36 => funext fun t2 => funext fun t2_2 => units_Parse_g1 negative whole rest point t36 t2 t2_2
  rw [rfn_eq, units_Parse_c0, e1]
  rfl
theorem units_Parse_ok : CtOk Tryd.prog (fun _ => True) 28 ⟨units_Parse_s, units_Parse⟩ := ct_of_ev (env_cons strings_makeASCIISet_ok (env_cons strings_CutPrefix_ok (env_cons units_allDigits_ok (env_cons strings_trimRightByte_ok env_nil)))) units_Parse_t
/-! lex_number -/
@[reducible] def lex_number_s : Sh := ⟨[.pb 0 0], [.box 35 [.d (.int .u8), .d .str, .d (.int .i64), .d (.int .u8), .d (.int .i64)]], [.int .u8, .str, .int .i64, .int .u8, .int .i64], [.d (.int .i64)], [(0, .box 35 [.d (.int .u8), .d .str, .d (.int .i64), .d (.int .u8), .d (.int .i64)])], 0, [.int .i64, .int .u8, .str, .int .i64, .int .u8, .int .i64]⟩
def lex_number_e : Env := (cts [(28, (⟨units_Parse_s, units_Parse⟩ : Ct))])
def lex_number_h : List (Nat × Hint) := []
def lex_number_m0 (t : Int) (t_2 : List UInt8) (v : Int) (d : Int) (ok : Int) : Option (As [.int .i64, .int .u8, .str, .int .i64, .int .u8, .int .i64]) :=
  Option.bind (units_Parse (t_2, ())) fun (y : (Int × Int) × Bool × Unit) => if (!y.snd.fst) = true then some (132, t, t_2, v, d, ok, ()) else some (0, t, t_2, y.fst.fst, y.fst.snd, ok, ())
def lex_number (x : As [.int .u8, .str, .int .i64, .int .u8, .int .i64]) : Option (As [.int .i64, .int .u8, .str, .int .i64, .int .u8, .int .i64]) := lex_number_m0 x.1 x.2.1 x.2.2.1 x.2.2.2.1 x.2.2.2.2.1
theorem lex_number_c0 (J : Orc (As [.int .i64, .int .u8, .str, .int .i64, .int .u8, .int .i64])) (x : As [.int .u8, .str, .int .i64, .int .u8, .int .i64]) : rfn Tryd.prog lex_number_e 6 18446744073709551616 (Ev.get lex_number_h) 104 lex_number_s J x = lex_number_m0 x.1 x.2.1 x.2.2.1 x.2.2.2.1 x.2.2.2.2.1 := by kernel_rfl
theorem lex_number_t (x : As [.int .u8, .str, .int .i64, .int .u8, .int .i64]) : evT Tryd.prog lex_number_e 6 18446744073709551616 (Ev.get lex_number_h) 104 lex_number_s x = lex_number x := by
  rw [rfn_eq, lex_number_c0]
  rfl
theorem lex_number_ok : CtOk Tryd.prog (fun _ => True) 104 ⟨lex_number_s, lex_number⟩ := ct_of_ev (env_cons units_Parse_ok env_nil) lex_number_t
/-! lex_classes_z5 -/
@[reducible] def lex_classes_z5_s : Sh := ⟨[.d (.int .u8)], [], [.int .u8], [.d (.bool)], [], 0, [.bool]⟩
def lex_classes_z5_e : Env := (cts [])
def lex_classes_z5_h : List (Nat × Hint) := []
def lex_classes_z5_m0 (c : Int) : Option (As [.bool]) :=
  some (eqi c 61, ())
def lex_classes_z5 (x : As [.int .u8]) : Option (As [.bool]) := lex_classes_z5_m0 x.1
theorem lex_classes_z5_c0 (J : Orc (As [.bool])) (x : As [.int .u8]) : rfn Tryd.prog lex_classes_z5_e 6 18446744073709551616 (Ev.get lex_classes_z5_h) 105 lex_classes_z5_s J x = lex_classes_z5_m0 x.1 := by kernel_rfl
theorem lex_classes_z5_t (x : As [.int .u8]) : evT Tryd.prog lex_classes_z5_e 6 18446744073709551616 (Ev.get lex_classes_z5_h) 105 lex_classes_z5_s x = lex_classes_z5 x := by
  rw [rfn_eq, lex_classes_z5_c0]
  rfl
theorem lex_classes_z5_ok : CtOk Tryd.prog (fun _ => True) 105 ⟨lex_classes_z5_s, lex_classes_z5⟩ := ct_of_ev env_nil lex_classes_z5_t
/-! lex_classes_z6 -/
@[reducible] def lex_classes_z6_s : Sh := ⟨[.d (.int .u8)], [], [.int .u8], [.d (.bool)], [], 0, [.bool]⟩
def lex_classes_z6_e : Env := (cts [])
def lex_classes_z6_h : List (Nat × Hint) := []
def lex_classes_z6_m0 (c : Int) : Option (As [.bool]) :=
  some (false, ())
def lex_classes_z6 (x : As [.int .u8]) : Option (As [.bool]) := lex_classes_z6_m0 x.1
theorem lex_classes_z6_c0 (J : Orc (As [.bool])) (x : As [.int .u8]) : rfn Tryd.prog lex_classes_z6_e 6 18446744073709551616 (Ev.get lex_classes_z6_h) 106 lex_classes_z6_s J x = lex_classes_z6_m0 x.1 := by kernel_rfl
theorem lex_classes_z6_t (x : As [.int .u8]) : evT Tryd.prog lex_classes_z6_e 6 18446744073709551616 (Ev.get lex_classes_z6_h) 106 lex_classes_z6_s x = lex_classes_z6 x := by
  rw [rfn_eq, lex_classes_z6_c0]
  rfl
theorem lex_classes_z6_ok : CtOk Tryd.prog (fun _ => True) 106 ⟨lex_classes_z6_s, lex_classes_z6⟩ := ct_of_ev env_nil lex_classes_z6_t
/-! lex_classes_z7 -/
@[reducible] def lex_classes_z7_s : Sh := ⟨[.pb 0 0], [.box 35 [.d (.int .u8), .d .str, .d (.int .i64), .d (.int .u8), .d (.int .i64)]], [.int .u8, .str, .int .i64, .int .u8, .int .i64], [.d (.int .i64)], [(0, .box 35 [.d (.int .u8), .d .str, .d (.int .i64), .d (.int .u8), .d (.int .i64)])], 0, [.int .i64, .int .u8, .str, .int .i64, .int .u8, .int .i64]⟩
def lex_classes_z7_e : Env := (cts [])
def lex_classes_z7_h : List (Nat × Hint) := []
def lex_classes_z7_m0 (v : Int) (v_2 : List UInt8) (v_3 : Int) (x : Int) (x_2 : Int) : Option (As [.int .i64, .int .u8, .str, .int .i64, .int .u8, .int .i64]) :=
  some (0, v, v_2, v_3, x, x_2, ())
def lex_classes_z7 (x : As [.int .u8, .str, .int .i64, .int .u8, .int .i64]) : Option (As [.int .i64, .int .u8, .str, .int .i64, .int .u8, .int .i64]) := lex_classes_z7_m0 x.1 x.2.1 x.2.2.1 x.2.2.2.1 x.2.2.2.2.1
theorem lex_classes_z7_c0 (J : Orc (As [.int .i64, .int .u8, .str, .int .i64, .int .u8, .int .i64])) (x : As [.int .u8, .str, .int .i64, .int .u8, .int .i64]) : rfn Tryd.prog lex_classes_z7_e 6 18446744073709551616 (Ev.get lex_classes_z7_h) 107 lex_classes_z7_s J x = lex_classes_z7_m0 x.1 x.2.1 x.2.2.1 x.2.2.2.1 x.2.2.2.2.1 := by kernel_rfl
theorem lex_classes_z7_t (x : As [.int .u8, .str, .int .i64, .int .u8, .int .i64]) : evT Tryd.prog lex_classes_z7_e 6 18446744073709551616 (Ev.get lex_classes_z7_h) 107 lex_classes_z7_s x = lex_classes_z7 x := by
  rw [rfn_eq, lex_classes_z7_c0]
  rfl
theorem lex_classes_z7_ok : CtOk Tryd.prog (fun _ => True) 107 ⟨lex_classes_z7_s, lex_classes_z7⟩ := ct_of_ev env_nil lex_classes_z7_t
/-! lex_line_z1_w -/
@[reducible] def lex_line_z1_w_s : Sh := ⟨[.fn (.func 99) [] [], .pb 0 0], [.box 9 [.d .str]], [.str], [.d .str], [(0, .box 9 [.d .str])], 0, [.str, .str]⟩
def lex_line_z1_w_e : Env := (cts [(99, (⟨lex_classes_z2_s, lex_classes_z2⟩ : Ct)), (103, (⟨lex_classes_z4_s, lex_classes_z4⟩ : Ct)), (106, (⟨lex_classes_z6_s, lex_classes_z6⟩ : Ct))])
def lex_line_z1_w_h : List (Nat × Hint) := [(7, ⟨[], [1, 4]⟩), (28, ⟨[], [0, 1, 4, 11, 12, 13, 14, 15]⟩), (112, ⟨[], [0, 1, 4, 16]⟩)]
def lex_line_z1_w_k1 (n : Int) (t1 : List UInt8) : St := { fr := [(0, .fn (.func 99) [] []), (1, .pb 0 0), (4, .d (.int .i64) n)], nt := 26, up := [], own := [(0, .box 9 [.d .str t1])], nx := 1, log := [], ln := 1 }
def lex_line_z1_w_k2 (n : Int) (t16 : Bool) (t1 : List UInt8) : St := { fr := [(0, .fn (.func 99) [] []), (1, .pb 0 0), (4, .d (.int .i64) n), (16, .d .bool t16)], nt := 26, up := [], own := [(0, .box 9 [.d .str t1])], nx := 1, log := [], ln := 1 }
def lex_line_z1_w_k3 (n : Int) (t1 : List UInt8) : St := { fr := [(1, .pb 0 0), (4, .d (.int .i64) n)], nt := 26, up := [], own := [(0, .box 9 [.d .str t1])], nx := 1, log := [], ln := 1 }
def lex_line_z1_w_m1 (j2 : Int → Bool → List UInt8 → Option (As [.str, .str])) (self1 : Int → List UInt8 → Option (As [.str, .str])) (n : Int) (t1 : List UInt8) : Option (As [.str, .str]) :=
  if lt n (Int.ofNat (List.length t1)) = true then Option.bind (at? t1 n) fun (c : UInt8) => Option.bind (lex_classes_z2 (Int.ofNat (UInt8.toNat c), ())) fun (y : Bool × Unit) => j2 n y.fst t1 else j2 n false t1
def lex_line_z1_w_m2 (j3 : Int → List UInt8 → Option (As [.str, .str])) (self1 : Int → List UInt8 → Option (As [.str, .str])) (n : Int) (t16 : Bool) (t1 : List UInt8) : Option (As [.str, .str]) :=
  if t16 = true then self1 (add .i64 n 1) t1 else j3 n t1
def lex_line_z1_w_m3 (n : Int) (t1 : List UInt8) : Option (As [.str, .str]) :=
  Option.bind (cut t1 0 n) fun (y : List UInt8) => Option.bind (cut t1 n (Int.ofNat (List.length t1))) fun (y_1 : List UInt8) => some (y, y_1, ())
def lex_line_z1_w_m0 (j1 : Int → List UInt8 → Option (As [.str, .str])) (more : List UInt8) : Option (As [.str, .str]) :=
  j1 1 more
def lex_line_z1_w_K3 (n : Int) (t1 : List UInt8) : Option (As [.str, .str]) := lex_line_z1_w_m3 n t1
def lex_line_z1_w_K2 (u1 : Int → List UInt8 → Option (As [.str, .str])) (n : Int) (t16 : Bool) (t1 : List UInt8) : Option (As [.str, .str]) := lex_line_z1_w_m2 (lex_line_z1_w_K3) u1 n t16 t1
def lex_line_z1_w_K1 (n : Int) (t1 : List UInt8) : Option (As [.str, .str]) :=
  loopF (fun (self : (Int) × (List UInt8) → Option (As [.str, .str])) (s : (Int) × (List UInt8)) => lex_line_z1_w_m1 (lex_line_z1_w_K2 (fun n t1 => self (n, t1))) (fun n t1 => self (n, t1)) s.1 s.2) 18446744073709551616 (n, t1)
def lex_line_z1_w (x : As [.str]) : Option (As [.str, .str]) := lex_line_z1_w_m0 lex_line_z1_w_K1 x.1
theorem lex_line_z1_w_c3 (J : Orc (As [.str, .str])) (n : Int) (t1 : List UInt8) : pfn Tryd.prog lex_line_z1_w_e 6 18446744073709551616 (Ev.get lex_line_z1_w_h) 108 lex_line_z1_w_s J 7 [] (lex_line_z1_w_k3 n t1) = lex_line_z1_w_m3 n t1 := by kernel_rfl
theorem lex_line_z1_w_c2 (J : Orc (As [.str, .str])) (w1 : St → Option (As [.str, .str])) (n : Int) (t16 : Bool) (t1 : List UInt8) : pfn Tryd.prog lex_line_z1_w_e 6 18446744073709551616 (Ev.get lex_line_z1_w_h) 108 lex_line_z1_w_s J 112 [w1] (lex_line_z1_w_k2 n t16 t1) = lex_line_z1_w_m2 (fun n t1 => J 7 [] (lex_line_z1_w_k3 n t1)) (fun n t1 => w1 (lex_line_z1_w_k1 n t1)) n t16 t1 := by kernel_rfl
theorem lex_line_z1_w_c1 (J : Orc (As [.str, .str])) (w1 : St → Option (As [.str, .str])) (n : Int) (t1 : List UInt8) : pfn Tryd.prog lex_line_z1_w_e 6 18446744073709551616 (Ev.get lex_line_z1_w_h) 108 lex_line_z1_w_s J 28 [w1] (lex_line_z1_w_k1 n t1) = lex_line_z1_w_m1 (fun n t16 t1 => J 112 [w1] (lex_line_z1_w_k2 n t16 t1)) (fun n t1 => w1 (lex_line_z1_w_k1 n t1)) n t1 := by kernel_rfl
theorem lex_line_z1_w_c0 (J : Orc (As [.str, .str])) (x : As [.str]) : rfn Tryd.prog lex_line_z1_w_e 6 18446744073709551616 (Ev.get lex_line_z1_w_h) 108 lex_line_z1_w_s J x = lex_line_z1_w_m0 (fun n t1 => J 28 [] (lex_line_z1_w_k1 n t1)) x.1 := by kernel_rfl
theorem lex_line_z1_w_g3 (n : Int) (t1 : List UInt8) : jfn Tryd.prog lex_line_z1_w_e 6 18446744073709551616 (Ev.get lex_line_z1_w_h) 108 lex_line_z1_w_s 7 [] (lex_line_z1_w_k3 n t1) = lex_line_z1_w_K3 n t1 := by
  rw [pfn_eq (by decide)]
  rw [lex_line_z1_w_c3]
  rfl
theorem lex_line_z1_w_g2 (w1 : St → Option (As [.str, .str])) (n : Int) (t16 : Bool) (t1 : List UInt8) : jfn Tryd.prog lex_line_z1_w_e 6 18446744073709551616 (Ev.get lex_line_z1_w_h) 108 lex_line_z1_w_s 112 [w1] (lex_line_z1_w_k2 n t16 t1) = lex_line_z1_w_K2 (fun n t1 => w1 (lex_line_z1_w_k1 n t1)) n t16 t1 := by
  rw [pfn_eq (by decide)]
  have e3 : (fun n t1 => (jfn Tryd.prog lex_line_z1_w_e 6 18446744073709551616 (Ev.get lex_line_z1_w_h) 108 lex_line_z1_w_s) 7 [] (lex_line_z1_w_k3 n t1)) = lex_line_z1_w_K3 := funext fun n => funext fun t1 => lex_line_z1_w_g3 n t1
  rw [lex_line_z1_w_c2, e3]
  rfl
theorem lex_line_z1_w_g1 (n : Int) (t1 : List UInt8) : jfn Tryd.prog lex_line_z1_w_e 6 18446744073709551616 (Ev.get lex_line_z1_w_h) 108 lex_line_z1_w_s 28 [] (lex_line_z1_w_k1 n t1) = lex_line_z1_w_K1 n t1 := by
  rw [pfn_eq (by decide)]
  rw [pfn_loop (by kernel_rfl)]
  refine loopF_sim (σ := (Int) × (List UInt8)) (mk := fun s => lex_line_z1_w_k1 s.1 s.2) (fun w1 s => ?_) 18446744073709551616 (n, t1)
  have e2 : (fun n t16 t1 => (jfn Tryd.prog lex_line_z1_w_e 6 18446744073709551616 (Ev.get lex_line_z1_w_h) 108 lex_line_z1_w_s) 112 [w1] (lex_line_z1_w_k2 n t16 t1)) = lex_line_z1_w_K2 (fun n t1 => w1 (lex_line_z1_w_k1 n t1)) := funext fun n => funext fun t16 => funext fun t1 => lex_line_z1_w_g2 w1 n t16 t1
  refine (lex_line_z1_w_c1 _ w1 s.1 s.2).trans ?_
  rw [e2]
theorem lex_line_z1_w_t (x : As [.str]) : evT Tryd.prog lex_line_z1_w_e 6 18446744073709551616 (Ev.get lex_line_z1_w_h) 108 lex_line_z1_w_s x = lex_line_z1_w x := by
  have e1 : (fun n t1 => (jfn Tryd.prog lex_line_z1_w_e 6 18446744073709551616 (Ev.get lex_line_z1_w_h) 108 lex_line_z1_w_s) 28 [] (lex_line_z1_w_k1 n t1)) = lex_line_z1_w_K1 := funext fun n => funext fun t1 => lex_line_z1_w_g1 n t1
  rw [rfn_eq, lex_line_z1_w_c0, e1]
  rfl
theorem lex_line_z1_w_ok : CtOk Tryd.prog (fun _ => True) 108 ⟨lex_line_z1_w_s, lex_line_z1_w⟩ := ct_of_ev (env_cons lex_classes_z2_ok (env_cons lex_classes_z4_ok (env_cons lex_classes_z6_ok env_nil))) lex_line_z1_w_t
/-! lex_line_z1_n -/
@[reducible] def lex_line_z1_n_s : Sh := ⟨[.fn (.func 103) [] [], .pb 0 0], [.box 9 [.d .str]], [.str], [.d .str], [(0, .box 9 [.d .str])], 0, [.str, .str]⟩
def lex_line_z1_n_e : Env := (cts [(99, (⟨lex_classes_z2_s, lex_classes_z2⟩ : Ct)), (103, (⟨lex_classes_z4_s, lex_classes_z4⟩ : Ct)), (106, (⟨lex_classes_z6_s, lex_classes_z6⟩ : Ct))])
def lex_line_z1_n_h : List (Nat × Hint) := [(7, ⟨[], [1, 4]⟩), (28, ⟨[], [0, 1, 4, 11, 12, 13, 14, 15]⟩), (112, ⟨[], [0, 1, 4, 16]⟩)]
def lex_line_z1_n_k1 (n : Int) (t1 : List UInt8) : St := { fr := [(0, .fn (.func 103) [] []), (1, .pb 0 0), (4, .d (.int .i64) n)], nt := 26, up := [], own := [(0, .box 9 [.d .str t1])], nx := 1, log := [], ln := 1 }
def lex_line_z1_n_k2 (n : Int) (t16 : Bool) (t1 : List UInt8) : St := { fr := [(0, .fn (.func 103) [] []), (1, .pb 0 0), (4, .d (.int .i64) n), (16, .d .bool t16)], nt := 26, up := [], own := [(0, .box 9 [.d .str t1])], nx := 1, log := [], ln := 1 }
def lex_line_z1_n_k3 (n : Int) (t1 : List UInt8) : St := { fr := [(1, .pb 0 0), (4, .d (.int .i64) n)], nt := 26, up := [], own := [(0, .box 9 [.d .str t1])], nx := 1, log := [], ln := 1 }
def lex_line_z1_n_m1 (j2 : Int → Bool → List UInt8 → Option (As [.str, .str])) (self1 : Int → List UInt8 → Option (As [.str, .str])) (n : Int) (t1 : List UInt8) : Option (As [.str, .str]) :=
  if lt n (Int.ofNat (List.length t1)) = true then Option.bind (at? t1 n) fun (c : UInt8) => Option.bind (lex_classes_z4 (Int.ofNat (UInt8.toNat c), ())) fun (y : Bool × Unit) => j2 n y.fst t1 else j2 n false t1
def lex_line_z1_n_m2 (j3 : Int → List UInt8 → Option (As [.str, .str])) (self1 : Int → List UInt8 → Option (As [.str, .str])) (n : Int) (t16 : Bool) (t1 : List UInt8) : Option (As [.str, .str]) :=
  if t16 = true then self1 (add .i64 n 1) t1 else j3 n t1
def lex_line_z1_n_m3 (n : Int) (t1 : List UInt8) : Option (As [.str, .str]) :=
  Option.bind (cut t1 0 n) fun (y : List UInt8) => Option.bind (cut t1 n (Int.ofNat (List.length t1))) fun (y_1 : List UInt8) => some (y, y_1, ())
def lex_line_z1_n_m0 (j1 : Int → List UInt8 → Option (As [.str, .str])) (more : List UInt8) : Option (As [.str, .str]) :=
  j1 1 more
def lex_line_z1_n_K3 (n : Int) (t1 : List UInt8) : Option (As [.str, .str]) := lex_line_z1_n_m3 n t1
def lex_line_z1_n_K2 (u1 : Int → List UInt8 → Option (As [.str, .str])) (n : Int) (t16 : Bool) (t1 : List UInt8) : Option (As [.str, .str]) := lex_line_z1_n_m2 (lex_line_z1_n_K3) u1 n t16 t1
def lex_line_z1_n_K1 (n : Int) (t1 : List UInt8) : Option (As [.str, .str]) :=
  loopF (fun (self : (Int) × (List UInt8) → Option (As [.str, .str])) (s : (Int) × (List UInt8)) => lex_line_z1_n_m1 (lex_line_z1_n_K2 (fun n t1 => self (n, t1))) (fun n t1 => self (n, t1)) s.1 s.2) 18446744073709551616 (n, t1)
def lex_line_z1_n (x : As [.str]) : Option (As [.str, .str]) := lex_line_z1_n_m0 lex_line_z1_n_K1 x.1
theorem lex_line_z1_n_c3 (J : Orc (As [.str, .str])) (n : Int) (t1 : List UInt8) : pfn Tryd.prog lex_line_z1_n_e 6 18446744073709551616 (Ev.get lex_line_z1_n_h) 108 lex_line_z1_n_s J 7 [] (lex_line_z1_n_k3 n t1) = lex_line_z1_n_m3 n t1 := by kernel_rfl
theorem lex_line_z1_n_c2 (J : Orc (As [.str, .str])) (w1 : St → Option (As [.str, .str])) (n : Int) (t16 : Bool) (t1 : List UInt8) : pfn Tryd.prog lex_line_z1_n_e 6 18446744073709551616 (Ev.get lex_line_z1_n_h) 108 lex_line_z1_n_s J 112 [w1] (lex_line_z1_n_k2 n t16 t1) = lex_line_z1_n_m2 (fun n t1 => J 7 [] (lex_line_z1_n_k3 n t1)) (fun n t1 => w1 (lex_line_z1_n_k1 n t1)) n t16 t1 := by kernel_rfl
theorem lex_line_z1_n_c1 (J : Orc (As [.str, .str])) (w1 : St → Option (As [.str, .str])) (n : Int) (t1 : List UInt8) : pfn Tryd.prog lex_line_z1_n_e 6 18446744073709551616 (Ev.get lex_line_z1_n_h) 108 lex_line_z1_n_s J 28 [w1] (lex_line_z1_n_k1 n t1) = lex_line_z1_n_m1 (fun n t16 t1 => J 112 [w1] (lex_line_z1_n_k2 n t16 t1)) (fun n t1 => w1 (lex_line_z1_n_k1 n t1)) n t1 := by kernel_rfl
theorem lex_line_z1_n_c0 (J : Orc (As [.str, .str])) (x : As [.str]) : rfn Tryd.prog lex_line_z1_n_e 6 18446744073709551616 (Ev.get lex_line_z1_n_h) 108 lex_line_z1_n_s J x = lex_line_z1_n_m0 (fun n t1 => J 28 [] (lex_line_z1_n_k1 n t1)) x.1 := by kernel_rfl
theorem lex_line_z1_n_g3 (n : Int) (t1 : List UInt8) : jfn Tryd.prog lex_line_z1_n_e 6 18446744073709551616 (Ev.get lex_line_z1_n_h) 108 lex_line_z1_n_s 7 [] (lex_line_z1_n_k3 n t1) = lex_line_z1_n_K3 n t1 := by
  rw [pfn_eq (by decide)]
  rw [lex_line_z1_n_c3]
  rfl
theorem lex_line_z1_n_g2 (w1 : St → Option (As [.str, .str])) (n : Int) (t16 : Bool) (t1 : List UInt8) : jfn Tryd.prog lex_line_z1_n_e 6 18446744073709551616 (Ev.get lex_line_z1_n_h) 108 lex_line_z1_n_s 112 [w1] (lex_line_z1_n_k2 n t16 t1) = lex_line_z1_n_K2 (fun n t1 => w1 (lex_line_z1_n_k1 n t1)) n t16 t1 := by
  rw [pfn_eq (by decide)]
  have e3 : (fun n t1 => (jfn Tryd.prog lex_line_z1_n_e 6 18446744073709551616 (Ev.get lex_line_z1_n_h) 108 lex_line_z1_n_s) 7 [] (lex_line_z1_n_k3 n t1)) = lex_line_z1_n_K3 := funext fun n => funext fun t1 => lex_line_z1_n_g3 n t1
  rw [lex_line_z1_n_c2, e3]
  rfl
theorem lex_line_z1_n_g1 (n : Int) (t1 : List UInt8) : jfn Tryd.prog lex_line_z1_n_e 6 18446744073709551616 (Ev.get lex_line_z1_n_h) 108 lex_line_z1_n_s 28 [] (lex_line_z1_n_k1 n t1) = lex_line_z1_n_K1 n t1 := by
  rw [pfn_eq (by decide)]
  rw [pfn_loop (by kernel_rfl)]
  refine loopF_sim (σ := (Int) × (List UInt8)) (mk := fun s => lex_line_z1_n_k1 s.1 s.2) (fun w1 s => ?_) 18446744073709551616 (n, t1)
  have e2 : (fun n t16 t1 => (jfn Tryd.prog lex_line_z1_n_e 6 18446744073709551616 (Ev.get lex_line_z1_n_h) 108 lex_line_z1_n_s) 112 [w1] (lex_line_z1_n_k2 n t16 t1)) = lex_line_z1_n_K2 (fun n t1 => w1 (lex_line_z1_n_k1 n t1)) := funext fun n => funext fun t16 => funext fun t1 => lex_line_z1_n_g2 w1 n t16 t1
  refine (lex_line_z1_n_c1 _ w1 s.1 s.2).trans ?_
  rw [e2]
theorem lex_line_z1_n_t (x : As [.str]) : evT Tryd.prog lex_line_z1_n_e 6 18446744073709551616 (Ev.get lex_line_z1_n_h) 108 lex_line_z1_n_s x = lex_line_z1_n x := by
  have e1 : (fun n t1 => (jfn Tryd.prog lex_line_z1_n_e 6 18446744073709551616 (Ev.get lex_line_z1_n_h) 108 lex_line_z1_n_s) 28 [] (lex_line_z1_n_k1 n t1)) = lex_line_z1_n_K1 := funext fun n => funext fun t1 => lex_line_z1_n_g1 n t1
  rw [rfn_eq, lex_line_z1_n_c0, e1]
  rfl
theorem lex_line_z1_n_ok : CtOk Tryd.prog (fun _ => True) 108 ⟨lex_line_z1_n_s, lex_line_z1_n⟩ := ct_of_ev (env_cons lex_classes_z2_ok (env_cons lex_classes_z4_ok (env_cons lex_classes_z6_ok env_nil))) lex_line_z1_n_t
/-! lex_line_z1_e -/
@[reducible] def lex_line_z1_e_s : Sh := ⟨[.fn (.func 106) [] [], .pb 0 0], [.box 9 [.d .str]], [.str], [.d .str], [(0, .box 9 [.d .str])], 0, [.str, .str]⟩
def lex_line_z1_e_e : Env := (cts [(99, (⟨lex_classes_z2_s, lex_classes_z2⟩ : Ct)), (103, (⟨lex_classes_z4_s, lex_classes_z4⟩ : Ct)), (106, (⟨lex_classes_z6_s, lex_classes_z6⟩ : Ct))])
def lex_line_z1_e_h : List (Nat × Hint) := [(7, ⟨[], [1, 4]⟩), (28, ⟨[], [0, 1, 4, 11, 12, 13, 14, 15]⟩), (112, ⟨[], [0, 1, 4, 16]⟩)]
def lex_line_z1_e_k1 (n : Int) (t1 : List UInt8) : St := { fr := [(0, .fn (.func 106) [] []), (1, .pb 0 0), (4, .d (.int .i64) n)], nt := 26, up := [], own := [(0, .box 9 [.d .str t1])], nx := 1, log := [], ln := 1 }
def lex_line_z1_e_k2 (n : Int) (t16 : Bool) (t1 : List UInt8) : St := { fr := [(0, .fn (.func 106) [] []), (1, .pb 0 0), (4, .d (.int .i64) n), (16, .d .bool t16)], nt := 26, up := [], own := [(0, .box 9 [.d .str t1])], nx := 1, log := [], ln := 1 }
def lex_line_z1_e_k3 (n : Int) (t1 : List UInt8) : St := { fr := [(1, .pb 0 0), (4, .d (.int .i64) n)], nt := 26, up := [], own := [(0, .box 9 [.d .str t1])], nx := 1, log := [], ln := 1 }
def lex_line_z1_e_m1 (j2 : Int → Bool → List UInt8 → Option (As [.str, .str])) (self1 : Int → List UInt8 → Option (As [.str, .str])) (n : Int) (t1 : List UInt8) : Option (As [.str, .str]) :=
  if lt n (Int.ofNat (List.length t1)) = true then Option.bind (at? t1 n) fun (c : UInt8) => Option.bind (lex_classes_z6 (Int.ofNat (UInt8.toNat c), ())) fun (y : Bool × Unit) => j2 n y.fst t1 else j2 n false t1
def lex_line_z1_e_m2 (j3 : Int → List UInt8 → Option (As [.str, .str])) (self1 : Int → List UInt8 → Option (As [.str, .str])) (n : Int) (t16 : Bool) (t1 : List UInt8) : Option (As [.str, .str]) :=
  if t16 = true then self1 (add .i64 n 1) t1 else j3 n t1
def lex_line_z1_e_m3 (n : Int) (t1 : List UInt8) : Option (As [.str, .str]) :=
  Option.bind (cut t1 0 n) fun (y : List UInt8) => Option.bind (cut t1 n (Int.ofNat (List.length t1))) fun (y_1 : List UInt8) => some (y, y_1, ())
def lex_line_z1_e_m0 (j1 : Int → List UInt8 → Option (As [.str, .str])) (more : List UInt8) : Option (As [.str, .str]) :=
  j1 1 more
def lex_line_z1_e_K3 (n : Int) (t1 : List UInt8) : Option (As [.str, .str]) := lex_line_z1_e_m3 n t1
def lex_line_z1_e_K2 (u1 : Int → List UInt8 → Option (As [.str, .str])) (n : Int) (t16 : Bool) (t1 : List UInt8) : Option (As [.str, .str]) := lex_line_z1_e_m2 (lex_line_z1_e_K3) u1 n t16 t1
def lex_line_z1_e_K1 (n : Int) (t1 : List UInt8) : Option (As [.str, .str]) :=
  loopF (fun (self : (Int) × (List UInt8) → Option (As [.str, .str])) (s : (Int) × (List UInt8)) => lex_line_z1_e_m1 (lex_line_z1_e_K2 (fun n t1 => self (n, t1))) (fun n t1 => self (n, t1)) s.1 s.2) 18446744073709551616 (n, t1)
def lex_line_z1_e (x : As [.str]) : Option (As [.str, .str]) := lex_line_z1_e_m0 lex_line_z1_e_K1 x.1
theorem lex_line_z1_e_c3 (J : Orc (As [.str, .str])) (n : Int) (t1 : List UInt8) : pfn Tryd.prog lex_line_z1_e_e 6 18446744073709551616 (Ev.get lex_line_z1_e_h) 108 lex_line_z1_e_s J 7 [] (lex_line_z1_e_k3 n t1) = lex_line_z1_e_m3 n t1 := by kernel_rfl
theorem lex_line_z1_e_c2 (J : Orc (As [.str, .str])) (w1 : St → Option (As [.str, .str])) (n : Int) (t16 : Bool) (t1 : List UInt8) : pfn Tryd.prog lex_line_z1_e_e 6 18446744073709551616 (Ev.get lex_line_z1_e_h) 108 lex_line_z1_e_s J 112 [w1] (lex_line_z1_e_k2 n t16 t1) = lex_line_z1_e_m2 (fun n t1 => J 7 [] (lex_line_z1_e_k3 n t1)) (fun n t1 => w1 (lex_line_z1_e_k1 n t1)) n t16 t1 := by kernel_rfl
theorem lex_line_z1_e_c1 (J : Orc (As [.str, .str])) (w1 : St → Option (As [.str, .str])) (n : Int) (t1 : List UInt8) : pfn Tryd.prog lex_line_z1_e_e 6 18446744073709551616 (Ev.get lex_line_z1_e_h) 108 lex_line_z1_e_s J 28 [w1] (lex_line_z1_e_k1 n t1) = lex_line_z1_e_m1 (fun n t16 t1 => J 112 [w1] (lex_line_z1_e_k2 n t16 t1)) (fun n t1 => w1 (lex_line_z1_e_k1 n t1)) n t1 := by kernel_rfl
theorem lex_line_z1_e_c0 (J : Orc (As [.str, .str])) (x : As [.str]) : rfn Tryd.prog lex_line_z1_e_e 6 18446744073709551616 (Ev.get lex_line_z1_e_h) 108 lex_line_z1_e_s J x = lex_line_z1_e_m0 (fun n t1 => J 28 [] (lex_line_z1_e_k1 n t1)) x.1 := by kernel_rfl
theorem lex_line_z1_e_g3 (n : Int) (t1 : List UInt8) : jfn Tryd.prog lex_line_z1_e_e 6 18446744073709551616 (Ev.get lex_line_z1_e_h) 108 lex_line_z1_e_s 7 [] (lex_line_z1_e_k3 n t1) = lex_line_z1_e_K3 n t1 := by
  rw [pfn_eq (by decide)]
  rw [lex_line_z1_e_c3]
  rfl
theorem lex_line_z1_e_g2 (w1 : St → Option (As [.str, .str])) (n : Int) (t16 : Bool) (t1 : List UInt8) : jfn Tryd.prog lex_line_z1_e_e 6 18446744073709551616 (Ev.get lex_line_z1_e_h) 108 lex_line_z1_e_s 112 [w1] (lex_line_z1_e_k2 n t16 t1) = lex_line_z1_e_K2 (fun n t1 => w1 (lex_line_z1_e_k1 n t1)) n t16 t1 := by
  rw [pfn_eq (by decide)]
  have e3 : (fun n t1 => (jfn Tryd.prog lex_line_z1_e_e 6 18446744073709551616 (Ev.get lex_line_z1_e_h) 108 lex_line_z1_e_s) 7 [] (lex_line_z1_e_k3 n t1)) = lex_line_z1_e_K3 := funext fun n => funext fun t1 => lex_line_z1_e_g3 n t1
  rw [lex_line_z1_e_c2, e3]
  rfl
theorem lex_line_z1_e_g1 (n : Int) (t1 : List UInt8) : jfn Tryd.prog lex_line_z1_e_e 6 18446744073709551616 (Ev.get lex_line_z1_e_h) 108 lex_line_z1_e_s 28 [] (lex_line_z1_e_k1 n t1) = lex_line_z1_e_K1 n t1 := by
  rw [pfn_eq (by decide)]
  rw [pfn_loop (by kernel_rfl)]
  refine loopF_sim (σ := (Int) × (List UInt8)) (mk := fun s => lex_line_z1_e_k1 s.1 s.2) (fun w1 s => ?_) 18446744073709551616 (n, t1)
  have e2 : (fun n t16 t1 => (jfn Tryd.prog lex_line_z1_e_e 6 18446744073709551616 (Ev.get lex_line_z1_e_h) 108 lex_line_z1_e_s) 112 [w1] (lex_line_z1_e_k2 n t16 t1)) = lex_line_z1_e_K2 (fun n t1 => w1 (lex_line_z1_e_k1 n t1)) := funext fun n => funext fun t16 => funext fun t1 => lex_line_z1_e_g2 w1 n t16 t1
  refine (lex_line_z1_e_c1 _ w1 s.1 s.2).trans ?_
  rw [e2]
theorem lex_line_z1_e_t (x : As [.str]) : evT Tryd.prog lex_line_z1_e_e 6 18446744073709551616 (Ev.get lex_line_z1_e_h) 108 lex_line_z1_e_s x = lex_line_z1_e x := by
  have e1 : (fun n t1 => (jfn Tryd.prog lex_line_z1_e_e 6 18446744073709551616 (Ev.get lex_line_z1_e_h) 108 lex_line_z1_e_s) 28 [] (lex_line_z1_e_k1 n t1)) = lex_line_z1_e_K1 := funext fun n => funext fun t1 => lex_line_z1_e_g1 n t1
  rw [rfn_eq, lex_line_z1_e_c0, e1]
  rfl
theorem lex_line_z1_e_ok : CtOk Tryd.prog (fun _ => True) 108 ⟨lex_line_z1_e_s, lex_line_z1_e⟩ := ct_of_ev (env_cons lex_classes_z2_ok (env_cons lex_classes_z4_ok (env_cons lex_classes_z6_ok env_nil))) lex_line_z1_e_t
/-! lex_line -/
@[reducible] def lex_line_s : Sh := ⟨[.d .str, .d (.int .i64), .mp 0], [.sm (.int .u8) 3 [(0, (1 : Int), .agg [.fn (.func 97) [] [], .fn (.func 99) [] [], .fn (.func 101) [] []]), (1, (2 : Int), .agg [.fn (.func 102) [] [], .fn (.func 103) [] [], .fn (.func 104) [] []]), (2, (3 : Int), .agg [.fn (.func 105) [] [], .fn (.func 106) [] [], .fn (.func 107) [] []])]], [.str, .int .i64], [.d (.sl LAT0), .d (.int .i64)], [(0, .sm (.int .u8) 3 [(0, (1 : Int), .agg [.fn (.func 97) [] [], .fn (.func 99) [] [], .fn (.func 101) [] []]), (1, (2 : Int), .agg [.fn (.func 102) [] [], .fn (.func 103) [] [], .fn (.func 104) [] []]), (2, (3 : Int), .agg [.fn (.func 105) [] [], .fn (.func 106) [] [], .fn (.func 107) [] []])])], 0, [.sl LAT0, .int .i64]⟩
def lex_line_e : Env := (cts [(19, (⟨strings_TrimLeft_s, strings_TrimLeft⟩ : Ct)), (97, (⟨lex_classes_z1_s, lex_classes_z1⟩ : Ct)), (99, (⟨lex_classes_z2_s, lex_classes_z2⟩ : Ct)), (101, (⟨lex_word_s, lex_word⟩ : Ct)), (102, (⟨lex_classes_z3_s, lex_classes_z3⟩ : Ct)), (103, (⟨lex_classes_z4_s, lex_classes_z4⟩ : Ct)), (104, (⟨lex_number_s, lex_number⟩ : Ct)), (105, (⟨lex_classes_z5_s, lex_classes_z5⟩ : Ct)), (106, (⟨lex_classes_z6_s, lex_classes_z6⟩ : Ct)), (107, (⟨lex_classes_z7_s, lex_classes_z7⟩ : Ct)), (108, (⟨lex_line_z1_w_s, lex_line_z1_w⟩ : Ct)), (108, (⟨lex_line_z1_n_s, lex_line_z1_n⟩ : Ct)), (108, (⟨lex_line_z1_e_s, lex_line_z1_e⟩ : Ct))])
def lex_line_h : List (Nat × Hint) := [(31, ⟨[], [1, 9]⟩), (63, ⟨[], [9]⟩), (124, ⟨[.row 9 35], [1, 2, 3, 8, 9]⟩), (3975, ⟨[], [1, 2, 3, 8, 9, 10]⟩)]
def lex_line_k1 (at' : Int) (text : List UInt8) (l : List LAT1) : St := { fr := [(1, .d (.int .i64) at'), (2, .mp 0), (3, .pb 1 0), (8, .fn (.func 108) [] [.pb 1 0]), (9, .row 2)], nt := 76, up := [], own := [(0, .sm (.int .u8) 3 [(0, 1, .agg [.fn (.func 97) [] [], .fn (.func 99) [] [], .fn (.func 101) [] []]), (1, 2, .agg [.fn (.func 102) [] [], .fn (.func 103) [] [], .fn (.func 104) [] []]), (2, 3, .agg [.fn (.func 105) [] [], .fn (.func 106) [] [], .fn (.func 107) [] []])]), (1, .box 9 [.d .str text]), (2, .row LAT0 35 l)], nx := 3, log := [], ln := 1 }
def lex_line_k2 (at' : Int) (l : List LAT1) : St := { fr := [(1, .d (.int .i64) at'), (9, .row 1)], nt := 76, up := [], own := [(0, .sm (.int .u8) 3 [(0, 1, .agg [.fn (.func 97) [] [], .fn (.func 99) [] [], .fn (.func 101) [] []]), (1, 2, .agg [.fn (.func 102) [] [], .fn (.func 103) [] [], .fn (.func 104) [] []]), (2, 3, .agg [.fn (.func 105) [] [], .fn (.func 106) [] [], .fn (.func 107) [] []])]), (1, .row LAT0 35 l)], nx := 2, log := [], ln := 1 }
def lex_line_k3 (at' : Int) (text : List UInt8) (l : List LAT1) (t : Int) (t_2 : List UInt8) (t_3 : Int) (t_4 : Int) (t_5 : Int) : St := { fr := [(1, .d (.int .i64) at'), (2, .mp 0), (3, .pb 1 0), (8, .fn (.func 108) [] [.pb 1 0]), (9, .row 2), (10, .pb 3 0)], nt := 76, up := [], own := [(0, .sm (.int .u8) 3 [(0, 1, .agg [.fn (.func 97) [] [], .fn (.func 99) [] [], .fn (.func 101) [] []]), (1, 2, .agg [.fn (.func 102) [] [], .fn (.func 103) [] [], .fn (.func 104) [] []]), (2, 3, .agg [.fn (.func 105) [] [], .fn (.func 106) [] [], .fn (.func 107) [] []])]), (1, .box 9 [.d .str text]), (2, .row LAT0 35 l), (3, .box 35 [.d (.int .u8) t, .d .str t_2, .d (.int .i64) t_3, .d (.int .u8) t_4, .d (.int .i64) t_5])], nx := 4, log := [], ln := 1 }
def lex_line_k4 (l : List LAT1) : St := { fr := [(9, .row 1)], nt := 76, up := [], own := [(0, .sm (.int .u8) 3 [(0, 1, .agg [.fn (.func 97) [] [], .fn (.func 99) [] [], .fn (.func 101) [] []]), (1, 2, .agg [.fn (.func 102) [] [], .fn (.func 103) [] [], .fn (.func 104) [] []]), (2, 3, .agg [.fn (.func 105) [] [], .fn (.func 106) [] [], .fn (.func 107) [] []])]), (1, .row LAT0 35 l)], nx := 2, log := [], ln := 1 }
def lex_line_m1 (j2 : Int → List LAT1 → Option (As [.sl LAT0, .int .i64])) (j3 : Int → List UInt8 → List LAT1 → Int → List UInt8 → Int → Int → Int → Option (As [.sl LAT0, .int .i64])) (self1 : Int → List UInt8 → List LAT1 → Option (As [.sl LAT0, .int .i64])) (at' : Int) (text : List UInt8) (l : List LAT1) : Option (As [.sl LAT0, .int .i64]) :=
  Option.bind (strings_TrimLeft (text, [9, 13, 32], ())) fun (y : List UInt8 × Unit) => if eqs y.fst [] = true then j2 at' l else amb (eqAs lex_line_s.rs) [Option.bind (at? y.fst 0) fun (c : UInt8) => Option.bind (lex_classes_z1 (Int.ofNat (UInt8.toNat c), ())) fun (y_1 : Bool × Unit) => if y_1.fst = true then amb (eqAs lex_line_s.rs) [Option.bind (at? y.fst 0) fun (c : UInt8) => Option.bind (lex_classes_z3 (Int.ofNat (UInt8.toNat c), ())) fun (y_2 : Bool × Unit) => if y_2.fst = true then Option.bind (at? y.fst 0) fun (c : UInt8) => Option.bind (lex_classes_z5 (Int.ofNat (UInt8.toNat c), ())) fun (y_3 : Bool × Unit) => if y_3.fst = true then j3 at' y.fst l 3 [] 0 0 at' else j3 at' y.fst l 2 [] 0 0 at' else Option.bind (at? y.fst 0) fun (c : UInt8) => Option.bind (lex_classes_z5 (Int.ofNat (UInt8.toNat c), ())) fun (y_3 : Bool × Unit) => if y_3.fst = true then j3 at' y.fst l 3 [] 0 0 at' else j3 at' y.fst l 1 [] 0 0 at', Option.bind (at? y.fst 0) fun (c : UInt8) => Option.bind (lex_classes_z5 (Int.ofNat (UInt8.toNat c), ())) fun (y_2 : Bool × Unit) => if y_2.fst = true then Option.bind (at? y.fst 0) fun (c : UInt8) => Option.bind (lex_classes_z3 (Int.ofNat (UInt8.toNat c), ())) fun (y_3 : Bool × Unit) => if y_3.fst = true then j3 at' y.fst l 2 [] 0 0 at' else j3 at' y.fst l 3 [] 0 0 at' else Option.bind (at? y.fst 0) fun (c : UInt8) => Option.bind (lex_classes_z3 (Int.ofNat (UInt8.toNat c), ())) fun (y_3 : Bool × Unit) => if y_3.fst = true then j3 at' y.fst l 2 [] 0 0 at' else j3 at' y.fst l 1 [] 0 0 at'] else amb (eqAs lex_line_s.rs) [Option.bind (at? y.fst 0) fun (c : UInt8) => Option.bind (lex_classes_z3 (Int.ofNat (UInt8.toNat c), ())) fun (y_2 : Bool × Unit) => if y_2.fst = true then Option.bind (at? y.fst 0) fun (c : UInt8) => Option.bind (lex_classes_z5 (Int.ofNat (UInt8.toNat c), ())) fun (y_3 : Bool × Unit) => if y_3.fst = true then j3 at' y.fst l 3 [] 0 0 at' else j3 at' y.fst l 2 [] 0 0 at' else Option.bind (at? y.fst 0) fun (c : UInt8) => Option.bind (lex_classes_z5 (Int.ofNat (UInt8.toNat c), ())) fun (y_3 : Bool × Unit) => if y_3.fst = true then j3 at' y.fst l 3 [] 0 0 at' else j3 at' y.fst l 0 [] 0 0 at', Option.bind (at? y.fst 0) fun (c : UInt8) => Option.bind (lex_classes_z5 (Int.ofNat (UInt8.toNat c), ())) fun (y_2 : Bool × Unit) => if y_2.fst = true then Option.bind (at? y.fst 0) fun (c : UInt8) => Option.bind (lex_classes_z3 (Int.ofNat (UInt8.toNat c), ())) fun (y_3 : Bool × Unit) => if y_3.fst = true then j3 at' y.fst l 2 [] 0 0 at' else j3 at' y.fst l 3 [] 0 0 at' else Option.bind (at? y.fst 0) fun (c : UInt8) => Option.bind (lex_classes_z3 (Int.ofNat (UInt8.toNat c), ())) fun (y_3 : Bool × Unit) => if y_3.fst = true then j3 at' y.fst l 2 [] 0 0 at' else j3 at' y.fst l 0 [] 0 0 at'], Option.bind (at? y.fst 0) fun (c : UInt8) => Option.bind (lex_classes_z3 (Int.ofNat (UInt8.toNat c), ())) fun (y_1 : Bool × Unit) => if y_1.fst = true then amb (eqAs lex_line_s.rs) [Option.bind (at? y.fst 0) fun (c : UInt8) => Option.bind (lex_classes_z1 (Int.ofNat (UInt8.toNat c), ())) fun (y_2 : Bool × Unit) => if y_2.fst = true then Option.bind (at? y.fst 0) fun (c : UInt8) => Option.bind (lex_classes_z5 (Int.ofNat (UInt8.toNat c), ())) fun (y_3 : Bool × Unit) => if y_3.fst = true then j3 at' y.fst l 3 [] 0 0 at' else j3 at' y.fst l 1 [] 0 0 at' else Option.bind (at? y.fst 0) fun (c : UInt8) => Option.bind (lex_classes_z5 (Int.ofNat (UInt8.toNat c), ())) fun (y_3 : Bool × Unit) => if y_3.fst = true then j3 at' y.fst l 3 [] 0 0 at' else j3 at' y.fst l 2 [] 0 0 at', Option.bind (at? y.fst 0) fun (c : UInt8) => Option.bind (lex_classes_z5 (Int.ofNat (UInt8.toNat c), ())) fun (y_2 : Bool × Unit) => if y_2.fst = true then Option.bind (at? y.fst 0) fun (c : UInt8) => Option.bind (lex_classes_z1 (Int.ofNat (UInt8.toNat c), ())) fun (y_3 : Bool × Unit) => if y_3.fst = true then j3 at' y.fst l 1 [] 0 0 at' else j3 at' y.fst l 3 [] 0 0 at' else Option.bind (at? y.fst 0) fun (c : UInt8) => Option.bind (lex_classes_z1 (Int.ofNat (UInt8.toNat c), ())) fun (y_3 : Bool × Unit) => if y_3.fst = true then j3 at' y.fst l 1 [] 0 0 at' else j3 at' y.fst l 2 [] 0 0 at'] else amb (eqAs lex_line_s.rs) [Option.bind (at? y.fst 0) fun (c : UInt8) => Option.bind (lex_classes_z1 (Int.ofNat (UInt8.toNat c), ())) fun (y_2 : Bool × Unit) => if y_2.fst = true then Option.bind (at? y.fst 0) fun (c : UInt8) => Option.bind (lex_classes_z5 (Int.ofNat (UInt8.toNat c), ())) fun (y_3 : Bool × Unit) => if y_3.fst = true then j3 at' y.fst l 3 [] 0 0 at' else j3 at' y.fst l 1 [] 0 0 at' else Option.bind (at? y.fst 0) fun (c : UInt8) => Option.bind (lex_classes_z5 (Int.ofNat (UInt8.toNat c), ())) fun (y_3 : Bool × Unit) => if y_3.fst = true then j3 at' y.fst l 3 [] 0 0 at' else j3 at' y.fst l 0 [] 0 0 at', Option.bind (at? y.fst 0) fun (c : UInt8) => Option.bind (lex_classes_z5 (Int.ofNat (UInt8.toNat c), ())) fun (y_2 : Bool × Unit) => if y_2.fst = true then Option.bind (at? y.fst 0) fun (c : UInt8) => Option.bind (lex_classes_z1 (Int.ofNat (UInt8.toNat c), ())) fun (y_3 : Bool × Unit) => if y_3.fst = true then j3 at' y.fst l 1 [] 0 0 at' else j3 at' y.fst l 3 [] 0 0 at' else Option.bind (at? y.fst 0) fun (c : UInt8) => Option.bind (lex_classes_z1 (Int.ofNat (UInt8.toNat c), ())) fun (y_3 : Bool × Unit) => if y_3.fst = true then j3 at' y.fst l 1 [] 0 0 at' else j3 at' y.fst l 0 [] 0 0 at'], Option.bind (at? y.fst 0) fun (c : UInt8) => Option.bind (lex_classes_z5 (Int.ofNat (UInt8.toNat c), ())) fun (y_1 : Bool × Unit) => if y_1.fst = true then amb (eqAs lex_line_s.rs) [Option.bind (at? y.fst 0) fun (c : UInt8) => Option.bind (lex_classes_z1 (Int.ofNat (UInt8.toNat c), ())) fun (y_2 : Bool × Unit) => if y_2.fst = true then Option.bind (at? y.fst 0) fun (c : UInt8) => Option.bind (lex_classes_z3 (Int.ofNat (UInt8.toNat c), ())) fun (y_3 : Bool × Unit) => if y_3.fst = true then j3 at' y.fst l 2 [] 0 0 at' else j3 at' y.fst l 1 [] 0 0 at' else Option.bind (at? y.fst 0) fun (c : UInt8) => Option.bind (lex_classes_z3 (Int.ofNat (UInt8.toNat c), ())) fun (y_3 : Bool × Unit) => if y_3.fst = true then j3 at' y.fst l 2 [] 0 0 at' else j3 at' y.fst l 3 [] 0 0 at', Option.bind (at? y.fst 0) fun (c : UInt8) => Option.bind (lex_classes_z3 (Int.ofNat (UInt8.toNat c), ())) fun (y_2 : Bool × Unit) => if y_2.fst = true then Option.bind (at? y.fst 0) fun (c : UInt8) => Option.bind (lex_classes_z1 (Int.ofNat (UInt8.toNat c), ())) fun (y_3 : Bool × Unit) => if y_3.fst = true then j3 at' y.fst l 1 [] 0 0 at' else j3 at' y.fst l 2 [] 0 0 at' else Option.bind (at? y.fst 0) fun (c : UInt8) => Option.bind (lex_classes_z1 (Int.ofNat (UInt8.toNat c), ())) fun (y_3 : Bool × Unit) => if y_3.fst = true then j3 at' y.fst l 1 [] 0 0 at' else j3 at' y.fst l 3 [] 0 0 at'] else amb (eqAs lex_line_s.rs) [Option.bind (at? y.fst 0) fun (c : UInt8) => Option.bind (lex_classes_z1 (Int.ofNat (UInt8.toNat c), ())) fun (y_2 : Bool × Unit) => if y_2.fst = true then Option.bind (at? y.fst 0) fun (c : UInt8) => Option.bind (lex_classes_z3 (Int.ofNat (UInt8.toNat c), ())) fun (y_3 : Bool × Unit) => if y_3.fst = true then j3 at' y.fst l 2 [] 0 0 at' else j3 at' y.fst l 1 [] 0 0 at' else Option.bind (at? y.fst 0) fun (c : UInt8) => Option.bind (lex_classes_z3 (Int.ofNat (UInt8.toNat c), ())) fun (y_3 : Bool × Unit) => if y_3.fst = true then j3 at' y.fst l 2 [] 0 0 at' else j3 at' y.fst l 0 [] 0 0 at', Option.bind (at? y.fst 0) fun (c : UInt8) => Option.bind (lex_classes_z3 (Int.ofNat (UInt8.toNat c), ())) fun (y_2 : Bool × Unit) => if y_2.fst = true then Option.bind (at? y.fst 0) fun (c : UInt8) => Option.bind (lex_classes_z1 (Int.ofNat (UInt8.toNat c), ())) fun (y_3 : Bool × Unit) => if y_3.fst = true then j3 at' y.fst l 1 [] 0 0 at' else j3 at' y.fst l 2 [] 0 0 at' else Option.bind (at? y.fst 0) fun (c : UInt8) => Option.bind (lex_classes_z1 (Int.ofNat (UInt8.toNat c), ())) fun (y_3 : Bool × Unit) => if y_3.fst = true then j3 at' y.fst l 1 [] 0 0 at' else j3 at' y.fst l 0 [] 0 0 at']]
def lex_line_m2 (j4 : List LAT1 → Option (As [.sl LAT0, .int .i64])) (at' : Int) (l : List LAT1) : Option (As [.sl LAT0, .int .i64]) :=
  if gt (Int.ofNat (List.length l)) 0 = true then need (small (List.length l + 1)) (j4 (l ++ [(4, [], (0, 0), at')])) else j4 l
def lex_line_m3 (self1 : Int → List UInt8 → List LAT1 → Option (As [.sl LAT0, .int .i64])) (at' : Int) (text : List UInt8) (l : List LAT1) (t : Int) (t_2 : List UInt8) (t_3 : Int) (t_4 : Int) (t_5 : Int) : Option (As [.sl LAT0, .int .i64]) :=
  if eqi 1 t = true then Option.bind (lex_line_z1_w (text, ())) fun (y : List UInt8 × List UInt8 × Unit) => Option.bind (lex_word (t, y.fst, t_3, t_4, t_5, ())) fun (y_1 : Int × Int × List UInt8 × Int × Int × Int × Unit) => if nei y_1.fst 0 = true then some ([], y_1.fst, ()) else need (small (List.length l + 1)) (self1 at' y.snd.fst (l ++ [(y_1.snd.fst, y_1.snd.snd.fst, (y_1.snd.snd.snd.fst, y_1.snd.snd.snd.snd.fst), y_1.snd.snd.snd.snd.snd.fst)])) else if eqi 2 t = true then Option.bind (lex_line_z1_n (text, ())) fun (y : List UInt8 × List UInt8 × Unit) => Option.bind (lex_number (t, y.fst, t_3, t_4, t_5, ())) fun (y_1 : Int × Int × List UInt8 × Int × Int × Int × Unit) => if nei y_1.fst 0 = true then some ([], y_1.fst, ()) else need (small (List.length l + 1)) (self1 at' y.snd.fst (l ++ [(y_1.snd.fst, y_1.snd.snd.fst, (y_1.snd.snd.snd.fst, y_1.snd.snd.snd.snd.fst), y_1.snd.snd.snd.snd.snd.fst)])) else if eqi 3 t = true then Option.bind (lex_line_z1_e (text, ())) fun (y : List UInt8 × List UInt8 × Unit) => Option.bind (lex_classes_z7 (t, y.fst, t_3, t_4, t_5, ())) fun (y_1 : Int × Int × List UInt8 × Int × Int × Int × Unit) => if nei y_1.fst 0 = true then some ([], y_1.fst, ()) else need (small (List.length l + 1)) (self1 at' y.snd.fst (l ++ [(y_1.snd.fst, y_1.snd.snd.fst, (y_1.snd.snd.snd.fst, y_1.snd.snd.snd.snd.fst), y_1.snd.snd.snd.snd.snd.fst)])) else some ([], 131, ())
def lex_line_m4 (l : List LAT1) : Option (As [.sl LAT0, .int .i64]) :=
  some (l, 0, ())
def lex_line_m0 (j1 : Int → List UInt8 → List LAT1 → Option (As [.sl LAT0, .int .i64])) (text : List UInt8) (at' : Int) : Option (As [.sl LAT0, .int .i64]) :=
  if eqs [35] text = true then Option.bind (cut text 1 (Int.ofNat (List.length text))) fun (y : List UInt8) => j1 at' [] [] else if ge (Go.Lib.indexByte text 35) 0 = true then Option.bind (cut text 0 (Go.Lib.indexByte text 35)) fun (y : List UInt8) => Option.bind (cut text (add .i64 (Go.Lib.indexByte text 35) 1) (Int.ofNat (List.length text))) fun (y_1 : List UInt8) => j1 at' y [] else j1 at' text []
def lex_line_K4 (l : List LAT1) : Option (As [.sl LAT0, .int .i64]) := lex_line_m4 l
def lex_line_K2 (at' : Int) (l : List LAT1) : Option (As [.sl LAT0, .int .i64]) := lex_line_m2 (lex_line_K4) at' l
def lex_line_K3 (u1 : Int → List UInt8 → List LAT1 → Option (As [.sl LAT0, .int .i64])) (at' : Int) (text : List UInt8) (l : List LAT1) (t : Int) (t_2 : List UInt8) (t_3 : Int) (t_4 : Int) (t_5 : Int) : Option (As [.sl LAT0, .int .i64]) := lex_line_m3 u1 at' text l t t_2 t_3 t_4 t_5
def lex_line_K1 (at' : Int) (text : List UInt8) (l : List LAT1) : Option (As [.sl LAT0, .int .i64]) :=
  loopF (fun (self : (Int) × (List UInt8) × (List LAT1) → Option (As [.sl LAT0, .int .i64])) (s : (Int) × (List UInt8) × (List LAT1)) => lex_line_m1 (lex_line_K2) (lex_line_K3 (fun at' text l => self (at', text, l))) (fun at' text l => self (at', text, l)) s.1 s.2.1 s.2.2) 18446744073709551616 (at', text, l)
def lex_line (x : As [.str, .int .i64]) : Option (As [.sl LAT0, .int .i64]) := lex_line_m0 lex_line_K1 x.1 x.2.1
theorem lex_line_c4 (J : Orc (As [.sl LAT0, .int .i64])) (l : List LAT1) : pfn Tryd.prog lex_line_e 6 18446744073709551616 (Ev.get lex_line_h) 52 lex_line_s J 63 [] (lex_line_k4 l) = lex_line_m4 l := by kernel_rfl
theorem lex_line_c2 (J : Orc (As [.sl LAT0, .int .i64])) (at' : Int) (l : List LAT1) : pfn Tryd.prog lex_line_e 6 18446744073709551616 (Ev.get lex_line_h) 52 lex_line_s J 31 [] (lex_line_k2 at' l) = lex_line_m2 (fun l => J 63 [] (lex_line_k4 l)) at' l := by kernel_rfl
theorem lex_line_c3 (J : Orc (As [.sl LAT0, .int .i64])) (w1 : St → Option (As [.sl LAT0, .int .i64])) (at' : Int) (text : List UInt8) (l : List LAT1) (t : Int) (t_2 : List UInt8) (t_3 : Int) (t_4 : Int) (t_5 : Int) : pfn Tryd.prog lex_line_e 6 18446744073709551616 (Ev.get lex_line_h) 52 lex_line_s J 3975 [w1] (lex_line_k3 at' text l t t_2 t_3 t_4 t_5) = lex_line_m3 (fun at' text l => w1 (lex_line_k1 at' text l)) at' text l t t_2 t_3 t_4 t_5 := by kernel_rfl
theorem lex_line_c1 (J : Orc (As [.sl LAT0, .int .i64])) (w1 : St → Option (As [.sl LAT0, .int .i64])) (at' : Int) (text : List UInt8) (l : List LAT1) : pfn Tryd.prog lex_line_e 6 18446744073709551616 (Ev.get lex_line_h) 52 lex_line_s J 124 [w1] (lex_line_k1 at' text l) = lex_line_m1 (fun at' l => J 31 [] (lex_line_k2 at' l)) (fun at' text l t t_2 t_3 t_4 t_5 => J 3975 [w1] (lex_line_k3 at' text l t t_2 t_3 t_4 t_5)) (fun at' text l => w1 (lex_line_k1 at' text l)) at' text l := by kernel_rfl
theorem lex_line_c0 (J : Orc (As [.sl LAT0, .int .i64])) (x : As [.str, .int .i64]) : rfn Tryd.prog lex_line_e 6 18446744073709551616 (Ev.get lex_line_h) 52 lex_line_s J x = lex_line_m0 (fun at' text l => J 124 [] (lex_line_k1 at' text l)) x.1 x.2.1 := by kernel_rfl
theorem lex_line_g4 (l : List LAT1) : jfn Tryd.prog lex_line_e 6 18446744073709551616 (Ev.get lex_line_h) 52 lex_line_s 63 [] (lex_line_k4 l) = lex_line_K4 l := by
  rw [pfn_eq (by decide)]
  rw [lex_line_c4]
  rfl
theorem lex_line_g2 (at' : Int) (l : List LAT1) : jfn Tryd.prog lex_line_e 6 18446744073709551616 (Ev.get lex_line_h) 52 lex_line_s 31 [] (lex_line_k2 at' l) = lex_line_K2 at' l := by
  rw [pfn_eq (by decide)]
  have e4 : (fun l => (jfn Tryd.prog lex_line_e 6 18446744073709551616 (Ev.get lex_line_h) 52 lex_line_s) 63 [] (lex_line_k4 l)) = lex_line_K4 := funext fun l => lex_line_g4 l
  rw [lex_line_c2, e4]
  rfl
theorem lex_line_g3 (w1 : St → Option (As [.sl LAT0, .int .i64])) (at' : Int) (text : List UInt8) (l : List LAT1) (t : Int) (t_2 : List UInt8) (t_3 : Int) (t_4 : Int) (t_5 : Int) : jfn Tryd.prog lex_line_e 6 18446744073709551616 (Ev.get lex_line_h) 52 lex_line_s 3975 [w1] (lex_line_k3 at' text l t t_2 t_3 t_4 t_5) = lex_line_K3 (fun at' text l => w1 (lex_line_k1 at' text l)) at' text l t t_2 t_3 t_4 t_5 := by
  rw [pfn_eq (by decide)]
  rw [lex_line_c3]
  rfl
theorem lex_line_g1 (at' : Int) (text : List UInt8) (l : List LAT1) : jfn Tryd.prog lex_line_e 6 18446744073709551616 (Ev.get lex_line_h) 52 lex_line_s 124 [] (lex_line_k1 at' text l) = lex_line_K1 at' text l := by
  rw [pfn_eq (by decide)]
  rw [pfn_loop (by kernel_rfl)]
  refine loopF_sim (σ := (Int) × (List UInt8) × (List LAT1)) (mk := fun s => lex_line_k1 s.1 s.2.1 s.2.2) (fun w1 s => ?_) 18446744073709551616 (at', text, l)
  have e2 : (fun at' l => (jfn Tryd.prog lex_line_e 6 18446744073709551616 (Ev.get lex_line_h) 52 lex_line_s) 31 [] (lex_line_k2 at' l)) = lex_line_K2 := funext fun at' => funext fun l => lex_line_g2 at' l
  have e3 : (fun at' text l t t_2 t_3 t_4 t_5 => (jfn Tryd.prog lex_line_e 6 18446744073709551616 (Ev.get lex_line_h) 52 lex_line_s) 3975 [w1] (lex_line_k3 at' text l t t_2 t_3 t_4 t_5)) = lex_line_K3 (fun at' text l => w1 (lex_line_k1 at' text l)) := funext fun at' => funext fun text => funext fun l => funext fun t => funext fun t_2 => funext fun t_3 => funext fun t_4 => funext fun t_5 => lex_line_g3 w1 at' text l t t_2 t_3 t_4 t_5
  refine (lex_line_c1 _ w1 s.1 s.2.1 s.2.2).trans ?_
  rw [e2, e3]
theorem lex_line_t (x : As [.str, .int .i64]) : evT Tryd.prog lex_line_e 6 18446744073709551616 (Ev.get lex_line_h) 52 lex_line_s x = lex_line x := by
  have e1 : (fun at' text l => (jfn Tryd.prog lex_line_e 6 18446744073709551616 (Ev.get lex_line_h) 52 lex_line_s) 124 [] (lex_line_k1 at' text l)) = lex_line_K1 := funext fun at' => funext fun text => funext fun l => lex_line_g1 at' text l
  rw [rfn_eq, lex_line_c0, e1]
  rfl
theorem lex_line_ok : CtOk Tryd.prog (fun _ => True) 52 ⟨lex_line_s, lex_line⟩ := ct_of_ev (env_cons strings_TrimLeft_ok (env_cons lex_classes_z1_ok (env_cons lex_classes_z2_ok (env_cons lex_word_ok (env_cons lex_classes_z3_ok (env_cons lex_classes_z4_ok (env_cons lex_number_ok (env_cons lex_classes_z5_ok (env_cons lex_classes_z6_ok (env_cons lex_classes_z7_ok (env_cons lex_line_z1_w_ok (env_cons lex_line_z1_n_ok (env_cons lex_line_z1_e_ok env_nil))))))))))))) lex_line_t
/-! lex_Lex -/
@[reducible] def lex_Lex_s : Sh := ⟨[.d (.str)], [], [.str], [.d (.sl LAT0), .d (.pr (.int .i64) (.int .i64))], [], 0, [.sl LAT0, .pr (.int .i64) (.int .i64)]⟩
def lex_Lex_e : Env := (cts [(52, (⟨lex_line_s, lex_line⟩ : Ct)), (97, (⟨lex_classes_z1_s, lex_classes_z1⟩ : Ct)), (99, (⟨lex_classes_z2_s, lex_classes_z2⟩ : Ct)), (101, (⟨lex_word_s, lex_word⟩ : Ct)), (102, (⟨lex_classes_z3_s, lex_classes_z3⟩ : Ct)), (103, (⟨lex_classes_z4_s, lex_classes_z4⟩ : Ct)), (104, (⟨lex_number_s, lex_number⟩ : Ct)), (105, (⟨lex_classes_z5_s, lex_classes_z5⟩ : Ct)), (106, (⟨lex_classes_z6_s, lex_classes_z6⟩ : Ct)), (107, (⟨lex_classes_z7_s, lex_classes_z7⟩ : Ct))])
def lex_Lex_h : List (Nat × Hint) := [(31, ⟨[], [3, 5]⟩), (250, ⟨[.row 5 35], [0, 3, 4, 5, 6]⟩)]
def lex_Lex_k1 (text : List UInt8) (n : Int) (t3 : Int) (t3_2 : Int) (l : List LAT1) : St := { fr := [(0, .d .str text), (3, .pb 0 0), (4, .mp 1), (5, .row 2), (6, .d (.int .i64) n)], nt := 45, up := [], own := [(0, .box 26 [.d (.int .i64) t3, .d (.int .i64) t3_2]), (1, .sm (.int .u8) 3 [(0, 1, .agg [.fn (.func 97) [] [], .fn (.func 99) [] [], .fn (.func 101) [] []]), (1, 2, .agg [.fn (.func 102) [] [], .fn (.func 103) [] [], .fn (.func 104) [] []]), (2, 3, .agg [.fn (.func 105) [] [], .fn (.func 106) [] [], .fn (.func 107) [] []])]), (2, .row LAT0 35 l)], nx := 3, log := [], ln := 0 }
def lex_Lex_k2 (t3 : Int) (t3_2 : Int) (l : List LAT1) : St := { fr := [(3, .pb 0 0), (5, .row 1)], nt := 45, up := [], own := [(0, .box 26 [.d (.int .i64) t3, .d (.int .i64) t3_2]), (1, .row LAT0 35 l)], nx := 2, log := [], ln := 0 }
def lex_Lex_m1 (j2 : Int → Int → List LAT1 → Option (As [.sl LAT0, .pr (.int .i64) (.int .i64)])) (self1 : List UInt8 → Int → Int → Int → List LAT1 → Option (As [.sl LAT0, .pr (.int .i64) (.int .i64)])) (text : List UInt8) (n : Int) (t3 : Int) (t3_2 : Int) (l : List LAT1) : Option (As [.sl LAT0, .pr (.int .i64) (.int .i64)]) :=
  if nes text [] = true then if eqs [10] text = true then Option.bind (cut text 1 (Int.ofNat (List.length text))) fun (y : List UInt8) => Option.bind (lex_line ([], n, ())) fun (y_1 : List LAT1 × Int × Unit) => if nei y_1.snd.fst 0 = true then some ([], (y_1.snd.fst, n), ()) else need (small (List.length l + List.length y_1.fst)) (self1 y (add .i64 n 1) t3 t3_2 (l ++ y_1.fst)) else if ge (Go.Lib.indexByte text 10) 0 = true then Option.bind (cut text 0 (Go.Lib.indexByte text 10)) fun (y : List UInt8) => Option.bind (cut text (add .i64 (Go.Lib.indexByte text 10) 1) (Int.ofNat (List.length text))) fun (y_1 : List UInt8) => Option.bind (lex_line (y, n, ())) fun (y : List LAT1 × Int × Unit) => if nei y.snd.fst 0 = true then some ([], (y.snd.fst, n), ()) else need (small (List.length l + List.length y.fst)) (self1 y_1 (add .i64 n 1) t3 t3_2 (l ++ y.fst)) else Option.bind (lex_line (text, n, ())) fun (y : List LAT1 × Int × Unit) => if nei y.snd.fst 0 = true then some ([], (y.snd.fst, n), ()) else need (small (List.length l + List.length y.fst)) (self1 [] (add .i64 n 1) t3 t3_2 (l ++ y.fst)) else j2 t3 t3_2 l
def lex_Lex_m2 (t3 : Int) (t3_2 : Int) (l : List LAT1) : Option (As [.sl LAT0, .pr (.int .i64) (.int .i64)]) :=
  some (l, (0, 0), ())
def lex_Lex_m0 (j1 : List UInt8 → Int → Int → Int → List LAT1 → Option (As [.sl LAT0, .pr (.int .i64) (.int .i64)])) (text : List UInt8) : Option (As [.sl LAT0, .pr (.int .i64) (.int .i64)]) :=
  if gt (Int.ofNat (List.length text)) 8192 = true then some ([], (130, 0), ()) else j1 text 1 0 0 []
def lex_Lex_K2 (t3 : Int) (t3_2 : Int) (l : List LAT1) : Option (As [.sl LAT0, .pr (.int .i64) (.int .i64)]) := lex_Lex_m2 t3 t3_2 l
def lex_Lex_K1 (text : List UInt8) (n : Int) (t3 : Int) (t3_2 : Int) (l : List LAT1) : Option (As [.sl LAT0, .pr (.int .i64) (.int .i64)]) :=
  loopF (fun (self : (List UInt8) × (Int) × (Int) × (Int) × (List LAT1) → Option (As [.sl LAT0, .pr (.int .i64) (.int .i64)])) (s : (List UInt8) × (Int) × (Int) × (Int) × (List LAT1)) => lex_Lex_m1 (lex_Lex_K2) (fun text n t3 t3_2 l => self (text, n, t3, t3_2, l)) s.1 s.2.1 s.2.2.1 s.2.2.2.1 s.2.2.2.2) 18446744073709551616 (text, n, t3, t3_2, l)
def lex_Lex (x : As [.str]) : Option (As [.sl LAT0, .pr (.int .i64) (.int .i64)]) := lex_Lex_m0 lex_Lex_K1 x.1
theorem lex_Lex_c2 (J : Orc (As [.sl LAT0, .pr (.int .i64) (.int .i64)])) (t3 : Int) (t3_2 : Int) (l : List LAT1) : pfn Tryd.prog lex_Lex_e 6 18446744073709551616 (Ev.get lex_Lex_h) 12 lex_Lex_s J 31 [] (lex_Lex_k2 t3 t3_2 l) = lex_Lex_m2 t3 t3_2 l := by kernel_rfl
theorem lex_Lex_c1 (J : Orc (As [.sl LAT0, .pr (.int .i64) (.int .i64)])) (w1 : St → Option (As [.sl LAT0, .pr (.int .i64) (.int .i64)])) (text : List UInt8) (n : Int) (t3 : Int) (t3_2 : Int) (l : List LAT1) : pfn Tryd.prog lex_Lex_e 6 18446744073709551616 (Ev.get lex_Lex_h) 12 lex_Lex_s J 250 [w1] (lex_Lex_k1 text n t3 t3_2 l) = lex_Lex_m1 (fun t3 t3_2 l => J 31 [] (lex_Lex_k2 t3 t3_2 l)) (fun text n t3 t3_2 l => w1 (lex_Lex_k1 text n t3 t3_2 l)) text n t3 t3_2 l := by kernel_rfl
theorem lex_Lex_c0 (J : Orc (As [.sl LAT0, .pr (.int .i64) (.int .i64)])) (x : As [.str]) : rfn Tryd.prog lex_Lex_e 6 18446744073709551616 (Ev.get lex_Lex_h) 12 lex_Lex_s J x = lex_Lex_m0 (fun text n t3 t3_2 l => J 250 [] (lex_Lex_k1 text n t3 t3_2 l)) x.1 := by kernel_rfl
theorem lex_Lex_g2 (t3 : Int) (t3_2 : Int) (l : List LAT1) : jfn Tryd.prog lex_Lex_e 6 18446744073709551616 (Ev.get lex_Lex_h) 12 lex_Lex_s 31 [] (lex_Lex_k2 t3 t3_2 l) = lex_Lex_K2 t3 t3_2 l := by
  rw [pfn_eq (by decide)]
  rw [lex_Lex_c2]
  rfl
theorem lex_Lex_g1 (text : List UInt8) (n : Int) (t3 : Int) (t3_2 : Int) (l : List LAT1) : jfn Tryd.prog lex_Lex_e 6 18446744073709551616 (Ev.get lex_Lex_h) 12 lex_Lex_s 250 [] (lex_Lex_k1 text n t3 t3_2 l) = lex_Lex_K1 text n t3 t3_2 l := by
  rw [pfn_eq (by decide)]
  rw [pfn_loop (by kernel_rfl)]
  refine loopF_sim (σ := (List UInt8) × (Int) × (Int) × (Int) × (List LAT1)) (mk := fun s => lex_Lex_k1 s.1 s.2.1 s.2.2.1 s.2.2.2.1 s.2.2.2.2) (fun w1 s => ?_) 18446744073709551616 (text, n, t3, t3_2, l)
  have e2 : (fun t3 t3_2 l => (jfn Tryd.prog lex_Lex_e 6 18446744073709551616 (Ev.get lex_Lex_h) 12 lex_Lex_s) 31 [] (lex_Lex_k2 t3 t3_2 l)) = lex_Lex_K2 := funext fun t3 => funext fun t3_2 => funext fun l => lex_Lex_g2 t3 t3_2 l
  refine (lex_Lex_c1 _ w1 s.1 s.2.1 s.2.2.1 s.2.2.2.1 s.2.2.2.2).trans ?_
  rw [e2]
theorem lex_Lex_t (x : As [.str]) : evT Tryd.prog lex_Lex_e 6 18446744073709551616 (Ev.get lex_Lex_h) 12 lex_Lex_s x = lex_Lex x := by
  have e1 : (fun text n t3 t3_2 l => (jfn Tryd.prog lex_Lex_e 6 18446744073709551616 (Ev.get lex_Lex_h) 12 lex_Lex_s) 250 [] (lex_Lex_k1 text n t3 t3_2 l)) = lex_Lex_K1 := funext fun text => funext fun n => funext fun t3 => funext fun t3_2 => funext fun l => lex_Lex_g1 text n t3 t3_2 l
  rw [rfn_eq, lex_Lex_c0, e1]
  rfl
theorem lex_Lex_ok : CtOk Tryd.prog (fun _ => True) 12 ⟨lex_Lex_s, lex_Lex⟩ := ct_of_ev (env_cons lex_line_ok (env_cons lex_classes_z1_ok (env_cons lex_classes_z2_ok (env_cons lex_word_ok (env_cons lex_classes_z3_ok (env_cons lex_classes_z4_ok (env_cons lex_number_ok (env_cons lex_classes_z5_ok (env_cons lex_classes_z6_ok (env_cons lex_classes_z7_ok env_nil)))))))))) lex_Lex_t
/-! law13_same -/
@[reducible] def law13_same_s : Sh := ⟨[.d (.sl LAT0), .d (.sl LAT0)], [], [.sl LAT0, .sl LAT0], [.d (.bool)], [], 0, [.bool]⟩
def law13_same_e : Env := (cts [])
def law13_same_h : List (Nat × Hint) := [(58, ⟨[], [0, 1, 12, 13]⟩)]
def law13_same_k1 (a : List LAT1) (b : List LAT1) (t12 : Int) (t13 : Int) : St := { fr := [(0, .d (.sl LAT0) a), (1, .d (.sl LAT0) b), (12, .d (.int .i64) t12), (13, .d (.int .i64) t13)], nt := 26, up := [], own := [], nx := 0, log := [], ln := 0 }
def law13_same_m1 (self1 : List LAT1 → List LAT1 → Int → Int → Option (As [.bool])) (a : List LAT1) (b : List LAT1) (t12 : Int) (t13 : Int) : Option (As [.bool]) :=
  if lt t13 t12 = true then Option.bind (at? a t13) fun (y : Int × List UInt8 × (Int × Int) × Int) => Option.bind (at? b t13) fun (y_1 : Int × List UInt8 × (Int × Int) × Int) => if (!(eqi y.fst y_1.fst && (eqs y.snd.fst y_1.snd.fst && (eqi y.snd.snd.fst.fst y_1.snd.snd.fst.fst && (eqi y.snd.snd.fst.snd y_1.snd.snd.fst.snd && true) && (eqi y.snd.snd.snd y_1.snd.snd.snd && true))))) = true then some (false, ()) else self1 a b t12 (add .i64 t13 1) else some (true, ())
def law13_same_m0 (j1 : List LAT1 → List LAT1 → Int → Int → Option (As [.bool])) (a : List LAT1) (b : List LAT1) : Option (As [.bool]) :=
  if nei (Int.ofNat (List.length a)) (Int.ofNat (List.length b)) = true then some (false, ()) else j1 a b (Int.ofNat (List.length a)) 0
def law13_same_K1 (a : List LAT1) (b : List LAT1) (t12 : Int) (t13 : Int) : Option (As [.bool]) :=
  loopF (fun (self : (List LAT1) × (List LAT1) × (Int) × (Int) → Option (As [.bool])) (s : (List LAT1) × (List LAT1) × (Int) × (Int)) => law13_same_m1 (fun a b t12 t13 => self (a, b, t12, t13)) s.1 s.2.1 s.2.2.1 s.2.2.2) 18446744073709551616 (a, b, t12, t13)
def law13_same (x : As [.sl LAT0, .sl LAT0]) : Option (As [.bool]) := law13_same_m0 law13_same_K1 x.1 x.2.1
theorem law13_same_c1 (J : Orc (As [.bool])) (w1 : St → Option (As [.bool])) (a : List LAT1) (b : List LAT1) (t12 : Int) (t13 : Int) : pfn Tryd.prog law13_same_e 6 18446744073709551616 (Ev.get law13_same_h) 14 law13_same_s J 58 [w1] (law13_same_k1 a b t12 t13) = law13_same_m1 (fun a b t12 t13 => w1 (law13_same_k1 a b t12 t13)) a b t12 t13 := by kernel_rfl
theorem law13_same_c0 (J : Orc (As [.bool])) (x : As [.sl LAT0, .sl LAT0]) : rfn Tryd.prog law13_same_e 6 18446744073709551616 (Ev.get law13_same_h) 14 law13_same_s J x = law13_same_m0 (fun a b t12 t13 => J 58 [] (law13_same_k1 a b t12 t13)) x.1 x.2.1 := by kernel_rfl
theorem law13_same_g1 (a : List LAT1) (b : List LAT1) (t12 : Int) (t13 : Int) : jfn Tryd.prog law13_same_e 6 18446744073709551616 (Ev.get law13_same_h) 14 law13_same_s 58 [] (law13_same_k1 a b t12 t13) = law13_same_K1 a b t12 t13 := by
  rw [pfn_eq (by decide)]
  rw [pfn_loop (by kernel_rfl)]
  refine loopF_sim (σ := (List LAT1) × (List LAT1) × (Int) × (Int)) (mk := fun s => law13_same_k1 s.1 s.2.1 s.2.2.1 s.2.2.2) (fun w1 s => ?_) 18446744073709551616 (a, b, t12, t13)
  refine (law13_same_c1 _ w1 s.1 s.2.1 s.2.2.1 s.2.2.2).trans ?_
  rfl
theorem law13_same_t (x : As [.sl LAT0, .sl LAT0]) : evT Tryd.prog law13_same_e 6 18446744073709551616 (Ev.get law13_same_h) 14 law13_same_s x = law13_same x := by
  have e1 : (fun a b t12 t13 => (jfn Tryd.prog law13_same_e 6 18446744073709551616 (Ev.get law13_same_h) 14 law13_same_s) 58 [] (law13_same_k1 a b t12 t13)) = law13_same_K1 := funext fun a => funext fun b => funext fun t12 => funext fun t13 => law13_same_g1 a b t12 t13
  rw [rfn_eq, law13_same_c0, e1]
  rfl
theorem law13_same_ok : CtOk Tryd.prog (fun _ => True) 14 ⟨law13_same_s, law13_same⟩ := ct_of_ev env_nil law13_same_t
/-! law13_fails -/
@[reducible] def law13_fails_s : Sh := ⟨[.d (.str), .d (.int .i64), .d (.int .i64)], [], [.str, .int .i64, .int .i64], [.d (.bool)], [], 0, [.bool]⟩
def law13_fails_e : Env := (cts [(12, (⟨lex_Lex_s, lex_Lex⟩ : Ct))])
def law13_fails_h : List (Nat × Hint) := []
def law13_fails_m0 (s : List UInt8) (e : Int) (line : Int) : Option (As [.bool]) :=
  Option.bind (lex_Lex (s, ())) fun (y : List LAT1 × (Int × Int) × Unit) => if eqi (Int.ofNat (List.length y.fst)) 0 = true then some (eqi y.snd.fst.fst e && (eqi y.snd.fst.snd line && true), ()) else some (false, ())
def law13_fails (x : As [.str, .int .i64, .int .i64]) : Option (As [.bool]) := law13_fails_m0 x.1 x.2.1 x.2.2.1
theorem law13_fails_c0 (J : Orc (As [.bool])) (x : As [.str, .int .i64, .int .i64]) : rfn Tryd.prog law13_fails_e 6 18446744073709551616 (Ev.get law13_fails_h) 50 law13_fails_s J x = law13_fails_m0 x.1 x.2.1 x.2.2.1 := by kernel_rfl
theorem law13_fails_t (x : As [.str, .int .i64, .int .i64]) : evT Tryd.prog law13_fails_e 6 18446744073709551616 (Ev.get law13_fails_h) 50 law13_fails_s x = law13_fails x := by
  rw [rfn_eq, law13_fails_c0]
  rfl
theorem law13_fails_ok : CtOk Tryd.prog (fun _ => True) 50 ⟨law13_fails_s, law13_fails⟩ := ct_of_ev (env_cons lex_Lex_ok env_nil) law13_fails_t
/-! law13_awake -/
@[reducible] def law13_awake_s : Sh := ⟨[], [], [], [.d (.bool)], [], 0, [.bool]⟩
def law13_awake_e : Env := (cts [(12, (⟨lex_Lex_s, lex_Lex⟩ : Ct)), (14, (⟨law13_same_s, law13_same⟩ : Ct)), (50, (⟨law13_fails_s, law13_fails⟩ : Ct))])
def law13_awake_h : List (Nat × Hint) := []
def law13_awake_m0 : Option (As [.bool]) :=
  Option.bind (lex_Lex ([97, 32, 61, 32, 49, 46, 53, 48, 32, 35, 32, 98], ())) fun (y : List LAT1 × (Int × Int) × Unit) => Option.bind (lex_Lex ([10, 37], ())) fun (y_1 : List LAT1 × (Int × Int) × Unit) => Option.bind (lex_Lex ([], ())) fun (y_2 : List LAT1 × (Int × Int) × Unit) => if (eqi y.snd.fst.fst 0 && (eqi y.snd.fst.snd 0 && true)) = true then if (eqi y_1.snd.fst.fst 0 && (eqi y_1.snd.fst.snd 0 && true)) = true then if (eqi y_2.snd.fst.fst 0 && (eqi y_2.snd.fst.snd 0 && true)) = true then if eqi (Int.ofNat (List.length y_2.fst)) 0 = true then Option.bind (law13_same (y.fst, [(1, [97], (0, 0), 1), (3, [61], (0, 0), 1), (2, [49, 46, 53, 48], (15, 1), 1), (4, [], (0, 0), 1)], ())) fun (y : Bool × Unit) => if y.fst = true then Option.bind (law13_same (y_1.fst, [(1, [37], (0, 0), 2), (4, [], (0, 0), 2)], ())) fun (y : Bool × Unit) => if y.fst = true then Option.bind (law13_fails ([49, 45], 132, 1, ())) fun (y : Bool × Unit) => if y.fst = true then Option.bind (law13_fails ([97, 0], 131, 1, ())) fun (y : Bool × Unit) => some (y.fst, ()) else some (false, ()) else some (false, ()) else some (false, ()) else some (false, ()) else some (false, ()) else some (false, ()) else some (false, ())
def law13_awake (x : As []) : Option (As [.bool]) := law13_awake_m0
theorem law13_awake_c0 (J : Orc (As [.bool])) (x : As []) : rfn Tryd.prog law13_awake_e 6 18446744073709551616 (Ev.get law13_awake_h) 11 law13_awake_s J x = law13_awake_m0 := by kernel_rfl
theorem law13_awake_t (x : As []) : evT Tryd.prog law13_awake_e 6 18446744073709551616 (Ev.get law13_awake_h) 11 law13_awake_s x = law13_awake x := by
  rw [rfn_eq, law13_awake_c0]
  rfl
theorem law13_awake_ok : CtOk Tryd.prog (fun _ => True) 11 ⟨law13_awake_s, law13_awake⟩ := ct_of_ev (env_cons lex_Lex_ok (env_cons law13_same_ok (env_cons law13_fails_ok env_nil))) law13_awake_t
/-! ref12_Of -/
@[reducible] def ref12_Of_s : Sh := ⟨[.d (.int .i64), .d (.int .i64)], [], [.int .i64, .int .i64], [.d (.pr (.int .i64) (.int .u8)), .d (.bool)], [], 0, [.pr (.int .i64) (.int .u8), .bool]⟩
def ref12_Of_e : Env := (cts [])
def ref12_Of_h : List (Nat × Hint) := [(3, ⟨[], [0, 1, 4, 20, 21, 24, 25]⟩), (14, ⟨[], [0, 1, 4, 26]⟩), (12, ⟨[], [0, 1, 4, 9, 10, 11, 20, 21, 24, 25]⟩), (48, ⟨[], [0, 1, 4, 12]⟩)]
def ref12_Of_k1 (n : Int) (digits : Int) (t4 : Int) (t4_2 : Int) : St := { fr := [(0, .d (.int .i64) n), (1, .d (.int .i64) digits), (4, .pb 0 0)], nt := 32, up := [], own := [(0, .box 33 [.d (.int .i64) t4, .d (.int .u8) t4_2])], nx := 1, log := [], ln := 0 }
def ref12_Of_k2 (n : Int) (digits : Int) (t12 : Bool) (t4 : Int) (t4_2 : Int) : St := { fr := [(0, .d (.int .i64) n), (1, .d (.int .i64) digits), (4, .pb 0 0), (12, .d .bool t12)], nt := 32, up := [], own := [(0, .box 33 [.d (.int .i64) t4, .d (.int .u8) t4_2])], nx := 1, log := [], ln := 0 }
def ref12_Of_k3 (n : Int) (digits : Int) (t4 : Int) (t4_2 : Int) : St := { fr := [(0, .d (.int .i64) n), (1, .d (.int .i64) digits), (4, .pb 0 0)], nt := 32, up := [], own := [(0, .box 33 [.d (.int .i64) t4, .d (.int .u8) t4_2])], nx := 1, log := [], ln := 0 }
def ref12_Of_k4 (n : Int) (digits : Int) (t26 : Bool) (t4 : Int) (t4_2 : Int) : St := { fr := [(0, .d (.int .i64) n), (1, .d (.int .i64) digits), (4, .pb 0 0), (26, .d .bool t26)], nt := 32, up := [], own := [(0, .box 33 [.d (.int .i64) t4, .d (.int .u8) t4_2])], nx := 1, log := [], ln := 0 }
def ref12_Of_m1 (j2 : Int → Int → Bool → Int → Int → Option (As [.pr (.int .i64) (.int .u8), .bool])) (self1 : Int → Int → Int → Int → Option (As [.pr (.int .i64) (.int .u8), .bool])) (n : Int) (digits : Int) (t4 : Int) (t4_2 : Int) : Option (As [.pr (.int .i64) (.int .u8), .bool]) :=
  if gt digits 0 = true then j2 n digits (eqi (rem n 10) 0) t4 t4_2 else j2 n digits false t4 t4_2
def ref12_Of_m2 (j3 : Int → Int → Int → Int → Option (As [.pr (.int .i64) (.int .u8), .bool])) (self1 : Int → Int → Int → Int → Option (As [.pr (.int .i64) (.int .u8), .bool])) (n : Int) (digits : Int) (t12 : Bool) (t4 : Int) (t4_2 : Int) : Option (As [.pr (.int .i64) (.int .u8), .bool]) :=
  if t12 = true then self1 (quo .i64 n 10) (Sx.sub .i64 digits 1) t4 t4_2 else j3 n digits t4 t4_2
def ref12_Of_m3 (j4 : Int → Int → Bool → Int → Int → Option (As [.pr (.int .i64) (.int .u8), .bool])) (n : Int) (digits : Int) (t4 : Int) (t4_2 : Int) : Option (As [.pr (.int .i64) (.int .u8), .bool]) :=
  if gt digits 6 = true then j4 n digits true t4 t4_2 else if gt n 1000000000000 = true then j4 n digits true t4 t4_2 else j4 n digits (lt n (-1000000000000)) t4 t4_2
def ref12_Of_m4 (n : Int) (digits : Int) (t26 : Bool) (t4 : Int) (t4_2 : Int) : Option (As [.pr (.int .i64) (.int .u8), .bool]) :=
  if t26 = true then some ((0, 0), false, ()) else some ((n, cvt .u8 digits), true, ())
def ref12_Of_m0 (j1 : Int → Int → Int → Int → Option (As [.pr (.int .i64) (.int .u8), .bool])) (n : Int) (digits : Int) : Option (As [.pr (.int .i64) (.int .u8), .bool]) :=
  j1 n digits 0 0
def ref12_Of_K4 (n : Int) (digits : Int) (t26 : Bool) (t4 : Int) (t4_2 : Int) : Option (As [.pr (.int .i64) (.int .u8), .bool]) := ref12_Of_m4 n digits t26 t4 t4_2
def ref12_Of_K3 (n : Int) (digits : Int) (t4 : Int) (t4_2 : Int) : Option (As [.pr (.int .i64) (.int .u8), .bool]) := ref12_Of_m3 (ref12_Of_K4) n digits t4 t4_2
def ref12_Of_K2 (u1 : Int → Int → Int → Int → Option (As [.pr (.int .i64) (.int .u8), .bool])) (n : Int) (digits : Int) (t12 : Bool) (t4 : Int) (t4_2 : Int) : Option (As [.pr (.int .i64) (.int .u8), .bool]) := ref12_Of_m2 (ref12_Of_K3) u1 n digits t12 t4 t4_2
def ref12_Of_K1 (n : Int) (digits : Int) (t4 : Int) (t4_2 : Int) : Option (As [.pr (.int .i64) (.int .u8), .bool]) :=
  loopF (fun (self : (Int) × (Int) × (Int) × (Int) → Option (As [.pr (.int .i64) (.int .u8), .bool])) (s : (Int) × (Int) × (Int) × (Int)) => ref12_Of_m1 (ref12_Of_K2 (fun n digits t4 t4_2 => self (n, digits, t4, t4_2))) (fun n digits t4 t4_2 => self (n, digits, t4, t4_2)) s.1 s.2.1 s.2.2.1 s.2.2.2) 18446744073709551616 (n, digits, t4, t4_2)
def ref12_Of (x : As [.int .i64, .int .i64]) : Option (As [.pr (.int .i64) (.int .u8), .bool]) := ref12_Of_m0 ref12_Of_K1 x.1 x.2.1
theorem ref12_Of_c4 (J : Orc (As [.pr (.int .i64) (.int .u8), .bool])) (n : Int) (digits : Int) (t26 : Bool) (t4 : Int) (t4_2 : Int) : pfn Tryd.prog ref12_Of_e 6 18446744073709551616 (Ev.get ref12_Of_h) 77 ref12_Of_s J 14 [] (ref12_Of_k4 n digits t26 t4 t4_2) = ref12_Of_m4 n digits t26 t4 t4_2 := by kernel_rfl
theorem ref12_Of_c3 (J : Orc (As [.pr (.int .i64) (.int .u8), .bool])) (n : Int) (digits : Int) (t4 : Int) (t4_2 : Int) : pfn Tryd.prog ref12_Of_e 6 18446744073709551616 (Ev.get ref12_Of_h) 77 ref12_Of_s J 3 [] (ref12_Of_k3 n digits t4 t4_2) = ref12_Of_m3 (fun n digits t26 t4 t4_2 => J 14 [] (ref12_Of_k4 n digits t26 t4 t4_2)) n digits t4 t4_2 := by kernel_rfl
theorem ref12_Of_c2 (J : Orc (As [.pr (.int .i64) (.int .u8), .bool])) (w1 : St → Option (As [.pr (.int .i64) (.int .u8), .bool])) (n : Int) (digits : Int) (t12 : Bool) (t4 : Int) (t4_2 : Int) : pfn Tryd.prog ref12_Of_e 6 18446744073709551616 (Ev.get ref12_Of_h) 77 ref12_Of_s J 48 [w1] (ref12_Of_k2 n digits t12 t4 t4_2) = ref12_Of_m2 (fun n digits t4 t4_2 => J 3 [] (ref12_Of_k3 n digits t4 t4_2)) (fun n digits t4 t4_2 => w1 (ref12_Of_k1 n digits t4 t4_2)) n digits t12 t4 t4_2 := by kernel_rfl
theorem ref12_Of_c1 (J : Orc (As [.pr (.int .i64) (.int .u8), .bool])) (w1 : St → Option (As [.pr (.int .i64) (.int .u8), .bool])) (n : Int) (digits : Int) (t4 : Int) (t4_2 : Int) : pfn Tryd.prog ref12_Of_e 6 18446744073709551616 (Ev.get ref12_Of_h) 77 ref12_Of_s J 12 [w1] (ref12_Of_k1 n digits t4 t4_2) = ref12_Of_m1 (fun n digits t12 t4 t4_2 => J 48 [w1] (ref12_Of_k2 n digits t12 t4 t4_2)) (fun n digits t4 t4_2 => w1 (ref12_Of_k1 n digits t4 t4_2)) n digits t4 t4_2 := by kernel_rfl
theorem ref12_Of_c0 (J : Orc (As [.pr (.int .i64) (.int .u8), .bool])) (x : As [.int .i64, .int .i64]) : rfn Tryd.prog ref12_Of_e 6 18446744073709551616 (Ev.get ref12_Of_h) 77 ref12_Of_s J x = ref12_Of_m0 (fun n digits t4 t4_2 => J 12 [] (ref12_Of_k1 n digits t4 t4_2)) x.1 x.2.1 := by kernel_rfl
theorem ref12_Of_g4 (n : Int) (digits : Int) (t26 : Bool) (t4 : Int) (t4_2 : Int) : jfn Tryd.prog ref12_Of_e 6 18446744073709551616 (Ev.get ref12_Of_h) 77 ref12_Of_s 14 [] (ref12_Of_k4 n digits t26 t4 t4_2) = ref12_Of_K4 n digits t26 t4 t4_2 := by
  rw [pfn_eq (by decide)]
  rw [ref12_Of_c4]
  rfl
theorem ref12_Of_g3 (n : Int) (digits : Int) (t4 : Int) (t4_2 : Int) : jfn Tryd.prog ref12_Of_e 6 18446744073709551616 (Ev.get ref12_Of_h) 77 ref12_Of_s 3 [] (ref12_Of_k3 n digits t4 t4_2) = ref12_Of_K3 n digits t4 t4_2 := by
  rw [pfn_eq (by decide)]
  have e4 : (fun n digits t26 t4 t4_2 => (jfn Tryd.prog ref12_Of_e 6 18446744073709551616 (Ev.get ref12_Of_h) 77 ref12_Of_s) 14 [] (ref12_Of_k4 n digits t26 t4 t4_2)) = ref12_Of_K4 := funext fun n => funext fun digits => funext fun t26 => funext fun t4 => funext fun t4_2 => ref12_Of_g4 n digits t26 t4 t4_2
  rw [ref12_Of_c3, e4]
  rfl
theorem ref12_Of_g2 (w1 : St → Option (As [.pr (.int .i64) (.int .u8), .bool])) (n : Int) (digits : Int) (t12 : Bool) (t4 : Int) (t4_2 : Int) : jfn Tryd.prog ref12_Of_e 6 18446744073709551616 (Ev.get ref12_Of_h) 77 ref12_Of_s 48 [w1] (ref12_Of_k2 n digits t12 t4 t4_2) = ref12_Of_K2 (fun n digits t4 t4_2 => w1 (ref12_Of_k1 n digits t4 t4_2)) n digits t12 t4 t4_2 := by
  rw [pfn_eq (by decide)]
  have e3 : (fun n digits t4 t4_2 => (jfn Tryd.prog ref12_Of_e 6 18446744073709551616 (Ev.get ref12_Of_h) 77 ref12_Of_s) 3 [] (ref12_Of_k3 n digits t4 t4_2)) = ref12_Of_K3 := funext fun n => funext fun digits => funext fun t4 => funext fun t4_2 => ref12_Of_g3 n digits t4 t4_2
  rw [ref12_Of_c2, e3]
  rfl
theorem ref12_Of_g1 (n : Int) (digits : Int) (t4 : Int) (t4_2 : Int) : jfn Tryd.prog ref12_Of_e 6 18446744073709551616 (Ev.get ref12_Of_h) 77 ref12_Of_s 12 [] (ref12_Of_k1 n digits t4 t4_2) = ref12_Of_K1 n digits t4 t4_2 := by
  rw [pfn_eq (by decide)]
  rw [pfn_loop (by kernel_rfl)]
  refine loopF_sim (σ := (Int) × (Int) × (Int) × (Int)) (mk := fun s => ref12_Of_k1 s.1 s.2.1 s.2.2.1 s.2.2.2) (fun w1 s => ?_) 18446744073709551616 (n, digits, t4, t4_2)
  have e2 : (fun n digits t12 t4 t4_2 => (jfn Tryd.prog ref12_Of_e 6 18446744073709551616 (Ev.get ref12_Of_h) 77 ref12_Of_s) 48 [w1] (ref12_Of_k2 n digits t12 t4 t4_2)) = ref12_Of_K2 (fun n digits t4 t4_2 => w1 (ref12_Of_k1 n digits t4 t4_2)) := funext fun n => funext fun digits => funext fun t12 => funext fun t4 => funext fun t4_2 => ref12_Of_g2 w1 n digits t12 t4 t4_2
  refine (ref12_Of_c1 _ w1 s.1 s.2.1 s.2.2.1 s.2.2.2).trans ?_
  rw [e2]
theorem ref12_Of_t (x : As [.int .i64, .int .i64]) : evT Tryd.prog ref12_Of_e 6 18446744073709551616 (Ev.get ref12_Of_h) 77 ref12_Of_s x = ref12_Of x := by
  have e1 : (fun n digits t4 t4_2 => (jfn Tryd.prog ref12_Of_e 6 18446744073709551616 (Ev.get ref12_Of_h) 77 ref12_Of_s) 12 [] (ref12_Of_k1 n digits t4 t4_2)) = ref12_Of_K1 := funext fun n => funext fun digits => funext fun t4 => funext fun t4_2 => ref12_Of_g1 n digits t4 t4_2
  rw [rfn_eq, ref12_Of_c0, e1]
  rfl
theorem ref12_Of_ok : CtOk Tryd.prog (fun _ => True) 77 ⟨ref12_Of_s, ref12_Of⟩ := ct_of_ev env_nil ref12_Of_t
end Go.Proofs.Lx

end
