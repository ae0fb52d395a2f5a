/- Proved in the last of these 9 parts (this is part 7): PollTakes, whatever its arguments, returns true and leaves them as they were, with no condition.. Conditions: those of the given statement, and no others. -/
import Derived.Test.YtbpmjafbgbcjeaaPartd
import Derived.Test.YtbpmjafbgbcjeaaProg
import Derived.Test.YtbpmjafbgbcjeaaPartf
set_option linter.unusedVariables false
set_option linter.unusedSimpArgs false
set_option linter.unusedSectionVars false
section
/- Contracts, made by a program. -/
open Go Go.Proofs Ev Sx
set_option maxRecDepth 100000
namespace Go.Proofs.Lx
abbrev LDT0 : Ty := (.pr (.int .u8) (.pr (.sl .bool) (.pr (.sl (.int .u16)) (.pr (.int .u16) (.int .u16)))))
abbrev LDT3 : Ty := (.pr (.int .u16) (.pr (.int .u16) (.pr (.int .u16) (.pr (.sl (.int .u16)) (.sl .bool)))))
abbrev LDT1 : Ty := (.pr (.int .u8) (.pr (.int .i64) (.pr (.int .i64) (.pr .bool (.pr (.pr (.int .u8) LDT3) (.pr (.int .u16) (.pr (.int .i64) (.int .i64))))))))
abbrev LDT2 : Type := (Int × Int × Int × Int × Bool × (Int × Int × Int × Int × List Int × List Bool) × Int × Int × Int)
/-! law22_begun -/
@[reducible] def law22_begun_s : Sh := ⟨[.d (.int .u8), .d (.int .u8), .d (.int .u8)], [], [.int .u8, .int .u8, .int .u8], [.d (.pr (.int .u8) LDT1), .d (.bool)], [], 0, [.pr (.int .u8) LDT1, .bool]⟩
def law22_begun_e : Env := (cts [(9, (⟨poll_New_s, poll_New⟩ : Ct))])
def law22_begun_h : List (Nat × Hint) := []
def law22_begun_m0 (link : Int) (timeout : Int) (retries : Int) : Option (As [.pr (.int .u8) LDT1, .bool]) :=
  Option.bind (poll_New (9, add .u8 1 (rem link 2), add .i64 1 (cvt .i64 (rem timeout 20)), cvt .i64 (rem retries 6), ())) fun (y : LDT2 × Int × Unit) => some (y.fst, eqi y.snd.fst 0, ())
def law22_begun (x : As [.int .u8, .int .u8, .int .u8]) : Option (As [.pr (.int .u8) LDT1, .bool]) := law22_begun_m0 x.1 x.2.1 x.2.2.1
theorem law22_begun_c0 (J : Orc (As [.pr (.int .u8) LDT1, .bool])) (x : As [.int .u8, .int .u8, .int .u8]) : rfn Try.prog law22_begun_e 6 18446744073709551616 (Ev.get law22_begun_h) 14 law22_begun_s J x = law22_begun_m0 x.1 x.2.1 x.2.2.1 := by kernel_rfl
theorem law22_begun_t (x : As [.int .u8, .int .u8, .int .u8]) : evT Try.prog law22_begun_e 6 18446744073709551616 (Ev.get law22_begun_h) 14 law22_begun_s x = law22_begun x := by
  rw [rfn_eq, law22_begun_c0]
  rfl
theorem law22_begun_ok : CtOk Try.prog (fun _ => True) 14 ⟨law22_begun_s, law22_begun⟩ := ct_of_ev (env_cons poll_New_ok env_nil) law22_begun_t
/-! reply_Bytes -/
@[reducible] def reply_Bytes_s : Sh := ⟨[.d (.pr (.int .u8) LDT0)], [], [.pr (.int .u8) LDT0], [.d (.sl (.int .u8)), .d (.int .i64)], [], 0, [.sl (.int .u8), .int .i64]⟩
def reply_Bytes_e : Env := (cts [(81, (⟨reply_exception_right_s, reply_exception_right⟩ : Ct)), (82, (⟨reply_exception_write_s, reply_exception_write⟩ : Ct)), (94, (⟨reply_bitList_right_s, reply_bitList_right⟩ : Ct)), (95, (⟨reply_bitList_write_s, reply_bitList_write⟩ : Ct)), (97, (⟨reply_wordList_right_s, reply_wordList_right⟩ : Ct)), (98, (⟨reply_wordList_write_s, reply_wordList_write⟩ : Ct)), (102, (⟨reply_oneBit_right_s, reply_oneBit_right⟩ : Ct)), (103, (⟨reply_oneBit_write_s, reply_oneBit_write⟩ : Ct)), (105, (⟨reply_oneWord_right_s, reply_oneWord_right⟩ : Ct)), (106, (⟨reply_oneWord_write_s, reply_oneWord_write⟩ : Ct)), (108, (⟨reply_count_right_s, reply_count_right⟩ : Ct)), (109, (⟨reply_count_write_s, reply_count_write⟩ : Ct))])
def reply_Bytes_h : List (Nat × Hint) := []
def reply_Bytes_m0 (r : Int × Int × List Bool × List Int × Int × Int) : Option (As [.sl (.int .u8), .int .i64]) :=
  if nei r.snd.fst 0 = true then Option.bind (reply_exception_right ((), r, ())) fun (y : Bool × Unit) => if y.fst = true then Option.bind (reply_exception_write ((), r, ())) fun (y : List Int × Unit) => some (y.fst, 0, ()) else some ([], 13, ()) else if eqi r.fst 1 = true then Option.bind (reply_bitList_right ((), r, ())) fun (y : Bool × Unit) => if y.fst = true then Option.bind (reply_bitList_write ((), r, ())) fun (y : List Int × Unit) => some (y.fst, 0, ()) else some ([], 13, ()) else if eqi r.fst 2 = true then Option.bind (reply_bitList_right ((), r, ())) fun (y : Bool × Unit) => if y.fst = true then Option.bind (reply_bitList_write ((), r, ())) fun (y : List Int × Unit) => some (y.fst, 0, ()) else some ([], 13, ()) else if eqi r.fst 3 = true then Option.bind (reply_wordList_right ((), r, ())) fun (y : Bool × Unit) => if y.fst = true then Option.bind (reply_wordList_write ((), r, ())) fun (y : List Int × Unit) => some (y.fst, 0, ()) else some ([], 13, ()) else if eqi r.fst 4 = true then Option.bind (reply_wordList_right ((), r, ())) fun (y : Bool × Unit) => if y.fst = true then Option.bind (reply_wordList_write ((), r, ())) fun (y : List Int × Unit) => some (y.fst, 0, ()) else some ([], 13, ()) else if eqi r.fst 23 = true then Option.bind (reply_wordList_right ((), r, ())) fun (y : Bool × Unit) => if y.fst = true then Option.bind (reply_wordList_write ((), r, ())) fun (y : List Int × Unit) => some (y.fst, 0, ()) else some ([], 13, ()) else if eqi r.fst 5 = true then Option.bind (reply_oneBit_right ((), r, ())) fun (y : Bool × Unit) => if y.fst = true then Option.bind (reply_oneBit_write ((), r, ())) fun (y : List Int × Unit) => some (y.fst, 0, ()) else some ([], 13, ()) else if eqi r.fst 6 = true then Option.bind (reply_oneWord_right ((), r, ())) fun (y : Bool × Unit) => if y.fst = true then Option.bind (reply_oneWord_write ((), r, ())) fun (y : List Int × Unit) => some (y.fst, 0, ()) else some ([], 13, ()) else if eqi r.fst 15 = true then Option.bind (reply_count_right (1968, r, ())) fun (y : Bool × Unit) => if y.fst = true then Option.bind (reply_count_write (1968, r, ())) fun (y : List Int × Unit) => some (y.fst, 0, ()) else some ([], 13, ()) else if eqi r.fst 16 = true then Option.bind (reply_count_right (123, r, ())) fun (y : Bool × Unit) => if y.fst = true then Option.bind (reply_count_write (123, r, ())) fun (y : List Int × Unit) => some (y.fst, 0, ()) else some ([], 13, ()) else some ([], 13, ())
def reply_Bytes (x : As [.pr (.int .u8) LDT0]) : Option (As [.sl (.int .u8), .int .i64]) := reply_Bytes_m0 x.1
theorem reply_Bytes_c0 (J : Orc (As [.sl (.int .u8), .int .i64])) (x : As [.pr (.int .u8) LDT0]) : rfn Try.prog reply_Bytes_e 6 18446744073709551616 (Ev.get reply_Bytes_h) 38 reply_Bytes_s J x = reply_Bytes_m0 x.1 := by kernel_rfl
theorem reply_Bytes_t (x : As [.pr (.int .u8) LDT0]) : evT Try.prog reply_Bytes_e 6 18446744073709551616 (Ev.get reply_Bytes_h) 38 reply_Bytes_s x = reply_Bytes x := by
  rw [rfn_eq, reply_Bytes_c0]
  rfl
theorem reply_Bytes_ok : CtOk Try.prog (fun _ => True) 38 ⟨reply_Bytes_s, reply_Bytes⟩ := ct_of_ev (env_cons reply_exception_right_ok (env_cons reply_exception_write_ok (env_cons reply_bitList_right_ok (env_cons reply_bitList_write_ok (env_cons reply_wordList_right_ok (env_cons reply_wordList_write_ok (env_cons reply_oneBit_right_ok (env_cons reply_oneBit_write_ok (env_cons reply_oneWord_right_ok (env_cons reply_oneWord_write_ok (env_cons reply_count_right_ok (env_cons reply_count_write_ok env_nil)))))))))))) reply_Bytes_t
/-! law22_framed -/
@[reducible] def law22_framed_s : Sh := ⟨[.d (.int .u8), .d (.int .u8), .d (.int .u16), .d (.pr (.int .u8) LDT0)], [], [.int .u8, .int .u8, .int .u16, .pr (.int .u8) LDT0], [.d (.sl (.int .u8)), .d (.bool)], [], 0, [.sl (.int .u8), .bool]⟩
def law22_framed_e : Env := (cts [(38, (⟨reply_Bytes_s, reply_Bytes⟩ : Ct)), (39, (⟨mbap_Pack_s, mbap_Pack⟩ : Ct)), (40, (⟨rtu_Bytes_s, rtu_Bytes⟩ : Ct))])
def law22_framed_h : List (Nat × Hint) := []
def law22_framed_m0 (link : Int) (unit : Int) (tx : Int) (r : Int × Int × List Bool × List Int × Int × Int) : Option (As [.sl (.int .u8), .bool]) :=
  Option.bind (reply_Bytes (r, ())) fun (y : List Int × Int × Unit) => if nei y.snd.fst 0 = true then some ([], false, ()) else if eqi link 2 = true then Option.bind (mbap_Pack ((tx, unit, y.fst), ())) fun (y : List Int × Int × Unit) => some (y.fst, eqi y.snd.fst 0, ()) else Option.bind (rtu_Bytes (unit, y.fst, ())) fun (y : List Int × Int × Unit) => some (y.fst, eqi y.snd.fst 0, ())
def law22_framed (x : As [.int .u8, .int .u8, .int .u16, .pr (.int .u8) LDT0]) : Option (As [.sl (.int .u8), .bool]) := law22_framed_m0 x.1 x.2.1 x.2.2.1 x.2.2.2.1
theorem law22_framed_c0 (J : Orc (As [.sl (.int .u8), .bool])) (x : As [.int .u8, .int .u8, .int .u16, .pr (.int .u8) LDT0]) : rfn Try.prog law22_framed_e 6 18446744073709551616 (Ev.get law22_framed_h) 16 law22_framed_s J x = law22_framed_m0 x.1 x.2.1 x.2.2.1 x.2.2.2.1 := by kernel_rfl
theorem law22_framed_t (x : As [.int .u8, .int .u8, .int .u16, .pr (.int .u8) LDT0]) : evT Try.prog law22_framed_e 6 18446744073709551616 (Ev.get law22_framed_h) 16 law22_framed_s x = law22_framed x := by
  rw [rfn_eq, law22_framed_c0]
  rfl
theorem law22_framed_ok : CtOk Try.prog (fun _ => True) 16 ⟨law22_framed_s, law22_framed⟩ := ct_of_ev (env_cons reply_Bytes_ok (env_cons mbap_Pack_ok (env_cons rtu_Bytes_ok env_nil))) law22_framed_t
/-! low_Spoil -/
@[reducible] def low_Spoil_s : Sh := ⟨[.d (.sl (.int .u8)), .d (.int .i64), .d (.int .u16)], [], [.sl (.int .u8), .int .i64, .int .u16], [.d (.sl (.int .u8)), .d (.bool)], [], 0, [.sl (.int .u8), .bool]⟩
def low_Spoil_e : Env := (cts [])
def low_Spoil_h : List (Nat × Hint) := [(15, ⟨[], [8, 9]⟩), (122, ⟨[], [1, 2, 8, 9, 15, 27, 28, 31, 32, 33, 34, 35]⟩), (15667, ⟨[], [1, 2, 8, 9, 11, 15, 36]⟩)]
def low_Spoil_k1 (at' : Int) (pattern : Int) (any : Bool) (t15 : Int) (out : List Int) : St := { fr := [(1, .d (.int .i64) at'), (2, .d (.int .u16) pattern), (8, .row 0), (9, .d .bool any), (15, .d (.int .i64) t15)], nt := 50, up := [], own := [(0, .row (.int .u8) 5 out)], nx := 1, log := [], ln := 0 }
def low_Spoil_k2 (at' : Int) (pattern : Int) (any : Bool) (i : Int) (t15 : Int) (t36 : Bool) (out : List Int) : St := { fr := [(1, .d (.int .i64) at'), (2, .d (.int .u16) pattern), (8, .row 0), (9, .d .bool any), (11, .d (.int .i64) i), (15, .d (.int .i64) t15), (36, .d .bool t36)], nt := 50, up := [], own := [(0, .row (.int .u8) 5 out)], nx := 1, log := [], ln := 0 }
def low_Spoil_k3 (any : Bool) (out : List Int) : St := { fr := [(8, .row 0), (9, .d .bool any)], nt := 50, up := [], own := [(0, .row (.int .u8) 5 out)], nx := 1, log := [], ln := 0 }
def low_Spoil_m1 (j2 : Int → Int → Bool → Int → Int → Bool → List Int → Option (As [.sl (.int .u8), .bool])) (j3 : Bool → List Int → Option (As [.sl (.int .u8), .bool])) (self1 : Int → Int → Bool → Int → List Int → Option (As [.sl (.int .u8), .bool])) (at' : Int) (pattern : Int) (any : Bool) (t15 : Int) (out : List Int) : Option (As [.sl (.int .u8), .bool]) :=
  if lt t15 16 = true then need (ge t15 0) (if eqi (Sx.band .u16 (Sx.shr .u16 pattern t15) 1) 1 = true then if ge (add .i64 at' t15) 0 = true then j2 at' pattern any (add .i64 at' t15) t15 (lt (add .i64 at' t15) (mul .i64 8 (Int.ofNat (List.length out)))) out else j2 at' pattern any (add .i64 at' t15) t15 false out else j2 at' pattern any (add .i64 at' t15) t15 false out) else j3 any out
def low_Spoil_m2 (self1 : Int → Int → Bool → Int → List Int → Option (As [.sl (.int .u8), .bool])) (at' : Int) (pattern : Int) (any : Bool) (i : Int) (t15 : Int) (t36 : Bool) (out : List Int) : Option (As [.sl (.int .u8), .bool]) :=
  if t36 = true then Option.bind (at? out (quo .i64 i 8)) fun (x : Int) => Option.bind (at? out (quo .i64 i 8)) fun (y : Int) => need (ge (rem i 8) 0) (Option.bind (at? out (quo .i64 i 8)) fun (x : Int) => Option.bind (at? out (quo .i64 i 8)) fun (x : Int) => self1 at' pattern true (add .i64 t15 1) (List.set out (Int.toNat (quo .i64 i 8)) (Sx.bxor .u8 y (Sx.shl .u8 1 (rem i 8))))) else self1 at' pattern any (add .i64 t15 1) out
def low_Spoil_m3 (any : Bool) (out : List Int) : Option (As [.sl (.int .u8), .bool]) :=
  some (out, any, ())
def low_Spoil_m0 (j1 : Int → Int → Bool → Int → List Int → Option (As [.sl (.int .u8), .bool])) (b : List Int) (at' : Int) (pattern : Int) : Option (As [.sl (.int .u8), .bool]) :=
  need (small (0 + List.length b)) (j1 at' pattern false 0 ([] ++ b))
def low_Spoil_K2 (u1 : Int → Int → Bool → Int → List Int → Option (As [.sl (.int .u8), .bool])) (at' : Int) (pattern : Int) (any : Bool) (i : Int) (t15 : Int) (t36 : Bool) (out : List Int) : Option (As [.sl (.int .u8), .bool]) := low_Spoil_m2 u1 at' pattern any i t15 t36 out
def low_Spoil_K3 (any : Bool) (out : List Int) : Option (As [.sl (.int .u8), .bool]) := low_Spoil_m3 any out
def low_Spoil_K1 (at' : Int) (pattern : Int) (any : Bool) (t15 : Int) (out : List Int) : Option (As [.sl (.int .u8), .bool]) :=
  loopF (fun (self : (Int) × (Int) × (Bool) × (Int) × (List Int) → Option (As [.sl (.int .u8), .bool])) (s : (Int) × (Int) × (Bool) × (Int) × (List Int)) => low_Spoil_m1 (low_Spoil_K2 (fun at' pattern any t15 out => self (at', pattern, any, t15, out))) (low_Spoil_K3) (fun at' pattern any t15 out => self (at', pattern, any, t15, out)) s.1 s.2.1 s.2.2.1 s.2.2.2.1 s.2.2.2.2) 18446744073709551616 (at', pattern, any, t15, out)
def low_Spoil (x : As [.sl (.int .u8), .int .i64, .int .u16]) : Option (As [.sl (.int .u8), .bool]) := low_Spoil_m0 low_Spoil_K1 x.1 x.2.1 x.2.2.1
theorem low_Spoil_c2 (J : Orc (As [.sl (.int .u8), .bool])) (w1 : St → Option (As [.sl (.int .u8), .bool])) (at' : Int) (pattern : Int) (any : Bool) (i : Int) (t15 : Int) (t36 : Bool) (out : List Int) : pfn Try.prog low_Spoil_e 6 18446744073709551616 (Ev.get low_Spoil_h) 20 low_Spoil_s J 15667 [w1] (low_Spoil_k2 at' pattern any i t15 t36 out) = low_Spoil_m2 (fun at' pattern any t15 out => w1 (low_Spoil_k1 at' pattern any t15 out)) at' pattern any i t15 t36 out := by kernel_rfl
theorem low_Spoil_c3 (J : Orc (As [.sl (.int .u8), .bool])) (any : Bool) (out : List Int) : pfn Try.prog low_Spoil_e 6 18446744073709551616 (Ev.get low_Spoil_h) 20 low_Spoil_s J 15 [] (low_Spoil_k3 any out) = low_Spoil_m3 any out := by kernel_rfl
theorem low_Spoil_c1 (J : Orc (As [.sl (.int .u8), .bool])) (w1 : St → Option (As [.sl (.int .u8), .bool])) (at' : Int) (pattern : Int) (any : Bool) (t15 : Int) (out : List Int) : pfn Try.prog low_Spoil_e 6 18446744073709551616 (Ev.get low_Spoil_h) 20 low_Spoil_s J 122 [w1] (low_Spoil_k1 at' pattern any t15 out) = low_Spoil_m1 (fun at' pattern any i t15 t36 out => J 15667 [w1] (low_Spoil_k2 at' pattern any i t15 t36 out)) (fun any out => J 15 [] (low_Spoil_k3 any out)) (fun at' pattern any t15 out => w1 (low_Spoil_k1 at' pattern any t15 out)) at' pattern any t15 out := by kernel_rfl
theorem low_Spoil_c0 (J : Orc (As [.sl (.int .u8), .bool])) (x : As [.sl (.int .u8), .int .i64, .int .u16]) : rfn Try.prog low_Spoil_e 6 18446744073709551616 (Ev.get low_Spoil_h) 20 low_Spoil_s J x = low_Spoil_m0 (fun at' pattern any t15 out => J 122 [] (low_Spoil_k1 at' pattern any t15 out)) x.1 x.2.1 x.2.2.1 := by kernel_rfl
theorem low_Spoil_g2 (w1 : St → Option (As [.sl (.int .u8), .bool])) (at' : Int) (pattern : Int) (any : Bool) (i : Int) (t15 : Int) (t36 : Bool) (out : List Int) : jfn Try.prog low_Spoil_e 6 18446744073709551616 (Ev.get low_Spoil_h) 20 low_Spoil_s 15667 [w1] (low_Spoil_k2 at' pattern any i t15 t36 out) = low_Spoil_K2 (fun at' pattern any t15 out => w1 (low_Spoil_k1 at' pattern any t15 out)) at' pattern any i t15 t36 out := by
  rw [pfn_eq (by decide)]
  rw [low_Spoil_c2]
  rfl
theorem low_Spoil_g3 (any : Bool) (out : List Int) : jfn Try.prog low_Spoil_e 6 18446744073709551616 (Ev.get low_Spoil_h) 20 low_Spoil_s 15 [] (low_Spoil_k3 any out) = low_Spoil_K3 any out := by
  rw [pfn_eq (by decide)]
  rw [low_Spoil_c3]
  rfl
theorem low_Spoil_g1 (at' : Int) (pattern : Int) (any : Bool) (t15 : Int) (out : List Int) : jfn Try.prog low_Spoil_e 6 18446744073709551616 (Ev.get low_Spoil_h) 20 low_Spoil_s 122 [] (low_Spoil_k1 at' pattern any t15 out) = low_Spoil_K1 at' pattern any t15 out := by
  rw [pfn_eq (by decide)]
  rw [pfn_loop (by kernel_rfl)]
  refine loopF_sim (σ := (Int) × (Int) × (Bool) × (Int) × (List Int)) (mk := fun s => low_Spoil_k1 s.1 s.2.1 s.2.2.1 s.2.2.2.1 s.2.2.2.2) (fun w1 s => ?_) 18446744073709551616 (at', pattern, any, t15, out)
  have e2 : (fun at' pattern any i t15 t36 out => (jfn Try.prog low_Spoil_e 6 18446744073709551616 (Ev.get low_Spoil_h) 20 low_Spoil_s) 15667 [w1] (low_Spoil_k2 at' pattern any i t15 t36 out)) = low_Spoil_K2 (fun at' pattern any t15 out => w1 (low_Spoil_k1 at' pattern any t15 out)) := funext fun at' => funext fun pattern => funext fun any => funext fun i => funext fun t15 => funext fun t36 => funext fun out => low_Spoil_g2 w1 at' pattern any i t15 t36 out
  have e3 : (fun any out => (jfn Try.prog low_Spoil_e 6 18446744073709551616 (Ev.get low_Spoil_h) 20 low_Spoil_s) 15 [] (low_Spoil_k3 any out)) = low_Spoil_K3 := funext fun any => funext fun out => low_Spoil_g3 any out
  refine (low_Spoil_c1 _ w1 s.1 s.2.1 s.2.2.1 s.2.2.2.1 s.2.2.2.2).trans ?_
  rw [e2, e3]
theorem low_Spoil_t (x : As [.sl (.int .u8), .int .i64, .int .u16]) : evT Try.prog low_Spoil_e 6 18446744073709551616 (Ev.get low_Spoil_h) 20 low_Spoil_s x = low_Spoil x := by
  have e1 : (fun at' pattern any t15 out => (jfn Try.prog low_Spoil_e 6 18446744073709551616 (Ev.get low_Spoil_h) 20 low_Spoil_s) 122 [] (low_Spoil_k1 at' pattern any t15 out)) = low_Spoil_K1 := funext fun at' => funext fun pattern => funext fun any => funext fun t15 => funext fun out => low_Spoil_g1 at' pattern any t15 out
  rw [rfn_eq, low_Spoil_c0, e1]
  rfl
theorem low_Spoil_ok : CtOk Try.prog (fun _ => True) 20 ⟨low_Spoil_s, low_Spoil⟩ := ct_of_ev env_nil low_Spoil_t
/-! law22_PollTakes -/
@[reducible] def law22_PollTakes_s : Sh := ⟨[.d (.int .u8), .d (.int .u8), .d (.int .u8), .d (.pr (.int .u8) LDT3), .d (.pr (.int .u8) LDT0), .d (.int .u8), .d (.int .u16), .d (.int .u16), .d (.int .u16)], [], [.int .u8, .int .u8, .int .u8, .pr (.int .u8) LDT3, .pr (.int .u8) LDT0, .int .u8, .int .u16, .int .u16, .int .u16], [.d (.bool)], [], 0, [.bool]⟩
def law22_PollTakes_e : Env := (cts [(7, (⟨low_Few_s, low_Few⟩ : Ct)), (8, (⟨law22_awake_s, law22_awake⟩ : Ct)), (11, (⟨poll_Same_s, poll_Same⟩ : Ct)), (12, (⟨poll_Send_s, poll_Send⟩ : Ct)), (13, (⟨ask_Right_s, ask_Right⟩ : Ct)), (14, (⟨law22_begun_s, law22_begun⟩ : Ct)), (15, (⟨reply_Right_s, reply_Right⟩ : Ct)), (16, (⟨law22_framed_s, law22_framed⟩ : Ct)), (17, (⟨poll_Take_s, poll_Take⟩ : Ct)), (18, (⟨reply_Fits_s, reply_Fits⟩ : Ct)), (19, (⟨reply_Same_s, reply_Same⟩ : Ct)), (20, (⟨low_Spoil_s, low_Spoil⟩ : Ct))])
def law22_PollTakes_h : List (Nat × Hint) := [(255, ⟨[], [6, 7, 8, 12, 13, 19, 23, 199, 200, 201, 202, 203, 204, 205, 206, 207, 210, 233]⟩), (8189, ⟨[], [234]⟩), (1021, ⟨[], [6, 7, 8, 12, 13, 19, 23, 28, 159, 169, 170, 171, 172, 199, 200, 201, 202, 203, 204, 205, 206, 207, 210, 233]⟩), (8173, ⟨[], [6, 7, 8, 12, 13, 19, 23, 173, 199, 200, 201, 202, 203, 204, 205, 206, 207, 210, 233]⟩), (254, ⟨[], [5, 6, 7, 8, 12, 13, 19, 23, 142, 155, 156, 157, 158, 169, 170, 171, 172, 199, 200, 201, 202, 203, 204, 205, 206, 207, 210, 233]⟩), (14, ⟨[], [5, 6, 7, 8, 12, 13, 19, 20, 77, 80, 110, 111, 114, 115, 116, 117, 118, 121, 122, 123, 124, 125, 126, 127, 128, 129, 130, 131, 134, 135, 136, 137, 138, 139, 140, 141, 155, 156, 157, 158, 169, 170, 171, 172, 199, 200, 201, 202, 203, 204, 205, 206, 207, 210, 233]⟩)]
def law22_PollTakes_k1 (unit : Int) (off : Int) (at' : Int) (pattern : Int) (ok : Bool) (t77 : Bool) (a : Int) (a_2 : Int) (a_3 : Int) (a_4 : Int) (a_5 : List Int) (a_6 : List Bool) (r : Int) (r_2 : Int) (r_3 : List Bool) (r_4 : List Int) (r_5 : Int) (r_6 : Int) (p : Int) (p_2 : Int) (p_3 : Int) (p_4 : Int) (p_5 : Bool) (p_6 : Int) (p_7 : Int) (p_8 : Int) (p_9 : Int) (p_10 : List Int) (p_11 : List Bool) (p_12 : Int) (p_13 : Int) (p_14 : Int) : St := { fr := [(5, .d (.int .u8) unit), (6, .d (.int .u16) off), (7, .d (.int .u16) at'), (8, .d (.int .u16) pattern), (12, .pb 0 0), (13, .pb 1 0), (19, .pb 2 0), (20, .d .bool ok), (77, .d .bool t77)], nt := 236, up := [], own := [(0, .box 26 [.d (.int .u8) a, .d (.int .u16) a_2, .d (.int .u16) a_3, .d (.int .u16) a_4, .d (.sl (.int .u16)) a_5, .d (.sl .bool) a_6]), (1, .box 43 [.d (.int .u8) r, .d (.int .u8) r_2, .d (.sl .bool) r_3, .d (.sl (.int .u16)) r_4, .d (.int .u16) r_5, .d (.int .u16) r_6]), (2, .box 30 [.d (.int .u8) p, .d (.int .u8) p_2, .d (.int .i64) p_3, .d (.int .i64) p_4, .d .bool p_5, .d (.int .u8) p_6, .d (.int .u16) p_7, .d (.int .u16) p_8, .d (.int .u16) p_9, .d (.sl (.int .u16)) p_10, .d (.sl .bool) p_11, .d (.int .u16) p_12, .d (.int .i64) p_13, .d (.int .i64) p_14])], nx := 3, log := [], ln := 0 }
def law22_PollTakes_k2 (unit : Int) (off : Int) (at' : Int) (pattern : Int) (b : List Int) (t142 : Bool) (a : Int) (a_2 : Int) (a_3 : Int) (a_4 : Int) (a_5 : List Int) (a_6 : List Bool) (r : Int) (r_2 : Int) (r_3 : List Bool) (r_4 : List Int) (r_5 : Int) (r_6 : Int) (p : Int) (p_2 : Int) (p_3 : Int) (p_4 : Int) (p_5 : Bool) (p_6 : Int) (p_7 : Int) (p_8 : Int) (p_9 : Int) (p_10 : List Int) (p_11 : List Bool) (p_12 : Int) (p_13 : Int) (p_14 : Int) : St := { fr := [(5, .d (.int .u8) unit), (6, .d (.int .u16) off), (7, .d (.int .u16) at'), (8, .d (.int .u16) pattern), (12, .pb 0 0), (13, .pb 1 0), (19, .pb 2 0), (23, .d (.sl (.int .u8)) b), (142, .d .bool t142)], nt := 236, up := [], own := [(0, .box 26 [.d (.int .u8) a, .d (.int .u16) a_2, .d (.int .u16) a_3, .d (.int .u16) a_4, .d (.sl (.int .u16)) a_5, .d (.sl .bool) a_6]), (1, .box 43 [.d (.int .u8) r, .d (.int .u8) r_2, .d (.sl .bool) r_3, .d (.sl (.int .u16)) r_4, .d (.int .u16) r_5, .d (.int .u16) r_6]), (2, .box 30 [.d (.int .u8) p, .d (.int .u8) p_2, .d (.int .i64) p_3, .d (.int .i64) p_4, .d .bool p_5, .d (.int .u8) p_6, .d (.int .u16) p_7, .d (.int .u16) p_8, .d (.int .u16) p_9, .d (.sl (.int .u16)) p_10, .d (.sl .bool) p_11, .d (.int .u16) p_12, .d (.int .i64) p_13, .d (.int .i64) p_14])], nx := 3, log := [], ln := 0 }
def law22_PollTakes_k3 (off : Int) (at' : Int) (pattern : Int) (b : List Int) (c : List Int) (t159 : Bool) (a : Int) (a_2 : Int) (a_3 : Int) (a_4 : Int) (a_5 : List Int) (a_6 : List Bool) (r : Int) (r_2 : Int) (r_3 : List Bool) (r_4 : List Int) (r_5 : Int) (r_6 : Int) (p : Int) (p_2 : Int) (p_3 : Int) (p_4 : Int) (p_5 : Bool) (p_6 : Int) (p_7 : Int) (p_8 : Int) (p_9 : Int) (p_10 : List Int) (p_11 : List Bool) (p_12 : Int) (p_13 : Int) (p_14 : Int) : St := { fr := [(6, .d (.int .u16) off), (7, .d (.int .u16) at'), (8, .d (.int .u16) pattern), (12, .pb 0 0), (13, .pb 1 0), (19, .pb 2 0), (23, .d (.sl (.int .u8)) b), (28, .d (.sl (.int .u8)) c), (159, .d .bool t159)], nt := 236, up := [], own := [(0, .box 26 [.d (.int .u8) a, .d (.int .u16) a_2, .d (.int .u16) a_3, .d (.int .u16) a_4, .d (.sl (.int .u16)) a_5, .d (.sl .bool) a_6]), (1, .box 43 [.d (.int .u8) r, .d (.int .u8) r_2, .d (.sl .bool) r_3, .d (.sl (.int .u16)) r_4, .d (.int .u16) r_5, .d (.int .u16) r_6]), (2, .box 30 [.d (.int .u8) p, .d (.int .u8) p_2, .d (.int .i64) p_3, .d (.int .i64) p_4, .d .bool p_5, .d (.int .u8) p_6, .d (.int .u16) p_7, .d (.int .u16) p_8, .d (.int .u16) p_9, .d (.sl (.int .u16)) p_10, .d (.sl .bool) p_11, .d (.int .u16) p_12, .d (.int .i64) p_13, .d (.int .i64) p_14])], nx := 3, log := [], ln := 0 }
def law22_PollTakes_k4 (off : Int) (at' : Int) (pattern : Int) (b : List Int) (t173 : Bool) (a : Int) (a_2 : Int) (a_3 : Int) (a_4 : Int) (a_5 : List Int) (a_6 : List Bool) (r : Int) (r_2 : Int) (r_3 : List Bool) (r_4 : List Int) (r_5 : Int) (r_6 : Int) (p : Int) (p_2 : Int) (p_3 : Int) (p_4 : Int) (p_5 : Bool) (p_6 : Int) (p_7 : Int) (p_8 : Int) (p_9 : Int) (p_10 : List Int) (p_11 : List Bool) (p_12 : Int) (p_13 : Int) (p_14 : Int) : St := { fr := [(6, .d (.int .u16) off), (7, .d (.int .u16) at'), (8, .d (.int .u16) pattern), (12, .pb 0 0), (13, .pb 1 0), (19, .pb 2 0), (23, .d (.sl (.int .u8)) b), (173, .d .bool t173)], nt := 236, up := [], own := [(0, .box 26 [.d (.int .u8) a, .d (.int .u16) a_2, .d (.int .u16) a_3, .d (.int .u16) a_4, .d (.sl (.int .u16)) a_5, .d (.sl .bool) a_6]), (1, .box 43 [.d (.int .u8) r, .d (.int .u8) r_2, .d (.sl .bool) r_3, .d (.sl (.int .u16)) r_4, .d (.int .u16) r_5, .d (.int .u16) r_6]), (2, .box 30 [.d (.int .u8) p, .d (.int .u8) p_2, .d (.int .i64) p_3, .d (.int .i64) p_4, .d .bool p_5, .d (.int .u8) p_6, .d (.int .u16) p_7, .d (.int .u16) p_8, .d (.int .u16) p_9, .d (.sl (.int .u16)) p_10, .d (.sl .bool) p_11, .d (.int .u16) p_12, .d (.int .i64) p_13, .d (.int .i64) p_14])], nx := 3, log := [], ln := 0 }
def law22_PollTakes_k5 (off : Int) (at' : Int) (pattern : Int) (b : List Int) (a : Int) (a_2 : Int) (a_3 : Int) (a_4 : Int) (a_5 : List Int) (a_6 : List Bool) (r : Int) (r_2 : Int) (r_3 : List Bool) (r_4 : List Int) (r_5 : Int) (r_6 : Int) (p : Int) (p_2 : Int) (p_3 : Int) (p_4 : Int) (p_5 : Bool) (p_6 : Int) (p_7 : Int) (p_8 : Int) (p_9 : Int) (p_10 : List Int) (p_11 : List Bool) (p_12 : Int) (p_13 : Int) (p_14 : Int) : St := { fr := [(6, .d (.int .u16) off), (7, .d (.int .u16) at'), (8, .d (.int .u16) pattern), (12, .pb 0 0), (13, .pb 1 0), (19, .pb 2 0), (23, .d (.sl (.int .u8)) b)], nt := 236, up := [], own := [(0, .box 26 [.d (.int .u8) a, .d (.int .u16) a_2, .d (.int .u16) a_3, .d (.int .u16) a_4, .d (.sl (.int .u16)) a_5, .d (.sl .bool) a_6]), (1, .box 43 [.d (.int .u8) r, .d (.int .u8) r_2, .d (.sl .bool) r_3, .d (.sl (.int .u16)) r_4, .d (.int .u16) r_5, .d (.int .u16) r_6]), (2, .box 30 [.d (.int .u8) p, .d (.int .u8) p_2, .d (.int .i64) p_3, .d (.int .i64) p_4, .d .bool p_5, .d (.int .u8) p_6, .d (.int .u16) p_7, .d (.int .u16) p_8, .d (.int .u16) p_9, .d (.sl (.int .u16)) p_10, .d (.sl .bool) p_11, .d (.int .u16) p_12, .d (.int .i64) p_13, .d (.int .i64) p_14])], nx := 3, log := [], ln := 0 }
def law22_PollTakes_k6 (t234 : Bool) : St := { fr := [(234, .d .bool t234)], nt := 236, up := [], own := [], nx := 0, log := [], ln := 0 }
def law22_PollTakes_m1 (j2 : Int → Int → Int → Int → List Int → Bool → Int → Int → Int → Int → List Int → List Bool → Int → Int → List Bool → List Int → Int → Int → Int → Int → Int → Int → Bool → Int → Int → Int → Int → List Int → List Bool → Int → Int → Int → Option (As [.bool])) (unit : Int) (off : Int) (at' : Int) (pattern : Int) (ok : Bool) (t77 : Bool) (a : Int) (a_2 : Int) (a_3 : Int) (a_4 : Int) (a_5 : List Int) (a_6 : List Bool) (r : Int) (r_2 : Int) (r_3 : List Bool) (r_4 : List Int) (r_5 : Int) (r_6 : Int) (p : Int) (p_2 : Int) (p_3 : Int) (p_4 : Int) (p_5 : Bool) (p_6 : Int) (p_7 : Int) (p_8 : Int) (p_9 : Int) (p_10 : List Int) (p_11 : List Bool) (p_12 : Int) (p_13 : Int) (p_14 : Int) : Option (As [.bool]) :=
  if t77 = true then if ok = true then Option.bind (law22_awake ()) fun (y : Bool × Unit) => some (y.fst, ()) else some (false, ()) else Option.bind (poll_Send ((p, p_2, p_3, p_4, p_5, (p_6, p_7, p_8, p_9, p_10, p_11), p_12, p_13, p_14), (a, a_2, a_3, a_4, a_5, a_6), ())) fun (y : LDT2 × List Int × Int × Unit) => Option.bind (law22_framed (y.fst.snd.fst, y.fst.fst, y.fst.snd.snd.snd.snd.snd.snd.fst, (r, r_2, r_3, r_4, r_5, r_6), ())) fun (y_1 : List Int × Bool × Unit) => Option.bind (poll_Take (y.fst, y_1.fst, ())) fun (y_2 : LDT2 × (Int × Int × List Bool × List Int × Int × Int) × Bool × Unit) => if nei y.snd.snd.fst 0 = true then j2 unit off at' pattern y_1.fst true a a_2 a_3 a_4 a_5 a_6 r r_2 r_3 r_4 r_5 r_6 y.fst.fst y.fst.snd.fst y.fst.snd.snd.fst y.fst.snd.snd.snd.fst y.fst.snd.snd.snd.snd.fst y.fst.snd.snd.snd.snd.snd.fst.fst y.fst.snd.snd.snd.snd.snd.fst.snd.fst y.fst.snd.snd.snd.snd.snd.fst.snd.snd.fst y.fst.snd.snd.snd.snd.snd.fst.snd.snd.snd.fst y.fst.snd.snd.snd.snd.snd.fst.snd.snd.snd.snd.fst y.fst.snd.snd.snd.snd.snd.fst.snd.snd.snd.snd.snd y.fst.snd.snd.snd.snd.snd.snd.fst y.fst.snd.snd.snd.snd.snd.snd.snd.fst y.fst.snd.snd.snd.snd.snd.snd.snd.snd else if (!y_1.snd.fst) = true then j2 unit off at' pattern y_1.fst true a a_2 a_3 a_4 a_5 a_6 r r_2 r_3 r_4 r_5 r_6 y.fst.fst y.fst.snd.fst y.fst.snd.snd.fst y.fst.snd.snd.snd.fst y.fst.snd.snd.snd.snd.fst y.fst.snd.snd.snd.snd.snd.fst.fst y.fst.snd.snd.snd.snd.snd.fst.snd.fst y.fst.snd.snd.snd.snd.snd.fst.snd.snd.fst y.fst.snd.snd.snd.snd.snd.fst.snd.snd.snd.fst y.fst.snd.snd.snd.snd.snd.fst.snd.snd.snd.snd.fst y.fst.snd.snd.snd.snd.snd.fst.snd.snd.snd.snd.snd y.fst.snd.snd.snd.snd.snd.snd.fst y.fst.snd.snd.snd.snd.snd.snd.snd.fst y.fst.snd.snd.snd.snd.snd.snd.snd.snd else Option.bind (reply_Fits ((a, a_2, a_3, a_4, a_5, a_6), (r, r_2, r_3, r_4, r_5, r_6), ())) fun (y_3 : Bool × Unit) => if Sx.neb y_2.snd.snd.fst y_3.fst = true then j2 unit off at' pattern y_1.fst true a a_2 a_3 a_4 a_5 a_6 r r_2 r_3 r_4 r_5 r_6 y.fst.fst y.fst.snd.fst y.fst.snd.snd.fst y.fst.snd.snd.snd.fst y.fst.snd.snd.snd.snd.fst y.fst.snd.snd.snd.snd.snd.fst.fst y.fst.snd.snd.snd.snd.snd.fst.snd.fst y.fst.snd.snd.snd.snd.snd.fst.snd.snd.fst y.fst.snd.snd.snd.snd.snd.fst.snd.snd.snd.fst y.fst.snd.snd.snd.snd.snd.fst.snd.snd.snd.snd.fst y.fst.snd.snd.snd.snd.snd.fst.snd.snd.snd.snd.snd y.fst.snd.snd.snd.snd.snd.snd.fst y.fst.snd.snd.snd.snd.snd.snd.snd.fst y.fst.snd.snd.snd.snd.snd.snd.snd.snd else if y_2.snd.snd.fst = true then Option.bind (reply_Same (y_2.snd.fst, (r, r_2, r_3, r_4, r_5, r_6), ())) fun (y_4 : Bool × Unit) => if (!y_4.fst) = true then j2 unit off at' pattern y_1.fst true a a_2 a_3 a_4 a_5 a_6 r r_2 r_3 r_4 r_5 r_6 y.fst.fst y.fst.snd.fst y.fst.snd.snd.fst y.fst.snd.snd.snd.fst y.fst.snd.snd.snd.snd.fst y.fst.snd.snd.snd.snd.snd.fst.fst y.fst.snd.snd.snd.snd.snd.fst.snd.fst y.fst.snd.snd.snd.snd.snd.fst.snd.snd.fst y.fst.snd.snd.snd.snd.snd.fst.snd.snd.snd.fst y.fst.snd.snd.snd.snd.snd.fst.snd.snd.snd.snd.fst y.fst.snd.snd.snd.snd.snd.fst.snd.snd.snd.snd.snd y.fst.snd.snd.snd.snd.snd.snd.fst y.fst.snd.snd.snd.snd.snd.snd.snd.fst y.fst.snd.snd.snd.snd.snd.snd.snd.snd else if y_2.fst.snd.snd.snd.snd.fst = true then j2 unit off at' pattern y_1.fst true a a_2 a_3 a_4 a_5 a_6 r r_2 r_3 r_4 r_5 r_6 y.fst.fst y.fst.snd.fst y.fst.snd.snd.fst y.fst.snd.snd.snd.fst y.fst.snd.snd.snd.snd.fst y.fst.snd.snd.snd.snd.snd.fst.fst y.fst.snd.snd.snd.snd.snd.fst.snd.fst y.fst.snd.snd.snd.snd.snd.fst.snd.snd.fst y.fst.snd.snd.snd.snd.snd.fst.snd.snd.snd.fst y.fst.snd.snd.snd.snd.snd.fst.snd.snd.snd.snd.fst y.fst.snd.snd.snd.snd.snd.fst.snd.snd.snd.snd.snd y.fst.snd.snd.snd.snd.snd.snd.fst y.fst.snd.snd.snd.snd.snd.snd.snd.fst y.fst.snd.snd.snd.snd.snd.snd.snd.snd else if (!y_2.snd.snd.fst) = true then Option.bind (poll_Same (y.fst, y_2.fst, ())) fun (y_5 : Bool × Unit) => j2 unit off at' pattern y_1.fst (!y_5.fst) a a_2 a_3 a_4 a_5 a_6 r r_2 r_3 r_4 r_5 r_6 y.fst.fst y.fst.snd.fst y.fst.snd.snd.fst y.fst.snd.snd.snd.fst y.fst.snd.snd.snd.snd.fst y.fst.snd.snd.snd.snd.snd.fst.fst y.fst.snd.snd.snd.snd.snd.fst.snd.fst y.fst.snd.snd.snd.snd.snd.fst.snd.snd.fst y.fst.snd.snd.snd.snd.snd.fst.snd.snd.snd.fst y.fst.snd.snd.snd.snd.snd.fst.snd.snd.snd.snd.fst y.fst.snd.snd.snd.snd.snd.fst.snd.snd.snd.snd.snd y.fst.snd.snd.snd.snd.snd.snd.fst y.fst.snd.snd.snd.snd.snd.snd.snd.fst y.fst.snd.snd.snd.snd.snd.snd.snd.snd else j2 unit off at' pattern y_1.fst false a a_2 a_3 a_4 a_5 a_6 r r_2 r_3 r_4 r_5 r_6 y.fst.fst y.fst.snd.fst y.fst.snd.snd.fst y.fst.snd.snd.snd.fst y.fst.snd.snd.snd.snd.fst y.fst.snd.snd.snd.snd.snd.fst.fst y.fst.snd.snd.snd.snd.snd.fst.snd.fst y.fst.snd.snd.snd.snd.snd.fst.snd.snd.fst y.fst.snd.snd.snd.snd.snd.fst.snd.snd.snd.fst y.fst.snd.snd.snd.snd.snd.fst.snd.snd.snd.snd.fst y.fst.snd.snd.snd.snd.snd.fst.snd.snd.snd.snd.snd y.fst.snd.snd.snd.snd.snd.snd.fst y.fst.snd.snd.snd.snd.snd.snd.snd.fst y.fst.snd.snd.snd.snd.snd.snd.snd.snd else if (!y_2.snd.snd.fst) = true then Option.bind (poll_Same (y.fst, y_2.fst, ())) fun (y_4 : Bool × Unit) => j2 unit off at' pattern y_1.fst (!y_4.fst) a a_2 a_3 a_4 a_5 a_6 r r_2 r_3 r_4 r_5 r_6 y.fst.fst y.fst.snd.fst y.fst.snd.snd.fst y.fst.snd.snd.snd.fst y.fst.snd.snd.snd.snd.fst y.fst.snd.snd.snd.snd.snd.fst.fst y.fst.snd.snd.snd.snd.snd.fst.snd.fst y.fst.snd.snd.snd.snd.snd.fst.snd.snd.fst y.fst.snd.snd.snd.snd.snd.fst.snd.snd.snd.fst y.fst.snd.snd.snd.snd.snd.fst.snd.snd.snd.snd.fst y.fst.snd.snd.snd.snd.snd.fst.snd.snd.snd.snd.snd y.fst.snd.snd.snd.snd.snd.snd.fst y.fst.snd.snd.snd.snd.snd.snd.snd.fst y.fst.snd.snd.snd.snd.snd.snd.snd.snd else j2 unit off at' pattern y_1.fst false a a_2 a_3 a_4 a_5 a_6 r r_2 r_3 r_4 r_5 r_6 y.fst.fst y.fst.snd.fst y.fst.snd.snd.fst y.fst.snd.snd.snd.fst y.fst.snd.snd.snd.snd.fst y.fst.snd.snd.snd.snd.snd.fst.fst y.fst.snd.snd.snd.snd.snd.fst.snd.fst y.fst.snd.snd.snd.snd.snd.fst.snd.snd.fst y.fst.snd.snd.snd.snd.snd.fst.snd.snd.snd.fst y.fst.snd.snd.snd.snd.snd.fst.snd.snd.snd.snd.fst y.fst.snd.snd.snd.snd.snd.fst.snd.snd.snd.snd.snd y.fst.snd.snd.snd.snd.snd.snd.fst y.fst.snd.snd.snd.snd.snd.snd.snd.fst y.fst.snd.snd.snd.snd.snd.snd.snd.snd
def law22_PollTakes_m2 (j3 : Int → Int → Int → List Int → List Int → Bool → Int → Int → Int → Int → List Int → List Bool → Int → Int → List Bool → List Int → Int → Int → Int → Int → Int → Int → Bool → Int → Int → Int → Int → List Int → List Bool → Int → Int → Int → Option (As [.bool])) (unit : Int) (off : Int) (at' : Int) (pattern : Int) (b : List Int) (t142 : Bool) (a : Int) (a_2 : Int) (a_3 : Int) (a_4 : Int) (a_5 : List Int) (a_6 : List Bool) (r : Int) (r_2 : Int) (r_3 : List Bool) (r_4 : List Int) (r_5 : Int) (r_6 : Int) (p : Int) (p_2 : Int) (p_3 : Int) (p_4 : Int) (p_5 : Bool) (p_6 : Int) (p_7 : Int) (p_8 : Int) (p_9 : Int) (p_10 : List Int) (p_11 : List Bool) (p_12 : Int) (p_13 : Int) (p_14 : Int) : Option (As [.bool]) :=
  if t142 = true then some (false, ()) else Option.bind (law22_framed (p_2, unit, p_12, (r, r_2, r_3, r_4, r_5, r_6), ())) fun (y : List Int × Bool × Unit) => if y.snd.fst = true then j3 off at' pattern b y.fst (nei unit p) a a_2 a_3 a_4 a_5 a_6 r r_2 r_3 r_4 r_5 r_6 p p_2 p_3 p_4 p_5 p_6 p_7 p_8 p_9 p_10 p_11 p_12 p_13 p_14 else j3 off at' pattern b y.fst false a a_2 a_3 a_4 a_5 a_6 r r_2 r_3 r_4 r_5 r_6 p p_2 p_3 p_4 p_5 p_6 p_7 p_8 p_9 p_10 p_11 p_12 p_13 p_14
def law22_PollTakes_m3 (j4 : Int → Int → Int → List Int → Bool → Int → Int → Int → Int → List Int → List Bool → Int → Int → List Bool → List Int → Int → Int → Int → Int → Int → Int → Bool → Int → Int → Int → Int → List Int → List Bool → Int → Int → Int → Option (As [.bool])) (j5 : Int → Int → Int → List Int → Int → Int → Int → Int → List Int → List Bool → Int → Int → List Bool → List Int → Int → Int → Int → Int → Int → Int → Bool → Int → Int → Int → Int → List Int → List Bool → Int → Int → Int → Option (As [.bool])) (off : Int) (at' : Int) (pattern : Int) (b : List Int) (c : List Int) (t159 : Bool) (a : Int) (a_2 : Int) (a_3 : Int) (a_4 : Int) (a_5 : List Int) (a_6 : List Bool) (r : Int) (r_2 : Int) (r_3 : List Bool) (r_4 : List Int) (r_5 : Int) (r_6 : Int) (p : Int) (p_2 : Int) (p_3 : Int) (p_4 : Int) (p_5 : Bool) (p_6 : Int) (p_7 : Int) (p_8 : Int) (p_9 : Int) (p_10 : List Int) (p_11 : List Bool) (p_12 : Int) (p_13 : Int) (p_14 : Int) : Option (As [.bool]) :=
  if t159 = true then Option.bind (poll_Take ((p, p_2, p_3, p_4, p_5, (p_6, p_7, p_8, p_9, p_10, p_11), p_12, p_13, p_14), c, ())) fun (y : LDT2 × (Int × Int × List Bool × List Int × Int × Int) × Bool × Unit) => if y.snd.snd.fst = true then j4 off at' pattern b true a a_2 a_3 a_4 a_5 a_6 r r_2 r_3 r_4 r_5 r_6 p p_2 p_3 p_4 p_5 p_6 p_7 p_8 p_9 p_10 p_11 p_12 p_13 p_14 else Option.bind (poll_Same ((p, p_2, p_3, p_4, p_5, (p_6, p_7, p_8, p_9, p_10, p_11), p_12, p_13, p_14), y.fst, ())) fun (y : Bool × Unit) => j4 off at' pattern b (!y.fst) a a_2 a_3 a_4 a_5 a_6 r r_2 r_3 r_4 r_5 r_6 p p_2 p_3 p_4 p_5 p_6 p_7 p_8 p_9 p_10 p_11 p_12 p_13 p_14 else j5 off at' pattern b a a_2 a_3 a_4 a_5 a_6 r r_2 r_3 r_4 r_5 r_6 p p_2 p_3 p_4 p_5 p_6 p_7 p_8 p_9 p_10 p_11 p_12 p_13 p_14
def law22_PollTakes_m4 (j5 : Int → Int → Int → List Int → Int → Int → Int → Int → List Int → List Bool → Int → Int → List Bool → List Int → Int → Int → Int → Int → Int → Int → Bool → Int → Int → Int → Int → List Int → List Bool → Int → Int → Int → Option (As [.bool])) (off : Int) (at' : Int) (pattern : Int) (b : List Int) (t173 : Bool) (a : Int) (a_2 : Int) (a_3 : Int) (a_4 : Int) (a_5 : List Int) (a_6 : List Bool) (r : Int) (r_2 : Int) (r_3 : List Bool) (r_4 : List Int) (r_5 : Int) (r_6 : Int) (p : Int) (p_2 : Int) (p_3 : Int) (p_4 : Int) (p_5 : Bool) (p_6 : Int) (p_7 : Int) (p_8 : Int) (p_9 : Int) (p_10 : List Int) (p_11 : List Bool) (p_12 : Int) (p_13 : Int) (p_14 : Int) : Option (As [.bool]) :=
  if t173 = true then some (false, ()) else j5 off at' pattern b a a_2 a_3 a_4 a_5 a_6 r r_2 r_3 r_4 r_5 r_6 p p_2 p_3 p_4 p_5 p_6 p_7 p_8 p_9 p_10 p_11 p_12 p_13 p_14
def law22_PollTakes_m5 (j6 : Bool → Option (As [.bool])) (off : Int) (at' : Int) (pattern : Int) (b : List Int) (a : Int) (a_2 : Int) (a_3 : Int) (a_4 : Int) (a_5 : List Int) (a_6 : List Bool) (r : Int) (r_2 : Int) (r_3 : List Bool) (r_4 : List Int) (r_5 : Int) (r_6 : Int) (p : Int) (p_2 : Int) (p_3 : Int) (p_4 : Int) (p_5 : Bool) (p_6 : Int) (p_7 : Int) (p_8 : Int) (p_9 : Int) (p_10 : List Int) (p_11 : List Bool) (p_12 : Int) (p_13 : Int) (p_14 : Int) : Option (As [.bool]) :=
  if eqi p_2 2 = true then Option.bind (law22_framed (p_2, p, add .u16 p_12 off, (r, r_2, r_3, r_4, r_5, r_6), ())) fun (y : List Int × Bool × Unit) => Option.bind (poll_Take ((p, p_2, p_3, p_4, p_5, (p_6, p_7, p_8, p_9, p_10, p_11), p_12, p_13, p_14), y.fst, ())) fun (y_1 : LDT2 × (Int × Int × List Bool × List Int × Int × Int) × Bool × Unit) => if y.snd.fst = true then if eqi off 0 = true then Option.bind (reply_Fits ((a, a_2, a_3, a_4, a_5, a_6), (r, r_2, r_3, r_4, r_5, r_6), ())) fun (y : Bool × Unit) => if Sx.eqb y_1.snd.snd.fst y.fst = true then Option.bind (law22_awake ()) fun (y : Bool × Unit) => some (y.fst, ()) else some (false, ()) else if Sx.eqb y_1.snd.snd.fst false = true then Option.bind (law22_awake ()) fun (y : Bool × Unit) => some (y.fst, ()) else some (false, ()) else some (false, ()) else need (nei (mul .i64 8 (Int.ofNat (List.length b))) 0) (Option.bind (low_Spoil (b, rem (cvt .i64 at') (mul .i64 8 (Int.ofNat (List.length b))), pattern, ())) fun (y : List Int × Bool × Unit) => Option.bind (poll_Take ((p, p_2, p_3, p_4, p_5, (p_6, p_7, p_8, p_9, p_10, p_11), p_12, p_13, p_14), y.fst, ())) fun (y_1 : LDT2 × (Int × Int × List Bool × List Int × Int × Int) × Bool × Unit) => if y.snd.fst = true then j6 y_1.snd.snd.fst else j6 false)
def law22_PollTakes_m6 (t234 : Bool) : Option (As [.bool]) :=
  if t234 = true then some (false, ()) else Option.bind (law22_awake ()) fun (y : Bool × Unit) => some (y.fst, ())
def law22_PollTakes_m0 (j1 : Int → Int → Int → Int → Bool → Bool → Int → Int → Int → Int → List Int → List Bool → Int → Int → List Bool → List Int → Int → Int → Int → Int → Int → Int → Bool → Int → Int → Int → Int → List Int → List Bool → Int → Int → Int → Option (As [.bool])) (link : Int) (timeout : Int) (retries : Int) (a : Int × Int × Int × Int × List Int × List Bool) (r : Int × Int × List Bool × List Int × Int × Int) (unit : Int) (off : Int) (at' : Int) (pattern : Int) : Option (As [.bool]) :=
  Option.bind (law22_begun (link, timeout, retries, ())) fun (y : LDT2 × Bool × Unit) => if (!y.snd.fst) = true then j1 unit off at' pattern y.snd.fst true a.fst a.snd.fst a.snd.snd.fst a.snd.snd.snd.fst a.snd.snd.snd.snd.fst a.snd.snd.snd.snd.snd r.fst r.snd.fst r.snd.snd.fst r.snd.snd.snd.fst r.snd.snd.snd.snd.fst r.snd.snd.snd.snd.snd y.fst.fst y.fst.snd.fst y.fst.snd.snd.fst y.fst.snd.snd.snd.fst y.fst.snd.snd.snd.snd.fst y.fst.snd.snd.snd.snd.snd.fst.fst y.fst.snd.snd.snd.snd.snd.fst.snd.fst y.fst.snd.snd.snd.snd.snd.fst.snd.snd.fst y.fst.snd.snd.snd.snd.snd.fst.snd.snd.snd.fst y.fst.snd.snd.snd.snd.snd.fst.snd.snd.snd.snd.fst y.fst.snd.snd.snd.snd.snd.fst.snd.snd.snd.snd.snd y.fst.snd.snd.snd.snd.snd.snd.fst y.fst.snd.snd.snd.snd.snd.snd.snd.fst y.fst.snd.snd.snd.snd.snd.snd.snd.snd else Option.bind (low_Few (a.snd.snd.snd.snd.fst, a.snd.snd.snd.snd.snd, ())) fun (y_1 : Bool × Unit) => if (!y_1.fst) = true then j1 unit off at' pattern y.snd.fst true a.fst a.snd.fst a.snd.snd.fst a.snd.snd.snd.fst a.snd.snd.snd.snd.fst a.snd.snd.snd.snd.snd r.fst r.snd.fst r.snd.snd.fst r.snd.snd.snd.fst r.snd.snd.snd.snd.fst r.snd.snd.snd.snd.snd y.fst.fst y.fst.snd.fst y.fst.snd.snd.fst y.fst.snd.snd.snd.fst y.fst.snd.snd.snd.snd.fst y.fst.snd.snd.snd.snd.snd.fst.fst y.fst.snd.snd.snd.snd.snd.fst.snd.fst y.fst.snd.snd.snd.snd.snd.fst.snd.snd.fst y.fst.snd.snd.snd.snd.snd.fst.snd.snd.snd.fst y.fst.snd.snd.snd.snd.snd.fst.snd.snd.snd.snd.fst y.fst.snd.snd.snd.snd.snd.fst.snd.snd.snd.snd.snd y.fst.snd.snd.snd.snd.snd.snd.fst y.fst.snd.snd.snd.snd.snd.snd.snd.fst y.fst.snd.snd.snd.snd.snd.snd.snd.snd else Option.bind (low_Few (r.snd.snd.snd.fst, r.snd.snd.fst, ())) fun (y_2 : Bool × Unit) => if (!y_2.fst) = true then j1 unit off at' pattern y.snd.fst true a.fst a.snd.fst a.snd.snd.fst a.snd.snd.snd.fst a.snd.snd.snd.snd.fst a.snd.snd.snd.snd.snd r.fst r.snd.fst r.snd.snd.fst r.snd.snd.snd.fst r.snd.snd.snd.snd.fst r.snd.snd.snd.snd.snd y.fst.fst y.fst.snd.fst y.fst.snd.snd.fst y.fst.snd.snd.snd.fst y.fst.snd.snd.snd.snd.fst y.fst.snd.snd.snd.snd.snd.fst.fst y.fst.snd.snd.snd.snd.snd.fst.snd.fst y.fst.snd.snd.snd.snd.snd.fst.snd.snd.fst y.fst.snd.snd.snd.snd.snd.fst.snd.snd.snd.fst y.fst.snd.snd.snd.snd.snd.fst.snd.snd.snd.snd.fst y.fst.snd.snd.snd.snd.snd.fst.snd.snd.snd.snd.snd y.fst.snd.snd.snd.snd.snd.snd.fst y.fst.snd.snd.snd.snd.snd.snd.snd.fst y.fst.snd.snd.snd.snd.snd.snd.snd.snd else Option.bind (ask_Right (a, ())) fun (y_3 : Bool × Unit) => if (!y_3.fst) = true then j1 unit off at' pattern y.snd.fst true a.fst a.snd.fst a.snd.snd.fst a.snd.snd.snd.fst a.snd.snd.snd.snd.fst a.snd.snd.snd.snd.snd r.fst r.snd.fst r.snd.snd.fst r.snd.snd.snd.fst r.snd.snd.snd.snd.fst r.snd.snd.snd.snd.snd y.fst.fst y.fst.snd.fst y.fst.snd.snd.fst y.fst.snd.snd.snd.fst y.fst.snd.snd.snd.snd.fst y.fst.snd.snd.snd.snd.snd.fst.fst y.fst.snd.snd.snd.snd.snd.fst.snd.fst y.fst.snd.snd.snd.snd.snd.fst.snd.snd.fst y.fst.snd.snd.snd.snd.snd.fst.snd.snd.snd.fst y.fst.snd.snd.snd.snd.snd.fst.snd.snd.snd.snd.fst y.fst.snd.snd.snd.snd.snd.fst.snd.snd.snd.snd.snd y.fst.snd.snd.snd.snd.snd.snd.fst y.fst.snd.snd.snd.snd.snd.snd.snd.fst y.fst.snd.snd.snd.snd.snd.snd.snd.snd else Option.bind (reply_Right (r, ())) fun (y_4 : Bool × Unit) => j1 unit off at' pattern y.snd.fst (!y_4.fst) a.fst a.snd.fst a.snd.snd.fst a.snd.snd.snd.fst a.snd.snd.snd.snd.fst a.snd.snd.snd.snd.snd r.fst r.snd.fst r.snd.snd.fst r.snd.snd.snd.fst r.snd.snd.snd.snd.fst r.snd.snd.snd.snd.snd y.fst.fst y.fst.snd.fst y.fst.snd.snd.fst y.fst.snd.snd.snd.fst y.fst.snd.snd.snd.snd.fst y.fst.snd.snd.snd.snd.snd.fst.fst y.fst.snd.snd.snd.snd.snd.fst.snd.fst y.fst.snd.snd.snd.snd.snd.fst.snd.snd.fst y.fst.snd.snd.snd.snd.snd.fst.snd.snd.snd.fst y.fst.snd.snd.snd.snd.snd.fst.snd.snd.snd.snd.fst y.fst.snd.snd.snd.snd.snd.fst.snd.snd.snd.snd.snd y.fst.snd.snd.snd.snd.snd.snd.fst y.fst.snd.snd.snd.snd.snd.snd.snd.fst y.fst.snd.snd.snd.snd.snd.snd.snd.snd
def law22_PollTakes_K6 (t234 : Bool) : Option (As [.bool]) := law22_PollTakes_m6 t234
def law22_PollTakes_K5 (off : Int) (at' : Int) (pattern : Int) (b : List Int) (a : Int) (a_2 : Int) (a_3 : Int) (a_4 : Int) (a_5 : List Int) (a_6 : List Bool) (r : Int) (r_2 : Int) (r_3 : List Bool) (r_4 : List Int) (r_5 : Int) (r_6 : Int) (p : Int) (p_2 : Int) (p_3 : Int) (p_4 : Int) (p_5 : Bool) (p_6 : Int) (p_7 : Int) (p_8 : Int) (p_9 : Int) (p_10 : List Int) (p_11 : List Bool) (p_12 : Int) (p_13 : Int) (p_14 : Int) : Option (As [.bool]) := law22_PollTakes_m5 (law22_PollTakes_K6) off at' pattern b a a_2 a_3 a_4 a_5 a_6 r r_2 r_3 r_4 r_5 r_6 p p_2 p_3 p_4 p_5 p_6 p_7 p_8 p_9 p_10 p_11 p_12 p_13 p_14
def law22_PollTakes_K4 (off : Int) (at' : Int) (pattern : Int) (b : List Int) (t173 : Bool) (a : Int) (a_2 : Int) (a_3 : Int) (a_4 : Int) (a_5 : List Int) (a_6 : List Bool) (r : Int) (r_2 : Int) (r_3 : List Bool) (r_4 : List Int) (r_5 : Int) (r_6 : Int) (p : Int) (p_2 : Int) (p_3 : Int) (p_4 : Int) (p_5 : Bool) (p_6 : Int) (p_7 : Int) (p_8 : Int) (p_9 : Int) (p_10 : List Int) (p_11 : List Bool) (p_12 : Int) (p_13 : Int) (p_14 : Int) : Option (As [.bool]) := law22_PollTakes_m4 (law22_PollTakes_K5) off at' pattern b t173 a a_2 a_3 a_4 a_5 a_6 r r_2 r_3 r_4 r_5 r_6 p p_2 p_3 p_4 p_5 p_6 p_7 p_8 p_9 p_10 p_11 p_12 p_13 p_14
def law22_PollTakes_K3 (off : Int) (at' : Int) (pattern : Int) (b : List Int) (c : List Int) (t159 : Bool) (a : Int) (a_2 : Int) (a_3 : Int) (a_4 : Int) (a_5 : List Int) (a_6 : List Bool) (r : Int) (r_2 : Int) (r_3 : List Bool) (r_4 : List Int) (r_5 : Int) (r_6 : Int) (p : Int) (p_2 : Int) (p_3 : Int) (p_4 : Int) (p_5 : Bool) (p_6 : Int) (p_7 : Int) (p_8 : Int) (p_9 : Int) (p_10 : List Int) (p_11 : List Bool) (p_12 : Int) (p_13 : Int) (p_14 : Int) : Option (As [.bool]) := law22_PollTakes_m3 (law22_PollTakes_K4) (law22_PollTakes_K5) off at' pattern b c t159 a a_2 a_3 a_4 a_5 a_6 r r_2 r_3 r_4 r_5 r_6 p p_2 p_3 p_4 p_5 p_6 p_7 p_8 p_9 p_10 p_11 p_12 p_13 p_14
def law22_PollTakes_K2 (unit : Int) (off : Int) (at' : Int) (pattern : Int) (b : List Int) (t142 : Bool) (a : Int) (a_2 : Int) (a_3 : Int) (a_4 : Int) (a_5 : List Int) (a_6 : List Bool) (r : Int) (r_2 : Int) (r_3 : List Bool) (r_4 : List Int) (r_5 : Int) (r_6 : Int) (p : Int) (p_2 : Int) (p_3 : Int) (p_4 : Int) (p_5 : Bool) (p_6 : Int) (p_7 : Int) (p_8 : Int) (p_9 : Int) (p_10 : List Int) (p_11 : List Bool) (p_12 : Int) (p_13 : Int) (p_14 : Int) : Option (As [.bool]) := law22_PollTakes_m2 (law22_PollTakes_K3) unit off at' pattern b t142 a a_2 a_3 a_4 a_5 a_6 r r_2 r_3 r_4 r_5 r_6 p p_2 p_3 p_4 p_5 p_6 p_7 p_8 p_9 p_10 p_11 p_12 p_13 p_14
def law22_PollTakes_K1 (unit : Int) (off : Int) (at' : Int) (pattern : Int) (ok : Bool) (t77 : Bool) (a : Int) (a_2 : Int) (a_3 : Int) (a_4 : Int) (a_5 : List Int) (a_6 : List Bool) (r : Int) (r_2 : Int) (r_3 : List Bool) (r_4 : List Int) (r_5 : Int) (r_6 : Int) (p : Int) (p_2 : Int) (p_3 : Int) (p_4 : Int) (p_5 : Bool) (p_6 : Int) (p_7 : Int) (p_8 : Int) (p_9 : Int) (p_10 : List Int) (p_11 : List Bool) (p_12 : Int) (p_13 : Int) (p_14 : Int) : Option (As [.bool]) := law22_PollTakes_m1 (law22_PollTakes_K2) unit off at' pattern ok t77 a a_2 a_3 a_4 a_5 a_6 r r_2 r_3 r_4 r_5 r_6 p p_2 p_3 p_4 p_5 p_6 p_7 p_8 p_9 p_10 p_11 p_12 p_13 p_14
def law22_PollTakes (x : As [.int .u8, .int .u8, .int .u8, .pr (.int .u8) LDT3, .pr (.int .u8) LDT0, .int .u8, .int .u16, .int .u16, .int .u16]) : Option (As [.bool]) := law22_PollTakes_m0 law22_PollTakes_K1 x.1 x.2.1 x.2.2.1 x.2.2.2.1 x.2.2.2.2.1 x.2.2.2.2.2.1 x.2.2.2.2.2.2.1 x.2.2.2.2.2.2.2.1 x.2.2.2.2.2.2.2.2.1
theorem law22_PollTakes_c6 (J : Orc (As [.bool])) (t234 : Bool) : pfn Try.prog law22_PollTakes_e 6 18446744073709551616 (Ev.get law22_PollTakes_h) 4 law22_PollTakes_s J 8189 [] (law22_PollTakes_k6 t234) = law22_PollTakes_m6 t234 := by kernel_rfl
theorem law22_PollTakes_c5 (J : Orc (As [.bool])) (off : Int) (at' : Int) (pattern : Int) (b : List Int) (a : Int) (a_2 : Int) (a_3 : Int) (a_4 : Int) (a_5 : List Int) (a_6 : List Bool) (r : Int) (r_2 : Int) (r_3 : List Bool) (r_4 : List Int) (r_5 : Int) (r_6 : Int) (p : Int) (p_2 : Int) (p_3 : Int) (p_4 : Int) (p_5 : Bool) (p_6 : Int) (p_7 : Int) (p_8 : Int) (p_9 : Int) (p_10 : List Int) (p_11 : List Bool) (p_12 : Int) (p_13 : Int) (p_14 : Int) : pfn Try.prog law22_PollTakes_e 6 18446744073709551616 (Ev.get law22_PollTakes_h) 4 law22_PollTakes_s J 255 [] (law22_PollTakes_k5 off at' pattern b a a_2 a_3 a_4 a_5 a_6 r r_2 r_3 r_4 r_5 r_6 p p_2 p_3 p_4 p_5 p_6 p_7 p_8 p_9 p_10 p_11 p_12 p_13 p_14) = law22_PollTakes_m5 (fun t234 => J 8189 [] (law22_PollTakes_k6 t234)) off at' pattern b a a_2 a_3 a_4 a_5 a_6 r r_2 r_3 r_4 r_5 r_6 p p_2 p_3 p_4 p_5 p_6 p_7 p_8 p_9 p_10 p_11 p_12 p_13 p_14 := by kernel_rfl
theorem law22_PollTakes_c4 (J : Orc (As [.bool])) (off : Int) (at' : Int) (pattern : Int) (b : List Int) (t173 : Bool) (a : Int) (a_2 : Int) (a_3 : Int) (a_4 : Int) (a_5 : List Int) (a_6 : List Bool) (r : Int) (r_2 : Int) (r_3 : List Bool) (r_4 : List Int) (r_5 : Int) (r_6 : Int) (p : Int) (p_2 : Int) (p_3 : Int) (p_4 : Int) (p_5 : Bool) (p_6 : Int) (p_7 : Int) (p_8 : Int) (p_9 : Int) (p_10 : List Int) (p_11 : List Bool) (p_12 : Int) (p_13 : Int) (p_14 : Int) : pfn Try.prog law22_PollTakes_e 6 18446744073709551616 (Ev.get law22_PollTakes_h) 4 law22_PollTakes_s J 8173 [] (law22_PollTakes_k4 off at' pattern b t173 a a_2 a_3 a_4 a_5 a_6 r r_2 r_3 r_4 r_5 r_6 p p_2 p_3 p_4 p_5 p_6 p_7 p_8 p_9 p_10 p_11 p_12 p_13 p_14) = law22_PollTakes_m4 (fun off at' pattern b a a_2 a_3 a_4 a_5 a_6 r r_2 r_3 r_4 r_5 r_6 p p_2 p_3 p_4 p_5 p_6 p_7 p_8 p_9 p_10 p_11 p_12 p_13 p_14 => J 255 [] (law22_PollTakes_k5 off at' pattern b a a_2 a_3 a_4 a_5 a_6 r r_2 r_3 r_4 r_5 r_6 p p_2 p_3 p_4 p_5 p_6 p_7 p_8 p_9 p_10 p_11 p_12 p_13 p_14)) off at' pattern b t173 a a_2 a_3 a_4 a_5 a_6 r r_2 r_3 r_4 r_5 r_6 p p_2 p_3 p_4 p_5 p_6 p_7 p_8 p_9 p_10 p_11 p_12 p_13 p_14 := by kernel_rfl
theorem law22_PollTakes_c3 (J : Orc (As [.bool])) (off : Int) (at' : Int) (pattern : Int) (b : List Int) (c : List Int) (t159 : Bool) (a : Int) (a_2 : Int) (a_3 : Int) (a_4 : Int) (a_5 : List Int) (a_6 : List Bool) (r : Int) (r_2 : Int) (r_3 : List Bool) (r_4 : List Int) (r_5 : Int) (r_6 : Int) (p : Int) (p_2 : Int) (p_3 : Int) (p_4 : Int) (p_5 : Bool) (p_6 : Int) (p_7 : Int) (p_8 : Int) (p_9 : Int) (p_10 : List Int) (p_11 : List Bool) (p_12 : Int) (p_13 : Int) (p_14 : Int) : pfn Try.prog law22_PollTakes_e 6 18446744073709551616 (Ev.get law22_PollTakes_h) 4 law22_PollTakes_s J 1021 [] (law22_PollTakes_k3 off at' pattern b c t159 a a_2 a_3 a_4 a_5 a_6 r r_2 r_3 r_4 r_5 r_6 p p_2 p_3 p_4 p_5 p_6 p_7 p_8 p_9 p_10 p_11 p_12 p_13 p_14) = law22_PollTakes_m3 (fun off at' pattern b t173 a a_2 a_3 a_4 a_5 a_6 r r_2 r_3 r_4 r_5 r_6 p p_2 p_3 p_4 p_5 p_6 p_7 p_8 p_9 p_10 p_11 p_12 p_13 p_14 => J 8173 [] (law22_PollTakes_k4 off at' pattern b t173 a a_2 a_3 a_4 a_5 a_6 r r_2 r_3 r_4 r_5 r_6 p p_2 p_3 p_4 p_5 p_6 p_7 p_8 p_9 p_10 p_11 p_12 p_13 p_14)) (fun off at' pattern b a a_2 a_3 a_4 a_5 a_6 r r_2 r_3 r_4 r_5 r_6 p p_2 p_3 p_4 p_5 p_6 p_7 p_8 p_9 p_10 p_11 p_12 p_13 p_14 => J 255 [] (law22_PollTakes_k5 off at' pattern b a a_2 a_3 a_4 a_5 a_6 r r_2 r_3 r_4 r_5 r_6 p p_2 p_3 p_4 p_5 p_6 p_7 p_8 p_9 p_10 p_11 p_12 p_13 p_14)) off at' pattern b c t159 a a_2 a_3 a_4 a_5 a_6 r r_2 r_3 r_4 r_5 r_6 p p_2 p_3 p_4 p_5 p_6 p_7 p_8 p_9 p_10 p_11 p_12 p_13 p_14 := by kernel_rfl
theorem law22_PollTakes_c2 (J : Orc (As [.bool])) (unit : Int) (off : Int) (at' : Int) (pattern : Int) (b : List Int) (t142 : Bool) (a : Int) (a_2 : Int) (a_3 : Int) (a_4 : Int) (a_5 : List Int) (a_6 : List Bool) (r : Int) (r_2 : Int) (r_3 : List Bool) (r_4 : List Int) (r_5 : Int) (r_6 : Int) (p : Int) (p_2 : Int) (p_3 : Int) (p_4 : Int) (p_5 : Bool) (p_6 : Int) (p_7 : Int) (p_8 : Int) (p_9 : Int) (p_10 : List Int) (p_11 : List Bool) (p_12 : Int) (p_13 : Int) (p_14 : Int) : pfn Try.prog law22_PollTakes_e 6 18446744073709551616 (Ev.get law22_PollTakes_h) 4 law22_PollTakes_s J 254 [] (law22_PollTakes_k2 unit off at' pattern b t142 a a_2 a_3 a_4 a_5 a_6 r r_2 r_3 r_4 r_5 r_6 p p_2 p_3 p_4 p_5 p_6 p_7 p_8 p_9 p_10 p_11 p_12 p_13 p_14) = law22_PollTakes_m2 (fun off at' pattern b c t159 a a_2 a_3 a_4 a_5 a_6 r r_2 r_3 r_4 r_5 r_6 p p_2 p_3 p_4 p_5 p_6 p_7 p_8 p_9 p_10 p_11 p_12 p_13 p_14 => J 1021 [] (law22_PollTakes_k3 off at' pattern b c t159 a a_2 a_3 a_4 a_5 a_6 r r_2 r_3 r_4 r_5 r_6 p p_2 p_3 p_4 p_5 p_6 p_7 p_8 p_9 p_10 p_11 p_12 p_13 p_14)) unit off at' pattern b t142 a a_2 a_3 a_4 a_5 a_6 r r_2 r_3 r_4 r_5 r_6 p p_2 p_3 p_4 p_5 p_6 p_7 p_8 p_9 p_10 p_11 p_12 p_13 p_14 := by kernel_rfl
theorem law22_PollTakes_c1 (J : Orc (As [.bool])) (unit : Int) (off : Int) (at' : Int) (pattern : Int) (ok : Bool) (t77 : Bool) (a : Int) (a_2 : Int) (a_3 : Int) (a_4 : Int) (a_5 : List Int) (a_6 : List Bool) (r : Int) (r_2 : Int) (r_3 : List Bool) (r_4 : List Int) (r_5 : Int) (r_6 : Int) (p : Int) (p_2 : Int) (p_3 : Int) (p_4 : Int) (p_5 : Bool) (p_6 : Int) (p_7 : Int) (p_8 : Int) (p_9 : Int) (p_10 : List Int) (p_11 : List Bool) (p_12 : Int) (p_13 : Int) (p_14 : Int) : pfn Try.prog law22_PollTakes_e 6 18446744073709551616 (Ev.get law22_PollTakes_h) 4 law22_PollTakes_s J 14 [] (law22_PollTakes_k1 unit off at' pattern ok t77 a a_2 a_3 a_4 a_5 a_6 r r_2 r_3 r_4 r_5 r_6 p p_2 p_3 p_4 p_5 p_6 p_7 p_8 p_9 p_10 p_11 p_12 p_13 p_14) = law22_PollTakes_m1 (fun unit off at' pattern b t142 a a_2 a_3 a_4 a_5 a_6 r r_2 r_3 r_4 r_5 r_6 p p_2 p_3 p_4 p_5 p_6 p_7 p_8 p_9 p_10 p_11 p_12 p_13 p_14 => J 254 [] (law22_PollTakes_k2 unit off at' pattern b t142 a a_2 a_3 a_4 a_5 a_6 r r_2 r_3 r_4 r_5 r_6 p p_2 p_3 p_4 p_5 p_6 p_7 p_8 p_9 p_10 p_11 p_12 p_13 p_14)) unit off at' pattern ok t77 a a_2 a_3 a_4 a_5 a_6 r r_2 r_3 r_4 r_5 r_6 p p_2 p_3 p_4 p_5 p_6 p_7 p_8 p_9 p_10 p_11 p_12 p_13 p_14 := by kernel_rfl
theorem law22_PollTakes_c0 (J : Orc (As [.bool])) (x : As [.int .u8, .int .u8, .int .u8, .pr (.int .u8) LDT3, .pr (.int .u8) LDT0, .int .u8, .int .u16, .int .u16, .int .u16]) : rfn Try.prog law22_PollTakes_e 6 18446744073709551616 (Ev.get law22_PollTakes_h) 4 law22_PollTakes_s J x = law22_PollTakes_m0 (fun unit off at' pattern ok t77 a a_2 a_3 a_4 a_5 a_6 r r_2 r_3 r_4 r_5 r_6 p p_2 p_3 p_4 p_5 p_6 p_7 p_8 p_9 p_10 p_11 p_12 p_13 p_14 => J 14 [] (law22_PollTakes_k1 unit off at' pattern ok t77 a a_2 a_3 a_4 a_5 a_6 r r_2 r_3 r_4 r_5 r_6 p p_2 p_3 p_4 p_5 p_6 p_7 p_8 p_9 p_10 p_11 p_12 p_13 p_14)) x.1 x.2.1 x.2.2.1 x.2.2.2.1 x.2.2.2.2.1 x.2.2.2.2.2.1 x.2.2.2.2.2.2.1 x.2.2.2.2.2.2.2.1 x.2.2.2.2.2.2.2.2.1 := by kernel_rfl
theorem law22_PollTakes_g6 (t234 : Bool) : jfn Try.prog law22_PollTakes_e 6 18446744073709551616 (Ev.get law22_PollTakes_h) 4 law22_PollTakes_s 8189 [] (law22_PollTakes_k6 t234) = law22_PollTakes_K6 t234 := by
  rw [pfn_eq (by decide)]
  rw [law22_PollTakes_c6]
  rfl
theorem law22_PollTakes_g5 (off : Int) (at' : Int) (pattern : Int) (b : List Int) (a : Int) (a_2 : Int) (a_3 : Int) (a_4 : Int) (a_5 : List Int) (a_6 : List Bool) (r : Int) (r_2 : Int) (r_3 : List Bool) (r_4 : List Int) (r_5 : Int) (r_6 : Int) (p : Int) (p_2 : Int) (p_3 : Int) (p_4 : Int) (p_5 : Bool) (p_6 : Int) (p_7 : Int) (p_8 : Int) (p_9 : Int) (p_10 : List Int) (p_11 : List Bool) (p_12 : Int) (p_13 : Int) (p_14 : Int) : jfn Try.prog law22_PollTakes_e 6 18446744073709551616 (Ev.get law22_PollTakes_h) 4 law22_PollTakes_s 255 [] (law22_PollTakes_k5 off at' pattern b a a_2 a_3 a_4 a_5 a_6 r r_2 r_3 r_4 r_5 r_6 p p_2 p_3 p_4 p_5 p_6 p_7 p_8 p_9 p_10 p_11 p_12 p_13 p_14) = law22_PollTakes_K5 off at' pattern b a a_2 a_3 a_4 a_5 a_6 r r_2 r_3 r_4 r_5 r_6 p p_2 p_3 p_4 p_5 p_6 p_7 p_8 p_9 p_10 p_11 p_12 p_13 p_14 := by
  rw [pfn_eq (by decide)]
  have e6 : (fun t234 => (jfn Try.prog law22_PollTakes_e 6 18446744073709551616 (Ev.get law22_PollTakes_h) 4 law22_PollTakes_s) 8189 [] (law22_PollTakes_k6 t234)) = law22_PollTakes_K6 := funext fun t234 => law22_PollTakes_g6 t234
  rw [law22_PollTakes_c5, e6]
  rfl
theorem law22_PollTakes_g4 (off : Int) (at' : Int) (pattern : Int) (b : List Int) (t173 : Bool) (a : Int) (a_2 : Int) (a_3 : Int) (a_4 : Int) (a_5 : List Int) (a_6 : List Bool) (r : Int) (r_2 : Int) (r_3 : List Bool) (r_4 : List Int) (r_5 : Int) (r_6 : Int) (p : Int) (p_2 : Int) (p_3 : Int) (p_4 : Int) (p_5 : Bool) (p_6 : Int) (p_7 : Int) (p_8 : Int) (p_9 : Int) (p_10 : List Int) (p_11 : List Bool) (p_12 : Int) (p_13 : Int) (p_14 : Int) : jfn Try.prog law22_PollTakes_e 6 18446744073709551616 (Ev.get law22_PollTakes_h) 4 law22_PollTakes_s 8173 [] (law22_PollTakes_k4 off at' pattern b t173 a a_2 a_3 a_4 a_5 a_6 r r_2 r_3 r_4 r_5 r_6 p p_2 p_3 p_4 p_5 p_6 p_7 p_8 p_9 p_10 p_11 p_12 p_13 p_14) = law22_PollTakes_K4 off at' pattern b t173 a a_2 a_3 a_4 a_5 a_6 r r_2 r_3 r_4 r_5 r_6 p p_2 p_3 p_4 p_5 p_6 p_7 p_8 p_9 p_10 p_11 p_12 p_13 p_14 := by
  rw [pfn_eq (by decide)]
  have e5 : (fun off at' pattern b a a_2 a_3 a_4 a_5 a_6 r r_2 r_3 r_4 r_5 r_6 p p_2 p_3 p_4 p_5 p_6 p_7 p_8 p_9 p_10 p_11 p_12 p_13 p_14 => (jfn Try.prog law22_PollTakes_e 6 18446744073709551616 (Ev.get law22_PollTakes_h) 4 law22_PollTakes_s) 255 [] (law22_PollTakes_k5 off at' pattern b a a_2 a_3 a_4 a_5 a_6 r r_2 r_3 r_4 r_5 r_6 p p_2 p_3 p_4 p_5 p_6 p_7 p_8 p_9 p_10 p_11 p_12 p_13 p_14)) = law22_PollTakes_K5 := funext fun off => funext fun at' => funext fun pattern => funext fun b => funext fun a => funext fun a_2 => funext fun a_3 => funext fun a_4 => funext fun a_5 => funext fun a_6 => funext fun r => funext fun r_2 => funext fun r_3 => funext fun r_4 => funext fun r_5 => funext fun r_6 => funext fun p => funext fun p_2 => funext fun p_3 => funext fun p_4 => funext fun p_5 => funext fun p_6 => funext fun p_7 => funext fun p_8 => funext fun p_9 => funext fun p_10 => funext fun p_11 => funext fun p_12 => funext fun p_13 => funext fun p_14 => law22_PollTakes_g5 off at' pattern b a a_2 a_3 a_4 a_5 a_6 r r_2 r_3 r_4 r_5 r_6 p p_2 p_3 p_4 p_5 p_6 p_7 p_8 p_9 p_10 p_11 p_12 p_13 p_14
  rw [law22_PollTakes_c4, e5]
  rfl
theorem law22_PollTakes_g3 (off : Int) (at' : Int) (pattern : Int) (b : List Int) (c : List Int) (t159 : Bool) (a : Int) (a_2 : Int) (a_3 : Int) (a_4 : Int) (a_5 : List Int) (a_6 : List Bool) (r : Int) (r_2 : Int) (r_3 : List Bool) (r_4 : List Int) (r_5 : Int) (r_6 : Int) (p : Int) (p_2 : Int) (p_3 : Int) (p_4 : Int) (p_5 : Bool) (p_6 : Int) (p_7 : Int) (p_8 : Int) (p_9 : Int) (p_10 : List Int) (p_11 : List Bool) (p_12 : Int) (p_13 : Int) (p_14 : Int) : jfn Try.prog law22_PollTakes_e 6 18446744073709551616 (Ev.get law22_PollTakes_h) 4 law22_PollTakes_s 1021 [] (law22_PollTakes_k3 off at' pattern b c t159 a a_2 a_3 a_4 a_5 a_6 r r_2 r_3 r_4 r_5 r_6 p p_2 p_3 p_4 p_5 p_6 p_7 p_8 p_9 p_10 p_11 p_12 p_13 p_14) = law22_PollTakes_K3 off at' pattern b c t159 a a_2 a_3 a_4 a_5 a_6 r r_2 r_3 r_4 r_5 r_6 p p_2 p_3 p_4 p_5 p_6 p_7 p_8 p_9 p_10 p_11 p_12 p_13 p_14 := by
  rw [pfn_eq (by decide)]
  have e4 : (fun off at' pattern b t173 a a_2 a_3 a_4 a_5 a_6 r r_2 r_3 r_4 r_5 r_6 p p_2 p_3 p_4 p_5 p_6 p_7 p_8 p_9 p_10 p_11 p_12 p_13 p_14 => (jfn Try.prog law22_PollTakes_e 6 18446744073709551616 (Ev.get law22_PollTakes_h) 4 law22_PollTakes_s) 8173 [] (law22_PollTakes_k4 off at' pattern b t173 a a_2 a_3 a_4 a_5 a_6 r r_2 r_3 r_4 r_5 r_6 p p_2 p_3 p_4 p_5 p_6 p_7 p_8 p_9 p_10 p_11 p_12 p_13 p_14)) = law22_PollTakes_K4 := funext fun off => funext fun at' => funext fun pattern => funext fun b => funext fun t173 => funext fun a => funext fun a_2 => funext fun a_3 => funext fun a_4 => funext fun a_5 => funext fun a_6 => funext fun r => funext fun r_2 => funext fun r_3 => funext fun r_4 => funext fun r_5 => funext fun r_6 => funext fun p => funext fun p_2 => funext fun p_3 => funext fun p_4 => funext fun p_5 => funext fun p_6 => funext fun p_7 => funext fun p_8 => funext fun p_9 => funext fun p_10 => funext fun p_11 => funext fun p_12 => funext fun p_13 => funext fun p_14 => law22_PollTakes_g4 off at' pattern b t173 a a_2 a_3 a_4 a_5 a_6 r r_2 r_3 r_4 r_5 r_6 p p_2 p_3 p_4 p_5 p_6 p_7 p_8 p_9 p_10 p_11 p_12 p_13 p_14
  have e5 : (fun off at' pattern b a a_2 a_3 a_4 a_5 a_6 r r_2 r_3 r_4 r_5 r_6 p p_2 p_3 p_4 p_5 p_6 p_7 p_8 p_9 p_10 p_11 p_12 p_13 p_14 => (jfn Try.prog law22_PollTakes_e 6 18446744073709551616 (Ev.get law22_PollTakes_h) 4 law22_PollTakes_s) 255 [] (law22_PollTakes_k5 off at' pattern b a a_2 a_3 a_4 a_5 a_6 r r_2 r_3 r_4 r_5 r_6 p p_2 p_3 p_4 p_5 p_6 p_7 p_8 p_9 p_10 p_11 p_12 p_13 p_14)) = law22_PollTakes_K5 := funext fun off => funext fun at' => funext fun pattern => funext fun b => funext fun a => funext fun a_2 => funext fun a_3 => funext fun a_4 => funext fun a_5 => funext fun a_6 => funext fun r => funext fun r_2 => funext fun r_3 => funext fun r_4 => funext fun r_5 => funext fun r_6 => funext fun p => funext fun p_2 => funext fun p_3 => funext fun p_4 => funext fun p_5 => funext fun p_6 => funext fun p_7 => funext fun p_8 => funext fun p_9 => funext fun p_10 => funext fun p_11 => funext fun p_12 => funext fun p_13 => funext fun p_14 => law22_PollTakes_g5 off at' pattern b a a_2 a_3 a_4 a_5 a_6 r r_2 r_3 r_4 r_5 r_6 p p_2 p_3 p_4 p_5 p_6 p_7 p_8 p_9 p_10 p_11 p_12 p_13 p_14
  rw [law22_PollTakes_c3, e4, e5]
  rfl
theorem law22_PollTakes_g2 (unit : Int) (off : Int) (at' : Int) (pattern : Int) (b : List Int) (t142 : Bool) (a : Int) (a_2 : Int) (a_3 : Int) (a_4 : Int) (a_5 : List Int) (a_6 : List Bool) (r : Int) (r_2 : Int) (r_3 : List Bool) (r_4 : List Int) (r_5 : Int) (r_6 : Int) (p : Int) (p_2 : Int) (p_3 : Int) (p_4 : Int) (p_5 : Bool) (p_6 : Int) (p_7 : Int) (p_8 : Int) (p_9 : Int) (p_10 : List Int) (p_11 : List Bool) (p_12 : Int) (p_13 : Int) (p_14 : Int) : jfn Try.prog law22_PollTakes_e 6 18446744073709551616 (Ev.get law22_PollTakes_h) 4 law22_PollTakes_s 254 [] (law22_PollTakes_k2 unit off at' pattern b t142 a a_2 a_3 a_4 a_5 a_6 r r_2 r_3 r_4 r_5 r_6 p p_2 p_3 p_4 p_5 p_6 p_7 p_8 p_9 p_10 p_11 p_12 p_13 p_14) = law22_PollTakes_K2 unit off at' pattern b t142 a a_2 a_3 a_4 a_5 a_6 r r_2 r_3 r_4 r_5 r_6 p p_2 p_3 p_4 p_5 p_6 p_7 p_8 p_9 p_10 p_11 p_12 p_13 p_14 := by
  rw [pfn_eq (by decide)]
  have e3 : (fun off at' pattern b c t159 a a_2 a_3 a_4 a_5 a_6 r r_2 r_3 r_4 r_5 r_6 p p_2 p_3 p_4 p_5 p_6 p_7 p_8 p_9 p_10 p_11 p_12 p_13 p_14 => (jfn Try.prog law22_PollTakes_e 6 18446744073709551616 (Ev.get law22_PollTakes_h) 4 law22_PollTakes_s) 1021 [] (law22_PollTakes_k3 off at' pattern b c t159 a a_2 a_3 a_4 a_5 a_6 r r_2 r_3 r_4 r_5 r_6 p p_2 p_3 p_4 p_5 p_6 p_7 p_8 p_9 p_10 p_11 p_12 p_13 p_14)) = law22_PollTakes_K3 := funext fun off => funext fun at' => funext fun pattern => funext fun b => funext fun c => funext fun t159 => funext fun a => funext fun a_2 => funext fun a_3 => funext fun a_4 => funext fun a_5 => funext fun a_6 => funext fun r => funext fun r_2 => funext fun r_3 => funext fun r_4 => funext fun r_5 => funext fun r_6 => funext fun p => funext fun p_2 => funext fun p_3 => funext fun p_4 => funext fun p_5 => funext fun p_6 => funext fun p_7 => funext fun p_8 => funext fun p_9 => funext fun p_10 => funext fun p_11 => funext fun p_12 => funext fun p_13 => funext fun p_14 => law22_PollTakes_g3 off at' pattern b c t159 a a_2 a_3 a_4 a_5 a_6 r r_2 r_3 r_4 r_5 r_6 p p_2 p_3 p_4 p_5 p_6 p_7 p_8 p_9 p_10 p_11 p_12 p_13 p_14
  rw [law22_PollTakes_c2, e3]
  rfl
theorem law22_PollTakes_g1 (unit : Int) (off : Int) (at' : Int) (pattern : Int) (ok : Bool) (t77 : Bool) (a : Int) (a_2 : Int) (a_3 : Int) (a_4 : Int) (a_5 : List Int) (a_6 : List Bool) (r : Int) (r_2 : Int) (r_3 : List Bool) (r_4 : List Int) (r_5 : Int) (r_6 : Int) (p : Int) (p_2 : Int) (p_3 : Int) (p_4 : Int) (p_5 : Bool) (p_6 : Int) (p_7 : Int) (p_8 : Int) (p_9 : Int) (p_10 : List Int) (p_11 : List Bool) (p_12 : Int) (p_13 : Int) (p_14 : Int) : jfn Try.prog law22_PollTakes_e 6 18446744073709551616 (Ev.get law22_PollTakes_h) 4 law22_PollTakes_s 14 [] (law22_PollTakes_k1 unit off at' pattern ok t77 a a_2 a_3 a_4 a_5 a_6 r r_2 r_3 r_4 r_5 r_6 p p_2 p_3 p_4 p_5 p_6 p_7 p_8 p_9 p_10 p_11 p_12 p_13 p_14) = law22_PollTakes_K1 unit off at' pattern ok t77 a a_2 a_3 a_4 a_5 a_6 r r_2 r_3 r_4 r_5 r_6 p p_2 p_3 p_4 p_5 p_6 p_7 p_8 p_9 p_10 p_11 p_12 p_13 p_14 := by
  rw [pfn_eq (by decide)]
  have e2 : (fun unit off at' pattern b t142 a a_2 a_3 a_4 a_5 a_6 r r_2 r_3 r_4 r_5 r_6 p p_2 p_3 p_4 p_5 p_6 p_7 p_8 p_9 p_10 p_11 p_12 p_13 p_14 => (jfn Try.prog law22_PollTakes_e 6 18446744073709551616 (Ev.get law22_PollTakes_h) 4 law22_PollTakes_s) 254 [] (law22_PollTakes_k2 unit off at' pattern b t142 a a_2 a_3 a_4 a_5 a_6 r r_2 r_3 r_4 r_5 r_6 p p_2 p_3 p_4 p_5 p_6 p_7 p_8 p_9 p_10 p_11 p_12 p_13 p_14)) = law22_PollTakes_K2 := funext fun unit => funext fun off => funext fun at' => funext fun pattern => funext fun b => funext fun t142 => funext fun a => funext fun a_2 => funext fun a_3 => funext fun a_4 => funext fun a_5 => funext fun a_6 => funext fun r => funext fun r_2 => funext fun r_3 => funext fun r_4 => funext fun r_5 => funext fun r_6 => funext fun p => funext fun p_2 => funext fun p_3 => funext fun p_4 => funext fun p_5 => funext fun p_6 => funext fun p_7 => funext fun p_8 => funext fun p_9 => funext fun p_10 => funext fun p_11 => funext fun p_12 => funext fun p_13 => funext fun p_14 => law22_PollTakes_g2 unit off at' pattern b t142 a a_2 a_3 a_4 a_5 a_6 r r_2 r_3 r_4 r_5 r_6 p p_2 p_3 p_4 p_5 p_6 p_7 p_8 p_9 p_10 p_11 p_12 p_13 p_14
  rw [law22_PollTakes_c1, e2]
  rfl
theorem law22_PollTakes_t (x : As [.int .u8, .int .u8, .int .u8, .pr (.int .u8) LDT3, .pr (.int .u8) LDT0, .int .u8, .int .u16, .int .u16, .int .u16]) : evT Try.prog law22_PollTakes_e 6 18446744073709551616 (Ev.get law22_PollTakes_h) 4 law22_PollTakes_s x = law22_PollTakes x := by
  have e1 : (fun unit off at' pattern ok t77 a a_2 a_3 a_4 a_5 a_6 r r_2 r_3 r_4 r_5 r_6 p p_2 p_3 p_4 p_5 p_6 p_7 p_8 p_9 p_10 p_11 p_12 p_13 p_14 => (jfn Try.prog law22_PollTakes_e 6 18446744073709551616 (Ev.get law22_PollTakes_h) 4 law22_PollTakes_s) 14 [] (law22_PollTakes_k1 unit off at' pattern ok t77 a a_2 a_3 a_4 a_5 a_6 r r_2 r_3 r_4 r_5 r_6 p p_2 p_3 p_4 p_5 p_6 p_7 p_8 p_9 p_10 p_11 p_12 p_13 p_14)) = law22_PollTakes_K1 := funext fun unit => funext fun off => funext fun at' => funext fun pattern => funext fun ok => funext fun t77 => funext fun a => funext fun a_2 => funext fun a_3 => funext fun a_4 => funext fun a_5 => funext fun a_6 => funext fun r => funext fun r_2 => funext fun r_3 => funext fun r_4 => funext fun r_5 => funext fun r_6 => funext fun p => funext fun p_2 => funext fun p_3 => funext fun p_4 => funext fun p_5 => funext fun p_6 => funext fun p_7 => funext fun p_8 => funext fun p_9 => funext fun p_10 => funext fun p_11 => funext fun p_12 => funext fun p_13 => funext fun p_14 => law22_PollTakes_g1 unit off at' pattern ok t77 a a_2 a_3 a_4 a_5 a_6 r r_2 r_3 r_4 r_5 r_6 p p_2 p_3 p_4 p_5 p_6 p_7 p_8 p_9 p_10 p_11 p_12 p_13 p_14
  rw [rfn_eq, law22_PollTakes_c0, e1]
  rfl
theorem law22_PollTakes_ok : CtOk Try.prog (fun _ => True) 4 ⟨law22_PollTakes_s, law22_PollTakes⟩ := ct_of_ev (env_cons low_Few_ok (env_cons law22_awake_ok (env_cons poll_Same_ok (env_cons poll_Send_ok (env_cons ask_Right_ok (env_cons law22_begun_ok (env_cons reply_Right_ok (env_cons law22_framed_ok (env_cons poll_Take_ok (env_cons reply_Fits_ok (env_cons reply_Same_ok (env_cons low_Spoil_ok env_nil)))))))))))) law22_PollTakes_t
end Go.Proofs.Lx

end

section
/- Plain laws: a kit of lemmas about what the models are made of. -/
namespace Pl
open Go Ev Sx
set_option maxRecDepth 10000

/-! ### loops -/
theorem loopF_succ {σ R : Type} (F : (σ → Option R) → σ → Option R) (n : Nat) (s : σ) : loopF F (n + 1) s = F (loopF F n) s := rfl
/-- a loop is G, where each step is, if the next ones are -/
theorem loopF_eq {σ R : Type} {F : (σ → Option R) → σ → Option R} {Inv : σ → Prop} {μ : σ → Nat} {G : σ → Option R}
    (step : ∀ self s, Inv s → (∀ s', Inv s' → μ s' < μ s → self s' = G s') → F self s = G s) : ∀ (n : Nat) (s : σ), Inv s → μ s < n → loopF F n s = G s
  | 0, s, _, h => by omega
  | n + 1, s, hs, h => by
    rw [loopF_succ]
    exact step _ s hs fun s' hs' hlt => loopF_eq step n s' hs' (by omega)
/-! ### numbers -/
theorem w64 {x : Int} (h1 : -9223372036854775808 ≤ x) (h2 : x ≤ 9223372036854775807) : IntKind.i64.wrap x = x := by
  simp only [IntKind.wrap, IntKind.signed, IntKind.bits]
  simp
  omega
theorem wu8 {x : Int} (h1 : 0 ≤ x) (h2 : x ≤ 255) : IntKind.u8.wrap x = x := by
  simp only [IntKind.wrap, IntKind.signed, IntKind.bits]
  simp
  omega
theorem wu16 {x : Int} (h1 : 0 ≤ x) (h2 : x ≤ 65535) : IntKind.u16.wrap x = x := by
  simp only [IntKind.wrap, IntKind.signed, IntKind.bits]
  simp
  omega
theorem wu32 {x : Int} (h1 : 0 ≤ x) (h2 : x ≤ 4294967295) : IntKind.u32.wrap x = x := by
  simp only [IntKind.wrap, IntKind.signed, IntKind.bits]
  simp
  omega
theorem wu64 {x : Int} (h1 : 0 ≤ x) (h2 : x ≤ 18446744073709551615) : IntKind.u64.wrap x = x := by
  simp only [IntKind.wrap, IntKind.signed, IntKind.bits]
  simp
  omega
theorem add64 {a b : Int} (h1 : -9223372036854775808 ≤ a + b) (h2 : a + b ≤ 9223372036854775807) : add .i64 a b = a + b := w64 h1 h2
theorem sub64 {a b : Int} (h1 : -9223372036854775808 ≤ a - b) (h2 : a - b ≤ 9223372036854775807) : sub .i64 a b = a - b := w64 h1 h2
theorem mul64 {a b : Int} (h1 : -9223372036854775808 ≤ a * b) (h2 : a * b ≤ 9223372036854775807) : mul .i64 a b = a * b := w64 h1 h2
theorem neg64 {a : Int} (h1 : -9223372036854775808 ≤ -a) (h2 : -a ≤ 9223372036854775807) : neg .i64 a = -a := w64 h1 h2
theorem cvt64 {a : Int} (h1 : -9223372036854775808 ≤ a) (h2 : a ≤ 9223372036854775807) : cvt .i64 a = a := w64 h1 h2
theorem succ64 {n : Nat} (h : n < 4611686018427387904) : add .i64 (n : Int) 1 = ((n + 1 : Nat) : Int) := by rw [add64 (by omega) (by omega)]; rfl
theorem addn64 {n m : Nat} (h : n + m < 4611686018427387904) : add .i64 (n : Int) (m : Int) = ((n + m : Nat) : Int) := by rw [add64 (by omega) (by omega)]; rfl
theorem ofNat_eq (n : Nat) : Int.ofNat n = (n : Int) := rfl
theorem lt_iff {a b : Int} : lt a b = true ↔ a < b := by simp [lt]
theorem le_iff {a b : Int} : le a b = true ↔ a ≤ b := by simp [le]
theorem gt_iff {a b : Int} : gt a b = true ↔ b < a := by simp [gt]
theorem ge_iff {a b : Int} : ge a b = true ↔ b ≤ a := by simp [ge]
theorem eqi_iff {a b : Int} : eqi a b = true ↔ a = b := by simp [eqi]
theorem nei_iff {a b : Int} : nei a b = true ↔ a ≠ b := by simp [nei]
theorem eqs_iff {a b : List UInt8} : eqs a b = true ↔ a = b := by simp [eqs]
theorem nes_iff {a b : List UInt8} : nes a b = true ↔ a ≠ b := by simp [nes]
theorem small_iff {n : Nat} : small n = true ↔ n ≤ 1073741824 := by simp [small]
theorem lt_dec (a b : Int) : lt a b = decide (a < b) := rfl
theorem le_dec (a b : Int) : le a b = decide (a ≤ b) := rfl
theorem gt_dec (a b : Int) : gt a b = decide (b < a) := rfl
theorem ge_dec (a b : Int) : ge a b = decide (b ≤ a) := rfl
theorem need_t {b : Bool} {β : Type} {k : Option β} (h : b = true) : need b k = k := by unfold need; rw [if_pos h]
theorem need_small {n : Nat} {β : Type} {k : Option β} (h : n ≤ 1073741824) : need (small n) k = k := need_t (small_iff.2 h)
/-! ### rows -/
theorem at_get {α : Type} {s : List α} {i : Nat} {c : α} (h : s[i]? = some c) : at? s (i : Int) = some c := by
  unfold at?
  simp [h]
theorem at_zero {α : Type} (c : α) (q : List α) : at? (c :: q) 0 = some c := rfl
theorem at_drop {α : Type} {s : List α} {i : Nat} {c : α} {r : List α} (h : s.drop i = c :: r) : at? s (i : Int) = some c := by
  apply at_get
  have := congrArg (·[0]?) h
  simpa using this
theorem at_app {α : Type} (p : List α) (c : α) (q : List α) : at? (p ++ c :: q) (p.length : Int) = some c := at_get (by simp)
theorem at_none {α : Type} {s : List α} {i : Int} (h : i < 0 ∨ (s.length : Int) ≤ i) : at? s i = none := by
  unfold at?
  split
  · simp; omega
  · rfl
theorem drop_succ {α : Type} {s : List α} {i : Nat} {c : α} {r : List α} (h : s.drop i = c :: r) : s.drop (i + 1) = r ∧ i < s.length ∧ s.length - i = r.length + 1 := by
  have hl := congrArg List.length h
  simp at hl
  refine ⟨?_, by omega, by omega⟩
  rw [← List.drop_drop, h]
  rfl
theorem drop_nil {α : Type} {s : List α} {i : Nat} (h : s.drop i = []) : s.length ≤ i := by
  have := congrArg List.length h
  simp at this
  omega
theorem cut_nat {α : Type} {xs : List α} {i j : Nat} (h1 : i ≤ j) (h2 : j ≤ xs.length) : cut xs (i : Int) (j : Int) = some ((xs.take j).drop i) := by
  unfold cut
  rw [if_pos ⟨by omega, by omega, by omega⟩]
  simp
theorem cut_from {α : Type} {xs : List α} {i : Nat} (h : i ≤ xs.length) : cut xs (i : Int) (Int.ofNat xs.length) = some (xs.drop i) := by
  rw [ofNat_eq, cut_nat h (Nat.le_refl _)]
  simp
theorem cut_to {α : Type} {xs : List α} {j : Nat} (h : j ≤ xs.length) : cut xs 0 (j : Int) = some (xs.take j) := by
  have := cut_nat (xs := xs) (Nat.zero_le j) h
  simpa using this
theorem cut_one {α : Type} (c : α) (q : List α) : cut (c :: q) 1 (Int.ofNat (c :: q).length) = some q := by
  have := cut_from (xs := c :: q) (i := 1) (by simp)
  simpa using this
theorem cut_app0 {α : Type} (p q : List α) : cut (p ++ q) 0 (p.length : Int) = some p := by rw [cut_to (by simp)]; simp
theorem cut_app1 {α : Type} (p q : List α) : cut (p ++ q) (p.length : Int) (Int.ofNat (p ++ q).length) = some q := by rw [cut_from (by simp)]; simp
/-- a byte's place -/
theorem index_no (c : UInt8) : ∀ s : List UInt8, c ∉ s → Go.Lib.indexByte s c = -1
  | [], _ => rfl
  | b :: q, h => by
    have hb : (b == c) = false := by
      rw [beq_eq_false_iff_ne]
      exact fun e => h (by simp [e])
    have ih := index_no c q (fun hx => h (List.mem_cons_of_mem _ hx))
    unfold Go.Lib.indexByte
    rw [hb, ih]
    rfl
theorem index_yes (c : UInt8) : ∀ (p q : List UInt8), c ∉ p → Go.Lib.indexByte (p ++ c :: q) c = (p.length : Int)
  | [], q, _ => by unfold Go.Lib.indexByte; simp
  | b :: p, q, h => by
    have hb : (b == c) = false := by
      rw [beq_eq_false_iff_ne]
      exact fun e => h (by simp [e])
    have ih := index_yes c p q (fun hx => h (List.mem_cons_of_mem _ hx))
    show Go.Lib.indexByte (b :: (p ++ c :: q)) c = _
    unfold Go.Lib.indexByte
    rw [hb, ih]
    have : ((p.length : Int) == -1) = false := by simp
    rw [this]
    simp
/-- a text up to a byte, and behind it -/
theorem split_at (c : UInt8) (s : List UInt8) : (c ∉ s) ∨ ∃ p q, s = p ++ c :: q ∧ c ∉ p := by
  induction s with
  | nil => exact .inl (by simp)
  | cons b r ih =>
    by_cases hb : b = c
    · exact .inr ⟨[], r, by simp [hb], by simp⟩
    · rcases ih with h | ⟨p, q, h1, h2⟩
      · exact .inl (by simp; exact ⟨fun e => hb e.symm, h⟩)
      · exact .inr ⟨b :: p, q, by simp [h1], by simp; exact ⟨fun e => hb e.symm, h2⟩⟩
/-! ### bytes -/
theorem all8 {p : Nat → Bool} (h : (List.range 256).all p = true) (c : UInt8) : p c.toNat = true := List.all_eq_true.1 h _ (List.mem_range.2 c.toNat_lt)
theorem eqV_refl : ∀ (t : Ty) (x : Vl t), eqV t x x = true := by
  have hl : ∀ {α : Type} {f : α → α → Bool}, (∀ a, f a a = true) → ∀ x : List α, eqL f x x = true := fun h x => by
    induction x with
    | nil => rfl
    | cons a q ih => simp [eqL, h, ih]
  intro t
  induction t with
  | int k => intro x; simp [eqV, eqi]
  | bool => intro x; simp [eqV, eqb]
  | str => intro x; simp [eqV, eqs]
  | sl t ih => intro x; exact hl ih x
  | pr a b iha ihb => intro x; simp [eqV, iha, ihb]
  | wr a ih => intro x; exact ih x
  | un => intro x; rfl
  | ar n t ih => intro x; exact hl ih x
theorem eqAs_refl : ∀ (rs : List Ty) (x : As rs), eqAs rs x x = true
  | [], _ => rfl
  | t :: r, x => by simp [eqAs, eqV_refl, eqAs_refl r]
theorem amb2 {R : Type} {eq : R → R → Bool} (h : ∀ x, eq x x = true) (a : Option R) : amb eq [a, a] = a := by
  cases a <;> simp [amb, ambC, h]
theorem amb3 {R : Type} {eq : R → R → Bool} (h : ∀ x, eq x x = true) (a : Option R) : amb eq [a, a, a] = a := by
  cases a <;> simp [amb, ambC, h]
end Pl

end

section
/- Plain laws: rows walked by loops, numbers of 8 and 16 bits. -/
namespace Pl
open Go Ev Sx
/-! ### loops over rows -/
/-- a loop over a row that gathers something -/
theorem loop_idx {σ R α β : Type} {F : (σ → Option R) → σ → Option R} {mk : Nat → β → σ} {xs : List α} {stp : β → α → β} {fin : β → Option R} (Inv : Nat → β → Prop)
    (hs : ∀ self i acc x, xs[i]? = some x → Inv i acc → F self (mk i acc) = self (mk (i + 1) (stp acc x)))
    (hi : ∀ i acc x, xs[i]? = some x → Inv i acc → Inv (i + 1) (stp acc x))
    (he : ∀ self acc, Inv xs.length acc → F self (mk xs.length acc) = fin acc) :
    ∀ (k i : Nat) (acc : β) (n : Nat), i + k = xs.length → k < n → Inv i acc → loopF F n (mk i acc) = fin ((xs.drop i).foldl stp acc)
  | _, _, _, 0, _, hn, _ => by omega
  | 0, i, acc, n + 1, h, _, hI => by
    have : i = xs.length := by omega
    subst this
    rw [loopF_succ, he _ _ hI, List.drop_length]
    rfl
  | k + 1, i, acc, n + 1, h, hn, hI => by
    have hx : xs[i]? = some (xs[i]'(by omega)) := List.getElem?_eq_getElem (by omega)
    rw [loopF_succ, hs _ _ _ _ hx hI, loop_idx Inv hs hi he k (i + 1) _ n (by omega) (by omega) (hi _ _ _ hx hI), List.drop_eq_getElem_cons (show i < xs.length by omega)]
    rfl
/-- what such a loop is, if it may end early -/
def goL {α β R : Type} (body : β → α → (β → Option R) → Option R) (fin : β → Option R) : List α → β → Option R
  | [], acc => fin acc
  | x :: r, acc => body acc x (goL body fin r)
theorem loop_go {σ R α β : Type} {F : (σ → Option R) → σ → Option R} {mk : Nat → β → σ} {xs : List α} {body : β → α → (β → Option R) → Option R} {fin : β → Option R}
    (hs : ∀ self i acc x, xs[i]? = some x → F self (mk i acc) = body acc x fun a => self (mk (i + 1) a))
    (he : ∀ self acc, F self (mk xs.length acc) = fin acc) :
    ∀ (k i : Nat) (acc : β) (n : Nat), i + k = xs.length → k < n → loopF F n (mk i acc) = goL body fin (xs.drop i) acc
  | _, _, _, 0, _, hn => by omega
  | 0, i, acc, n + 1, h, _ => by
    have : i = xs.length := by omega
    subst this
    rw [loopF_succ, he, List.drop_length]
    rfl
  | k + 1, i, acc, n + 1, h, hn => by
    have hx : xs[i]? = some (xs[i]'(by omega)) := List.getElem?_eq_getElem (by omega)
    rw [loopF_succ, hs _ _ _ _ hx, List.drop_eq_getElem_cons (show i < xs.length by omega)]
    show _ = body acc _ (goL body fin (xs.drop (i + 1)))
    congr 1
    funext a
    exact loop_go hs he k (i + 1) a n (by omega) (by omega)
theorem foldl_app {α β : Type} (f : α → List β) : ∀ (xs : List α) (out : List β), xs.foldl (fun o x => o ++ f x) out = out ++ xs.flatMap f
  | [], out => by simp
  | x :: r, out => by simp [foldl_app f r]
/-! ### numbers of 8 and 16 bits -/
theorem wr8 (x : Int) : IntKind.u8.wrap x = x % 256 := by
  simp only [IntKind.wrap, IntKind.signed, IntKind.bits]
  simp
theorem wr16 (x : Int) : IntKind.u16.wrap x = x % 65536 := by
  simp only [IntKind.wrap, IntKind.signed, IntKind.bits]
  simp
theorem cvt8 (x : Int) : cvt .u8 x = x % 256 := wr8 x
theorem cvt16 (x : Int) : cvt .u16 x = x % 65536 := wr16 x
theorem shr8 (k : IntKind) (x : Int) (hk : 8 ≤ k.bits) : shr k x 8 = x / 256 := by
  unfold shr
  have : min (8 : Int).toNat k.bits = 8 := by
    have : (8 : Int).toNat = 8 := rfl
    omega
  rw [this, Int.fdiv_eq_ediv_of_nonneg _ (by decide)]
  rfl
theorem shr4 (k : IntKind) (x : Int) (hk : 8 ≤ k.bits) : shr k x 4 = x / 16 := by
  unfold shr
  have : min (4 : Int).toNat k.bits = 4 := by
    have : (4 : Int).toNat = 4 := rfl
    omega
  rw [this, Int.fdiv_eq_ediv_of_nonneg _ (by decide)]
  rfl
theorem u16_rng (x : Int) : 0 ≤ IntKind.u16.wrap x ∧ IntKind.u16.wrap x < 65536 := by rw [wr16]; omega
theorem band15 (x : Int) : 0 ≤ band .u16 x 15 ∧ band .u16 x 15 < 16 := by
  have h : (BitVec.ofInt IntKind.u16.bits x &&& BitVec.ofInt IntKind.u16.bits 15).toNat ≤ 15 := by
    rw [BitVec.toNat_and]
    exact Nat.le_trans Nat.and_le_right (by decide)
  unfold band
  rw [wr16]
  omega
end Pl

end

section
/- The check sum, as a plain function. -/
namespace Go.Proofs.Lx
open Go Ev Sx Pl
set_option maxRecDepth 100000
def crcT : List Int := [0, 52225, 55297, 5120, 61441, 15360, 10240, 58369, 40961, 27648, 30720, 46081, 20480, 39937, 34817, 17408]
theorem table_eq : crc_table () = some (crcT, ()) := by kernel_rfl
def tab (i : Int) : Int := crcT.getD i.toNat 0
theorem tab_at {i : Int} (h0 : 0 ≤ i) (h1 : i < 16) : at? crcT i = some (tab i) := by
  obtain ⟨n, rfl⟩ := Int.eq_ofNat_of_zero_le h0
  have : n < crcT.length := by show n < 16; omega
  have e : crcT[n]? = some (crcT[n]'this) := List.getElem?_eq_getElem this
  rw [at_get e]
  unfold tab
  rw [Int.toNat_natCast, List.getD_eq_getElem?_getD, e]
  rfl
def nib (s : Int) : Int := bxor .u16 (shr .u16 s 4) (tab (band .u16 s 15))
def stepV (s c : Int) : Int := nib (nib (bxor .u16 s (cvt .u16 c)))
theorem stepV_rng (s c : Int) : 0 ≤ stepV s c ∧ stepV s c < 65536 := u16_rng _
theorem step_eq (s c : Int) : crc_step (s, c, crcT, ()) = some (stepV s c, crcT, ()) := by
  show crc_step_m0 s c crcT = _
  unfold crc_step_m0
  have h1 := band15 (bxor .u16 s (cvt .u16 c))
  rw [need_t (lt_iff.2 h1.2), tab_at h1.1 h1.2, Option.bind_some, Option.bind_some]
  have h2 := band15 (bxor .u16 (shr .u16 (bxor .u16 s (cvt .u16 c)) 4) (tab (band .u16 (bxor .u16 s (cvt .u16 c)) 15)))
  rw [need_t (lt_iff.2 h2.2), tab_at h2.1 h2.2, Option.bind_some, Option.bind_some]
  rfl
def sumV (b : List Int) : Int := b.foldl stepV 65535
theorem sumV_rng (b : List Int) : 0 ≤ sumV b ∧ sumV b < 65536 := by
  unfold sumV
  have : ∀ (b : List Int) (s : Int), (0 ≤ s ∧ s < 65536) → 0 ≤ b.foldl stepV s ∧ b.foldl stepV s < 65536 := by
    intro b
    induction b with
    | nil => exact fun s h => h
    | cons c r ih => exact fun s _ => ih _ (stepV_rng s c)
  exact this b _ (by decide)
theorem sum_eq {b : List Int} (h : b.length < 4611686018427387904) : crc_Sum (b, ()) = some (sumV b, ()) := by
  show crc_Sum_m0 crc_Sum_K1 b = _
  unfold crc_Sum_m0
  rw [table_eq, Option.bind_some]
  rw [need_t (by rfl), need_t (by rfl)]
  unfold crc_Sum_K1
  refine (loop_idx (xs := b) (mk := fun i acc => (b, acc, Int.ofNat b.length, (i : Int), crcT)) (stp := stepV) (fin := fun acc => some (acc, ())) (fun _ _ => True) ?_ (fun _ _ _ _ _ => trivial) ?_ b.length 0 65535 _ (by omega) (by omega) trivial).trans ?_
  · intro self i acc x hx _
    have hi := (List.getElem?_eq_some_iff.1 hx).1
    show crc_Sum_m1 _ b acc (Int.ofNat b.length) (i : Int) crcT = _
    unfold crc_Sum_m1
    rw [if_pos (by rw [lt_iff, ofNat_eq]; omega), at_get hx, Option.bind_some, step_eq, Option.bind_some, succ64 (by omega)]
  · intro self acc _
    show crc_Sum_m1 _ b acc (Int.ofNat b.length) (b.length : Int) crcT = _
    unfold crc_Sum_m1
    rw [if_neg (by rw [lt_iff, ofNat_eq]; omega)]
  · rfl
theorem capOk_0 {n : Int} (h : 0 ≤ n) : capOk 0 n = true := by
  unfold capOk
  split
  · rfl
  · exact decide_eq_true h
theorem capOk_self (n : Int) : capOk n n = true := by
  unfold capOk
  rw [if_pos rfl]
def two (x : Int) : List Int := [x / 256 % 256, x % 256]
def putV (b : List Int) : List Int := b ++ [sumV b % 256, sumV b / 256]
theorem put_eq {b : List Int} (h : b.length < 1000000) : crc_Put (b, ()) = some (putV b, ()) := by
  show crc_Put_m0 b = _
  unfold crc_Put_m0
  have hs := sumV_rng b
  have e : add .i64 (Int.ofNat b.length) 2 = ((b.length + 2 : Nat) : Int) := by rw [ofNat_eq]; exact addn64 (m := 2) (by omega)
  rw [sum_eq (by omega), Option.bind_some, e, need_t (capOk_0 (by omega)), need_t (by rw [small_iff]; omega), need_small (by omega), need_small (by simp; omega), cvt8, cvt8, shr8 _ _ (by decide)]
  have e2 : sumV b / 256 % 256 = sumV b / 256 := by omega
  rw [e2]
  rfl
end Go.Proofs.Lx

end

section
/- Requests: which are right, and their bytes. -/
namespace Go.Proofs.Lx
open Go Ev Sx Pl
set_option maxRecDepth 100000
abbrev TA := Int × Int × Int × Int × List Int × List Bool
structure OkA (a : TA) : Prop where
  f0 : 0 ≤ a.1
  f1 : a.1 ≤ 255
  at0 : 0 ≤ a.2.1
  at1 : a.2.1 ≤ 65535
  m0 : 0 ≤ a.2.2.1
  m1 : a.2.2.1 ≤ 65535
  t0 : 0 ≤ a.2.2.2.1
  t1 : a.2.2.2.1 ≤ 65535
  w : ∀ x ∈ a.2.2.2.2.1, 0 ≤ x ∧ x ≤ 65535
  lw : a.2.2.2.2.1.length ≤ 100000
  lb : a.2.2.2.2.2.length ≤ 100000
def shp (f : Int) : Option (Int × Int × Int × Bool × Bool) :=
  if eqi 1 f = true then some (2000, 0, 0, false, false) else if eqi 2 f = true then some (2000, 0, 0, false, false) else if eqi 3 f = true then some (125, 0, 0, false, false) else
  if eqi 4 f = true then some (125, 0, 0, false, false) else if eqi 5 f = true then some (0, 1, 0, false, false) else if eqi 6 f = true then some (0, 0, 1, false, false) else
  if eqi 15 f = true then some (1968, 1968, 0, false, true) else if eqi 16 f = true then some (123, 0, 123, false, true) else if eqi 23 f = true then some (125, 0, 121, true, false) else none
def shpD (f : Int) : Int × Int × Int × Bool × Bool := (shp f).getD (0, 0, 0, false, false)
theorem shape_eq (f : Int) : ask_shape (f, ()) = some (shpD f, (shp f).isSome, ()) := rfl
theorem shp_cases (f : Int) : ((f = 1 ∨ f = 2) ∧ shp f = some (2000, 0, 0, false, false)) ∨ ((f = 3 ∨ f = 4) ∧ shp f = some (125, 0, 0, false, false)) ∨ (f = 5 ∧ shp f = some (0, 1, 0, false, false)) ∨
    (f = 6 ∧ shp f = some (0, 0, 1, false, false)) ∨ (f = 15 ∧ shp f = some (1968, 1968, 0, false, true)) ∨ (f = 16 ∧ shp f = some (123, 0, 123, false, true)) ∨ (f = 23 ∧ shp f = some (125, 0, 121, true, false)) ∨
    ((f ≠ 1 ∧ f ≠ 2 ∧ f ≠ 3 ∧ f ≠ 4 ∧ f ≠ 5 ∧ f ≠ 6 ∧ f ≠ 15 ∧ f ≠ 16 ∧ f ≠ 23) ∧ shp f = none) := by
  by_cases h1 : f = 1
  · subst h1; exact .inl ⟨.inl rfl, rfl⟩
  by_cases h2 : f = 2
  · subst h2; exact .inl ⟨.inr rfl, rfl⟩
  by_cases h3 : f = 3
  · subst h3; exact .inr (.inl ⟨.inl rfl, rfl⟩)
  by_cases h4 : f = 4
  · subst h4; exact .inr (.inl ⟨.inr rfl, rfl⟩)
  by_cases h5 : f = 5
  · subst h5; exact .inr (.inr (.inl ⟨rfl, rfl⟩))
  by_cases h6 : f = 6
  · subst h6; exact .inr (.inr (.inr (.inl ⟨rfl, rfl⟩)))
  by_cases h7 : f = 15
  · subst h7; exact .inr (.inr (.inr (.inr (.inl ⟨rfl, rfl⟩))))
  by_cases h8 : f = 16
  · subst h8; exact .inr (.inr (.inr (.inr (.inr (.inl ⟨rfl, rfl⟩)))))
  by_cases h9 : f = 23
  · subst h9; exact .inr (.inr (.inr (.inr (.inr (.inr (.inl ⟨rfl, rfl⟩))))))
  refine .inr (.inr (.inr (.inr (.inr (.inr (.inr ⟨⟨h1, h2, h3, h4, h5, h6, h7, h8, h9⟩, ?_⟩))))))
  have e : ∀ n : Int, f ≠ n → ¬ eqi n f = true := fun n hn h => hn (eqi_iff.1 h).symm
  unfold shp
  rw [if_neg (e _ h1), if_neg (e _ h2), if_neg (e _ h3), if_neg (e _ h4), if_neg (e _ h5), if_neg (e _ h6), if_neg (e _ h7), if_neg (e _ h8), if_neg (e _ h9)]
def withinV (n most : Int) : Bool := if eqi most 0 = true then eqi n 0 else if ge n 1 = true then le n most else false
theorem within_eq (n most : Int) : ask_within (n, most, ()) = some (withinV n most, ()) := by
  show ask_within_m0 n most = _
  unfold ask_within_m0 withinV
  split
  · rfl
  · split <;> rfl
def rightS (a : TA) (s : Int × Int × Int × Bool × Bool) : Bool := (s.2.2.2.1 || eqi a.2.2.2.1 0) && (withinV a.2.2.1 s.1 && (withinV (Int.ofNat a.2.2.2.2.2.length) s.2.1 && (withinV (Int.ofNat a.2.2.2.2.1.length) s.2.2.1 &&
  (!s.2.2.2.2 || eqi (Int.ofNat a.2.2.2.2.2.length + Int.ofNat a.2.2.2.2.1.length) a.2.2.1))))
def rightA (a : TA) : Bool := match shp a.1 with
  | none => false
  | some s => rightS a s
theorem right_K2 (t : Bool) (a1 a2 a3 a4 : Int) (a5 : List Int) (a6 : List Bool) (s1 s2 s3 : Int) (s4 s5 : Bool) :
    ask_Right_K2 t a1 a2 a3 a4 a5 a6 s1 s2 s3 s4 s5 = some (!t && (!s5 || eqi (add .i64 (Int.ofNat a6.length) (Int.ofNat a5.length)) (cvt .i64 a3)), ()) := by
  unfold ask_Right_K2 ask_Right_m2
  cases t <;> cases s5 <;> rfl
theorem right_K1 (t : Bool) (a1 a2 a3 a4 : Int) (a5 : List Int) (a6 : List Bool) (s1 s2 s3 : Int) (s4 s5 : Bool) :
    ask_Right_K1 t a1 a2 a3 a4 a5 a6 s1 s2 s3 s4 s5 = some (!t && (withinV (cvt .i64 a3) s1 && (withinV (Int.ofNat a6.length) s2 && (withinV (Int.ofNat a5.length) s3 && (!s5 || eqi (add .i64 (Int.ofNat a6.length) (Int.ofNat a5.length)) (cvt .i64 a3))))), ()) := by
  unfold ask_Right_K1 ask_Right_m1
  rw [within_eq, within_eq, within_eq]
  simp only [Option.bind_some, right_K2]
  cases t <;> cases withinV (cvt .i64 a3) s1 <;> cases withinV (Int.ofNat a6.length) s2 <;> cases withinV (Int.ofNat a5.length) s3 <;> rfl
theorem right_eq {a : TA} (h : OkA a) : ask_Right (a, ()) = some (rightA a, ()) := by
  show ask_Right_m0 ask_Right_K1 a = _
  unfold ask_Right_m0
  have h1 := h.m0
  have h2 := h.m1
  have h3 := h.lw
  have h4 := h.lb
  rw [shape_eq, Option.bind_some]
  simp only [right_K1]
  rw [cvt64 (by omega) (by omega), add64 (by rw [ofNat_eq, ofNat_eq]; omega) (by rw [ofNat_eq, ofNat_eq]; omega)]
  unfold rightA shpD
  cases shp a.1 with
  | none => rfl
  | some s =>
    obtain ⟨s1, s2, s3, s4, s5⟩ := s
    unfold rightS
    have e : nei a.2.2.2.1 0 = !eqi a.2.2.2.1 0 := rfl
    rw [e]
    cases s4 <;> cases eqi a.2.2.2.1 0 <;> rfl
theorem two_eq {y : Int} : ([cvt .u8 (shr .u16 y 8), cvt .u8 y] : List Int) = two y := by
  rw [cvt8, cvt8, shr8 _ _ (by decide)]
  rfl
theorem numbers_eq {l out : List Int} (h : out.length + 2 * l.length ≤ 1000000) : ask_numbers (l, out, ()) = some (out ++ l.flatMap two, ()) := by
  show ask_numbers_m0 ask_numbers_K1 l out = _
  unfold ask_numbers_m0 ask_numbers_K1
  refine (loop_idx (xs := l) (mk := fun i acc => (l, Int.ofNat l.length, (i : Int), acc)) (stp := fun o y => o ++ two y) (fin := fun acc => some (acc, ())) (fun i acc => acc.length ≤ out.length + 2 * i) ?_ ?_ ?_ l.length 0 out _ (by omega) (by omega) (by omega)).trans ?_
  · intro self i acc x hx hI
    have hi := (List.getElem?_eq_some_iff.1 hx).1
    show ask_numbers_m1 _ l (Int.ofNat l.length) (i : Int) acc = _
    unfold ask_numbers_m1
    rw [if_pos (by rw [lt_iff, ofNat_eq]; omega), at_get hx, Option.bind_some, need_small (by omega), two_eq, succ64 (by omega)]
  · intro i acc x hx hI
    simp [two]
    omega
  · intro self acc _
    show ask_numbers_m1 _ l (Int.ofNat l.length) (l.length : Int) acc = _
    unfold ask_numbers_m1
    rw [if_neg (by rw [lt_iff, ofNat_eq]; omega)]
  · rw [List.drop_zero, foldl_app]
end Go.Proofs.Lx

end

section
/- Packed bits, lists of numbers. -/
namespace Pl
open Go Ev Sx
/-- a loop whose states are known -/
theorem loop_det {σ R : Type} {F : (σ → Option R) → σ → Option R} {mk : Nat → σ} {N : Nat} {r : Option R} (hs : ∀ self i, i < N → F self (mk i) = self (mk (i + 1))) (he : ∀ self, F self (mk N) = r) :
    ∀ (k i n : Nat), i + k = N → k < n → loopF F n (mk i) = r
  | _, _, 0, _, h => by omega
  | 0, i, n + 1, h, _ => by
    have : i = N := by omega
    subst this
    rw [loopF_succ, he]
  | k + 1, i, n + 1, h, hn => by rw [loopF_succ, hs _ _ (by omega), loop_det hs he k (i + 1) n (by omega) (by omega)]
theorem quo_nat {i d : Nat} (hi : i < 4611686018427387904) : quo .i64 (i : Int) (d : Int) = ((i / d : Nat) : Int) := by
  unfold quo
  have h := Nat.div_le_self i d
  have e : (i : Int).tdiv (d : Int) = ((i / d : Nat) : Int) := by rw [Int.ofNat_tdiv]
  rw [e]
  generalize i / d = q at h ⊢
  exact w64 (by omega) (by omega)
theorem rem_nat {i d : Nat} : rem (i : Int) (d : Int) = ((i % d : Nat) : Int) := by
  unfold rem
  rw [Int.ofNat_tmod]
/-- what is filled, place by place -/
theorem fill_step {α : Type} {f : Nat → α} {init : List α} {i : Nat} (hi : i < init.length) : ((List.range i).map f ++ init.drop i).set i (f i) = (List.range (i + 1)).map f ++ init.drop (i + 1) := by
  rw [List.drop_eq_getElem_cons hi, List.set_append_right _ _ (by simp)]
  simp only [List.length_map, List.length_range, Nat.sub_self, List.set_cons_zero, List.range_succ, List.map_append, List.map_cons, List.map_nil, List.append_assoc, List.singleton_append]
end Pl
namespace Go.Proofs.Lx
open Go Ev Sx Pl
set_option maxRecDepth 100000
def byteV : List Bool → Int
  | [] => 0
  | b :: r => (if b = true then 1 else 0) + 2 * byteV r
theorem byteV_rng : ∀ t : List Bool, 0 ≤ byteV t ∧ byteV t < 2 ^ t.length
  | [] => by simp [byteV]
  | b :: r => by
    have := byteV_rng r
    rw [List.length_cons, Int.pow_succ]
    unfold byteV
    split <;> omega
theorem byteV_snoc (b : Bool) : ∀ t : List Bool, byteV (t ++ [b]) = byteV t + (if b = true then 2 ^ t.length else 0)
  | [] => by cases b <;> rfl
  | a :: r => by
    rw [List.cons_append]
    unfold byteV
    rw [byteV_snoc b r, List.length_cons, Int.pow_succ]
    cases b <;> simp <;> omega
theorem byteV_bit : ∀ (t : List Bool) (k : Nat), byteV t / 2 ^ k % 2 = (if t.getD k false = true then 1 else 0)
  | [], k => by simp [byteV]
  | b :: r, 0 => by
    unfold byteV
    cases b <;> simp <;> omega
  | b :: r, k + 1 => by
    have := byteV_bit r k
    rw [List.getD_cons_succ, ← this]
    have e : ((if b = true then (1 : Int) else 0) + 2 * byteV r) / 2 ^ (k + 1) = byteV r / 2 ^ k := by
      rw [Int.pow_succ, Int.mul_comm (2 ^ k) 2, ← Int.ediv_ediv_of_nonneg (by decide)]
      congr 1
      split <;> omega
    show ((if b = true then (1 : Int) else 0) + 2 * byteV r) / 2 ^ (k + 1) % 2 = _
    rw [e]
def packN (n : Nat) : Nat := (n + 7) / 8
def packP (bits : List Bool) (i : Nat) : List Int := (List.range (packN bits.length)).map fun j => byteV (((bits.take i).drop (8 * j)).take 8)
def packS (bits : List Bool) : List Int := (List.range (packN bits.length)).map fun j => byteV ((bits.drop (8 * j)).take 8)
theorem packP_len (bits : List Bool) (i : Nat) : (packP bits i).length = packN bits.length := by simp [packP]
theorem packS_len (bits : List Bool) : (packS bits).length = packN bits.length := by simp [packS]
theorem packP_all (bits : List Bool) : packP bits bits.length = packS bits := by unfold packP packS; rw [List.take_length]
theorem packP_zero (bits : List Bool) : packP bits 0 = List.replicate (packN bits.length) 0 := by
  unfold packP
  rw [List.take_zero]
  simp only [List.drop_nil, List.take_nil, byteV]
  exact List.map_const' ..|>.trans (by simp)
theorem chunk_next {bits : List Bool} {i j : Nat} {y : Bool} (hy : bits[i]? = some y) : ((bits.take (i + 1)).drop (8 * j)).take 8 = ((bits.take i).drop (8 * j)).take 8 ++ (if j = i / 8 then [y] else []) := by
  have hi := (List.getElem?_eq_some_iff.1 hy).1
  have e : bits.take (i + 1) = bits.take i ++ [y] := by rw [List.take_add_one, hy]; rfl
  have hl : (bits.take i).length = i := by rw [List.length_take]; omega
  by_cases h : j = i / 8
  · rw [if_pos h, e, List.drop_append_of_le_length (by omega)]
    have h1 : ((bits.take i).drop (8 * j) ++ [y]).length ≤ 8 := by rw [List.length_append, List.length_drop, hl, List.length_singleton]; omega
    rw [List.take_of_length_le h1, List.take_of_length_le (l := (bits.take i).drop (8 * j)) (by rw [List.length_drop, hl]; omega)]
  · rw [if_neg h, List.append_nil]
    by_cases h2 : 8 * j ≤ i
    · rw [e, List.drop_append_of_le_length (by omega), List.take_append_of_le_length (by simp; omega)]
    · rw [List.drop_of_length_le (by simp; omega), List.drop_of_length_le (by simp; omega)]
theorem packP_next {bits : List Bool} {i : Nat} {y : Bool} (hy : bits[i]? = some y) :
    ∃ v, (packP bits i)[i / 8]? = some v ∧ 0 ≤ v ∧ v < 2 ^ (i % 8) ∧ packP bits (i + 1) = (if y = true then (packP bits i).set (i / 8) (v + 2 ^ (i % 8)) else packP bits i) := by
  have hi := (List.getElem?_eq_some_iff.1 hy).1
  have hm : i / 8 < packN bits.length := by unfold packN; omega
  have hlen : ((((bits.take i).drop (8 * (i / 8))).take 8)).length = i % 8 := by simp; omega
  refine ⟨byteV (((bits.take i).drop (8 * (i / 8))).take 8), ?_, (byteV_rng _).1, ?_, ?_⟩
  · unfold packP
    rw [List.getElem?_map, List.getElem?_range hm]
    rfl
  · have := (byteV_rng (((bits.take i).drop (8 * (i / 8))).take 8)).2
    rwa [hlen] at this
  · apply List.ext_getElem?
    intro j
    have hj : ∀ q, (packP bits q)[j]? = if j < packN bits.length then some (byteV (((bits.take q).drop (8 * j)).take 8)) else none := by
      intro q
      unfold packP
      rw [List.getElem?_map]
      split
      · rename_i h; rw [List.getElem?_range h]; rfl
      · rename_i h; rw [List.getElem?_eq_none (by simp; omega)]; rfl
    rw [hj]
    by_cases hjm : j < packN bits.length
    · rw [if_pos hjm, chunk_next hy]
      by_cases hji : j = i / 8
      · rw [if_pos hji, byteV_snoc]
        cases y with
        | true =>
          rw [if_pos rfl, if_pos rfl, hji, hlen, List.getElem?_set_self (by rw [packP_len]; exact hm)]
        | false =>
          rw [if_neg (by decide), if_neg (by decide), hj, if_pos hjm, Int.add_zero]
      · rw [if_neg hji, List.append_nil]
        cases y with
        | true => rw [if_pos rfl, List.getElem?_set_ne (by omega), hj, if_pos hjm]
        | false => rw [if_neg (by decide), hj, if_pos hjm]
    · rw [if_neg hjm]
      cases y with
      | true => rw [if_pos rfl, List.getElem?_set_ne (by omega), hj, if_neg hjm]
      | false => rw [if_neg (by decide), hj, if_neg hjm]
theorem bor_bit {v : Int} {k : Nat} (h0 : 0 ≤ v) (h1 : v < 2 ^ k) (hk : k < 8) : bor .u8 v (shl .u8 1 (k : Int)) = v + 2 ^ k := by
  have key : ∀ (k : Fin 8) (v : Fin 128), v.1 < 2 ^ k.1 → bor .u8 (v.1 : Int) (shl .u8 1 (k.1 : Int)) = (v.1 : Int) + 2 ^ k.1 := by decide +kernel
  obtain ⟨n, rfl⟩ := Int.eq_ofNat_of_zero_le h0
  have h2 : n < 2 ^ k := by exact_mod_cast h1
  have h3 : 2 ^ k ≤ 2 ^ 7 := Nat.pow_le_pow_right (by decide) (by omega)
  exact key ⟨k, hk⟩ ⟨n, by omega⟩ h2
theorem pack_eq {bits : List Bool} (h : bits.length ≤ 100000) : ask_Pack (bits, ()) = some (packS bits, ()) := by
  show ask_Pack_m0 ask_Pack_K1 bits = _
  have hK : ask_Pack_K1 bits (packN bits.length : Int) = some (packS bits, ()) := by
    unfold ask_Pack_K1 ask_Pack_m1
    have hN : packN bits.length ≤ 100000 := by unfold packN; omega
    rw [need_t (by rw [ge_iff]; omega), need_t (capOk_self _), Int.toNat_natCast, need_small (by omega)]
    unfold ask_Pack_K2
    rw [← packP_zero, ← packP_all]
    refine loop_det (mk := fun i => (bits, Int.ofNat bits.length, (i : Int), packP bits i)) (N := bits.length) ?_ ?_ bits.length 0 _ (by omega) (by omega)
    · intro self i hi
      have hy : bits[i]? = some (bits[i]'hi) := List.getElem?_eq_getElem hi
      obtain ⟨v, hv, h0, h1, e⟩ := packP_next hy
      show ask_Pack_m2 _ bits (Int.ofNat bits.length) (i : Int) (packP bits i) = _
      unfold ask_Pack_m2
      have hq : quo .i64 (i : Int) 8 = ((i / 8 : Nat) : Int) := quo_nat (d := 8) (by omega)
      have hr : rem (i : Int) 8 = ((i % 8 : Nat) : Int) := rem_nat (d := 8)
      rw [if_pos (by rw [lt_iff, ofNat_eq]; omega), at_get hy, Option.bind_some, hq, hr, at_get hv, succ64 (by omega)]
      simp only [Option.bind_some]
      rw [need_t (by rw [ge_iff]; omega), bor_bit h0 h1 (Nat.mod_lt _ (by decide)), Int.toNat_natCast, e]
      split <;> rfl
    · intro self
      show ask_Pack_m2 _ bits (Int.ofNat bits.length) (bits.length : Int) (packP bits bits.length) = _
      unfold ask_Pack_m2
      rw [if_neg (by rw [lt_iff, ofNat_eq]; omega)]
  unfold ask_Pack_m0
  have hq : quo .i64 (Int.ofNat bits.length) 8 = ((bits.length / 8 : Nat) : Int) := quo_nat (d := 8) (by omega)
  rw [hq]
  split
  · rename_i h1
    rw [gt_iff, ofNat_eq] at h1
    rw [succ64 (by omega)]
    have : bits.length / 8 + 1 = packN bits.length := by unfold packN; omega
    rw [this]
    exact hK
  · rename_i h1
    rw [gt_iff, ofNat_eq] at h1
    have : bits.length / 8 = packN bits.length := by unfold packN; omega
    rw [this]
    exact hK
def bitV (y : Int) (k : Nat) : Bool := eqi (band .u8 (shr .u8 y (k : Int)) 1) 1
theorem bitV_eq {y : Int} {k : Nat} (h0 : 0 ≤ y) (h1 : y < 256) (hk : k < 8) : bitV y k = decide (y / 2 ^ k % 2 = 1) := by
  have key : ∀ (k : Fin 8) (v : Fin 256), bitV (v.1 : Int) k.1 = decide ((v.1 : Int) / 2 ^ k.1 % 2 = 1) := by decide +kernel
  obtain ⟨n, rfl⟩ := Int.eq_ofNat_of_zero_le h0
  exact key ⟨k, hk⟩ ⟨n, by omega⟩
def unpackS (b : List Int) : List Bool := (List.range (8 * b.length)).map fun i => bitV (b.getD (i / 8) 0) (i % 8)
theorem unpack_eq {b : List Int} (h : b.length ≤ 100000) : ask_Unpack (b, ()) = some (unpackS b, ()) := by
  show ask_Unpack_m0 ask_Unpack_K1 b = _
  unfold ask_Unpack_m0
  have hm : mul .i64 8 (Int.ofNat b.length) = ((8 * b.length : Nat) : Int) := by
    rw [mul64 (by rw [ofNat_eq]; omega) (by rw [ofNat_eq]; omega)]
    simp
  rw [hm, need_t (by rw [ge_iff]; omega), need_t (capOk_self _), Int.toNat_natCast, need_small (by omega), List.length_replicate]
  unfold ask_Unpack_K1 unpackS
  refine (loop_det (mk := fun i => (b, Int.ofNat (8 * b.length), (i : Int), (List.range i).map (fun i => bitV (b.getD (i / 8) 0) (i % 8)) ++ (List.replicate (8 * b.length) false).drop i)) (N := 8 * b.length) ?_ ?_ (8 * b.length) 0 _ (by omega) (by omega))
  · intro self i hi
    show ask_Unpack_m1 _ b (Int.ofNat (8 * b.length)) (i : Int) _ = _
    unfold ask_Unpack_m1
    have hq : quo .i64 (i : Int) 8 = ((i / 8 : Nat) : Int) := quo_nat (d := 8) (by omega)
    have hr : rem (i : Int) 8 = ((i % 8 : Nat) : Int) := rem_nat (d := 8)
    have hlt : i / 8 < b.length := by omega
    have hb : b[i / 8]? = some (b[i / 8]'hlt) := List.getElem?_eq_getElem hlt
    have hlen : ((List.range i).map (fun i => bitV (b.getD (i / 8) 0) (i % 8)) ++ (List.replicate (8 * b.length) false).drop i).length = 8 * b.length := by simp; omega
    have ho : ((List.range i).map (fun i => bitV (b.getD (i / 8) 0) (i % 8)) ++ (List.replicate (8 * b.length) false).drop i)[i]? = some (((List.range i).map (fun i => bitV (b.getD (i / 8) 0) (i % 8)) ++ (List.replicate (8 * b.length) false).drop i)[i]'(by omega)) := List.getElem?_eq_getElem (by omega)
    rw [if_pos (by rw [lt_iff, ofNat_eq]; omega), hq, hr, at_get hb, Option.bind_some, need_t (by rw [ge_iff]; omega), at_get ho, Option.bind_some, Option.bind_some, succ64 (by omega), Int.toNat_natCast]
    have e : eqi (band .u8 (shr .u8 (b[i / 8]'hlt) ((i % 8 : Nat) : Int)) 1) 1 = bitV (b.getD (i / 8) 0) (i % 8) := by
      rw [List.getD_eq_getElem?_getD, hb]
      rfl
    rw [e, fill_step (f := fun i => bitV (b.getD (i / 8) 0) (i % 8)) (by simp; omega)]
  · intro self
    show ask_Unpack_m1 _ b (Int.ofNat (8 * b.length)) ((8 * b.length : Nat) : Int) _ = _
    unfold ask_Unpack_m1
    rw [if_neg (by rw [lt_iff, ofNat_eq]; omega), List.drop_of_length_le (by simp), List.append_nil]
end Go.Proofs.Lx

end

section
/- The bytes of requests. -/
namespace Go.Proofs.Lx
open Go Ev Sx Pl
set_option maxRecDepth 100000
/-- what a right request is -/
inductive RA : TA → Prop where
  | bits (f p n : Int) (hf : f = 1 ∨ f = 2) (h1 : 1 ≤ n) (h2 : n ≤ 2000) : RA (f, p, n, 0, [], [])
  | words (f p n : Int) (hf : f = 3 ∨ f = 4) (h1 : 1 ≤ n) (h2 : n ≤ 125) : RA (f, p, n, 0, [], [])
  | coil (p : Int) (b : Bool) : RA (5, p, 0, 0, [], [b])
  | word (p : Int) (x : Int) : RA (6, p, 0, 0, [x], [])
  | coils (p : Int) (l : List Bool) (h1 : 1 ≤ l.length) (h2 : l.length ≤ 1968) : RA (15, p, (l.length : Int), 0, [], l)
  | regs (p : Int) (l : List Int) (h1 : 1 ≤ l.length) (h2 : l.length ≤ 123) : RA (16, p, (l.length : Int), 0, l, [])
  | swap (p n t : Int) (l : List Int) (h1 : 1 ≤ l.length) (h2 : l.length ≤ 121) (h3 : 1 ≤ n) (h4 : n ≤ 125) : RA (23, p, n, t, l, [])
theorem within0 {n : Int} (h : withinV n 0 = true) : n = 0 := eqi_iff.1 h
theorem within1 {n m : Int} (hm : 0 < m) (h : withinV n m = true) : 1 ≤ n ∧ n ≤ m := by
  unfold withinV at h
  rw [if_neg (by rw [eqi_iff]; omega)] at h
  split at h
  · rename_i h1; exact ⟨ge_iff.1 h1, le_iff.1 h⟩
  · cases h
theorem len0 {α : Type} {l : List α} (h : Int.ofNat l.length = 0) : l = [] := by
  rw [ofNat_eq] at h
  exact List.eq_nil_of_length_eq_zero (by omega)
theorem len1 {α : Type} {l : List α} (h : 1 ≤ Int.ofNat l.length ∧ Int.ofNat l.length ≤ 1) : ∃ x, l = [x] := by
  rw [ofNat_eq] at h
  exact List.length_eq_one_iff.1 (by omega)
theorem rightA_RA {a : TA} (hr : rightA a = true) : RA a := by
  obtain ⟨f, p, n, t, ws, bs⟩ := a
  unfold rightA at hr
  simp only at hr
  rcases shp_cases f with ⟨hf, e⟩ | ⟨hf, e⟩ | ⟨hf, e⟩ | ⟨hf, e⟩ | ⟨hf, e⟩ | ⟨hf, e⟩ | ⟨hf, e⟩ | ⟨hf, e⟩ <;> rw [e] at hr <;> simp only [rightS, Bool.and_eq_true, Bool.false_or, Bool.true_or, Bool.not_false, Bool.not_true, true_and, and_true] at hr
  · obtain ⟨h1, h2, h3, h4⟩ := hr
    have h2 := within1 (by decide) h2
    rw [eqi_iff.1 h1, len0 (within0 h3), len0 (within0 h4)]
    exact .bits f p n hf h2.1 h2.2
  · obtain ⟨h1, h2, h3, h4⟩ := hr
    have h2 := within1 (by decide) h2
    rw [eqi_iff.1 h1, len0 (within0 h3), len0 (within0 h4)]
    exact .words f p n hf h2.1 h2.2
  · obtain ⟨h1, h2, h3, h4⟩ := hr
    obtain ⟨b, rfl⟩ := len1 (within1 (by decide) h3)
    rw [eqi_iff.1 h1, within0 h2, len0 (within0 h4), hf]
    exact .coil p b
  · obtain ⟨h1, h2, h3, h4⟩ := hr
    obtain ⟨b, rfl⟩ := len1 (within1 (by decide) h4)
    rw [eqi_iff.1 h1, within0 h2, len0 (within0 h3), hf]
    exact .word p b
  · obtain ⟨h1, h2, h3, h4, h5⟩ := hr
    have h3 := within1 (by decide) h3
    have e4 := len0 (within0 h4)
    subst e4
    rw [eqi_iff.1 h1, ← eqi_iff.1 h5, hf]
    rw [ofNat_eq] at h3
    exact .coils p bs (by omega) (by omega)
  · obtain ⟨h1, h2, h3, h4, h5⟩ := hr
    have h4 := within1 (by decide) h4
    have e3 := len0 (within0 h3)
    subst e3
    have e5 : (ws.length : Int) = n := by have := eqi_iff.1 h5; simpa using this
    rw [eqi_iff.1 h1, ← e5, hf]
    rw [ofNat_eq] at h4
    exact .regs p ws (by omega) (by omega)
  · obtain ⟨h2, h3, h4⟩ := hr
    have h2 := within1 (by decide) h2
    have h4 := within1 (by decide) h4
    rw [len0 (within0 h3), hf]
    rw [ofNat_eq] at h4
    exact .swap p n t ws (by omega) (by omega) h2.1 h2.2
  · cases hr
def askB (a : TA) : List Int :=
  if a.1 = 5 then a.1 :: two a.2.1 ++ two (if a.2.2.2.2.2.headD false = true then 65280 else 0)
  else if a.1 = 6 then a.1 :: two a.2.1 ++ a.2.2.2.2.1.flatMap two
  else if a.1 = 15 then a.1 :: two a.2.1 ++ two a.2.2.1 ++ [(packN a.2.2.2.2.2.length : Int)] ++ packS a.2.2.2.2.2
  else if a.1 = 16 then a.1 :: two a.2.1 ++ two a.2.2.1 ++ [2 * (a.2.2.2.2.1.length : Int)] ++ a.2.2.2.2.1.flatMap two
  else if a.1 = 23 then a.1 :: two a.2.1 ++ two a.2.2.1 ++ two a.2.2.2.1 ++ two (a.2.2.2.2.1.length : Int) ++ [2 * (a.2.2.2.2.1.length : Int)] ++ a.2.2.2.2.1.flatMap two
  else a.1 :: two a.2.1 ++ two a.2.2.1
theorem flat_two_len (l : List Int) : (l.flatMap two).length = 2 * l.length := by
  induction l with
  | nil => rfl
  | cons x r ih => rw [List.flatMap_cons, List.length_append, ih]; simp [two]; omega
theorem two_len (x : Int) : (two x).length = 2 := rfl
theorem askB_len {a : TA} (h : RA a) : 5 ≤ (askB a).length ∧ (askB a).length ≤ 253 := by
  cases h with
  | bits f p n hf h1 h2 => rcases hf with rfl | rfl <;> exact ⟨Nat.le.refl, (by decide : 5 ≤ 253)⟩
  | words f p n hf h1 h2 => rcases hf with rfl | rfl <;> exact ⟨Nat.le.refl, (by decide : 5 ≤ 253)⟩
  | coil p b => exact ⟨Nat.le.refl, (by decide : 5 ≤ 253)⟩
  | word p x => exact ⟨Nat.le.refl, (by decide : 5 ≤ 253)⟩
  | coils p l h1 h2 =>
    show 5 ≤ ((15 : Int) :: two p ++ two _ ++ [_] ++ packS l).length ∧ ((15 : Int) :: two p ++ two _ ++ [_] ++ packS l).length ≤ 253
    simp only [List.length_append, List.length_cons, List.length_nil, packS_len, two_len]
    unfold packN
    omega
  | regs p l h1 h2 =>
    show 5 ≤ ((16 : Int) :: two p ++ two _ ++ [_] ++ l.flatMap two).length ∧ ((16 : Int) :: two p ++ two _ ++ [_] ++ l.flatMap two).length ≤ 253
    simp only [List.length_append, List.length_cons, List.length_nil, flat_two_len, two_len]
    omega
  | swap p n t l h1 h2 h3 h4 =>
    show 5 ≤ ((23 : Int) :: two p ++ two _ ++ two _ ++ two _ ++ [_] ++ l.flatMap two).length ∧ ((23 : Int) :: two p ++ two _ ++ two _ ++ two _ ++ [_] ++ l.flatMap two).length ≤ 253
    simp only [List.length_append, List.length_cons, List.length_nil, flat_two_len, two_len]
    omega
abbrev BO := Option (As [.sl (.int .u8), .int .i64])
theorem bK0 (f p n : Int) (s1 : Int) (out : List Int) (h5 : f = 1 ∨ f = 2 ∨ f = 3 ∨ f = 4) : ask_Bytes_K1 f p n 0 [] [] s1 0 0 false false out = some (out, 0, ()) := by
  rcases h5 with rfl | rfl | rfl | rfl <;> rfl
theorem bK5 (p : Int) (b : Bool) (out : List Int) : ask_Bytes_K1 5 p 0 0 [] [b] 0 1 0 false false out = Option.bind (ask_numbers ([if b = true then 65280 else 0], out, ())) fun y => (some (y.1, 0, ()) : BO) := by
  cases b <;> rfl
theorem bK6 (p x : Int) (out : List Int) : ask_Bytes_K1 6 p 0 0 [x] [] 0 0 1 false false out = Option.bind (ask_numbers ([x], out, ())) fun y => (some (y.1, 0, ()) : BO) := rfl
theorem bK15 (p n : Int) (l : List Bool) (out : List Int) : ask_Bytes_K1 15 p n 0 [] l 1968 1968 0 false true out =
    Option.bind (ask_Pack (l, ())) fun y => need (small (out.length + 1)) (need (small ((out ++ [Int.ofNat (y.1.length % 256)]).length + y.1.length)) (some (out ++ [Int.ofNat (y.1.length % 256)] ++ y.1, 0, ()) : BO)) := rfl
theorem bK16 (p n : Int) (l : List Int) (out : List Int) : ask_Bytes_K1 16 p n 0 l [] 123 0 123 false true out =
    need (small (out.length + 1)) (Option.bind (ask_numbers (l, out ++ [cvt .u8 (mul .i64 2 (Int.ofNat l.length))], ())) fun y => (some (y.1, 0, ()) : BO)) := rfl
theorem bK23 (p n t : Int) (l : List Int) (out : List Int) : ask_Bytes_K1 23 p n t l [] 125 0 121 true false out =
    Option.bind (ask_numbers ([t, Int.ofNat (l.length % 65536)], out, ())) fun y => need (small (y.1.length + 1)) (Option.bind (ask_numbers (l, y.1 ++ [cvt .u8 (mul .i64 2 (Int.ofNat l.length))], ())) fun y => (some (y.1, 0, ()) : BO)) := rfl
theorem nums1 (x : Int) {out : List Int} (h : out.length ≤ 900000) : ask_numbers ([x], out, ()) = some (out ++ two x, ()) := by
  rw [numbers_eq (by simp; omega)]
  simp
theorem bytes_eq {a : TA} (h : OkA a) : ask_Bytes (a, ()) = if rightA a = true then some (askB a, 0, ()) else some ([], 12, ()) := by
  show ask_Bytes_m0 ask_Bytes_K1 a = _
  unfold ask_Bytes_m0
  rw [right_eq h, Option.bind_some]
  cases hr : rightA a with
  | false => rfl
  | true =>
    have hra := rightA_RA hr
    rw [if_neg (by decide), if_pos rfl, shape_eq, Option.bind_some]
    clear hr h
    have hin : ∀ f p : Int, ask_numbers ([p], [f], ()) = some (f :: two p, ()) := fun f p => nums1 p (by simp)
    have hin2 : ∀ f p n : Int, ask_numbers ([n], f :: two p, ()) = some (f :: two p ++ two n, ()) := fun f p n => nums1 n (by simp [two])
    cases hra with
    | bits f p n hf h1 h2 =>
      rcases hf with rfl | rfl <;> rw [hin, Option.bind_some, if_pos (by rfl), hin2, Option.bind_some]
      · exact bK0 1 p n 2000 _ (.inl rfl)
      · exact bK0 2 p n 2000 _ (.inr (.inl rfl))
    | words f p n hf h1 h2 =>
      rcases hf with rfl | rfl <;> rw [hin, Option.bind_some, if_pos (by rfl), hin2, Option.bind_some]
      · exact bK0 3 p n 125 _ (.inr (.inr (.inl rfl)))
      · exact bK0 4 p n 125 _ (.inr (.inr (.inr rfl)))
    | coil p b =>
      rw [hin, Option.bind_some, if_neg (by show ¬ gt 0 0 = true; decide)]
      exact (bK5 p b _).trans (by rw [nums1 _ (by simp [two]), Option.bind_some]; rfl)
    | word p x =>
      rw [hin, Option.bind_some, if_neg (by show ¬ gt 0 0 = true; decide)]
      exact (bK6 p x _).trans (by rw [nums1 _ (by simp [two]), Option.bind_some]; simp [askB])
    | coils p l h1 h2 =>
      rw [hin, Option.bind_some, if_pos (by rfl), hin2, Option.bind_some]
      refine (bK15 p _ l _).trans ?_
      rw [pack_eq (by omega), Option.bind_some, need_small (by simp [two]), need_small (by simp [two, packS_len, packN]; omega)]
      refine congrArg (fun x => some (x, 0, ())) ?_
      have e : packN l.length % 256 = packN l.length := by unfold packN; omega
      rw [packS_len, e]
      rfl
    | regs p l h1 h2 =>
      rw [hin, Option.bind_some, if_pos (by rfl), hin2, Option.bind_some]
      refine (bK16 p _ l _).trans ?_
      rw [need_small (by simp [two]), mul64 (by rw [ofNat_eq]; omega) (by rw [ofNat_eq]; omega), cvt8, numbers_eq (by simp [two]; omega), Option.bind_some]
      refine congrArg (fun x => some (x, 0, ())) ?_
      have e : (2 * Int.ofNat l.length) % 256 = 2 * (l.length : Int) := by rw [ofNat_eq]; omega
      rw [e]
      rfl
    | swap p n t l h1 h2 h3 h4 =>
      rw [hin, Option.bind_some, if_pos (by rfl), hin2, Option.bind_some]
      refine (bK23 p n t l _).trans ?_
      rw [numbers_eq (by simp [two]), Option.bind_some, need_small (by simp [two]), mul64 (by rw [ofNat_eq]; omega) (by rw [ofNat_eq]; omega), cvt8, numbers_eq (by simp [two]; omega), Option.bind_some]
      refine congrArg (fun x => some (x, 0, ())) ?_
      have e : (2 * Int.ofNat l.length) % 256 = 2 * (l.length : Int) := by rw [ofNat_eq]; omega
      have e2 : Int.ofNat (l.length % 65536) = (l.length : Int) := by rw [ofNat_eq]; omega
      rw [e, e2]
      simp [askB]
end Go.Proofs.Lx

end

section
/- Polls: what they send, by ticks, and which are the same. -/
namespace Pl
open Go Ev Sx
theorem zip_at {α β : Type} {s1 : List α} {s2 : List β} (h : s1.length = s2.length) {i : Nat} {x : α × β} (hx : (s1.zip s2)[i]? = some x) : s1[i]? = some x.1 ∧ s2[i]? = some x.2 := by
  rw [List.getElem?_zip_eq_some] at hx
  exact hx
/-- two rows are compared, element by element -/
theorem goL_eq {α : Type} [DecidableEq α] {ne : α → α → Bool} (hne : ∀ a b, ne a b = !decide (a = b)) : ∀ (s1 s2 : List α), s1.length = s2.length →
    goL (R := Bool × Unit) (fun (_ : Unit) (x : α × α) k => if ne x.1 x.2 = true then some (false, ()) else k ()) (fun _ => some (true, ())) (s1.zip s2) () = some (decide (s1 = s2), ())
  | [], [], _ => rfl
  | a :: r, b :: q, h => by
    rw [List.zip_cons_cons]
    show (if ne a b = true then some (false, ()) else goL _ _ (r.zip q) ()) = _
    rw [hne]
    by_cases e : a = b
    · subst e
      rw [if_neg (by simp), goL_eq hne r q (by simpa using h)]
      simp
    · rw [if_pos (by simp [e])]
      simp [e]
end Pl
namespace Go.Proofs.Lx
open Go Ev Sx Pl
set_option maxRecDepth 100000
theorem equalW_eq {s1 s2 : List Int} (h : s1.length ≤ 1000000) : slices_Equal_Guint16 (s1, s2, ()) = some (decide (s1 = s2), ()) := by
  show slices_Equal_Guint16_m0 slices_Equal_Guint16_K1 s1 s2 = _
  unfold slices_Equal_Guint16_m0
  by_cases hl : s1.length = s2.length
  · rw [if_neg (by rw [nei_iff, ofNat_eq, ofNat_eq]; omega)]
    unfold slices_Equal_Guint16_K1
    have hz : (s1.zip s2).length = s1.length := by rw [List.length_zip]; omega
    rw [← goL_eq (ne := nei) (fun a b => by simp [nei]; rfl) s1 s2 hl]
    refine loop_go (xs := s1.zip s2) (mk := fun i _ => (s1, s2, Int.ofNat s1.length, (i : Int))) ?_ ?_ s1.length 0 () _ (by rw [hz]; omega) (by omega)
    · intro self i acc x hx
      have hi := (List.getElem?_eq_some_iff.1 hx).1
      obtain ⟨h1, h2⟩ := zip_at hl hx
      show slices_Equal_Guint16_m1 _ s1 s2 (Int.ofNat s1.length) (i : Int) = _
      unfold slices_Equal_Guint16_m1
      rw [if_pos (by rw [lt_iff, ofNat_eq]; omega), at_get h1, Option.bind_some, at_get h2, Option.bind_some, succ64 (by omega)]
    · intro self acc
      show slices_Equal_Guint16_m1 _ s1 s2 (Int.ofNat s1.length) (((s1.zip s2).length : Nat) : Int) = _
      unfold slices_Equal_Guint16_m1
      rw [if_neg (by rw [lt_iff, ofNat_eq]; omega)]
  · rw [if_pos (by rw [nei_iff, ofNat_eq, ofNat_eq]; omega), decide_eq_false (fun e => hl (by rw [e]))]
theorem equalB_eq {s1 s2 : List Bool} (h : s1.length ≤ 1000000) : slices_Equal_Gbool (s1, s2, ()) = some (decide (s1 = s2), ()) := by
  show slices_Equal_Gbool_m0 slices_Equal_Gbool_K1 s1 s2 = _
  unfold slices_Equal_Gbool_m0
  by_cases hl : s1.length = s2.length
  · rw [if_neg (by rw [nei_iff, ofNat_eq, ofNat_eq]; omega)]
    unfold slices_Equal_Gbool_K1
    have hz : (s1.zip s2).length = s1.length := by rw [List.length_zip]; omega
    rw [← goL_eq (ne := neb) (fun a b => by cases a <;> cases b <;> rfl) s1 s2 hl]
    refine loop_go (xs := s1.zip s2) (mk := fun i _ => (s1, s2, Int.ofNat s1.length, (i : Int))) ?_ ?_ s1.length 0 () _ (by rw [hz]; omega) (by omega)
    · intro self i acc x hx
      have hi := (List.getElem?_eq_some_iff.1 hx).1
      obtain ⟨h1, h2⟩ := zip_at hl hx
      show slices_Equal_Gbool_m1 _ s1 s2 (Int.ofNat s1.length) (i : Int) = _
      unfold slices_Equal_Gbool_m1
      rw [if_pos (by rw [lt_iff, ofNat_eq]; omega), at_get h1, Option.bind_some, at_get h2, Option.bind_some, succ64 (by omega)]
    · intro self acc
      show slices_Equal_Gbool_m1 _ s1 s2 (Int.ofNat s1.length) (((s1.zip s2).length : Nat) : Int) = _
      unfold slices_Equal_Gbool_m1
      rw [if_neg (by rw [lt_iff, ofNat_eq]; omega)]
  · rw [if_pos (by rw [nei_iff, ofNat_eq, ofNat_eq]; omega), decide_eq_false (fun e => hl (by rw [e]))]
abbrev BB := Option (As [.bool])
theorem if_dec {p : Prop} [Decidable p] {b : Bool} {k : BB} {q : Bool} (h : b = true ↔ p) (hk : p → k = some (q, ())) : (if b = true then k else some (false, ())) = some (decide p && q, ()) := by
  by_cases hp : p
  · rw [if_pos (h.2 hp), hk hp, decide_eq_true hp]; rfl
  · rw [if_neg (fun e => hp (h.1 e)), decide_eq_false hp]; rfl
instance decA5 : DecidableEq (Int × Int × Int × List Int × List Bool) := inferInstance
instance decA : DecidableEq TA := inferInstance
theorem sameA_eq {a b : TA} (h1 : a.2.2.2.2.1.length ≤ 1000000) (h2 : a.2.2.2.2.2.length ≤ 1000000) : ask_Same (a, b, ()) = some (decide (a = b), ()) := by
  show ask_Same_m0 a b = _
  unfold ask_Same_m0
  rw [equalW_eq h1, Option.bind_some, equalB_eq h2, Option.bind_some]
  obtain ⟨a1, a2, a3, a4, a5, a6⟩ := a
  obtain ⟨b1, b2, b3, b4, b5, b6⟩ := b
  rw [if_dec (eqi_iff) fun _ => if_dec (eqi_iff) fun _ => if_dec (eqi_iff) fun _ => if_dec (eqi_iff) fun _ => if_dec (p := a5 = b5) (by simp) fun _ => rfl]
  refine congrArg (fun x => some (x, ())) ?_
  rw [Bool.eq_iff_iff]
  simp [Prod.ext_iff]
abbrev TP := Int × Int × Int × Int × Bool × TA × Int × Int × Int
instance decP1 : DecidableEq (TA × Int × Int × Int) := inferInstance
instance decP2 : DecidableEq (Int × Bool × TA × Int × Int × Int) := inferInstance
instance decP : DecidableEq TP := inferInstance
theorem eqb_iff {a b : Bool} : eqb a b = true ↔ a = b := by cases a <;> cases b <;> decide
theorem samep_eq {a b : TP} (h1 : a.2.2.2.2.2.1.2.2.2.2.1.length ≤ 1000000) (h2 : a.2.2.2.2.2.1.2.2.2.2.2.length ≤ 1000000) : poll_Same (a, b, ()) = some (decide (a = b), ()) := by
  show poll_Same_m0 a b = _
  unfold poll_Same_m0
  rw [sameA_eq h1 h2, Option.bind_some]
  obtain ⟨a1, a2, a3, a4, a5, a6, a7, a8, a9⟩ := a
  obtain ⟨b1, b2, b3, b4, b5, b6, b7, b8, b9⟩ := b
  rw [if_dec (eqi_iff) fun _ => if_dec (eqi_iff) fun _ => if_dec (eqi_iff) fun _ => if_dec (eqi_iff) fun _ => if_dec (eqb_iff) fun _ => if_dec (eqi_iff) fun _ => if_dec (eqi_iff) fun _ => if_dec (eqi_iff) fun _ => rfl]
  refine congrArg (fun x => some (x, ())) ?_
  rw [Bool.eq_iff_iff]
  simp only [Bool.and_eq_true, decide_eq_true_eq, Prod.ext_iff]
  constructor
  · rintro ⟨h1, h2, h3, h4, h5, h6, h7, h8, h9⟩; exact ⟨h1, h2, h3, h4, h5, h9, h6, h7, h8⟩
  · rintro ⟨h1, h2, h3, h4, h5, h9, h6, h7, h8⟩; exact ⟨h1, h2, h3, h4, h5, h6, h7, h8, h9⟩
theorem cloneW_eq {s : List Int} (h : s.length ≤ 1000000) : slices_Clone_Guint16 (s, ()) = some (s, ()) := by
  show slices_Clone_Guint16_m0 s = _
  unfold slices_Clone_Guint16_m0
  split
  · rename_i h0
    rw [len0 (eqi_iff.1 h0)]
    rfl
  · rw [need_small (by omega)]
    rfl
theorem cloneB_eq {s : List Bool} (h : s.length ≤ 1000000) : slices_Clone_Gbool (s, ()) = some (s, ()) := by
  show slices_Clone_Gbool_m0 s = _
  unfold slices_Clone_Gbool_m0
  split
  · rename_i h0
    rw [len0 (eqi_iff.1 h0)]
    rfl
  · rw [need_small (by omega)]
    rfl
theorem copied_eq {a : TA} (h1 : a.2.2.2.2.1.length ≤ 1000000) (h2 : a.2.2.2.2.2.length ≤ 1000000) : poll_copied (a, ()) = some (a, ()) := by
  show poll_copied_m0 a = _
  unfold poll_copied_m0
  rw [cloneW_eq h1, Option.bind_some, cloneB_eq h2, Option.bind_some]
theorem own_eq {p : TP} (h1 : p.2.2.2.2.2.1.2.2.2.2.1.length ≤ 1000000) (h2 : p.2.2.2.2.2.1.2.2.2.2.2.length ≤ 1000000) : poll_own (p, ()) = some (p, ()) := by
  show poll_own_m0 p = _
  unfold poll_own_m0
  rw [copied_eq h1 h2, Option.bind_some]
/-! ### frames -/
def mbapV (tx unit : Int) (pdu : List Int) : List Int := [tx / 256 % 256, tx % 256, 0, 0, 0, (pdu.length + 1 : Nat) % 256, unit] ++ pdu
theorem mbap_eq {tx unit : Int} {pdu : List Int} (h1 : 1 ≤ pdu.length) (h2 : pdu.length ≤ 253) : mbap_Pack ((tx, unit, pdu), ()) = some (mbapV tx unit pdu, 0, ()) := by
  show mbap_Pack_m0 mbap_Pack_K1 (tx, unit, pdu) = _
  unfold mbap_Pack_m0
  rw [if_neg (by rw [lt_iff]; simp only [ofNat_eq]; omega)]
  show mbap_Pack_m1 (Int.ofNat pdu.length) (gt (Int.ofNat pdu.length) 253) tx unit pdu = _
  unfold mbap_Pack_m1
  have e : add .i64 7 (Int.ofNat pdu.length) = ((7 + pdu.length : Nat) : Int) := addn64 (n := 7) (by omega)
  rw [if_neg (by rw [gt_iff, ofNat_eq]; omega), e, need_t (capOk_0 (by omega)), need_t (by rw [small_iff]; omega), need_small (by omega), need_small (by simp; omega), cvt8, cvt8, cvt8, shr8 _ _ (by decide), ofNat_eq, succ64 (by omega)]
  rfl
def frameV (link unit tx : Int) (a : TA) : List Int := if link = 2 then mbapV tx unit (askB a) else putV (unit :: askB a)
theorem tcpf_eq {unit tx : Int} {a : TA} (h : OkA a) (hr : rightA a = true) : poll_tcp_frame ((), unit, tx, a, ()) = some (mbapV tx unit (askB a), ()) := by
  show poll_tcp_frame_m0 () unit tx a = _
  unfold poll_tcp_frame_m0
  have hl := askB_len (rightA_RA hr)
  rw [bytes_eq h, if_pos hr, Option.bind_some, if_neg (by show ¬ nei 0 0 = true; decide)]
  dsimp only
  rw [mbap_eq (by omega) (by omega), Option.bind_some, if_neg (by show ¬ nei 0 0 = true; decide)]
theorem rtub_eq {unit : Int} {pdu : List Int} (hu : 1 ≤ unit) (hu2 : unit ≤ 247) (h1 : 1 ≤ pdu.length) (h2 : pdu.length ≤ 253) : rtu_Bytes (unit, pdu, ()) = some (putV (unit :: pdu), 0, ()) := by
  show rtu_Bytes_m0 rtu_Bytes_K1 unit pdu = _
  unfold rtu_Bytes_m0
  have e : rtu_isUnit (unit, ()) = some (true, ()) := by
    show rtu_isUnit_m0 unit = _
    unfold rtu_isUnit_m0
    rw [if_pos (ge_iff.2 hu), le_iff.2 hu2]
  rw [e, Option.bind_some, if_neg (by decide), if_neg (by rw [lt_iff, ofNat_eq]; omega)]
  show rtu_Bytes_m1 unit pdu (gt (Int.ofNat pdu.length) 253) = _
  unfold rtu_Bytes_m1
  rw [if_neg (by rw [gt_iff, ofNat_eq]; omega), need_small (by omega), put_eq (by simp; omega), Option.bind_some]
theorem serf_eq {unit tx : Int} {a : TA} (h : OkA a) (hr : rightA a = true) (hu : 1 ≤ unit) (hu2 : unit ≤ 247) : poll_serial_frame ((), unit, tx, a, ()) = some (putV (unit :: askB a), ()) := by
  show poll_serial_frame_m0 () unit tx a = _
  unfold poll_serial_frame_m0
  have hl := askB_len (rightA_RA hr)
  have e : rtu_Ask (unit, a, ()) = some (putV (unit :: askB a), 0, ()) := by
    show rtu_Ask_m0 unit a = _
    unfold rtu_Ask_m0
    rw [bytes_eq h, if_pos hr, Option.bind_some, if_neg (by show ¬ nei 0 0 = true; decide)]
    dsimp only
    rw [rtub_eq hu hu2 (by omega) (by omega), Option.bind_some]
  rw [e, Option.bind_some, if_neg (by show ¬ nei 0 0 = true; decide)]
/-- a poll that may be -/
structure OkP (p : TP) : Prop where
  u0 : 1 ≤ p.1
  u1 : p.1 ≤ 247
  l : p.2.1 = 1 ∨ p.2.1 = 2
  t0 : 1 ≤ p.2.2.1
  t1 : p.2.2.1 ≤ 100000
  r0 : 0 ≤ p.2.2.2.1
  r1 : p.2.2.2.1 ≤ 1000
  a : OkA p.2.2.2.2.2.1
  x0 : 0 ≤ p.2.2.2.2.2.2.1
  x1 : p.2.2.2.2.2.2.1 ≤ 65535
def nextV (link tx : Int) : Int := if link = 2 then (tx + 1) % 65536 else tx
def sentP (p : TP) : TP := (p.1, p.2.1, p.2.2.1, p.2.2.2.1, p.2.2.2.2.1, p.2.2.2.2.2.1, nextV p.2.1 p.2.2.2.2.2.2.1, p.2.2.1, p.2.2.2.2.2.2.2.2)
def sentB (p : TP) : List Int := frameV p.2.1 p.1 (nextV p.2.1 p.2.2.2.2.2.2.1) p.2.2.2.2.2.1
theorem sent_eq {p : TP} (h : OkP p) (hr : rightA p.2.2.2.2.2.1 = true) : poll_sent (p, ()) = some (sentP p, sentB p, ()) := by
  show poll_sent_m0 p = _
  unfold poll_sent_m0 sentP sentB frameV nextV
  by_cases hl : p.2.1 = 2
  · have e : poll_tcp_next ((), p.2.2.2.2.2.2.1, ()) = some ((p.2.2.2.2.2.2.1 + 1) % 65536, ()) := congrArg (fun x => some (x, ())) (wr16 _)
    rw [if_pos (eqi_iff.2 hl), e, Option.bind_some, tcpf_eq h.a hr, Option.bind_some, if_pos hl, if_pos hl]
  · have e : poll_serial_next ((), p.2.2.2.2.2.2.1, ()) = some (p.2.2.2.2.2.2.1, ()) := rfl
    rw [if_neg (fun e => hl (eqi_iff.1 e)), e, Option.bind_some, serf_eq h.a hr h.u0 h.u1, Option.bind_some, if_neg hl, if_neg hl]
theorem putV_len (b : List Int) : (putV b).length = b.length + 2 := by simp [putV]
theorem sentB_len {p : TP} (hr : rightA p.2.2.2.2.2.1 = true) : 8 ≤ (sentB p).length ∧ (sentB p).length ≤ 260 := by
  have hl := askB_len (rightA_RA hr)
  unfold sentB frameV
  split
  · simp [mbapV]; omega
  · rw [putV_len]; simp; omega
/-! ### what is done with a poll -/
def zA : TA := (0, 0, 0, 0, [], [])
def waitP (p : TP) (a : TA) : TP := (p.1, p.2.1, p.2.2.1, p.2.2.2.1, true, a, p.2.2.2.2.2.2.1, p.2.2.2.2.2.2.2.1, p.2.2.2.1)
theorem send_eq {p : TP} {a : TA} (h : OkP p) (ha : OkA a) : poll_Send (p, a, ()) =
    if p.2.2.2.2.1 = true then some (p, [], 30, ()) else if rightA a = true then some (sentP (waitP p a), sentB (waitP p a), 0, ()) else some (p, [], 12, ()) := by
  show poll_Send_m0 p a = _
  unfold poll_Send_m0
  have h1 := h.a.lw
  have h2 := h.a.lb
  have h3 := ha.lw
  have h4 := ha.lb
  rw [own_eq (by omega) (by omega), Option.bind_some, right_eq ha, Option.bind_some]
  split
  · rfl
  · cases hr : rightA a with
    | false => rfl
    | true =>
      rw [if_neg (by decide), if_pos rfl, copied_eq (by omega) (by omega), Option.bind_some]
      dsimp only
      have hw : OkP (waitP p a) := ⟨h.u0, h.u1, h.l, h.t0, h.t1, h.r0, h.r1, ha, h.x0, h.x1⟩
      have e := sent_eq hw hr
      unfold waitP at e
      rw [e]
      rfl
def dropP (p : TP) : TP := (p.1, p.2.1, p.2.2.1, p.2.2.2.1, false, zA, p.2.2.2.2.2.2.1, 0, 0)
theorem drop_eq (p : TP) : poll_Drop (p, ()) = some (dropP p, ()) := rfl
def leftP (p : TP) (n : Int) : TP := (p.1, p.2.1, p.2.2.1, p.2.2.2.1, p.2.2.2.2.1, p.2.2.2.2.2.1, p.2.2.2.2.2.2.1, n, p.2.2.2.2.2.2.2.2)
def againP (p : TP) (n m : Int) : TP := (p.1, p.2.1, p.2.2.1, p.2.2.2.1, p.2.2.2.2.1, p.2.2.2.2.2.1, p.2.2.2.2.2.2.1, n, m)
def tickV (p : TP) : TP × List Int × Bool :=
  if p.2.2.2.2.1 = true then
    if p.2.2.2.2.2.2.2.1 = 1 then
      if 0 < p.2.2.2.2.2.2.2.2 then (sentP (againP p 0 (p.2.2.2.2.2.2.2.2 - 1)), sentB (againP p 0 (p.2.2.2.2.2.2.2.2 - 1)), false)
      else (dropP p, [], true)
    else (leftP p (p.2.2.2.2.2.2.2.1 - 1), [], false)
  else (p, [], false)
theorem tick_eq {p : TP} (h : OkP p) (hr : p.2.2.2.2.1 = true → rightA p.2.2.2.2.2.1 = true ∧ 1 ≤ p.2.2.2.2.2.2.2.1 ∧ p.2.2.2.2.2.2.2.1 ≤ 100000 ∧ 0 ≤ p.2.2.2.2.2.2.2.2 ∧ p.2.2.2.2.2.2.2.2 ≤ 1000) :
    poll_Tick (p, ()) = some ((tickV p).1, (tickV p).2.1, (tickV p).2.2, ()) := by
  show poll_Tick_m0 p = _
  unfold poll_Tick_m0
  have h1 := h.a.lw
  have h2 := h.a.lb
  rw [own_eq (by omega) (by omega), Option.bind_some]
  dsimp only
  unfold tickV
  by_cases hw : p.2.2.2.2.1 = true
  · obtain ⟨q1, q2, q3, q4, q5⟩ := hr hw
    rw [if_neg (by rw [hw]; decide), if_pos hw, sub64 (by omega) (by omega)]
    by_cases hl : p.2.2.2.2.2.2.2.1 = 1
    · rw [if_neg (by rw [nei_iff]; omega), if_pos hl]
      by_cases hg : 0 < p.2.2.2.2.2.2.2.2
      · rw [if_pos (by rw [gt_iff]; omega), if_pos hg, sub64 (by omega) (by omega), hl]
        have e0 : (1 : Int) - 1 = 0 := rfl
        rw [e0]
        have hw' : OkP (againP p 0 (p.2.2.2.2.2.2.2.2 - 1)) := ⟨h.u0, h.u1, h.l, h.t0, h.t1, h.r0, h.r1, h.a, h.x0, h.x1⟩
        have e := sent_eq hw' q1
        unfold againP at e
        rw [e]
        rfl
      · rw [if_neg (by rw [gt_iff]; omega), if_neg hg, drop_eq, Option.bind_some]
        rfl
    · rw [if_pos (by rw [nei_iff]; omega), if_neg hl]
      rfl
  · have hw' : p.2.2.2.2.1 = false := by simpa using hw
    rw [if_pos (by rw [hw']; rfl), if_neg hw]
def rangesV (u l t r : Int) : Bool := decide ((1 ≤ u ∧ u ≤ 247) ∧ (l = 1 ∨ l = 2) ∧ (1 ≤ t ∧ t ≤ 100000) ∧ 0 ≤ r ∧ r ≤ 1000)
theorem ranges_eq (u l t r : Int) : poll_ranges (u, l, t, r, ()) = some (rangesV u l t r, ()) := by
  show poll_ranges_m0 u l t r = _
  unfold poll_ranges_m0 rangesV
  simp only [ge_iff, le_iff, eqi_iff]
  by_cases h1 : 1 ≤ u <;> by_cases h2 : u ≤ 247 <;> by_cases h5 : 1 ≤ t <;> by_cases h6 : t ≤ 100000 <;> by_cases h7 : 0 ≤ r <;> simp only [h1, h2, h5, h6, h7, if_true, if_false, true_and, false_and, and_false, and_true] <;>
    by_cases h3 : l = 1 <;> by_cases h4 : l = 2 <;> simp [h3, h4, le] <;> omega
def zP : TP := (0, 0, 0, 0, false, zA, 0, 0, 0)
theorem new_eq (u l t r : Int) : poll_New (u, l, t, r, ()) = if rangesV u l t r = true then some ((u, l, t, r, false, zA, 0, 0, 0), 0, ()) else some (zP, 2, ()) := by
  show poll_New_m0 u l t r = _
  unfold poll_New_m0
  rw [ranges_eq, Option.bind_some]
  cases rangesV u l t r <;> rfl
end Go.Proofs.Lx

end

section
/- Replies: which are right, their bytes, and which one bytes are. -/
namespace Pl
open Go Ev Sx
theorem shl8 {y : Int} (h0 : 0 ≤ y) (h1 : y ≤ 255) : shl .u16 (cvt .u16 y) 8 = 256 * y := by
  rw [cvt16]
  unfold shl
  have : min (8 : Int).toNat IntKind.u16.bits = 8 := by decide
  rw [this, wr16]
  omega
theorem bor_hi {a b : Int} (ha : 0 ≤ a) (ha2 : a ≤ 255) (hb : 0 ≤ b) (hb' : b ≤ 255) : bor .u16 (256 * a) b = 256 * a + b := by
  obtain ⟨n, rfl⟩ := Int.eq_ofNat_of_zero_le ha
  obtain ⟨m, rfl⟩ := Int.eq_ofNat_of_zero_le hb
  unfold bor
  rw [wr16]
  have e1 : (BitVec.ofInt IntKind.u16.bits (256 * (n : Int))).toNat = 256 * n := by
    rw [BitVec.toNat_ofInt]
    have : ((2 ^ IntKind.u16.bits : Nat) : Int) = 65536 := by decide
    rw [this]
    omega
  have e2 : (BitVec.ofInt IntKind.u16.bits (m : Int)).toNat = m := by
    rw [BitVec.toNat_ofInt]
    have : ((2 ^ IntKind.u16.bits : Nat) : Int) = 65536 := by decide
    rw [this]
    omega
  rw [BitVec.toNat_or, e1, e2]
  have e3 : 256 * n ||| m = 256 * n + m := by
    have := Nat.two_pow_add_eq_or_of_lt (i := 8) (b := m) (by omega) n
    rw [show (2 : Nat) ^ 8 = 256 from rfl] at this
    exact this.symm
  rw [e3]
  omega
theorem bor_comm {a b : Int} : bor .u16 a b = bor .u16 b a := by
  unfold bor
  rw [BitVec.or_comm]
def numV (y z : Int) : Int := bor .u16 (shl .u16 (cvt .u16 y) 8) (cvt .u16 z)
theorem numV_rng (y z : Int) : 0 ≤ numV y z ∧ numV y z < 65536 := u16_rng _
theorem numV_eq {y z : Int} (h0 : 0 ≤ y) (h1 : y ≤ 255) (h2 : 0 ≤ z) (h3 : z ≤ 255) : numV y z = 256 * y + z := by
  unfold numV
  rw [shl8 h0 h1, cvt16]
  have : z % 65536 = z := by omega
  rw [this, bor_hi h0 h1 h2 h3]
def listS (b : List Int) : List Int := (List.range (b.length / 2)).map fun i => numV (b.getD (2 * i) 0) (b.getD (2 * i + 1) 0)
end Pl
namespace Go.Proofs.Lx
open Go Ev Sx Pl
set_option maxRecDepth 100000
abbrev TR := Int × Int × List Bool × List Int × Int × Int
instance decR5 : DecidableEq (Int × List Bool × List Int × Int × Int) := inferInstance
instance decR : DecidableEq TR := inferInstance
def zR : TR := (0, 0, [], [], 0, 0)
structure SmR (r : TR) : Prop where
  b : r.2.2.1.length ≤ 100000
  w : r.2.2.2.1.length ≤ 100000
theorem zR_sm : SmR zR := ⟨by decide, by decide⟩
theorem sameR_eq {a b : TR} (h : SmR a) : reply_Same (a, b, ()) = some (decide (a = b), ()) := by
  show reply_Same_m0 a b = _
  unfold reply_Same_m0
  have h1 := h.b
  have h2 := h.w
  rw [equalW_eq (by omega), Option.bind_some, equalB_eq (by omega), Option.bind_some]
  obtain ⟨a1, a2, a3, a4, a5, a6⟩ := a
  obtain ⟨b1, b2, b3, b4, b5, b6⟩ := b
  rw [if_dec (eqi_iff) fun _ => if_dec (eqi_iff) fun _ => if_dec (eqi_iff) fun _ => if_dec (eqi_iff) fun _ => if_dec (p := a3 = b3) (by simp) fun _ => rfl]
  refine congrArg (fun x => some (x, ())) ?_
  rw [Bool.eq_iff_iff]
  simp only [Bool.and_eq_true, decide_eq_true_eq, Prod.ext_iff]
  constructor
  · rintro ⟨h1, h2, h3, h4, h5, h6⟩; exact ⟨h1, h2, h5, h6, h3, h4⟩
  · rintro ⟨h1, h2, h5, h6, h3, h4⟩; exact ⟨h1, h2, h3, h4, h5, h6⟩
/-! ### which are right -/
def exR (r : TR) : Bool := decide (r.1 < 128) && (decide (1 ≤ r.2.1) && (decide (r.2.1 ≤ 4) && decide (r = (rem r.1 128, r.2.1, [], [], 0, 0))))
def bitR (r : TR) : Bool := decide (8 ≤ r.2.2.1.length) && (decide (r.2.2.1.length ≤ 2000) && (decide (r.2.2.1.length % 8 = 0) && decide (r = (r.1, 0, r.2.2.1, [], 0, 0))))
def wordR (r : TR) : Bool := decide (1 ≤ r.2.2.2.1.length) && (decide (r.2.2.2.1.length ≤ 125) && decide (r = (r.1, 0, [], r.2.2.2.1, 0, 0)))
def obR (r : TR) : Bool := decide (r.2.2.1.length = 1) && decide (r = (r.1, 0, r.2.2.1, [], r.2.2.2.2.1, 0))
def owR (r : TR) : Bool := decide (r.2.2.2.1.length = 1) && decide (r = (r.1, 0, [], r.2.2.2.1, r.2.2.2.2.1, 0))
def ctR (k : Int) (r : TR) : Bool := decide (1 ≤ r.2.2.2.2.2) && (decide (r.2.2.2.2.2 ≤ k) && decide (r = (r.1, 0, [], [], r.2.2.2.2.1, r.2.2.2.2.2)))
theorem exR_eq {r : TR} (h : SmR r) : reply_exception_right ((), r, ()) = some (exR r, ()) := by
  show reply_exception_right_m0 () r = _
  unfold reply_exception_right_m0 exR
  have e : reply_Wrong (r.1, r.2.1, ()) = some ((rem r.1 128, r.2.1, [], [], 0, 0), ()) := rfl
  rw [e, Option.bind_some, sameR_eq h, Option.bind_some]
  rw [if_dec (lt_iff) fun _ => if_dec (ge_iff) fun _ => if_dec (le_iff) fun _ => rfl]
theorem bitR_eq {r : TR} (h : SmR r) : reply_bitList_right ((), r, ()) = some (bitR r, ()) := by
  show reply_bitList_right_m0 () r = _
  unfold reply_bitList_right_m0 bitR
  rw [sameR_eq h, Option.bind_some]
  rw [if_dec (p := 8 ≤ r.2.2.1.length) (by rw [ge_iff, ofNat_eq]; omega) fun _ => if_dec (p := r.2.2.1.length ≤ 2000) (by rw [le_iff, ofNat_eq]; omega) fun _ => if_dec (p := r.2.2.1.length % 8 = 0) (by rw [eqi_iff, ofNat_eq]; omega) fun _ => rfl]
theorem wordR_eq {r : TR} (h : SmR r) : reply_wordList_right ((), r, ()) = some (wordR r, ()) := by
  show reply_wordList_right_m0 () r = _
  unfold reply_wordList_right_m0 wordR
  rw [sameR_eq h, Option.bind_some]
  rw [if_dec (p := 1 ≤ r.2.2.2.1.length) (by rw [ge_iff, ofNat_eq]; omega) fun _ => if_dec (p := r.2.2.2.1.length ≤ 125) (by rw [le_iff, ofNat_eq]; omega) fun _ => rfl]
theorem obR_eq {r : TR} (h : SmR r) : reply_oneBit_right ((), r, ()) = some (obR r, ()) := by
  show reply_oneBit_right_m0 () r = _
  unfold reply_oneBit_right_m0 obR
  rw [sameR_eq h, Option.bind_some]
  rw [if_dec (p := r.2.2.1.length = 1) (by rw [eqi_iff, ofNat_eq]; omega) fun _ => rfl]
theorem owR_eq {r : TR} (h : SmR r) : reply_oneWord_right ((), r, ()) = some (owR r, ()) := by
  show reply_oneWord_right_m0 () r = _
  unfold reply_oneWord_right_m0 owR
  rw [sameR_eq h, Option.bind_some]
  rw [if_dec (p := r.2.2.2.1.length = 1) (by rw [eqi_iff, ofNat_eq]; omega) fun _ => rfl]
theorem ctR_eq {r : TR} {k : Int} (h : SmR r) : reply_count_right (k, r, ()) = some (ctR k r, ()) := by
  show reply_count_right_m0 k r = _
  unfold reply_count_right_m0 ctR
  rw [sameR_eq h, Option.bind_some]
  rw [if_dec (ge_iff) fun _ => if_dec (le_iff) fun _ => rfl]
def rightR (r : TR) : Bool := if nei r.2.1 0 = true then exR r else if eqi r.1 1 = true then bitR r else if eqi r.1 2 = true then bitR r else if eqi r.1 3 = true then wordR r else if eqi r.1 4 = true then wordR r else if eqi r.1 23 = true then wordR r else
  if eqi r.1 5 = true then obR r else if eqi r.1 6 = true then owR r else if eqi r.1 15 = true then ctR 1968 r else if eqi r.1 16 = true then ctR 123 r else false
theorem rightR_eq {r : TR} (h : SmR r) : reply_Right (r, ()) = some (rightR r, ()) := by
  show reply_Right_m0 r = _
  unfold reply_Right_m0 rightR
  rw [exR_eq h, bitR_eq h, wordR_eq h, obR_eq h, owR_eq h, ctR_eq h, ctR_eq h]
  simp only [Option.bind_some]
  repeat (first | rfl | split)
/-! ### their bytes -/
def exB (r : TR) : List Int := [add .u8 r.1 128, r.2.1]
def bitB (r : TR) : List Int := r.1 :: (packN r.2.2.1.length : Int) % 256 :: packS r.2.2.1
def wordB (r : TR) : List Int := [r.1, 2 * (r.2.2.2.1.length : Int) % 256] ++ r.2.2.2.1.flatMap two
def obB (r : TR) : List Int := r.1 :: two r.2.2.2.2.1 ++ two (if r.2.2.1.headD false = true then 65280 else 0)
def owB (r : TR) : List Int := r.1 :: two r.2.2.2.2.1 ++ two (r.2.2.2.1.headD 0)
def ctB (r : TR) : List Int := r.1 :: two r.2.2.2.2.1 ++ two r.2.2.2.2.2
theorem rnumbers_eq {l out : List Int} (h : out.length + 2 * l.length ≤ 1000000) : reply_numbers (l, out, ()) = some (out ++ l.flatMap two, ()) := by
  show reply_numbers_m0 reply_numbers_K1 l out = _
  unfold reply_numbers_m0 reply_numbers_K1
  refine (loop_idx (xs := l) (mk := fun i acc => (l, Int.ofNat l.length, (i : Int), acc)) (stp := fun o y => o ++ two y) (fin := fun acc => some (acc, ())) (fun i acc => acc.length ≤ out.length + 2 * i) ?_ ?_ ?_ l.length 0 out _ (by omega) (by omega) (by omega)).trans ?_
  · intro self i acc x hx hI
    have hi := (List.getElem?_eq_some_iff.1 hx).1
    show reply_numbers_m1 _ l (Int.ofNat l.length) (i : Int) acc = _
    unfold reply_numbers_m1
    rw [if_pos (by rw [lt_iff, ofNat_eq]; omega), at_get hx, Option.bind_some, need_small (by omega), two_eq, succ64 (by omega)]
  · intro i acc x hx hI
    simp [two]
    omega
  · intro self acc _
    show reply_numbers_m1 _ l (Int.ofNat l.length) (l.length : Int) acc = _
    unfold reply_numbers_m1
    rw [if_neg (by rw [lt_iff, ofNat_eq]; omega)]
  · rw [List.drop_zero, foldl_app]
theorem exB_eq (r : TR) : reply_exception_write ((), r, ()) = some (exB r, ()) := rfl
theorem bitB_eq {r : TR} (h : SmR r) : reply_bitList_write ((), r, ()) = some (bitB r, ()) := by
  show reply_bitList_write_m0 () r = _
  unfold reply_bitList_write_m0
  have hb := h.b
  rw [pack_eq hb, Option.bind_some, need_small (by rw [packS_len]; unfold packN; omega), packS_len]
  rfl
theorem wordB_eq {r : TR} (h : SmR r) : reply_wordList_write ((), r, ()) = some (wordB r, ()) := by
  show reply_wordList_write_m0 () r = _
  unfold reply_wordList_write_m0
  have hw := h.w
  rw [mul64 (by rw [ofNat_eq]; omega) (by rw [ofNat_eq]; omega), cvt8, rnumbers_eq (by simp; omega), Option.bind_some]
  rfl
theorem obB_eq {r : TR} (h : obR r = true) : reply_oneBit_write ((), r, ()) = some (obB r, ()) := by
  unfold obR at h
  rw [Bool.and_eq_true] at h
  obtain ⟨x, hx⟩ := List.length_eq_one_iff.1 (of_decide_eq_true h.1)
  show reply_oneBit_write_m0 reply_oneBit_write_K1 () r = _
  unfold reply_oneBit_write_m0
  rw [hx, at_zero, Option.bind_some]
  have key : ∀ (v : Int) (r2 : Int) (r3 : List Bool) (r4 : List Int) (r6 : Int), reply_oneBit_write_K1 v r.1 r2 r3 r4 r.2.2.2.2.1 r6 = some (r.1 :: two r.2.2.2.2.1 ++ two v, ()) := fun v r2 r3 r4 r6 => by
    unfold reply_oneBit_write_K1 reply_oneBit_write_m1
    rw [rnumbers_eq (by simp), Option.bind_some]
    simp
  unfold obB
  rw [hx]
  cases x with
  | true => rw [if_pos rfl, key]; rfl
  | false => rw [if_neg (by decide), key]; rfl
theorem amb_same {R : Type} {eq : R → R → Bool} (h : ∀ x, eq x x = true) (o : R) : amb eq [some o, some o] = some o := by
  show (if eq o o = true then some o else none) = _
  rw [if_pos (h o)]
theorem eqAs_refl : ∀ (rs : List Ty) (x : As rs), eqAs rs x x = true
  | [], _ => rfl
  | t :: r, x => by
    show (eqV t x.1 x.1 && eqAs r x.2 x.2) = true
    rw [eqV_refl, eqAs_refl r]
    rfl
theorem owB_eq {r : TR} (h : owR r = true) : reply_oneWord_write ((), r, ()) = some (owB r, ()) := by
  unfold owR at h
  rw [Bool.and_eq_true] at h
  obtain ⟨x, hx⟩ := List.length_eq_one_iff.1 (of_decide_eq_true h.1)
  show reply_oneWord_write_m0 () r = _
  unfold reply_oneWord_write_m0
  rw [hx, at_zero, Option.bind_some, rnumbers_eq (by simp), Option.bind_some, amb_same (eqAs_refl _)]
  unfold owB
  rw [hx]
  simp
theorem ctB_eq (k : Int) (r : TR) : reply_count_write (k, r, ()) = some (ctB r, ()) := by
  show reply_count_write_m0 k r = _
  unfold reply_count_write_m0
  rw [rnumbers_eq (by simp), Option.bind_some]
  simp [ctB]
/-! ### what bytes may be -/
theorem rlist_eq {b : List Int} (h : b.length ≤ 100000) : reply_list (b, ()) = some (listS b, ()) := by
  show reply_list_m0 reply_list_K1 b = _
  unfold reply_list_m0
  have hq : quo .i64 (Int.ofNat b.length) 2 = ((b.length / 2 : Nat) : Int) := quo_nat (d := 2) (by omega)
  rw [hq, need_t (by rw [ge_iff]; omega), need_t (capOk_self _), Int.toNat_natCast, need_small (by omega), List.length_replicate]
  unfold reply_list_K1 listS
  refine (loop_det (mk := fun i => (b, Int.ofNat (b.length / 2), (i : Int), (List.range i).map (fun i => numV (b.getD (2 * i) 0) (b.getD (2 * i + 1) 0)) ++ (List.replicate (b.length / 2) (0 : Int)).drop i)) (N := b.length / 2) ?_ ?_ (b.length / 2) 0 _ (by omega) (by omega))
  · intro self i hi
    show reply_list_m1 _ b (Int.ofNat (b.length / 2)) (i : Int) _ = _
    unfold reply_list_m1
    have hm : mul .i64 2 (i : Int) = ((2 * i : Nat) : Int) := by
      rw [mul64 (by omega) (by omega)]
      simp
    have h1 : b[2 * i]? = some (b[2 * i]'(by omega)) := List.getElem?_eq_getElem (by omega)
    have h2 : b[2 * i + 1]? = some (b[2 * i + 1]'(by omega)) := List.getElem?_eq_getElem (by omega)
    have ho : ((List.range i).map (fun i => numV (b.getD (2 * i) 0) (b.getD (2 * i + 1) 0)) ++ (List.replicate (b.length / 2) (0 : Int)).drop i)[i]? = some (((List.range i).map (fun i => numV (b.getD (2 * i) 0) (b.getD (2 * i + 1) 0)) ++ (List.replicate (b.length / 2) (0 : Int)).drop i)[i]'(by simp; omega)) := List.getElem?_eq_getElem (by simp; omega)
    rw [if_pos (by rw [lt_iff, ofNat_eq]; omega), hm, succ64 (by omega), at_get h1, at_get h2, at_get ho, succ64 (by omega), Int.toNat_natCast]
    simp only [Option.bind_some]
    have e : bor .u16 (shl .u16 (cvt .u16 (b[2 * i]'(by omega))) 8) (cvt .u16 (b[2 * i + 1]'(by omega))) = numV (b.getD (2 * i) 0) (b.getD (2 * i + 1) 0) := by
      rw [List.getD_eq_getElem?_getD, List.getD_eq_getElem?_getD, h1, h2]
      rfl
    rw [e, fill_step (f := fun i => numV (b.getD (2 * i) 0) (b.getD (2 * i + 1) 0)) (by simp; omega)]
  · intro self
    show reply_list_m1 _ b (Int.ofNat (b.length / 2)) ((b.length / 2 : Nat) : Int) _ = _
    unfold reply_list_m1
    rw [if_neg (by rw [lt_iff, ofNat_eq]; omega), List.drop_of_length_le (by simp), List.append_nil]
end Go.Proofs.Lx

end

section
/- Which reply bytes are; which replies fit. -/
namespace Go.Proofs.Lx
open Go Ev Sx Pl
set_option maxRecDepth 100000
theorem listS_len (b : List Int) : (listS b).length = b.length / 2 := by simp [listS]
theorem unpackS_len (b : List Int) : (unpackS b).length = 8 * b.length := by simp [unpackS]
def exC (x y : Int) : TR := (rem x 128, y, [], [], 0, 0)
def bitC (x : Int) (r : List Int) : TR := (x, 0, unpackS r, [], 0, 0)
def wordC (x : Int) (r : List Int) : TR := (x, 0, [], listS r, 0, 0)
/-- two numbers behind the function -/
def pairC (f : Int → Int → TR) (r : List Int) : TR := match listS r with
  | p :: q :: _ => f p q
  | _ => zR
def obC (x : Int) : List Int → TR := pairC fun p q => (x, 0, [eqi q 65280], [], p, 0)
def owC (x : Int) : List Int → TR := pairC fun p q => (x, 0, [], [q], p, 0)
def ctC (x : Int) : List Int → TR := pairC fun p q => (x, 0, [], [], p, q)
theorem cut_tail {α : Type} (x : α) (r : List α) : cut (x :: r) 1 (Int.ofNat (x :: r).length) = some r := cut_one x r
theorem cut_two {α : Type} (x y : α) (r : List α) : cut (x :: y :: r) 2 (Int.ofNat (x :: y :: r).length) = some r := by
  have := cut_from (xs := x :: y :: r) (i := 2) (by simp)
  simpa using this
theorem exC_eq (x y : Int) (r : List Int) : reply_exception_read ((), x :: y :: r, ()) = some (exC x y, ()) := rfl
theorem bitC_eq (x y : Int) {r : List Int} (h : r.length ≤ 1000) : reply_bitList_read ((), x :: y :: r, ()) = some (bitC x r, ()) := by
  show reply_bitList_read_m0 () (x :: y :: r) = _
  unfold reply_bitList_read_m0
  rw [at_zero, Option.bind_some, cut_two, Option.bind_some, unpack_eq (by omega), Option.bind_some]
  rfl
theorem wordC_eq (x y : Int) {r : List Int} (h : r.length ≤ 1000) : reply_wordList_read ((), x :: y :: r, ()) = some (wordC x r, ()) := by
  show reply_wordList_read_m0 () (x :: y :: r) = _
  unfold reply_wordList_read_m0
  rw [at_zero, Option.bind_some, cut_two, Option.bind_some, rlist_eq (by omega), Option.bind_some]
  rfl
theorem pair_cases (l : List Int) : (l.length < 2 ∧ ∀ (f : Int → Int → TR), (match l with | p :: q :: _ => f p q | _ => zR) = zR) ∨ ∃ p q r, l = p :: q :: r := by
  match l with
  | [] => exact .inl ⟨by decide, fun _ => rfl⟩
  | [_] => exact .inl ⟨by show 1 < 2; decide, fun _ => rfl⟩
  | p :: q :: r => exact .inr ⟨p, q, r, rfl⟩
theorem at_one {α : Type} (p q : α) (r : List α) : at? (p :: q :: r) 1 = some q := rfl
theorem obC_eq (x : Int) {r : List Int} (h : r.length ≤ 1000) : reply_oneBit_read ((), x :: r, ()) = some (obC x r, ()) := by
  show reply_oneBit_read_m0 () (x :: r) = _
  unfold reply_oneBit_read_m0 obC pairC
  rw [cut_tail, Option.bind_some, rlist_eq (by omega), Option.bind_some]
  rcases pair_cases (listS r) with ⟨h1, h2⟩ | ⟨p, q, s, h1⟩
  · dsimp only
    rw [h2, if_pos (by rw [lt_iff, ofNat_eq]; omega)]
    rfl
  · dsimp only
    rw [h1, if_neg (by rw [lt_iff, ofNat_eq]; simp; omega), at_zero, at_zero, at_one]
    rfl
theorem owC_eq (x : Int) {r : List Int} (h : r.length ≤ 1000) : reply_oneWord_read ((), x :: r, ()) = some (owC x r, ()) := by
  show reply_oneWord_read_m0 () (x :: r) = _
  unfold reply_oneWord_read_m0 owC pairC
  rw [cut_tail, Option.bind_some, rlist_eq (by omega), Option.bind_some]
  rcases pair_cases (listS r) with ⟨h1, h2⟩ | ⟨p, q, s, h1⟩
  · dsimp only
    rw [h2, if_pos (by rw [lt_iff, ofNat_eq]; omega)]
    rfl
  · dsimp only
    rw [h1, if_neg (by rw [lt_iff, ofNat_eq]; simp; omega), at_zero, at_zero, at_one]
    rfl
theorem ctC_eq (k : Int) (x : Int) {r : List Int} (h : r.length ≤ 1000) : reply_count_read (k, x :: r, ()) = some (ctC x r, ()) := by
  show reply_count_read_m0 k (x :: r) = _
  unfold reply_count_read_m0 ctC pairC
  rw [cut_tail, Option.bind_some, rlist_eq (by omega), Option.bind_some]
  rcases pair_cases (listS r) with ⟨h1, h2⟩ | ⟨p, q, s, h1⟩
  · dsimp only
    rw [h2, if_pos (by rw [lt_iff, ofNat_eq]; omega)]
    rfl
  · dsimp only
    rw [h1, if_neg (by rw [lt_iff, ofNat_eq]; simp; omega), at_zero, at_zero, at_one]
    rfl
theorem pairC_sm {f : Int → Int → TR} (h : ∀ p q, SmR (f p q)) (r : List Int) : SmR (pairC f r) := by
  unfold pairC
  split
  · exact h _ _
  · exact zR_sm
def chkV (b : List Int) (c : TR) (ok : Bool) (w : List Int) : TR × Int := if ok = true then if eqs (toS w) (toS b) = true then (c, 0) else (zR, 13) else (zR, 13)
theorem chk_eq {b : List Int} {c : TR} {ok : Bool} {w : List Int} {rd : Option (TR × Unit)} {rt : TR → Option (Bool × Unit)} {wt : TR → Option (List Int × Unit)} (h1 : rd = some (c, ())) (h2 : rt c = some (ok, ())) (h3 : ok = true → wt c = some (w, ())) :
    (Option.bind rd fun y => Option.bind (rt y.1) fun y_1 => if (!y_1.1) = true then some ((0, 0, [], [], 0, 0), 13, ()) else Option.bind (wt y.1) fun y_2 => Option.bind (bytes_Equal (y_2.1, b, ())) fun y_3 => if (!y_3.1) = true then some ((0, 0, [], [], 0, 0), 13, ()) else (some (y.1, 0, ()) : Option (TR × Int × Unit))) = some ((chkV b c ok w).1, (chkV b c ok w).2, ()) := by
  rw [h1, Option.bind_some, h2, Option.bind_some]
  unfold chkV
  cases ok with
  | false => rfl
  | true =>
    rw [if_neg (by decide), h3 rfl, Option.bind_some, if_pos rfl]
    show Option.bind (some (eqs (toS w) (toS b), ())) _ = _
    rw [Option.bind_some]
    cases eqs (toS w) (toS b) <;> rfl
theorem if_pair {c : Prop} [Decidable c] {A B : Option (TR × Int × Unit)} {a b : TR × Int} (h1 : A = some (a.1, a.2, ())) (h2 : B = some (b.1, b.2, ())) : (if c then A else B) = some ((if c then a else b).1, (if c then a else b).2, ()) := by
  by_cases h : c
  · rw [if_pos h, if_pos h, h1]
  · rw [if_neg h, if_neg h, h2]
def parseQ (x y : Int) (r : List Int) : TR × Int := if 251 < r.length then (zR, 13) else if lt x 128 = true then
      if eqi x 1 = true then chkV (x :: y :: r) (bitC x r) (bitR (bitC x r)) (bitB (bitC x r)) else if eqi x 2 = true then chkV (x :: y :: r) (bitC x r) (bitR (bitC x r)) (bitB (bitC x r)) else
      if eqi x 3 = true then chkV (x :: y :: r) (wordC x r) (wordR (wordC x r)) (wordB (wordC x r)) else if eqi x 4 = true then chkV (x :: y :: r) (wordC x r) (wordR (wordC x r)) (wordB (wordC x r)) else
      if eqi x 23 = true then chkV (x :: y :: r) (wordC x r) (wordR (wordC x r)) (wordB (wordC x r)) else if eqi x 5 = true then chkV (x :: y :: r) (obC x (y :: r)) (obR (obC x (y :: r))) (obB (obC x (y :: r))) else
      if eqi x 6 = true then chkV (x :: y :: r) (owC x (y :: r)) (owR (owC x (y :: r))) (owB (owC x (y :: r))) else if eqi x 15 = true then chkV (x :: y :: r) (ctC x (y :: r)) (ctR 1968 (ctC x (y :: r))) (ctB (ctC x (y :: r))) else
      if eqi x 16 = true then chkV (x :: y :: r) (ctC x (y :: r)) (ctR 123 (ctC x (y :: r))) (ctB (ctC x (y :: r))) else (zR, 13)
    else chkV (x :: y :: r) (exC x y) (exR (exC x y)) (exB (exC x y))
def parseR : List Int → TR × Int
  | x :: y :: r => parseQ x y r
  | _ => (zR, 13)
theorem parse_eq (b : List Int) : reply_Parse (b, ()) = some ((parseR b).1, (parseR b).2, ()) := by
  show reply_Parse_m0 reply_Parse_K1 b = _
  unfold reply_Parse_m0
  match b with
  | [] => rfl
  | [_] => rfl
  | x :: y :: r =>
    rw [if_neg (by rw [lt_iff, ofNat_eq]; simp; omega)]
    show _ = some ((parseQ x y r).1, (parseQ x y r).2, ())
    unfold reply_Parse_K1 reply_Parse_m1 parseQ
    by_cases hl : 251 < r.length
    · rw [if_pos (by rw [gt_iff, ofNat_eq]; simp; omega), if_pos hl]
      rfl
    · rw [if_neg (by rw [gt_iff, ofNat_eq]; simp; omega), if_neg hl, at_zero, Option.bind_some, Option.bind_some]
      have sb : SmR (bitC x r) := ⟨by show (unpackS r).length ≤ _; rw [unpackS_len]; omega, by show 0 ≤ 100000; decide⟩
      have sw : SmR (wordC x r) := ⟨by show 0 ≤ 100000; decide, by show (listS r).length ≤ _; rw [listS_len]; omega⟩
      have so : SmR (obC x (y :: r)) := pairC_sm (fun p q => ⟨by show 1 ≤ 100000; decide, by show 0 ≤ 100000; decide⟩) _
      have su : SmR (owC x (y :: r)) := pairC_sm (fun p q => ⟨by show 0 ≤ 100000; decide, by show 1 ≤ 100000; decide⟩) _
      have sc : SmR (ctC x (y :: r)) := pairC_sm (fun p q => ⟨by show 0 ≤ 100000; decide, by show 0 ≤ 100000; decide⟩) _
      have se : SmR (exC x y) := ⟨by show 0 ≤ 100000; decide, by show 0 ≤ 100000; decide⟩
      have hr : (y :: r).length ≤ 1000 := by simp; omega
      have kb := chk_eq (b := x :: y :: r) (rt := fun c => reply_bitList_right ((), c, ())) (wt := fun c => reply_bitList_write ((), c, ())) (bitC_eq x y (by omega)) (bitR_eq sb) (fun _ => bitB_eq sb)
      have kw := chk_eq (b := x :: y :: r) (rt := fun c => reply_wordList_right ((), c, ())) (wt := fun c => reply_wordList_write ((), c, ())) (wordC_eq x y (by omega)) (wordR_eq sw) (fun _ => wordB_eq sw)
      have ko := chk_eq (b := x :: y :: r) (rt := fun c => reply_oneBit_right ((), c, ())) (wt := fun c => reply_oneBit_write ((), c, ())) (obC_eq x hr) (obR_eq so) (fun h => obB_eq h)
      have ku := chk_eq (b := x :: y :: r) (rt := fun c => reply_oneWord_right ((), c, ())) (wt := fun c => reply_oneWord_write ((), c, ())) (owC_eq x hr) (owR_eq su) (fun h => owB_eq h)
      have kc := fun k => chk_eq (b := x :: y :: r) (rt := fun c => reply_count_right (k, c, ())) (wt := fun c => reply_count_write (k, c, ())) (ctC_eq k x hr) (ctR_eq sc) (fun _ => ctB_eq k _)
      have ke := chk_eq (b := x :: y :: r) (rt := fun c => reply_exception_right ((), c, ())) (wt := fun c => reply_exception_write ((), c, ())) (exC_eq x y r) (exR_eq se) (fun _ => exB_eq _)
      exact if_pair (if_pair kb (if_pair kb (if_pair kw (if_pair kw (if_pair kw (if_pair ko (if_pair ku (if_pair (kc _) (if_pair (kc _) rfl))))))))) ke
end Go.Proofs.Lx

end

section
/- Frames that are read; which replies are taken. -/
namespace Go.Proofs.Lx
open Go Ev Sx Pl
set_option maxRecDepth 100000
def cutV (b : List Int) : List Int × Int :=
  if b.length < 2 then ([], 10) else
  if sumV (b.take (b.length - 2)) = numV (b.getD (b.length - 1) 0) (b.getD (b.length - 2) 0) then (b.take (b.length - 2), 0) else ([], 11)
theorem fill_all {α : Type} {z : α} {n : Nat} {y : List α} (h : y.length = n) : [] ++ List.take (Int.toNat (Int.ofNat (List.length (List.replicate n z)))) y ++ List.drop (0 + List.length (List.take (Int.toNat (Int.ofNat (List.length (List.replicate n z)))) y)) (List.replicate n z) = y := by
  rw [List.length_replicate, ofNat_eq, Int.toNat_natCast, List.take_of_length_le (by omega), List.drop_of_length_le (by simp; omega)]
  simp
theorem fill_take {α : Type} {z : α} {n : Nat} {y : List α} (h : n ≤ y.length) : [] ++ List.take (Int.toNat (Int.ofNat (List.length (List.replicate n z)))) y ++ List.drop (0 + List.length (List.take (Int.toNat (Int.ofNat (List.length (List.replicate n z)))) y)) (List.replicate n z) = y.take n := by
  rw [List.length_replicate, ofNat_eq, Int.toNat_natCast, List.drop_of_length_le (by simp; omega)]
  simp
theorem ccut_eq {b : List Int} (h : b.length ≤ 100000) : crc_Cut (b, ()) = some ((cutV b).1, (cutV b).2, ()) := by
  show crc_Cut_m0 b = _
  unfold crc_Cut_m0 cutV
  by_cases h2 : b.length < 2
  · rw [if_pos (by rw [lt_iff, ofNat_eq]; omega), if_pos h2]
  · have e1 : sub .i64 (Int.ofNat b.length) 2 = ((b.length - 2 : Nat) : Int) := by
      rw [sub64 (by rw [ofNat_eq]; omega) (by rw [ofNat_eq]; omega), ofNat_eq]
      omega
    have g1 : b[b.length - 2]? = some (b[b.length - 2]'(by omega)) := List.getElem?_eq_getElem (by omega)
    have g2 : b[b.length - 2 + 1]? = some (b[b.length - 2 + 1]'(by omega)) := List.getElem?_eq_getElem (by omega)
    rw [if_neg (by rw [lt_iff, ofNat_eq]; omega), if_neg h2, e1, cut_to (by omega), Option.bind_some, succ64 (by omega), at_get g1, Option.bind_some, at_get g2, Option.bind_some, sum_eq (by simp; omega), Option.bind_some]
    have e2 : bor .u16 (cvt .u16 (b[b.length - 2]'(by omega))) (shl .u16 (cvt .u16 (b[b.length - 2 + 1]'(by omega))) 8) = numV (b.getD (b.length - 1) 0) (b.getD (b.length - 2) 0) := by
      rw [bor_comm]
      have e3 : b.length - 1 = b.length - 2 + 1 := by omega
      rw [e3, List.getD_eq_getElem?_getD, List.getD_eq_getElem?_getD, g1, g2]
      rfl
    rw [e2]
    by_cases hs : sumV (b.take (b.length - 2)) = numV (b.getD (b.length - 1) 0) (b.getD (b.length - 2) 0)
    · rw [if_neg (by rw [nei_iff]; exact fun e => e hs), if_pos hs, need_t (by rw [ge_iff]; omega), need_t (capOk_self _), Int.toNat_natCast, need_small (by omega), need_t (by rw [le_iff]; simp only [List.length_replicate, ofNat_eq]; omega), fill_take (by omega)]
    · rw [if_pos (by rw [nei_iff]; exact hs), if_neg hs]
theorem isUnit_eq (u : Int) : rtu_isUnit (u, ()) = some (decide (1 ≤ u) && decide (u ≤ 247), ()) := by
  show rtu_isUnit_m0 u = _
  unfold rtu_isUnit_m0
  rw [if_dec (ge_iff) fun _ => rfl]
  rfl
def rtuV (b : List Int) : Int × List Int × Int :=
  if b.length < 4 ∨ 256 < b.length then (0, [], 10) else
  if (cutV b).2 ≠ 0 then (0, [], (cutV b).2) else
  match (cutV b).1 with
  | [] => (0, [], 10)
  | x :: r => if (decide (1 ≤ x) && decide (x ≤ 247)) = true then (x, r, 0) else (0, [], 10)
theorem cutV_len {b : List Int} (h : (cutV b).2 = 0) : (cutV b).1.length = b.length - 2 := by
  unfold cutV at h ⊢
  split
  · rename_i h1; rw [if_pos h1] at h; cases h
  · rename_i h1
    rw [if_neg h1] at h
    split
    · simp
    · rename_i h2; rw [if_neg h2] at h; cases h
theorem rtup_eq (b : List Int) : rtu_Parse (b, ()) = some ((rtuV b).1, (rtuV b).2.1, (rtuV b).2.2, ()) := by
  show rtu_Parse_m0 rtu_Parse_K1 b = _
  have K : ∀ t, rtu_Parse_K1 b t = rtu_Parse_m1 b t := fun _ => rfl
  unfold rtu_Parse_m0 rtuV
  rw [K, K]
  by_cases h : b.length < 4
  · rw [if_pos (by rw [lt_iff, ofNat_eq]; omega), if_pos (.inl h)]
    rfl
  · rw [if_neg (by rw [lt_iff, ofNat_eq]; omega)]
    unfold rtu_Parse_m1
    by_cases h2 : 256 < b.length
    · rw [if_pos (by rw [gt_iff, ofNat_eq]; omega), if_pos (.inr h2)]
    · rw [if_neg (by rw [gt_iff, ofNat_eq]; omega), if_neg (by omega), ccut_eq (by omega), Option.bind_some]
      dsimp only
      by_cases h3 : (cutV b).2 = 0
      · rw [if_neg (by rw [nei_iff]; exact fun e => e h3), if_neg (fun e => e h3)]
        have hl := cutV_len h3
        match hc : (cutV b).1 with
        | [] => rw [hc] at hl; simp at hl; omega
        | x :: r =>
          rw [at_zero, Option.bind_some, isUnit_eq, Option.bind_some, Option.bind_some]
          show _ = some ((if (decide (1 ≤ x) && decide (x ≤ 247)) = true then (x, r, 0) else (0, [], 10)).1, (if (decide (1 ≤ x) && decide (x ≤ 247)) = true then (x, r, 0) else (0, [], 10)).2.1, (if (decide (1 ≤ x) && decide (x ≤ 247)) = true then (x, r, 0) else (0, [], 10)).2.2, ())
          cases decide (1 ≤ x) && decide (x ≤ 247) with
          | false => rfl
          | true =>
            have e : cut (x :: r) 1 (Int.ofNat (x :: r).length) = some r := cut_one x r
            rw [if_neg (by decide), e, Option.bind_some, need_t (by rw [le_iff]; omega), need_t (by rw [le_iff]; omega), if_pos rfl]
      · rw [if_pos (by rw [nei_iff]; exact h3), if_pos h3]
def serV (unit : Int) (b : List Int) : Option TR :=
  if (rtuV b).2.2 ≠ 0 then none else if (rtuV b).1 ≠ unit then none else
  if (parseR (rtuV b).2.1).2 ≠ 0 then none else some (parseR (rtuV b).2.1).1
def outF : Option TR → Option (TR × Bool × Unit)
  | some r => some (r, true, ())
  | none => some (zR, false, ())
theorem serfind_eq (unit tx : Int) (b : List Int) : poll_serial_find ((), unit, tx, b, ()) = outF (serV unit b) := by
  show poll_serial_find_m0 () unit tx b = _
  unfold poll_serial_find_m0
  have e : rtu_Reply (unit, b, ()) = if (rtuV b).2.2 ≠ 0 then some (zR, (rtuV b).2.2, ()) else if (rtuV b).1 ≠ unit then some (zR, 10, ()) else some ((parseR (rtuV b).2.1).1, (parseR (rtuV b).2.1).2, ()) := by
    show rtu_Reply_m0 unit b = _
    unfold rtu_Reply_m0
    rw [rtup_eq, Option.bind_some]
    dsimp only
    rw [parse_eq, Option.bind_some]
    simp only [nei_iff]
    repeat' split
    all_goals first | rfl | contradiction
  rw [e]
  unfold serV
  by_cases h1 : (rtuV b).2.2 = 0
  · by_cases h2 : (rtuV b).1 = unit
    · by_cases h3 : (parseR (rtuV b).2.1).2 = 0
      · simp [h1, h2, h3, nei, outF]
      · simp [h1, h2, h3, nei, outF, zR]
    · simp [h1, h2, nei, outF, zR]
  · simp [h1, nei, outF, zR]
/-! ### frames over TCP -/
def beginsV (b2 b3 b4 b5 : Int) : Bool := !nei b2 0 && (!nei b3 0 && (!nei b4 0 && (!lt b5 2 && !gt (cvt .i64 b5) 254)))
theorem bstep {self : List Int → Int → Option (As [.bool])} {b : List Int} {i y : Int} (hi : i < 5) (hl : i < Int.ofNat b.length) (hy : at? b i = some y) :
    mbap_begins_m1 (mbap_begins_K2 self) self b i = if nei y 0 = true then some (false, ()) else self b (add .i64 i 1) := by
  have e5 : eqi i 5 = false := by
    rw [← Bool.not_eq_true, eqi_iff]
    omega
  unfold mbap_begins_m1
  rw [if_pos (by rw [lt_iff]; omega), lt_iff.2 hl]
  unfold mbap_begins_K2 mbap_begins_m2
  rw [if_pos rfl, if_pos (lt_iff.2 hi), hy, Option.bind_some]
  unfold mbap_begins_K3 mbap_begins_m3
  cases nei y 0 with
  | true => rfl
  | false =>
    simp only [e5, Bool.false_eq_true, if_false]
    rfl
theorem bstep5 {self : List Int → Int → Option (As [.bool])} {b : List Int} {y : Int} (hl : 5 < Int.ofNat b.length) (hy : at? b 5 = some y) :
    mbap_begins_m1 (mbap_begins_K2 self) self b 5 = if lt y 2 = true then some (false, ()) else if gt (cvt .i64 y) 254 = true then some (false, ()) else self b 6 := by
  unfold mbap_begins_m1
  rw [if_pos (by decide), lt_iff.2 hl]
  unfold mbap_begins_K2 mbap_begins_m2
  rw [if_pos rfl, if_neg (by decide)]
  unfold mbap_begins_K3 mbap_begins_m3
  rw [if_neg (by decide), if_pos (by decide), hy, Option.bind_some, Option.bind_some]
  cases lt y 2 with
  | true => rfl
  | false => cases gt (cvt .i64 y) 254 <;> rfl
theorem bstep6 {self : List Int → Int → Option (As [.bool])} {b : List Int} : mbap_begins_m1 (mbap_begins_K2 self) self b 6 = some (true, ()) := rfl
theorem begins_eq (b0 b1 b2 b3 b4 b5 b6 b7 : Int) (r : List Int) : mbap_begins (b0 :: b1 :: b2 :: b3 :: b4 :: b5 :: b6 :: b7 :: r, ()) = some (beginsV b2 b3 b4 b5, ()) := by
  show mbap_begins_m0 mbap_begins_K1 _ = _
  unfold mbap_begins_m0 mbap_begins_K1 beginsV
  have hlen : (Int.ofNat (b0 :: b1 :: b2 :: b3 :: b4 :: b5 :: b6 :: b7 :: r).length) = (r.length : Int) + 8 := by rw [ofNat_eq]; simp; omega
  generalize hb : b0 :: b1 :: b2 :: b3 :: b4 :: b5 :: b6 :: b7 :: r = b at hlen ⊢
  have h2 : at? b 2 = some b2 := by rw [← hb]; rfl
  have h3 : at? b 3 = some b3 := by rw [← hb]; rfl
  have h4 : at? b 4 = some b4 := by rw [← hb]; rfl
  have h5 : at? b 5 = some b5 := by rw [← hb]; rfl
  have key : ∀ n : Nat, loopF (fun (self : (List Int) × (Int) → Option (As [.bool])) (s : (List Int) × (Int)) => mbap_begins_m1 (mbap_begins_K2 (fun b i => self (b, i))) (fun b i => self (b, i)) s.1 s.2) (n + 5) (b, 2) =
      some (!nei b2 0 && (!nei b3 0 && (!nei b4 0 && (!lt b5 2 && !gt (cvt .i64 b5) 254))), ()) := by
    intro n
    rw [loopF_succ]
    refine (bstep (by decide) (by rw [hlen]; omega) h2).trans ?_
    cases nei b2 0 with
    | true => rfl
    | false =>
      rw [if_neg (by decide), loopF_succ]
      refine (bstep (i := 3) (by decide) (by rw [hlen]; omega) h3).trans ?_
      cases nei b3 0 with
      | true => rfl
      | false =>
        rw [if_neg (by decide), loopF_succ]
        refine (bstep (i := 4) (by decide) (by rw [hlen]; omega) h4).trans ?_
        cases nei b4 0 with
        | true => rfl
        | false =>
          rw [if_neg (by decide), loopF_succ]
          refine (bstep5 (by rw [hlen]; omega) h5).trans ?_
          cases lt b5 2 with
          | true => rfl
          | false =>
            cases gt (cvt .i64 b5) 254 with
            | true => rfl
            | false =>
              rw [if_neg (by decide), if_neg (by decide), loopF_succ]
              exact bstep6
  exact key 18446744073709551611
def zM : Int × Int × List Int := (0, 0, [])
def mbapP : List Int → (Int × Int × List Int) × Int
  | b0 :: b1 :: b2 :: b3 :: b4 :: b5 :: b6 :: r =>
    if r = [] then (zM, 10) else if beginsV b2 b3 b4 b5 = true then if (r.length : Int) + 1 = b5 then ((numV b0 b1, b6, r), 0) else (zM, 10) else (zM, 10)
  | _ => (zM, 10)
theorem mparse_eq {b : List Int} (hl : b.length ≤ 100000) (hb : ∀ x ∈ b, 0 ≤ x ∧ x ≤ 255) : mbap_Parse (b, ()) = some ((mbapP b).1, (mbapP b).2, ()) := by
  show mbap_Parse_m0 mbap_Parse_K1 b = _
  unfold mbap_Parse_m0
  have short : b.length ≤ 7 → mbap_first (b, ()) = some (zM, 0, ()) := fun h => by
    show mbap_first_m0 mbap_first_K1 b = _
    unfold mbap_first_m0
    rw [if_pos (by rw [le_iff, ofNat_eq]; omega)]
    rfl
  have shortP : b.length ≤ 7 → mbapP b = (zM, 10) := fun h => by
    match b with
    | [] | [_] | [_, _] | [_, _, _] | [_, _, _, _] | [_, _, _, _, _] | [_, _, _, _, _, _] => rfl
    | [_, _, _, _, _, _, _] => rfl
    | _ :: _ :: _ :: _ :: _ :: _ :: _ :: _ :: _ => exact absurd h (by simp)
  by_cases hs : b.length ≤ 7
  · rw [short hs, shortP hs]
    rfl
  · match b with
    | [] | [_] | [_, _] | [_, _, _] | [_, _, _, _] | [_, _, _, _, _] | [_, _, _, _, _, _] => simp at hs
    | [_, _, _, _, _, _, _] => simp at hs
    | b0 :: b1 :: b2 :: b3 :: b4 :: b5 :: b6 :: b7 :: r =>
      have h5 := hb b5 (by simp)
      have hlr : r.length ≤ 100000 := by simp at hl; omega
      have e5 : cvt .i64 b5 = b5 := cvt64 (by omega) (by omega)
      have hF : mbap_first (b0 :: b1 :: b2 :: b3 :: b4 :: b5 :: b6 :: b7 :: r, ()) = if beginsV b2 b3 b4 b5 = true then if (r.length : Int) + 2 < b5 then some (zM, 0, ()) else some ((numV b0 b1, b6, (b7 :: r).take (b5 - 1).toNat), 6 + b5, ()) else some (zM, 0, ()) := by
        show mbap_first_m0 mbap_first_K1 _ = _
        unfold mbap_first_m0
        rw [if_neg (by rw [le_iff, ofNat_eq]; simp; omega), begins_eq, Option.bind_some]
        cases hbg : beginsV b2 b3 b4 b5 with
        | false => rfl
        | true =>
          rw [if_pos rfl]
          have h52 : 2 ≤ b5 := by
            unfold beginsV at hbg
            simp only [Bool.and_eq_true, Bool.not_eq_true', ← Bool.not_eq_true] at hbg
            have := hbg.2.2.2.1
            rw [lt_iff] at this
            omega
          show mbap_first_m1 _ false 0 0 = _
          unfold mbap_first_m1
          have g5 : at? (b0 :: b1 :: b2 :: b3 :: b4 :: b5 :: b6 :: b7 :: r) 5 = some b5 := rfl
          have ea : add .i64 6 (cvt .i64 b5) = 6 + b5 := by rw [e5, add64 (by omega) (by omega)]
          rw [if_neg (by decide), g5, Option.bind_some, ea]
          by_cases hlt : (r.length : Int) + 2 < b5
          · rw [if_pos (by rw [lt_iff, ofNat_eq]; simp; omega), if_pos hlt]
            rfl
          · have es : sub .i64 (6 + b5) 7 = (((b5 - 1).toNat : Nat) : Int) := by rw [sub64 (by omega) (by omega)]; omega
            have ec : cut (b0 :: b1 :: b2 :: b3 :: b4 :: b5 :: b6 :: b7 :: r) 7 (6 + b5) = some ((b7 :: r).take (b5 - 1).toNat) := by
              have := cut_nat (xs := b0 :: b1 :: b2 :: b3 :: b4 :: b5 :: b6 :: b7 :: r) (i := 7) (j := 7 + (b5 - 1).toNat) (by omega) (by simp; omega)
              have e : ((7 + (b5 - 1).toNat : Nat) : Int) = 6 + b5 := by omega
              rw [e, Nat.add_comm 7 (b5 - 1).toNat] at this
              exact this
            rw [if_neg (by rw [lt_iff, ofNat_eq]; simp; omega), if_neg hlt, es, need_t (by rw [ge_iff]; omega), need_t (capOk_self _), Int.toNat_natCast, need_small (by omega), ec, Option.bind_some, need_t (by rw [le_iff]; simp only [List.length_replicate, ofNat_eq]; omega)]
            have hlen : ((b7 :: r).take (b5 - 1).toNat).length = (b5 - 1).toNat := by rw [List.length_take, List.length_cons]; omega
            rw [fill_all hlen]
            rfl
      rw [hF]
      have K : ∀ (t : Bool) (y1 y2 : Int) (y3 : List Int), mbap_Parse_K1 t 0 0 y1 y2 y3 = if t = true then some (zM, 10, ()) else some ((y1, y2, y3), 0, ()) := fun t y1 y2 y3 => rfl
      show _ = some ((mbapP (b0 :: b1 :: b2 :: b3 :: b4 :: b5 :: b6 :: b7 :: r)).1, (mbapP (b0 :: b1 :: b2 :: b3 :: b4 :: b5 :: b6 :: b7 :: r)).2, ())
      unfold mbapP
      dsimp only
      have hne : ¬ (b7 :: r = []) := by simp
      rw [if_neg hne]
      cases hbg : beginsV b2 b3 b4 b5 with
      | false => rfl
      | true =>
        simp only [if_true]
        have h52 : 2 ≤ b5 := by
          unfold beginsV at hbg
          simp only [Bool.and_eq_true, Bool.not_eq_true', ← Bool.not_eq_true] at hbg
          have := hbg.2.2.2.1
          rw [lt_iff] at this
          omega
        by_cases hlt : (r.length : Int) + 2 < b5
        · have hq : ¬ (((b7 :: r).length : Int) + 1 = b5) := by simp; omega
          rw [if_pos hlt, if_neg hq]
          rfl
        · rw [if_neg hlt, Option.bind_some]
          dsimp only
          rw [if_neg (by rw [eqi_iff]; omega), K]
          by_cases he : (r.length : Int) + 2 = b5
          · have e1 : nei (6 + b5) (Int.ofNat (b0 :: b1 :: b2 :: b3 :: b4 :: b5 :: b6 :: b7 :: r).length) = false := by
              rw [← Bool.not_eq_true, nei_iff, ofNat_eq]
              simp
              omega
            have hq : ((b7 :: r).length : Int) + 1 = b5 := by simp; omega
            rw [e1, if_pos hq]
            have e2 : (b7 :: r).take (b5 - 1).toNat = b7 :: r := List.take_of_length_le (by simp; omega)
            rw [e2]
            rfl
          · have hq : ¬ (((b7 :: r).length : Int) + 1 = b5) := by simp; omega
            rw [if_neg hq, if_pos (by rw [nei_iff, ofNat_eq]; simp; omega)]
end Go.Proofs.Lx

end

section
/- Which replies fit, and what is taken. -/
namespace Go.Proofs.Lx
open Go Ev Sx Pl
set_option maxRecDepth 100000
def tcpV (unit tx : Int) (b : List Int) : Option TR :=
  if (mbapP b).2 ≠ 0 then none else if (mbapP b).1.2.1 ≠ unit then none else if (mbapP b).1.1 ≠ tx then none else
  if (parseR (mbapP b).1.2.2).2 ≠ 0 then none else some (parseR (mbapP b).1.2.2).1
theorem tcpfind_eq {b : List Int} (hl : b.length ≤ 100000) (hb : ∀ x ∈ b, 0 ≤ x ∧ x ≤ 255) (unit tx : Int) : poll_tcp_find ((), unit, tx, b, ()) = outF (tcpV unit tx b) := by
  show poll_tcp_find_m0 poll_tcp_find_K1 () unit tx b = _
  unfold poll_tcp_find_m0
  rw [mparse_eq hl hb, Option.bind_some]
  dsimp only
  have K : ∀ (t : Bool) (y1 y2 : Int) (y3 : List Int), poll_tcp_find_K1 t 0 0 0 0 y1 y2 y3 = if t = true then some (zR, false, ()) else if (parseR y3).2 ≠ 0 then some (zR, false, ()) else some ((parseR y3).1, true, ()) := fun t y1 y2 y3 => by
    unfold poll_tcp_find_K1 poll_tcp_find_m1
    rw [parse_eq, Option.bind_some]
    simp only [nei_iff]
    rfl
  rw [K, K]
  unfold tcpV
  by_cases h1 : (mbapP b).2 = 0
  · by_cases h2 : (mbapP b).1.2.1 = unit
    · by_cases h3 : (mbapP b).1.1 = tx
      · by_cases h4 : (parseR (mbapP b).1.2.2).2 = 0
        · simp [h1, h2, h3, h4, nei, outF]
        · simp [h1, h2, h3, h4, nei, outF]
      · simp [h1, h2, h3, nei, outF]
    · simp [h1, h2, nei, outF]
  · simp [h1, nei, outF]
/-! ### which fit -/
def echoV (a : TA) : Option TR :=
  if a.1 = 5 then some (5, 0, [a.2.2.2.2.2.headD false], [], a.2.1, 0) else if a.1 = 6 then some (6, 0, [], [a.2.2.2.2.1.headD 0], a.2.1, 0) else
  if a.1 = 15 ∨ a.1 = 16 then some (a.1, 0, [], [], a.2.1, a.2.2.1) else none
theorem echo_eq {a : TA} (h : OkA a) (hr : rightA a = true) : reply_Echo (a, ()) = outF (echoV a) := by
  show reply_Echo_m0 reply_Echo_K1 reply_Echo_K2 a = _
  unfold reply_Echo_m0
  rw [right_eq h, Option.bind_some, hr]
  clear h
  have hra := rightA_RA hr
  clear hr
  cases hra with
  | bits f p n hf h1 h2 => rcases hf with rfl | rfl <;> rfl
  | words f p n hf h1 h2 => rcases hf with rfl | rfl <;> rfl
  | coil p b => rfl
  | word p x => rfl
  | coils p l h1 h2 => rfl
  | regs p l h1 h2 => rfl
  | swap p n t l h1 h2 h3 h4 => rfl
theorem goL_index (v : Bool) : ∀ (s : List Bool) (n : Nat), ∃ k : Int, goL (R := Int × Unit) (fun (_ : Unit) (x : Bool × Nat) k => if eqb v x.1 = true then some ((x.2 : Int), ()) else k ()) (fun _ => some (-1, ())) (s.zipIdx n) () = some (k, ()) ∧ (0 ≤ k ↔ v ∈ s)
  | [], n => ⟨-1, rfl, by simp⟩
  | a :: r, n => by
    rw [List.zipIdx_cons]
    obtain ⟨k, h1, h2⟩ := goL_index v r (n + 1)
    by_cases e : v = a
    · refine ⟨(n : Int), ?_, by simp [e]⟩
      show (if eqb v a = true then _ else _) = _
      rw [if_pos (eqb_iff.2 e)]
    · refine ⟨k, ?_, ?_⟩
      · show (if eqb v a = true then _ else _) = _
        rw [if_neg (fun h => e (eqb_iff.1 h))]
        exact h1
      · rw [h2]
        simp [e]
theorem contains_eq {s : List Bool} (v : Bool) (h : s.length ≤ 1000000) : slices_Contains_Gbool (s, v, ()) = some (decide (v ∈ s), ()) := by
  obtain ⟨k, h1, h2⟩ := goL_index v s 0
  have e : slices_Index_Gbool (s, v, ()) = some (k, ()) := by
    rw [← h1]
    show slices_Index_Gbool_m0 slices_Index_Gbool_K1 s v = _
    unfold slices_Index_Gbool_m0 slices_Index_Gbool_K1
    have hz : (s.zipIdx 0).length = s.length := by simp
    refine loop_go (xs := s.zipIdx 0) (mk := fun i _ => (s, v, Int.ofNat s.length, (i : Int))) ?_ ?_ s.length 0 () _ (by rw [hz]; omega) (by omega)
    · intro self i acc x hx
      have hi := (List.getElem?_eq_some_iff.1 hx).1
      rw [hz] at hi
      have hx2 : s[i]? = some x.1 ∧ x.2 = i := by
        rw [List.getElem?_zipIdx] at hx
        obtain ⟨y, hy, rfl⟩ := Option.map_eq_some_iff.1 hx
        exact ⟨hy, by simp⟩
      show slices_Index_Gbool_m1 _ s v (Int.ofNat s.length) (i : Int) = _
      unfold slices_Index_Gbool_m1
      rw [if_pos (by rw [lt_iff, ofNat_eq]; omega), at_get hx2.1, Option.bind_some, succ64 (by omega), hx2.2]
    · intro self acc
      show slices_Index_Gbool_m1 _ s v (Int.ofNat s.length) (((s.zipIdx 0).length : Nat) : Int) = _
      unfold slices_Index_Gbool_m1
      rw [hz, if_neg (by rw [lt_iff, ofNat_eq]; omega)]
  show slices_Contains_Gbool_m0 s v = _
  unfold slices_Contains_Gbool_m0
  rw [e, Option.bind_some]
  refine congrArg (fun x => some (x, ())) ?_
  rw [ge_dec]
  by_cases hv : v ∈ s
  · rw [decide_eq_true hv, decide_eq_true (h2.2 hv)]
  · rw [decide_eq_false hv, decide_eq_false (fun h => hv (h2.1 h))]
def fitsV (a : TA) (r : TR) : Bool :=
  rightA a && (rightR r && (decide (a.1 = r.1) && (if r.2.1 ≠ 0 then true else match echoV a with
    | some e => decide (e = r)
    | none => if 0 < r.2.2.1.length then decide ((r.2.2.1.length : Int) = (a.2.2.1 + 7) / 8 * 8) && !decide (true ∈ r.2.2.1.drop a.2.2.1.toNat) else decide ((r.2.2.2.1.length : Int) = a.2.2.1))))
theorem fits_K {a : TA} {r : TR} (h : OkA a) (hr : rightA a = true) (hs : SmR r) (t : Bool) : reply_Fits_K1 t a.1 a.2.1 a.2.2.1 a.2.2.2.1 a.2.2.2.2.1 a.2.2.2.2.2 r.1 r.2.1 r.2.2.1 r.2.2.2.1 r.2.2.2.2.1 r.2.2.2.2.2 =
    some (!t && (if r.2.1 ≠ 0 then true else match echoV a with
    | some e => decide (e = r)
    | none => if 0 < r.2.2.1.length then decide ((r.2.2.1.length : Int) = (a.2.2.1 + 7) / 8 * 8) && !decide (true ∈ r.2.2.1.drop a.2.2.1.toNat) else decide ((r.2.2.2.1.length : Int) = a.2.2.1)), ()) := by
  unfold reply_Fits_K1 reply_Fits_m1
  cases t with
  | true => rfl
  | false =>
    rw [if_neg (by decide), Bool.not_false, Bool.true_and]
    by_cases h0 : r.2.1 = 0
    · rw [if_neg (by rw [nei_iff]; exact fun e => e h0)]
      simp only [ne_eq, h0, not_true_eq_false, if_false]
      have he : reply_Echo ((a.1, a.2.1, a.2.2.1, a.2.2.2.1, a.2.2.2.2.1, a.2.2.2.2.2), ()) = outF (echoV a) := echo_eq h hr
      rw [he]
      cases hv : echoV a with
      | some e =>
        have hse : SmR e := by
          unfold echoV at hv
          split at hv
          · cases hv; exact ⟨by show 1 ≤ 100000; decide, by show 0 ≤ 100000; decide⟩
          · split at hv
            · cases hv; exact ⟨by show 0 ≤ 100000; decide, by show 1 ≤ 100000; decide⟩
            · split at hv
              · cases hv; exact ⟨by show 0 ≤ 100000; decide, by show 0 ≤ 100000; decide⟩
              · cases hv
        have e2 := sameR_eq (b := r) hse
        rw [← h0]
        show Option.bind (reply_Same (e, r, ())) _ = _
        rw [e2]
        rfl
      | none =>
        have hm0 := h.m0
        have hm1 := h.m1
        have hb := hs.b
        have hw := hs.w
        show (if gt (Int.ofNat r.2.2.1.length) 0 = true then _ else _) = _
        by_cases hbl : 0 < r.2.2.1.length
        · rw [if_pos (by rw [gt_iff, ofNat_eq]; omega), if_pos hbl]
          obtain ⟨m, hm⟩ := Int.eq_ofNat_of_zero_le hm0
          have e1 : mul .i64 (quo .i64 (add .i64 (cvt .i64 a.2.2.1) 7) 8) 8 = (a.2.2.1 + 7) / 8 * 8 := by
            rw [hm, cvt64 (by omega) (by omega), show (7 : Int) = ((7 : Nat) : Int) from rfl, addn64 (by omega)]
            have := quo_nat (i := m + 7) (d := 8) (by omega)
            rw [show (8 : Int) = ((8 : Nat) : Int) from rfl, this, mul64 (by omega) (by omega)]
            omega
          rw [e1]
          by_cases hq : (r.2.2.1.length : Int) = (a.2.2.1 + 7) / 8 * 8
          · rw [if_pos (by rw [eqi_iff, ofNat_eq]; exact hq), decide_eq_true hq, cvt64 (by omega) (by omega), hm, cut_from (by omega), Option.bind_some, contains_eq true (by simp; omega), Option.bind_some, Int.toNat_natCast]
            rfl
          · rw [if_neg (by rw [eqi_iff, ofNat_eq]; exact hq), decide_eq_false hq]
            rfl
        · rw [if_neg (by rw [gt_iff, ofNat_eq]; omega), if_neg hbl, cvt64 (by omega) (by omega)]
          refine congrArg (fun x => some (x, ())) ?_
          rw [ofNat_eq]
          rw [Bool.eq_iff_iff, eqi_iff, decide_eq_true_eq]
    · rw [if_pos (by rw [nei_iff]; exact h0), if_pos h0]
theorem fits_eq {a : TA} {r : TR} (h : OkA a) (hs : SmR r) : reply_Fits (a, r, ()) = some (fitsV a r, ()) := by
  show reply_Fits_m0 reply_Fits_K1 a r = _
  unfold reply_Fits_m0 fitsV
  rw [right_eq h, Option.bind_some, rightR_eq hs, Option.bind_some]
  cases hr : rightA a with
  | false => rfl
  | true =>
    rw [if_neg (by decide)]
    cases hq : rightR r with
    | false => rfl
    | true =>
      rw [if_neg (by decide), fits_K h hr hs]
      refine congrArg (fun x => some (x, ())) ?_
      have e : (!nei a.1 r.1) = decide (a.1 = r.1) := by
        rw [Bool.eq_iff_iff, Bool.not_eq_true', ← Bool.not_eq_true, nei_iff, decide_eq_true_eq]
        exact Decidable.not_not
      rw [e]
      rfl
end Go.Proofs.Lx

end
