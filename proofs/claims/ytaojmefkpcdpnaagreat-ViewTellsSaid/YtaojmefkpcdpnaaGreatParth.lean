/- Proved in the last of these 12 parts (this is part 8): what registers show, what is replied, and which lines a memory shows, is exactly as the document defines. Conditions: those of the given statement, and no others. -/
import Derived.Test.YtaojmefkpcdpnaaGreatParte
import Derived.Test.YtaojmefkpcdpnaaGreatPartg
import Derived.Test.YtaojmefkpcdpnaaGreatProg
set_option linter.unusedVariables false
set_option linter.unusedSimpArgs false
set_option linter.unusedSectionVars false
section
open Go Go.Proofs Ev Sx
set_option maxRecDepth 100000
namespace Go.Proofs.Lx
abbrev VzA3q0 : Type := Int × Int × Int × Int × List Int × List Bool
abbrev VzA3q1 : Type := Int × Int × List Int × Int
@[reducible] def qas_ : Sh := ⟨[.d (.pr LAT0 (.pr LAT0 (.pr LAT0 LAT0))), .d (.pr (.sl .bool) LAT4), .d (.pr (.int .u8) LAT2)], [], [.pr LAT0 (.pr LAT0 (.pr LAT0 LAT0)), .pr (.sl .bool) LAT4, .pr (.int .u8) LAT2], [.d (.pr (.sl .bool) LAT4), .d (.pr (.int .u8) LAT1)], [], 0, [.pr (.sl .bool) LAT4, .pr (.int .u8) LAT1]⟩
def qhk_ : Env := (cts [(29, (⟨q8l_, reply_Wrong⟩ : Ct)), (30, (⟨qff_, model_own⟩ : Ct)), (41, (⟨q3j_, model_Check⟩ : Ct)), (42, (⟨qga_, model_Right⟩ : Ct)), (43, (⟨q9v_, model_open⟩ : Ct)), (44, (⟨qd7_, model_uses⟩ : Ct)), (45, (⟨q9x_, model_target⟩ : Ct)), (46, (⟨q59_, model_table_bool_write⟩ : Ct)), (47, (⟨q44_, model_table_uint16_write⟩ : Ct)), (48, (⟨q3f_, reply_Echo⟩ : Ct)), (49, (⟨q6m_, model_server_answer⟩ : Ct))])
def qho_ : List (Nat × Hint) := [(255, ⟨[], [5, 6, 7, 8, 10, 11]⟩)]
def qjw_ (a : VzA3q0) (t7 t7_2 t7_3 t7_4 : Int) (out : List Bool × List Bool × List Int × List Int) (v : (List LAT3 × List Bool) × (List LAT3 × List Bool) × (List LAT3 × List Int) × List LAT3 × List Int) (u : Int × Int) : St := { fr := [(5, .pb 0 0), (6, .pb 1 0), (7, .pb 2 0), (8, .pb 3 0), (10, .pb 4 0), (11, .pb 5 0)], nt := 79, up := [], own := [(0, .box 65 [.d (.int .u8) a.1, .d (.int .u16) a.2.1, .d (.int .u16) a.2.2.1, .d (.int .u16) a.2.2.2.1, .d (.sl (.int .u16)) a.2.2.2.2.1, .d (.sl .bool) a.2.2.2.2.2]), (1, .box 28 [.k (Go.Value.slice Option.none 0 0), .k (Go.Value.slice Option.none 0 0), .k (Go.Value.slice Option.none 0 0), .k (Go.Value.slice Option.none 0 0)]), (2, .box 72 [.d (.int .u8) t7, .d (.int .u8) t7_2, .k (Go.Value.slice Option.none 0 0), .k (Go.Value.slice Option.none 0 0), .d (.int .u16) t7_3, .d (.int .u16) t7_4]), (3, .box 28 [.d (.sl .bool) out.1, .d (.sl .bool) out.2.1, .d (.sl (.int .u16)) out.2.2.1, .d (.sl (.int .u16)) out.2.2.2]), (4, .box 98 [.d LAT0 v.1.1, .d (.sl .bool) v.1.2, .d LAT0 v.2.1.1, .d (.sl .bool) v.2.1.2, .d LAT0 v.2.2.1.1, .d (.sl (.int .u16)) v.2.2.1.2, .d LAT0 v.2.2.2.1, .d (.sl (.int .u16)) v.2.2.2.2]), (5, .box 102 [.d (.int .i64) u.1, .d (.int .i64) u.2])], nx := 6, log := [], ln := 0 }
def qo5_ (a : VzA3q0) (t7 t7_2 t7_3 t7_4 : Int) (out : List Bool × List Bool × List Int × List Int) (v : (List LAT3 × List Bool) × (List LAT3 × List Bool) × (List LAT3 × List Int) × List LAT3 × List Int) (u : Int × Int) : Option (As [.pr (.sl .bool) LAT4, .pr (.int .u8) LAT1]) :=
  Option.bind (reply_Echo (a, ())) fun (y : LAT12 × Bool × Unit) => if y.2.1 = true then some (out, y.1, ()) else Option.bind (model_server_answer (v, u.1, a, ())) fun (y : LAT12 × Unit) => some (out, y.1, ())
def qk9_ (j1 : VzA3q0 -> Int -> Int -> Int -> Int -> List Bool × List Bool × List Int × List Int -> (List LAT3 × List Bool) × (List LAT3 × List Bool) × (List LAT3 × List Int) × List LAT3 × List Int -> Int × Int -> Option (As [.pr (.sl .bool) LAT4, .pr (.int .u8) LAT1])) (s : List LAT3 × List LAT3 × List LAT3 × List LAT3) (m : List Bool × List Bool × List Int × List Int) (a : VzA3q0) : Option (As [.pr (.sl .bool) LAT4, .pr (.int .u8) LAT1]) :=
  Option.bind (model_own (m, ())) fun (y : LAT9 × Unit) => Option.bind (model_Check (s, a, ())) fun (y_1 : Int × Unit) => if nei y_1.1 0 = true then Option.bind (reply_Wrong (a.1, y_1.1, ())) fun (y_2 : LAT12 × Unit) => some (y.1, y_2.1, ()) else Option.bind (model_Right (s, m, ())) fun (y_2 : Bool × Unit) => if (!y_2.1) = true then Option.bind (reply_Wrong (a.1, 4, ())) fun (y_3 : LAT12 × Unit) => some (y.1, y_3.1, ()) else Option.bind (model_open (s, y.1, ())) fun (y_3 : ((List LAT3 × List Bool) × (List LAT3 × List Bool) × (List LAT3 × List Int) × List LAT3 × List Int) × Unit) => Option.bind (model_uses (a.1, ())) fun (y_4 : (Int × Int) × Unit) => Option.bind (model_target (a, ())) fun (y_5 : Int × Int × Unit) => if eqi y_4.1.2 1 = true then Option.bind (model_table_bool_write (y_3.1.1, y_5.1, a.2.2.2.2.2, ())) fun (y_6 : Unit) => j1 a 0 0 0 0 y.1 y_3.1 y_4.1 else if eqi y_4.1.2 3 = true then Option.bind (model_table_uint16_write (y_3.1.2.2.1, y_5.1, a.2.2.2.2.1, ())) fun (y_6 : Unit) => j1 a 0 0 0 0 y.1 y_3.1 y_4.1 else j1 a 0 0 0 0 y.1 y_3.1 y_4.1
def qc2_ (a : VzA3q0) (t7 t7_2 t7_3 t7_4 : Int) (out : List Bool × List Bool × List Int × List Int) (v : (List LAT3 × List Bool) × (List LAT3 × List Bool) × (List LAT3 × List Int) × List LAT3 × List Int) (u : Int × Int) : Option (As [.pr (.sl .bool) LAT4, .pr (.int .u8) LAT1]) := qo5_ a t7 t7_2 t7_3 t7_4 out v u
def model_Do (x : As [.pr LAT0 (.pr LAT0 (.pr LAT0 LAT0)), .pr (.sl .bool) LAT4, .pr (.int .u8) LAT2]) : Option (As [.pr (.sl .bool) LAT4, .pr (.int .u8) LAT1]) := qk9_ qc2_ x.1 x.2.1 x.2.2.1
theorem q13g_ (J : Orc (As [.pr (.sl .bool) LAT4, .pr (.int .u8) LAT1])) (a : VzA3q0) (t7 t7_2 t7_3 t7_4 : Int) (out : List Bool × List Bool × List Int × List Int) (v : (List LAT3 × List Bool) × (List LAT3 × List Bool) × (List LAT3 × List Int) × List LAT3 × List Int) (u : Int × Int) : pfn Tryz.prog qhk_ 6 18446744073709551616 (Ev.get qho_) 31 qas_ J 255 [] (qjw_ a t7 t7_2 t7_3 t7_4 out v u) = qo5_ a t7 t7_2 t7_3 t7_4 out v u := by kernel_rfl
theorem q147_ (J : Orc (As [.pr (.sl .bool) LAT4, .pr (.int .u8) LAT1])) (x : As [.pr LAT0 (.pr LAT0 (.pr LAT0 LAT0)), .pr (.sl .bool) LAT4, .pr (.int .u8) LAT2]) : rfn Tryz.prog qhk_ 6 18446744073709551616 (Ev.get qho_) 31 qas_ J x = qk9_ (fun a t7 t7_2 t7_3 t7_4 out v u => J 255 [] (qjw_ a t7 t7_2 t7_3 t7_4 out v u)) x.1 x.2.1 x.2.2.1 := by kernel_rfl
theorem q13p_ (a : VzA3q0) (t7 t7_2 t7_3 t7_4 : Int) (out : List Bool × List Bool × List Int × List Int) (v : (List LAT3 × List Bool) × (List LAT3 × List Bool) × (List LAT3 × List Int) × List LAT3 × List Int) (u : Int × Int) : jfn Tryz.prog qhk_ 6 18446744073709551616 (Ev.get qho_) 31 qas_ 255 [] (qjw_ a t7 t7_2 t7_3 t7_4 out v u) = qc2_ a t7 t7_2 t7_3 t7_4 out v u := by
  rw [pfn_eq (by decide)]
  rw [q13g_]
  rfl
theorem q15e_ (x : As [.pr LAT0 (.pr LAT0 (.pr LAT0 LAT0)), .pr (.sl .bool) LAT4, .pr (.int .u8) LAT2]) : evT Tryz.prog qhk_ 6 18446744073709551616 (Ev.get qho_) 31 qas_ x = model_Do x := by
  have e1 : (fun a t7 t7_2 t7_3 t7_4 out v u => (jfn Tryz.prog qhk_ 6 18446744073709551616 (Ev.get qho_) 31 qas_) 255 [] (qjw_ a t7 t7_2 t7_3 t7_4 out v u)) = qc2_ := by funext a t7 t7_2 t7_3 t7_4 out v u; exact q13p_ a t7 t7_2 t7_3 t7_4 out v u
  rw [rfn_eq, q147_, e1]
  rfl
theorem q14a_ : CtOk Tryz.prog (fun _ => True) 31 ⟨qas_, model_Do⟩ := ct_of_ev (env_cons qj9_ (env_cons qse_ (env_cons qx8_ (env_cons qw2_ (env_cons qlg_ (env_cons qqx_ (env_cons qnn_ (env_cons qlv_ (env_cons qkw_ (env_cons q10n_ (env_cons qoa_ env_nil))))))))))) q15e_
@[reducible] def qg5_ : Sh := ⟨[.d (.pr LAT0 (.pr LAT0 (.pr LAT0 LAT0))), .d (.pr (.sl .bool) LAT4), .d (.sl (.int .u8))], [], [.pr LAT0 (.pr LAT0 (.pr LAT0 LAT0)), .pr (.sl .bool) LAT4, .sl (.int .u8)], [.d (.pr (.sl .bool) LAT4), .d (.sl (.int .u8))], [], 0, [.pr (.sl .bool) LAT4, .sl (.int .u8)]⟩
def qqj_ : Env := (cts [(27, (⟨qlz_, ask_Look⟩ : Ct)), (28, (⟨qgd_, reply_Bytes⟩ : Ct)), (29, (⟨q8l_, reply_Wrong⟩ : Ct)), (30, (⟨qff_, model_own⟩ : Ct)), (31, (⟨qas_, model_Do⟩ : Ct))])
def qq4_ : List (Nat × Hint) := []
def q4i_ (s : List LAT3 × List LAT3 × List LAT3 × List LAT3) (m : List Bool × List Bool × List Int × List Int) (pdu : List Int) : Option (As [.pr (.sl .bool) LAT4, .sl (.int .u8)]) :=
  Option.bind (ask_Look (pdu, ())) fun (y : LAT10 × Int × Unit) => if nei y.2.1 0 = true then Option.bind (reply_Wrong (y.1.1, y.2.1, ())) fun (y : LAT12 × Unit) => Option.bind (reply_Bytes (y.1, ())) fun (y : List Int × Int × Unit) => Option.bind (model_own (m, ())) fun (y_1 : LAT9 × Unit) => some (y_1.1, y.1, ()) else Option.bind (model_Do (s, m, y.1, ())) fun (y : LAT9 × LAT12 × Unit) => Option.bind (reply_Bytes (y.2.1, ())) fun (y_1 : List Int × Int × Unit) => some (y.1, y_1.1, ())
def model_Serve (x : As [.pr LAT0 (.pr LAT0 (.pr LAT0 LAT0)), .pr (.sl .bool) LAT4, .sl (.int .u8)]) : Option (As [.pr (.sl .bool) LAT4, .sl (.int .u8)]) := q4i_ x.1 x.2.1 x.2.2.1
theorem qy2_ (J : Orc (As [.pr (.sl .bool) LAT4, .sl (.int .u8)])) (x : As [.pr LAT0 (.pr LAT0 (.pr LAT0 LAT0)), .pr (.sl .bool) LAT4, .sl (.int .u8)]) : rfn Tryz.prog qqj_ 6 18446744073709551616 (Ev.get qq4_) 23 qg5_ J x = q4i_ x.1 x.2.1 x.2.2.1 := by kernel_rfl
theorem qzw_ (x : As [.pr LAT0 (.pr LAT0 (.pr LAT0 LAT0)), .pr (.sl .bool) LAT4, .sl (.int .u8)]) : evT Tryz.prog qqj_ 6 18446744073709551616 (Ev.get qq4_) 23 qg5_ x = model_Serve x := by
  rw [rfn_eq, qy2_]
  rfl
theorem qyc_ : CtOk Tryz.prog (fun _ => True) 23 ⟨qg5_, model_Serve⟩ := ct_of_ev (env_cons q14m_ (env_cons qx0_ (env_cons qj9_ (env_cons qse_ (env_cons q14a_ env_nil))))) qzw_
@[reducible] def qd4_ : Sh := ⟨[.d (.sl LAT6), .d (.sl (.int .u32)), .d (.sl (.int .u8))], [], [.sl LAT6, .sl (.int .u32), .sl (.int .u8)], [.d (.sl (.int .u8))], [], 0, [.sl (.int .u8)]⟩
def qrx_ : Env := (cts [(10, (⟨q1p_, view_Mem⟩ : Ct)), (15, (⟨qd6_, view_Space⟩ : Ct)), (23, (⟨qg5_, model_Serve⟩ : Ct))])
def qs2_ : List (Nat × Hint) := []
def qgs_ (l : List LAT8) (waits pdu : List Int) : Option (As [.sl (.int .u8)]) :=
  Option.bind (view_Space ()) fun (y : (List LAT3 × List LAT3 × List LAT3 × List LAT3) × Unit) => Option.bind (view_Mem (l, waits, ())) fun (y_1 : LAT9 × Unit) => Option.bind (model_Serve (y.1, y_1.1, pdu, ())) fun (y : LAT9 × List Int × Unit) => some (y.2.1, ())
def view_Serve (x : As [.sl LAT6, .sl (.int .u32), .sl (.int .u8)]) : Option (As [.sl (.int .u8)]) := qgs_ x.1 x.2.1 x.2.2.1
theorem q10r_ (J : Orc (As [.sl (.int .u8)])) (x : As [.sl LAT6, .sl (.int .u32), .sl (.int .u8)]) : rfn Tryz.prog qrx_ 6 18446744073709551616 (Ev.get qs2_) 13 qd4_ J x = qgs_ x.1 x.2.1 x.2.2.1 := by kernel_rfl
theorem q12y_ (x : As [.sl LAT6, .sl (.int .u32), .sl (.int .u8)]) : evT Tryz.prog qrx_ 6 18446744073709551616 (Ev.get qs2_) 13 qd4_ x = view_Serve x := by
  rw [rfn_eq, q10r_]
  rfl
theorem qr4_ : CtOk Tryz.prog (fun _ => True) 13 ⟨qd4_, view_Serve⟩ := ct_of_ev (env_cons qnv_ (env_cons qq3_ (env_cons qyc_ env_nil))) q12y_
@[reducible] def qg1_ : Sh := ⟨[], [], [], [.d (.bool)], [], 0, [.bool]⟩
def qqs_ : Env := (cts [(9, (⟨qbb_, law29_alone⟩ : Ct)), (10, (⟨q1p_, view_Mem⟩ : Ct)), (12, (⟨qcx_, law06_Same⟩ : Ct)), (13, (⟨qd4_, view_Serve⟩ : Ct)), (15, (⟨qd6_, view_Space⟩ : Ct))])
def qr9_ : List (Nat × Hint) := []
def qpa_ : Option (As [.bool]) :=
  Option.bind (view_Space ()) fun (y : (List LAT3 × List LAT3 × List LAT3 × List LAT3) × Unit) => Option.bind (view_Mem ([(65537, 3, [], 2)], [], ())) fun (y_1 : LAT9 × Unit) => Option.bind (law29_alone (y_1.1, [1, 1, 1, 1, 2, 3, 0, 0, 0, 0, 0, 0, 0, 0, 0, 0, 0, 0, 0, 0, 0, 0, 0, 0, 0, 0, 0, 0, 0, 0, 0, 0, 0, 0, 0, 0, 0, 0, 0, 0, 0, 0, 0, 0, 0, 0, 0, 0, 0, 0], ())) fun (y_2 : Bool × Unit) => if y_2.1 = true then if eqi (Int.ofNat (List.length y.1.2.2.1)) 1 = true then Option.bind (at? y.1.2.2.1 0) fun (y_3 : Int × Int × Bool × Bool × Bool) => if (eqi y_3.1 0 && (eqi y_3.2.1 50 && (Sx.eqb y_3.2.2.1 true && (Sx.eqb y_3.2.2.2.1 false && (Sx.eqb y_3.2.2.2.2 false && true))))) = true then if eqi (add .i64 (add .i64 (Int.ofNat (List.length y.1.1)) (Int.ofNat (List.length y.1.2.1))) (Int.ofNat (List.length y.1.2.2.2))) 0 = true then Option.bind (view_Serve ([(65537, 3, [], 2)], [], [3, 0, 0, 0, 2], ())) fun (y : List Int × Unit) => Option.bind (law06_Same (y.1, [3, 4, 0, 1, 0, 1], ())) fun (y : Bool × Unit) => if y.1 = true then Option.bind (view_Serve ([(65537, 3, [], 2)], [], [6, 0, 0, 0, 1], ())) fun (y : List Int × Unit) => Option.bind (law06_Same (y.1, [134, 2], ())) fun (y : Bool × Unit) => if y.1 = true then Option.bind (view_Serve ([(65537, 3, [], 2)], [], [3, 0, 49, 0, 2], ())) fun (y : List Int × Unit) => Option.bind (law06_Same (y.1, [131, 2], ())) fun (y : Bool × Unit) => some (y.1, ()) else some (false, ()) else some (false, ()) else some (false, ()) else some (false, ()) else some (false, ()) else some (false, ())
def law29_awake (x : As []) : Option (As [.bool]) := qpa_
theorem qyq_ (J : Orc (As [.bool])) (x : As []) : rfn Tryz.prog qqs_ 6 18446744073709551616 (Ev.get qr9_) 4 qg1_ J x = qpa_ := by kernel_rfl
theorem qzv_ (x : As []) : evT Tryz.prog qqs_ 6 18446744073709551616 (Ev.get qr9_) 4 qg1_ x = law29_awake x := by
  rw [rfn_eq, qyq_]
  rfl
theorem qx6_ : CtOk Tryz.prog (fun _ => True) 4 ⟨qg1_, law29_awake⟩ := ct_of_ev (env_cons qoo_ (env_cons qnv_ (env_cons qq7_ (env_cons qr4_ (env_cons qq3_ env_nil))))) qzv_
@[reducible] def qio_ : Sh := ⟨[.d (.int .u16), .d (.int .u16)], [], [.int .u16, .int .u16], [.d (.int .u32)], [], 0, [.int .u32]⟩
def qs5_ : Env := (cts [])
def qs8_ : List (Nat × Hint) := []
def qfq_ (high low : Int) : Option (As [.int .u32]) :=
  some (Sx.bor .u32 (Sx.shl .u32 (cvt .u32 high) 16) (cvt .u32 low), ())
def words_Wide (x : As [.int .u16, .int .u16]) : Option (As [.int .u32]) := qfq_ x.1 x.2.1
theorem q105_ (J : Orc (As [.int .u32])) (x : As [.int .u16, .int .u16]) : rfn Tryz.prog qs5_ 6 18446744073709551616 (Ev.get qs8_) 16 qio_ J x = qfq_ x.1 x.2.1 := by kernel_rfl
theorem q11q_ (x : As [.int .u16, .int .u16]) : evT Tryz.prog qs5_ 6 18446744073709551616 (Ev.get qs8_) 16 qio_ x = words_Wide x := by
  rw [rfn_eq, q105_]
  rfl
theorem qzg_ : CtOk Tryz.prog (fun _ => True) 16 ⟨qio_, words_Wide⟩ := ct_of_ev env_nil q11q_
@[reducible] def qcg_ : Sh := ⟨[.d LAT5], [], [.pr (.int .u32) (.pr (.int .u16) (.int .u16))], [.d (.bool)], [], 0, [.bool]⟩
def qni_ : Env := (cts [])
def qnj_ : List (Nat × Hint) := []
def qat_ (x : Int × Int × Int) : Option (As [.bool]) :=
  if ge x.2.1 1 = true then if le x.2.1 6 = true then if ge x.2.2 1 = true then some (le x.2.2 255, ()) else some (false, ()) else some (false, ()) else some (false, ())
def view_possible (x : As [.pr (.int .u32) (.pr (.int .u16) (.int .u16))]) : Option (As [.bool]) := qat_ x.1
theorem qtl_ (J : Orc (As [.bool])) (x : As [.pr (.int .u32) (.pr (.int .u16) (.int .u16))]) : rfn Tryz.prog qni_ 6 18446744073709551616 (Ev.get qnj_) 17 qcg_ J x = qat_ x.1 := by kernel_rfl
theorem qun_ (x : As [.pr (.int .u32) (.pr (.int .u16) (.int .u16))]) : evT Tryz.prog qni_ 6 18446744073709551616 (Ev.get qnj_) 17 qcg_ x = view_possible x := by
  rw [rfn_eq, qtl_]
  rfl
theorem qtq_ : CtOk Tryz.prog (fun _ => True) 17 ⟨qcg_, view_possible⟩ := ct_of_ev env_nil qun_
@[reducible] def qg_ : Sh := ⟨[.d (.pr (.sl .bool) LAT4)], [], [.pr (.sl .bool) LAT4], [.d (.sl LAT5), .d (.bool)], [], 0, [.sl LAT5, .bool]⟩
def qt_ : Env := (cts [(16, (⟨qio_, words_Wide⟩ : Ct)), (17, (⟨qcg_, view_possible⟩ : Ct))])
def qs_ : List (Nat × Hint) := [(255, ⟨[], [4, 5, 7]⟩), (511, ⟨[], [7]⟩), (4090, ⟨[], [7, 103, 104, 105]⟩), (2042, ⟨[.row 7 52], [4, 5, 6, 7, 55, 56]⟩), (261427, ⟨[], [4, 5, 6, 7, 10, 55, 56, 88, 89, 90]⟩), (1045710, ⟨[.agd 88 LAT5, .agd 89 .bool, .agd 90 .bool], [4, 5, 7, 10, 55, 56, 91]⟩), (6, ⟨[], [1, 34, 88, 89, 90]⟩)]
def qhx_ (t34 : Bool) (m : List Bool × List Bool × List Int × List Int) : St := { fr := [(1, .pb 0 0), (34, .d .bool t34)], nt := 113, up := [], own := [(0, .box 28 [.d (.sl .bool) m.1, .d (.sl .bool) m.2.1, .d (.sl (.int .u16)) m.2.2.1, .d (.sl (.int .u16)) m.2.2.2])], nx := 1, log := [], ln := 0 }
def q2r_ (h : List Int) (shown before t55 t56 : Int) (l : List (Int × Int × Int)) : St := { fr := [(4, .d (.sl (.int .u16)) h), (5, .d (.int .i64) shown), (6, .d (.int .u32) before), (7, .row 0), (55, .d (.int .i64) t55), (56, .d (.int .i64) t56)], nt := 113, up := [], own := [(0, .row LAT5 52 l)], nx := 1, log := [], ln := 0 }
def qi7_ (h : List Int) (shown before t55 t56 : Int) (l : List (Int × Int × Int)) (x : Int × Int × Int) : St := { fr := [(4, .d (.sl (.int .u16)) h), (5, .d (.int .i64) shown), (6, .d (.int .u32) before), (7, .row 0), (10, .pb 1 0), (55, .d (.int .i64) t55), (56, .d (.int .i64) t56)], nt := 113, up := [], own := [(0, .row LAT5 52 l), (1, .box 52 [.d (.int .u32) x.1, .d (.int .u16) x.2.1, .d (.int .u16) x.2.2])], nx := 2, log := [], ln := 0 }
def qi1_ (h : List Int) (shown : Int) (l : List (Int × Int × Int)) : St := { fr := [(4, .d (.sl (.int .u16)) h), (5, .d (.int .i64) shown), (7, .row 0)], nt := 113, up := [], own := [(0, .row LAT5 52 l)], nx := 1, log := [], ln := 0 }
def qi3_ (h : List Int) (shown t55 t56 : Int) (t91 : Bool) (l : List (Int × Int × Int)) (x : Int × Int × Int) : St := { fr := [(4, .d (.sl (.int .u16)) h), (5, .d (.int .i64) shown), (7, .row 0), (10, .pb 1 0), (55, .d (.int .i64) t55), (56, .d (.int .i64) t56), (91, .d .bool t91)], nt := 113, up := [], own := [(0, .row LAT5 52 l), (1, .box 52 [.d (.int .u32) x.1, .d (.int .u16) x.2.1, .d (.int .u16) x.2.2])], nx := 2, log := [], ln := 0 }
def qa8_ (t103 : List Int) (t104 t105 : Int) (l : List (Int × Int × Int)) : St := { fr := [(7, .row 0), (103, .d (.sl (.int .u16)) t103), (104, .d (.int .i64) t104), (105, .d (.int .i64) t105)], nt := 113, up := [], own := [(0, .row LAT5 52 l)], nx := 1, log := [], ln := 0 }
def qht_ (l : List (Int × Int × Int)) : St := { fr := [(7, .row 0)], nt := 113, up := [], own := [(0, .row LAT5 52 l)], nx := 1, log := [], ln := 0 }
def qhw_ (j2 : List Int -> Int -> Int -> Int -> Int -> List (Int × Int × Int) -> Option (As [.sl LAT5, .bool])) (t34 : Bool) (m : List Bool × List Bool × List Int × List Int) : Option (As [.sl LAT5, .bool]) :=
  if t34 = true then some ([], false, ()) else Option.bind (at? m.2.2.1 1) fun (y : Int) => Option.bind (at? m.2.2.1 0) fun (y_1 : Int) => if nei (cvt .i64 y) (if lt 12 (cvt .i64 y_1) = true then 12 else cvt .i64 y_1) = true then some ([], false, ()) else Option.bind (at? m.2.2.1 0) fun (y_2 : Int) => j2 m.2.2.1 (cvt .i64 y) (cvt .u32 (Sx.sub .i64 (cvt .i64 y_2) (cvt .i64 y))) (cvt .i64 y) 0 []
def qad_ (j3 : List Int -> Int -> Int -> Int -> Int -> List (Int × Int × Int) -> Int × Int × Int -> Option (As [.sl LAT5, .bool])) (j4 : List Int -> Int -> List (Int × Int × Int) -> Option (As [.sl LAT5, .bool])) (self2 : List Int -> Int -> Int -> Int -> Int -> List (Int × Int × Int) -> Option (As [.sl LAT5, .bool])) (h : List Int) (shown before t55 t56 : Int) (l : List (Int × Int × Int)) : Option (As [.sl LAT5, .bool]) :=
  if lt t56 t55 = true then Option.bind (at? h (add .i64 2 (mul .i64 4 t56))) fun (y : Int) => Option.bind (at? h (add .i64 (add .i64 2 (mul .i64 4 t56)) 1)) fun (y_1 : Int) => Option.bind (at? h (add .i64 (add .i64 2 (mul .i64 4 t56)) 2)) fun (y_2 : Int) => Option.bind (at? h (add .i64 (add .i64 2 (mul .i64 4 t56)) 3)) fun (y_3 : Int) => amb (eqAs qg_.rs) [Option.bind (words_Wide (y, y_1, ())) fun (y : Int × Unit) => j3 h shown before t55 t56 l (y.1, y_2, y_3), Option.bind (words_Wide (y, y_1, ())) fun (y : Int × Unit) => j3 h shown before t55 t56 l (y.1, y_2, y_3)] else j4 h shown l
def qmm_ (j5 : List Int -> Int -> Int -> Int -> Bool -> List (Int × Int × Int) -> Int × Int × Int -> Option (As [.sl LAT5, .bool])) (self2 : List Int -> Int -> Int -> Int -> Int -> List (Int × Int × Int) -> Option (As [.sl LAT5, .bool])) (h : List Int) (shown before t55 t56 : Int) (l : List (Int × Int × Int)) (x : Int × Int × Int) : Option (As [.sl LAT5, .bool]) :=
  if le x.1 before = true then j5 h shown t55 t56 true l x else Option.bind (view_possible (x, ())) fun (y : Bool × Unit) => j5 h shown t55 t56 (!y.1) l x
def qmi_ (j6 : List Int -> Int -> Int -> List (Int × Int × Int) -> Option (As [.sl LAT5, .bool])) (h : List Int) (shown : Int) (l : List (Int × Int × Int)) : Option (As [.sl LAT5, .bool]) :=
  Option.bind (cut h (add .i64 2 (mul .i64 4 shown)) (Int.ofNat (List.length h))) fun (y : List Int) => j6 y (Int.ofNat (List.length y)) 0 l
def qmz_ (self2 : List Int -> Int -> Int -> Int -> Int -> List (Int × Int × Int) -> Option (As [.sl LAT5, .bool])) (h : List Int) (shown t55 t56 : Int) (t91 : Bool) (l : List (Int × Int × Int)) (x : Int × Int × Int) : Option (As [.sl LAT5, .bool]) :=
  if t91 = true then some ([], false, ()) else need (small (List.length l + Nat.succ 0)) (self2 h shown x.1 t55 (add .i64 t56 1) (l ++ [x]))
def qaf_ (j7 : List (Int × Int × Int) -> Option (As [.sl LAT5, .bool])) (self6 : List Int -> Int -> Int -> List (Int × Int × Int) -> Option (As [.sl LAT5, .bool])) (t103 : List Int) (t104 t105 : Int) (l : List (Int × Int × Int)) : Option (As [.sl LAT5, .bool]) :=
  if lt t105 t104 = true then Option.bind (at? t103 t105) fun (y : Int) => if nei y 0 = true then some ([], false, ()) else self6 t103 t104 (add .i64 t105 1) l else j7 l
def qrs_ (l : List (Int × Int × Int)) : Option (As [.sl LAT5, .bool]) :=
  some (l, true, ())
def qin_ (j1 : Bool -> List Bool × List Bool × List Int × List Int -> Option (As [.sl LAT5, .bool])) (m : List Bool × List Bool × List Int × List Int) : Option (As [.sl LAT5, .bool]) :=
  if nei (Int.ofNat (List.length m.1)) 0 = true then j1 true m else if nei (Int.ofNat (List.length m.2.1)) 0 = true then j1 true m else if nei (Int.ofNat (List.length m.2.2.2)) 0 = true then j1 true m else j1 (nei (Int.ofNat (List.length m.2.2.1)) 50) m
def q7y_ (u2 : List Int -> Int -> Int -> Int -> Int -> List (Int × Int × Int) -> Option (As [.sl LAT5, .bool])) (h : List Int) (shown t55 t56 : Int) (t91 : Bool) (l : List (Int × Int × Int)) (x : Int × Int × Int) : Option (As [.sl LAT5, .bool]) := qmz_ u2 h shown t55 t56 t91 l x
def qi4_ (u2 : List Int -> Int -> Int -> Int -> Int -> List (Int × Int × Int) -> Option (As [.sl LAT5, .bool])) (h : List Int) (shown before t55 t56 : Int) (l : List (Int × Int × Int)) (x : Int × Int × Int) : Option (As [.sl LAT5, .bool]) := qmm_ (q7y_ u2) u2 h shown before t55 t56 l x
def qmj_ (l : List (Int × Int × Int)) : Option (As [.sl LAT5, .bool]) := qrs_ l
def qd5_ (t103 : List Int) (t104 t105 : Int) (l : List (Int × Int × Int)) : Option (As [.sl LAT5, .bool]) :=
  loopF (fun (self : (List Int) × (Int) × (Int) × (List (Int × Int × Int)) -> Option (As [.sl LAT5, .bool])) (s : (List Int) × (Int) × (Int) × (List (Int × Int × Int))) => qaf_ (qmj_) (fun t103 t104 t105 l => self (t103, t104, t105, l)) s.1 s.2.1 s.2.2.1 s.2.2.2) 18446744073709551616 (t103, t104, t105, l)
def qa1_ (h : List Int) (shown : Int) (l : List (Int × Int × Int)) : Option (As [.sl LAT5, .bool]) := qmi_ (qd5_) h shown l
def q82_ (h : List Int) (shown before t55 t56 : Int) (l : List (Int × Int × Int)) : Option (As [.sl LAT5, .bool]) :=
  loopF (fun (self : (List Int) × (Int) × (Int) × (Int) × (Int) × (List (Int × Int × Int)) -> Option (As [.sl LAT5, .bool])) (s : (List Int) × (Int) × (Int) × (Int) × (Int) × (List (Int × Int × Int))) => qad_ (qi4_ (fun h shown before t55 t56 l => self (h, shown, before, t55, t56, l))) (qa1_) (fun h shown before t55 t56 l => self (h, shown, before, t55, t56, l)) s.1 s.2.1 s.2.2.1 s.2.2.2.1 s.2.2.2.2.1 s.2.2.2.2.2) 18446744073709551616 (h, shown, before, t55, t56, l)
def qcy_ (t34 : Bool) (m : List Bool × List Bool × List Int × List Int) : Option (As [.sl LAT5, .bool]) := qhw_ (q82_) t34 m
def view_Read (x : As [.pr (.sl .bool) LAT4]) : Option (As [.sl LAT5, .bool]) := qin_ qcy_ x.1
theorem q11o_ (J : Orc (As [.sl LAT5, .bool])) (w2 : St -> Option (As [.sl LAT5, .bool])) (h : List Int) (shown t55 t56 : Int) (t91 : Bool) (l : List (Int × Int × Int)) (x : Int × Int × Int) : pfn Tryz.prog qt_ 6 18446744073709551616 (Ev.get qs_) 5 qg_ J 1045710 [w2] (qi3_ h shown t55 t56 t91 l x) = qmz_ (fun h shown before t55 t56 l => w2 (q2r_ h shown before t55 t56 l)) h shown t55 t56 t91 l x := by kernel_rfl
theorem q125_ (J : Orc (As [.sl LAT5, .bool])) (w2 : St -> Option (As [.sl LAT5, .bool])) (h : List Int) (shown before t55 t56 : Int) (l : List (Int × Int × Int)) (x : Int × Int × Int) : pfn Tryz.prog qt_ 6 18446744073709551616 (Ev.get qs_) 5 qg_ J 261427 [w2] (qi7_ h shown before t55 t56 l x) = qmm_ (fun h shown t55 t56 t91 l x => J 1045710 [w2] (qi3_ h shown t55 t56 t91 l x)) (fun h shown before t55 t56 l => w2 (q2r_ h shown before t55 t56 l)) h shown before t55 t56 l x := by kernel_rfl
theorem q12j_ (J : Orc (As [.sl LAT5, .bool])) (l : List (Int × Int × Int)) : pfn Tryz.prog qt_ 6 18446744073709551616 (Ev.get qs_) 5 qg_ J 511 [] (qht_ l) = qrs_ l := by kernel_rfl
theorem q126_ (J : Orc (As [.sl LAT5, .bool])) (w6 : St -> Option (As [.sl LAT5, .bool])) (t103 : List Int) (t104 t105 : Int) (l : List (Int × Int × Int)) : pfn Tryz.prog qt_ 6 18446744073709551616 (Ev.get qs_) 5 qg_ J 4090 [w6] (qa8_ t103 t104 t105 l) = qaf_ (fun l => J 511 [] (qht_ l)) (fun t103 t104 t105 l => w6 (qa8_ t103 t104 t105 l)) t103 t104 t105 l := by kernel_rfl
theorem q13e_ (J : Orc (As [.sl LAT5, .bool])) (h : List Int) (shown : Int) (l : List (Int × Int × Int)) : pfn Tryz.prog qt_ 6 18446744073709551616 (Ev.get qs_) 5 qg_ J 255 [] (qi1_ h shown l) = qmi_ (fun t103 t104 t105 l => J 4090 [] (qa8_ t103 t104 t105 l)) h shown l := by kernel_rfl
theorem q123_ (J : Orc (As [.sl LAT5, .bool])) (w2 : St -> Option (As [.sl LAT5, .bool])) (h : List Int) (shown before t55 t56 : Int) (l : List (Int × Int × Int)) : pfn Tryz.prog qt_ 6 18446744073709551616 (Ev.get qs_) 5 qg_ J 2042 [w2] (q2r_ h shown before t55 t56 l) = qad_ (fun h shown before t55 t56 l x => J 261427 [w2] (qi7_ h shown before t55 t56 l x)) (fun h shown l => J 255 [] (qi1_ h shown l)) (fun h shown before t55 t56 l => w2 (q2r_ h shown before t55 t56 l)) h shown before t55 t56 l := by kernel_rfl
theorem q12m_ (J : Orc (As [.sl LAT5, .bool])) (t34 : Bool) (m : List Bool × List Bool × List Int × List Int) : pfn Tryz.prog qt_ 6 18446744073709551616 (Ev.get qs_) 5 qg_ J 6 [] (qhx_ t34 m) = qhw_ (fun h shown before t55 t56 l => J 2042 [] (q2r_ h shown before t55 t56 l)) t34 m := by kernel_rfl
theorem q137_ (J : Orc (As [.sl LAT5, .bool])) (x : As [.pr (.sl .bool) LAT4]) : rfn Tryz.prog qt_ 6 18446744073709551616 (Ev.get qs_) 5 qg_ J x = qin_ (fun t34 m => J 6 [] (qhx_ t34 m)) x.1 := by kernel_rfl
theorem q139_ (w2 : St -> Option (As [.sl LAT5, .bool])) (h : List Int) (shown t55 t56 : Int) (t91 : Bool) (l : List (Int × Int × Int)) (x : Int × Int × Int) : jfn Tryz.prog qt_ 6 18446744073709551616 (Ev.get qs_) 5 qg_ 1045710 [w2] (qi3_ h shown t55 t56 t91 l x) = q7y_ (fun h shown before t55 t56 l => w2 (q2r_ h shown before t55 t56 l)) h shown t55 t56 t91 l x := by
  rw [pfn_eq (by decide)]
  rw [q11o_]
  rfl
theorem q11y_ (w2 : St -> Option (As [.sl LAT5, .bool])) (h : List Int) (shown before t55 t56 : Int) (l : List (Int × Int × Int)) (x : Int × Int × Int) : jfn Tryz.prog qt_ 6 18446744073709551616 (Ev.get qs_) 5 qg_ 261427 [w2] (qi7_ h shown before t55 t56 l x) = qi4_ (fun h shown before t55 t56 l => w2 (q2r_ h shown before t55 t56 l)) h shown before t55 t56 l x := by
  rw [pfn_eq (by decide)]
  have e5 : (fun h shown t55 t56 t91 l x => (jfn Tryz.prog qt_ 6 18446744073709551616 (Ev.get qs_) 5 qg_) 1045710 [w2] (qi3_ h shown t55 t56 t91 l x)) = q7y_ (fun h shown before t55 t56 l => w2 (q2r_ h shown before t55 t56 l)) := by funext h shown t55 t56 t91 l x; exact q139_ w2 h shown t55 t56 t91 l x
  rw [q125_, e5]
  rfl
theorem q12n_ (l : List (Int × Int × Int)) : jfn Tryz.prog qt_ 6 18446744073709551616 (Ev.get qs_) 5 qg_ 511 [] (qht_ l) = qmj_ l := by
  rw [pfn_eq (by decide)]
  rw [q12j_]
  rfl
theorem q124_ (t103 : List Int) (t104 t105 : Int) (l : List (Int × Int × Int)) : jfn Tryz.prog qt_ 6 18446744073709551616 (Ev.get qs_) 5 qg_ 4090 [] (qa8_ t103 t104 t105 l) = qd5_ t103 t104 t105 l := by
  rw [pfn_eq (by decide)]
  rw [pfn_loop (by kernel_rfl)]
  refine loopF_sim (σ := (List Int) × (Int) × (Int) × (List (Int × Int × Int))) (mk := fun s => qa8_ s.1 s.2.1 s.2.2.1 s.2.2.2) (fun w6 s => ?_) 18446744073709551616 (t103, t104, t105, l)
  have e7 : (fun l => (jfn Tryz.prog qt_ 6 18446744073709551616 (Ev.get qs_) 5 qg_) 511 [] (qht_ l)) = qmj_ := funext fun l => q12n_ l
  refine (q126_ _ w6 s.1 s.2.1 s.2.2.1 s.2.2.2).trans ?_
  rw [e7]
theorem q12p_ (h : List Int) (shown : Int) (l : List (Int × Int × Int)) : jfn Tryz.prog qt_ 6 18446744073709551616 (Ev.get qs_) 5 qg_ 255 [] (qi1_ h shown l) = qa1_ h shown l := by
  rw [pfn_eq (by decide)]
  have e6 : (fun t103 t104 t105 l => (jfn Tryz.prog qt_ 6 18446744073709551616 (Ev.get qs_) 5 qg_) 4090 [] (qa8_ t103 t104 t105 l)) = qd5_ := by funext t103 t104 t105 l; exact q124_ t103 t104 t105 l
  rw [q13e_, e6]
  rfl
theorem q136_ (h : List Int) (shown before t55 t56 : Int) (l : List (Int × Int × Int)) : jfn Tryz.prog qt_ 6 18446744073709551616 (Ev.get qs_) 5 qg_ 2042 [] (q2r_ h shown before t55 t56 l) = q82_ h shown before t55 t56 l := by
  rw [pfn_eq (by decide)]
  rw [pfn_loop (by kernel_rfl)]
  refine loopF_sim (σ := (List Int) × (Int) × (Int) × (Int) × (Int) × (List (Int × Int × Int))) (mk := fun s => q2r_ s.1 s.2.1 s.2.2.1 s.2.2.2.1 s.2.2.2.2.1 s.2.2.2.2.2) (fun w2 s => ?_) 18446744073709551616 (h, shown, before, t55, t56, l)
  have e3 : (fun h shown before t55 t56 l x => (jfn Tryz.prog qt_ 6 18446744073709551616 (Ev.get qs_) 5 qg_) 261427 [w2] (qi7_ h shown before t55 t56 l x)) = qi4_ (fun h shown before t55 t56 l => w2 (q2r_ h shown before t55 t56 l)) := by funext h shown before t55 t56 l x; exact q11y_ w2 h shown before t55 t56 l x
  have e4 : (fun h shown l => (jfn Tryz.prog qt_ 6 18446744073709551616 (Ev.get qs_) 5 qg_) 255 [] (qi1_ h shown l)) = qa1_ := by funext h shown l; exact q12p_ h shown l
  refine (q123_ _ w2 s.1 s.2.1 s.2.2.1 s.2.2.2.1 s.2.2.2.2.1 s.2.2.2.2.2).trans ?_
  rw [e3, e4]
theorem q12u_ (t34 : Bool) (m : List Bool × List Bool × List Int × List Int) : jfn Tryz.prog qt_ 6 18446744073709551616 (Ev.get qs_) 5 qg_ 6 [] (qhx_ t34 m) = qcy_ t34 m := by
  rw [pfn_eq (by decide)]
  have e2 : (fun h shown before t55 t56 l => (jfn Tryz.prog qt_ 6 18446744073709551616 (Ev.get qs_) 5 qg_) 2042 [] (q2r_ h shown before t55 t56 l)) = q82_ := by funext h shown before t55 t56 l; exact q136_ h shown before t55 t56 l
  rw [q12m_, e2]
  rfl
theorem q141_ (x : As [.pr (.sl .bool) LAT4]) : evT Tryz.prog qt_ 6 18446744073709551616 (Ev.get qs_) 5 qg_ x = view_Read x := by
  have e1 : (fun t34 m => (jfn Tryz.prog qt_ 6 18446744073709551616 (Ev.get qs_) 5 qg_) 6 [] (qhx_ t34 m)) = qcy_ := by funext t34 m; exact q12u_ t34 m
  rw [rfn_eq, q137_, e1]
  rfl
theorem q12x_ : CtOk Tryz.prog (fun _ => True) 5 ⟨qg_, view_Read⟩ := ct_of_ev (env_cons qzg_ (env_cons qtq_ env_nil)) q141_
@[reducible] def qm_ : Sh := ⟨[.d (.pr (.sl .bool) LAT4)], [], [.pr (.sl .bool) LAT4], [.d (.sl LAT5), .d (.bool)], [], 0, [.sl LAT5, .bool]⟩
def qq_ : Env := (cts [])
def qr_ : List (Nat × Hint) := [(63, ⟨[], [5]⟩), (506, ⟨[.row 5 52], [4, 5, 6, 7]⟩), (2025, ⟨[.row 5 52], [4, 5, 6, 7]⟩), (129614, ⟨[.agd 128 (.int .u32), .agd 129 (.sl (.int .u16)), .agd 131 (.int .u16), .agd 132 (.sl (.int .u16)), .agd 134 (.int .u16), .agd 135 (.int .u16), .agd 136 (.int .u32), .agd 137 .bool], [4, 5, 7, 8, 138]⟩), (64806, ⟨[.agd 106 (.int .u16), .agd 107 .bool, .agd 111 (.int .u16), .agd 112 .bool, .agd 116 (.int .u16), .agd 117 .bool, .agd 121 (.int .u16), .agd 122 .bool], [4, 5, 7, 8, 123]⟩), (14, ⟨[], [4, 57, 105, 106, 107, 110, 111, 112, 115, 116, 117, 120, 121, 122, 127, 128, 129, 130, 131, 132, 133, 134, 135, 136, 137]⟩)]
def qge_ (r : List Int) (t57 : Bool) : St := { fr := [(4, .d (.sl (.int .u16)) r), (57, .d .bool t57)], nt := 146, up := [], own := [], nx := 0, log := [], ln := 0 }
def q1b_ (r : List Int) (last i : Int) (out : List (Int × Int × Int)) : St := { fr := [(4, .d (.sl (.int .u16)) r), (5, .row 0), (6, .d (.int .u32) last), (7, .d (.int .i64) i)], nt := 146, up := [], own := [(0, .row LAT5 52 out)], nx := 1, log := [], ln := 0 }
def q8u_ (r : List Int) (last i : Int) (out : List (Int × Int × Int)) : St := { fr := [(4, .d (.sl (.int .u16)) r), (5, .row 0), (6, .d (.int .u32) last), (7, .d (.int .i64) i)], nt := 146, up := [], own := [(0, .row LAT5 52 out)], nx := 1, log := [], ln := 0 }
def qg4_ (r : List Int) (i : Int) (t123 : Bool) (out : List (Int × Int × Int)) (x : Int × Int × Int) : St := { fr := [(4, .d (.sl (.int .u16)) r), (5, .row 0), (7, .d (.int .i64) i), (8, .pb 1 0), (123, .d .bool t123)], nt := 146, up := [], own := [(0, .row LAT5 52 out), (1, .box 52 [.d (.int .u32) x.1, .d (.int .u16) x.2.1, .d (.int .u16) x.2.2])], nx := 2, log := [], ln := 0 }
def qfv_ (out : List (Int × Int × Int)) : St := { fr := [(5, .row 0)], nt := 146, up := [], own := [(0, .row LAT5 52 out)], nx := 1, log := [], ln := 0 }
def qgm_ (r : List Int) (i : Int) (t138 : Bool) (out : List (Int × Int × Int)) (x : Int × Int × Int) : St := { fr := [(4, .d (.sl (.int .u16)) r), (5, .row 0), (7, .d (.int .i64) i), (8, .pb 1 0), (138, .d .bool t138)], nt := 146, up := [], own := [(0, .row LAT5 52 out), (1, .box 52 [.d (.int .u32) x.1, .d (.int .u16) x.2.1, .d (.int .u16) x.2.2])], nx := 2, log := [], ln := 0 }
def qqk_ (j2 : List Int -> Int -> Int -> List (Int × Int × Int) -> Option (As [.sl LAT5, .bool])) (r : List Int) (t57 : Bool) : Option (As [.sl LAT5, .bool]) :=
  if t57 = true then some ([], false, ()) else j2 r 0 0 []
def q8r_ (j3 : List Int -> Int -> Int -> List (Int × Int × Int) -> Option (As [.sl LAT5, .bool])) (j4 : List Int -> Int -> Bool -> List (Int × Int × Int) -> Int × Int × Int -> Option (As [.sl LAT5, .bool])) (j5 : List (Int × Int × Int) -> Option (As [.sl LAT5, .bool])) (self2 : List Int -> Int -> Int -> List (Int × Int × Int) -> Option (As [.sl LAT5, .bool])) (r : List Int) (last i : Int) (out : List (Int × Int × Int)) : Option (As [.sl LAT5, .bool]) :=
  if lt i 12 = true then Option.bind (at? r (add .i64 2 (mul .i64 4 i))) fun (y : Int) => Option.bind (at? r (add .i64 3 (mul .i64 4 i))) fun (y_1 : Int) => Option.bind (at? r (add .i64 4 (mul .i64 4 i))) fun (y_2 : Int) => Option.bind (at? r (add .i64 5 (mul .i64 4 i))) fun (y_3 : Int) => Option.bind (at? r 1) fun (y_4 : Int) => if ge i (cvt .i64 y_4) = true then if (!(eqi (add .u32 (mul .u32 65536 (cvt .u32 y)) (cvt .u32 y_1)) 0 && (eqi y_2 0 && (eqi y_3 0 && true)))) = true then some ([], false, ()) else j3 r last i out else if le (add .u32 (mul .u32 65536 (cvt .u32 y)) (cvt .u32 y_1)) last = true then j4 r i true out (add .u32 (mul .u32 65536 (cvt .u32 y)) (cvt .u32 y_1), y_2, y_3) else if lt y_2 1 = true then j4 r i true out (add .u32 (mul .u32 65536 (cvt .u32 y)) (cvt .u32 y_1), y_2, y_3) else if gt y_2 6 = true then j4 r i true out (add .u32 (mul .u32 65536 (cvt .u32 y)) (cvt .u32 y_1), y_2, y_3) else if lt y_3 1 = true then j4 r i true out (add .u32 (mul .u32 65536 (cvt .u32 y)) (cvt .u32 y_1), y_2, y_3) else j4 r i (gt y_3 255) out (add .u32 (mul .u32 65536 (cvt .u32 y)) (cvt .u32 y_1), y_2, y_3) else j5 out
def ql7_ (self2 : List Int -> Int -> Int -> List (Int × Int × Int) -> Option (As [.sl LAT5, .bool])) (r : List Int) (last i : Int) (out : List (Int × Int × Int)) : Option (As [.sl LAT5, .bool]) :=
  self2 r last (add .i64 i 1) out
def ql5_ (j6 : List Int -> Int -> Bool -> List (Int × Int × Int) -> Int × Int × Int -> Option (As [.sl LAT5, .bool])) (self2 : List Int -> Int -> Int -> List (Int × Int × Int) -> Option (As [.sl LAT5, .bool])) (r : List Int) (i : Int) (t123 : Bool) (out : List (Int × Int × Int)) (x : Int × Int × Int) : Option (As [.sl LAT5, .bool]) :=
  if t123 = true then some ([], false, ()) else if eqi i 0 = true then Option.bind (at? r 0) fun (y : Int) => Option.bind (at? r 1) fun (y_1 : Int) => j6 r i (le x.1 (cvt .u32 (Sx.sub .u16 y y_1))) out x else j6 r i false out x
def qqf_ (out : List (Int × Int × Int)) : Option (As [.sl LAT5, .bool]) :=
  some (out, true, ())
def ql8_ (j3 self2 : List Int -> Int -> Int -> List (Int × Int × Int) -> Option (As [.sl LAT5, .bool])) (r : List Int) (i : Int) (t138 : Bool) (out : List (Int × Int × Int)) (x : Int × Int × Int) : Option (As [.sl LAT5, .bool]) :=
  if t138 = true then some ([], false, ()) else need (small (List.length out + Nat.succ 0)) (j3 r x.1 i (out ++ [x]))
def qfw_ (j1 : List Int -> Bool -> Option (As [.sl LAT5, .bool])) (m : List Bool × List Bool × List Int × List Int) : Option (As [.sl LAT5, .bool]) :=
  if nei (Int.ofNat (List.length m.2.2.1)) 50 = true then j1 m.2.2.1 true else if gt (add .i64 (add .i64 (Int.ofNat (List.length m.1)) (Int.ofNat (List.length m.2.1))) (Int.ofNat (List.length m.2.2.2))) 0 = true then j1 m.2.2.1 true else Option.bind (at? m.2.2.1 1) fun (y : Int) => if gt y 12 = true then j1 m.2.2.1 true else Option.bind (at? m.2.2.1 0) fun (y : Int) => Option.bind (at? m.2.2.1 1) fun (y_1 : Int) => if lt y y_1 = true then j1 m.2.2.1 true else Option.bind (at? m.2.2.1 1) fun (y : Int) => if lt y 12 = true then Option.bind (at? m.2.2.1 0) fun (y : Int) => Option.bind (at? m.2.2.1 1) fun (y_2 : Int) => j1 m.2.2.1 (nei y y_2) else j1 m.2.2.1 false
def q6t_ (u2 : List Int -> Int -> Int -> List (Int × Int × Int) -> Option (As [.sl LAT5, .bool])) (r : List Int) (last i : Int) (out : List (Int × Int × Int)) : Option (As [.sl LAT5, .bool]) := ql7_ u2 r last i out
def qbk_ (u2 : List Int -> Int -> Int -> List (Int × Int × Int) -> Option (As [.sl LAT5, .bool])) (r : List Int) (i : Int) (t138 : Bool) (out : List (Int × Int × Int)) (x : Int × Int × Int) : Option (As [.sl LAT5, .bool]) := ql8_ (q6t_ u2) u2 r i t138 out x
def qbo_ (u2 : List Int -> Int -> Int -> List (Int × Int × Int) -> Option (As [.sl LAT5, .bool])) (r : List Int) (i : Int) (t123 : Bool) (out : List (Int × Int × Int)) (x : Int × Int × Int) : Option (As [.sl LAT5, .bool]) := ql5_ (qbk_ u2) u2 r i t123 out x
def qlm_ (out : List (Int × Int × Int)) : Option (As [.sl LAT5, .bool]) := qqf_ out
def q6r_ (r : List Int) (last i : Int) (out : List (Int × Int × Int)) : Option (As [.sl LAT5, .bool]) :=
  loopF (fun (self : (List Int) × (Int) × (Int) × (List (Int × Int × Int)) -> Option (As [.sl LAT5, .bool])) (s : (List Int) × (Int) × (Int) × (List (Int × Int × Int))) => q8r_ (q6t_ (fun r last i out => self (r, last, i, out))) (qbo_ (fun r last i out => self (r, last, i, out))) (qlm_) (fun r last i out => self (r, last, i, out)) s.1 s.2.1 s.2.2.1 s.2.2.2) 18446744073709551616 (r, last, i, out)
def q5i_ (r : List Int) (t57 : Bool) : Option (As [.sl LAT5, .bool]) := qqk_ (q6r_) r t57
def ref29_Read (x : As [.pr (.sl .bool) LAT4]) : Option (As [.sl LAT5, .bool]) := qfw_ q5i_ x.1
theorem qzp_ (J : Orc (As [.sl LAT5, .bool])) (w2 : St -> Option (As [.sl LAT5, .bool])) (r : List Int) (last i : Int) (out : List (Int × Int × Int)) : pfn Tryz.prog qq_ 6 18446744073709551616 (Ev.get qr_) 6 qm_ J 2025 [w2] (q8u_ r last i out) = ql7_ (fun r last i out => w2 (q1b_ r last i out)) r last i out := by kernel_rfl
theorem q10u_ (J : Orc (As [.sl LAT5, .bool])) (w2 : St -> Option (As [.sl LAT5, .bool])) (r : List Int) (i : Int) (t138 : Bool) (out : List (Int × Int × Int)) (x : Int × Int × Int) : pfn Tryz.prog qq_ 6 18446744073709551616 (Ev.get qr_) 6 qm_ J 129614 [w2] (qgm_ r i t138 out x) = ql8_ (fun r last i out => J 2025 [w2] (q8u_ r last i out)) (fun r last i out => w2 (q1b_ r last i out)) r i t138 out x := by kernel_rfl
theorem q111_ (J : Orc (As [.sl LAT5, .bool])) (w2 : St -> Option (As [.sl LAT5, .bool])) (r : List Int) (i : Int) (t123 : Bool) (out : List (Int × Int × Int)) (x : Int × Int × Int) : pfn Tryz.prog qq_ 6 18446744073709551616 (Ev.get qr_) 6 qm_ J 64806 [w2] (qg4_ r i t123 out x) = ql5_ (fun r i t138 out x => J 129614 [w2] (qgm_ r i t138 out x)) (fun r last i out => w2 (q1b_ r last i out)) r i t123 out x := by kernel_rfl
theorem qzb_ (J : Orc (As [.sl LAT5, .bool])) (out : List (Int × Int × Int)) : pfn Tryz.prog qq_ 6 18446744073709551616 (Ev.get qr_) 6 qm_ J 63 [] (qfv_ out) = qqf_ out := by kernel_rfl
theorem q10y_ (J : Orc (As [.sl LAT5, .bool])) (w2 : St -> Option (As [.sl LAT5, .bool])) (r : List Int) (last i : Int) (out : List (Int × Int × Int)) : pfn Tryz.prog qq_ 6 18446744073709551616 (Ev.get qr_) 6 qm_ J 506 [w2] (q1b_ r last i out) = q8r_ (fun r last i out => J 2025 [w2] (q8u_ r last i out)) (fun r i t123 out x => J 64806 [w2] (qg4_ r i t123 out x)) (fun out => J 63 [] (qfv_ out)) (fun r last i out => w2 (q1b_ r last i out)) r last i out := by kernel_rfl
theorem q114_ (J : Orc (As [.sl LAT5, .bool])) (r : List Int) (t57 : Bool) : pfn Tryz.prog qq_ 6 18446744073709551616 (Ev.get qr_) 6 qm_ J 14 [] (qge_ r t57) = qqk_ (fun r last i out => J 506 [] (q1b_ r last i out)) r t57 := by kernel_rfl
theorem q11a_ (J : Orc (As [.sl LAT5, .bool])) (x : As [.pr (.sl .bool) LAT4]) : rfn Tryz.prog qq_ 6 18446744073709551616 (Ev.get qr_) 6 qm_ J x = qfw_ (fun r t57 => J 14 [] (qge_ r t57)) x.1 := by kernel_rfl
theorem qqt_ (w2 : St -> Option (As [.sl LAT5, .bool])) (r : List Int) (last i : Int) (out : List (Int × Int × Int)) : jfn Tryz.prog qq_ 6 18446744073709551616 (Ev.get qr_) 6 qm_ 2025 [w2] (q8u_ r last i out) = q6t_ (fun r last i out => w2 (q1b_ r last i out)) r last i out := by
  rw [pfn_eq (by decide)]
  rw [qzp_]
  rfl
theorem q116_ (w2 : St -> Option (As [.sl LAT5, .bool])) (r : List Int) (i : Int) (t138 : Bool) (out : List (Int × Int × Int)) (x : Int × Int × Int) : jfn Tryz.prog qq_ 6 18446744073709551616 (Ev.get qr_) 6 qm_ 129614 [w2] (qgm_ r i t138 out x) = qbk_ (fun r last i out => w2 (q1b_ r last i out)) r i t138 out x := by
  rw [pfn_eq (by decide)]
  have e3 : (fun r last i out => (jfn Tryz.prog qq_ 6 18446744073709551616 (Ev.get qr_) 6 qm_) 2025 [w2] (q8u_ r last i out)) = q6t_ (fun r last i out => w2 (q1b_ r last i out)) := by funext r last i out; exact qqt_ w2 r last i out
  rw [q10u_, e3]
  rfl
theorem qzx_ (w2 : St -> Option (As [.sl LAT5, .bool])) (r : List Int) (i : Int) (t123 : Bool) (out : List (Int × Int × Int)) (x : Int × Int × Int) : jfn Tryz.prog qq_ 6 18446744073709551616 (Ev.get qr_) 6 qm_ 64806 [w2] (qg4_ r i t123 out x) = qbo_ (fun r last i out => w2 (q1b_ r last i out)) r i t123 out x := by
  rw [pfn_eq (by decide)]
  have e6 : (fun r i t138 out x => (jfn Tryz.prog qq_ 6 18446744073709551616 (Ev.get qr_) 6 qm_) 129614 [w2] (qgm_ r i t138 out x)) = qbk_ (fun r last i out => w2 (q1b_ r last i out)) := by funext r i t138 out x; exact q116_ w2 r i t138 out x
  rw [q111_, e6]
  rfl
theorem qzn_ (out : List (Int × Int × Int)) : jfn Tryz.prog qq_ 6 18446744073709551616 (Ev.get qr_) 6 qm_ 63 [] (qfv_ out) = qlm_ out := by
  rw [pfn_eq (by decide)]
  rw [qzb_]
  rfl
theorem qyz_ (r : List Int) (last i : Int) (out : List (Int × Int × Int)) : jfn Tryz.prog qq_ 6 18446744073709551616 (Ev.get qr_) 6 qm_ 506 [] (q1b_ r last i out) = q6r_ r last i out := by
  rw [pfn_eq (by decide)]
  rw [pfn_loop (by kernel_rfl)]
  refine loopF_sim (σ := (List Int) × (Int) × (Int) × (List (Int × Int × Int))) (mk := fun s => q1b_ s.1 s.2.1 s.2.2.1 s.2.2.2) (fun w2 s => ?_) 18446744073709551616 (r, last, i, out)
  have e3 : (fun r last i out => (jfn Tryz.prog qq_ 6 18446744073709551616 (Ev.get qr_) 6 qm_) 2025 [w2] (q8u_ r last i out)) = q6t_ (fun r last i out => w2 (q1b_ r last i out)) := by funext r last i out; exact qqt_ w2 r last i out
  have e4 : (fun r i t123 out x => (jfn Tryz.prog qq_ 6 18446744073709551616 (Ev.get qr_) 6 qm_) 64806 [w2] (qg4_ r i t123 out x)) = qbo_ (fun r last i out => w2 (q1b_ r last i out)) := by funext r i t123 out x; exact qzx_ w2 r i t123 out x
  have e5 : (fun out => (jfn Tryz.prog qq_ 6 18446744073709551616 (Ev.get qr_) 6 qm_) 63 [] (qfv_ out)) = qlm_ := funext fun out => qzn_ out
  refine (q10y_ _ w2 s.1 s.2.1 s.2.2.1 s.2.2.2).trans ?_
  rw [e3, e4, e5]
theorem qz9_ (r : List Int) (t57 : Bool) : jfn Tryz.prog qq_ 6 18446744073709551616 (Ev.get qr_) 6 qm_ 14 [] (qge_ r t57) = q5i_ r t57 := by
  rw [pfn_eq (by decide)]
  have e2 : (fun r last i out => (jfn Tryz.prog qq_ 6 18446744073709551616 (Ev.get qr_) 6 qm_) 506 [] (q1b_ r last i out)) = q6r_ := by funext r last i out; exact qyz_ r last i out
  rw [q114_, e2]
  rfl
theorem q11n_ (x : As [.pr (.sl .bool) LAT4]) : evT Tryz.prog qq_ 6 18446744073709551616 (Ev.get qr_) 6 qm_ x = ref29_Read x := by
  have e1 : (fun r t57 => (jfn Tryz.prog qq_ 6 18446744073709551616 (Ev.get qr_) 6 qm_) 14 [] (qge_ r t57)) = q5i_ := by funext r t57; exact qz9_ r t57
  rw [rfn_eq, q11a_, e1]
  rfl
theorem q10z_ : CtOk Tryz.prog (fun _ => True) 6 ⟨qm_, ref29_Read⟩ := ct_of_ev env_nil q11n_
@[reducible] def q7v_ : Sh := ⟨[.d (.sl LAT5), .d (.sl LAT5)], [], [.sl LAT5, .sl LAT5], [.d (.bool)], [], 0, [.bool]⟩
def qcr_ : Env := (cts [])
def qd1_ : List (Nat × Hint) := [(58, ⟨[], [0, 1, 12, 13]⟩)]
def q8p_ (a b : List (Int × Int × Int)) (t12 t13 : Int) : St := { fr := [(0, .d (.sl LAT5) a), (1, .d (.sl LAT5) b), (12, .d (.int .i64) t12), (13, .d (.int .i64) t13)], nt := 26, up := [], own := [], nx := 0, log := [], ln := 0 }
def q8m_ (self1 : List (Int × Int × Int) -> List (Int × Int × Int) -> Int -> Int -> Option (As [.bool])) (a b : List (Int × Int × Int)) (t12 t13 : Int) : Option (As [.bool]) :=
  if lt t13 t12 = true then Option.bind (at? a t13) fun (y : Int × Int × Int) => Option.bind (at? b t13) fun (y_1 : Int × Int × Int) => if (!(eqi y.1 y_1.1 && (eqi y.2.1 y_1.2.1 && (eqi y.2.2 y_1.2.2 && true)))) = true then some (false, ()) else self1 a b t12 (add .i64 t13 1) else some (true, ())
def qgp_ (j1 : List (Int × Int × Int) -> List (Int × Int × Int) -> Int -> Int -> Option (As [.bool])) (a b : List (Int × Int × Int)) : Option (As [.bool]) :=
  if nei (Int.ofNat (List.length a)) (Int.ofNat (List.length b)) = true then some (false, ()) else j1 a b (Int.ofNat (List.length a)) 0
def qbg_ (a b : List (Int × Int × Int)) (t12 t13 : Int) : Option (As [.bool]) :=
  loopF (fun (self : (List (Int × Int × Int)) × (List (Int × Int × Int)) × (Int) × (Int) -> Option (As [.bool])) (s : (List (Int × Int × Int)) × (List (Int × Int × Int)) × (Int) × (Int)) => q8m_ (fun a b t12 t13 => self (a, b, t12, t13)) s.1 s.2.1 s.2.2.1 s.2.2.2) 18446744073709551616 (a, b, t12, t13)
def law29_same (x : As [.sl LAT5, .sl LAT5]) : Option (As [.bool]) := qgp_ qbg_ x.1 x.2.1
theorem q103_ (J : Orc (As [.bool])) (w1 : St -> Option (As [.bool])) (a b : List (Int × Int × Int)) (t12 t13 : Int) : pfn Tryz.prog qcr_ 6 18446744073709551616 (Ev.get qd1_) 7 q7v_ J 58 [w1] (q8p_ a b t12 t13) = q8m_ (fun a b t12 t13 => w1 (q8p_ a b t12 t13)) a b t12 t13 := by kernel_rfl
theorem qz2_ (J : Orc (As [.bool])) (x : As [.sl LAT5, .sl LAT5]) : rfn Tryz.prog qcr_ 6 18446744073709551616 (Ev.get qd1_) 7 q7v_ J x = qgp_ (fun a b t12 t13 => J 58 [] (q8p_ a b t12 t13)) x.1 x.2.1 := by kernel_rfl
theorem q107_ (a b : List (Int × Int × Int)) (t12 t13 : Int) : jfn Tryz.prog qcr_ 6 18446744073709551616 (Ev.get qd1_) 7 q7v_ 58 [] (q8p_ a b t12 t13) = qbg_ a b t12 t13 := by
  rw [pfn_eq (by decide)]
  rw [pfn_loop (by kernel_rfl)]
  refine loopF_sim (σ := (List (Int × Int × Int)) × (List (Int × Int × Int)) × (Int) × (Int)) (mk := fun s => q8p_ s.1 s.2.1 s.2.2.1 s.2.2.2) (fun w1 s => ?_) 18446744073709551616 (a, b, t12, t13)
  refine (q103_ _ w1 s.1 s.2.1 s.2.2.1 s.2.2.2).trans ?_
  rfl
theorem q138_ (x : As [.sl LAT5, .sl LAT5]) : evT Tryz.prog qcr_ 6 18446744073709551616 (Ev.get qd1_) 7 q7v_ x = law29_same x := by
  have e1 : (fun a b t12 t13 => (jfn Tryz.prog qcr_ 6 18446744073709551616 (Ev.get qd1_) 7 q7v_) 58 [] (q8p_ a b t12 t13)) = qbg_ := by funext a b t12 t13; exact q107_ a b t12 t13
  rw [rfn_eq, qz2_, e1]
  rfl
theorem q108_ : CtOk Tryz.prog (fun _ => True) 7 ⟨q7v_, law29_same⟩ := ct_of_ev env_nil q138_
@[reducible] def q3i_ : Sh := ⟨[.d (.sl LAT6)], [], [.sl LAT6], [.d (.bool)], [], 0, [.bool]⟩
def q5f_ : Env := (cts [])
def q5j_ : List (Nat × Hint) := [(58, ⟨[], [0, 3, 4, 21, 22, 23, 26, 27, 28, 29, 32, 33, 34, 37, 38, 39]⟩), (3730, ⟨[.agd 22 (.int .u8), .agd 23 .bool, .agd 27 (.sl (.int .u8)), .agd 28 (.int .i64), .agd 29 .bool, .agd 33 (.int .u8), .agd 34 .bool, .agd 38 (.int .u8), .agd 39 .bool], [0, 4, 5, 40]⟩)]
def q3o_ (l : List LAT8) (last i : Int) : St := { fr := [(0, .d (.sl LAT6) l), (3, .d (.int .u32) last), (4, .d (.int .i64) i)], nt := 43, up := [], own := [], nx := 0, log := [], ln := 0 }
def qed_ (l : List LAT8) (i : Int) (t40 : Bool) (j : VzA3q1) : St := { fr := [(0, .d (.sl LAT6) l), (4, .d (.int .i64) i), (5, .pb 0 0), (40, .d .bool t40)], nt := 43, up := [], own := [(0, .box 42 [.d (.int .u32) j.1, .d (.int .u8) j.2.1, .d (.sl (.int .u8)) j.2.2.1, .d (.int .u8) j.2.2.2])], nx := 1, log := [], ln := 0 }
def q7i_ (j2 : List LAT8 -> Int -> Bool -> VzA3q1 -> Option (As [.bool])) (self1 : List LAT8 -> Int -> Int -> Option (As [.bool])) (l : List LAT8) (last i : Int) : Option (As [.bool]) :=
  if lt i (Int.ofNat (List.length l)) = true then Option.bind (at? l i) fun (y : VzA3q1) => if le y.1 last = true then j2 l i true y else if eqi y.2.1 0 = true then j2 l i true y else if gt (Int.ofNat (List.length y.2.2.1)) 8192 = true then j2 l i true y else if lt y.2.2.2 1 = true then j2 l i true y else j2 l i (gt y.2.2.2 5) y else some (true, ())
def qiy_ (self1 : List LAT8 -> Int -> Int -> Option (As [.bool])) (l : List LAT8) (i : Int) (t40 : Bool) (j : VzA3q1) : Option (As [.bool]) :=
  if t40 = true then some (false, ()) else self1 l j.1 (add .i64 i 1)
def qoq_ (j1 : List LAT8 -> Int -> Int -> Option (As [.bool])) (l : List LAT8) : Option (As [.bool]) :=
  j1 l 0 0
def qa4_ (u1 : List LAT8 -> Int -> Int -> Option (As [.bool])) (l : List LAT8) (i : Int) (t40 : Bool) (j : VzA3q1) : Option (As [.bool]) := qiy_ u1 l i t40 j
def qab_ (l : List LAT8) (last i : Int) : Option (As [.bool]) :=
  loopF (fun (self : (List LAT8) × (Int) × (Int) -> Option (As [.bool])) (s : (List LAT8) × (Int) × (Int)) => q7i_ (qa4_ (fun l last i => self (l, last, i))) (fun l last i => self (l, last, i)) s.1 s.2.1 s.2.2) 18446744073709551616 (l, last, i)
def ref23_Right (x : As [.sl LAT6]) : Option (As [.bool]) := qoq_ qab_ x.1
theorem qwp_ (J : Orc (As [.bool])) (w1 : St -> Option (As [.bool])) (l : List LAT8) (i : Int) (t40 : Bool) (j : VzA3q1) : pfn Tryz.prog q5f_ 6 18446744073709551616 (Ev.get q5j_) 8 q3i_ J 3730 [w1] (qed_ l i t40 j) = qiy_ (fun l last i => w1 (q3o_ l last i)) l i t40 j := by kernel_rfl
theorem qxt_ (J : Orc (As [.bool])) (w1 : St -> Option (As [.bool])) (l : List LAT8) (last i : Int) : pfn Tryz.prog q5f_ 6 18446744073709551616 (Ev.get q5j_) 8 q3i_ J 58 [w1] (q3o_ l last i) = q7i_ (fun l i t40 j => J 3730 [w1] (qed_ l i t40 j)) (fun l last i => w1 (q3o_ l last i)) l last i := by kernel_rfl
theorem qxp_ (J : Orc (As [.bool])) (x : As [.sl LAT6]) : rfn Tryz.prog q5f_ 6 18446744073709551616 (Ev.get q5j_) 8 q3i_ J x = qoq_ (fun l last i => J 58 [] (q3o_ l last i)) x.1 := by kernel_rfl
theorem qyj_ (w1 : St -> Option (As [.bool])) (l : List LAT8) (i : Int) (t40 : Bool) (j : VzA3q1) : jfn Tryz.prog q5f_ 6 18446744073709551616 (Ev.get q5j_) 8 q3i_ 3730 [w1] (qed_ l i t40 j) = qa4_ (fun l last i => w1 (q3o_ l last i)) l i t40 j := by
  rw [pfn_eq (by decide)]
  rw [qwp_]
  rfl
theorem qw7_ (l : List LAT8) (last i : Int) : jfn Tryz.prog q5f_ 6 18446744073709551616 (Ev.get q5j_) 8 q3i_ 58 [] (q3o_ l last i) = qab_ l last i := by
  rw [pfn_eq (by decide)]
  rw [pfn_loop (by kernel_rfl)]
  refine loopF_sim (σ := (List LAT8) × (Int) × (Int)) (mk := fun s => q3o_ s.1 s.2.1 s.2.2) (fun w1 s => ?_) 18446744073709551616 (l, last, i)
  have e2 : (fun l i t40 j => (jfn Tryz.prog q5f_ 6 18446744073709551616 (Ev.get q5j_) 8 q3i_) 3730 [w1] (qed_ l i t40 j)) = qa4_ (fun l last i => w1 (q3o_ l last i)) := by funext l i t40 j; exact qyj_ w1 l i t40 j
  refine (qxt_ _ w1 s.1 s.2.1 s.2.2).trans ?_
  rw [e2]
theorem q11d_ (x : As [.sl LAT6]) : evT Tryz.prog q5f_ 6 18446744073709551616 (Ev.get q5j_) 8 q3i_ x = ref23_Right x := by
  have e1 : (fun l last i => (jfn Tryz.prog q5f_ 6 18446744073709551616 (Ev.get q5j_) 8 q3i_) 58 [] (q3o_ l last i)) = qab_ := by funext l last i; exact qw7_ l last i
  rw [rfn_eq, qxp_, e1]
  rfl
theorem qvp_ : CtOk Tryz.prog (fun _ => True) 8 ⟨q3i_, ref23_Right⟩ := ct_of_ev env_nil q11d_
@[reducible] def q1y_ : Sh := ⟨[.d LAT6, .d (.sl (.int .u32))], [], [.pr (.int .u32) (.pr (.int .u8) (.pr (.sl (.int .u8)) (.int .u8))), .sl (.int .u32)], [.d (.int .u16)], [], 0, [.int .u16]⟩
def q2t_ : Env := (cts [])
def q2q_ : List (Nat × Hint) := [(3, ⟨[], [2]⟩), (26, ⟨[], [1, 2, 5, 16, 17, 18, 19, 20, 21, 22]⟩), (420, ⟨[.agd 16 (.sl (.int .u32)), .agd 17 (.int .i64), .agd 19 (.int .u32), .agd 21 (.int .u32), .agd 22 .bool], [1, 2, 5, 23]⟩)]
def q3q_ (waits : List Int) (i : Int) (j : VzA3q1) : St := { fr := [(1, .d (.sl (.int .u32)) waits), (2, .pb 0 0), (5, .d (.int .i64) i)], nt := 27, up := [], own := [(0, .box 42 [.d (.int .u32) j.1, .d (.int .u8) j.2.1, .d (.sl (.int .u8)) j.2.2.1, .d (.int .u8) j.2.2.2])], nx := 1, log := [], ln := 0 }
def qec_ (waits : List Int) (i : Int) (t23 : Bool) (j : VzA3q1) : St := { fr := [(1, .d (.sl (.int .u32)) waits), (2, .pb 0 0), (5, .d (.int .i64) i), (23, .d .bool t23)], nt := 27, up := [], own := [(0, .box 42 [.d (.int .u32) j.1, .d (.int .u8) j.2.1, .d (.sl (.int .u8)) j.2.2.1, .d (.int .u8) j.2.2.2])], nx := 1, log := [], ln := 0 }
def qdm_ (j : VzA3q1) : St := { fr := [(2, .pb 0 0)], nt := 27, up := [], own := [(0, .box 42 [.d (.int .u32) j.1, .d (.int .u8) j.2.1, .d (.sl (.int .u8)) j.2.2.1, .d (.int .u8) j.2.2.2])], nx := 1, log := [], ln := 0 }
def q79_ (j2 : List Int -> Int -> Bool -> VzA3q1 -> Option (As [.int .u16])) (j3 : VzA3q1 -> Option (As [.int .u16])) (self1 : List Int -> Int -> VzA3q1 -> Option (As [.int .u16])) (waits : List Int) (i : Int) (j : VzA3q1) : Option (As [.int .u16]) :=
  if lt i (Int.ofNat (List.length waits)) = true then if eqi j.2.2.2 1 = true then Option.bind (at? waits i) fun (y : Int) => j2 waits i (eqi y j.1) j else j2 waits i false j else j3 j
def qjg_ (self1 : List Int -> Int -> VzA3q1 -> Option (As [.int .u16])) (waits : List Int) (i : Int) (t23 : Bool) (j : VzA3q1) : Option (As [.int .u16]) :=
  if t23 = true then some (6, ()) else self1 waits (add .i64 i 1) j
def qpn_ (j : VzA3q1) : Option (As [.int .u16]) :=
  some (cvt .u16 j.2.2.2, ())
def qol_ (j1 : List Int -> Int -> VzA3q1 -> Option (As [.int .u16])) (j : VzA3q1) (waits : List Int) : Option (As [.int .u16]) :=
  j1 waits 0 j
def q9y_ (u1 : List Int -> Int -> VzA3q1 -> Option (As [.int .u16])) (waits : List Int) (i : Int) (t23 : Bool) (j : VzA3q1) : Option (As [.int .u16]) := qjg_ u1 waits i t23 j
def qiz_ (j : VzA3q1) : Option (As [.int .u16]) := qpn_ j
def qac_ (waits : List Int) (i : Int) (j : VzA3q1) : Option (As [.int .u16]) :=
  loopF (fun (self : (List Int) × (Int) × LAT8 -> Option (As [.int .u16])) (s : (List Int) × (Int) × LAT8) => q79_ (q9y_ (fun waits i j => self (waits, i, j))) (qiz_) (fun waits i j => self (waits, i, j)) s.1 s.2.1 s.2.2) 18446744073709551616 (waits, i, j)
def ref29_stand (x : As [.pr (.int .u32) (.pr (.int .u8) (.pr (.sl (.int .u8)) (.int .u8))), .sl (.int .u32)]) : Option (As [.int .u16]) := qol_ qac_ x.1 x.2.1
theorem qxo_ (J : Orc (As [.int .u16])) (w1 : St -> Option (As [.int .u16])) (waits : List Int) (i : Int) (t23 : Bool) (j : VzA3q1) : pfn Tryz.prog q2t_ 6 18446744073709551616 (Ev.get q2q_) 22 q1y_ J 420 [w1] (qec_ waits i t23 j) = qjg_ (fun waits i j => w1 (q3q_ waits i j)) waits i t23 j := by kernel_rfl
theorem qvz_ (J : Orc (As [.int .u16])) (j : VzA3q1) : pfn Tryz.prog q2t_ 6 18446744073709551616 (Ev.get q2q_) 22 q1y_ J 3 [] (qdm_ j) = qpn_ j := by kernel_rfl
theorem qwb_ (J : Orc (As [.int .u16])) (w1 : St -> Option (As [.int .u16])) (waits : List Int) (i : Int) (j : VzA3q1) : pfn Tryz.prog q2t_ 6 18446744073709551616 (Ev.get q2q_) 22 q1y_ J 26 [w1] (q3q_ waits i j) = q79_ (fun waits i t23 j => J 420 [w1] (qec_ waits i t23 j)) (fun j => J 3 [] (qdm_ j)) (fun waits i j => w1 (q3q_ waits i j)) waits i j := by kernel_rfl
theorem qwc_ (J : Orc (As [.int .u16])) (x : As [.pr (.int .u32) (.pr (.int .u8) (.pr (.sl (.int .u8)) (.int .u8))), .sl (.int .u32)]) : rfn Tryz.prog q2t_ 6 18446744073709551616 (Ev.get q2q_) 22 q1y_ J x = qol_ (fun waits i j => J 26 [] (q3q_ waits i j)) x.1 x.2.1 := by kernel_rfl
theorem qwh_ (w1 : St -> Option (As [.int .u16])) (waits : List Int) (i : Int) (t23 : Bool) (j : VzA3q1) : jfn Tryz.prog q2t_ 6 18446744073709551616 (Ev.get q2q_) 22 q1y_ 420 [w1] (qec_ waits i t23 j) = q9y_ (fun waits i j => w1 (q3q_ waits i j)) waits i t23 j := by
  rw [pfn_eq (by decide)]
  rw [qxo_]
  rfl
theorem qwd_ (j : VzA3q1) : jfn Tryz.prog q2t_ 6 18446744073709551616 (Ev.get q2q_) 22 q1y_ 3 [] (qdm_ j) = qiz_ j := by
  rw [pfn_eq (by decide)]
  rw [qvz_]
  rfl
theorem qw6_ (waits : List Int) (i : Int) (j : VzA3q1) : jfn Tryz.prog q2t_ 6 18446744073709551616 (Ev.get q2q_) 22 q1y_ 26 [] (q3q_ waits i j) = qac_ waits i j := by
  rw [pfn_eq (by decide)]
  rw [pfn_loop (by kernel_rfl)]
  refine loopF_sim (σ := (List Int) × (Int) × LAT8) (mk := fun s => q3q_ s.1 s.2.1 s.2.2) (fun w1 s => ?_) 18446744073709551616 (waits, i, j)
  have e2 : (fun waits i t23 j => (jfn Tryz.prog q2t_ 6 18446744073709551616 (Ev.get q2q_) 22 q1y_) 420 [w1] (qec_ waits i t23 j)) = q9y_ (fun waits i j => w1 (q3q_ waits i j)) := by funext waits i t23 j; exact qwh_ w1 waits i t23 j
  have e3 : (fun j => (jfn Tryz.prog q2t_ 6 18446744073709551616 (Ev.get q2q_) 22 q1y_) 3 [] (qdm_ j)) = qiz_ := funext fun j => qwd_ j
  refine (qwb_ _ w1 s.1 s.2.1 s.2.2).trans ?_
  rw [e2, e3]
theorem qyy_ (x : As [.pr (.int .u32) (.pr (.int .u8) (.pr (.sl (.int .u8)) (.int .u8))), .sl (.int .u32)]) : evT Tryz.prog q2t_ 6 18446744073709551616 (Ev.get q2q_) 22 q1y_ x = ref29_stand x := by
  have e1 : (fun waits i j => (jfn Tryz.prog q2t_ 6 18446744073709551616 (Ev.get q2q_) 22 q1y_) 26 [] (q3q_ waits i j)) = qac_ := by funext waits i j; exact qw6_ waits i j
  rw [rfn_eq, qwc_, e1]
  rfl
theorem qx4_ : CtOk Tryz.prog (fun _ => True) 22 ⟨q1y_, ref29_stand⟩ := ct_of_ev env_nil qyy_
@[reducible] def q1l_ : Sh := ⟨[.d (.sl LAT6), .d (.sl (.int .u32))], [], [.sl LAT6, .sl (.int .u32)], [.d (.pr (.sl .bool) LAT4)], [], 0, [.pr (.sl .bool) LAT4]⟩
def q28_ : Env := (cts [(22, (⟨q1y_, ref29_stand⟩ : Ct))])
def q2a_ : List (Nat × Hint) := [(15, ⟨[], [0, 1, 4, 5, 6]⟩), (63, ⟨[], [0, 1, 4, 5, 6]⟩), (255, ⟨[], [4, 5]⟩), (2042, ⟨[], [0, 1, 4, 5, 6, 7]⟩)]
def qif_ (l : List LAT8) (waits : List Int) (from' : Int) (m : List Int) : St := { fr := [(0, .d (.sl LAT6) l), (1, .d (.sl (.int .u32)) waits), (4, .pb 0 0), (5, .row 1), (6, .d (.int .i64) from')], nt := 88, up := [], own := [(0, .box 28 [.k (Go.Value.slice Option.none 0 0), .k (Go.Value.slice Option.none 0 0), .k (Go.Value.slice Option.none 0 0), .k (Go.Value.slice Option.none 0 0)]), (1, .row (.int .u16) 43 m)], nx := 2, log := [], ln := 0 }
def qid_ (l : List LAT8) (waits : List Int) (from' : Int) (m : List Int) : St := { fr := [(0, .d (.sl LAT6) l), (1, .d (.sl (.int .u32)) waits), (4, .pb 0 0), (5, .row 1), (6, .d (.int .i64) from')], nt := 88, up := [], own := [(0, .box 28 [.k (Go.Value.slice Option.none 0 0), .k (Go.Value.slice Option.none 0 0), .k (Go.Value.slice Option.none 0 0), .k (Go.Value.slice Option.none 0 0)]), (1, .row (.int .u16) 43 m)], nx := 2, log := [], ln := 0 }
def qa7_ (l : List LAT8) (waits : List Int) (from' i : Int) (m : List Int) : St := { fr := [(0, .d (.sl LAT6) l), (1, .d (.sl (.int .u32)) waits), (4, .pb 0 0), (5, .row 1), (6, .d (.int .i64) from'), (7, .d (.int .i64) i)], nt := 88, up := [], own := [(0, .box 28 [.k (Go.Value.slice Option.none 0 0), .k (Go.Value.slice Option.none 0 0), .k (Go.Value.slice Option.none 0 0), .k (Go.Value.slice Option.none 0 0)]), (1, .row (.int .u16) 43 m)], nx := 2, log := [], ln := 0 }
def qhy_ (m : List Int) : St := { fr := [(4, .pb 0 0), (5, .row 1)], nt := 88, up := [], own := [(0, .box 28 [.k (Go.Value.slice Option.none 0 0), .k (Go.Value.slice Option.none 0 0), .k (Go.Value.slice Option.none 0 0), .k (Go.Value.slice Option.none 0 0)]), (1, .row (.int .u16) 43 m)], nx := 2, log := [], ln := 0 }
def qm7_ (j2 : List LAT8 -> List Int -> Int -> List Int -> Option (As [.pr (.sl .bool) LAT4])) (l : List LAT8) (waits : List Int) (from' : Int) (m : List Int) : Option (As [.pr (.sl .bool) LAT4]) :=
  Option.bind (at? m 0) fun (x : Int) => Option.bind (at? m 0) fun (x : Int) => if lt (Int.ofNat (List.length l)) 65535 = true then Option.bind (at? (List.set m 0 65535) 0) fun (x : Int) => Option.bind (at? (List.set m 0 65535) 0) fun (x : Int) => j2 l waits from' (List.set (List.set m 0 65535) 0 (cvt .u16 (Int.ofNat (List.length l)))) else j2 l waits from' (List.set m 0 65535)
def qmf_ (j3 : List LAT8 -> List Int -> Int -> Int -> List Int -> Option (As [.pr (.sl .bool) LAT4])) (l : List LAT8) (waits : List Int) (from' : Int) (m : List Int) : Option (As [.pr (.sl .bool) LAT4]) :=
  Option.bind (at? m 1) fun (x : Int) => Option.bind (at? m 1) fun (x : Int) => j3 l waits from' from' (List.set m 1 (cvt .u16 (Sx.sub .i64 (Int.ofNat (List.length l)) from')))
def qaa_ (j4 : List Int -> Option (As [.pr (.sl .bool) LAT4])) (self3 : List LAT8 -> List Int -> Int -> Int -> List Int -> Option (As [.pr (.sl .bool) LAT4])) (l : List LAT8) (waits : List Int) (from' i : Int) (m : List Int) : Option (As [.pr (.sl .bool) LAT4]) :=
  if lt i (Int.ofNat (List.length l)) = true then Option.bind (at? l i) fun (y : VzA3q1) => Option.bind (at? m (add .i64 2 (mul .i64 4 (Sx.sub .i64 i from')))) fun (x : Int) => Option.bind (at? m (add .i64 2 (mul .i64 4 (Sx.sub .i64 i from')))) fun (x : Int) => Option.bind (at? l i) fun (y_1 : VzA3q1) => Option.bind (at? (List.set m (Int.toNat (add .i64 2 (mul .i64 4 (Sx.sub .i64 i from')))) (cvt .u16 (quo .u32 y.1 65536))) (add .i64 (add .i64 2 (mul .i64 4 (Sx.sub .i64 i from'))) 1)) fun (x : Int) => Option.bind (at? (List.set m (Int.toNat (add .i64 2 (mul .i64 4 (Sx.sub .i64 i from')))) (cvt .u16 (quo .u32 y.1 65536))) (add .i64 (add .i64 2 (mul .i64 4 (Sx.sub .i64 i from'))) 1)) fun (x : Int) => Option.bind (at? l i) fun (y_2 : VzA3q1) => Option.bind (ref29_stand (y_2, waits, ())) fun (y_3 : Int × Unit) => Option.bind (at? (List.set (List.set m (Int.toNat (add .i64 2 (mul .i64 4 (Sx.sub .i64 i from')))) (cvt .u16 (quo .u32 y.1 65536))) (Int.toNat (add .i64 (add .i64 2 (mul .i64 4 (Sx.sub .i64 i from'))) 1)) (cvt .u16 (rem y_1.1 65536))) (add .i64 (add .i64 2 (mul .i64 4 (Sx.sub .i64 i from'))) 2)) fun (x : Int) => Option.bind (at? (List.set (List.set m (Int.toNat (add .i64 2 (mul .i64 4 (Sx.sub .i64 i from')))) (cvt .u16 (quo .u32 y.1 65536))) (Int.toNat (add .i64 (add .i64 2 (mul .i64 4 (Sx.sub .i64 i from'))) 1)) (cvt .u16 (rem y_1.1 65536))) (add .i64 (add .i64 2 (mul .i64 4 (Sx.sub .i64 i from'))) 2)) fun (x : Int) => Option.bind (at? l i) fun (y_4 : VzA3q1) => Option.bind (at? (List.set (List.set (List.set m (Int.toNat (add .i64 2 (mul .i64 4 (Sx.sub .i64 i from')))) (cvt .u16 (quo .u32 y.1 65536))) (Int.toNat (add .i64 (add .i64 2 (mul .i64 4 (Sx.sub .i64 i from'))) 1)) (cvt .u16 (rem y_1.1 65536))) (Int.toNat (add .i64 (add .i64 2 (mul .i64 4 (Sx.sub .i64 i from'))) 2)) y_3.1) (add .i64 (add .i64 2 (mul .i64 4 (Sx.sub .i64 i from'))) 3)) fun (x : Int) => Option.bind (at? (List.set (List.set (List.set m (Int.toNat (add .i64 2 (mul .i64 4 (Sx.sub .i64 i from')))) (cvt .u16 (quo .u32 y.1 65536))) (Int.toNat (add .i64 (add .i64 2 (mul .i64 4 (Sx.sub .i64 i from'))) 1)) (cvt .u16 (rem y_1.1 65536))) (Int.toNat (add .i64 (add .i64 2 (mul .i64 4 (Sx.sub .i64 i from'))) 2)) y_3.1) (add .i64 (add .i64 2 (mul .i64 4 (Sx.sub .i64 i from'))) 3)) fun (x : Int) => self3 l waits from' (add .i64 i 1) (List.set (List.set (List.set (List.set m (Int.toNat (add .i64 2 (mul .i64 4 (Sx.sub .i64 i from')))) (cvt .u16 (quo .u32 y.1 65536))) (Int.toNat (add .i64 (add .i64 2 (mul .i64 4 (Sx.sub .i64 i from'))) 1)) (cvt .u16 (rem y_1.1 65536))) (Int.toNat (add .i64 (add .i64 2 (mul .i64 4 (Sx.sub .i64 i from'))) 2)) y_3.1) (Int.toNat (add .i64 (add .i64 2 (mul .i64 4 (Sx.sub .i64 i from'))) 3)) (cvt .u16 y_4.2.1)) else j4 m
def qmn_ (m : List Int) : Option (As [.pr (.sl .bool) LAT4]) :=
  some (([], [], m, []), ())
def qim_ (j1 : List LAT8 -> List Int -> Int -> List Int -> Option (As [.pr (.sl .bool) LAT4])) (l : List LAT8) (waits : List Int) : Option (As [.pr (.sl .bool) LAT4]) :=
  if gt (Int.ofNat (List.length l)) 12 = true then j1 l waits (Sx.sub .i64 (Int.ofNat (List.length l)) 12) (List.replicate 50 0) else j1 l waits 0 (List.replicate 50 0)
def qcq_ (m : List Int) : Option (As [.pr (.sl .bool) LAT4]) := qmn_ m
def qcn_ (l : List LAT8) (waits : List Int) (from' i : Int) (m : List Int) : Option (As [.pr (.sl .bool) LAT4]) :=
  loopF (fun (self : (List LAT8) × (List Int) × (Int) × (Int) × (List Int) -> Option (As [.pr (.sl .bool) LAT4])) (s : (List LAT8) × (List Int) × (Int) × (Int) × (List Int)) => qaa_ (qcq_) (fun l waits from' i m => self (l, waits, from', i, m)) s.1 s.2.1 s.2.2.1 s.2.2.2.1 s.2.2.2.2) 18446744073709551616 (l, waits, from', i, m)
def qcp_ (l : List LAT8) (waits : List Int) (from' : Int) (m : List Int) : Option (As [.pr (.sl .bool) LAT4]) := qmf_ (qcn_) l waits from' m
def q7z_ (l : List LAT8) (waits : List Int) (from' : Int) (m : List Int) : Option (As [.pr (.sl .bool) LAT4]) := qm7_ (qcp_) l waits from' m
def ref29_Mem (x : As [.sl LAT6, .sl (.int .u32)]) : Option (As [.pr (.sl .bool) LAT4]) := qim_ q7z_ x.1 x.2.1
theorem q13c_ (J : Orc (As [.pr (.sl .bool) LAT4])) (m : List Int) : pfn Tryz.prog q28_ 6 18446744073709551616 (Ev.get q2a_) 11 q1l_ J 255 [] (qhy_ m) = qmn_ m := by kernel_rfl
theorem q127_ (J : Orc (As [.pr (.sl .bool) LAT4])) (w3 : St -> Option (As [.pr (.sl .bool) LAT4])) (l : List LAT8) (waits : List Int) (from' i : Int) (m : List Int) : pfn Tryz.prog q28_ 6 18446744073709551616 (Ev.get q2a_) 11 q1l_ J 2042 [w3] (qa7_ l waits from' i m) = qaa_ (fun m => J 255 [] (qhy_ m)) (fun l waits from' i m => w3 (qa7_ l waits from' i m)) l waits from' i m := by kernel_rfl
theorem q12d_ (J : Orc (As [.pr (.sl .bool) LAT4])) (l : List LAT8) (waits : List Int) (from' : Int) (m : List Int) : pfn Tryz.prog q28_ 6 18446744073709551616 (Ev.get q2a_) 11 q1l_ J 63 [] (qid_ l waits from' m) = qmf_ (fun l waits from' i m => J 2042 [] (qa7_ l waits from' i m)) l waits from' m := by kernel_rfl
theorem q12l_ (J : Orc (As [.pr (.sl .bool) LAT4])) (l : List LAT8) (waits : List Int) (from' : Int) (m : List Int) : pfn Tryz.prog q28_ 6 18446744073709551616 (Ev.get q2a_) 11 q1l_ J 15 [] (qif_ l waits from' m) = qm7_ (fun l waits from' m => J 63 [] (qid_ l waits from' m)) l waits from' m := by kernel_rfl
theorem q133_ (J : Orc (As [.pr (.sl .bool) LAT4])) (x : As [.sl LAT6, .sl (.int .u32)]) : rfn Tryz.prog q28_ 6 18446744073709551616 (Ev.get q2a_) 11 q1l_ J x = qim_ (fun l waits from' m => J 15 [] (qif_ l waits from' m)) x.1 x.2.1 := by kernel_rfl
theorem q11k_ (m : List Int) : jfn Tryz.prog q28_ 6 18446744073709551616 (Ev.get q2a_) 11 q1l_ 255 [] (qhy_ m) = qcq_ m := by
  rw [pfn_eq (by decide)]
  rw [q13c_]
  rfl
theorem q12w_ (l : List LAT8) (waits : List Int) (from' i : Int) (m : List Int) : jfn Tryz.prog q28_ 6 18446744073709551616 (Ev.get q2a_) 11 q1l_ 2042 [] (qa7_ l waits from' i m) = qcn_ l waits from' i m := by
  rw [pfn_eq (by decide)]
  rw [pfn_loop (by kernel_rfl)]
  refine loopF_sim (σ := (List LAT8) × (List Int) × (Int) × (Int) × (List Int)) (mk := fun s => qa7_ s.1 s.2.1 s.2.2.1 s.2.2.2.1 s.2.2.2.2) (fun w3 s => ?_) 18446744073709551616 (l, waits, from', i, m)
  have e4 : (fun m => (jfn Tryz.prog q28_ 6 18446744073709551616 (Ev.get q2a_) 11 q1l_) 255 [] (qhy_ m)) = qcq_ := funext fun m => q11k_ m
  refine (q127_ _ w3 s.1 s.2.1 s.2.2.1 s.2.2.2.1 s.2.2.2.2).trans ?_
  rw [e4]
theorem q11p_ (l : List LAT8) (waits : List Int) (from' : Int) (m : List Int) : jfn Tryz.prog q28_ 6 18446744073709551616 (Ev.get q2a_) 11 q1l_ 63 [] (qid_ l waits from' m) = qcp_ l waits from' m := by
  rw [pfn_eq (by decide)]
  have e3 : (fun l waits from' i m => (jfn Tryz.prog q28_ 6 18446744073709551616 (Ev.get q2a_) 11 q1l_) 2042 [] (qa7_ l waits from' i m)) = qcn_ := by funext l waits from' i m; exact q12w_ l waits from' i m
  rw [q12d_, e3]
  rfl
theorem q13a_ (l : List LAT8) (waits : List Int) (from' : Int) (m : List Int) : jfn Tryz.prog q28_ 6 18446744073709551616 (Ev.get q2a_) 11 q1l_ 15 [] (qif_ l waits from' m) = q7z_ l waits from' m := by
  rw [pfn_eq (by decide)]
  have e2 : (fun l waits from' m => (jfn Tryz.prog q28_ 6 18446744073709551616 (Ev.get q2a_) 11 q1l_) 63 [] (qid_ l waits from' m)) = qcp_ := by funext l waits from' m; exact q11p_ l waits from' m
  rw [q12l_, e2]
  rfl
theorem q14t_ (x : As [.sl LAT6, .sl (.int .u32)]) : evT Tryz.prog q28_ 6 18446744073709551616 (Ev.get q2a_) 11 q1l_ x = ref29_Mem x := by
  have e1 : (fun l waits from' m => (jfn Tryz.prog q28_ 6 18446744073709551616 (Ev.get q2a_) 11 q1l_) 15 [] (qif_ l waits from' m)) = q7z_ := by funext l waits from' m; exact q13a_ l waits from' m
  rw [rfn_eq, q133_, e1]
  rfl
theorem qrv_ : CtOk Tryz.prog (fun _ => True) 11 ⟨q1l_, ref29_Mem⟩ := ct_of_ev (env_cons qx4_ env_nil) q14t_
@[reducible] def qm2_ : Sh := ⟨[.d (.sl (.int .u8)), .d (.int .i64)], [], [.sl (.int .u8), .int .i64], [.d (.int .i64)], [], 0, [.int .i64]⟩
def qud_ : Env := (cts [])
def qv3_ : List (Nat × Hint) := []
def qk5_ (b : List Int) (i : Int) : Option (As [.int .i64]) :=
  if ge (add .i64 i 1) (Int.ofNat (List.length b)) = true then some (0, ()) else Option.bind (at? b i) fun (y : Int) => Option.bind (at? b (add .i64 i 1)) fun (y_1 : Int) => some (add .i64 (mul .i64 256 (cvt .i64 y)) (cvt .i64 y_1), ())
def ref02_At (x : As [.sl (.int .u8), .int .i64]) : Option (As [.int .i64]) := qk5_ x.1 x.2.1
theorem q14k_ (J : Orc (As [.int .i64])) (x : As [.sl (.int .u8), .int .i64]) : rfn Tryz.prog qud_ 6 18446744073709551616 (Ev.get qv3_) 68 qm2_ J x = qk5_ x.1 x.2.1 := by kernel_rfl
theorem q15g_ (x : As [.sl (.int .u8), .int .i64]) : evT Tryz.prog qud_ 6 18446744073709551616 (Ev.get qv3_) 68 qm2_ x = ref02_At x := by
  rw [rfn_eq, q14k_]
  rfl
theorem q152_ : CtOk Tryz.prog (fun _ => True) 68 ⟨qm2_, ref02_At⟩ := ct_of_ev env_nil q15g_
@[reducible] def q1n_ : Sh := ⟨[.d (.sl (.int .u8))], [], [.sl (.int .u8)], [.d (.sl .bool)], [], 0, [.sl .bool]⟩
def q26_ : Env := (cts [])
def q27_ : List (Nat × Hint) := [(58, ⟨[.row 3 4], [0, 3, 4]⟩), (233, ⟨[], [0, 3, 4]⟩), (7462, ⟨[.row 3 4], [0, 3, 4, 5, 6]⟩)]
def q1o_ (b : List Int) (i : Int) (out : List Bool) : St := { fr := [(0, .d (.sl (.int .u8)) b), (3, .row 0), (4, .d (.int .i64) i)], nt := 31, up := [], own := [(0, .row .bool 4 out)], nx := 1, log := [], ln := 0 }
def q6h_ (b : List Int) (i x k : Int) (out : List Bool) : St := { fr := [(0, .d (.sl (.int .u8)) b), (3, .row 0), (4, .d (.int .i64) i), (5, .d (.int .i64) x), (6, .d (.int .i64) k)], nt := 31, up := [], own := [(0, .row .bool 4 out)], nx := 1, log := [], ln := 0 }
def qch_ (b : List Int) (i : Int) (out : List Bool) : St := { fr := [(0, .d (.sl (.int .u8)) b), (3, .row 0), (4, .d (.int .i64) i)], nt := 31, up := [], own := [(0, .row .bool 4 out)], nx := 1, log := [], ln := 0 }
def q6q_ (j2 : List Int -> Int -> Int -> Int -> List Bool -> Option (As [.sl .bool])) (self1 : List Int -> Int -> List Bool -> Option (As [.sl .bool])) (b : List Int) (i : Int) (out : List Bool) : Option (As [.sl .bool]) :=
  if lt i (Int.ofNat (List.length b)) = true then Option.bind (at? b i) fun (y : Int) => j2 b i (cvt .i64 y) 0 out else some (out, ())
def qcj_ (j3 self1 : List Int -> Int -> List Bool -> Option (As [.sl .bool])) (self2 : List Int -> Int -> Int -> Int -> List Bool -> Option (As [.sl .bool])) (b : List Int) (i x k : Int) (out : List Bool) : Option (As [.sl .bool]) :=
  if lt k 8 = true then need (small (List.length out + Nat.succ 0)) (self2 b i (quo .i64 x 2) (add .i64 k 1) (out ++ [eqi (rem x 2) 1])) else j3 b i out
def qnk_ (self1 : List Int -> Int -> List Bool -> Option (As [.sl .bool])) (b : List Int) (i : Int) (out : List Bool) : Option (As [.sl .bool]) :=
  self1 b (add .i64 i 1) out
def qcl_ (j1 : List Int -> Int -> List Bool -> Option (As [.sl .bool])) (b : List Int) : Option (As [.sl .bool]) :=
  j1 b 0 []
def qie_ (u1 : List Int -> Int -> List Bool -> Option (As [.sl .bool])) (b : List Int) (i : Int) (out : List Bool) : Option (As [.sl .bool]) := qnk_ u1 b i out
def q99_ (u1 : List Int -> Int -> List Bool -> Option (As [.sl .bool])) (b : List Int) (i x k : Int) (out : List Bool) : Option (As [.sl .bool]) :=
  loopF (fun (self : (List Int) × (Int) × (Int) × (Int) × (List Bool) -> Option (As [.sl .bool])) (s : (List Int) × (Int) × (Int) × (Int) × (List Bool)) => qcj_ (qie_ u1) u1 (fun b i x k out => self (b, i, x, k, out)) s.1 s.2.1 s.2.2.1 s.2.2.2.1 s.2.2.2.2) 18446744073709551616 (b, i, x, k, out)
def q9h_ (b : List Int) (i : Int) (out : List Bool) : Option (As [.sl .bool]) :=
  loopF (fun (self : (List Int) × (Int) × (List Bool) -> Option (As [.sl .bool])) (s : (List Int) × (Int) × (List Bool)) => q6q_ (q99_ (fun b i out => self (b, i, out))) (fun b i out => self (b, i, out)) s.1 s.2.1 s.2.2) 18446744073709551616 (b, i, out)
def ref02_Unpack (x : As [.sl (.int .u8)]) : Option (As [.sl .bool]) := qcl_ q9h_ x.1
theorem qup_ (J : Orc (As [.sl .bool])) (w1 : St -> Option (As [.sl .bool])) (b : List Int) (i : Int) (out : List Bool) : pfn Tryz.prog q26_ 6 18446744073709551616 (Ev.get q27_) 69 q1n_ J 233 [w1] (qch_ b i out) = qnk_ (fun b i out => w1 (q1o_ b i out)) b i out := by kernel_rfl
theorem quj_ (J : Orc (As [.sl .bool])) (w1 w2 : St -> Option (As [.sl .bool])) (b : List Int) (i x k : Int) (out : List Bool) : pfn Tryz.prog q26_ 6 18446744073709551616 (Ev.get q27_) 69 q1n_ J 7462 [w1, w2] (q6h_ b i x k out) = qcj_ (fun b i out => J 233 [w1] (qch_ b i out)) (fun b i out => w1 (q1o_ b i out)) (fun b i x k out => w2 (q6h_ b i x k out)) b i x k out := by kernel_rfl
theorem quu_ (J : Orc (As [.sl .bool])) (w1 : St -> Option (As [.sl .bool])) (b : List Int) (i : Int) (out : List Bool) : pfn Tryz.prog q26_ 6 18446744073709551616 (Ev.get q27_) 69 q1n_ J 58 [w1] (q1o_ b i out) = q6q_ (fun b i x k out => J 7462 [w1] (q6h_ b i x k out)) (fun b i out => w1 (q1o_ b i out)) b i out := by kernel_rfl
theorem quk_ (J : Orc (As [.sl .bool])) (x : As [.sl (.int .u8)]) : rfn Tryz.prog q26_ 6 18446744073709551616 (Ev.get q27_) 69 q1n_ J x = qcl_ (fun b i out => J 58 [] (q1o_ b i out)) x.1 := by kernel_rfl
theorem quy_ (w1 : St -> Option (As [.sl .bool])) (b : List Int) (i : Int) (out : List Bool) : jfn Tryz.prog q26_ 6 18446744073709551616 (Ev.get q27_) 69 q1n_ 233 [w1] (qch_ b i out) = qie_ (fun b i out => w1 (q1o_ b i out)) b i out := by
  rw [pfn_eq (by decide)]
  rw [qup_]
  rfl
theorem qux_ (w1 : St -> Option (As [.sl .bool])) (b : List Int) (i x k : Int) (out : List Bool) : jfn Tryz.prog q26_ 6 18446744073709551616 (Ev.get q27_) 69 q1n_ 7462 [w1] (q6h_ b i x k out) = q99_ (fun b i out => w1 (q1o_ b i out)) b i x k out := by
  rw [pfn_eq (by decide)]
  rw [pfn_loop (by kernel_rfl)]
  refine loopF_sim (σ := (List Int) × (Int) × (Int) × (Int) × (List Bool)) (mk := fun s => q6h_ s.1 s.2.1 s.2.2.1 s.2.2.2.1 s.2.2.2.2) (fun w2 s => ?_) 18446744073709551616 (b, i, x, k, out)
  have e3 : (fun b i out => (jfn Tryz.prog q26_ 6 18446744073709551616 (Ev.get q27_) 69 q1n_) 233 [w1] (qch_ b i out)) = qie_ (fun b i out => w1 (q1o_ b i out)) := by funext b i out; exact quy_ w1 b i out
  refine (quj_ _ w1 w2 s.1 s.2.1 s.2.2.1 s.2.2.2.1 s.2.2.2.2).trans ?_
  rw [e3]
theorem qv0_ (b : List Int) (i : Int) (out : List Bool) : jfn Tryz.prog q26_ 6 18446744073709551616 (Ev.get q27_) 69 q1n_ 58 [] (q1o_ b i out) = q9h_ b i out := by
  rw [pfn_eq (by decide)]
  rw [pfn_loop (by kernel_rfl)]
  refine loopF_sim (σ := (List Int) × (Int) × (List Bool)) (mk := fun s => q1o_ s.1 s.2.1 s.2.2) (fun w1 s => ?_) 18446744073709551616 (b, i, out)
  have e2 : (fun b i x k out => (jfn Tryz.prog q26_ 6 18446744073709551616 (Ev.get q27_) 69 q1n_) 7462 [w1] (q6h_ b i x k out)) = q99_ (fun b i out => w1 (q1o_ b i out)) := by funext b i x k out; exact qux_ w1 b i x k out
  refine (quu_ _ w1 s.1 s.2.1 s.2.2).trans ?_
  rw [e2]
theorem qxc_ (x : As [.sl (.int .u8)]) : evT Tryz.prog q26_ 6 18446744073709551616 (Ev.get q27_) 69 q1n_ x = ref02_Unpack x := by
  have e1 : (fun b i out => (jfn Tryz.prog q26_ 6 18446744073709551616 (Ev.get q27_) 69 q1n_) 58 [] (q1o_ b i out)) = q9h_ := by funext b i out; exact qv0_ b i out
  rw [rfn_eq, quk_, e1]
  rfl
theorem quv_ : CtOk Tryz.prog (fun _ => True) 69 ⟨q1n_, ref02_Unpack⟩ := ct_of_ev env_nil qxc_
@[reducible] def qj_ : Sh := ⟨[.d (.sl .bool)], [], [.sl .bool], [.d (.sl (.int .u8))], [], 0, [.sl (.int .u8)]⟩
def qv_ : Env := (cts [])
def qx_ : List (Nat × Hint) := [(58, ⟨[.row 3 5], [0, 3, 4]⟩), (233, ⟨[], [0, 3, 4, 26, 27, 28, 29, 30, 31]⟩), (1865, ⟨[], [0, 3, 4, 5, 26, 27, 28, 29, 30, 31]⟩), (14922, ⟨[], [0, 3, 4, 5, 6, 26, 27, 28, 29, 30, 31]⟩), (59689, ⟨[], [0, 3, 4, 5, 6, 26, 27, 28, 29, 30, 31]⟩), (477513, ⟨[.agd 26 (.sl .bool), .agd 27 (.int .i64), .agd 28 (.int .i64), .agd 29 (.int .i64), .agd 31 .bool], [0, 3, 4, 5, 6, 32]⟩)]
def qn_ (bits : List Bool) (i : Int) (out : List Int) : St := { fr := [(0, .d (.sl .bool) bits), (3, .row 0), (4, .d (.int .i64) i)], nt := 41, up := [], own := [(0, .row (.int .u8) 5 out)], nx := 1, log := [], ln := 0 }
def q25_ (bits : List Bool) (i c k : Int) (out : List Int) : St := { fr := [(0, .d (.sl .bool) bits), (3, .row 0), (4, .d (.int .i64) i), (5, .d (.int .i64) c), (6, .d (.int .i64) k)], nt := 41, up := [], own := [(0, .row (.int .u8) 5 out)], nx := 1, log := [], ln := 0 }
def qgh_ (bits : List Bool) (i c k : Int) (t32 : Bool) (out : List Int) : St := { fr := [(0, .d (.sl .bool) bits), (3, .row 0), (4, .d (.int .i64) i), (5, .d (.int .i64) c), (6, .d (.int .i64) k), (32, .d .bool t32)], nt := 41, up := [], own := [(0, .row (.int .u8) 5 out)], nx := 1, log := [], ln := 0 }
def qg3_ (bits : List Bool) (i c : Int) (out : List Int) : St := { fr := [(0, .d (.sl .bool) bits), (3, .row 0), (4, .d (.int .i64) i), (5, .d (.int .i64) c)], nt := 41, up := [], own := [(0, .row (.int .u8) 5 out)], nx := 1, log := [], ln := 0 }
def qgb_ (bits : List Bool) (i c k : Int) (out : List Int) : St := { fr := [(0, .d (.sl .bool) bits), (3, .row 0), (4, .d (.int .i64) i), (5, .d (.int .i64) c), (6, .d (.int .i64) k)], nt := 41, up := [], own := [(0, .row (.int .u8) 5 out)], nx := 1, log := [], ln := 0 }
def qgf_ (bits : List Bool) (i : Int) (out : List Int) : St := { fr := [(0, .d (.sl .bool) bits), (3, .row 0), (4, .d (.int .i64) i)], nt := 41, up := [], own := [(0, .row (.int .u8) 5 out)], nx := 1, log := [], ln := 0 }
def q8k_ (j2 : List Bool -> Int -> Int -> Int -> List Int -> Option (As [.sl (.int .u8)])) (self1 : List Bool -> Int -> List Int -> Option (As [.sl (.int .u8)])) (bits : List Bool) (i : Int) (out : List Int) : Option (As [.sl (.int .u8)]) :=
  if lt i (Int.ofNat (List.length bits)) = true then j2 bits i 0 7 out else some (out, ())
def q8v_ (j3 : List Bool -> Int -> Int -> Int -> Bool -> List Int -> Option (As [.sl (.int .u8)])) (j4 : List Bool -> Int -> Int -> List Int -> Option (As [.sl (.int .u8)])) (self1 : List Bool -> Int -> List Int -> Option (As [.sl (.int .u8)])) (self2 : List Bool -> Int -> Int -> Int -> List Int -> Option (As [.sl (.int .u8)])) (bits : List Bool) (i c k : Int) (out : List Int) : Option (As [.sl (.int .u8)]) :=
  if ge k 0 = true then if lt (add .i64 i k) (Int.ofNat (List.length bits)) = true then Option.bind (at? bits (add .i64 i k)) fun (y : Bool) => j3 bits i (mul .i64 c 2) k y out else j3 bits i (mul .i64 c 2) k false out else j4 bits i c out
def ql6_ (j5 : List Bool -> Int -> Int -> Int -> List Int -> Option (As [.sl (.int .u8)])) (self1 : List Bool -> Int -> List Int -> Option (As [.sl (.int .u8)])) (self2 : List Bool -> Int -> Int -> Int -> List Int -> Option (As [.sl (.int .u8)])) (bits : List Bool) (i c k : Int) (t32 : Bool) (out : List Int) : Option (As [.sl (.int .u8)]) :=
  if t32 = true then j5 bits i (add .i64 c 1) k out else j5 bits i c k out
def qll_ (j6 self1 : List Bool -> Int -> List Int -> Option (As [.sl (.int .u8)])) (bits : List Bool) (i c : Int) (out : List Int) : Option (As [.sl (.int .u8)]) :=
  need (small (List.length out + Nat.succ 0)) (j6 bits i (out ++ [cvt .u8 c]))
def qli_ (self1 : List Bool -> Int -> List Int -> Option (As [.sl (.int .u8)])) (self2 : List Bool -> Int -> Int -> Int -> List Int -> Option (As [.sl (.int .u8)])) (bits : List Bool) (i c k : Int) (out : List Int) : Option (As [.sl (.int .u8)]) :=
  self2 bits i c (Sx.sub .i64 k 1) out
def qlk_ (self1 : List Bool -> Int -> List Int -> Option (As [.sl (.int .u8)])) (bits : List Bool) (i : Int) (out : List Int) : Option (As [.sl (.int .u8)]) :=
  self1 bits (add .i64 i 8) out
def qgq_ (j1 : List Bool -> Int -> List Int -> Option (As [.sl (.int .u8)])) (bits : List Bool) : Option (As [.sl (.int .u8)]) :=
  j1 bits 0 []
def qfn_ (u1 : List Bool -> Int -> List Int -> Option (As [.sl (.int .u8)])) (u2 : List Bool -> Int -> Int -> Int -> List Int -> Option (As [.sl (.int .u8)])) (bits : List Bool) (i c k : Int) (out : List Int) : Option (As [.sl (.int .u8)]) := qli_ u1 u2 bits i c k out
def qbd_ (u1 : List Bool -> Int -> List Int -> Option (As [.sl (.int .u8)])) (u2 : List Bool -> Int -> Int -> Int -> List Int -> Option (As [.sl (.int .u8)])) (bits : List Bool) (i c k : Int) (t32 : Bool) (out : List Int) : Option (As [.sl (.int .u8)]) := ql6_ (qfn_ u1 u2) u1 u2 bits i c k t32 out
def qg8_ (u1 : List Bool -> Int -> List Int -> Option (As [.sl (.int .u8)])) (bits : List Bool) (i : Int) (out : List Int) : Option (As [.sl (.int .u8)]) := qlk_ u1 bits i out
def qgu_ (u1 : List Bool -> Int -> List Int -> Option (As [.sl (.int .u8)])) (bits : List Bool) (i c : Int) (out : List Int) : Option (As [.sl (.int .u8)]) := qll_ (qg8_ u1) u1 bits i c out
def qbm_ (u1 : List Bool -> Int -> List Int -> Option (As [.sl (.int .u8)])) (bits : List Bool) (i c k : Int) (out : List Int) : Option (As [.sl (.int .u8)]) :=
  loopF (fun (self : (List Bool) × (Int) × (Int) × (Int) × (List Int) -> Option (As [.sl (.int .u8)])) (s : (List Bool) × (Int) × (Int) × (Int) × (List Int)) => q8v_ (qbd_ u1 (fun bits i c k out => self (bits, i, c, k, out))) (qgu_ u1) u1 (fun bits i c k out => self (bits, i, c, k, out)) s.1 s.2.1 s.2.2.1 s.2.2.2.1 s.2.2.2.2) 18446744073709551616 (bits, i, c, k, out)
def qbr_ (bits : List Bool) (i : Int) (out : List Int) : Option (As [.sl (.int .u8)]) :=
  loopF (fun (self : (List Bool) × (Int) × (List Int) -> Option (As [.sl (.int .u8)])) (s : (List Bool) × (Int) × (List Int)) => q8k_ (qbm_ (fun bits i out => self (bits, i, out))) (fun bits i out => self (bits, i, out)) s.1 s.2.1 s.2.2) 18446744073709551616 (bits, i, out)
def ref02_Pack (x : As [.sl .bool]) : Option (As [.sl (.int .u8)]) := qgq_ qbr_ x.1
theorem qzh_ (J : Orc (As [.sl (.int .u8)])) (w1 w2 : St -> Option (As [.sl (.int .u8)])) (bits : List Bool) (i c k : Int) (out : List Int) : pfn Tryz.prog qv_ 6 18446744073709551616 (Ev.get qx_) 52 qj_ J 59689 [w1, w2] (qgb_ bits i c k out) = qli_ (fun bits i out => w1 (qn_ bits i out)) (fun bits i c k out => w2 (q25_ bits i c k out)) bits i c k out := by kernel_rfl
theorem q10k_ (J : Orc (As [.sl (.int .u8)])) (w1 w2 : St -> Option (As [.sl (.int .u8)])) (bits : List Bool) (i c k : Int) (t32 : Bool) (out : List Int) : pfn Tryz.prog qv_ 6 18446744073709551616 (Ev.get qx_) 52 qj_ J 477513 [w1, w2] (qgh_ bits i c k t32 out) = ql6_ (fun bits i c k out => J 59689 [w1, w2] (qgb_ bits i c k out)) (fun bits i out => w1 (qn_ bits i out)) (fun bits i c k out => w2 (q25_ bits i c k out)) bits i c k t32 out := by kernel_rfl
theorem q10h_ (J : Orc (As [.sl (.int .u8)])) (w1 : St -> Option (As [.sl (.int .u8)])) (bits : List Bool) (i : Int) (out : List Int) : pfn Tryz.prog qv_ 6 18446744073709551616 (Ev.get qx_) 52 qj_ J 233 [w1] (qgf_ bits i out) = qlk_ (fun bits i out => w1 (qn_ bits i out)) bits i out := by kernel_rfl
theorem qzk_ (J : Orc (As [.sl (.int .u8)])) (w1 : St -> Option (As [.sl (.int .u8)])) (bits : List Bool) (i c : Int) (out : List Int) : pfn Tryz.prog qv_ 6 18446744073709551616 (Ev.get qx_) 52 qj_ J 1865 [w1] (qg3_ bits i c out) = qll_ (fun bits i out => J 233 [w1] (qgf_ bits i out)) (fun bits i out => w1 (qn_ bits i out)) bits i c out := by kernel_rfl
theorem q109_ (J : Orc (As [.sl (.int .u8)])) (w1 w2 : St -> Option (As [.sl (.int .u8)])) (bits : List Bool) (i c k : Int) (out : List Int) : pfn Tryz.prog qv_ 6 18446744073709551616 (Ev.get qx_) 52 qj_ J 14922 [w1, w2] (q25_ bits i c k out) = q8v_ (fun bits i c k t32 out => J 477513 [w1, w2] (qgh_ bits i c k t32 out)) (fun bits i c out => J 1865 [w1] (qg3_ bits i c out)) (fun bits i out => w1 (qn_ bits i out)) (fun bits i c k out => w2 (q25_ bits i c k out)) bits i c k out := by kernel_rfl
theorem qze_ (J : Orc (As [.sl (.int .u8)])) (w1 : St -> Option (As [.sl (.int .u8)])) (bits : List Bool) (i : Int) (out : List Int) : pfn Tryz.prog qv_ 6 18446744073709551616 (Ev.get qx_) 52 qj_ J 58 [w1] (qn_ bits i out) = q8k_ (fun bits i c k out => J 14922 [w1] (q25_ bits i c k out)) (fun bits i out => w1 (qn_ bits i out)) bits i out := by kernel_rfl
theorem qzj_ (J : Orc (As [.sl (.int .u8)])) (x : As [.sl .bool]) : rfn Tryz.prog qv_ 6 18446744073709551616 (Ev.get qx_) 52 qj_ J x = qgq_ (fun bits i out => J 58 [] (qn_ bits i out)) x.1 := by kernel_rfl
theorem qzd_ (w1 w2 : St -> Option (As [.sl (.int .u8)])) (bits : List Bool) (i c k : Int) (out : List Int) : jfn Tryz.prog qv_ 6 18446744073709551616 (Ev.get qx_) 52 qj_ 59689 [w1, w2] (qgb_ bits i c k out) = qfn_ (fun bits i out => w1 (qn_ bits i out)) (fun bits i c k out => w2 (q25_ bits i c k out)) bits i c k out := by
  rw [pfn_eq (by decide)]
  rw [qzh_]
  rfl
theorem q10o_ (w1 w2 : St -> Option (As [.sl (.int .u8)])) (bits : List Bool) (i c k : Int) (t32 : Bool) (out : List Int) : jfn Tryz.prog qv_ 6 18446744073709551616 (Ev.get qx_) 52 qj_ 477513 [w1, w2] (qgh_ bits i c k t32 out) = qbd_ (fun bits i out => w1 (qn_ bits i out)) (fun bits i c k out => w2 (q25_ bits i c k out)) bits i c k t32 out := by
  rw [pfn_eq (by decide)]
  have e5 : (fun bits i c k out => (jfn Tryz.prog qv_ 6 18446744073709551616 (Ev.get qx_) 52 qj_) 59689 [w1, w2] (qgb_ bits i c k out)) = qfn_ (fun bits i out => w1 (qn_ bits i out)) (fun bits i c k out => w2 (q25_ bits i c k out)) := by funext bits i c k out; exact qzd_ w1 w2 bits i c k out
  rw [q10k_, e5]
  rfl
theorem q115_ (w1 : St -> Option (As [.sl (.int .u8)])) (bits : List Bool) (i : Int) (out : List Int) : jfn Tryz.prog qv_ 6 18446744073709551616 (Ev.get qx_) 52 qj_ 233 [w1] (qgf_ bits i out) = qg8_ (fun bits i out => w1 (qn_ bits i out)) bits i out := by
  rw [pfn_eq (by decide)]
  rw [q10h_]
  rfl
theorem qzo_ (w1 : St -> Option (As [.sl (.int .u8)])) (bits : List Bool) (i c : Int) (out : List Int) : jfn Tryz.prog qv_ 6 18446744073709551616 (Ev.get qx_) 52 qj_ 1865 [w1] (qg3_ bits i c out) = qgu_ (fun bits i out => w1 (qn_ bits i out)) bits i c out := by
  rw [pfn_eq (by decide)]
  have e6 : (fun bits i out => (jfn Tryz.prog qv_ 6 18446744073709551616 (Ev.get qx_) 52 qj_) 233 [w1] (qgf_ bits i out)) = qg8_ (fun bits i out => w1 (qn_ bits i out)) := by funext bits i out; exact q115_ w1 bits i out
  rw [qzk_, e6]
  rfl
theorem q10f_ (w1 : St -> Option (As [.sl (.int .u8)])) (bits : List Bool) (i c k : Int) (out : List Int) : jfn Tryz.prog qv_ 6 18446744073709551616 (Ev.get qx_) 52 qj_ 14922 [w1] (q25_ bits i c k out) = qbm_ (fun bits i out => w1 (qn_ bits i out)) bits i c k out := by
  rw [pfn_eq (by decide)]
  rw [pfn_loop (by kernel_rfl)]
  refine loopF_sim (σ := (List Bool) × (Int) × (Int) × (Int) × (List Int)) (mk := fun s => q25_ s.1 s.2.1 s.2.2.1 s.2.2.2.1 s.2.2.2.2) (fun w2 s => ?_) 18446744073709551616 (bits, i, c, k, out)
  have e3 : (fun bits i c k t32 out => (jfn Tryz.prog qv_ 6 18446744073709551616 (Ev.get qx_) 52 qj_) 477513 [w1, w2] (qgh_ bits i c k t32 out)) = qbd_ (fun bits i out => w1 (qn_ bits i out)) (fun bits i c k out => w2 (q25_ bits i c k out)) := by funext bits i c k t32 out; exact q10o_ w1 w2 bits i c k t32 out
  have e4 : (fun bits i c out => (jfn Tryz.prog qv_ 6 18446744073709551616 (Ev.get qx_) 52 qj_) 1865 [w1] (qg3_ bits i c out)) = qgu_ (fun bits i out => w1 (qn_ bits i out)) := by funext bits i c out; exact qzo_ w1 bits i c out
  refine (q109_ _ w1 w2 s.1 s.2.1 s.2.2.1 s.2.2.2.1 s.2.2.2.2).trans ?_
  rw [e3, e4]
theorem q11f_ (bits : List Bool) (i : Int) (out : List Int) : jfn Tryz.prog qv_ 6 18446744073709551616 (Ev.get qx_) 52 qj_ 58 [] (qn_ bits i out) = qbr_ bits i out := by
  rw [pfn_eq (by decide)]
  rw [pfn_loop (by kernel_rfl)]
  refine loopF_sim (σ := (List Bool) × (Int) × (List Int)) (mk := fun s => qn_ s.1 s.2.1 s.2.2) (fun w1 s => ?_) 18446744073709551616 (bits, i, out)
  have e2 : (fun bits i c k out => (jfn Tryz.prog qv_ 6 18446744073709551616 (Ev.get qx_) 52 qj_) 14922 [w1] (q25_ bits i c k out)) = qbm_ (fun bits i out => w1 (qn_ bits i out)) := by funext bits i c k out; exact q10f_ w1 bits i c k out
  refine (qze_ _ w1 s.1 s.2.1 s.2.2).trans ?_
  rw [e2]
theorem q11j_ (x : As [.sl .bool]) : evT Tryz.prog qv_ 6 18446744073709551616 (Ev.get qx_) 52 qj_ x = ref02_Pack x := by
  have e1 : (fun bits i out => (jfn Tryz.prog qv_ 6 18446744073709551616 (Ev.get qx_) 52 qj_) 58 [] (qn_ bits i out)) = qbr_ := by funext bits i out; exact q11f_ bits i out
  rw [rfn_eq, qzj_, e1]
  rfl
theorem qqr_ : CtOk Tryz.prog (fun _ => True) 52 ⟨qj_, ref02_Pack⟩ := ct_of_ev env_nil q11j_
@[reducible] def qc3_ : Sh := ⟨[.row 0, .d (.int .i64)], [.row (.int .u8) 5], [.int .i64, .sl (.int .u8)], [.row 1], [(1, .row (.int .u8) 5)], 1, [.sl (.int .u8)]⟩
def qt3_ : Env := (cts [])
def qt4_ : List (Nat × Hint) := []
def qig_ (b : Int) (x : List Int) : Option (As [.sl (.int .u8)]) :=
  need (small (List.length x + Nat.succ 0)) (need (small (List.length (x ++ [cvt .u8 (quo .i64 b 256)]) + Nat.succ 0)) (some (x ++ [cvt .u8 (quo .i64 b 256)] ++ [cvt .u8 (rem b 256)], ())))
def ref02_Two (x : As [.int .i64, .sl (.int .u8)]) : Option (As [.sl (.int .u8)]) := qig_ x.1 x.2.1
theorem q120_ (J : Orc (As [.sl (.int .u8)])) (x : As [.int .i64, .sl (.int .u8)]) : rfn Tryz.prog qt3_ 6 18446744073709551616 (Ev.get qt4_) 54 qc3_ J x = qig_ x.1 x.2.1 := by kernel_rfl
theorem q156_ (x : As [.int .i64, .sl (.int .u8)]) : evT Tryz.prog qt3_ 6 18446744073709551616 (Ev.get qt4_) 54 qc3_ x = ref02_Two x := by
  rw [rfn_eq, q120_]
  rfl
theorem qma_ : CtOk Tryz.prog (fun _ => True) 54 ⟨qc3_, ref02_Two⟩ := ct_of_ev env_nil q156_
@[reducible] def q5k_ : Sh := ⟨[.row 0, .d (.sl (.int .u16))], [.row (.int .u8) 5], [.sl (.int .u16), .sl (.int .u8)], [.row 1], [(1, .row (.int .u8) 5)], 1, [.sl (.int .u8)]⟩
def qbf_ : Env := (cts [(54, (⟨qc3_, ref02_Two⟩ : Ct))])
def qba_ : List (Nat × Hint) := [(26, ⟨[.unl 0], [0, 1, 5]⟩)]
def q7o_ (l : List Int) (i : Int) (b : List Int) : St := { fr := [(0, .row 1), (1, .d (.sl (.int .u16)) l), (5, .d (.int .i64) i)], nt := 20, up := [], own := [(1, .row (.int .u8) 5 b)], nx := 2, log := [], ln := 1 }
def q7e_ (self1 : List Int -> Int -> List Int -> Option (As [.sl (.int .u8)])) (l : List Int) (i : Int) (b : List Int) : Option (As [.sl (.int .u8)]) :=
  if lt i (Int.ofNat (List.length l)) = true then Option.bind (at? l i) fun (y : Int) => Option.bind (ref02_Two (cvt .i64 y, b, ())) fun (y : List Int × Unit) => self1 l (add .i64 i 1) y.1 else some (b, ())
def qei_ (j1 : List Int -> Int -> List Int -> Option (As [.sl (.int .u8)])) (b l : List Int) : Option (As [.sl (.int .u8)]) :=
  j1 b 0 l
def qa3_ (l : List Int) (i : Int) (b : List Int) : Option (As [.sl (.int .u8)]) :=
  loopF (fun (self : (List Int) × (Int) × (List Int) -> Option (As [.sl (.int .u8)])) (s : (List Int) × (Int) × (List Int)) => q7e_ (fun l i b => self (l, i, b)) s.1 s.2.1 s.2.2) 18446744073709551616 (l, i, b)
def ref02_Words (x : As [.sl (.int .u16), .sl (.int .u8)]) : Option (As [.sl (.int .u8)]) := qei_ qa3_ x.1 x.2.1
theorem qwt_ (J : Orc (As [.sl (.int .u8)])) (w1 : St -> Option (As [.sl (.int .u8)])) (l : List Int) (i : Int) (b : List Int) : pfn Tryz.prog qbf_ 6 18446744073709551616 (Ev.get qba_) 53 q5k_ J 26 [w1] (q7o_ l i b) = q7e_ (fun l i b => w1 (q7o_ l i b)) l i b := by kernel_rfl
theorem qwi_ (J : Orc (As [.sl (.int .u8)])) (x : As [.sl (.int .u16), .sl (.int .u8)]) : rfn Tryz.prog qbf_ 6 18446744073709551616 (Ev.get qba_) 53 q5k_ J x = qei_ (fun l i b => J 26 [] (q7o_ l i b)) x.1 x.2.1 := by kernel_rfl
theorem qv8_ (l : List Int) (i : Int) (b : List Int) : jfn Tryz.prog qbf_ 6 18446744073709551616 (Ev.get qba_) 53 q5k_ 26 [] (q7o_ l i b) = qa3_ l i b := by
  rw [pfn_eq (by decide)]
  rw [pfn_loop (by kernel_rfl)]
  refine loopF_sim (σ := (List Int) × (Int) × (List Int)) (mk := fun s => q7o_ s.1 s.2.1 s.2.2) (fun w1 s => ?_) 18446744073709551616 (l, i, b)
  refine (qwt_ _ w1 s.1 s.2.1 s.2.2).trans ?_
  rfl
theorem qzy_ (x : As [.sl (.int .u16), .sl (.int .u8)]) : evT Tryz.prog qbf_ 6 18446744073709551616 (Ev.get qba_) 53 q5k_ x = ref02_Words x := by
  have e1 : (fun l i b => (jfn Tryz.prog qbf_ 6 18446744073709551616 (Ev.get qba_) 53 q5k_) 26 [] (q7o_ l i b)) = qa3_ := by funext l i b; exact qv8_ l i b
  rw [rfn_eq, qwi_, e1]
  rfl
theorem qog_ : CtOk Tryz.prog (fun _ => True) 53 ⟨q5k_, ref02_Words⟩ := ct_of_ev (env_cons qma_ env_nil) qzy_
@[reducible] def q1f_ : Sh := ⟨[.d (.pr (.int .u8) LAT2)], [], [.pr (.int .u8) LAT2], [.d (.bool)], [], 0, [.bool]⟩
def q2u_ : Env := (cts [])
def q2v_ : List (Nat × Hint) := [(122, ⟨[], [3, 4, 5, 24, 25, 31, 32, 35, 36, 39, 40, 48, 49, 52, 53, 56, 57, 64, 65, 68, 69, 76, 77, 80, 81, 89, 90, 93, 94, 97, 98, 105, 106, 107, 110, 111, 114, 115, 122, 123, 126, 127, 130, 131, 134, 135]⟩), (491, ⟨[], [3, 4, 5, 24, 42, 48, 49, 52, 53, 56, 57, 64, 65, 68, 69, 76, 77, 80, 81, 89, 90, 93, 94, 97, 98, 105, 106, 107, 110, 111, 114, 115, 122, 123, 126, 127, 130, 131, 134, 135]⟩), (14, ⟨[], [1, 3, 4, 5, 22, 31, 32, 35, 36, 39, 40, 48, 49, 52, 53, 56, 57, 64, 65, 68, 69, 76, 77, 80, 81, 89, 90, 93, 94, 97, 98, 105, 106, 107, 110, 111, 114, 115, 122, 123, 126, 127, 130, 131, 134, 135]⟩)]
def qeg_ (bits words many : Int) (t22 : Bool) (a : VzA3q0) : St := { fr := [(1, .pb 0 0), (3, .d (.int .i64) bits), (4, .d (.int .i64) words), (5, .d (.int .i64) many), (22, .d .bool t22)], nt := 137, up := [], own := [(0, .box 65 [.d (.int .u8) a.1, .d (.int .u16) a.2.1, .d (.int .u16) a.2.2.1, .d (.int .u16) a.2.2.2.1, .d (.sl (.int .u16)) a.2.2.2.2.1, .d (.sl .bool) a.2.2.2.2.2])], nx := 1, log := [], ln := 0 }
def qeq_ (bits words many t24 : Int) (t25 : Bool) : St := { fr := [(3, .d (.int .i64) bits), (4, .d (.int .i64) words), (5, .d (.int .i64) many), (24, .d (.int .u8) t24), (25, .d .bool t25)], nt := 137, up := [], own := [], nx := 0, log := [], ln := 0 }
def qe5_ (bits words many t24 : Int) (t42 : Bool) : St := { fr := [(3, .d (.int .i64) bits), (4, .d (.int .i64) words), (5, .d (.int .i64) many), (24, .d (.int .u8) t24), (42, .d .bool t42)], nt := 137, up := [], own := [], nx := 0, log := [], ln := 0 }
def qjp_ (j2 : Int -> Int -> Int -> Int -> Bool -> Option (As [.bool])) (bits words many : Int) (t22 : Bool) (a : VzA3q0) : Option (As [.bool]) :=
  if t22 = true then some (false, ()) else if eqi a.1 1 = true then j2 bits words many a.1 true else j2 bits words many a.1 (eqi a.1 2)
def qjo_ (j3 : Int -> Int -> Int -> Int -> Bool -> Option (As [.bool])) (bits words many t24 : Int) (t25 : Bool) : Option (As [.bool]) :=
  if t25 = true then if eqi bits 0 = true then if eqi words 0 = true then if ge many 1 = true then some (le many 2000, ()) else some (false, ()) else some (false, ()) else some (false, ()) else if eqi t24 3 = true then j3 bits words many t24 true else j3 bits words many t24 (eqi t24 4)
def qjk_ (bits words many t24 : Int) (t42 : Bool) : Option (As [.bool]) :=
  if t42 = true then if eqi bits 0 = true then if eqi words 0 = true then if ge many 1 = true then some (le many 125, ()) else some (false, ()) else some (false, ()) else some (false, ()) else if eqi t24 5 = true then if eqi bits 1 = true then if eqi words 0 = true then some (eqi many 0, ()) else some (false, ()) else some (false, ()) else if eqi t24 6 = true then if eqi bits 0 = true then if eqi words 1 = true then some (eqi many 0, ()) else some (false, ()) else some (false, ()) else if eqi t24 15 = true then if eqi bits many = true then if eqi words 0 = true then if ge many 1 = true then some (le many 1968, ()) else some (false, ()) else some (false, ()) else some (false, ()) else if eqi t24 16 = true then if eqi bits 0 = true then if eqi words many = true then if ge many 1 = true then some (le many 123, ()) else some (false, ()) else some (false, ()) else some (false, ()) else if eqi t24 23 = true then if eqi bits 0 = true then if ge words 1 = true then if le words 121 = true then if ge many 1 = true then some (le many 125, ()) else some (false, ()) else some (false, ()) else some (false, ()) else some (false, ()) else some (false, ())
def qdt_ (j1 : Int -> Int -> Int -> Bool -> VzA3q0 -> Option (As [.bool])) (a : VzA3q0) : Option (As [.bool]) :=
  if nei a.1 23 = true then j1 (Int.ofNat (List.length a.2.2.2.2.2)) (Int.ofNat (List.length a.2.2.2.2.1)) (cvt .i64 a.2.2.1) (nei a.2.2.2.1 0) a else j1 (Int.ofNat (List.length a.2.2.2.2.2)) (Int.ofNat (List.length a.2.2.2.2.1)) (cvt .i64 a.2.2.1) false a
def qe1_ (bits words many t24 : Int) (t42 : Bool) : Option (As [.bool]) := qjk_ bits words many t24 t42
def qee_ (bits words many t24 : Int) (t25 : Bool) : Option (As [.bool]) := qjo_ (qe1_) bits words many t24 t25
def qw_ (bits words many : Int) (t22 : Bool) (a : VzA3q0) : Option (As [.bool]) := qjp_ (qee_) bits words many t22 a
def ref02_Right (x : As [.pr (.int .u8) LAT2]) : Option (As [.bool]) := qdt_ qw_ x.1
theorem qx5_ (J : Orc (As [.bool])) (bits words many t24 : Int) (t42 : Bool) : pfn Tryz.prog q2u_ 6 18446744073709551616 (Ev.get q2v_) 71 q1f_ J 491 [] (qe5_ bits words many t24 t42) = qjk_ bits words many t24 t42 := by kernel_rfl
theorem qvi_ (J : Orc (As [.bool])) (bits words many t24 : Int) (t25 : Bool) : pfn Tryz.prog q2u_ 6 18446744073709551616 (Ev.get q2v_) 71 q1f_ J 122 [] (qeq_ bits words many t24 t25) = qjo_ (fun bits words many t24 t42 => J 491 [] (qe5_ bits words many t24 t42)) bits words many t24 t25 := by kernel_rfl
theorem qwf_ (J : Orc (As [.bool])) (bits words many : Int) (t22 : Bool) (a : VzA3q0) : pfn Tryz.prog q2u_ 6 18446744073709551616 (Ev.get q2v_) 71 q1f_ J 14 [] (qeg_ bits words many t22 a) = qjp_ (fun bits words many t24 t25 => J 122 [] (qeq_ bits words many t24 t25)) bits words many t22 a := by kernel_rfl
theorem qwy_ (J : Orc (As [.bool])) (x : As [.pr (.int .u8) LAT2]) : rfn Tryz.prog q2u_ 6 18446744073709551616 (Ev.get q2v_) 71 q1f_ J x = qdt_ (fun bits words many t22 a => J 14 [] (qeg_ bits words many t22 a)) x.1 := by kernel_rfl
theorem qve_ (bits words many t24 : Int) (t42 : Bool) : jfn Tryz.prog q2u_ 6 18446744073709551616 (Ev.get q2v_) 71 q1f_ 491 [] (qe5_ bits words many t24 t42) = qe1_ bits words many t24 t42 := by
  rw [pfn_eq (by decide)]
  rw [qx5_]
  rfl
theorem qva_ (bits words many t24 : Int) (t25 : Bool) : jfn Tryz.prog q2u_ 6 18446744073709551616 (Ev.get q2v_) 71 q1f_ 122 [] (qeq_ bits words many t24 t25) = qee_ bits words many t24 t25 := by
  rw [pfn_eq (by decide)]
  have e3 : (fun bits words many t24 t42 => (jfn Tryz.prog q2u_ 6 18446744073709551616 (Ev.get q2v_) 71 q1f_) 491 [] (qe5_ bits words many t24 t42)) = qe1_ := by funext bits words many t24 t42; exact qve_ bits words many t24 t42
  rw [qvi_, e3]
  rfl
theorem qyi_ (bits words many : Int) (t22 : Bool) (a : VzA3q0) : jfn Tryz.prog q2u_ 6 18446744073709551616 (Ev.get q2v_) 71 q1f_ 14 [] (qeg_ bits words many t22 a) = qw_ bits words many t22 a := by
  rw [pfn_eq (by decide)]
  have e2 : (fun bits words many t24 t25 => (jfn Tryz.prog q2u_ 6 18446744073709551616 (Ev.get q2v_) 71 q1f_) 122 [] (qeq_ bits words many t24 t25)) = qee_ := by funext bits words many t24 t25; exact qva_ bits words many t24 t25
  rw [qwf_, e2]
  rfl
theorem q11c_ (x : As [.pr (.int .u8) LAT2]) : evT Tryz.prog q2u_ 6 18446744073709551616 (Ev.get q2v_) 71 q1f_ x = ref02_Right x := by
  have e1 : (fun bits words many t22 a => (jfn Tryz.prog q2u_ 6 18446744073709551616 (Ev.get q2v_) 71 q1f_) 14 [] (qeg_ bits words many t22 a)) = qw_ := by funext bits words many t22 a; exact qyi_ bits words many t22 a
  rw [rfn_eq, qwy_, e1]
  rfl
theorem qj5_ : CtOk Tryz.prog (fun _ => True) 71 ⟨q1f_, ref02_Right⟩ := ct_of_ev env_nil q11c_
@[reducible] def q10_ : Sh := ⟨[.d (.pr (.int .u8) LAT2)], [], [.pr (.int .u8) LAT2], [.d (.sl (.int .u8)), .d (.int .i64)], [], 0, [.sl (.int .u8), .int .i64]⟩
def q1w_ : Env := (cts [(52, (⟨qj_, ref02_Pack⟩ : Ct)), (53, (⟨q5k_, ref02_Words⟩ : Ct)), (54, (⟨qc3_, ref02_Two⟩ : Ct)), (71, (⟨q1f_, ref02_Right⟩ : Ct))])
def q20_ : List (Nat × Hint) := [(15, ⟨[], [4]⟩), (31486, ⟨[], [1, 4]⟩), (981, ⟨[], [4, 5]⟩)]
def qen_ (x : Int) (out : List Int) : St := { fr := [(4, .row 0), (5, .d (.int .i64) x)], nt := 105, up := [], own := [(0, .row (.int .u8) 5 out)], nx := 1, log := [], ln := 0 }
def q4j_ (out : List Int) : St := { fr := [(4, .row 0)], nt := 105, up := [], own := [(0, .row (.int .u8) 5 out)], nx := 1, log := [], ln := 0 }
def qdz_ (a : VzA3q0) (out : List Int) : St := { fr := [(1, .pb 0 0), (4, .row 1)], nt := 105, up := [], own := [(0, .box 65 [.d (.int .u8) a.1, .d (.int .u16) a.2.1, .d (.int .u16) a.2.2.1, .d (.int .u16) a.2.2.2.1, .d (.sl (.int .u16)) a.2.2.2.2.1, .d (.sl .bool) a.2.2.2.2.2]), (1, .row (.int .u8) 5 out)], nx := 2, log := [], ln := 0 }
def qjh_ (j2 : List Int -> Option (As [.sl (.int .u8), .int .i64])) (x : Int) (out : List Int) : Option (As [.sl (.int .u8), .int .i64]) :=
  Option.bind (ref02_Two (x, out, ())) fun (y : List Int × Unit) => j2 y.1
def qpc_ (out : List Int) : Option (As [.sl (.int .u8), .int .i64]) :=
  some (out, 0, ())
def qjl_ (j2 : List Int -> Option (As [.sl (.int .u8), .int .i64])) (a : VzA3q0) (out : List Int) : Option (As [.sl (.int .u8), .int .i64]) :=
  Option.bind (ref02_Words (a.2.2.2.2.1, out, ())) fun (y : List Int × Unit) => j2 y.1
def qdv_ (j1 : Int -> List Int -> Option (As [.sl (.int .u8), .int .i64])) (j2 : List Int -> Option (As [.sl (.int .u8), .int .i64])) (j3 : VzA3q0 -> List Int -> Option (As [.sl (.int .u8), .int .i64])) (a : VzA3q0) : Option (As [.sl (.int .u8), .int .i64]) :=
  Option.bind (ref02_Right (a, ())) fun (y : Bool × Unit) => if (!y.1) = true then some ([], 12, ()) else Option.bind (ref02_Two (cvt .i64 a.2.1, [a.1], ())) fun (y : List Int × Unit) => if eqi a.1 5 = true then Option.bind (at? a.2.2.2.2.2 0) fun (y_1 : Bool) => if y_1 = true then j1 65280 y.1 else j1 0 y.1 else if eqi a.1 6 = true then Option.bind (at? a.2.2.2.2.1 0) fun (y_1 : Int) => Option.bind (ref02_Two (cvt .i64 y_1, y.1, ())) fun (y : List Int × Unit) => j2 y.1 else if eqi a.1 15 = true then Option.bind (ref02_Pack (a.2.2.2.2.2, ())) fun (y_1 : List Int × Unit) => Option.bind (ref02_Two (cvt .i64 a.2.2.1, y.1, ())) fun (y : List Int × Unit) => need (small (List.length y.1 + Nat.succ 0)) (need (small (List.length (y.1 ++ [cvt .u8 (Int.ofNat (List.length y_1.1))]) + List.length y_1.1)) (j2 (y.1 ++ [cvt .u8 (Int.ofNat (List.length y_1.1))] ++ y_1.1))) else if eqi a.1 16 = true then amb (eqAs q10_.rs) [Option.bind (ref02_Two (cvt .i64 a.2.2.1, y.1, ())) fun (y : List Int × Unit) => need (small (List.length y.1 + Nat.succ 0)) (j3 a (y.1 ++ [cvt .u8 (mul .i64 2 (Int.ofNat (List.length a.2.2.2.2.1)))])), Option.bind (ref02_Two (cvt .i64 a.2.2.1, y.1, ())) fun (y : List Int × Unit) => need (small (List.length y.1 + Nat.succ 0)) (j3 a (y.1 ++ [cvt .u8 (mul .i64 2 (Int.ofNat (List.length a.2.2.2.2.1)))]))] else if eqi a.1 23 = true then Option.bind (ref02_Two (cvt .i64 a.2.2.1, y.1, ())) fun (y : List Int × Unit) => Option.bind (ref02_Two (cvt .i64 a.2.2.2.1, y.1, ())) fun (y : List Int × Unit) => Option.bind (ref02_Two (Int.ofNat (List.length a.2.2.2.2.1), y.1, ())) fun (y : List Int × Unit) => need (small (List.length y.1 + Nat.succ 0)) (Option.bind (ref02_Words (a.2.2.2.2.1, y.1 ++ [cvt .u8 (mul .i64 2 (Int.ofNat (List.length a.2.2.2.2.1)))], ())) fun (y : List Int × Unit) => j2 y.1) else Option.bind (ref02_Two (cvt .i64 a.2.2.1, y.1, ())) fun (y : List Int × Unit) => j2 y.1
def qy_ (out : List Int) : Option (As [.sl (.int .u8), .int .i64]) := qpc_ out
def q7j_ (x : Int) (out : List Int) : Option (As [.sl (.int .u8), .int .i64]) := qjh_ (qy_) x out
def q4h_ (a : VzA3q0) (out : List Int) : Option (As [.sl (.int .u8), .int .i64]) := qjl_ (qy_) a out
def ref02_Bytes (x : As [.pr (.int .u8) LAT2]) : Option (As [.sl (.int .u8), .int .i64]) := qdv_ q7j_ qy_ q4h_ x.1
theorem qxm_ (J : Orc (As [.sl (.int .u8), .int .i64])) (out : List Int) : pfn Tryz.prog q1w_ 6 18446744073709551616 (Ev.get q20_) 70 q10_ J 15 [] (q4j_ out) = qpc_ out := by kernel_rfl
theorem qxj_ (J : Orc (As [.sl (.int .u8), .int .i64])) (x : Int) (out : List Int) : pfn Tryz.prog q1w_ 6 18446744073709551616 (Ev.get q20_) 70 q10_ J 981 [] (qen_ x out) = qjh_ (fun out => J 15 [] (q4j_ out)) x out := by kernel_rfl
theorem qx9_ (J : Orc (As [.sl (.int .u8), .int .i64])) (a : VzA3q0) (out : List Int) : pfn Tryz.prog q1w_ 6 18446744073709551616 (Ev.get q20_) 70 q10_ J 31486 [] (qdz_ a out) = qjl_ (fun out => J 15 [] (q4j_ out)) a out := by kernel_rfl
theorem qwr_ (J : Orc (As [.sl (.int .u8), .int .i64])) (x : As [.pr (.int .u8) LAT2]) : rfn Tryz.prog q1w_ 6 18446744073709551616 (Ev.get q20_) 70 q10_ J x = qdv_ (fun x out => J 981 [] (qen_ x out)) (fun out => J 15 [] (q4j_ out)) (fun a out => J 31486 [] (qdz_ a out)) x.1 := by kernel_rfl
theorem qjd_ (out : List Int) : jfn Tryz.prog q1w_ 6 18446744073709551616 (Ev.get q20_) 70 q10_ 15 [] (q4j_ out) = qy_ out := by
  rw [pfn_eq (by decide)]
  rw [qxm_]
  rfl
theorem qyt_ (x : Int) (out : List Int) : jfn Tryz.prog q1w_ 6 18446744073709551616 (Ev.get q20_) 70 q10_ 981 [] (qen_ x out) = q7j_ x out := by
  rw [pfn_eq (by decide)]
  have e2 : (fun out => (jfn Tryz.prog q1w_ 6 18446744073709551616 (Ev.get q20_) 70 q10_) 15 [] (q4j_ out)) = qy_ := funext fun out => qjd_ out
  rw [qxj_, e2]
  rfl
theorem qvr_ (a : VzA3q0) (out : List Int) : jfn Tryz.prog q1w_ 6 18446744073709551616 (Ev.get q20_) 70 q10_ 31486 [] (qdz_ a out) = q4h_ a out := by
  rw [pfn_eq (by decide)]
  have e2 : (fun out => (jfn Tryz.prog q1w_ 6 18446744073709551616 (Ev.get q20_) 70 q10_) 15 [] (q4j_ out)) = qy_ := funext fun out => qjd_ out
  rw [qx9_, e2]
  rfl
theorem q10l_ (x : As [.pr (.int .u8) LAT2]) : evT Tryz.prog q1w_ 6 18446744073709551616 (Ev.get q20_) 70 q10_ x = ref02_Bytes x := by
  have e1 : (fun x out => (jfn Tryz.prog q1w_ 6 18446744073709551616 (Ev.get q20_) 70 q10_) 981 [] (qen_ x out)) = q7j_ := by funext x out; exact qyt_ x out
  have e2 : (fun out => (jfn Tryz.prog q1w_ 6 18446744073709551616 (Ev.get q20_) 70 q10_) 15 [] (q4j_ out)) = qy_ := funext fun out => qjd_ out
  have e3 : (fun a out => (jfn Tryz.prog q1w_ 6 18446744073709551616 (Ev.get q20_) 70 q10_) 31486 [] (qdz_ a out)) = q4h_ := by funext a out; exact qvr_ a out
  rw [rfn_eq, qwr_, e1, e2, e3]
  rfl
theorem qwa_ : CtOk Tryz.prog (fun _ => True) 70 ⟨q10_, ref02_Bytes⟩ := ct_of_ev (env_cons qqr_ (env_cons qog_ (env_cons qma_ (env_cons qj5_ env_nil)))) q10l_
end Go.Proofs.Lx
end
