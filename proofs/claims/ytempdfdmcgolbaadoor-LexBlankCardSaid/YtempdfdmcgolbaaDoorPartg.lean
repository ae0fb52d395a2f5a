/- Proved in the last of these 9 parts (this is part 7): blanks between tokens, comments at lines' ends and lines that have no token say nothing but the numbers of lines. Conditions: those of the given statement, and no others. -/
import Derived.Test.YtempdfdmcgolbaaDoorPartd
import Derived.Test.YtempdfdmcgolbaaDoorPartf
import Derived.Test.YtempdfdmcgolbaaDoorProg
set_option linter.unusedVariables false
set_option linter.unusedSimpArgs false
set_option linter.unusedSectionVars false
section
/- Contracts, made by a program. -/
open Go Go.Proofs Ev Sx
set_option maxRecDepth 100000
namespace Go.Proofs.Lx
/-! law13_LexBlank -/
@[reducible] def law13_LexBlank_s : Sh := ⟨[.d (.str), .d (.sl (.int .u8))], [], [.str, .sl (.int .u8)], [.d (.bool)], [], 0, [.bool]⟩
def law13_LexBlank_e : Env := (cts [(11, (⟨law13_awake_s, law13_awake⟩ : Ct)), (12, (⟨lex_Lex_s, lex_Lex⟩ : Ct)), (15, (⟨strings_Count_s, strings_Count⟩ : Ct)), (16, (⟨law13_LexBlank_z1_s, law13_LexBlank_z1⟩ : Ct)), (17, (⟨strings_Split_s, strings_Split⟩ : Ct))])
def law13_LexBlank_h : List (Nat × Hint) := [(255, ⟨[], [0, 5, 6, 94, 102, 103, 104, 105, 106, 109, 110, 111, 112, 113, 114, 115, 116, 117, 118, 119, 120, 121, 122, 123, 124, 125, 126, 127, 128, 129, 130, 131, 132, 133, 148, 149, 150, 151, 152]⟩), (65530, ⟨[], [6, 12, 14, 136, 137, 148, 149, 150, 151, 152]⟩), (16775782, ⟨[], [6, 12, 14, 16, 17, 136, 137, 153]⟩), (8190, ⟨[], [6, 12, 14, 134, 148, 149, 150, 151, 152]⟩), (2042, ⟨[], [0, 5, 6, 8, 9, 30, 31, 32, 94, 102, 103, 104, 105, 106, 109, 110, 111, 112, 113, 114, 115, 116, 117, 118, 119, 120, 121, 122, 123, 124, 125, 126, 127, 128, 129, 130, 131, 132, 133, 148, 149, 150, 151, 152]⟩), (130713, ⟨[], [0, 5, 6, 8, 9, 11, 30, 31, 32, 94, 102, 103, 104, 105, 106, 109, 110, 111, 112, 113, 114, 115, 116, 117, 118, 119, 120, 121, 122, 123, 124, 125, 126, 127, 128, 129, 130, 131, 132, 133, 148, 149, 150, 151, 152]⟩), (261427, ⟨[], [0, 5, 6, 8, 9, 11, 30, 31, 32, 94, 102, 103, 104, 105, 106, 109, 110, 111, 112, 113, 114, 115, 116, 117, 118, 119, 120, 121, 122, 123, 124, 125, 126, 127, 128, 129, 130, 131, 132, 133, 148, 149, 150, 151, 152]⟩), (2091418, ⟨[], [0, 5, 6, 8, 9, 11, 30, 31, 32, 42, 43, 94, 102, 103, 104, 105, 106, 109, 110, 111, 112, 113, 114, 115, 116, 117, 118, 119, 120, 121, 122, 123, 124, 125, 126, 127, 128, 129, 130, 131, 132, 133, 148, 149, 150, 151, 152]⟩), (6, ⟨[], [0, 3, 25, 94, 102, 103, 104, 105, 106, 109, 110, 111, 112, 113, 114, 115, 116, 117, 118, 119, 120, 121, 122, 123, 124, 125, 126, 127, 128, 129, 130, 131, 132, 133, 148, 149, 150, 151, 152]⟩)]
def law13_LexBlank_k1 (text : List UInt8) (t25 : Bool) (how : List Int) : St := { fr := [(0, .d .str text), (3, .pb 0 0), (25, .d .bool t25)], nt := 168, up := [], own := [(0, .box 31 [.d (.sl (.int .u8)) how])], nx := 1, log := [], ln := 0 }
def law13_LexBlank_k2 (text : List UInt8) (wide : List UInt8) (at' : Int) (t30 : List (List UInt8)) (t31 : Int) (t32 : Int) (of : List Int) (o : Int) (o_2 : List Int) : St := { fr := [(0, .d .str text), (5, .d .str wide), (6, .row 0), (8, .fn (.func 16) [] [.pb 1 0, .pb 2 0]), (9, .d (.int .i64) at'), (30, .d (.sl .str) t30), (31, .d (.int .i64) t31), (32, .d (.int .i64) t32)], nt := 168, up := [], own := [(0, .row (.int .i64) 3 of), (1, .box 3 [.d (.int .i64) o]), (2, .box 31 [.d (.sl (.int .u8)) o_2])], nx := 3, log := [], ln := 0 }
def law13_LexBlank_k3 (text : List UInt8) (wide : List UInt8) (at' : Int) (s : List UInt8) (t30 : List (List UInt8)) (t31 : Int) (t32 : Int) (of : List Int) (o : Int) (o_2 : List Int) : St := { fr := [(0, .d .str text), (5, .d .str wide), (6, .row 0), (8, .fn (.func 16) [] [.pb 1 0, .pb 2 0]), (9, .d (.int .i64) at'), (11, .d .str s), (30, .d (.sl .str) t30), (31, .d (.int .i64) t31), (32, .d (.int .i64) t32)], nt := 168, up := [], own := [(0, .row (.int .i64) 3 of), (1, .box 3 [.d (.int .i64) o]), (2, .box 31 [.d (.sl (.int .u8)) o_2])], nx := 3, log := [], ln := 0 }
def law13_LexBlank_k4 (text : List UInt8) (wide : List UInt8) (of : List Int) : St := { fr := [(0, .d .str text), (5, .d .str wide), (6, .row 0)], nt := 168, up := [], own := [(0, .row (.int .i64) 3 of)], nx := 1, log := [], ln := 0 }
def law13_LexBlank_k5 (text : List UInt8) (wide : List UInt8) (at' : Int) (s : List UInt8) (t30 : List (List UInt8)) (t31 : Int) (t32 : Int) (t42 : Int) (t43 : Int) (of : List Int) (o : Int) (o_2 : List Int) : St := { fr := [(0, .d .str text), (5, .d .str wide), (6, .row 0), (8, .fn (.func 16) [] [.pb 1 0, .pb 2 0]), (9, .d (.int .i64) at'), (11, .d .str s), (30, .d (.sl .str) t30), (31, .d (.int .i64) t31), (32, .d (.int .i64) t32), (42, .d (.int .i64) t42), (43, .d (.int .i64) t43)], nt := 168, up := [], own := [(0, .row (.int .i64) 3 of), (1, .box 3 [.d (.int .i64) o]), (2, .box 31 [.d (.sl (.int .u8)) o_2])], nx := 3, log := [], ln := 0 }
def law13_LexBlank_k6 (a : List LAT1) (b : List LAT1) (t134 : Bool) (of : List Int) : St := { fr := [(6, .row 0), (12, .d (.sl LAT0) a), (14, .d (.sl LAT0) b), (134, .d .bool t134)], nt := 168, up := [], own := [(0, .row (.int .i64) 3 of)], nx := 1, log := [], ln := 0 }
def law13_LexBlank_k7 (text : List UInt8) (wide : List UInt8) (at' : Int) (s : List UInt8) (t30 : List (List UInt8)) (t31 : Int) (t32 : Int) (of : List Int) (o : Int) (o_2 : List Int) : St := { fr := [(0, .d .str text), (5, .d .str wide), (6, .row 0), (8, .fn (.func 16) [] [.pb 1 0, .pb 2 0]), (9, .d (.int .i64) at'), (11, .d .str s), (30, .d (.sl .str) t30), (31, .d (.int .i64) t31), (32, .d (.int .i64) t32)], nt := 168, up := [], own := [(0, .row (.int .i64) 3 of), (1, .box 3 [.d (.int .i64) o]), (2, .box 31 [.d (.sl (.int .u8)) o_2])], nx := 3, log := [], ln := 0 }
def law13_LexBlank_k8 (a : List LAT1) (b : List LAT1) (t136 : Int) (t137 : Int) (of : List Int) : St := { fr := [(6, .row 0), (12, .d (.sl LAT0) a), (14, .d (.sl LAT0) b), (136, .d (.int .i64) t136), (137, .d (.int .i64) t137)], nt := 168, up := [], own := [(0, .row (.int .i64) 3 of)], nx := 1, log := [], ln := 0 }
def law13_LexBlank_k9 (a : List LAT1) (b : List LAT1) (i : Int) (t136 : Int) (t137 : Int) (t153 : Bool) (of : List Int) (x : Int) (x_2 : List UInt8) (x_3 : Int) (x_4 : Int) (x_5 : Int) : St := { fr := [(6, .row 0), (12, .d (.sl LAT0) a), (14, .d (.sl LAT0) b), (16, .d (.int .i64) i), (17, .pb 1 0), (136, .d (.int .i64) t136), (137, .d (.int .i64) t137), (153, .d .bool t153)], nt := 168, up := [], own := [(0, .row (.int .i64) 3 of), (1, .box 35 [.d (.int .u8) x, .d .str x_2, .d (.int .i64) x_3, .d (.int .u8) x_4, .d (.int .i64) x_5])], nx := 2, log := [], ln := 0 }
def law13_LexBlank_m1 (j2 : List UInt8 → List UInt8 → Int → List (List UInt8) → Int → Int → List Int → Int → List Int → Option (As [.bool])) (text : List UInt8) (t25 : Bool) (how : List Int) : Option (As [.bool]) :=
  if t25 = true then Option.bind (law13_awake ()) fun (y : Bool × Unit) => some (y.fst, ()) else Option.bind (strings_Split (text, [10], ())) fun (y : List (List UInt8) × Unit) => j2 text [] 0 y.fst (Int.ofNat (List.length y.fst)) 0 [0] 0 how
def law13_LexBlank_m2 (j3 : List UInt8 → List UInt8 → Int → List UInt8 → List (List UInt8) → Int → Int → List Int → Int → List Int → Option (As [.bool])) (j4 : List UInt8 → List UInt8 → List Int → Option (As [.bool])) (self2 : List UInt8 → List UInt8 → Int → List (List UInt8) → Int → Int → List Int → Int → List Int → Option (As [.bool])) (text : List UInt8) (wide : List UInt8) (at' : Int) (t30 : List (List UInt8)) (t31 : Int) (t32 : Int) (of : List Int) (o : Int) (o_2 : List Int) : Option (As [.bool]) :=
  if lt t32 t31 = true then Option.bind (at? t30 t32) fun (y : List UInt8) => if gt t32 0 = true then need (small (Nat.succ (List.length wide))) (j3 text (wide ++ [10]) at' y t30 t31 t32 of o o_2) else j3 text wide at' y t30 t31 t32 of o o_2 else j4 text wide of
def law13_LexBlank_m3 (j5 : List UInt8 → List UInt8 → Int → List UInt8 → List (List UInt8) → Int → Int → Int → Int → List Int → Int → List Int → Option (As [.bool])) (self2 : List UInt8 → List UInt8 → Int → List (List UInt8) → Int → Int → List Int → Int → List Int → Option (As [.bool])) (text : List UInt8) (wide : List UInt8) (at' : Int) (s : List UInt8) (t30 : List (List UInt8)) (t31 : Int) (t32 : Int) (of : List Int) (o : Int) (o_2 : List Int) : Option (As [.bool]) :=
  Option.bind (law13_LexBlank_z1 (3, o, o_2, ())) fun (y : Int × Int × List Int × Unit) => j5 text wide at' s t30 t31 t32 y.fst 0 of y.snd.fst y.snd.snd.fst
def law13_LexBlank_m4 (j6 : List LAT1 → List LAT1 → Bool → List Int → Option (As [.bool])) (text : List UInt8) (wide : List UInt8) (of : List Int) : Option (As [.bool]) :=
  Option.bind (lex_Lex (text, ())) fun (y : List LAT1 × (Int × Int) × Unit) => Option.bind (lex_Lex (wide, ())) fun (y_1 : List LAT1 × (Int × Int) × Unit) => if gt (Int.ofNat (List.length wide)) 8192 = true then if (eqi y_1.snd.fst.fst 130 && (eqi y_1.snd.fst.snd 0 && true)) = true then Option.bind (law13_awake ()) fun (y : Bool × Unit) => some (y.fst, ()) else some (false, ()) else if nei y.snd.fst.fst y_1.snd.fst.fst = true then j6 y.fst y_1.fst true of else if nei (Int.ofNat (List.length y.fst)) (Int.ofNat (List.length y_1.fst)) = true then j6 y.fst y_1.fst true of else if nei y.snd.fst.fst 0 = true then if lt y.snd.fst.snd 1 = true then j6 y.fst y_1.fst true of else if ge y.snd.fst.snd (Int.ofNat (List.length of)) = true then j6 y.fst y_1.fst true of else Option.bind (at? of y.snd.fst.snd) fun (x : Int) => Option.bind (at? of y.snd.fst.snd) fun (y_2 : Int) => j6 y.fst y_1.fst (nei y_1.snd.fst.snd y_2) of else j6 y.fst y_1.fst false of
def law13_LexBlank_m5 (j7 : List UInt8 → List UInt8 → Int → List UInt8 → List (List UInt8) → Int → Int → List Int → Int → List Int → Option (As [.bool])) (self2 : List UInt8 → List UInt8 → Int → List (List UInt8) → Int → Int → List Int → Int → List Int → Option (As [.bool])) (self5 : List UInt8 → List UInt8 → Int → List UInt8 → List (List UInt8) → Int → Int → Int → Int → List Int → Int → List Int → Option (As [.bool])) (text : List UInt8) (wide : List UInt8) (at' : Int) (s : List UInt8) (t30 : List (List UInt8)) (t31 : Int) (t32 : Int) (t42 : Int) (t43 : Int) (of : List Int) (o : Int) (o_2 : List Int) : Option (As [.bool]) :=
  if lt t43 t42 = true then Option.bind (law13_LexBlank_z1 (4, o, o_2, ())) fun (y : Int × Int × List Int × Unit) => Option.bind (at? [[10], [32, 9, 10], [35, 32, 120, 32, 61, 32, 49, 10], [35, 10]] y.fst) fun (x : List UInt8) => Option.bind (at? [[10], [32, 9, 10], [35, 32, 120, 32, 61, 32, 49, 10], [35, 10]] y.fst) fun (y_1 : List UInt8) => need (small (List.length wide + List.length y_1)) (self5 text (wide ++ y_1) (add .i64 at' 1) s t30 t31 t32 t42 (add .i64 t43 1) of y.snd.fst y.snd.snd.fst) else j7 text wide at' s t30 t31 t32 of o o_2
def law13_LexBlank_m6 (j8 : List LAT1 → List LAT1 → Int → Int → List Int → Option (As [.bool])) (a : List LAT1) (b : List LAT1) (t134 : Bool) (of : List Int) : Option (As [.bool]) :=
  if t134 = true then some (false, ()) else j8 a b (Int.ofNat (List.length a)) 0 of
def law13_LexBlank_m7 (self2 : List UInt8 → List UInt8 → Int → List (List UInt8) → Int → Int → List Int → Int → List Int → Option (As [.bool])) (text : List UInt8) (wide : List UInt8) (at' : Int) (s : List UInt8) (t30 : List (List UInt8)) (t31 : Int) (t32 : Int) (of : List Int) (o : Int) (o_2 : List Int) : Option (As [.bool]) :=
  need (small (List.length of + 1)) (amb (eqAs law13_LexBlank_s.rs) [amb (eqAs law13_LexBlank_s.rs) [Option.bind (law13_LexBlank_z1 (3, o, o_2, ())) fun (y : Int × Int × List Int × Unit) => Option.bind (at? [[], [32], [9, 13]] y.fst) fun (x : List UInt8) => Option.bind (at? [[], [32], [9, 13]] y.fst) fun (y_1 : List UInt8) => need (small (List.length y_1 + List.length s)) (amb (eqAs law13_LexBlank_s.rs) [Option.bind (law13_LexBlank_z1 (5, y.snd.fst, y.snd.snd.fst, ())) fun (y : Int × Int × List Int × Unit) => Option.bind (at? [[], [], [32], [35], [32, 35, 32, 121]] y.fst) fun (x : List UInt8) => Option.bind (at? [[], [], [32], [35], [32, 35, 32, 121]] y.fst) fun (y_2 : List UInt8) => need (small (List.length (y_1 ++ s) + List.length y_2)) (need (small (List.length wide + List.length (y_1 ++ s ++ y_2))) (self2 text (wide ++ (y_1 ++ s ++ y_2)) (add .i64 at' 1) t30 t31 (add .i64 t32 1) (of ++ [add .i64 at' 1]) y.snd.fst y.snd.snd.fst)), Option.bind (law13_LexBlank_z1 (5, y.snd.fst, y.snd.snd.fst, ())) fun (y : Int × Int × List Int × Unit) => Option.bind (at? [[], [], [32], [35], [32, 35, 32, 121]] y.fst) fun (x : List UInt8) => Option.bind (at? [[], [], [32], [35], [32, 35, 32, 121]] y.fst) fun (y_2 : List UInt8) => need (small (List.length (y_1 ++ s) + List.length y_2)) (need (small (List.length wide + List.length (y_1 ++ s ++ y_2))) (self2 text (wide ++ (y_1 ++ s ++ y_2)) (add .i64 at' 1) t30 t31 (add .i64 t32 1) (of ++ [add .i64 at' 1]) y.snd.fst y.snd.snd.fst))]), Option.bind (law13_LexBlank_z1 (3, o, o_2, ())) fun (y : Int × Int × List Int × Unit) => Option.bind (at? [[], [32], [9, 13]] y.fst) fun (x : List UInt8) => Option.bind (at? [[], [32], [9, 13]] y.fst) fun (y_1 : List UInt8) => need (small (List.length y_1 + List.length s)) (Option.bind (law13_LexBlank_z1 (5, y.snd.fst, y.snd.snd.fst, ())) fun (y : Int × Int × List Int × Unit) => Option.bind (at? [[], [], [32], [35], [32, 35, 32, 121]] y.fst) fun (x : List UInt8) => Option.bind (at? [[], [], [32], [35], [32, 35, 32, 121]] y.fst) fun (y_2 : List UInt8) => need (small (List.length (y_1 ++ s) + List.length y_2)) (need (small (List.length wide + List.length (y_1 ++ s ++ y_2))) (self2 text (wide ++ (y_1 ++ s ++ y_2)) (add .i64 at' 1) t30 t31 (add .i64 t32 1) (of ++ [add .i64 at' 1]) y.snd.fst y.snd.snd.fst)))], amb (eqAs law13_LexBlank_s.rs) [Option.bind (law13_LexBlank_z1 (3, o, o_2, ())) fun (y : Int × Int × List Int × Unit) => amb (eqAs law13_LexBlank_s.rs) [Option.bind (at? [[], [32], [9, 13]] y.fst) fun (x : List UInt8) => Option.bind (at? [[], [32], [9, 13]] y.fst) fun (y_1 : List UInt8) => need (small (List.length y_1 + List.length s)) (amb (eqAs law13_LexBlank_s.rs) [Option.bind (law13_LexBlank_z1 (5, y.snd.fst, y.snd.snd.fst, ())) fun (y : Int × Int × List Int × Unit) => Option.bind (at? [[], [], [32], [35], [32, 35, 32, 121]] y.fst) fun (x : List UInt8) => Option.bind (at? [[], [], [32], [35], [32, 35, 32, 121]] y.fst) fun (y_2 : List UInt8) => need (small (List.length (y_1 ++ s) + List.length y_2)) (need (small (List.length wide + List.length (y_1 ++ s ++ y_2))) (self2 text (wide ++ (y_1 ++ s ++ y_2)) (add .i64 at' 1) t30 t31 (add .i64 t32 1) (of ++ [add .i64 at' 1]) y.snd.fst y.snd.snd.fst)), Option.bind (law13_LexBlank_z1 (5, y.snd.fst, y.snd.snd.fst, ())) fun (y : Int × Int × List Int × Unit) => Option.bind (at? [[], [], [32], [35], [32, 35, 32, 121]] y.fst) fun (x : List UInt8) => Option.bind (at? [[], [], [32], [35], [32, 35, 32, 121]] y.fst) fun (y_2 : List UInt8) => need (small (List.length (y_1 ++ s) + List.length y_2)) (need (small (List.length wide + List.length (y_1 ++ s ++ y_2))) (self2 text (wide ++ (y_1 ++ s ++ y_2)) (add .i64 at' 1) t30 t31 (add .i64 t32 1) (of ++ [add .i64 at' 1]) y.snd.fst y.snd.snd.fst))]), amb (eqAs law13_LexBlank_s.rs) [amb (eqAs law13_LexBlank_s.rs) [Option.bind (at? [[], [32], [9, 13]] y.fst) fun (x : List UInt8) => Option.bind (at? [[], [32], [9, 13]] y.fst) fun (y_1 : List UInt8) => need (small (List.length y_1 + List.length s)) (Option.bind (law13_LexBlank_z1 (5, y.snd.fst, y.snd.snd.fst, ())) fun (y : Int × Int × List Int × Unit) => Option.bind (at? [[], [], [32], [35], [32, 35, 32, 121]] y.fst) fun (x : List UInt8) => Option.bind (at? [[], [], [32], [35], [32, 35, 32, 121]] y.fst) fun (y_2 : List UInt8) => need (small (List.length (y_1 ++ s) + List.length y_2)) (need (small (List.length wide + List.length (y_1 ++ s ++ y_2))) (self2 text (wide ++ (y_1 ++ s ++ y_2)) (add .i64 at' 1) t30 t31 (add .i64 t32 1) (of ++ [add .i64 at' 1]) y.snd.fst y.snd.snd.fst))), Option.bind (law13_LexBlank_z1 (5, y.snd.fst, y.snd.snd.fst, ())) fun (y_1 : Int × Int × List Int × Unit) => Option.bind (at? [[], [], [32], [35], [32, 35, 32, 121]] y_1.fst) fun (x : List UInt8) => Option.bind (at? [[], [], [32], [35], [32, 35, 32, 121]] y_1.fst) fun (y_2 : List UInt8) => Option.bind (at? [[], [32], [9, 13]] y.fst) fun (x : List UInt8) => Option.bind (at? [[], [32], [9, 13]] y.fst) fun (y : List UInt8) => need (small (List.length y + List.length s)) (need (small (List.length (y ++ s) + List.length y_2)) (need (small (List.length wide + List.length (y ++ s ++ y_2))) (self2 text (wide ++ (y ++ s ++ y_2)) (add .i64 at' 1) t30 t31 (add .i64 t32 1) (of ++ [add .i64 at' 1]) y_1.snd.fst y_1.snd.snd.fst)))], Option.bind (law13_LexBlank_z1 (5, y.snd.fst, y.snd.snd.fst, ())) fun (y_1 : Int × Int × List Int × Unit) => amb (eqAs law13_LexBlank_s.rs) [Option.bind (at? [[], [32], [9, 13]] y.fst) fun (x : List UInt8) => Option.bind (at? [[], [32], [9, 13]] y.fst) fun (y : List UInt8) => need (small (List.length y + List.length s)) (Option.bind (at? [[], [], [32], [35], [32, 35, 32, 121]] y_1.fst) fun (x : List UInt8) => Option.bind (at? [[], [], [32], [35], [32, 35, 32, 121]] y_1.fst) fun (y_2 : List UInt8) => need (small (List.length (y ++ s) + List.length y_2)) (need (small (List.length wide + List.length (y ++ s ++ y_2))) (self2 text (wide ++ (y ++ s ++ y_2)) (add .i64 at' 1) t30 t31 (add .i64 t32 1) (of ++ [add .i64 at' 1]) y_1.snd.fst y_1.snd.snd.fst))), Option.bind (at? [[], [], [32], [35], [32, 35, 32, 121]] y_1.fst) fun (x : List UInt8) => Option.bind (at? [[], [], [32], [35], [32, 35, 32, 121]] y_1.fst) fun (y_2 : List UInt8) => Option.bind (at? [[], [32], [9, 13]] y.fst) fun (x : List UInt8) => Option.bind (at? [[], [32], [9, 13]] y.fst) fun (y : List UInt8) => need (small (List.length y + List.length s)) (need (small (List.length (y ++ s) + List.length y_2)) (need (small (List.length wide + List.length (y ++ s ++ y_2))) (self2 text (wide ++ (y ++ s ++ y_2)) (add .i64 at' 1) t30 t31 (add .i64 t32 1) (of ++ [add .i64 at' 1]) y_1.snd.fst y_1.snd.snd.fst)))]]], amb (eqAs law13_LexBlank_s.rs) [Option.bind (law13_LexBlank_z1 (3, o, o_2, ())) fun (y : Int × Int × List Int × Unit) => Option.bind (at? [[], [32], [9, 13]] y.fst) fun (x : List UInt8) => Option.bind (at? [[], [32], [9, 13]] y.fst) fun (y_1 : List UInt8) => need (small (List.length y_1 + List.length s)) (Option.bind (law13_LexBlank_z1 (5, y.snd.fst, y.snd.snd.fst, ())) fun (y : Int × Int × List Int × Unit) => Option.bind (at? [[], [], [32], [35], [32, 35, 32, 121]] y.fst) fun (x : List UInt8) => Option.bind (at? [[], [], [32], [35], [32, 35, 32, 121]] y.fst) fun (y_2 : List UInt8) => need (small (List.length (y_1 ++ s) + List.length y_2)) (need (small (List.length wide + List.length (y_1 ++ s ++ y_2))) (self2 text (wide ++ (y_1 ++ s ++ y_2)) (add .i64 at' 1) t30 t31 (add .i64 t32 1) (of ++ [add .i64 at' 1]) y.snd.fst y.snd.snd.fst))), Option.bind (law13_LexBlank_z1 (3, o, o_2, ())) fun (y : Int × Int × List Int × Unit) => amb (eqAs law13_LexBlank_s.rs) [Option.bind (at? [[], [32], [9, 13]] y.fst) fun (x : List UInt8) => Option.bind (at? [[], [32], [9, 13]] y.fst) fun (y_1 : List UInt8) => need (small (List.length y_1 + List.length s)) (Option.bind (law13_LexBlank_z1 (5, y.snd.fst, y.snd.snd.fst, ())) fun (y : Int × Int × List Int × Unit) => Option.bind (at? [[], [], [32], [35], [32, 35, 32, 121]] y.fst) fun (x : List UInt8) => Option.bind (at? [[], [], [32], [35], [32, 35, 32, 121]] y.fst) fun (y_2 : List UInt8) => need (small (List.length (y_1 ++ s) + List.length y_2)) (need (small (List.length wide + List.length (y_1 ++ s ++ y_2))) (self2 text (wide ++ (y_1 ++ s ++ y_2)) (add .i64 at' 1) t30 t31 (add .i64 t32 1) (of ++ [add .i64 at' 1]) y.snd.fst y.snd.snd.fst))), Option.bind (law13_LexBlank_z1 (5, y.snd.fst, y.snd.snd.fst, ())) fun (y_1 : Int × Int × List Int × Unit) => Option.bind (at? [[], [], [32], [35], [32, 35, 32, 121]] y_1.fst) fun (x : List UInt8) => Option.bind (at? [[], [], [32], [35], [32, 35, 32, 121]] y_1.fst) fun (y_2 : List UInt8) => Option.bind (at? [[], [32], [9, 13]] y.fst) fun (x : List UInt8) => Option.bind (at? [[], [32], [9, 13]] y.fst) fun (y : List UInt8) => need (small (List.length y + List.length s)) (need (small (List.length (y ++ s) + List.length y_2)) (need (small (List.length wide + List.length (y ++ s ++ y_2))) (self2 text (wide ++ (y ++ s ++ y_2)) (add .i64 at' 1) t30 t31 (add .i64 t32 1) (of ++ [add .i64 at' 1]) y_1.snd.fst y_1.snd.snd.fst)))]]]])
def law13_LexBlank_m8 (j9 : List LAT1 → List LAT1 → Int → Int → Int → Bool → List Int → Int → List UInt8 → Int → Int → Int → Option (As [.bool])) (self8 : List LAT1 → List LAT1 → Int → Int → List Int → Option (As [.bool])) (a : List LAT1) (b : List LAT1) (t136 : Int) (t137 : Int) (of : List Int) : Option (As [.bool]) :=
  if lt t137 t136 = true then Option.bind (at? a t137) fun (y : Int × List UInt8 × (Int × Int) × Int) => if lt y.snd.snd.snd 1 = true then j9 a b t137 t136 t137 true of y.fst y.snd.fst y.snd.snd.fst.fst y.snd.snd.fst.snd y.snd.snd.snd else j9 a b t137 t136 t137 (ge y.snd.snd.snd (Int.ofNat (List.length of))) of y.fst y.snd.fst y.snd.snd.fst.fst y.snd.snd.fst.snd y.snd.snd.snd else Option.bind (law13_awake ()) fun (y : Bool × Unit) => some (y.fst, ())
def law13_LexBlank_m9 (self8 : List LAT1 → List LAT1 → Int → Int → List Int → Option (As [.bool])) (a : List LAT1) (b : List LAT1) (i : Int) (t136 : Int) (t137 : Int) (t153 : Bool) (of : List Int) (x : Int) (x_2 : List UInt8) (x_3 : Int) (x_4 : Int) (x_5 : Int) : Option (As [.bool]) :=
  if t153 = true then some (false, ()) else Option.bind (at? of x_5) fun (x_1 : Int) => Option.bind (at? of x_5) fun (y : Int) => Option.bind (at? b i) fun (y_1 : Int × List UInt8 × (Int × Int) × Int) => if (!(eqi x y_1.fst && (eqs x_2 y_1.snd.fst && (eqi x_3 y_1.snd.snd.fst.fst && (eqi x_4 y_1.snd.snd.fst.snd && true) && (eqi y y_1.snd.snd.snd && true))))) = true then some (false, ()) else self8 a b t136 (add .i64 t137 1) of
def law13_LexBlank_m0 (j1 : List UInt8 → Bool → List Int → Option (As [.bool])) (text : List UInt8) (how : List Int) : Option (As [.bool]) :=
  if gt (Int.ofNat (List.length text)) 1500 = true then j1 text true how else Option.bind (strings_Count (text, [10], ())) fun (y : Int × Unit) => j1 text (gt y.fst 200) how
def law13_LexBlank_K7 (u2 : List UInt8 → List UInt8 → Int → List (List UInt8) → Int → Int → List Int → Int → List Int → Option (As [.bool])) (text : List UInt8) (wide : List UInt8) (at' : Int) (s : List UInt8) (t30 : List (List UInt8)) (t31 : Int) (t32 : Int) (of : List Int) (o : Int) (o_2 : List Int) : Option (As [.bool]) := law13_LexBlank_m7 u2 text wide at' s t30 t31 t32 of o o_2
def law13_LexBlank_K5 (u2 : List UInt8 → List UInt8 → Int → List (List UInt8) → Int → Int → List Int → Int → List Int → Option (As [.bool])) (text : List UInt8) (wide : List UInt8) (at' : Int) (s : List UInt8) (t30 : List (List UInt8)) (t31 : Int) (t32 : Int) (t42 : Int) (t43 : Int) (of : List Int) (o : Int) (o_2 : List Int) : Option (As [.bool]) :=
  loopF (fun (self : (List UInt8) × (List UInt8) × (Int) × (List UInt8) × (List (List UInt8)) × (Int) × (Int) × (Int) × (Int) × (List Int) × (Int) × (List Int) → Option (As [.bool])) (s : (List UInt8) × (List UInt8) × (Int) × (List UInt8) × (List (List UInt8)) × (Int) × (Int) × (Int) × (Int) × (List Int) × (Int) × (List Int)) => law13_LexBlank_m5 (law13_LexBlank_K7 u2) u2 (fun text wide at' s t30 t31 t32 t42 t43 of o o_2 => self (text, wide, at', s, t30, t31, t32, t42, t43, of, o, o_2)) s.1 s.2.1 s.2.2.1 s.2.2.2.1 s.2.2.2.2.1 s.2.2.2.2.2.1 s.2.2.2.2.2.2.1 s.2.2.2.2.2.2.2.1 s.2.2.2.2.2.2.2.2.1 s.2.2.2.2.2.2.2.2.2.1 s.2.2.2.2.2.2.2.2.2.2.1 s.2.2.2.2.2.2.2.2.2.2.2) 18446744073709551616 (text, wide, at', s, t30, t31, t32, t42, t43, of, o, o_2)
def law13_LexBlank_K3 (u2 : List UInt8 → List UInt8 → Int → List (List UInt8) → Int → Int → List Int → Int → List Int → Option (As [.bool])) (text : List UInt8) (wide : List UInt8) (at' : Int) (s : List UInt8) (t30 : List (List UInt8)) (t31 : Int) (t32 : Int) (of : List Int) (o : Int) (o_2 : List Int) : Option (As [.bool]) := law13_LexBlank_m3 (law13_LexBlank_K5 u2) u2 text wide at' s t30 t31 t32 of o o_2
def law13_LexBlank_K9 (u8 : List LAT1 → List LAT1 → Int → Int → List Int → Option (As [.bool])) (a : List LAT1) (b : List LAT1) (i : Int) (t136 : Int) (t137 : Int) (t153 : Bool) (of : List Int) (x : Int) (x_2 : List UInt8) (x_3 : Int) (x_4 : Int) (x_5 : Int) : Option (As [.bool]) := law13_LexBlank_m9 u8 a b i t136 t137 t153 of x x_2 x_3 x_4 x_5
def law13_LexBlank_K8 (a : List LAT1) (b : List LAT1) (t136 : Int) (t137 : Int) (of : List Int) : Option (As [.bool]) :=
  loopF (fun (self : (List LAT1) × (List LAT1) × (Int) × (Int) × (List Int) → Option (As [.bool])) (s : (List LAT1) × (List LAT1) × (Int) × (Int) × (List Int)) => law13_LexBlank_m8 (law13_LexBlank_K9 (fun a b t136 t137 of => self (a, b, t136, t137, of))) (fun a b t136 t137 of => self (a, b, t136, t137, of)) s.1 s.2.1 s.2.2.1 s.2.2.2.1 s.2.2.2.2) 18446744073709551616 (a, b, t136, t137, of)
def law13_LexBlank_K6 (a : List LAT1) (b : List LAT1) (t134 : Bool) (of : List Int) : Option (As [.bool]) := law13_LexBlank_m6 (law13_LexBlank_K8) a b t134 of
def law13_LexBlank_K4 (text : List UInt8) (wide : List UInt8) (of : List Int) : Option (As [.bool]) := law13_LexBlank_m4 (law13_LexBlank_K6) text wide of
def law13_LexBlank_K2 (text : List UInt8) (wide : List UInt8) (at' : Int) (t30 : List (List UInt8)) (t31 : Int) (t32 : Int) (of : List Int) (o : Int) (o_2 : List Int) : Option (As [.bool]) :=
  loopF (fun (self : (List UInt8) × (List UInt8) × (Int) × (List (List UInt8)) × (Int) × (Int) × (List Int) × (Int) × (List Int) → Option (As [.bool])) (s : (List UInt8) × (List UInt8) × (Int) × (List (List UInt8)) × (Int) × (Int) × (List Int) × (Int) × (List Int)) => law13_LexBlank_m2 (law13_LexBlank_K3 (fun text wide at' t30 t31 t32 of o o_2 => self (text, wide, at', t30, t31, t32, of, o, o_2))) (law13_LexBlank_K4) (fun text wide at' t30 t31 t32 of o o_2 => self (text, wide, at', t30, t31, t32, of, o, o_2)) s.1 s.2.1 s.2.2.1 s.2.2.2.1 s.2.2.2.2.1 s.2.2.2.2.2.1 s.2.2.2.2.2.2.1 s.2.2.2.2.2.2.2.1 s.2.2.2.2.2.2.2.2) 18446744073709551616 (text, wide, at', t30, t31, t32, of, o, o_2)
def law13_LexBlank_K1 (text : List UInt8) (t25 : Bool) (how : List Int) : Option (As [.bool]) := law13_LexBlank_m1 (law13_LexBlank_K2) text t25 how
def law13_LexBlank (x : As [.str, .sl (.int .u8)]) : Option (As [.bool]) := law13_LexBlank_m0 law13_LexBlank_K1 x.1 x.2.1
theorem law13_LexBlank_c7 (J : Orc (As [.bool])) (w2 : St → Option (As [.bool])) (text : List UInt8) (wide : List UInt8) (at' : Int) (s : List UInt8) (t30 : List (List UInt8)) (t31 : Int) (t32 : Int) (of : List Int) (o : Int) (o_2 : List Int) : pfn Tryd.prog law13_LexBlank_e 6 18446744073709551616 (Ev.get law13_LexBlank_h) 5 law13_LexBlank_s J 261427 [w2] (law13_LexBlank_k7 text wide at' s t30 t31 t32 of o o_2) = law13_LexBlank_m7 (fun text wide at' t30 t31 t32 of o o_2 => w2 (law13_LexBlank_k2 text wide at' t30 t31 t32 of o o_2)) text wide at' s t30 t31 t32 of o o_2 := by kernel_rfl
theorem law13_LexBlank_c5 (J : Orc (As [.bool])) (w2 : St → Option (As [.bool])) (w5 : St → Option (As [.bool])) (text : List UInt8) (wide : List UInt8) (at' : Int) (s : List UInt8) (t30 : List (List UInt8)) (t31 : Int) (t32 : Int) (t42 : Int) (t43 : Int) (of : List Int) (o : Int) (o_2 : List Int) : pfn Tryd.prog law13_LexBlank_e 6 18446744073709551616 (Ev.get law13_LexBlank_h) 5 law13_LexBlank_s J 2091418 [w2, w5] (law13_LexBlank_k5 text wide at' s t30 t31 t32 t42 t43 of o o_2) = law13_LexBlank_m5 (fun text wide at' s t30 t31 t32 of o o_2 => J 261427 [w2] (law13_LexBlank_k7 text wide at' s t30 t31 t32 of o o_2)) (fun text wide at' t30 t31 t32 of o o_2 => w2 (law13_LexBlank_k2 text wide at' t30 t31 t32 of o o_2)) (fun text wide at' s t30 t31 t32 t42 t43 of o o_2 => w5 (law13_LexBlank_k5 text wide at' s t30 t31 t32 t42 t43 of o o_2)) text wide at' s t30 t31 t32 t42 t43 of o o_2 := by kernel_rfl
theorem law13_LexBlank_c3 (J : Orc (As [.bool])) (w2 : St → Option (As [.bool])) (text : List UInt8) (wide : List UInt8) (at' : Int) (s : List UInt8) (t30 : List (List UInt8)) (t31 : Int) (t32 : Int) (of : List Int) (o : Int) (o_2 : List Int) : pfn Tryd.prog law13_LexBlank_e 6 18446744073709551616 (Ev.get law13_LexBlank_h) 5 law13_LexBlank_s J 130713 [w2] (law13_LexBlank_k3 text wide at' s t30 t31 t32 of o o_2) = law13_LexBlank_m3 (fun text wide at' s t30 t31 t32 t42 t43 of o o_2 => J 2091418 [w2] (law13_LexBlank_k5 text wide at' s t30 t31 t32 t42 t43 of o o_2)) (fun text wide at' t30 t31 t32 of o o_2 => w2 (law13_LexBlank_k2 text wide at' t30 t31 t32 of o o_2)) text wide at' s t30 t31 t32 of o o_2 := by kernel_rfl
theorem law13_LexBlank_c9 (J : Orc (As [.bool])) (w8 : St → Option (As [.bool])) (a : List LAT1) (b : List LAT1) (i : Int) (t136 : Int) (t137 : Int) (t153 : Bool) (of : List Int) (x : Int) (x_2 : List UInt8) (x_3 : Int) (x_4 : Int) (x_5 : Int) : pfn Tryd.prog law13_LexBlank_e 6 18446744073709551616 (Ev.get law13_LexBlank_h) 5 law13_LexBlank_s J 16775782 [w8] (law13_LexBlank_k9 a b i t136 t137 t153 of x x_2 x_3 x_4 x_5) = law13_LexBlank_m9 (fun a b t136 t137 of => w8 (law13_LexBlank_k8 a b t136 t137 of)) a b i t136 t137 t153 of x x_2 x_3 x_4 x_5 := by kernel_rfl
theorem law13_LexBlank_c8 (J : Orc (As [.bool])) (w8 : St → Option (As [.bool])) (a : List LAT1) (b : List LAT1) (t136 : Int) (t137 : Int) (of : List Int) : pfn Tryd.prog law13_LexBlank_e 6 18446744073709551616 (Ev.get law13_LexBlank_h) 5 law13_LexBlank_s J 65530 [w8] (law13_LexBlank_k8 a b t136 t137 of) = law13_LexBlank_m8 (fun a b i t136 t137 t153 of x x_2 x_3 x_4 x_5 => J 16775782 [w8] (law13_LexBlank_k9 a b i t136 t137 t153 of x x_2 x_3 x_4 x_5)) (fun a b t136 t137 of => w8 (law13_LexBlank_k8 a b t136 t137 of)) a b t136 t137 of := by kernel_rfl
theorem law13_LexBlank_c6 (J : Orc (As [.bool])) (a : List LAT1) (b : List LAT1) (t134 : Bool) (of : List Int) : pfn Tryd.prog law13_LexBlank_e 6 18446744073709551616 (Ev.get law13_LexBlank_h) 5 law13_LexBlank_s J 8190 [] (law13_LexBlank_k6 a b t134 of) = law13_LexBlank_m6 (fun a b t136 t137 of => J 65530 [] (law13_LexBlank_k8 a b t136 t137 of)) a b t134 of := by kernel_rfl
theorem law13_LexBlank_c4 (J : Orc (As [.bool])) (text : List UInt8) (wide : List UInt8) (of : List Int) : pfn Tryd.prog law13_LexBlank_e 6 18446744073709551616 (Ev.get law13_LexBlank_h) 5 law13_LexBlank_s J 255 [] (law13_LexBlank_k4 text wide of) = law13_LexBlank_m4 (fun a b t134 of => J 8190 [] (law13_LexBlank_k6 a b t134 of)) text wide of := by kernel_rfl
theorem law13_LexBlank_c2 (J : Orc (As [.bool])) (w2 : St → Option (As [.bool])) (text : List UInt8) (wide : List UInt8) (at' : Int) (t30 : List (List UInt8)) (t31 : Int) (t32 : Int) (of : List Int) (o : Int) (o_2 : List Int) : pfn Tryd.prog law13_LexBlank_e 6 18446744073709551616 (Ev.get law13_LexBlank_h) 5 law13_LexBlank_s J 2042 [w2] (law13_LexBlank_k2 text wide at' t30 t31 t32 of o o_2) = law13_LexBlank_m2 (fun text wide at' s t30 t31 t32 of o o_2 => J 130713 [w2] (law13_LexBlank_k3 text wide at' s t30 t31 t32 of o o_2)) (fun text wide of => J 255 [] (law13_LexBlank_k4 text wide of)) (fun text wide at' t30 t31 t32 of o o_2 => w2 (law13_LexBlank_k2 text wide at' t30 t31 t32 of o o_2)) text wide at' t30 t31 t32 of o o_2 := by kernel_rfl
theorem law13_LexBlank_c1 (J : Orc (As [.bool])) (text : List UInt8) (t25 : Bool) (how : List Int) : pfn Tryd.prog law13_LexBlank_e 6 18446744073709551616 (Ev.get law13_LexBlank_h) 5 law13_LexBlank_s J 6 [] (law13_LexBlank_k1 text t25 how) = law13_LexBlank_m1 (fun text wide at' t30 t31 t32 of o o_2 => J 2042 [] (law13_LexBlank_k2 text wide at' t30 t31 t32 of o o_2)) text t25 how := by kernel_rfl
theorem law13_LexBlank_c0 (J : Orc (As [.bool])) (x : As [.str, .sl (.int .u8)]) : rfn Tryd.prog law13_LexBlank_e 6 18446744073709551616 (Ev.get law13_LexBlank_h) 5 law13_LexBlank_s J x = law13_LexBlank_m0 (fun text t25 how => J 6 [] (law13_LexBlank_k1 text t25 how)) x.1 x.2.1 := by kernel_rfl
theorem law13_LexBlank_g7 (w2 : St → Option (As [.bool])) (text : List UInt8) (wide : List UInt8) (at' : Int) (s : List UInt8) (t30 : List (List UInt8)) (t31 : Int) (t32 : Int) (of : List Int) (o : Int) (o_2 : List Int) : jfn Tryd.prog law13_LexBlank_e 6 18446744073709551616 (Ev.get law13_LexBlank_h) 5 law13_LexBlank_s 261427 [w2] (law13_LexBlank_k7 text wide at' s t30 t31 t32 of o o_2) = law13_LexBlank_K7 (fun text wide at' t30 t31 t32 of o o_2 => w2 (law13_LexBlank_k2 text wide at' t30 t31 t32 of o o_2)) text wide at' s t30 t31 t32 of o o_2 := by
  rw [pfn_eq (by decide)]
  rw [law13_LexBlank_c7]
  rfl
theorem law13_LexBlank_g5 (w2 : St → Option (As [.bool])) (text : List UInt8) (wide : List UInt8) (at' : Int) (s : List UInt8) (t30 : List (List UInt8)) (t31 : Int) (t32 : Int) (t42 : Int) (t43 : Int) (of : List Int) (o : Int) (o_2 : List Int) : jfn Tryd.prog law13_LexBlank_e 6 18446744073709551616 (Ev.get law13_LexBlank_h) 5 law13_LexBlank_s 2091418 [w2] (law13_LexBlank_k5 text wide at' s t30 t31 t32 t42 t43 of o o_2) = law13_LexBlank_K5 (fun text wide at' t30 t31 t32 of o o_2 => w2 (law13_LexBlank_k2 text wide at' t30 t31 t32 of o o_2)) text wide at' s t30 t31 t32 t42 t43 of o o_2 := by
  rw [pfn_eq (by decide)]
  rw [pfn_loop (by kernel_rfl)]
  refine loopF_sim (σ := (List UInt8) × (List UInt8) × (Int) × (List UInt8) × (List (List UInt8)) × (Int) × (Int) × (Int) × (Int) × (List Int) × (Int) × (List Int)) (mk := fun s => law13_LexBlank_k5 s.1 s.2.1 s.2.2.1 s.2.2.2.1 s.2.2.2.2.1 s.2.2.2.2.2.1 s.2.2.2.2.2.2.1 s.2.2.2.2.2.2.2.1 s.2.2.2.2.2.2.2.2.1 s.2.2.2.2.2.2.2.2.2.1 s.2.2.2.2.2.2.2.2.2.2.1 s.2.2.2.2.2.2.2.2.2.2.2) (fun w5 s => ?_) 18446744073709551616 (text, wide, at', s, t30, t31, t32, t42, t43, of, o, o_2)
  have e7 : (fun text wide at' s t30 t31 t32 of o o_2 => (jfn Tryd.prog law13_LexBlank_e 6 18446744073709551616 (Ev.get law13_LexBlank_h) 5 law13_LexBlank_s) 261427 [w2] (law13_LexBlank_k7 text wide at' s t30 t31 t32 of o o_2)) = law13_LexBlank_K7 (fun text wide at' t30 t31 t32 of o o_2 => w2 (law13_LexBlank_k2 text wide at' t30 t31 t32 of o o_2)) := funext fun text => funext fun wide => funext fun at' => funext fun s => funext fun t30 => funext fun t31 => funext fun t32 => funext fun of => funext fun o => funext fun o_2 => law13_LexBlank_g7 w2 text wide at' s t30 t31 t32 of o o_2
  refine (law13_LexBlank_c5 _ w2 w5 s.1 s.2.1 s.2.2.1 s.2.2.2.1 s.2.2.2.2.1 s.2.2.2.2.2.1 s.2.2.2.2.2.2.1 s.2.2.2.2.2.2.2.1 s.2.2.2.2.2.2.2.2.1 s.2.2.2.2.2.2.2.2.2.1 s.2.2.2.2.2.2.2.2.2.2.1 s.2.2.2.2.2.2.2.2.2.2.2).trans ?_
  rw [e7]
theorem law13_LexBlank_g3 (w2 : St → Option (As [.bool])) (text : List UInt8) (wide : List UInt8) (at' : Int) (s : List UInt8) (t30 : List (List UInt8)) (t31 : Int) (t32 : Int) (of : List Int) (o : Int) (o_2 : List Int) : jfn Tryd.prog law13_LexBlank_e 6 18446744073709551616 (Ev.get law13_LexBlank_h) 5 law13_LexBlank_s 130713 [w2] (law13_LexBlank_k3 text wide at' s t30 t31 t32 of o o_2) = law13_LexBlank_K3 (fun text wide at' t30 t31 t32 of o o_2 => w2 (law13_LexBlank_k2 text wide at' t30 t31 t32 of o o_2)) text wide at' s t30 t31 t32 of o o_2 := by
  rw [pfn_eq (by decide)]
  have e5 : (fun text wide at' s t30 t31 t32 t42 t43 of o o_2 => (jfn Tryd.prog law13_LexBlank_e 6 18446744073709551616 (Ev.get law13_LexBlank_h) 5 law13_LexBlank_s) 2091418 [w2] (law13_LexBlank_k5 text wide at' s t30 t31 t32 t42 t43 of o o_2)) = law13_LexBlank_K5 (fun text wide at' t30 t31 t32 of o o_2 => w2 (law13_LexBlank_k2 text wide at' t30 t31 t32 of o o_2)) := funext fun text => funext fun wide => funext fun at' => funext fun s => funext fun t30 => funext fun t31 => funext fun t32 => funext fun t42 => funext fun t43 => funext fun of => funext fun o => funext fun o_2 => law13_LexBlank_g5 w2 text wide at' s t30 t31 t32 t42 t43 of o o_2
  rw [law13_LexBlank_c3, e5]
  rfl
theorem law13_LexBlank_g9 (w8 : St → Option (As [.bool])) (a : List LAT1) (b : List LAT1) (i : Int) (t136 : Int) (t137 : Int) (t153 : Bool) (of : List Int) (x : Int) (x_2 : List UInt8) (x_3 : Int) (x_4 : Int) (x_5 : Int) : jfn Tryd.prog law13_LexBlank_e 6 18446744073709551616 (Ev.get law13_LexBlank_h) 5 law13_LexBlank_s 16775782 [w8] (law13_LexBlank_k9 a b i t136 t137 t153 of x x_2 x_3 x_4 x_5) = law13_LexBlank_K9 (fun a b t136 t137 of => w8 (law13_LexBlank_k8 a b t136 t137 of)) a b i t136 t137 t153 of x x_2 x_3 x_4 x_5 := by
  rw [pfn_eq (by decide)]
  rw [law13_LexBlank_c9]
  rfl
theorem law13_LexBlank_g8 (a : List LAT1) (b : List LAT1) (t136 : Int) (t137 : Int) (of : List Int) : jfn Tryd.prog law13_LexBlank_e 6 18446744073709551616 (Ev.get law13_LexBlank_h) 5 law13_LexBlank_s 65530 [] (law13_LexBlank_k8 a b t136 t137 of) = law13_LexBlank_K8 a b t136 t137 of := by
  rw [pfn_eq (by decide)]
  rw [pfn_loop (by kernel_rfl)]
  refine loopF_sim (σ := (List LAT1) × (List LAT1) × (Int) × (Int) × (List Int)) (mk := fun s => law13_LexBlank_k8 s.1 s.2.1 s.2.2.1 s.2.2.2.1 s.2.2.2.2) (fun w8 s => ?_) 18446744073709551616 (a, b, t136, t137, of)
  have e9 : (fun a b i t136 t137 t153 of x x_2 x_3 x_4 x_5 => (jfn Tryd.prog law13_LexBlank_e 6 18446744073709551616 (Ev.get law13_LexBlank_h) 5 law13_LexBlank_s) 16775782 [w8] (law13_LexBlank_k9 a b i t136 t137 t153 of x x_2 x_3 x_4 x_5)) = law13_LexBlank_K9 (fun a b t136 t137 of => w8 (law13_LexBlank_k8 a b t136 t137 of)) := funext fun a => funext fun b => funext fun i => funext fun t136 => funext fun t137 => funext fun t153 => funext fun of => funext fun x => funext fun x_2 => funext fun x_3 => funext fun x_4 => funext fun x_5 => law13_LexBlank_g9 w8 a b i t136 t137 t153 of x x_2 x_3 x_4 x_5
  refine (law13_LexBlank_c8 _ w8 s.1 s.2.1 s.2.2.1 s.2.2.2.1 s.2.2.2.2).trans ?_
  rw [e9]
theorem law13_LexBlank_g6 (a : List LAT1) (b : List LAT1) (t134 : Bool) (of : List Int) : jfn Tryd.prog law13_LexBlank_e 6 18446744073709551616 (Ev.get law13_LexBlank_h) 5 law13_LexBlank_s 8190 [] (law13_LexBlank_k6 a b t134 of) = law13_LexBlank_K6 a b t134 of := by
  rw [pfn_eq (by decide)]
  have e8 : (fun a b t136 t137 of => (jfn Tryd.prog law13_LexBlank_e 6 18446744073709551616 (Ev.get law13_LexBlank_h) 5 law13_LexBlank_s) 65530 [] (law13_LexBlank_k8 a b t136 t137 of)) = law13_LexBlank_K8 := funext fun a => funext fun b => funext fun t136 => funext fun t137 => funext fun of => law13_LexBlank_g8 a b t136 t137 of
  rw [law13_LexBlank_c6, e8]
  rfl
theorem law13_LexBlank_g4 (text : List UInt8) (wide : List UInt8) (of : List Int) : jfn Tryd.prog law13_LexBlank_e 6 18446744073709551616 (Ev.get law13_LexBlank_h) 5 law13_LexBlank_s 255 [] (law13_LexBlank_k4 text wide of) = law13_LexBlank_K4 text wide of := by
  rw [pfn_eq (by decide)]
  have e6 : (fun a b t134 of => (jfn Tryd.prog law13_LexBlank_e 6 18446744073709551616 (Ev.get law13_LexBlank_h) 5 law13_LexBlank_s) 8190 [] (law13_LexBlank_k6 a b t134 of)) = law13_LexBlank_K6 := funext fun a => funext fun b => funext fun t134 => funext fun of => law13_LexBlank_g6 a b t134 of
  rw [law13_LexBlank_c4, e6]
  rfl
theorem law13_LexBlank_g2 (text : List UInt8) (wide : List UInt8) (at' : Int) (t30 : List (List UInt8)) (t31 : Int) (t32 : Int) (of : List Int) (o : Int) (o_2 : List Int) : jfn Tryd.prog law13_LexBlank_e 6 18446744073709551616 (Ev.get law13_LexBlank_h) 5 law13_LexBlank_s 2042 [] (law13_LexBlank_k2 text wide at' t30 t31 t32 of o o_2) = law13_LexBlank_K2 text wide at' t30 t31 t32 of o o_2 := by
  rw [pfn_eq (by decide)]
  rw [pfn_loop (by kernel_rfl)]
  refine loopF_sim (σ := (List UInt8) × (List UInt8) × (Int) × (List (List UInt8)) × (Int) × (Int) × (List Int) × (Int) × (List Int)) (mk := fun s => law13_LexBlank_k2 s.1 s.2.1 s.2.2.1 s.2.2.2.1 s.2.2.2.2.1 s.2.2.2.2.2.1 s.2.2.2.2.2.2.1 s.2.2.2.2.2.2.2.1 s.2.2.2.2.2.2.2.2) (fun w2 s => ?_) 18446744073709551616 (text, wide, at', t30, t31, t32, of, o, o_2)
  have e3 : (fun text wide at' s t30 t31 t32 of o o_2 => (jfn Tryd.prog law13_LexBlank_e 6 18446744073709551616 (Ev.get law13_LexBlank_h) 5 law13_LexBlank_s) 130713 [w2] (law13_LexBlank_k3 text wide at' s t30 t31 t32 of o o_2)) = law13_LexBlank_K3 (fun text wide at' t30 t31 t32 of o o_2 => w2 (law13_LexBlank_k2 text wide at' t30 t31 t32 of o o_2)) := funext fun text => funext fun wide => funext fun at' => funext fun s => funext fun t30 => funext fun t31 => funext fun t32 => funext fun of => funext fun o => funext fun o_2 => law13_LexBlank_g3 w2 text wide at' s t30 t31 t32 of o o_2
  have e4 : (fun text wide of => (jfn Tryd.prog law13_LexBlank_e 6 18446744073709551616 (Ev.get law13_LexBlank_h) 5 law13_LexBlank_s) 255 [] (law13_LexBlank_k4 text wide of)) = law13_LexBlank_K4 := funext fun text => funext fun wide => funext fun of => law13_LexBlank_g4 text wide of
  refine (law13_LexBlank_c2 _ w2 s.1 s.2.1 s.2.2.1 s.2.2.2.1 s.2.2.2.2.1 s.2.2.2.2.2.1 s.2.2.2.2.2.2.1 s.2.2.2.2.2.2.2.1 s.2.2.2.2.2.2.2.2).trans ?_
  rw [e3, e4]
theorem law13_LexBlank_g1 (text : List UInt8) (t25 : Bool) (how : List Int) : jfn Tryd.prog law13_LexBlank_e 6 18446744073709551616 (Ev.get law13_LexBlank_h) 5 law13_LexBlank_s 6 [] (law13_LexBlank_k1 text t25 how) = law13_LexBlank_K1 text t25 how := by
  rw [pfn_eq (by decide)]
  have e2 : (fun text wide at' t30 t31 t32 of o o_2 => (jfn Tryd.prog law13_LexBlank_e 6 18446744073709551616 (Ev.get law13_LexBlank_h) 5 law13_LexBlank_s) 2042 [] (law13_LexBlank_k2 text wide at' t30 t31 t32 of o o_2)) = law13_LexBlank_K2 := funext fun text => funext fun wide => funext fun at' => funext fun t30 => funext fun t31 => funext fun t32 => funext fun of => funext fun o => funext fun o_2 => law13_LexBlank_g2 text wide at' t30 t31 t32 of o o_2
  rw [law13_LexBlank_c1, e2]
  rfl
theorem law13_LexBlank_t (x : As [.str, .sl (.int .u8)]) : evT Tryd.prog law13_LexBlank_e 6 18446744073709551616 (Ev.get law13_LexBlank_h) 5 law13_LexBlank_s x = law13_LexBlank x := by
  have e1 : (fun text t25 how => (jfn Tryd.prog law13_LexBlank_e 6 18446744073709551616 (Ev.get law13_LexBlank_h) 5 law13_LexBlank_s) 6 [] (law13_LexBlank_k1 text t25 how)) = law13_LexBlank_K1 := funext fun text => funext fun t25 => funext fun how => law13_LexBlank_g1 text t25 how
  rw [rfn_eq, law13_LexBlank_c0, e1]
  rfl
theorem law13_LexBlank_ok : CtOk Tryd.prog (fun _ => True) 5 ⟨law13_LexBlank_s, law13_LexBlank⟩ := ct_of_ev (env_cons law13_awake_ok (env_cons lex_Lex_ok (env_cons strings_Count_ok (env_cons law13_LexBlank_z1_ok (env_cons strings_Split_ok env_nil))))) law13_LexBlank_t
/-! strings_HasPrefix -/
@[reducible] def strings_HasPrefix_s : Sh := ⟨[.d (.str), .d (.str)], [], [.str, .str], [.d (.bool)], [], 0, [.bool]⟩
def strings_HasPrefix_e : Env := (cts [(65, (⟨istringslite_HasPrefix_s, istringslite_HasPrefix⟩ : Ct))])
def strings_HasPrefix_h : List (Nat × Hint) := []
def strings_HasPrefix_m0 (s : List UInt8) (prefixV : List UInt8) : Option (As [.bool]) :=
  Option.bind (istringslite_HasPrefix (s, prefixV, ())) fun (y : Bool × Unit) => some (y.fst, ())
def strings_HasPrefix (x : As [.str, .str]) : Option (As [.bool]) := strings_HasPrefix_m0 x.1 x.2.1
theorem strings_HasPrefix_c0 (J : Orc (As [.bool])) (x : As [.str, .str]) : rfn Tryd.prog strings_HasPrefix_e 6 18446744073709551616 (Ev.get strings_HasPrefix_h) 20 strings_HasPrefix_s J x = strings_HasPrefix_m0 x.1 x.2.1 := by kernel_rfl
theorem strings_HasPrefix_t (x : As [.str, .str]) : evT Tryd.prog strings_HasPrefix_e 6 18446744073709551616 (Ev.get strings_HasPrefix_h) 20 strings_HasPrefix_s x = strings_HasPrefix x := by
  rw [rfn_eq, strings_HasPrefix_c0]
  rfl
theorem strings_HasPrefix_ok : CtOk Tryd.prog (fun _ => True) 20 ⟨strings_HasPrefix_s, strings_HasPrefix⟩ := ct_of_ev (env_cons istringslite_HasPrefix_ok env_nil) strings_HasPrefix_t
/-! law13_LexStands -/
@[reducible] def law13_LexStands_s : Sh := ⟨[.d (.str)], [], [.str], [.d (.bool)], [], 0, [.bool]⟩
def law13_LexStands_e : Env := (cts [(11, (⟨law13_awake_s, law13_awake⟩ : Ct)), (12, (⟨lex_Lex_s, lex_Lex⟩ : Ct)), (17, (⟨strings_Split_s, strings_Split⟩ : Ct)), (19, (⟨strings_TrimLeft_s, strings_TrimLeft⟩ : Ct)), (20, (⟨strings_HasPrefix_s, strings_HasPrefix⟩ : Ct))])
def law13_LexStands_h : List (Nat × Hint) := [(127, ⟨[], [3, 6, 128]⟩), (1018, ⟨[], [3, 6, 45, 46, 47, 67, 68, 69, 70, 71, 72, 73, 74, 77, 78, 79, 80, 81, 82, 85, 86, 87, 88, 89, 90, 91, 92, 111, 112, 113, 114, 115, 116, 117, 118, 128]⟩), (260711, ⟨[], [3, 6, 7, 12, 45, 46, 47, 67, 68, 69, 70, 71, 72, 73, 74, 77, 78, 79, 80, 81, 82, 85, 86, 87, 88, 89, 90, 91, 92, 111, 112, 113, 114, 115, 116, 117, 118, 128]⟩), (2085694, ⟨[], [3, 6, 45, 46, 47, 119]⟩), (1042844, ⟨[], [3, 6, 7, 9, 12, 45, 46, 47, 67, 68, 69, 70, 71, 72, 73, 74, 77, 78, 79, 80, 81, 82, 85, 86, 87, 88, 89, 90, 91, 92, 111, 112, 113, 114, 115, 116, 117, 118, 128]⟩), (33371014, ⟨[], [3, 6, 7, 9, 45, 46, 47, 93]⟩)]
def law13_LexStands_k1 (l : List LAT1) (at' : Int) (t45 : List (List UInt8)) (t46 : Int) (t47 : Int) : St := { fr := [(3, .d (.sl LAT0) l), (6, .d (.int .i64) at'), (45, .d (.sl .str) t45), (46, .d (.int .i64) t46), (47, .d (.int .i64) t47)], nt := 130, up := [], own := [], nx := 0, log := [], ln := 0 }
def law13_LexStands_k2 (l : List LAT1) (at' : Int) (i : Int) (plain : List UInt8) (some' : Bool) (t45 : List (List UInt8)) (t46 : Int) (t47 : Int) : St := { fr := [(3, .d (.sl LAT0) l), (6, .d (.int .i64) at'), (7, .d (.int .i64) i), (9, .d .str plain), (12, .d .bool some'), (45, .d (.sl .str) t45), (46, .d (.int .i64) t46), (47, .d (.int .i64) t47)], nt := 130, up := [], own := [], nx := 0, log := [], ln := 0 }
def law13_LexStands_k3 (l : List LAT1) (at' : Int) : St := { fr := [(3, .d (.sl LAT0) l), (6, .d (.int .i64) at')], nt := 130, up := [], own := [], nx := 0, log := [], ln := 0 }
def law13_LexStands_k4 (l : List LAT1) (at' : Int) (i : Int) (some' : Bool) (t45 : List (List UInt8)) (t46 : Int) (t47 : Int) : St := { fr := [(3, .d (.sl LAT0) l), (6, .d (.int .i64) at'), (7, .d (.int .i64) i), (12, .d .bool some'), (45, .d (.sl .str) t45), (46, .d (.int .i64) t46), (47, .d (.int .i64) t47)], nt := 130, up := [], own := [], nx := 0, log := [], ln := 0 }
def law13_LexStands_k5 (l : List LAT1) (at' : Int) (i : Int) (plain : List UInt8) (t45 : List (List UInt8)) (t46 : Int) (t47 : Int) (t93 : Bool) : St := { fr := [(3, .d (.sl LAT0) l), (6, .d (.int .i64) at'), (7, .d (.int .i64) i), (9, .d .str plain), (45, .d (.sl .str) t45), (46, .d (.int .i64) t46), (47, .d (.int .i64) t47), (93, .d .bool t93)], nt := 130, up := [], own := [], nx := 0, log := [], ln := 0 }
def law13_LexStands_k6 (l : List LAT1) (at' : Int) (t45 : List (List UInt8)) (t46 : Int) (t47 : Int) (t119 : Bool) : St := { fr := [(3, .d (.sl LAT0) l), (6, .d (.int .i64) at'), (45, .d (.sl .str) t45), (46, .d (.int .i64) t46), (47, .d (.int .i64) t47), (119, .d .bool t119)], nt := 130, up := [], own := [], nx := 0, log := [], ln := 0 }
def law13_LexStands_m1 (j2 : List LAT1 → Int → Int → List UInt8 → Bool → List (List UInt8) → Int → Int → Option (As [.bool])) (j3 : List LAT1 → Int → Option (As [.bool])) (self1 : List LAT1 → Int → List (List UInt8) → Int → Int → Option (As [.bool])) (l : List LAT1) (at' : Int) (t45 : List (List UInt8)) (t46 : Int) (t47 : Int) : Option (As [.bool]) :=
  if lt t47 t46 = true then Option.bind (at? t45 t47) fun (y : List UInt8) => if eqs [35] y = true then Option.bind (cut y 1 (Int.ofNat (List.length y))) fun (y : List UInt8) => j2 l at' t47 [] false t45 t46 t47 else if ge (Go.Lib.indexByte y 35) 0 = true then Option.bind (cut y 0 (Go.Lib.indexByte y 35)) fun (y_1 : List UInt8) => Option.bind (cut y (add .i64 (Go.Lib.indexByte y 35) 1) (Int.ofNat (List.length y))) fun (y : List UInt8) => j2 l at' t47 y_1 false t45 t46 t47 else j2 l at' t47 y false t45 t46 t47 else j3 l at'
def law13_LexStands_m2 (j4 : List LAT1 → Int → Int → Bool → List (List UInt8) → Int → Int → Option (As [.bool])) (j5 : List LAT1 → Int → Int → List UInt8 → List (List UInt8) → Int → Int → Bool → Option (As [.bool])) (self1 : List LAT1 → Int → List (List UInt8) → Int → Int → Option (As [.bool])) (self2 : List LAT1 → Int → Int → List UInt8 → Bool → List (List UInt8) → Int → Int → Option (As [.bool])) (l : List LAT1) (at' : Int) (i : Int) (plain : List UInt8) (some' : Bool) (t45 : List (List UInt8)) (t46 : Int) (t47 : Int) : Option (As [.bool]) :=
  Option.bind (strings_TrimLeft (plain, [9, 13, 32], ())) fun (y : List UInt8 × Unit) => if eqs y.fst [] = true then j4 l at' i some' t45 t46 t47 else if eqi at' (Int.ofNat (List.length l)) = true then j5 l at' i y.fst t45 t46 t47 true else Option.bind (at? l at') fun (y_1 : Int × List UInt8 × (Int × Int) × Int) => if nei y_1.snd.snd.snd (add .i64 i 1) = true then j5 l at' i y.fst t45 t46 t47 true else Option.bind (at? l at') fun (y_2 : Int × List UInt8 × (Int × Int) × Int) => if eqs y_2.snd.fst [] = true then j5 l at' i y.fst t45 t46 t47 true else Option.bind (at? l at') fun (y_3 : Int × List UInt8 × (Int × Int) × Int) => Option.bind (strings_HasPrefix (y.fst, y_3.snd.fst, ())) fun (y_4 : Bool × Unit) => j5 l at' i y.fst t45 t46 t47 !y_4.fst
def law13_LexStands_m3 (l : List LAT1) (at' : Int) : Option (As [.bool]) :=
  if eqi at' (Int.ofNat (List.length l)) = true then Option.bind (law13_awake ()) fun (y : Bool × Unit) => some (y.fst, ()) else some (false, ())
def law13_LexStands_m4 (j6 : List LAT1 → Int → List (List UInt8) → Int → Int → Bool → Option (As [.bool])) (self1 : List LAT1 → Int → List (List UInt8) → Int → Int → Option (As [.bool])) (l : List LAT1) (at' : Int) (i : Int) (some' : Bool) (t45 : List (List UInt8)) (t46 : Int) (t47 : Int) : Option (As [.bool]) :=
  if (!some') = true then self1 l at' t45 t46 (add .i64 t47 1) else if eqi at' (Int.ofNat (List.length l)) = true then j6 l at' t45 t46 t47 true else Option.bind (at? l at') fun (y : Int × List UInt8 × (Int × Int) × Int) => j6 l at' t45 t46 t47 !(eqi y.fst 4 && (eqs y.snd.fst [] && (eqi y.snd.snd.fst.fst 0 && (eqi y.snd.snd.fst.snd 0 && true) && (eqi y.snd.snd.snd (add .i64 i 1) && true))))
def law13_LexStands_m5 (self1 : List LAT1 → Int → List (List UInt8) → Int → Int → Option (As [.bool])) (self2 : List LAT1 → Int → Int → List UInt8 → Bool → List (List UInt8) → Int → Int → Option (As [.bool])) (l : List LAT1) (at' : Int) (i : Int) (plain : List UInt8) (t45 : List (List UInt8)) (t46 : Int) (t47 : Int) (t93 : Bool) : Option (As [.bool]) :=
  if t93 = true then some (false, ()) else Option.bind (at? l at') fun (y : Int × List UInt8 × (Int × Int) × Int) => Option.bind (cut plain (Int.ofNat (List.length y.snd.fst)) (Int.ofNat (List.length plain))) fun (y : List UInt8) => self2 l (add .i64 at' 1) i y true t45 t46 t47
def law13_LexStands_m6 (self1 : List LAT1 → Int → List (List UInt8) → Int → Int → Option (As [.bool])) (l : List LAT1) (at' : Int) (t45 : List (List UInt8)) (t46 : Int) (t47 : Int) (t119 : Bool) : Option (As [.bool]) :=
  if t119 = true then some (false, ()) else self1 l (add .i64 at' 1) t45 t46 (add .i64 t47 1)
def law13_LexStands_m0 (j1 : List LAT1 → Int → List (List UInt8) → Int → Int → Option (As [.bool])) (text : List UInt8) : Option (As [.bool]) :=
  if gt (Int.ofNat (List.length text)) 4000 = true then Option.bind (law13_awake ()) fun (y : Bool × Unit) => some (y.fst, ()) else Option.bind (lex_Lex (text, ())) fun (y : List LAT1 × (Int × Int) × Unit) => Option.bind (strings_Split (text, [10], ())) fun (y_1 : List (List UInt8) × Unit) => if nei y.snd.fst.fst 0 = true then if eqi (Int.ofNat (List.length y.fst)) 0 = true then if ge y.snd.fst.snd 1 = true then if le y.snd.fst.snd (Int.ofNat (List.length y_1.fst)) = true then Option.bind (law13_awake ()) fun (y : Bool × Unit) => some (y.fst, ()) else some (false, ()) else some (false, ()) else some (false, ()) else j1 y.fst 0 y_1.fst (Int.ofNat (List.length y_1.fst)) 0
def law13_LexStands_K6 (u1 : List LAT1 → Int → List (List UInt8) → Int → Int → Option (As [.bool])) (l : List LAT1) (at' : Int) (t45 : List (List UInt8)) (t46 : Int) (t47 : Int) (t119 : Bool) : Option (As [.bool]) := law13_LexStands_m6 u1 l at' t45 t46 t47 t119
def law13_LexStands_K4 (u1 : List LAT1 → Int → List (List UInt8) → Int → Int → Option (As [.bool])) (l : List LAT1) (at' : Int) (i : Int) (some' : Bool) (t45 : List (List UInt8)) (t46 : Int) (t47 : Int) : Option (As [.bool]) := law13_LexStands_m4 (law13_LexStands_K6 u1) u1 l at' i some' t45 t46 t47
def law13_LexStands_K5 (u1 : List LAT1 → Int → List (List UInt8) → Int → Int → Option (As [.bool])) (u2 : List LAT1 → Int → Int → List UInt8 → Bool → List (List UInt8) → Int → Int → Option (As [.bool])) (l : List LAT1) (at' : Int) (i : Int) (plain : List UInt8) (t45 : List (List UInt8)) (t46 : Int) (t47 : Int) (t93 : Bool) : Option (As [.bool]) := law13_LexStands_m5 u1 u2 l at' i plain t45 t46 t47 t93
def law13_LexStands_K2 (u1 : List LAT1 → Int → List (List UInt8) → Int → Int → Option (As [.bool])) (l : List LAT1) (at' : Int) (i : Int) (plain : List UInt8) (some' : Bool) (t45 : List (List UInt8)) (t46 : Int) (t47 : Int) : Option (As [.bool]) :=
  loopF (fun (self : (List LAT1) × (Int) × (Int) × (List UInt8) × (Bool) × (List (List UInt8)) × (Int) × (Int) → Option (As [.bool])) (s : (List LAT1) × (Int) × (Int) × (List UInt8) × (Bool) × (List (List UInt8)) × (Int) × (Int)) => law13_LexStands_m2 (law13_LexStands_K4 u1) (law13_LexStands_K5 u1 (fun l at' i plain some' t45 t46 t47 => self (l, at', i, plain, some', t45, t46, t47))) u1 (fun l at' i plain some' t45 t46 t47 => self (l, at', i, plain, some', t45, t46, t47)) s.1 s.2.1 s.2.2.1 s.2.2.2.1 s.2.2.2.2.1 s.2.2.2.2.2.1 s.2.2.2.2.2.2.1 s.2.2.2.2.2.2.2) 18446744073709551616 (l, at', i, plain, some', t45, t46, t47)
def law13_LexStands_K3 (l : List LAT1) (at' : Int) : Option (As [.bool]) := law13_LexStands_m3 l at'
def law13_LexStands_K1 (l : List LAT1) (at' : Int) (t45 : List (List UInt8)) (t46 : Int) (t47 : Int) : Option (As [.bool]) :=
  loopF (fun (self : (List LAT1) × (Int) × (List (List UInt8)) × (Int) × (Int) → Option (As [.bool])) (s : (List LAT1) × (Int) × (List (List UInt8)) × (Int) × (Int)) => law13_LexStands_m1 (law13_LexStands_K2 (fun l at' t45 t46 t47 => self (l, at', t45, t46, t47))) (law13_LexStands_K3) (fun l at' t45 t46 t47 => self (l, at', t45, t46, t47)) s.1 s.2.1 s.2.2.1 s.2.2.2.1 s.2.2.2.2) 18446744073709551616 (l, at', t45, t46, t47)
def law13_LexStands (x : As [.str]) : Option (As [.bool]) := law13_LexStands_m0 law13_LexStands_K1 x.1
theorem law13_LexStands_c6 (J : Orc (As [.bool])) (w1 : St → Option (As [.bool])) (l : List LAT1) (at' : Int) (t45 : List (List UInt8)) (t46 : Int) (t47 : Int) (t119 : Bool) : pfn Tryd.prog law13_LexStands_e 6 18446744073709551616 (Ev.get law13_LexStands_h) 6 law13_LexStands_s J 2085694 [w1] (law13_LexStands_k6 l at' t45 t46 t47 t119) = law13_LexStands_m6 (fun l at' t45 t46 t47 => w1 (law13_LexStands_k1 l at' t45 t46 t47)) l at' t45 t46 t47 t119 := by kernel_rfl
theorem law13_LexStands_c4 (J : Orc (As [.bool])) (w1 : St → Option (As [.bool])) (l : List LAT1) (at' : Int) (i : Int) (some' : Bool) (t45 : List (List UInt8)) (t46 : Int) (t47 : Int) : pfn Tryd.prog law13_LexStands_e 6 18446744073709551616 (Ev.get law13_LexStands_h) 6 law13_LexStands_s J 260711 [w1] (law13_LexStands_k4 l at' i some' t45 t46 t47) = law13_LexStands_m4 (fun l at' t45 t46 t47 t119 => J 2085694 [w1] (law13_LexStands_k6 l at' t45 t46 t47 t119)) (fun l at' t45 t46 t47 => w1 (law13_LexStands_k1 l at' t45 t46 t47)) l at' i some' t45 t46 t47 := by kernel_rfl
theorem law13_LexStands_c5 (J : Orc (As [.bool])) (w1 : St → Option (As [.bool])) (w2 : St → Option (As [.bool])) (l : List LAT1) (at' : Int) (i : Int) (plain : List UInt8) (t45 : List (List UInt8)) (t46 : Int) (t47 : Int) (t93 : Bool) : pfn Tryd.prog law13_LexStands_e 6 18446744073709551616 (Ev.get law13_LexStands_h) 6 law13_LexStands_s J 33371014 [w1, w2] (law13_LexStands_k5 l at' i plain t45 t46 t47 t93) = law13_LexStands_m5 (fun l at' t45 t46 t47 => w1 (law13_LexStands_k1 l at' t45 t46 t47)) (fun l at' i plain some' t45 t46 t47 => w2 (law13_LexStands_k2 l at' i plain some' t45 t46 t47)) l at' i plain t45 t46 t47 t93 := by kernel_rfl
theorem law13_LexStands_c2 (J : Orc (As [.bool])) (w1 : St → Option (As [.bool])) (w2 : St → Option (As [.bool])) (l : List LAT1) (at' : Int) (i : Int) (plain : List UInt8) (some' : Bool) (t45 : List (List UInt8)) (t46 : Int) (t47 : Int) : pfn Tryd.prog law13_LexStands_e 6 18446744073709551616 (Ev.get law13_LexStands_h) 6 law13_LexStands_s J 1042844 [w1, w2] (law13_LexStands_k2 l at' i plain some' t45 t46 t47) = law13_LexStands_m2 (fun l at' i some' t45 t46 t47 => J 260711 [w1] (law13_LexStands_k4 l at' i some' t45 t46 t47)) (fun l at' i plain t45 t46 t47 t93 => J 33371014 [w1, w2] (law13_LexStands_k5 l at' i plain t45 t46 t47 t93)) (fun l at' t45 t46 t47 => w1 (law13_LexStands_k1 l at' t45 t46 t47)) (fun l at' i plain some' t45 t46 t47 => w2 (law13_LexStands_k2 l at' i plain some' t45 t46 t47)) l at' i plain some' t45 t46 t47 := by kernel_rfl
theorem law13_LexStands_c3 (J : Orc (As [.bool])) (l : List LAT1) (at' : Int) : pfn Tryd.prog law13_LexStands_e 6 18446744073709551616 (Ev.get law13_LexStands_h) 6 law13_LexStands_s J 127 [] (law13_LexStands_k3 l at') = law13_LexStands_m3 l at' := by kernel_rfl
theorem law13_LexStands_c1 (J : Orc (As [.bool])) (w1 : St → Option (As [.bool])) (l : List LAT1) (at' : Int) (t45 : List (List UInt8)) (t46 : Int) (t47 : Int) : pfn Tryd.prog law13_LexStands_e 6 18446744073709551616 (Ev.get law13_LexStands_h) 6 law13_LexStands_s J 1018 [w1] (law13_LexStands_k1 l at' t45 t46 t47) = law13_LexStands_m1 (fun l at' i plain some' t45 t46 t47 => J 1042844 [w1] (law13_LexStands_k2 l at' i plain some' t45 t46 t47)) (fun l at' => J 127 [] (law13_LexStands_k3 l at')) (fun l at' t45 t46 t47 => w1 (law13_LexStands_k1 l at' t45 t46 t47)) l at' t45 t46 t47 := by kernel_rfl
theorem law13_LexStands_c0 (J : Orc (As [.bool])) (x : As [.str]) : rfn Tryd.prog law13_LexStands_e 6 18446744073709551616 (Ev.get law13_LexStands_h) 6 law13_LexStands_s J x = law13_LexStands_m0 (fun l at' t45 t46 t47 => J 1018 [] (law13_LexStands_k1 l at' t45 t46 t47)) x.1 := by kernel_rfl
theorem law13_LexStands_g6 (w1 : St → Option (As [.bool])) (l : List LAT1) (at' : Int) (t45 : List (List UInt8)) (t46 : Int) (t47 : Int) (t119 : Bool) : jfn Tryd.prog law13_LexStands_e 6 18446744073709551616 (Ev.get law13_LexStands_h) 6 law13_LexStands_s 2085694 [w1] (law13_LexStands_k6 l at' t45 t46 t47 t119) = law13_LexStands_K6 (fun l at' t45 t46 t47 => w1 (law13_LexStands_k1 l at' t45 t46 t47)) l at' t45 t46 t47 t119 := by
  rw [pfn_eq (by decide)]
  rw [law13_LexStands_c6]
  rfl
theorem law13_LexStands_g4 (w1 : St → Option (As [.bool])) (l : List LAT1) (at' : Int) (i : Int) (some' : Bool) (t45 : List (List UInt8)) (t46 : Int) (t47 : Int) : jfn Tryd.prog law13_LexStands_e 6 18446744073709551616 (Ev.get law13_LexStands_h) 6 law13_LexStands_s 260711 [w1] (law13_LexStands_k4 l at' i some' t45 t46 t47) = law13_LexStands_K4 (fun l at' t45 t46 t47 => w1 (law13_LexStands_k1 l at' t45 t46 t47)) l at' i some' t45 t46 t47 := by
  rw [pfn_eq (by decide)]
  have e6 : (fun l at' t45 t46 t47 t119 => (jfn Tryd.prog law13_LexStands_e 6 18446744073709551616 (Ev.get law13_LexStands_h) 6 law13_LexStands_s) 2085694 [w1] (law13_LexStands_k6 l at' t45 t46 t47 t119)) = law13_LexStands_K6 (fun l at' t45 t46 t47 => w1 (law13_LexStands_k1 l at' t45 t46 t47)) := funext fun l => funext fun at' => funext fun t45 => funext fun t46 => funext fun t47 => funext fun t119 => law13_LexStands_g6 w1 l at' t45 t46 t47 t119
  rw [law13_LexStands_c4, e6]
  rfl
theorem law13_LexStands_g5 (w1 : St → Option (As [.bool])) (w2 : St → Option (As [.bool])) (l : List LAT1) (at' : Int) (i : Int) (plain : List UInt8) (t45 : List (List UInt8)) (t46 : Int) (t47 : Int) (t93 : Bool) : jfn Tryd.prog law13_LexStands_e 6 18446744073709551616 (Ev.get law13_LexStands_h) 6 law13_LexStands_s 33371014 [w1, w2] (law13_LexStands_k5 l at' i plain t45 t46 t47 t93) = law13_LexStands_K5 (fun l at' t45 t46 t47 => w1 (law13_LexStands_k1 l at' t45 t46 t47)) (fun l at' i plain some' t45 t46 t47 => w2 (law13_LexStands_k2 l at' i plain some' t45 t46 t47)) l at' i plain t45 t46 t47 t93 := by
  rw [pfn_eq (by decide)]
  rw [law13_LexStands_c5]
  rfl
theorem law13_LexStands_g2 (w1 : St → Option (As [.bool])) (l : List LAT1) (at' : Int) (i : Int) (plain : List UInt8) (some' : Bool) (t45 : List (List UInt8)) (t46 : Int) (t47 : Int) : jfn Tryd.prog law13_LexStands_e 6 18446744073709551616 (Ev.get law13_LexStands_h) 6 law13_LexStands_s 1042844 [w1] (law13_LexStands_k2 l at' i plain some' t45 t46 t47) = law13_LexStands_K2 (fun l at' t45 t46 t47 => w1 (law13_LexStands_k1 l at' t45 t46 t47)) l at' i plain some' t45 t46 t47 := by
  rw [pfn_eq (by decide)]
  rw [pfn_loop (by kernel_rfl)]
  refine loopF_sim (σ := (List LAT1) × (Int) × (Int) × (List UInt8) × (Bool) × (List (List UInt8)) × (Int) × (Int)) (mk := fun s => law13_LexStands_k2 s.1 s.2.1 s.2.2.1 s.2.2.2.1 s.2.2.2.2.1 s.2.2.2.2.2.1 s.2.2.2.2.2.2.1 s.2.2.2.2.2.2.2) (fun w2 s => ?_) 18446744073709551616 (l, at', i, plain, some', t45, t46, t47)
  have e4 : (fun l at' i some' t45 t46 t47 => (jfn Tryd.prog law13_LexStands_e 6 18446744073709551616 (Ev.get law13_LexStands_h) 6 law13_LexStands_s) 260711 [w1] (law13_LexStands_k4 l at' i some' t45 t46 t47)) = law13_LexStands_K4 (fun l at' t45 t46 t47 => w1 (law13_LexStands_k1 l at' t45 t46 t47)) := funext fun l => funext fun at' => funext fun i => funext fun some' => funext fun t45 => funext fun t46 => funext fun t47 => law13_LexStands_g4 w1 l at' i some' t45 t46 t47
  have e5 : (fun l at' i plain t45 t46 t47 t93 => (jfn Tryd.prog law13_LexStands_e 6 18446744073709551616 (Ev.get law13_LexStands_h) 6 law13_LexStands_s) 33371014 [w1, w2] (law13_LexStands_k5 l at' i plain t45 t46 t47 t93)) = law13_LexStands_K5 (fun l at' t45 t46 t47 => w1 (law13_LexStands_k1 l at' t45 t46 t47)) (fun l at' i plain some' t45 t46 t47 => w2 (law13_LexStands_k2 l at' i plain some' t45 t46 t47)) := funext fun l => funext fun at' => funext fun i => funext fun plain => funext fun t45 => funext fun t46 => funext fun t47 => funext fun t93 => law13_LexStands_g5 w1 w2 l at' i plain t45 t46 t47 t93
  refine (law13_LexStands_c2 _ w1 w2 s.1 s.2.1 s.2.2.1 s.2.2.2.1 s.2.2.2.2.1 s.2.2.2.2.2.1 s.2.2.2.2.2.2.1 s.2.2.2.2.2.2.2).trans ?_
  rw [e4, e5]
theorem law13_LexStands_g3 (l : List LAT1) (at' : Int) : jfn Tryd.prog law13_LexStands_e 6 18446744073709551616 (Ev.get law13_LexStands_h) 6 law13_LexStands_s 127 [] (law13_LexStands_k3 l at') = law13_LexStands_K3 l at' := by
  rw [pfn_eq (by decide)]
  rw [law13_LexStands_c3]
  rfl
theorem law13_LexStands_g1 (l : List LAT1) (at' : Int) (t45 : List (List UInt8)) (t46 : Int) (t47 : Int) : jfn Tryd.prog law13_LexStands_e 6 18446744073709551616 (Ev.get law13_LexStands_h) 6 law13_LexStands_s 1018 [] (law13_LexStands_k1 l at' t45 t46 t47) = law13_LexStands_K1 l at' t45 t46 t47 := by
  rw [pfn_eq (by decide)]
  rw [pfn_loop (by kernel_rfl)]
  refine loopF_sim (σ := (List LAT1) × (Int) × (List (List UInt8)) × (Int) × (Int)) (mk := fun s => law13_LexStands_k1 s.1 s.2.1 s.2.2.1 s.2.2.2.1 s.2.2.2.2) (fun w1 s => ?_) 18446744073709551616 (l, at', t45, t46, t47)
  have e2 : (fun l at' i plain some' t45 t46 t47 => (jfn Tryd.prog law13_LexStands_e 6 18446744073709551616 (Ev.get law13_LexStands_h) 6 law13_LexStands_s) 1042844 [w1] (law13_LexStands_k2 l at' i plain some' t45 t46 t47)) = law13_LexStands_K2 (fun l at' t45 t46 t47 => w1 (law13_LexStands_k1 l at' t45 t46 t47)) := funext fun l => funext fun at' => funext fun i => funext fun plain => funext fun some' => funext fun t45 => funext fun t46 => funext fun t47 => law13_LexStands_g2 w1 l at' i plain some' t45 t46 t47
  have e3 : (fun l at' => (jfn Tryd.prog law13_LexStands_e 6 18446744073709551616 (Ev.get law13_LexStands_h) 6 law13_LexStands_s) 127 [] (law13_LexStands_k3 l at')) = law13_LexStands_K3 := funext fun l => funext fun at' => law13_LexStands_g3 l at'
  refine (law13_LexStands_c1 _ w1 s.1 s.2.1 s.2.2.1 s.2.2.2.1 s.2.2.2.2).trans ?_
  rw [e2, e3]
theorem law13_LexStands_t (x : As [.str]) : evT Tryd.prog law13_LexStands_e 6 18446744073709551616 (Ev.get law13_LexStands_h) 6 law13_LexStands_s x = law13_LexStands x := by
  have e1 : (fun l at' t45 t46 t47 => (jfn Tryd.prog law13_LexStands_e 6 18446744073709551616 (Ev.get law13_LexStands_h) 6 law13_LexStands_s) 1018 [] (law13_LexStands_k1 l at' t45 t46 t47)) = law13_LexStands_K1 := funext fun l => funext fun at' => funext fun t45 => funext fun t46 => funext fun t47 => law13_LexStands_g1 l at' t45 t46 t47
  rw [rfn_eq, law13_LexStands_c0, e1]
  rfl
theorem law13_LexStands_ok : CtOk Tryd.prog (fun _ => True) 6 ⟨law13_LexStands_s, law13_LexStands⟩ := ct_of_ev (env_cons law13_awake_ok (env_cons lex_Lex_ok (env_cons strings_Split_ok (env_cons strings_TrimLeft_ok (env_cons strings_HasPrefix_ok env_nil))))) law13_LexStands_t
end Go.Proofs.Lx

end

section
/- Plain laws: a kit of lemmas about what the models are made of. -/
namespace Pl
open Go Ev Sx
set_option maxRecDepth 10000

/-! ### loops -/
theorem loopF_succ {σ R : Type} (F : (σ → Option R) → σ → Option R) (n : Nat) (s : σ) : loopF F (n + 1) s = F (loopF F n) s := rfl
/-- a loop is G, where each step is, if the next ones are -/
theorem loopF_eq {σ R : Type} {F : (σ → Option R) → σ → Option R} {Inv : σ → Prop} {μ : σ → Nat} {G : σ → Option R}
    (step : ∀ self s, Inv s → (∀ s', Inv s' → μ s' < μ s → self s' = G s') → F self s = G s) : ∀ (n : Nat) (s : σ), Inv s → μ s < n → loopF F n s = G s
  | 0, s, _, h => by omega
  | n + 1, s, hs, h => by
    rw [loopF_succ]
    exact step _ s hs fun s' hs' hlt => loopF_eq step n s' hs' (by omega)
/-! ### numbers -/
theorem w64 {x : Int} (h1 : -9223372036854775808 ≤ x) (h2 : x ≤ 9223372036854775807) : IntKind.i64.wrap x = x := by
  simp only [IntKind.wrap, IntKind.signed, IntKind.bits]
  simp
  omega
theorem wu8 {x : Int} (h1 : 0 ≤ x) (h2 : x ≤ 255) : IntKind.u8.wrap x = x := by
  simp only [IntKind.wrap, IntKind.signed, IntKind.bits]
  simp
  omega
theorem wu16 {x : Int} (h1 : 0 ≤ x) (h2 : x ≤ 65535) : IntKind.u16.wrap x = x := by
  simp only [IntKind.wrap, IntKind.signed, IntKind.bits]
  simp
  omega
theorem wu32 {x : Int} (h1 : 0 ≤ x) (h2 : x ≤ 4294967295) : IntKind.u32.wrap x = x := by
  simp only [IntKind.wrap, IntKind.signed, IntKind.bits]
  simp
  omega
theorem wu64 {x : Int} (h1 : 0 ≤ x) (h2 : x ≤ 18446744073709551615) : IntKind.u64.wrap x = x := by
  simp only [IntKind.wrap, IntKind.signed, IntKind.bits]
  simp
  omega
theorem add64 {a b : Int} (h1 : -9223372036854775808 ≤ a + b) (h2 : a + b ≤ 9223372036854775807) : add .i64 a b = a + b := w64 h1 h2
theorem sub64 {a b : Int} (h1 : -9223372036854775808 ≤ a - b) (h2 : a - b ≤ 9223372036854775807) : sub .i64 a b = a - b := w64 h1 h2
theorem mul64 {a b : Int} (h1 : -9223372036854775808 ≤ a * b) (h2 : a * b ≤ 9223372036854775807) : mul .i64 a b = a * b := w64 h1 h2
theorem neg64 {a : Int} (h1 : -9223372036854775808 ≤ -a) (h2 : -a ≤ 9223372036854775807) : neg .i64 a = -a := w64 h1 h2
theorem cvt64 {a : Int} (h1 : -9223372036854775808 ≤ a) (h2 : a ≤ 9223372036854775807) : cvt .i64 a = a := w64 h1 h2
theorem succ64 {n : Nat} (h : n < 4611686018427387904) : add .i64 (n : Int) 1 = ((n + 1 : Nat) : Int) := by rw [add64 (by omega) (by omega)]; rfl
theorem addn64 {n m : Nat} (h : n + m < 4611686018427387904) : add .i64 (n : Int) (m : Int) = ((n + m : Nat) : Int) := by rw [add64 (by omega) (by omega)]; rfl
theorem ofNat_eq (n : Nat) : Int.ofNat n = (n : Int) := rfl
theorem lt_iff {a b : Int} : lt a b = true ↔ a < b := by simp [lt]
theorem le_iff {a b : Int} : le a b = true ↔ a ≤ b := by simp [le]
theorem gt_iff {a b : Int} : gt a b = true ↔ b < a := by simp [gt]
theorem ge_iff {a b : Int} : ge a b = true ↔ b ≤ a := by simp [ge]
theorem eqi_iff {a b : Int} : eqi a b = true ↔ a = b := by simp [eqi]
theorem nei_iff {a b : Int} : nei a b = true ↔ a ≠ b := by simp [nei]
theorem eqs_iff {a b : List UInt8} : eqs a b = true ↔ a = b := by simp [eqs]
theorem nes_iff {a b : List UInt8} : nes a b = true ↔ a ≠ b := by simp [nes]
theorem small_iff {n : Nat} : small n = true ↔ n ≤ 1073741824 := by simp [small]
theorem lt_dec (a b : Int) : lt a b = decide (a < b) := rfl
theorem le_dec (a b : Int) : le a b = decide (a ≤ b) := rfl
theorem gt_dec (a b : Int) : gt a b = decide (b < a) := rfl
theorem ge_dec (a b : Int) : ge a b = decide (b ≤ a) := rfl
theorem need_t {b : Bool} {β : Type} {k : Option β} (h : b = true) : need b k = k := by unfold need; rw [if_pos h]
theorem need_small {n : Nat} {β : Type} {k : Option β} (h : n ≤ 1073741824) : need (small n) k = k := need_t (small_iff.2 h)
/-! ### rows -/
theorem at_get {α : Type} {s : List α} {i : Nat} {c : α} (h : s[i]? = some c) : at? s (i : Int) = some c := by
  unfold at?
  simp [h]
theorem at_zero {α : Type} (c : α) (q : List α) : at? (c :: q) 0 = some c := rfl
theorem at_drop {α : Type} {s : List α} {i : Nat} {c : α} {r : List α} (h : s.drop i = c :: r) : at? s (i : Int) = some c := by
  apply at_get
  have := congrArg (·[0]?) h
  simpa using this
theorem at_app {α : Type} (p : List α) (c : α) (q : List α) : at? (p ++ c :: q) (p.length : Int) = some c := at_get (by simp)
theorem at_none {α : Type} {s : List α} {i : Int} (h : i < 0 ∨ (s.length : Int) ≤ i) : at? s i = none := by
  unfold at?
  split
  · simp; omega
  · rfl
theorem drop_succ {α : Type} {s : List α} {i : Nat} {c : α} {r : List α} (h : s.drop i = c :: r) : s.drop (i + 1) = r ∧ i < s.length ∧ s.length - i = r.length + 1 := by
  have hl := congrArg List.length h
  simp at hl
  refine ⟨?_, by omega, by omega⟩
  rw [← List.drop_drop, h]
  rfl
theorem drop_nil {α : Type} {s : List α} {i : Nat} (h : s.drop i = []) : s.length ≤ i := by
  have := congrArg List.length h
  simp at this
  omega
theorem cut_nat {α : Type} {xs : List α} {i j : Nat} (h1 : i ≤ j) (h2 : j ≤ xs.length) : cut xs (i : Int) (j : Int) = some ((xs.take j).drop i) := by
  unfold cut
  rw [if_pos ⟨by omega, by omega, by omega⟩]
  simp
theorem cut_from {α : Type} {xs : List α} {i : Nat} (h : i ≤ xs.length) : cut xs (i : Int) (Int.ofNat xs.length) = some (xs.drop i) := by
  rw [ofNat_eq, cut_nat h (Nat.le_refl _)]
  simp
theorem cut_to {α : Type} {xs : List α} {j : Nat} (h : j ≤ xs.length) : cut xs 0 (j : Int) = some (xs.take j) := by
  have := cut_nat (xs := xs) (Nat.zero_le j) h
  simpa using this
theorem cut_one {α : Type} (c : α) (q : List α) : cut (c :: q) 1 (Int.ofNat (c :: q).length) = some q := by
  have := cut_from (xs := c :: q) (i := 1) (by simp)
  simpa using this
theorem cut_app0 {α : Type} (p q : List α) : cut (p ++ q) 0 (p.length : Int) = some p := by rw [cut_to (by simp)]; simp
theorem cut_app1 {α : Type} (p q : List α) : cut (p ++ q) (p.length : Int) (Int.ofNat (p ++ q).length) = some q := by rw [cut_from (by simp)]; simp
/-- a byte's place -/
theorem index_no (c : UInt8) : ∀ s : List UInt8, c ∉ s → Go.Lib.indexByte s c = -1
  | [], _ => rfl
  | b :: q, h => by
    have hb : (b == c) = false := by
      rw [beq_eq_false_iff_ne]
      exact fun e => h (by simp [e])
    have ih := index_no c q (fun hx => h (List.mem_cons_of_mem _ hx))
    unfold Go.Lib.indexByte
    rw [hb, ih]
    rfl
theorem index_yes (c : UInt8) : ∀ (p q : List UInt8), c ∉ p → Go.Lib.indexByte (p ++ c :: q) c = (p.length : Int)
  | [], q, _ => by unfold Go.Lib.indexByte; simp
  | b :: p, q, h => by
    have hb : (b == c) = false := by
      rw [beq_eq_false_iff_ne]
      exact fun e => h (by simp [e])
    have ih := index_yes c p q (fun hx => h (List.mem_cons_of_mem _ hx))
    show Go.Lib.indexByte (b :: (p ++ c :: q)) c = _
    unfold Go.Lib.indexByte
    rw [hb, ih]
    have : ((p.length : Int) == -1) = false := by simp
    rw [this]
    simp
/-- a text up to a byte, and behind it -/
theorem split_at (c : UInt8) (s : List UInt8) : (c ∉ s) ∨ ∃ p q, s = p ++ c :: q ∧ c ∉ p := by
  induction s with
  | nil => exact .inl (by simp)
  | cons b r ih =>
    by_cases hb : b = c
    · exact .inr ⟨[], r, by simp [hb], by simp⟩
    · rcases ih with h | ⟨p, q, h1, h2⟩
      · exact .inl (by simp; exact ⟨fun e => hb e.symm, h⟩)
      · exact .inr ⟨b :: p, q, by simp [h1], by simp; exact ⟨fun e => hb e.symm, h2⟩⟩
/-! ### bytes -/
theorem all8 {p : Nat → Bool} (h : (List.range 256).all p = true) (c : UInt8) : p c.toNat = true := List.all_eq_true.1 h _ (List.mem_range.2 c.toNat_lt)
theorem eqV_refl : ∀ (t : Ty) (x : Vl t), eqV t x x = true := by
  have hl : ∀ {α : Type} {f : α → α → Bool}, (∀ a, f a a = true) → ∀ x : List α, eqL f x x = true := fun h x => by
    induction x with
    | nil => rfl
    | cons a q ih => simp [eqL, h, ih]
  intro t
  induction t with
  | int k => intro x; simp [eqV, eqi]
  | bool => intro x; simp [eqV, eqb]
  | str => intro x; simp [eqV, eqs]
  | sl t ih => intro x; exact hl ih x
  | pr a b iha ihb => intro x; simp [eqV, iha, ihb]
  | wr a ih => intro x; exact ih x
  | un => intro x; rfl
  | ar n t ih => intro x; exact hl ih x
theorem eqAs_refl : ∀ (rs : List Ty) (x : As rs), eqAs rs x x = true
  | [], _ => rfl
  | t :: r, x => by simp [eqAs, eqV_refl, eqAs_refl r]
theorem amb2 {R : Type} {eq : R → R → Bool} (h : ∀ x, eq x x = true) (a : Option R) : amb eq [a, a] = a := by
  cases a <;> simp [amb, ambC, h]
theorem amb3 {R : Type} {eq : R → R → Bool} (h : ∀ x, eq x x = true) (a : Option R) : amb eq [a, a, a] = a := by
  cases a <;> simp [amb, ambC, h]
end Pl

end

section
/- Plain facts of lex: bytes, words, lines of words. -/
namespace Go.Proofs.Lx
open Go Ev Sx Pl
set_option maxRecDepth 10000
theorem awake13 : law13_awake () = some (true, ()) := by kernel_rfl
def isL (n : Nat) : Bool := (decide (97 ≤ n) && decide (n ≤ 122)) || (decide (65 ≤ n) && decide (n ≤ 90))
def isD (n : Nat) : Bool := decide (48 ≤ n) && decide (n ≤ 57)
def isB (n : Nat) : Bool := n == 9 || n == 13 || n == 32
def w1 (n : Nat) : Bool := isL n || n == 37
def n1 (n : Nat) : Bool := isD n || n == 45
def e1 (n : Nat) : Bool := n == 61
def wm (n : Nat) : Bool := isL n || isD n || n == 95 || n == 37
def nm (n : Nat) : Bool := isD n || n == 46 || n == 45
theorem tab {f : Int × Unit → Option (Bool × Unit)} {g : Nat → Bool} (h : ((List.range 256).all fun n => match f (Int.ofNat n, ()) with
    | some y => y.1 == g n
    | none => false) = true) (c : UInt8) : f (Int.ofNat c.toNat, ()) = some (g c.toNat, ()) := by
  have := all8 h c
  split at this
  · rename_i y hy
    rw [hy]
    have : y.1 = g c.toNat := by simpa using this
    rw [← this]
  · cases this
theorem lex_classes_z1_eq (c : UInt8) : lex_classes_z1 (Int.ofNat c.toNat, ()) = some (w1 c.toNat, ()) := tab (f := lex_classes_z1) (g := w1) (by kernel_rfl) c
theorem lex_classes_z3_eq (c : UInt8) : lex_classes_z3 (Int.ofNat c.toNat, ()) = some (n1 c.toNat, ()) := tab (f := lex_classes_z3) (g := n1) (by kernel_rfl) c
theorem lex_classes_z5_eq (c : UInt8) : lex_classes_z5 (Int.ofNat c.toNat, ()) = some (e1 c.toNat, ()) := tab (f := lex_classes_z5) (g := e1) (by kernel_rfl) c
theorem lex_classes_z2_eq (c : UInt8) : lex_classes_z2 (Int.ofNat c.toNat, ()) = some (wm c.toNat, ()) := tab (f := lex_classes_z2) (g := wm) (by kernel_rfl) c
theorem lex_classes_z4_eq (c : UInt8) : lex_classes_z4 (Int.ofNat c.toNat, ()) = some (nm c.toNat, ()) := tab (f := lex_classes_z4) (g := nm) (by kernel_rfl) c
theorem excl (c : UInt8) : (w1 c.toNat = true → n1 c.toNat = false ∧ e1 c.toNat = false ∧ isB c.toNat = false ∧ c.toNat ≠ 35 ∧ c.toNat ≠ 10) := by
  have := all8 (p := fun n => !(w1 n) || (!(n1 n) && !(e1 n) && !(isB n) && n != 35 && n != 10)) (by kernel_rfl) c
  intro h
  simp [h] at this
  exact ⟨this.1.1.1.1, this.1.1.1.2, this.1.1.2, this.1.2, this.2⟩
theorem wm_not (c : UInt8) (h : wm c.toNat = true) : c.toNat ≠ 35 ∧ c.toNat ≠ 10 := by
  have := all8 (p := fun n => !(wm n) || (n != 35 && n != 10)) (by kernel_rfl) c
  simp [h] at this
  exact this
theorem w1_wm (c : UInt8) (h : w1 c.toNat = true) : wm c.toNat = true := by
  have := all8 (p := fun n => !(w1 n) || wm n) (by kernel_rfl) c
  simpa [h] using this
def asc : List Bool := (List.range 256).map isB
theorem strings_makeASCIISet_eq : strings_makeASCIISet ([9, 13, 32], ()) = some (asc, true, ()) := by kernel_rfl
theorem asc_at (c : UInt8) : at? asc (Int.ofNat c.toNat) = some (isB c.toNat) := by
  have := all8 (p := fun n => asc[n]? == some (isB n)) (by kernel_rfl) c
  unfold at?
  rw [if_pos (by simp)]
  simpa using this
theorem strings_trimLeftASCII_loop : ∀ (s : List UInt8) (n : Nat), s.length < n → loopF (fun (self : (List UInt8) × (List Bool) → Option (As [.str, .sl .bool])) (s : (List UInt8) × (List Bool)) => strings_trimLeftASCII_m1 (fun s as' => self (s, as')) s.1 s.2) n (s, asc) = some (s.dropWhile (fun c => isB c.toNat), asc, ())
  | s, 0, h => by omega
  | [], n + 1, h => rfl
  | c :: q, n + 1, h => by
    have ih := strings_trimLeftASCII_loop q n (by simp at h; omega)
    have h1 : gt (Int.ofNat (c :: q).length) 0 = true := by simp [gt]; try omega
    have h2 : lt (Int.ofNat c.toNat) 256 = true := by have := c.toNat_lt; simp [lt]; omega
    rw [loopF]
    unfold strings_trimLeftASCII_m1
    simp only [h1, if_true, at_zero, Option.bind_some, need, h2, asc_at, cut_one, List.dropWhile_cons]
    cases hb : isB c.toNat
    · rfl
    · simp only [Bool.not_true, Bool.false_eq_true, if_false, if_true]
      exact ih
theorem strings_TrimLeft_step (s : List UInt8) : strings_TrimLeft (s, [9, 13, 32], ()) = if eqs s [] = true then some (s, ()) else (strings_makeASCIISet ([9, 13, 32], ())).bind fun y => need (eqi 256 (Int.ofNat y.1.length)) (need (eqi 256 (Int.ofNat (y.1.length * 1))) (if y.2.1 = true then (strings_trimLeftASCII (s, y.1, ())).bind fun y => some (y.1, ()) else (strings_trimLeftUnicode (s, [9, 13, 32], ())).bind fun y => some (y.1, ()))) := rfl
theorem strings_TrimLeft_eq {s : List UInt8} (h : s.length < 1000000) : strings_TrimLeft (s, [9, 13, 32], ()) = some (s.dropWhile (fun c => isB c.toNat), ()) := by
  have h63 : strings_trimLeftASCII (s, asc, ()) = some (s.dropWhile (fun c => isB c.toNat), asc, ()) := strings_trimLeftASCII_loop s _ (by omega)
  rw [strings_TrimLeft_step]
  by_cases hs : s = []
  · subst hs; rfl
  · have e1 : eqs s [] = false := by simp [eqs, hs]
    have e5 : eqi 256 (Int.ofNat asc.length) = true := by kernel_rfl
    have e6 : eqi 256 (Int.ofNat (asc.length * 1)) = true := by kernel_rfl
    rw [e1, strings_makeASCIISet_eq, Option.bind_some]
    simp only [Bool.false_eq_true, if_false, need, e5, e6, if_true]
    rw [h63]
    rfl
/-! ### the rest of a word -/
theorem lex_line_z1_step (g : Int → List UInt8 → Option (As [.str, .str])) (n : Int) (t : List UInt8) : lex_line_z1_w_m1 (lex_line_z1_w_K2 g) g n t = if lt n (Int.ofNat t.length) = true then (at? t n).bind fun c => (lex_classes_z2 (Int.ofNat c.toNat, ())).bind fun y => if y.1 = true then g (add .i64 n 1) t else lex_line_z1_w_m3 n t else lex_line_z1_w_m3 n t := rfl
theorem m3_app (p q : List UInt8) : lex_line_z1_w_m3 (p.length : Int) (p ++ q) = some (p, q, ()) := by
  unfold lex_line_z1_w_m3
  rw [cut_app0, Option.bind_some, cut_app1, Option.bind_some]
theorem lex_line_z1_loop : ∀ (q p : List UInt8) (n : Nat), q.length < n → p.length + q.length < 1000000 →
    loopF (fun (self : Int × List UInt8 → Option (As [.str, .str])) (s : Int × List UInt8) => lex_line_z1_w_m1 (lex_line_z1_w_K2 (fun n t1 => self (n, t1))) (fun n t1 => self (n, t1)) s.1 s.2) n ((p.length : Int), p ++ q) =
      some (p ++ q.takeWhile (fun c => wm c.toNat), q.dropWhile (fun c => wm c.toNat), ())
  | q, p, 0, h, _ => by omega
  | [], p, n + 1, h, hl => by
    have h1 : lt (p.length : Int) (Int.ofNat (p ++ []).length) = false := by simp [lt]
    refine (lex_line_z1_step _ _ _).trans ?_
    rw [if_neg (by rw [h1]; decide), m3_app]
    simp
  | c :: q, p, n + 1, h, hl => by
    have h1 : lt (p.length : Int) (Int.ofNat (p ++ c :: q).length) = true := by simp [lt]; omega
    have ih := lex_line_z1_loop q (p ++ [c]) n (by simp at h; omega) (by simp at hl ⊢; omega)
    refine (lex_line_z1_step _ _ _).trans ?_
    rw [if_pos h1, at_app, Option.bind_some, lex_classes_z2_eq, Option.bind_some]
    cases hb : wm c.toNat
    · simp only [Bool.false_eq_true, if_false, m3_app, List.takeWhile_cons, List.dropWhile_cons, hb, List.append_nil]
    · have ha : add .i64 (p.length : Int) 1 = ((p ++ [c]).length : Int) := by
        unfold add
        rw [w64 (by omega) (by simp at hl; omega)]
        simp
      have e : p ++ c :: q = (p ++ [c]) ++ q := by simp
      simp only [if_true, ha, List.takeWhile_cons, List.dropWhile_cons, hb]
      rw [e, ih]
      simp
theorem lex_line_z1_eq (c : UInt8) (q : List UInt8) (h : q.length < 100000) : lex_line_z1_w (c :: q, ()) = some (c :: q.takeWhile (fun c => wm c.toNat), q.dropWhile (fun c => wm c.toNat), ()) :=
  lex_line_z1_loop q [c] 18446744073709551616 (by omega) (by simp; omega)
end Go.Proofs.Lx

end

section
/- Lines of words. -/
namespace Go.Proofs.Lx
open Go Ev Sx Pl
set_option maxRecDepth 10000
abbrev TL := List (Int × List UInt8 × (Int × Int) × Int)
abbrev RL := As [.sl (.pr (.int .u8) (.pr .str (.pr (.pr (.int .i64) (.int .u8)) (.int .i64)))), .int .i64]
/-- the loop of line -/
abbrev lineB (self : Int × List UInt8 × TL → Option RL) (s : Int × List UInt8 × TL) : Option RL :=
  lex_line_m1 (lex_line_K2) (lex_line_K3 (fun at' text l => self (at', text, l))) (fun at' text l => self (at', text, l)) s.1 s.2.1 s.2.2
theorem amb_word (J : Int → Int → List UInt8 → TL → Option RL) (j2 : Int → TL → Option RL) (j3 : Int → List UInt8 → TL → Int → List UInt8 → Int → Int → Int → Option RL) (self1 : Int → List UInt8 → TL → Option RL) (a : Int) (t : List UInt8) (c : UInt8) (q : List UInt8) (l : TL)
    (ht : strings_TrimLeft (t, [9, 13, 32], ()) = some (c :: q, ())) (hc : w1 c.toNat = true) : lex_line_m1 j2 j3 self1 a t l = j3 a (c :: q) l 1 [] 0 0 a := by
  obtain ⟨h2, h3, _⟩ := excl c hc
  have e1 : lex_classes_z1 (Int.ofNat c.toNat, ()) = some (true, ()) := by rw [lex_classes_z1_eq, hc]
  have e2 : lex_classes_z3 (Int.ofNat c.toNat, ()) = some (false, ()) := by rw [lex_classes_z3_eq, h2]
  have e3 : lex_classes_z5 (Int.ofNat c.toNat, ()) = some (false, ()) := by rw [lex_classes_z5_eq, h3]
  have e4 : eqs (c :: q) [] = false := rfl
  have hr : ∀ x, eqAs lex_line_s.rs x x = true := eqAs_refl _
  unfold lex_line_m1
  rw [ht, Option.bind_some]
  simp only [e4, Bool.false_eq_true, if_false, at_zero, Option.bind_some]
  rw [e1, e2, e3]
  simp only [Option.bind_some, Bool.false_eq_true, if_false, if_true]
  rw [amb2 hr]
  exact amb3 hr _
theorem K3_word (u1 : Int → List UInt8 → TL → Option RL) (a : Int) (c : UInt8) (q : List UInt8) (l : TL) (hq : q.length < 100000) :
    lex_line_K3 u1 a (c :: q) l 1 [] 0 0 a = if 20 < (c :: q.takeWhile (fun c => wm c.toNat)).length then some ([], 133, ()) else need (small (l.length + 1)) (u1 a (q.dropWhile (fun c => wm c.toNat)) (l ++ [(1, c :: q.takeWhile (fun c => wm c.toNat), (0, 0), a)])) := by
  unfold lex_line_K3 lex_line_m3
  have h1 : eqi 1 1 = true := rfl
  rw [if_pos h1, lex_line_z1_eq c q hq, Option.bind_some]
  generalize c :: q.takeWhile (fun c => wm c.toNat) = u
  unfold lex_word lex_word_m0
  by_cases h : 20 < u.length
  · have h2 : gt (Int.ofNat u.length) 20 = true := by simp [gt]; omega
    simp only [h2, if_true, Option.bind_some, if_pos h]
    rfl
  · have h2 : gt (Int.ofNat u.length) 20 = false := by simp [gt]; omega
    simp only [h2, Bool.false_eq_true, if_false, Option.bind_some, if_neg h]
    rfl
theorem line_word (self : Int × List UInt8 × TL → Option RL) (a : Int) (t : List UInt8) (c : UInt8) (q : List UInt8) (l : TL) (ht : strings_TrimLeft (t, [9, 13, 32], ()) = some (c :: q, ())) (hc : w1 c.toNat = true) (hq : q.length < 100000) :
    lineB self (a, t, l) = if 20 < (c :: q.takeWhile (fun c => wm c.toNat)).length then some ([], 133, ()) else need (small (l.length + 1)) (self (a, q.dropWhile (fun c => wm c.toNat), l ++ [(1, c :: q.takeWhile (fun c => wm c.toNat), (0, 0), a)])) := by
  refine (amb_word (fun _ _ _ _ => none) _ _ _ a t c q l ht hc).trans ?_
  exact K3_word _ a c q l hq
theorem line_end (self : Int × List UInt8 × TL → Option RL) (a : Int) (l : TL) (h : 0 < l.length) (h2 : l.length < 1000) : lineB self (a, [], l) = some (l ++ [(4, [], (0, 0), a)], 0, ()) := by
  have h19 : strings_TrimLeft ([], [9, 13, 32], ()) = some ([], ()) := rfl
  show lex_line_m1 _ _ _ a [] l = _
  unfold lex_line_m1
  rw [h19, Option.bind_some]
  have e : eqs ([] : List UInt8) [] = true := rfl
  rw [if_pos e]
  unfold lex_line_K2 lex_line_m2
  have h3 : gt (Int.ofNat l.length) 0 = true := by simp [gt]; omega
  have h4 : small (l.length + 1) = true := decide_eq_true (by omega)
  simp only [h3, if_true, h4, need]
  rfl
theorem index_nb (c : UInt8) : ∀ s : List UInt8, (∀ b ∈ s, b ≠ c) → Go.Lib.indexByte s c = -1
  | [], _ => rfl
  | b :: q, h => by
    have hb : (b == c) = false := by simpa using h b (List.mem_cons_self ..)
    have ih := index_nb c q (fun x hx => h x (List.mem_cons_of_mem _ hx))
    unfold Go.Lib.indexByte
    rw [hb, ih]
    rfl
theorem line_in (t : List UInt8) (n : Int) (h : ∀ b ∈ t, b ≠ 35) : lex_line (t, n, ()) = loopF lineB 18446744073709551616 (n, t, []) := by
  show lex_line_m0 lex_line_K1 t n = _
  unfold lex_line_m0
  have e1 : eqs [35] t = false := by
    cases t with
    | nil => rfl
    | cons a q =>
      have := h a (List.mem_cons_self ..)
      simp [eqs]
      intro e
      exact absurd e.symm this
  have e2 : ge (Go.Lib.indexByte t 35) 0 = false := by rw [index_nb 35 t h]; rfl
  simp only [e1, e2, Bool.false_eq_true, if_false]
  rfl
/-- a word -/
structure Word (w : List UInt8) : Prop where
  all : ∀ b ∈ w, wm b.toNat = true
  first : ∃ c q, w = c :: q ∧ w1 c.toNat = true
  len : w.length < 1000
theorem tw_all {p : UInt8 → Bool} : ∀ {q r : List UInt8}, (∀ b ∈ q, p b = true) → (q ++ r).takeWhile p = q ++ r.takeWhile p ∧ (q ++ r).dropWhile p = r.dropWhile p
  | [], r, h => ⟨rfl, rfl⟩
  | a :: q, r, h => by
    obtain ⟨h1, h2⟩ := tw_all (q := q) (r := r) (fun x hx => h x (List.mem_cons_of_mem _ hx))
    have := h a (List.mem_cons_self ..)
    simp [this, h1, h2]
theorem Word.strings_TrimLeft {w r : List UInt8} (h : Word w) (hr : r.length < 2000) : ∃ c q, w = c :: q ∧ w1 c.toNat = true ∧ Lx.strings_TrimLeft (w ++ r, [9, 13, 32], ()) = some (c :: (q ++ r), ()) ∧ (∀ b ∈ q, wm b.toNat = true) := by
  obtain ⟨c, q, rfl, hc⟩ := h.first
  obtain ⟨_, _, hb, _⟩ := excl c hc
  refine ⟨c, q, rfl, hc, ?_, fun b hb => h.all b (List.mem_cons_of_mem _ hb)⟩
  rw [strings_TrimLeft_eq (by have := h.len; simp at this ⊢; omega)]
  simp [hb]
theorem Word.no {w : List UInt8} (h : Word w) : (∀ b ∈ w, b ≠ 35) ∧ (∀ b ∈ w, b ≠ 10) := by
  constructor
  · intro b hb e
    subst e
    exact absurd (h.all _ hb) (by decide)
  · intro b hb e
    subst e
    exact absurd (h.all _ hb) (by decide)
theorem word_step {w r : List UInt8} (h : Word w) (hr : r.length < 2000) (hb : ∀ c q, r = c :: q → wm c.toNat = false) (self : Int × List UInt8 × TL → Option RL) (a : Int) (l : TL) (hl : l.length < 1000) (pre : List UInt8) (hp : ∀ b ∈ pre, isB b.toNat = true) (hpl : pre.length < 10) :
    lineB self (a, pre ++ (w ++ r), l) = if 20 < w.length then some ([], 133, ()) else self (a, r, l ++ [(1, w, (0, 0), a)]) := by
  obtain ⟨c, q, rfl, hc, h19, hq⟩ := h.strings_TrimLeft hr
  have h19' : Lx.strings_TrimLeft (pre ++ (c :: q ++ r), [9, 13, 32], ()) = some (c :: (q ++ r), ()) := by
    have hlen := h.len
    rw [strings_TrimLeft_eq (by simp at hlen ⊢; omega)] at h19 ⊢
    rw [(tw_all hp).2]
    exact h19
  have hlen := h.len
  rw [line_word self a _ c (q ++ r) l h19' hc (by simp at hlen ⊢; omega)]
  obtain ⟨t1, t2⟩ := tw_all (p := fun c => wm c.toNat) (q := q) (r := r) hq
  have t3 : r.takeWhile (fun c => wm c.toNat) = [] ∧ r.dropWhile (fun c => wm c.toNat) = r := by
    cases r with
    | nil => exact ⟨rfl, rfl⟩
    | cons x y => simp [hb x y rfl]
  rw [t1, t2, t3.1, t3.2, List.append_nil]
  have h4 : small (l.length + 1) = true := decide_eq_true (by omega)
  simp only [need, h4, if_true]
theorem line1 {w : List UInt8} (h : Word w) (n : Int) : lex_line (w, n, ()) = if 20 < w.length then some ([], 133, ()) else some ([(1, w, (0, 0), n), (4, [], (0, 0), n)], 0, ()) := by
  rw [line_in w n h.no.1]
  have e := word_step (r := []) h (by simp) (fun c q e => by cases e) (loopF lineB 18446744073709551615) n [] (by simp) [] (fun b hb => by cases hb) (by simp)
  rw [List.append_nil, List.nil_append] at e
  refine e.trans ?_
  split
  · rfl
  · exact line_end (loopF lineB 18446744073709551614) n [(1, w, (0, 0), n)] (by simp) (by simp)
theorem line2 {u w : List UInt8} (hu : Word u) (hw : Word w) (h1 : u.length ≤ 20) (h2 : w.length ≤ 20) (n : Int) : lex_line (u ++ 32 :: w, n, ()) = some ([(1, u, (0, 0), n), (1, w, (0, 0), n), (4, [], (0, 0), n)], 0, ()) := by
  rw [line_in _ n (fun b hb => by
    rcases List.mem_append.1 hb with hb | hb
    · exact hu.no.1 b hb
    · rcases List.mem_cons.1 hb with hb | hb
      · subst hb; decide
      · exact hw.no.1 b hb)]
  have e := word_step (r := 32 :: w) hu (by simp; omega) (fun c q e => by cases e; rfl) (loopF lineB 18446744073709551615) n [] (by simp) [] (fun b hb => by cases hb) (by simp)
  rw [List.nil_append] at e
  refine e.trans ?_
  rw [if_neg (by omega)]
  have e2 := word_step (r := []) hw (by simp) (fun c q e => by cases e) (loopF lineB 18446744073709551614) n [(1, u, (0, 0), n)] (by simp) [32] (fun b hb => by simp at hb; subst hb; rfl) (by simp)
  rw [List.append_nil] at e2
  refine e2.trans ?_
  rw [if_neg (by omega)]
  exact line_end (loopF lineB 18446744073709551613) n [(1, u, (0, 0), n), (1, w, (0, 0), n)] (by simp) (by simp)
end Go.Proofs.Lx

end

section
/- Decimals: the program's reader and the document's are one. -/
namespace Go.Proofs.Lx
open Go Ev Sx Pl
set_option maxRecDepth 10000
/-! ### digits -/
def dg (c : UInt8) : Bool := isD c.toNat
def digs (s : List UInt8) : Bool := s.all dg && s != []
def dvn (n : Int) (q : List UInt8) : Int := q.foldl (fun n c => 10 * n + ((c.toNat : Int) - 48)) n
theorem dvn_nil (n : Int) : dvn n [] = n := rfl
theorem dvn_cons (n : Int) (c : UInt8) (q : List UInt8) : dvn n (c :: q) = dvn (10 * n + ((c.toNat : Int) - 48)) q := rfl
theorem dvn_app (n : Int) (p q : List UInt8) : dvn n (p ++ q) = dvn (dvn n p) q := List.foldl_append ..
theorem dg_iff {c : UInt8} : dg c = true ↔ 48 ≤ c.toNat ∧ c.toNat ≤ 57 := by simp [dg, isD]
theorem dvn_ge : ∀ {q : List UInt8} {n : Int}, (∀ c ∈ q, dg c = true) → 0 ≤ n → n ≤ dvn n q
  | [], n, _, _ => Int.le_refl _
  | c :: q, n, h, hn => by
    have hc := dg_iff.1 (h c (List.mem_cons_self ..))
    have := dvn_ge (q := q) (n := 10 * n + ((c.toNat : Int) - 48)) (fun x hx => h x (List.mem_cons_of_mem _ hx)) (by omega)
    rw [dvn_cons]
    omega
theorem allDigits_eq {s : List UInt8} (h : s.length < 1000000) : units_allDigits (s, ()) = some (digs s, ()) := by
  have key : ∀ (n : Nat) (st : List UInt8 × Int × Int), (∃ i : Nat, st = (s, Int.ofNat s.length, (i : Int)) ∧ i ≤ s.length) → (s.length - st.2.2.toNat < n) →
      loopF (fun (self : (List UInt8) × Int × Int → Option (As [.bool])) (s : (List UInt8) × Int × Int) => units_allDigits_m1 (units_allDigits_K2 (fun a b c => self (a, b, c))) units_allDigits_K3 (fun a b c => self (a, b, c)) s.1 s.2.1 s.2.2) n st = some ((s.drop st.2.2.toNat).all dg && s != [], ()) := by
    refine loopF_eq (σ := List UInt8 × Int × Int) (μ := fun st => s.length - st.2.2.toNat) (G := fun st => some ((s.drop st.2.2.toNat).all dg && s != [], ())) ?_
    rintro self st ⟨i, rfl, hi⟩ ih
    simp only [Int.toNat_natCast] at ih ⊢
    unfold units_allDigits_m1
    cases hd : s.drop i with
    | nil =>
      have := drop_nil hd
      rw [if_neg (by rw [lt_iff, ofNat_eq]; omega)]
      unfold units_allDigits_K3 units_allDigits_m3
      rfl
    | cons c r =>
      obtain ⟨h1, h2, h3⟩ := drop_succ hd
      rw [if_pos (by rw [lt_iff, ofNat_eq]; omega), at_drop hd]
      simp only [Option.bind_some]
      have hgo : dg c = true → units_allDigits_K2 (fun a b c => self (a, b, c)) s (Int.ofNat s.length) (i : Int) false = some ((c :: r).all dg && s != [], ()) := fun hc => by
        unfold units_allDigits_K2 units_allDigits_m2
        rw [if_neg (by decide), succ64 (by omega)]
        have := ih (s, Int.ofNat s.length, ((i + 1 : Nat) : Int)) ⟨i + 1, rfl, by omega⟩ (by simp; omega)
        refine this.trans ?_
        simp [h1, hc]
      have hno : dg c = false → units_allDigits_K2 (fun a b c => self (a, b, c)) s (Int.ofNat s.length) (i : Int) true = some ((c :: r).all dg && s != [], ()) := fun hc => by
        unfold units_allDigits_K2 units_allDigits_m2
        rw [if_pos rfl]
        simp [hc]
      by_cases hc : dg c = true
      · have := dg_iff.1 hc
        rw [if_neg (by rw [lt_iff, ofNat_eq]; omega)]
        have e : gt (Int.ofNat c.toNat) 57 = false := by simp [gt]; omega
        rw [e]
        exact hgo hc
      · have hc' : dg c = false := by simpa using hc
        have h4 : ¬ (48 ≤ c.toNat ∧ c.toNat ≤ 57) := fun h => hc (dg_iff.2 h)
        by_cases h5 : c.toNat < 48
        · rw [if_pos (by rw [lt_iff, ofNat_eq]; omega)]
          exact hno hc'
        · rw [if_neg (by rw [lt_iff, ofNat_eq]; omega)]
          have e : gt (Int.ofNat c.toNat) 57 = true := by simp [gt]; omega
          rw [e]
          exact hno hc'
  have := key 18446744073709551616 (s, Int.ofNat s.length, 0) ⟨0, rfl, by omega⟩ (by simp; omega)
  refine this.trans ?_
  simp [digs]
/-- without the noughts at the end -/
def stripz : List UInt8 → List UInt8
  | [] => []
  | c :: q => match stripz q with
    | [] => if c = 48 then [] else [c]
    | r => c :: r
theorem stripz_snoc0 (q : List UInt8) : stripz (q ++ [48]) = stripz q := by
  induction q with
  | nil => rfl
  | cons c q ih => show (match stripz (q ++ [48]) with | [] => _ | r => _) = _; rw [ih]; rfl
theorem stripz_snoc {c : UInt8} (q : List UInt8) (h : c ≠ 48) : stripz (q ++ [c]) = q ++ [c] := by
  induction q with
  | nil => show (if c = 48 then [] else [c]) = _; rw [if_neg h]; rfl
  | cons a q ih =>
    show (match stripz (q ++ [c]) with | [] => _ | r => _) = _
    rw [ih]
    cases q <;> rfl
theorem snoc_cases {α : Type} (q : List α) : q = [] ∨ ∃ p c, q = p ++ [c] := by
  rcases List.eq_nil_or_concat q with h | ⟨p, c, h⟩
  · exact .inl h
  · exact .inr ⟨p, c, by simpa using h⟩
theorem trimRight_eq {s : List UInt8} (h : s.length < 1000000) : strings_trimRightByte (s, 48, ()) = some (stripz s, ()) := by
  have key : ∀ (n : Nat) (st : List UInt8 × Int), (st.2 = 48 ∧ st.1.length < 1000000) → st.1.length < n →
      loopF (fun (self : (List UInt8) × Int → Option (As [.str])) (s : (List UInt8) × Int) => strings_trimRightByte_m1 (strings_trimRightByte_K2 (fun a b => self (a, b))) (fun a b => self (a, b)) s.1 s.2) n st = some (stripz st.1, ()) := by
    refine loopF_eq (σ := List UInt8 × Int) (μ := fun st => st.1.length) (G := fun st => some (stripz st.1, ())) ?_
    rintro self ⟨s, c⟩ ⟨rfl, hl⟩ ih
    unfold strings_trimRightByte_m1
    rcases snoc_cases s with rfl | ⟨p, c, rfl⟩
    · rfl
    · simp at hl
      have hn : Int.ofNat (p ++ [c]).length = ((p.length + 1 : Nat) : Int) := by simp
      rw [if_pos (by rw [gt_iff, hn]; omega)]
      have h1 : sub .i64 (Int.ofNat (p ++ [c]).length) 1 = (p.length : Int) := by rw [hn, sub64 (by omega) (by omega)]; omega
      simp only [h1, at_app, Option.bind_some]
      unfold strings_trimRightByte_K2 strings_trimRightByte_m2
      by_cases hc : c = 48
      · subst hc
        rw [if_pos (show eqi (Int.ofNat (UInt8.toNat 48)) 48 = true from rfl), h1, cut_app0]
        have := ih (p, 48) ⟨rfl, by show p.length < _; omega⟩ (by simp)
        refine Eq.trans this ?_
        simp [stripz_snoc0]
      · have : eqi (Int.ofNat c.toNat) 48 = false := by
          simp [eqi]
          intro e
          apply hc
          apply UInt8.toNat_inj.1
          have : (48 : UInt8).toNat = 48 := rfl
          omega
        rw [this, if_neg (by decide)]
        simp [stripz_snoc p hc]
  exact key 18446744073709551616 (s, 48) ⟨rfl, h⟩ (by show s.length < _; omega)
/-! ### the program's reader -/
abbrev PR := (Int × Int) × Bool
def parsePieces (neg : Bool) (w r : List UInt8) (pt : Bool) : PR :=
  if digs w = false ∨ (1 < w.length ∧ w[0]? = some 48) then ((0, 0), false)
  else if pt = true ∧ (digs r = false ∨ 6 < r.length) then ((0, 0), false)
  else if 1000000000000 < dvn (dvn 0 w) (stripz r) then ((0, 0), false)
  else ((if neg then -(dvn (dvn 0 w) (stripz r)) else dvn (dvn 0 w) (stripz r), ((stripz r).length : Int)), true)
theorem byte_val {c : UInt8} (h : dg c = true) : cvt .i64 (sub .u8 (Int.ofNat c.toNat) 48) = (c.toNat : Int) - 48 := by
  have := dg_iff.1 h
  have e : sub .u8 (Int.ofNat c.toNat) 48 = (c.toNat : Int) - 48 := by unfold sub; rw [ofNat_eq, wu8 (by omega) (by omega)]
  rw [e, cvt64 (by omega) (by omega)]
abbrev P4 := Bool × List UInt8 × Int × List UInt8 × List UInt8 × List UInt8 × Int × Int × Int × Int × Int
theorem parse_K4 (u3 : Bool → List UInt8 → Int → List UInt8 → List UInt8 → Int → Int → Int → Option (As [.pr (.int .i64) (.int .u8), .bool])) (neg : Bool) (rest part a b : List UInt8) (n t : Int) (hd : ∀ c ∈ part, dg c = true) (hl : part.length < 1000000) (hn0 : 0 ≤ n) (hn1 : n ≤ 1000000000000) :
    units_Parse_K4 u3 neg rest n part a b t (Int.ofNat part.length) 0 0 0 = if 1000000000000 < dvn n part then some ((0, 0), false, ()) else u3 neg rest (dvn n part) a b (add .i64 t 1) 0 0 := by
  have key : ∀ (n : Nat) (st : P4), (∃ (i : Nat) (m : Int), st = (neg, rest, m, part, a, b, t, Int.ofNat part.length, (i : Int), 0, 0) ∧ i ≤ part.length ∧ 0 ≤ m ∧ m ≤ 1000000000000) → part.length - st.2.2.2.2.2.2.2.2.1.toNat < n →
      loopF (fun (self : P4 → Option (As [.pr (.int .i64) (.int .u8), .bool])) (s : P4) => units_Parse_m4 u3 (fun negative rest n part t54 t54_2 t55 t59 t60 t2 t2_2 => self (negative, rest, n, part, t54, t54_2, t55, t59, t60, t2, t2_2)) s.1 s.2.1 s.2.2.1 s.2.2.2.1 s.2.2.2.2.1 s.2.2.2.2.2.1 s.2.2.2.2.2.2.1 s.2.2.2.2.2.2.2.1 s.2.2.2.2.2.2.2.2.1 s.2.2.2.2.2.2.2.2.2.1 s.2.2.2.2.2.2.2.2.2.2) n st =
        if 1000000000000 < dvn st.2.2.1 (part.drop st.2.2.2.2.2.2.2.2.1.toNat) then some ((0, 0), false, ()) else u3 neg rest (dvn st.2.2.1 (part.drop st.2.2.2.2.2.2.2.2.1.toNat)) a b (add .i64 t 1) 0 0 := by
    refine loopF_eq (σ := P4) (μ := fun st => part.length - st.2.2.2.2.2.2.2.2.1.toNat) (G := fun st => if 1000000000000 < dvn st.2.2.1 (part.drop st.2.2.2.2.2.2.2.2.1.toNat) then some ((0, 0), false, ()) else u3 neg rest (dvn st.2.2.1 (part.drop st.2.2.2.2.2.2.2.2.1.toNat)) a b (add .i64 t 1) 0 0) ?_
    rintro self st ⟨i, m, rfl, hi, hm0, hm1⟩ ih
    simp only [Int.toNat_natCast] at ih ⊢
    unfold units_Parse_m4
    cases hdr : part.drop i with
    | nil =>
      have := drop_nil hdr
      rw [if_neg (by rw [lt_iff, ofNat_eq]; omega), dvn_nil, if_neg (by omega)]
    | cons c r =>
      obtain ⟨h1, h2, h3⟩ := drop_succ hdr
      have hc : dg c = true := hd c (List.mem_of_mem_drop (by rw [hdr]; exact List.mem_cons_self ..))
      have hcv := dg_iff.1 hc
      rw [if_pos (by rw [lt_iff, ofNat_eq]; omega), at_drop hdr, Option.bind_some, byte_val hc, mul64 (by omega) (by omega), add64 (by omega) (by omega), dvn_cons, succ64 (by omega)]
      have hr : ∀ x ∈ r, dg x = true := fun x hx => hd x (List.mem_of_mem_drop (by rw [hdr]; exact List.mem_cons_of_mem _ hx))
      have hge := dvn_ge (q := r) (n := 10 * m + ((c.toNat : Int) - 48)) hr (by omega)
      by_cases hgt : 1000000000000 < 10 * m + ((c.toNat : Int) - 48)
      · rw [if_pos (by rw [gt_iff]; omega), if_pos (by omega)]
      · rw [if_neg (by rw [gt_iff]; omega)]
        have := ih (neg, rest, 10 * m + ((c.toNat : Int) - 48), part, a, b, t, Int.ofNat part.length, ((i + 1 : Nat) : Int), 0, 0) ⟨i + 1, _, rfl, by omega, by omega, by omega⟩ (by simp; omega)
        refine this.trans ?_
        simp only [Int.toNat_natCast, h1]
  have := key 18446744073709551616 (neg, rest, n, part, a, b, t, Int.ofNat part.length, 0, 0, 0) ⟨0, n, rfl, by omega, hn0, hn1⟩ (by simp; omega)
  refine this.trans ?_
  simp
theorem K3_step (n : Nat) (neg : Bool) (rest : List UInt8) (m : Int) (a b : List UInt8) (t : Int) : 
    loopF (fun (self : (Bool) × (List UInt8) × (Int) × (List UInt8) × (List UInt8) × (Int) × (Int) × (Int) → Option (As [.pr (.int .i64) (.int .u8), .bool])) (s : (Bool) × (List UInt8) × (Int) × (List UInt8) × (List UInt8) × (Int) × (Int) × (Int)) => units_Parse_m3 (units_Parse_K4 (fun negative rest n t54 t54_2 t55 t2 t2_2 => self (negative, rest, n, t54, t54_2, t55, t2, t2_2))) (units_Parse_K5) (fun negative rest n t54 t54_2 t55 t2 t2_2 => self (negative, rest, n, t54, t54_2, t55, t2, t2_2)) s.1 s.2.1 s.2.2.1 s.2.2.2.1 s.2.2.2.2.1 s.2.2.2.2.2.1 s.2.2.2.2.2.2.1 s.2.2.2.2.2.2.2) (n + 1) (neg, rest, m, a, b, t, 0, 0) =
    if lt t 2 = true then if eqi t 1 = true then units_Parse_K4 (fun neg rest m a b t x y => loopF (fun (self : (Bool) × (List UInt8) × (Int) × (List UInt8) × (List UInt8) × (Int) × (Int) × (Int) → Option (As [.pr (.int .i64) (.int .u8), .bool])) (s : (Bool) × (List UInt8) × (Int) × (List UInt8) × (List UInt8) × (Int) × (Int) × (Int)) => units_Parse_m3 (units_Parse_K4 (fun negative rest n t54 t54_2 t55 t2 t2_2 => self (negative, rest, n, t54, t54_2, t55, t2, t2_2))) (units_Parse_K5) (fun negative rest n t54 t54_2 t55 t2 t2_2 => self (negative, rest, n, t54, t54_2, t55, t2, t2_2)) s.1 s.2.1 s.2.2.1 s.2.2.2.1 s.2.2.2.2.1 s.2.2.2.2.2.1 s.2.2.2.2.2.2.1 s.2.2.2.2.2.2.2) n (neg, rest, m, a, b, t, x, y)) neg rest m b a b t (Int.ofNat b.length) 0 0 0 else if eqi t 0 = true then units_Parse_K4 (fun neg rest m a b t x y => loopF (fun (self : (Bool) × (List UInt8) × (Int) × (List UInt8) × (List UInt8) × (Int) × (Int) × (Int) → Option (As [.pr (.int .i64) (.int .u8), .bool])) (s : (Bool) × (List UInt8) × (Int) × (List UInt8) × (List UInt8) × (Int) × (Int) × (Int)) => units_Parse_m3 (units_Parse_K4 (fun negative rest n t54 t54_2 t55 t2 t2_2 => self (negative, rest, n, t54, t54_2, t55, t2, t2_2))) (units_Parse_K5) (fun negative rest n t54 t54_2 t55 t2 t2_2 => self (negative, rest, n, t54, t54_2, t55, t2, t2_2)) s.1 s.2.1 s.2.2.1 s.2.2.2.1 s.2.2.2.2.1 s.2.2.2.2.2.1 s.2.2.2.2.2.2.1 s.2.2.2.2.2.2.2) n (neg, rest, m, a, b, t, x, y)) neg rest m a a b t (Int.ofNat a.length) 0 0 0 else none else units_Parse_K5 neg rest m 0 0 := rfl
theorem parse_K3 (neg : Bool) (w r : List UInt8) (hw : ∀ c ∈ w, dg c = true) (hr : ∀ c ∈ r, dg c = true) (hwl : w.length < 1000000) (hrl : r.length < 256) :
    units_Parse_K3 neg r 0 w r 0 0 0 = if 1000000000000 < dvn (dvn 0 w) r then some ((0, 0), false, ()) else some ((if neg then -(dvn (dvn 0 w) r) else dvn (dvn 0 w) r, (r.length : Int)), true, ()) := by
  have h0 : (0 : Int) ≤ dvn 0 w := dvn_ge hw (Int.le_refl _)
  have h1 : dvn 0 w ≤ dvn (dvn 0 w) r := dvn_ge hr h0
  refine (K3_step 18446744073709551615 neg r 0 w r 0).trans ?_
  rw [if_pos (by decide), if_neg (by decide), if_pos (by decide), parse_K4 _ _ _ _ _ _ _ _ hw hwl (by decide) (by decide)]
  by_cases hb : 1000000000000 < dvn 0 w
  · rw [if_pos hb, if_pos (by omega)]
  · rw [if_neg hb, show add .i64 0 1 = 1 from rfl]
    refine (K3_step 18446744073709551614 neg r _ w r 1).trans ?_
    rw [if_pos (by decide), if_pos (by decide), parse_K4 _ _ _ _ _ _ _ _ hr (by omega) h0 (by omega)]
    by_cases hb2 : 1000000000000 < dvn (dvn 0 w) r
    · rw [if_pos hb2, if_pos hb2]
    · rw [if_neg hb2, if_neg hb2, show add .i64 1 1 = 2 from rfl]
      refine (K3_step 18446744073709551613 neg r _ w r 2).trans ?_
      rw [if_neg (by decide)]
      unfold units_Parse_K5 units_Parse_m5 units_Parse_K6 units_Parse_m6
      have e : Int.ofNat (r.length % 256) = (r.length : Int) := by rw [Nat.mod_eq_of_lt hrl]; rfl
      rw [e]
      cases neg
      · rfl
      · rw [if_pos rfl, neg64 (by omega) (by omega)]
        rfl
theorem stripz_len : ∀ r : List UInt8, (stripz r).length ≤ r.length
  | [] => Nat.le_refl _
  | c :: q => by
    have ih := stripz_len q
    show (match stripz q with | [] => _ | r => _ : List UInt8).length ≤ _
    cases h : stripz q with
    | nil => dsimp only; split <;> simp
    | cons a b => rw [h] at ih; simp at ih ⊢; omega
theorem stripz_mem : ∀ {r : List UInt8} {c : UInt8}, c ∈ stripz r → c ∈ r
  | a :: q, c, h => by
    have ih := @stripz_mem q c
    change c ∈ (match stripz q with | [] => _ | r => _ : List UInt8) at h
    cases hq : stripz q with
    | nil =>
      rw [hq] at h
      dsimp only at h
      split at h
      · cases h
      · simp at h; simp [h]
    | cons x y =>
      rw [hq] at h ih
      rcases List.mem_cons.1 h with h | h
      · simp [h]
      · exact List.mem_cons_of_mem _ (ih h)
theorem digs_iff {s : List UInt8} : digs s = true ↔ (∀ c ∈ s, dg c = true) ∧ s ≠ [] := by simp [digs, List.all_eq_true]
/-- from where the pieces are known -/
theorem parse_K1 (neg : Bool) (w r : List UInt8) (pt bad : Bool) (hwl : w.length < 1000000) (hrl : r.length < 1000000) (hpt : pt = false → r = [])
    (hbad : bad = true ↔ (digs w = false ∨ (1 < w.length ∧ w[0]? = some 48))) : units_Parse_K1 neg w r pt bad 0 0 = some ((parsePieces neg w r pt).1, (parsePieces neg w r pt).2, ()) := by
  unfold units_Parse_K1 units_Parse_m1 parsePieces
  by_cases hb : bad = true
  · rw [if_pos hb, if_pos (hbad.1 hb)]
  · rw [if_neg hb, if_neg (fun h => hb (hbad.2 h))]
    have hw : digs w = true := by
      cases h : digs w
      · exact absurd (hbad.2 (.inl h)) hb
      · rfl
    have hwd := digs_iff.1 hw
    have fin : (∀ c ∈ r, dg c = true) → r.length ≤ 6 → units_Parse_K2 neg w r false 0 0 = some ((if 1000000000000 < dvn (dvn 0 w) (stripz r) then ((0, 0), false) else ((if neg then -(dvn (dvn 0 w) (stripz r)) else dvn (dvn 0 w) (stripz r), ((stripz r).length : Int)), true) : PR).1, (if 1000000000000 < dvn (dvn 0 w) (stripz r) then ((0, 0), false) else ((if neg then -(dvn (dvn 0 w) (stripz r)) else dvn (dvn 0 w) (stripz r), ((stripz r).length : Int)), true) : PR).2, ()) := fun hr h6 => by
      unfold units_Parse_K2 units_Parse_m2
      rw [if_neg (by decide)]
      have go : units_Parse_K3 neg (stripz r) 0 w (stripz r) 0 0 0 = some ((if 1000000000000 < dvn (dvn 0 w) (stripz r) then ((0, 0), false) else ((if neg then -(dvn (dvn 0 w) (stripz r)) else dvn (dvn 0 w) (stripz r), ((stripz r).length : Int)), true) : PR).1, (if 1000000000000 < dvn (dvn 0 w) (stripz r) then ((0, 0), false) else ((if neg then -(dvn (dvn 0 w) (stripz r)) else dvn (dvn 0 w) (stripz r), ((stripz r).length : Int)), true) : PR).2, ()) := by
        rw [parse_K3 neg w (stripz r) hwd.1 (fun c hc => hr c (stripz_mem hc)) hwl (by have := stripz_len r; omega)]
        split <;> rfl
      by_cases hre : r = []
      · subst hre
        rw [if_pos (by decide)]
        exact go
      · rw [if_neg (by rw [eqs_iff]; exact hre), trimRight_eq hrl, Option.bind_some]
        exact go
    cases pt
    · rw [if_neg (by decide), if_neg (by simp)]
      rw [hpt rfl] at fin ⊢
      exact fin (fun c h => by cases h) (by simp)
    · rw [if_pos rfl, allDigits_eq hrl, Option.bind_some]
      by_cases hr : digs r = true
      · rw [if_neg (by simp [hr])]
        by_cases h6 : 6 < r.length
        · have e : gt (Int.ofNat r.length) 6 = true := by rw [gt_iff, ofNat_eq]; omega
          rw [e, if_pos ⟨rfl, .inr h6⟩]
          rfl
        · have e : gt (Int.ofNat r.length) 6 = false := by simp [gt]; omega
          rw [e, if_neg (by simp [hr]; omega)]
          exact fin (digs_iff.1 hr).1 (by omega)
      · have hr' : digs r = false := by simpa using hr
        rw [if_pos (by simp [hr']), if_pos ⟨rfl, .inl hr'⟩]
        rfl
/-- the number that a text without a sign says -/
def parseT (neg : Bool) (t : List UInt8) : PR := parsePieces neg (t.takeWhile (· != 46)) ((t.dropWhile (· != 46)).drop 1) (t.contains 46)
def parseS (s : List UInt8) : PR := if s.head? = some 45 then parseT true (s.drop 1) else parseT false s
theorem tw_no {c : UInt8} {s : List UInt8} (h : c ∉ s) : s.takeWhile (· != c) = s ∧ s.dropWhile (· != c) = [] ∧ s.contains c = false := by
  induction s with
  | nil => exact ⟨rfl, rfl, rfl⟩
  | cons b q ih =>
    have hb : b ≠ c := fun e => h (by simp [e])
    obtain ⟨h1, h2, h3⟩ := ih (fun hm => h (List.mem_cons_of_mem _ hm))
    have hb' : (b != c) = true := by simp [hb]
    refine ⟨by simp [hb', h1], by simp [hb', h2], ?_⟩
    simp only [List.contains_cons, h3, Bool.or_false]
    simp
    exact fun e => hb e.symm
theorem tw_yes {c : UInt8} {p q : List UInt8} (h : c ∉ p) : (p ++ c :: q).takeWhile (· != c) = p ∧ (p ++ c :: q).dropWhile (· != c) = c :: q ∧ (p ++ c :: q).contains c = true := by
  induction p with
  | nil => simp
  | cons b r ih =>
    have hb : b ≠ c := fun e => h (by simp [e])
    obtain ⟨h1, h2, h3⟩ := ih (fun hm => h (List.mem_cons_of_mem _ hm))
    have hb' : (b != c) = true := by simp [hb]
    refine ⟨by simp [hb', h1], by simp [hb', h2], ?_⟩
    simp
theorem parseT_no {neg : Bool} {t : List UInt8} (h : (46 : UInt8) ∉ t) : parseT neg t = parsePieces neg t [] false := by
  obtain ⟨h1, h2, h3⟩ := tw_no h
  unfold parseT
  rw [h1, h2, h3]
  rfl
theorem parseT_yes {neg : Bool} {p q : List UInt8} (h : (46 : UInt8) ∉ p) : parseT neg (p ++ 46 :: q) = parsePieces neg p q true := by
  obtain ⟨h1, h2, h3⟩ := tw_yes (q := q) h
  simp only [parseT, h1, h2, h3]
  simp
theorem bad_iff {w : List UInt8} (c : UInt8) (q : List UInt8) (e : w = c :: q) (h : digs w = true) (hl : 1 < w.length) : eqi (Int.ofNat c.toNat) 48 = true ↔ (digs w = false ∨ (1 < w.length ∧ w[0]? = some 48)) := by
  subst e
  simp [h, eqi] at hl ⊢
  constructor
  · intro h2
    refine ⟨hl, UInt8.toNat_inj.1 ?_⟩
    have : (48 : UInt8).toNat = 48 := rfl
    omega
  · rintro ⟨_, rfl⟩; rfl
theorem hasPrefix_eq {s p : List UInt8} : istringslite_HasPrefix (s, p, ()) = some (decide (p <+: s), ()) := by
  show (if ge (Int.ofNat s.length) (Int.ofNat p.length) = true then _ else _) = _
  by_cases h : p.length ≤ s.length
  · rw [if_pos (by rw [ge_iff, ofNat_eq, ofNat_eq]; omega), ofNat_eq, cut_to h, Option.bind_some]
    congr 2
    rw [Bool.eq_iff_iff, eqs_iff, decide_eq_true_iff, List.prefix_iff_eq_take]
    exact ⟨fun h => h.symm, fun h => h.symm⟩
  · rw [if_neg (by rw [ge_iff, ofNat_eq, ofNat_eq]; omega)]
    congr 2
    symm
    rw [decide_eq_false_iff_not]
    intro hp
    exact h hp.length_le
theorem cutPrefix_eq {s p : List UInt8} : strings_CutPrefix (s, p, ()) = some (if p <+: s then (s.drop p.length, true, ()) else (s, false, ())) := by
  show (istringslite_CutPrefix (s, p, ())).bind _ = _
  have : istringslite_CutPrefix (s, p, ()) = some (if p <+: s then (s.drop p.length, true, ()) else (s, false, ())) := by
    show (istringslite_HasPrefix (s, p, ())).bind _ = _
    rw [hasPrefix_eq, Option.bind_some]
    by_cases h : p <+: s
    · rw [if_neg (by simp [h]), if_pos h, ofNat_eq, cut_from h.length_le, Option.bind_some]
    · rw [if_pos (by simp [h]), if_neg h]
  rw [this, Option.bind_some]
theorem parse_eq {s : List UInt8} (hl : s.length < 1000000) : units_Parse (s, ()) = some ((parseS s).1, (parseS s).2, ()) := by
  show units_Parse_m0 units_Parse_K1 s = _
  have go : ∀ (neg : Bool) (t : List UInt8), t.length < 1000000 →
      (if eqs [46] t = true then (cut t 1 (Int.ofNat t.length)).bind fun y_1 => (units_allDigits ([], ())).bind fun y_2 => if (!y_2.1) = true then units_Parse_K1 neg [] y_1 true true 0 0 else units_Parse_K1 neg [] y_1 true false 0 0
       else if ge (Go.Lib.indexByte t 46) 0 = true then (cut t 0 (Go.Lib.indexByte t 46)).bind fun y_1 => (cut t (add .i64 (Go.Lib.indexByte t 46) 1) (Int.ofNat t.length)).bind fun y_2 => (units_allDigits (y_1, ())).bind fun y_3 => if (!y_3.1) = true then units_Parse_K1 neg y_1 y_2 true true 0 0 else if gt (Int.ofNat y_1.length) 1 = true then (at? y_1 0).bind fun c => units_Parse_K1 neg y_1 y_2 true (eqi (Int.ofNat c.toNat) 48) 0 0 else units_Parse_K1 neg y_1 y_2 true false 0 0
       else (units_allDigits (t, ())).bind fun y_1 => if (!y_1.1) = true then units_Parse_K1 neg t [] false true 0 0 else if gt (Int.ofNat t.length) 1 = true then (at? t 0).bind fun c => units_Parse_K1 neg t [] false (eqi (Int.ofNat c.toNat) 48) 0 0 else units_Parse_K1 neg t [] false false 0 0) = some ((parseT neg t).1, (parseT neg t).2, ()) := by
    intro neg t ht
    have side : ∀ (w r : List UInt8) (pt : Bool), w.length < 1000000 → r.length < 1000000 → (pt = false → r = []) → ((units_allDigits (w, ())).bind fun y_1 => if (!y_1.1) = true then units_Parse_K1 neg w r pt true 0 0 else if gt (Int.ofNat w.length) 1 = true then (at? w 0).bind fun c => units_Parse_K1 neg w r pt (eqi (Int.ofNat c.toNat) 48) 0 0 else units_Parse_K1 neg w r pt false 0 0) = some ((parsePieces neg w r pt).1, (parsePieces neg w r pt).2, ()) := by
      intro w r pt hw hr hp
      rw [allDigits_eq hw, Option.bind_some]
      by_cases hd : digs w = true
      · rw [if_neg (by simp [hd])]
        by_cases h1 : 1 < w.length
        · rw [if_pos (by rw [gt_iff, ofNat_eq]; omega)]
          cases w with
          | nil => simp at h1
          | cons c q => exact parse_K1 neg (c :: q) r pt _ hw hr hp (bad_iff c q rfl hd h1)
        · rw [if_neg (by rw [gt_iff, ofNat_eq]; omega)]
          exact parse_K1 neg w r pt false hw hr hp (by simp [hd]; omega)
      · have hd' : digs w = false := by simpa using hd
        rw [if_pos (by simp [hd'])]
        exact parse_K1 neg w r pt true hw hr hp (by simp [hd'])
    by_cases he : t = [46]
    · subst he
      rw [if_pos (by decide), show cut ([46] : List UInt8) 1 (Int.ofNat [(46 : UInt8)].length) = some [] from rfl, Option.bind_some, allDigits_eq (by simp), Option.bind_some, if_pos (by decide)]
      exact parse_K1 neg [] [] true true (by simp) (by simp) (by simp) (by simp [digs])
    · rw [if_neg (by rw [eqs_iff]; exact fun h => he h.symm)]
      rcases split_at 46 t with h46 | ⟨p, q, rfl, h46⟩
      · rw [index_no 46 t h46, if_neg (by decide), parseT_no h46]
        exact side t [] false ht (by simp) (fun _ => rfl)
      · simp at ht
        rw [index_yes 46 p q h46, if_pos (by rw [ge_iff]; omega), cut_app0, Option.bind_some, succ64 (by omega), cut_from (by simp), Option.bind_some, parseT_yes h46]
        have : (p ++ 46 :: q).drop (p.length + 1) = q := by simp
        rw [this]
        exact side p q true (by omega) (by omega) (by simp)
  unfold units_Parse_m0
  rw [cutPrefix_eq]
  cases s with
  | nil =>
    rw [if_neg (by simp), Option.bind_some]
    exact go false [] (by simp)
  | cons a q =>
    by_cases ha : a = 45
    · subst ha
      have : parseS (45 :: q) = parseT true q := by simp [parseS]
      rw [this, if_pos (by simp), Option.bind_some]
      exact go true q (by simp at hl; omega)
    · have : parseS (a :: q) = parseT false (a :: q) := by simp [parseS, ha]
      rw [this, if_neg (by simp; intro e; exact ha e.symm), Option.bind_some]
      exact go false (a :: q) hl
end Go.Proofs.Lx

end

section
/- The document's reader of decimals. -/
namespace Go.Proofs.Lx
open Go Ev Sx Pl
set_option maxRecDepth 10000
def rf (z : Bool) : List UInt8 → Int → Bool → Nat → Nat → Option (Int × Nat)
  | [], n, pt, bh, ah => if ah = 0 ∨ (pt = true ∧ bh = 0) ∨ 6 < bh then none else some (n, bh)
  | c :: q, n, pt, bh, ah =>
    if c = 46 ∧ pt = false ∧ 0 < ah then rf z q n true bh ah
    else if dg c = false ∨ (ah = 1 ∧ z = true ∧ pt = false) ∨ 100000000000000000 < n then none
    else rf z q (10 * n + ((c.toNat : Int) - 48)) pt (if pt then bh + 1 else bh) (if pt then ah else ah + 1)
def refEnd (below : Bool) : Option (Int × Nat) → Option (As [.pr (.int .i64) (.int .u8), .bool])
  | none => some ((0, 0), false, ())
  | some (n, b) => ref12_Parse_K8 below n (b : Int) false 0 0
theorem eqi_byte {c : UInt8} (k : UInt8) {m : Int} (hm : m = (k.toNat : Int) := by rfl) : eqi (Int.ofNat c.toNat) m = true ↔ c = k := by
  subst hm
  simp only [eqi, beq_iff_eq, ofNat_eq]
  constructor
  · intro h; apply UInt8.toNat_inj.1; omega
  · rintro rfl; rfl
abbrev R3 := List UInt8 × Bool × Int × Bool × Int × Int × Int × Int × Int
abbrev RP := As [.pr (.int .i64) (.int .u8), .bool]
abbrev refB (self : R3 → Option RP) (s : R3) : Option RP := ref12_Parse_m3 (ref12_Parse_K4 (fun s below n point behind ahead i t2 t2_2 => self (s, below, n, point, behind, ahead, i, t2, t2_2))) (ref12_Parse_K5) (fun s below n point behind ahead i t2 t2_2 => self (s, below, n, point, behind, ahead, i, t2, t2_2)) s.1 s.2.1 s.2.2.1 s.2.2.2.1 s.2.2.2.2.1 s.2.2.2.2.2.1 s.2.2.2.2.2.2.1 s.2.2.2.2.2.2.2.1 s.2.2.2.2.2.2.2.2
theorem ref_K7 (self : R3 → Option RP) (s : List UInt8) (below : Bool) (n : Int) (pt : Bool) (bh ah i : Nat) (c : UInt8) (hc : dg c = true) (hi : at? s (i : Int) = some c) (h0 : 0 ≤ n) (hl : i < 1000000) (hb : bh < 1000000) (ha : ah < 1000000) :
    ref12_Parse_K7 (fun s below n point behind ahead i t2 t2_2 => self (s, below, n, point, behind, ahead, i, t2, t2_2)) s below n pt (bh : Int) (ah : Int) (i : Int) false 0 0 =
      if 100000000000000000 < n then some ((0, 0), false, ()) else self (s, below, 10 * n + ((c.toNat : Int) - 48), pt, ((if pt then bh + 1 else bh : Nat) : Int), ((if pt then ah else ah + 1 : Nat) : Int), ((i + 1 : Nat) : Int), 0, 0) := by
  unfold ref12_Parse_K7 ref12_Parse_m7
  rw [if_neg (by decide)]
  by_cases hn : 100000000000000000 < n
  · rw [if_pos (by rw [gt_iff]; exact hn), if_pos hn]
  · have := dg_iff.1 hc
    rw [if_neg (by rw [gt_iff]; exact hn), if_neg hn, hi, Option.bind_some, byte_val hc, mul64 (by omega) (by omega), add64 (by omega) (by omega), succ64 (by omega), succ64 (by omega)]
    unfold ref12_Parse_K6 ref12_Parse_m6
    rw [succ64 (by omega), show n * 10 = 10 * n by omega]
    cases pt <;> rfl
theorem ref_loop (s : List UInt8) (below : Bool) (hs : s.length < 1000000) : ∀ (k : Nat) (st : R3),
    (∃ (n : Int) (pt : Bool) (bh ah i : Nat), st = (s, below, n, pt, (bh : Int), (ah : Int), (i : Int), 0, 0) ∧ i ≤ s.length ∧ bh ≤ i ∧ ah ≤ i ∧ 0 ≤ n) → s.length - st.2.2.2.2.2.2.1.toNat < k →
      loopF refB k st = refEnd below (rf (decide (s[0]? = some 48)) (s.drop st.2.2.2.2.2.2.1.toNat) st.2.2.1 st.2.2.2.1 st.2.2.2.2.1.toNat st.2.2.2.2.2.1.toNat) := by
  refine loopF_eq (σ := R3) (μ := fun st => s.length - st.2.2.2.2.2.2.1.toNat) (G := fun st => refEnd below (rf (decide (s[0]? = some 48)) (s.drop st.2.2.2.2.2.2.1.toNat) st.2.2.1 st.2.2.2.1 st.2.2.2.2.1.toNat st.2.2.2.2.2.1.toNat)) ?_
  rintro self st ⟨n, pt, bh, ah, i, rfl, hi, hb, ha, hn⟩ ih
  simp only [Int.toNat_natCast] at ih ⊢
  show ref12_Parse_m3 _ _ _ s below n pt (bh : Int) (ah : Int) (i : Int) 0 0 = _
  unfold ref12_Parse_m3
  cases hd : s.drop i with
  | nil =>
    have := drop_nil hd
    rw [if_neg (by rw [lt_iff, ofNat_eq]; omega)]
    unfold ref12_Parse_K5 ref12_Parse_m5 rf
    by_cases h0 : ah = 0
    · subst h0
      rw [if_pos (by decide), if_pos (.inl rfl)]
      rfl
    · rw [if_neg (by rw [eqi_iff]; omega)]
      have h6 : ref12_Parse_K8 below n (bh : Int) (gt (bh : Int) 6) 0 0 = refEnd below (if 6 < bh then none else some (n, bh)) := by
        by_cases h : 6 < bh
        · rw [if_pos h, show gt (bh : Int) 6 = true by rw [gt_iff]; omega]; rfl
        · rw [if_neg h, show gt (bh : Int) 6 = false by simp [gt]; omega]; rfl
      cases pt
      · rw [if_neg (by decide), h6]
        congr 1
        simp [h0]
      · rw [if_pos rfl]
        by_cases hb0 : bh = 0
        · subst hb0
          rw [if_pos (by decide), if_pos (by simp)]
          rfl
        · rw [if_neg (by rw [eqi_iff]; omega), h6]
          congr 1
          simp [h0, hb0]
  | cons c r =>
    obtain ⟨h1, h2, h3⟩ := drop_succ hd
    have hat := at_drop hd
    rw [if_pos (by rw [lt_iff, ofNat_eq]; omega), hat, Option.bind_some]
    have next : ∀ (n' : Int) (pt' : Bool) (bh' ah' : Nat), bh' ≤ i + 1 → ah' ≤ i + 1 → 0 ≤ n' → self (s, below, n', pt', (bh' : Int), (ah' : Int), ((i + 1 : Nat) : Int), 0, 0) = refEnd below (rf (decide (s[0]? = some 48)) r n' pt' bh' ah') := fun n' pt' bh' ah' x1 x2 x3 => by
      have := ih (s, below, n', pt', (bh' : Int), (ah' : Int), ((i + 1 : Nat) : Int), 0, 0) ⟨n', pt', bh', ah', i + 1, rfl, by omega, x1, x2, x3⟩ (by simp; omega)
      refine this.trans ?_
      simp [h1]
    -- a byte that is no point that counts
    have dig : ¬ (c = 46 ∧ pt = false ∧ 0 < ah) → ref12_Parse_K4 (fun s below n point behind ahead i t2 t2_2 => self (s, below, n, point, behind, ahead, i, t2, t2_2)) s below n pt (bh : Int) (ah : Int) (i : Int) false 0 0 = refEnd below (rf (decide (s[0]? = some 48)) (c :: r) n pt bh ah) := fun hno => by
      unfold ref12_Parse_K4 ref12_Parse_m4
      rw [if_neg (by decide), hat, Option.bind_some, Option.bind_some]
      unfold rf
      rw [if_neg hno]
      have bad : ref12_Parse_K7 (fun s below n point behind ahead i t2 t2_2 => self (s, below, n, point, behind, ahead, i, t2, t2_2)) s below n pt (bh : Int) (ah : Int) (i : Int) true 0 0 = some ((0, 0), false, ()) := rfl
      by_cases hc : dg c = true
      · have hcv := dg_iff.1 hc
        rw [if_neg (by rw [lt_iff, ofNat_eq]; omega), if_neg (by rw [gt_iff, ofNat_eq]; omega)]
        have good := ref_K7 self s below n pt bh ah i c hc hat hn (by omega) (by omega) (by omega)
        have fine : ¬ (ah = 1 ∧ s[0]? = some 48 ∧ pt = false) → (if 100000000000000000 < n then some ((0, 0), false, ()) else self (s, below, 10 * n + ((c.toNat : Int) - 48), pt, ((if pt then bh + 1 else bh : Nat) : Int), ((if pt then ah else ah + 1 : Nat) : Int), ((i + 1 : Nat) : Int), 0, 0)) =
            refEnd below (if dg c = false ∨ (ah = 1 ∧ (decide (s[0]? = some 48)) = true ∧ pt = false) ∨ 100000000000000000 < n then none else rf (decide (s[0]? = some 48)) r (10 * n + ((c.toNat : Int) - 48)) pt (if pt then bh + 1 else bh) (if pt then ah else ah + 1)) := fun hz => by
          by_cases hn1 : 100000000000000000 < n
          · rw [if_pos hn1, if_pos (.inr (.inr hn1))]
            rfl
          · have hno2 : ¬ (dg c = false ∨ (ah = 1 ∧ (decide (s[0]? = some 48)) = true ∧ pt = false) ∨ 100000000000000000 < n) := by
              rintro (h | h | h)
              · rw [hc] at h; cases h
              · exact hz ⟨h.1, of_decide_eq_true h.2.1, h.2.2⟩
              · exact hn1 h
            rw [if_neg hn1, if_neg hno2]
            exact next _ pt (if pt then bh + 1 else bh) (if pt then ah else ah + 1) (by split <;> omega) (by split <;> omega) (by omega)
        by_cases ha1 : ah = 1
        · rw [if_pos (by rw [eqi_iff]; omega)]
          obtain ⟨c0, q0, hs0⟩ : ∃ c0 q0, s = c0 :: q0 := by
            cases s with
            | nil => simp at h2
            | cons c0 q0 => exact ⟨c0, q0, rfl⟩
          have hz0 : s[0]? = some c0 := by rw [hs0]; rfl
          rw [show at? s 0 = some c0 by rw [hs0]; rfl, Option.bind_some]
          by_cases h48 : c0 = 48
          · rw [if_pos ((eqi_byte 48).2 h48)]
            cases pt
            · show ref12_Parse_K7 _ s below n false _ _ _ true 0 0 = _
              rw [bad, if_pos (.inr (.inl ⟨ha1, by rw [hz0, h48]; decide, rfl⟩))]
              rfl
            · show ref12_Parse_K7 _ s below n true _ _ _ false 0 0 = _
              rw [good]
              exact fine (by simp)
          · rw [if_neg (fun h => h48 ((eqi_byte 48).1 h)), good]
            exact fine (fun h => by rw [hz0] at h; exact h48 (Option.some.inj h.2.1))
        · rw [if_neg (by rw [eqi_iff]; omega), good]
          exact fine (fun h => ha1 h.1)
      · have hc' : dg c = false := by simpa using hc
        have h4 : ¬ (48 ≤ c.toNat ∧ c.toNat ≤ 57) := fun h => hc (dg_iff.2 h)
        have hyes : dg c = false ∨ (ah = 1 ∧ (decide (s[0]? = some 48)) = true ∧ pt = false) ∨ 100000000000000000 < n := .inl hc'
        rw [if_pos hyes]
        by_cases h5 : c.toNat < 48
        · rw [if_pos (by rw [lt_iff, ofNat_eq]; omega), bad]
          rfl
        · rw [if_neg (by rw [lt_iff, ofNat_eq]; omega), if_pos (by rw [gt_iff, ofNat_eq]; omega), bad]
          rfl
    by_cases h46 : c = 46
    · rw [if_pos ((eqi_byte 46).2 h46)]
      cases pt
      · rw [if_pos (by decide)]
        by_cases h0 : 0 < ah
        · rw [show gt (ah : Int) 0 = true by rw [gt_iff]; omega]
          unfold ref12_Parse_K4 ref12_Parse_m4
          rw [if_pos rfl]
          unfold ref12_Parse_K6 ref12_Parse_m6 rf
          rw [if_pos ⟨h46, rfl, h0⟩, succ64 (by omega)]
          exact next _ _ _ _ (by omega) (by omega) hn
        · rw [show gt (ah : Int) 0 = false by simp [gt]; omega]
          exact dig (fun h => h0 h.2.2)
      · rw [if_neg (by decide)]
        exact dig (by simp)
    · rw [if_neg (fun h => h46 ((eqi_byte 46).1 h))]
      exact dig (fun h => h46 h.1)
end Go.Proofs.Lx

end

section
/- The two readers of decimals are one. -/
namespace Go.Proofs.Lx
open Go Ev Sx Pl
set_option maxRecDepth 10000
theorem rf_bound {z : Bool} : ∀ {q : List UInt8} {n : Int} {pt : Bool} {bh ah : Nat} {N : Int} {B : Nat}, rf z q n pt bh ah = some (N, B) → n ≤ 1000000000000000009 → N ≤ 1000000000000000009 ∧ B ≤ 6
  | [], n, pt, bh, ah, N, B, h, hn => by
    unfold rf at h
    split at h
    · cases h
    · rename_i h1
      cases h
      exact ⟨hn, by omega⟩
  | c :: q, n, pt, bh, ah, N, B, h, hn => by
    unfold rf at h
    split at h
    · exact rf_bound h hn
    · split at h
      · cases h
      · rename_i h1 h2
        have hc : dg c = true := by
          cases hd : dg c
          · exact absurd (.inl hd) h2
          · rfl
        have := dg_iff.1 hc
        exact rf_bound h (by omega)
theorem dg46 : dg 46 = false := rfl
/-- digits behind a point -/
theorem rf_frac {z : Bool} : ∀ {r : List UInt8} {n : Int} {bh ah : Nat}, 0 < ah → 0 ≤ n →
    ((∀ c ∈ r, dg c = true) → (rf z r n true bh ah = none ∨ rf z r n true bh ah = (if bh + r.length = 0 ∨ 6 < bh + r.length then none else some (dvn n r, bh + r.length))) ∧ (dvn n r ≤ 1000000000000000000 → rf z r n true bh ah = (if bh + r.length = 0 ∨ 6 < bh + r.length then none else some (dvn n r, bh + r.length)))) ∧
    ((¬ ∀ c ∈ r, dg c = true) → rf z r n true bh ah = none)
  | [], n, bh, ah, ha, hn => by
    have e : rf z [] n true bh ah = (if bh + ([] : List UInt8).length = 0 ∨ 6 < bh + ([] : List UInt8).length then none else some (dvn n [], bh + ([] : List UInt8).length)) := by
      show (if ah = 0 ∨ (true = true ∧ bh = 0) ∨ 6 < bh then none else some (n, bh)) = (if bh + 0 = 0 ∨ 6 < bh + 0 then none else some (n, bh))
      by_cases h : bh = 0 ∨ 6 < bh
      · rw [if_pos (h.elim (fun h => .inr (.inl ⟨rfl, h⟩)) (fun h => .inr (.inr h))), if_pos (by omega)]
      · rw [if_neg (by omega), if_neg (by omega)]
    exact ⟨fun _ => ⟨.inr e, fun _ => e⟩, fun h => absurd (fun c hc => by cases hc) h⟩
  | c :: r, n, bh, ah, ha, hn => by
    have h0 : ¬ (c = 46 ∧ true = false ∧ 0 < ah) := by simp
    by_cases hc : dg c = true
    · have hcv := dg_iff.1 hc
      obtain ⟨i1, i2⟩ := rf_frac (z := z) (r := r) (n := 10 * n + ((c.toNat : Int) - 48)) (bh := bh + 1) (ah := ah) ha (by omega)
      have e2 : bh + (c :: r).length = bh + 1 + r.length := by simp; omega
      by_cases hg : 100000000000000000 < n
      · have e : rf z (c :: r) n true bh ah = none := by
          unfold rf
          rw [if_neg h0, if_pos (.inr (.inr hg))]
        refine ⟨fun ha => ⟨.inl e, fun hle => ?_⟩, fun _ => e⟩
        have := dvn_ge (q := r) (n := 10 * n + ((c.toNat : Int) - 48)) (fun x hx => ha x (List.mem_cons_of_mem _ hx)) (by omega)
        rw [dvn_cons] at hle
        omega
      · have e : rf z (c :: r) n true bh ah = rf z r (10 * n + ((c.toNat : Int) - 48)) true (bh + 1) ah := by
          conv => lhs; unfold rf
          rw [if_neg h0, if_neg (by simp [hc]; omega)]
          rfl
        rw [e, e2, dvn_cons]
        refine ⟨fun ha => i1 (fun x hx => ha x (List.mem_cons_of_mem _ hx)), fun hn => i2 (fun hall => hn fun x hx => ?_)⟩
        rcases List.mem_cons.1 hx with rfl | hx
        · exact hc
        · exact hall x hx
    · have hc' : dg c = false := by simpa using hc
      have e : rf z (c :: r) n true bh ah = none := by
        unfold rf
        rw [if_neg h0, if_pos (.inl hc')]
      exact ⟨fun h => absurd (h c (List.mem_cons_self ..)) hc, fun _ => e⟩
/-- digits ahead of a point -/
theorem rf_whole {z : Bool} {tail : List UInt8} : ∀ {w : List UInt8} {n : Int} {ah : Nat}, 46 ∉ w → 0 ≤ n →
    ((∀ c ∈ w, dg c = true) → ¬ (z = true ∧ ah ≤ 1 ∧ 2 ≤ ah + w.length ∧ w ≠ []) → (rf z (w ++ tail) n false 0 ah = none ∨ rf z (w ++ tail) n false 0 ah = rf z tail (dvn n w) false 0 (ah + w.length)) ∧ (dvn n w ≤ 1000000000000000000 → rf z (w ++ tail) n false 0 ah = rf z tail (dvn n w) false 0 (ah + w.length))) ∧
    (((¬ ∀ c ∈ w, dg c = true) ∨ (z = true ∧ ah ≤ 1 ∧ 2 ≤ ah + w.length ∧ w ≠ [])) → rf z (w ++ tail) n false 0 ah = none)
  | [], n, ah, h46, hn => ⟨fun _ _ => ⟨.inr rfl, fun _ => rfl⟩, fun h => by
    rcases h with h | h
    · exact absurd (fun c hc => by cases hc) h
    · exact absurd rfl h.2.2.2⟩
  | c :: w, n, ah, h46, hn => by
    have hc46 : c ≠ 46 := fun e => h46 (by simp [e])
    have h0 : ¬ (c = 46 ∧ false = false ∧ 0 < ah) := fun h => hc46 h.1
    by_cases hc : dg c = true
    · have hcv := dg_iff.1 hc
      obtain ⟨i1, i2⟩ := rf_whole (z := z) (tail := tail) (w := w) (n := 10 * n + ((c.toNat : Int) - 48)) (ah := ah + 1) (fun h => h46 (List.mem_cons_of_mem _ h)) (by omega)
      have e2 : ah + (c :: w).length = ah + 1 + w.length := by simp; omega
      by_cases hz : ah = 1 ∧ z = true
      · have e : rf z (c :: w ++ tail) n false 0 ah = none := by
          show rf z (c :: (w ++ tail)) n false 0 ah = none
          unfold rf
          rw [if_neg h0, if_pos (.inr (.inl ⟨hz.1, hz.2, rfl⟩))]
        exact ⟨fun _ h => absurd ⟨hz.2, by omega, by simp; omega, by simp⟩ h, fun _ => e⟩
      · by_cases hg : 100000000000000000 < n
        · have e : rf z (c :: w ++ tail) n false 0 ah = none := by
            show rf z (c :: (w ++ tail)) n false 0 ah = none
            unfold rf
            rw [if_neg h0, if_pos (.inr (.inr hg))]
          refine ⟨fun ha _ => ⟨.inl e, fun hle => ?_⟩, fun _ => e⟩
          have := dvn_ge (q := w) (n := 10 * n + ((c.toNat : Int) - 48)) (fun x hx => ha x (List.mem_cons_of_mem _ hx)) (by omega)
          rw [dvn_cons] at hle
          omega
        · have e : rf z (c :: w ++ tail) n false 0 ah = rf z (w ++ tail) (10 * n + ((c.toNat : Int) - 48)) false 0 (ah + 1) := by
            show rf z (c :: (w ++ tail)) n false 0 ah = _
            conv => lhs; unfold rf
            have hno : ¬ (dg c = false ∨ (ah = 1 ∧ z = true ∧ false = false) ∨ 100000000000000000 < n) := by
              rintro (h | h | h)
              · rw [hc] at h; cases h
              · exact hz ⟨h.1, h.2.1⟩
              · exact hg h
            rw [if_neg h0, if_neg hno]
            rfl
          rw [e, e2, dvn_cons]
          refine ⟨fun ha hnz => i1 (fun x hx => ha x (List.mem_cons_of_mem _ hx)) (fun h => hnz ⟨h.1, by omega, by omega, by simp⟩), fun h => i2 ?_⟩
          rcases h with h | h
          · refine .inl (fun hall => h fun x hx => ?_)
            rcases List.mem_cons.1 hx with rfl | hx
            · exact hc
            · exact hall x hx
          · have hne : ah ≠ 1 := fun e => hz ⟨e, h.1⟩
            refine .inr ⟨h.1, by have := h.2.1; omega, by have := h.2.2.1; omega, fun hw => ?_⟩
            subst hw
            have := h.2.2.1
            exact hz ⟨by simp at this; omega, h.1⟩
    · have hc' : dg c = false := by simpa using hc
      have e : rf z (c :: w ++ tail) n false 0 ah = none := by
        show rf z (c :: (w ++ tail)) n false 0 ah = none
        unfold rf
        rw [if_neg h0, if_pos (.inl hc')]
      exact ⟨fun h => absurd (h c (List.mem_cons_self ..)) hc, fun _ => e⟩
/-! ### noughts off -/
def st0 : Nat → Int → Int × Nat
  | 0, n => (n, 0)
  | d + 1, n => if n.tmod 10 = 0 then st0 d (n.tdiv 10) else (n, d + 1)
def ofS (n : Int) (d : Nat) : PR := if 6 < (st0 d n).2 ∨ 1000000000000 < (st0 d n).1 ∨ (st0 d n).1 < -1000000000000 then ((0, 0), false) else (((st0 d n).1, ((st0 d n).2 : Int)), true)
theorem st0_le : ∀ (d : Nat) (n : Int), (st0 d n).2 ≤ d ∧ (-9223372036854775807 ≤ n ∧ n ≤ 9223372036854775807 → -9223372036854775807 ≤ (st0 d n).1 ∧ (st0 d n).1 ≤ 9223372036854775807)
  | 0, n => ⟨Nat.le_refl _, id⟩
  | d + 1, n => by
    unfold st0
    split
    · obtain ⟨h1, h2⟩ := st0_le d (n.tdiv 10)
      refine ⟨by omega, fun h => h2 ?_⟩
      rcases Int.le_total 0 n with h0 | h0
      · rw [Int.tdiv_eq_ediv_of_nonneg h0]; omega
      · have : n.tdiv 10 = -((-n).tdiv 10) := by rw [Int.neg_tdiv, Int.neg_neg]
        rw [this, Int.tdiv_eq_ediv_of_nonneg (by omega)]
        omega
    · exact ⟨Nat.le_refl _, id⟩
theorem of_eq {n : Int} {d : Nat} (hd : d < 256) (h1 : -9223372036854775807 ≤ n) (h2 : n ≤ 9223372036854775807) : ref12_Of (n, (d : Int), ()) = some ((ofS n d).1, (ofS n d).2, ()) := by
  have key : ∀ (k : Nat) (st : Int × Int × Int × Int), (∃ (m : Int) (e : Nat), st = (m, (e : Int), 0, 0) ∧ e < 256 ∧ -9223372036854775807 ≤ m ∧ m ≤ 9223372036854775807) → st.2.1.toNat < k →
      loopF (fun (self : Int × Int × Int × Int → Option RP) (s : Int × Int × Int × Int) => ref12_Of_m1 (ref12_Of_K2 (fun a b c d => self (a, b, c, d))) (fun a b c d => self (a, b, c, d)) s.1 s.2.1 s.2.2.1 s.2.2.2) k st = some ((ofS st.1 st.2.1.toNat).1, (ofS st.1 st.2.1.toNat).2, ()) := by
    refine loopF_eq (σ := Int × Int × Int × Int) (μ := fun st => st.2.1.toNat) (G := fun st => some ((ofS st.1 st.2.1.toNat).1, (ofS st.1 st.2.1.toNat).2, ())) ?_
    rintro self st ⟨m, e, rfl, he, hm1, hm2⟩ ih
    simp only [Int.toNat_natCast] at ih ⊢
    unfold ref12_Of_m1
    have fin : st0 e m = (m, e) → ref12_Of_K2 (fun a b c d => self (a, b, c, d)) m (e : Int) false 0 0 = some ((ofS m e).1, (ofS m e).2, ()) := fun hs => by
      unfold ref12_Of_K2 ref12_Of_m2 ref12_Of_K3 ref12_Of_m3 ofS
      rw [hs, if_neg (by decide)]
      have bad : ref12_Of_K4 m (e : Int) true 0 0 = some ((0, 0), false, ()) := rfl
      by_cases h6 : 6 < e
      · rw [if_pos (by rw [gt_iff]; omega), bad, if_pos (.inl h6)]
      · rw [if_neg (by rw [gt_iff]; omega)]
        by_cases hb : 1000000000000 < m
        · rw [if_pos (by rw [gt_iff]; omega), bad, if_pos (.inr (.inl hb))]
        · rw [if_neg (by rw [gt_iff]; omega)]
          by_cases hs : m < -1000000000000
          · rw [show lt m (-1000000000000) = true by rw [lt_iff]; exact hs, bad, if_pos (.inr (.inr hs))]
          · rw [show lt m (-1000000000000) = false by simp [lt]; omega, if_neg (by dsimp only; omega)]
            unfold ref12_Of_K4 ref12_Of_m4
            rw [if_neg (by decide)]
            have : cvt .u8 (e : Int) = (e : Int) := wu8 (by omega) (by omega)
            rw [this]
    cases e with
    | zero =>
      rw [if_neg (by decide)]
      exact fin rfl
    | succ e =>
      rw [if_pos (by rw [gt_iff]; omega)]
      by_cases hr : m.tmod 10 = 0
      · have e1 : eqi (rem m 10) 0 = true := by rw [eqi_iff]; exact hr
        rw [e1]
        unfold ref12_Of_K2 ref12_Of_m2
        rw [if_pos rfl]
        have hq : -9223372036854775807 ≤ m.tdiv 10 ∧ m.tdiv 10 ≤ 9223372036854775807 := by
          rcases Int.le_total 0 m with h0 | h0
          · rw [Int.tdiv_eq_ediv_of_nonneg h0]; omega
          · have : m.tdiv 10 = -((-m).tdiv 10) := by rw [Int.neg_tdiv, Int.neg_neg]
            rw [this, Int.tdiv_eq_ediv_of_nonneg (by omega)]
            omega
        have e2 : quo .i64 m 10 = m.tdiv 10 := w64 (by omega) (by omega)
        have e3 : sub .i64 ((e + 1 : Nat) : Int) 1 = (e : Int) := by rw [sub64 (by omega) (by omega)]; omega
        rw [e2, e3]
        have := ih (m.tdiv 10, (e : Int), 0, 0) ⟨_, e, rfl, by omega, hq.1, hq.2⟩ (by simp)
        refine this.trans ?_
        simp only [Int.toNat_natCast, ofS]
        have e4 : st0 (e + 1) m = st0 e (m.tdiv 10) := by
          show (if m.tmod 10 = 0 then _ else _) = _
          rw [if_pos hr]
        rw [e4]
      · have e1 : eqi (rem m 10) 0 = false := by simpa [eqi, rem] using hr
        rw [e1]
        refine fin ?_
        unfold st0
        rw [if_neg hr]
  have := key 18446744073709551616 (n, (d : Int), 0, 0) ⟨n, d, rfl, hd, h1, h2⟩ (by simp; omega)
  refine Eq.trans this ?_
  simp
theorem st0_val (sg : Bool) (x : Int) (hx : 0 ≤ x) : ∀ (k : Nat) (r : List UInt8), r.length = k → (∀ c ∈ r, dg c = true) →
    st0 k (if sg then -(dvn x r) else dvn x r) = ((if sg then -(dvn x (stripz r)) else dvn x (stripz r)), (stripz r).length)
  | 0, r, hl, _ => by
    have : r = [] := List.eq_nil_of_length_eq_zero hl
    subst this
    rfl
  | k + 1, r, hl, hd => by
    rcases snoc_cases r with rfl | ⟨p, c, rfl⟩
    · simp at hl
    · simp at hl
      have hc := hd c (by simp)
      have hcv := dg_iff.1 hc
      have hp : ∀ c ∈ p, dg c = true := fun a ha => hd a (by simp [ha])
      have hge := dvn_ge (n := x) hp hx
      have e : dvn x (p ++ [c]) = 10 * dvn x p + ((c.toNat : Int) - 48) := by rw [dvn_app]; rfl
      have hmod : ∀ y : Int, 0 ≤ y → (if sg then -y else y).tmod 10 = (if sg then -(y % 10) else y % 10) := fun y hy => by
        cases sg
        · exact Int.tmod_eq_emod_of_nonneg hy
        · show (-y).tmod 10 = -(y % 10)
          rw [Int.neg_tmod, Int.tmod_eq_emod_of_nonneg hy]
      have hdiv : ∀ y : Int, 0 ≤ y → (if sg then -y else y).tdiv 10 = (if sg then -(y / 10) else y / 10) := fun y hy => by
        cases sg
        · exact Int.tdiv_eq_ediv_of_nonneg hy
        · show (-y).tdiv 10 = -(y / 10)
          rw [Int.neg_tdiv, Int.tdiv_eq_ediv_of_nonneg hy]
      unfold st0
      rw [e, hmod _ (by omega), hdiv _ (by omega)]
      have m1 : (10 * dvn x p + ((c.toNat : Int) - 48)) % 10 = (c.toNat : Int) - 48 := by omega
      have d1 : (10 * dvn x p + ((c.toNat : Int) - 48)) / 10 = dvn x p := by omega
      rw [m1, d1]
      by_cases h48 : c = 48
      · subst h48
        rw [if_pos (by cases sg <;> rfl), stripz_snoc0]
        exact st0_val sg x hx k p hl hp
      · have : c.toNat ≠ 48 := fun h => h48 (UInt8.toNat_inj.1 h)
        rw [if_neg (by cases sg <;> simp <;> omega), stripz_snoc p h48, e]
        simp [hl]
/-! ### the two are one -/
theorem dvn_strip : ∀ (r : List UInt8) (x : Int), (∀ c ∈ r, dg c = true) → 0 ≤ x → dvn x r ≤ dvn x (stripz r) * 10 ^ (r.length - (stripz r).length) ∧ 0 ≤ dvn x (stripz r) := by
  intro r
  generalize hk : r.length = k
  induction k generalizing r with
  | zero => 
    intro x _ hx
    have : r = [] := List.eq_nil_of_length_eq_zero hk
    subst this
    exact ⟨by simp [stripz], hx⟩
  | succ k ih =>
    intro x hd hx
    rcases snoc_cases r with rfl | ⟨p, c, rfl⟩
    · simp at hk
    · simp at hk
      have hp : ∀ c ∈ p, dg c = true := fun a ha => hd a (by simp [ha])
      by_cases h48 : c = 48
      · subst h48
        obtain ⟨i1, i2⟩ := ih p hk x hp hx
        rw [stripz_snoc0]
        refine ⟨?_, i2⟩
        have e : dvn x (p ++ [48]) = 10 * dvn x p := by rw [dvn_app]; show 10 * dvn x p + ((48 : Int) - 48) = _; omega
        have hlen := stripz_len p
        have e2 : k + 1 - (stripz p).length = (k - (stripz p).length) + 1 := by omega
        rw [e, e2, Int.pow_succ]
        have : dvn x (stripz p) * (10 ^ (k - (stripz p).length) * 10) = 10 * (dvn x (stripz p) * 10 ^ (k - (stripz p).length)) := by rw [← Int.mul_assoc, Int.mul_comm]
        omega
      · rw [stripz_snoc p h48]
        have hge := dvn_ge (n := x) hd hx
        refine ⟨by simp [hk], by omega⟩
theorem refEnd_some (below : Bool) (w r : List UInt8) (hw : ∀ c ∈ w, dg c = true) (hr : ∀ c ∈ r, dg c = true) (h6 : r.length ≤ 6) (hN : dvn (dvn 0 w) r ≤ 1000000000000000009) :
    refEnd below (some (dvn (dvn 0 w) r, r.length)) = some ((if 1000000000000 < dvn (dvn 0 w) (stripz r) then ((0, 0), false) else ((if below then -(dvn (dvn 0 w) (stripz r)) else dvn (dvn 0 w) (stripz r), ((stripz r).length : Int)), true) : PR).1, (if 1000000000000 < dvn (dvn 0 w) (stripz r) then ((0, 0), false) else ((if below then -(dvn (dvn 0 w) (stripz r)) else dvn (dvn 0 w) (stripz r), ((stripz r).length : Int)), true) : PR).2, ()) := by
  have h0 : (0 : Int) ≤ dvn 0 w := dvn_ge hw (Int.le_refl _)
  have h1 := dvn_ge (n := dvn 0 w) hr h0
  have h2 := dvn_ge (q := stripz r) (n := dvn 0 w) (fun c hc => hr c (stripz_mem hc)) h0
  have hsl := stripz_len r
  have hv := st0_val below (dvn 0 w) h0 r.length r rfl hr
  have key : ofS (if below then -(dvn (dvn 0 w) r) else dvn (dvn 0 w) r) r.length = (if 1000000000000 < dvn (dvn 0 w) (stripz r) then ((0, 0), false) else ((if below then -(dvn (dvn 0 w) (stripz r)) else dvn (dvn 0 w) (stripz r), ((stripz r).length : Int)), true) : PR) := by
    unfold ofS
    rw [hv]
    dsimp only
    by_cases hb : 1000000000000 < dvn (dvn 0 w) (stripz r)
    · rw [if_pos hb]
      cases below
      · rw [if_pos (.inr (.inl hb))]
      · rw [if_pos (.inr (.inr (by simp; omega)))]
    · rw [if_neg hb]
      cases below
      · rw [if_neg (by simp; omega)]
      · rw [if_neg (by simp; omega)]
  rw [← key]
  show ref12_Parse_m8 ref12_Parse_K9 below _ (r.length : Int) false 0 0 = _
  unfold ref12_Parse_m8
  rw [if_neg (by decide)]
  cases below
  · rw [if_neg (by decide)]
    unfold ref12_Parse_K9 ref12_Parse_m9
    rw [of_eq (by omega) (by omega) (by omega), Option.bind_some]
    rfl
  · rw [if_pos rfl, neg64 (by omega) (by omega)]
    unfold ref12_Parse_K9 ref12_Parse_m9
    rw [of_eq (by omega) (by omega) (by omega), Option.bind_some]
    rfl
theorem big_strip {w r : List UInt8} (hw : ∀ c ∈ w, dg c = true) (hr : ∀ c ∈ r, dg c = true) (h6 : r.length ≤ 6) (hN : 1000000000000000000 < dvn (dvn 0 w) r) : 1000000000000 < dvn (dvn 0 w) (stripz r) := by
  have h0 : (0 : Int) ≤ dvn 0 w := dvn_ge hw (Int.le_refl _)
  obtain ⟨h1, h2⟩ := dvn_strip r (dvn 0 w) hr h0
  have hp : (10 : Int) ^ (r.length - (stripz r).length) ≤ 10 ^ 6 := by
    have h' : r.length - (stripz r).length ≤ 6 := by omega
    generalize r.length - (stripz r).length = j at h'
    match j, h' with
    | 0, _ => decide
    | 1, _ => decide
    | 2, _ => decide
    | 3, _ => decide
    | 4, _ => decide
    | 5, _ => decide
    | 6, _ => decide
  have := Int.mul_le_mul_of_nonneg_left hp h2
  have e : (10 : Int) ^ 6 = 1000000 := by decide
  rw [e] at this
  omega
theorem refT (below : Bool) (t : List UInt8) : refEnd below (rf (decide (t[0]? = some 48)) t 0 false 0 0) = some ((parseT below t).1, (parseT below t).2, ()) := by
  -- the pieces
  have main : ∀ (w r : List UInt8) (pt : Bool) (tail : List UInt8), 46 ∉ w → (pt = false → r = [] ∧ tail = []) → (pt = true → tail = 46 :: r) → t = w ++ tail → refEnd below (rf (decide (t[0]? = some 48)) t 0 false 0 0) = some ((parsePieces below w r pt).1, (parsePieces below w r pt).2, ()) := by
    intro w r pt tail h46 hf ht he
    generalize hz : decide (t[0]? = some 48) = z
    obtain ⟨p1, p2⟩ := rf_whole (z := z) (tail := tail) (w := w) (n := 0) (ah := 0) h46 (Int.le_refl _)
    rw [← he] at p1 p2
    unfold parsePieces
    have hbadw : (digs w = false ∨ (1 < w.length ∧ w[0]? = some 48)) → rf z t 0 false 0 0 = none := fun h => by
      by_cases hw : w = []
      · subst hw
        simp at he
        subst he
        cases pt
        · rw [(hf rfl).2]; rfl
        · rw [ht rfl]
          unfold rf
          rw [if_neg (by simp), if_pos (.inl rfl)]
      · apply p2
        by_cases hall : ∀ c ∈ w, dg c = true
        · right
          have hd : digs w = true := digs_iff.2 ⟨hall, hw⟩
          rcases h with h | h
          · rw [hd] at h; cases h
          · refine ⟨?_, by omega, by omega, hw⟩
            rw [← hz, he]
            cases w with
            | nil => exact absurd rfl hw
            | cons a b => simpa using h.2
        · exact .inl hall
    by_cases hbw : digs w = false ∨ (1 < w.length ∧ w[0]? = some 48)
    · rw [if_pos hbw, hbadw hbw]
      rfl
    · rw [if_neg hbw]
      have hdw : digs w = true := by
        cases h : digs w
        · exact absurd (.inl h) hbw
        · rfl
      obtain ⟨hw, hwne⟩ := digs_iff.1 hdw
      have hwl : 0 < w.length := List.length_pos_iff.2 hwne
      have h0 : (0 : Int) ≤ dvn 0 w := dvn_ge hw (Int.le_refl _)
      obtain ⟨q1, q2⟩ := p1 hw (fun h => by
        refine hbw (.inr ⟨by have := h.2.2.1; omega, ?_⟩)
        have := h.1
        rw [← hz, he] at this
        cases w with
        | nil => exact absurd rfl hwne
        | cons a b => simpa using this)
      rw [Nat.zero_add] at q1 q2
      -- the end, when all are digits
      have fin : (∀ c ∈ r, dg c = true) → r.length ≤ 6 → ((rf z t 0 false 0 0 = none ∧ 1000000000000000000 < dvn (dvn 0 w) r) ∨ rf z t 0 false 0 0 = some (dvn (dvn 0 w) r, r.length)) → refEnd below (rf z t 0 false 0 0) = some ((if 1000000000000 < dvn (dvn 0 w) (stripz r) then ((0, 0), false) else ((if below then -(dvn (dvn 0 w) (stripz r)) else dvn (dvn 0 w) (stripz r), ((stripz r).length : Int)), true) : PR).1, (if 1000000000000 < dvn (dvn 0 w) (stripz r) then ((0, 0), false) else ((if below then -(dvn (dvn 0 w) (stripz r)) else dvn (dvn 0 w) (stripz r), ((stripz r).length : Int)), true) : PR).2, ()) := fun hr h6 h => by
        rcases h with ⟨h, hN⟩ | h
        · rw [h, if_pos (big_strip hw hr h6 hN)]
          rfl
        · have := rf_bound h (by decide)
          rw [h]
          exact refEnd_some below w r hw hr h6 this.1
      cases pt
      · obtain ⟨rfl, rfl⟩ := hf rfl
        rw [if_neg (by simp)]
        refine fin (fun c hc => by cases hc) (by simp) ?_
        have e : rf z [] (dvn 0 w) false 0 w.length = some (dvn 0 w, 0) := by
          unfold rf
          rw [if_neg (by simp; omega)]
        rw [e] at q1 q2
        by_cases hN : dvn 0 w ≤ 1000000000000000000
        · exact .inr (q2 hN)
        · rcases q1 with h | h
          · exact .inl ⟨h, by rw [dvn_nil]; omega⟩
          · exact .inr h
      · have htl := ht rfl
        subst htl
        have e : rf z (46 :: r) (dvn 0 w) false 0 w.length = rf z r (dvn 0 w) true 0 w.length := by
          conv => lhs; unfold rf
          rw [if_pos ⟨rfl, rfl, hwl⟩]
        rw [e] at q1 q2
        obtain ⟨f1, f2⟩ := rf_frac (z := z) (r := r) (n := dvn 0 w) (bh := 0) (ah := w.length) hwl h0
        rw [Nat.zero_add] at f1
        have nn : rf z r (dvn 0 w) true 0 w.length = none → rf z t 0 false 0 0 = none := fun h => by
          rcases q1 with h' | h'
          · exact h'
          · rw [h', h]
        by_cases hr : digs r = false ∨ 6 < r.length
        · rw [if_pos ⟨rfl, hr⟩]
          have : rf z t 0 false 0 0 = none := by
            apply nn
            by_cases hall : ∀ c ∈ r, dg c = true
            · obtain ⟨g1, g2⟩ := f1 hall
              have hc : r.length = 0 ∨ 6 < r.length := by
                rcases hr with hr | hr
                · left
                  by_cases hne : r = []
                  · simp [hne]
                  · rw [digs_iff.2 ⟨hall, hne⟩] at hr; cases hr
                · exact .inr hr
              rw [if_pos hc] at g1
              exact g1.elim id id
            · exact f2 hall
          rw [this]
          rfl
        · rw [if_neg (fun h => hr h.2)]
          have hdr : digs r = true := by
            cases h : digs r
            · exact absurd (.inl h) hr
            · rfl
          obtain ⟨hrd, hrne⟩ := digs_iff.1 hdr
          have h6 : r.length ≤ 6 := by omega
          have hpos : 0 < r.length := List.length_pos_iff.2 hrne
          obtain ⟨g1, g2⟩ := f1 hrd
          rw [if_neg (by omega)] at g1 g2
          have hge := dvn_ge (n := dvn 0 w) hrd h0
          refine fin hrd h6 ?_
          by_cases hN : dvn (dvn 0 w) r ≤ 1000000000000000000
          · right
            rw [q2 (by omega), g2 hN]
          · rcases g1 with h | h
            · exact .inl ⟨nn h, by omega⟩
            · rcases q1 with h' | h'
              · exact .inl ⟨h', by omega⟩
              · right
                rw [h', h]
  rcases split_at 46 t with h46 | ⟨p, q, e, h46⟩
  · rw [parseT_no h46]
    exact main t [] false [] h46 (fun _ => ⟨rfl, rfl⟩) (fun h => by cases h) (by simp)
  · rw [e, parseT_yes h46, ← e]
    exact main p q true (46 :: q) h46 (fun h => by cases h) (fun _ => rfl) e
theorem refParse_eq {s : List UInt8} (hl : s.length < 1000000) : ref12_Parse (s, ()) = some ((parseS s).1, (parseS s).2, ()) := by
  have go : ∀ (t : List UInt8) (below : Bool), t.length < 1000000 → ref12_Parse_K2 t below 0 0 = some ((parseT below t).1, (parseT below t).2, ()) := fun t below ht => by
    rw [← refT]
    have := ref_loop t below ht 18446744073709551616 (t, below, 0, false, 0, 0, 0, 0, 0) ⟨0, false, 0, 0, 0, rfl, by omega, by omega, by omega, by omega⟩ (by simp; omega)
    exact this
  show ref12_Parse_m0 ref12_Parse_K1 s = _
  unfold ref12_Parse_m0
  cases s with
  | nil =>
    rw [if_neg (by decide)]
    exact go [] false (by simp)
  | cons a q =>
    rw [if_pos (by rw [gt_iff, ofNat_eq]; simp), at_zero, Option.bind_some]
    by_cases ha : a = 45
    · rw [(eqi_byte 45).2 ha]
      unfold ref12_Parse_K1 ref12_Parse_m1
      rw [if_pos rfl, cut_one, Option.bind_some]
      have : parseS (a :: q) = parseT true q := by simp [parseS, ha]
      rw [this]
      exact go q true (by simp at hl; omega)
    · have : eqi (Int.ofNat a.toNat) 45 = false := by
        cases h : eqi (Int.ofNat a.toNat) 45
        · rfl
        · exact absurd ((eqi_byte 45).1 h) ha
      rw [this]
      unfold ref12_Parse_K1 ref12_Parse_m1
      rw [if_neg (by decide)]
      have : parseS (a :: q) = parseT false (a :: q) := by simp [parseS, ha]
      rw [this]
      exact go (a :: q) false hl
end Go.Proofs.Lx

end

section
/- Lex, as the document has it: tokens, lines, texts. -/
namespace Go.Proofs.Lx
open Go Ev Sx Pl
set_option maxRecDepth 10000
abbrev Tk1 := Int × List UInt8 × (Int × Int) × Int
def kd (c : UInt8) : Int := if w1 c.toNat then 1 else if n1 c.toNat then 2 else if e1 c.toNat then 3 else 0
theorem excl3 (c : UInt8) : (w1 c.toNat = true → n1 c.toNat = false ∧ e1 c.toNat = false) ∧ (n1 c.toNat = true → e1 c.toNat = false) := by
  have := all8 (p := fun n => (!(w1 n) || (!(n1 n) && !(e1 n))) && (!(n1 n) || !(e1 n))) (by kernel_rfl) c
  constructor
  · intro h; simp [h] at this; exact this.1
  · intro h; simp [h] at this; exact this.2
theorem amb_kind (j2 : Int → TL → Option RL) (j3 : Int → List UInt8 → TL → Int → List UInt8 → Int → Int → Int → Option RL) (self1 : Int → List UInt8 → TL → Option RL) (a : Int) (t : List UInt8) (c : UInt8) (q : List UInt8) (l : TL)
    (ht : strings_TrimLeft (t, [9, 13, 32], ()) = some (c :: q, ())) : lex_line_m1 j2 j3 self1 a t l = j3 a (c :: q) l (kd c) [] 0 0 a := by
  have e4 : eqs (c :: q) [] = false := rfl
  have hr : ∀ x, eqAs lex_line_s.rs x x = true := eqAs_refl _
  obtain ⟨x1, x2⟩ := excl3 c
  unfold lex_line_m1 kd
  rw [ht, Option.bind_some]
  have e1 : lex_classes_z1 (Int.ofNat c.toNat, ()) = some (w1 c.toNat, ()) := lex_classes_z1_eq c
  have e2 : lex_classes_z3 (Int.ofNat c.toNat, ()) = some (n1 c.toNat, ()) := lex_classes_z3_eq c
  have e3 : lex_classes_z5 (Int.ofNat c.toNat, ()) = some (Lx.e1 c.toNat, ()) := lex_classes_z5_eq c
  simp only [e4, Bool.false_eq_true, if_false, at_zero, Option.bind_some]
  rw [e1, e2, e3]
  simp only [Option.bind_some]
  cases hw : w1 c.toNat
  · cases hn : n1 c.toNat
    · cases he : Lx.e1 c.toNat
      · simp only [Bool.false_eq_true, if_false, if_true]
        rw [amb2 hr]
        exact amb3 hr _
      · simp only [Bool.false_eq_true, if_false, if_true]
        rw [amb2 hr]
        exact amb3 hr _
    · have he := x2 hn
      rw [he]
      simp only [Bool.false_eq_true, if_false, if_true]
      rw [amb2 hr]
      exact amb3 hr _
  · obtain ⟨hn, he⟩ := x1 hw
    rw [hn, he]
    simp only [Bool.false_eq_true, if_false, if_true]
    rw [amb2 hr]
    exact amb3 hr _
/-- the rest of a token -/
def moreK (k : Int) (n : Nat) : Bool := if k = 1 then wm n else if k = 2 then nm n else false
theorem c1n_step (g : Int → List UInt8 → Option (As [.str, .str])) (n : Int) (t : List UInt8) : lex_line_z1_n_m1 (lex_line_z1_n_K2 g) g n t = if lt n (Int.ofNat t.length) = true then (at? t n).bind fun c => (lex_classes_z4 (Int.ofNat c.toNat, ())).bind fun y => if y.1 = true then g (add .i64 n 1) t else lex_line_z1_n_m3 n t else lex_line_z1_n_m3 n t := rfl
theorem c1n_app (p q : List UInt8) : lex_line_z1_n_m3 (p.length : Int) (p ++ q) = some (p, q, ()) := by
  unfold lex_line_z1_n_m3
  rw [cut_app0, Option.bind_some, cut_app1, Option.bind_some]
theorem c1n_loop : ∀ (q p : List UInt8) (n : Nat), q.length < n → p.length + q.length < 1000000 →
    loopF (fun (self : Int × List UInt8 → Option (As [.str, .str])) (s : Int × List UInt8) => lex_line_z1_n_m1 (lex_line_z1_n_K2 (fun n t1 => self (n, t1))) (fun n t1 => self (n, t1)) s.1 s.2) n ((p.length : Int), p ++ q) =
      some (p ++ q.takeWhile (fun c => nm c.toNat), q.dropWhile (fun c => nm c.toNat), ())
  | q, p, 0, h, _ => by omega
  | [], p, n + 1, h, hl => by
    have h1 : lt (p.length : Int) (Int.ofNat (p ++ []).length) = false := by simp [lt]
    refine (c1n_step _ _ _).trans ?_
    rw [if_neg (by rw [h1]; decide), c1n_app]
    simp
  | c :: q, p, n + 1, h, hl => by
    have h1 : lt (p.length : Int) (Int.ofNat (p ++ c :: q).length) = true := by simp [lt]; omega
    have ih := c1n_loop q (p ++ [c]) n (by simp at h; omega) (by simp at hl ⊢; omega)
    refine (c1n_step _ _ _).trans ?_
    rw [if_pos h1, at_app, Option.bind_some, lex_classes_z4_eq, Option.bind_some]
    cases hb : nm c.toNat
    · simp only [Bool.false_eq_true, if_false, c1n_app, List.takeWhile_cons, List.dropWhile_cons, hb, List.append_nil]
    · have ha : add .i64 (p.length : Int) 1 = ((p ++ [c]).length : Int) := by
        unfold add
        rw [w64 (by omega) (by simp at hl; omega)]
        simp
      have e : p ++ c :: q = (p ++ [c]) ++ q := by simp
      simp only [if_true, ha, List.takeWhile_cons, List.dropWhile_cons, hb]
      rw [e, ih]
      simp
theorem c1n_eq (c : UInt8) (q : List UInt8) (h : q.length < 100000) : lex_line_z1_n (c :: q, ()) = some (c :: q.takeWhile (fun c => nm c.toNat), q.dropWhile (fun c => nm c.toNat), ()) :=
  c1n_loop q [c] 18446744073709551616 (by omega) (by simp; omega)
theorem c1e_eq (c : UInt8) (q : List UInt8) : lex_line_z1_e (c :: q, ()) = some ([c], q, ()) := by
  have hm3 : lex_line_z1_e_m3 1 (c :: q) = some ([c], q, ()) := by
    unfold lex_line_z1_e_m3
    have h1 : cut (c :: q) 0 1 = some [c] := cut_app0 [c] q
    rw [h1, Option.bind_some, cut_one, Option.bind_some]
  have step : ∀ (g : Int → List UInt8 → Option (As [.str, .str])), lex_line_z1_e_m1 (lex_line_z1_e_K2 g) g 1 (c :: q) = some ([c], q, ()) := fun g => by
    unfold lex_line_z1_e_m1
    have hK : lex_line_z1_e_K2 g 1 false (c :: q) = some ([c], q, ()) := by
      unfold lex_line_z1_e_K2 lex_line_z1_e_m2
      rw [if_neg (by decide)]
      exact hm3
    have hf : ∀ x, lex_classes_z6 (x, ()) = some (false, ()) := fun x => rfl
    cases q with
    | nil => rw [if_neg (by simp [lt])]; exact hK
    | cons d r =>
      rw [if_pos (by rw [lt_iff, ofNat_eq]; simp; omega), show at? (c :: d :: r) 1 = some d from rfl, Option.bind_some, hf, Option.bind_some]
      exact hK
  exact step _
/-- a token, and what is behind it; or what is wrong -/
def tokS (a : Int) (c : UInt8) (q : List UInt8) : Int ⊕ (Tk1 × List UInt8) :=
  if w1 c.toNat then (if 20 < (c :: q.takeWhile (fun c => wm c.toNat)).length then .inl 133 else .inr ((1, c :: q.takeWhile (fun c => wm c.toNat), (0, 0), a), q.dropWhile (fun c => wm c.toNat)))
  else if n1 c.toNat then (if (parseS (c :: q.takeWhile (fun c => nm c.toNat))).2 = true then .inr ((2, c :: q.takeWhile (fun c => nm c.toNat), (parseS (c :: q.takeWhile (fun c => nm c.toNat))).1, a), q.dropWhile (fun c => nm c.toNat)) else .inl 132)
  else if e1 c.toNat then .inr ((3, [c], (0, 0), a), q)
  else .inl 131
theorem tokS_len {a : Int} {c : UInt8} {q : List UInt8} {t : Tk1} {r : List UInt8} (h : tokS a c q = .inr (t, r)) : r.length ≤ q.length := by
  have hd : ∀ p : UInt8 → Bool, (q.dropWhile p).length ≤ q.length := fun p => (List.dropWhile_suffix p).length_le
  unfold tokS at h
  split at h
  · split at h
    · cases h
    · cases h; exact hd _
  · split at h
    · split at h
      · cases h; exact hd _
      · cases h
    · split at h
      · cases h; exact Nat.le_refl _
      · cases h
theorem line_tok (self : Int × List UInt8 × TL → Option RL) (a : Int) (t : List UInt8) (c : UInt8) (q : List UInt8) (l : TL) (ht : strings_TrimLeft (t, [9, 13, 32], ()) = some (c :: q, ())) (hq : q.length < 100000) (hl : l.length < 1000000) :
    lineB self (a, t, l) = match tokS a c q with
      | .inl e => some ([], e, ())
      | .inr (tk, r) => self (a, r, l ++ [tk]) := by
  refine (amb_kind _ _ _ a t c q l ht).trans ?_
  have hs : small (l.length + 1) = true := small_iff.2 (by omega)
  unfold lex_line_K3 lex_line_m3 kd tokS
  cases hw : w1 c.toNat
  · cases hn : n1 c.toNat
    · cases he : Lx.e1 c.toNat
      · rfl
      · simp only [Bool.false_eq_true, if_false, if_true]
        rw [if_neg (by decide), if_neg (by decide), if_pos (by decide), c1e_eq, Option.bind_some]
        unfold lex_classes_z7 lex_classes_z7_m0
        simp only [Option.bind_some]
        rw [if_neg (by decide), need_t hs]
    · simp only [Bool.false_eq_true, if_false, if_true]
      rw [if_neg (by decide), if_pos (by decide), c1n_eq c q hq, Option.bind_some]
      have hlen : (c :: q.takeWhile (fun c => nm c.toNat)).length < 1000000 := by
        have := (List.takeWhile_prefix (l := q) (fun c => nm c.toNat)).length_le
        simp; omega
      generalize c :: q.takeWhile (fun c => nm c.toNat) = u at hlen ⊢
      unfold lex_number lex_number_m0
      simp only
      rw [parse_eq hlen, Option.bind_some]
      cases hp : (parseS u).2
      · simp only [Bool.not_false, if_true, Option.bind_some, Bool.false_eq_true, if_false]
        rw [if_pos (by decide)]
      · simp only [Bool.not_true, if_true, Option.bind_some, Bool.false_eq_true, if_false]
        rw [if_neg (by decide), need_t hs]
  · simp only [if_true]
    rw [if_pos (by decide), lex_line_z1_eq c q hq, Option.bind_some]
    generalize c :: q.takeWhile (fun c => wm c.toNat) = u
    unfold lex_word lex_word_m0
    by_cases h : 20 < u.length
    · have h2 : gt (Int.ofNat u.length) 20 = true := by simp [gt]; omega
      simp only [h2, if_true, Option.bind_some, if_pos h]
      rw [if_pos (by decide)]
    · have h2 : gt (Int.ofNat u.length) 20 = false := by simp [gt]; omega
      simp only [h2, Bool.false_eq_true, if_false, Option.bind_some, if_neg h]
      rw [if_neg (by decide), need_t hs]
/-- the tokens of what is left of a line -/
def lineT (a : Int) (s : List UInt8) (l : TL) : TL × Int :=
  match h : s.dropWhile (fun c => isB c.toNat) with
  | [] => (if l = [] then [] else l ++ [(4, [], (0, 0), a)], 0)
  | c :: q => match h2 : tokS a c q with
    | .inl e => ([], e)
    | .inr (t, r) => lineT a r (l ++ [t])
termination_by s.length
decreasing_by
  have h1 := tokS_len h2
  have h3 := (List.dropWhile_suffix (l := s) (fun c => isB c.toNat)).length_le
  rw [h] at h3
  simp at h3
  omega
theorem lineT_nil {a : Int} {s : List UInt8} {l : TL} (h : s.dropWhile (fun c => isB c.toNat) = []) : lineT a s l = (if l = [] then [] else l ++ [(4, [], (0, 0), a)], 0) := by
  rw [lineT]
  split
  · rfl
  · rename_i h2; rw [h] at h2; cases h2
theorem lineT_err {a : Int} {s : List UInt8} {l : TL} {c : UInt8} {q : List UInt8} {e : Int} (h : s.dropWhile (fun c => isB c.toNat) = c :: q) (h2 : tokS a c q = .inl e) : lineT a s l = ([], e) := by
  rw [lineT]
  split
  · rename_i h3; rw [h] at h3; cases h3
  · rename_i c' q' h3
    rw [h] at h3
    cases h3
    split
    · rename_i e' h4; rw [h2] at h4; cases h4; rfl
    · rename_i h4; rw [h2] at h4; cases h4
theorem lineT_tok {a : Int} {s : List UInt8} {l : TL} {c : UInt8} {q : List UInt8} {t : Tk1} {r : List UInt8} (h : s.dropWhile (fun c => isB c.toNat) = c :: q) (h2 : tokS a c q = .inr (t, r)) : lineT a s l = lineT a r (l ++ [t]) := by
  rw [lineT]
  split
  · rename_i h3; rw [h] at h3; cases h3
  · rename_i c' q' h3
    rw [h] at h3
    cases h3
    split
    · rename_i e' h4; rw [h2] at h4; cases h4
    · rename_i t' r' h4; rw [h2] at h4; cases h4; rfl
theorem line_loop : ∀ (n : Nat) (st : Int × List UInt8 × TL), (st.2.1.length < 90000 ∧ st.2.2.length + st.2.1.length < 100000) → st.2.1.length < n → loopF lineB n st = some ((lineT st.1 st.2.1 st.2.2).1, (lineT st.1 st.2.1 st.2.2).2, ()) := by
  refine loopF_eq (σ := Int × List UInt8 × TL) (μ := fun st => st.2.1.length) (G := fun st => some ((lineT st.1 st.2.1 st.2.2).1, (lineT st.1 st.2.1 st.2.2).2, ())) ?_
  rintro self ⟨a, s, l⟩ ⟨h1, h2⟩ ih
  simp only at h1 h2 ih ⊢
  have h3 := (List.dropWhile_suffix (l := s) (fun c => isB c.toNat)).length_le
  have ht := strings_TrimLeft_eq (s := s) (by omega)
  cases hd : s.dropWhile (fun c => isB c.toNat) with
  | nil =>
    rw [lineT_nil hd]
    rw [hd] at ht
    show lex_line_m1 _ _ _ a s l = _
    unfold lex_line_m1
    rw [ht, Option.bind_some, if_pos (by decide)]
    unfold lex_line_K2 lex_line_m2
    cases l with
    | nil => rfl
    | cons x y =>
      rw [if_pos (by rw [gt_iff, ofNat_eq]; simp), need_small (by simp at h2 ⊢; omega)]
      rfl
  | cons c q =>
    rw [hd] at ht h3
    simp at h3
    rw [line_tok self a s c q l ht (by omega) (by omega)]
    cases h4 : tokS a c q with
    | inl e => rw [lineT_err hd h4]
    | inr p =>
      obtain ⟨t, r⟩ := p
      rw [lineT_tok hd h4]
      have h5 := tokS_len h4
      exact ih (a, r, l ++ [t]) ⟨by show r.length < _; omega, by show (l ++ [t]).length + r.length < _; simp; omega⟩ (by show r.length < _; omega)
/-- what is ahead of a comment -/
def uncom (s : List UInt8) : List UInt8 := s.takeWhile (· != 35)
theorem line_eq (s : List UInt8) (n : Int) (h : s.length < 80000) : lex_line (s, n, ()) = some ((lineT n (uncom s) []).1, (lineT n (uncom s) []).2, ()) := by
  show lex_line_m0 lex_line_K1 s n = _
  unfold lex_line_m0
  have go : ∀ t : List UInt8, t.length < 80000 → lex_line_K1 n t [] = some ((lineT n t []).1, (lineT n t []).2, ()) := fun t ht => line_loop 18446744073709551616 (n, t, []) ⟨by show t.length < _; omega, by show ([] : TL).length + t.length < _; simp; omega⟩ (by show t.length < _; omega)
  by_cases he : s = [35]
  · subst he
    rw [if_pos (by decide), show cut ([35] : List UInt8) 1 (Int.ofNat [(35 : UInt8)].length) = some [] from rfl, Option.bind_some]
    exact go [] (by simp)
  · rw [if_neg (by rw [eqs_iff]; exact fun h => he h.symm)]
    rcases split_at 35 s with h35 | ⟨p, q, rfl, h35⟩
    · rw [index_no 35 s h35, if_neg (by decide)]
      have : uncom s = s := (tw_no h35).1
      rw [this]
      exact go s h
    · simp at h
      rw [index_yes 35 p q h35, if_pos (by rw [ge_iff]; omega), cut_app0, Option.bind_some, succ64 (by omega), cut_from (by simp), Option.bind_some]
      have : uncom (p ++ 35 :: q) = p := (tw_yes h35).1
      rw [this]
      exact go p (by omega)
end Go.Proofs.Lx

end
