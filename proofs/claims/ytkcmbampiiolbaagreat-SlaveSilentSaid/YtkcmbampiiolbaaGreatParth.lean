/- Proved in the last of these 12 parts (this is part 8): SlaveSilent returns true, whatever the bank, what came ahead, the unit, the bytes, the place and the pattern. Conditions: those of the given statement, and no others. -/
import Derived.Test.YtkcmbampiiolbaaGreatParte
import Derived.Test.YtkcmbampiiolbaaGreatPartg
import Derived.Test.YtkcmbampiiolbaaGreatProg
set_option linter.unusedVariables false
set_option linter.unusedSimpArgs false
set_option linter.unusedSectionVars false
section
open Go Go.Proofs Ev Sx
set_option maxRecDepth 100000
namespace Go.Proofs.Lx
abbrev YaA4q0:Type:=Int×Int×YTT2×List Bool
@[reducible] def q7f_:Sh:=⟨[.d (.pr (.int .u32) (.pr (.ar 8 .bool) (.ar 8 YTT8))),.d (.int .i64),.d YTT8],[],[.pr (.int .u32) (.pr (.ar 8 .bool) (.ar 8 YTT8)),.int .i64,.pr (.int .i64) (.sl (.int .u16))],[.d (.pr (.int .u32) (.pr (.ar 8 .bool) (.ar 8 YTT8))),.d (.int .i64)],[],0,[.pr (.int .u32) (.pr (.ar 8 .bool) (.ar 8 YTT8)),.int .i64]⟩
def qbk_:Env:=(cts [(75,(⟨qf4_,q9m_⟩:Ct)),(76,(⟨qe7_,q8h_⟩:Ct)),(79,(⟨qi5_,qe3_⟩:Ct))])
def qb7_:List (Nat×Hint):=[(31,⟨[],[3,6]⟩),(250,⟨[],[3,6,26,27]⟩)]
def qex_ (s t6:Int) (t26:List Bool) (t27:Int) (s_2 t6_2:List YTT9):St:={ fr:=[(3,.prw 0 s 25 0),(6,.prw 1 t6 25 0),(26,.d (.ar 8 .bool) t26),(27,.d (.int .i64) t27)],nt:=46,up:=[],own:=[(0,.row (.pr (.int .u32) (.pr (.ar 8 .bool) (.ar 8 YTT8))) 33 s_2),(1,.row (.pr (.int .u32) (.pr (.ar 8 .bool) (.ar 8 YTT8))) 33 t6_2)],nx:=2,log:=[],ln:=0 }
def qrz_ (s t6:Int) (s_2 t6_2:List YTT9):St:={ fr:=[(3,.prw 0 s 25 0),(6,.prw 1 t6 25 0)],nt:=46,up:=[],own:=[(0,.row (.pr (.int .u32) (.pr (.ar 8 .bool) (.ar 8 YTT8))) 33 s_2),(1,.row (.pr (.int .u32) (.pr (.ar 8 .bool) (.ar 8 YTT8))) 33 t6_2)],nx:=2,log:=[],ln:=0 }
def qfk_ (j2:Int->Int->List YTT9->List YTT9->Option (As [.pr (.int .u32) (.pr (.ar 8 .bool) (.ar 8 YTT8)),.int .i64])) (self1:Int->Int->List Bool->Int->List YTT9->List YTT9->Option (As [.pr (.int .u32) (.pr (.ar 8 .bool) (.ar 8 YTT8)),.int .i64])) (s t6:Int) (t26:List Bool) (t27:Int) (s_2 t6_2:List YTT9):Option (As [.pr (.int .u32) (.pr (.ar 8 .bool) (.ar 8 YTT8)),.int .i64]) :=
 if lt t27 8=true then need (lt t27 8) (Option.bind (at? t26 t27) fun y=>if y=true then need (ge t27 0) (need (lt t27 8) (Option.bind (at? s_2 s) fun y=>Option.bind (at? y.2.2 t27) fun z=>Option.bind (qe3_ (z,())) fun y=>need (ge t27 0) (need (lt t27 8) (Option.bind (at? s_2 s) fun x=>Option.bind (at? x.2.2 t27) fun z=>self1 s t6 t26 (add .i64 t27 1) (List.set s_2 (Int.toNat s) (x.1,x.2.1,List.set x.2.2 (Int.toNat t27) y.1)) t6_2)))) else need (ge t27 0) (need (lt t27 8) (Option.bind (at? s_2 s) fun x=>Option.bind (at? x.2.2 t27) fun z=>self1 s t6 t26 (add .i64 t27 1) (List.set s_2 (Int.toNat s) (x.1,x.2.1,List.set x.2.2 (Int.toNat t27) (0,[]))) t6_2))) else j2 s t6 s_2 t6_2
def q13n_ (s t6:Int) (s_2 t6_2:List YTT9):Option (As [.pr (.int .u32) (.pr (.ar 8 .bool) (.ar 8 YTT8)),.int .i64]) :=
 Option.bind (at? s_2 s) fun y=>Option.bind (at? t6_2 t6) fun x=>Option.bind (at? (List.set t6_2 (Int.toNat t6) y) t6) fun y_1=>Option.bind (at? (List.set t6_2 (Int.toNat t6) y) t6) fun y=>some (y,0,())
def qqn_ (j1:Int->Int->List Bool->Int->List YTT9->List YTT9->Option (As [.pr (.int .u32) (.pr (.ar 8 .bool) (.ar 8 YTT8)),.int .i64])) (s:Int×List Bool×List (Int×List Int)) (n:Int) (x:Int×List Int):Option (As [.pr (.int .u32) (.pr (.ar 8 .bool) (.ar 8 YTT8)),.int .i64]) :=
 Option.bind (q9m_ (n,())) fun y=>if (!y.1)=true then some (zSt,2,()) else Option.bind (q8h_ (x,())) fun y=>if (!y.1)=true then some (zSt,20,()) else need (ge n 0) (need (lt n 8) (Option.bind (at? s.2.1 n) fun z=>need (ge n 0) (need (lt n 8) (Option.bind (at? s.2.2 n) fun z=>j1 0 0 (List.set s.2.1 (Int.toNat n) true) 0 [(s.1,List.set s.2.1 (Int.toNat n) true,List.set s.2.2 (Int.toNat n) x)] [zSt]))))
def qw3_ (s t6:Int) (s_2 t6_2:List YTT9):Option (As [.pr (.int .u32) (.pr (.ar 8 .bool) (.ar 8 YTT8)),.int .i64]):=q13n_ s t6 s_2 t6_2
def qj8_ (s t6:Int) (t26:List Bool) (t27:Int) (s_2 t6_2:List YTT9):Option (As [.pr (.int .u32) (.pr (.ar 8 .bool) (.ar 8 YTT8)),.int .i64]) :=
 loopF (fun (self:(Int)×(Int)×(List Bool)×(Int)×(List YTT9)×(List YTT9)->Option (As [.pr (.int .u32) (.pr (.ar 8 .bool) (.ar 8 YTT8)),.int .i64])) (s:(Int)×(Int)×(List Bool)×(Int)×(List YTT9)×(List YTT9))=>qfk_ (qw3_) (fun s t6 t26 t27 s_2 t6_2=>self (s,t6,t26,t27,s_2,t6_2)) s.1 s.2.1 s.2.2.1 s.2.2.2.1 s.2.2.2.2.1 s.2.2.2.2.2) 18446744073709551616 (s,t6,t26,t27,s_2,t6_2)
def qtp_ (x:As [.pr (.int .u32) (.pr (.ar 8 .bool) (.ar 8 YTT8)),.int .i64,.pr (.int .i64) (.sl (.int .u16))]):Option (As [.pr (.int .u32) (.pr (.ar 8 .bool) (.ar 8 YTT8)),.int .i64]):=qqn_ qj8_ x.1 x.2.1 x.2.2.1
theorem q1g5_ (J:Orc (As [.pr (.int .u32) (.pr (.ar 8 .bool) (.ar 8 YTT8)),.int .i64])) (s t6:Int) (s_2 t6_2:List YTT9):pfn Tryz.prog qbk_ 6 18446744073709551616 (Ev.get qb7_) 216 q7f_ J 31 [] (qrz_ s t6 s_2 t6_2)=q13n_ s t6 s_2 t6_2:=by kernel_rfl
theorem q1hb_ (J:Orc (As [.pr (.int .u32) (.pr (.ar 8 .bool) (.ar 8 YTT8)),.int .i64])) (w1:St->Option (As [.pr (.int .u32) (.pr (.ar 8 .bool) (.ar 8 YTT8)),.int .i64])) (s t6:Int) (t26:List Bool) (t27:Int) (s_2 t6_2:List YTT9):pfn Tryz.prog qbk_ 6 18446744073709551616 (Ev.get qb7_) 216 q7f_ J 250 [w1] (qex_ s t6 t26 t27 s_2 t6_2)=qfk_ (fun s t6 s_2 t6_2=>J 31 [] (qrz_ s t6 s_2 t6_2)) (fun s t6 t26 t27 s_2 t6_2=>w1 (qex_ s t6 t26 t27 s_2 t6_2)) s t6 t26 t27 s_2 t6_2:=by kernel_rfl
theorem q1g3_ (J:Orc (As [.pr (.int .u32) (.pr (.ar 8 .bool) (.ar 8 YTT8)),.int .i64])) (x:As [.pr (.int .u32) (.pr (.ar 8 .bool) (.ar 8 YTT8)),.int .i64,.pr (.int .i64) (.sl (.int .u16))]):rfn Tryz.prog qbk_ 6 18446744073709551616 (Ev.get qb7_) 216 q7f_ J x=qqn_ (fun s t6 t26 t27 s_2 t6_2=>J 250 [] (qex_ s t6 t26 t27 s_2 t6_2)) x.1 x.2.1 x.2.2.1:=by kernel_rfl
theorem q1ec_ (s t6:Int) (s_2 t6_2:List YTT9):jfn Tryz.prog qbk_ 6 18446744073709551616 (Ev.get qb7_) 216 q7f_ 31 [] (qrz_ s t6 s_2 t6_2)=qw3_ s t6 s_2 t6_2:=by
 rw [q8_ (by decide)]
 rw [q1g5_]
 rfl
theorem q1eo_ (s t6:Int) (t26:List Bool) (t27:Int) (s_2 t6_2:List YTT9):jfn Tryz.prog qbk_ 6 18446744073709551616 (Ev.get qb7_) 216 q7f_ 250 [] (qex_ s t6 t26 t27 s_2 t6_2)=qj8_ s t6 t26 t27 s_2 t6_2:=by
 rw [q8_ (by decide)]
 rw [qr_ (by kernel_rfl)]
 refine qi_ (σ:=(Int)×(Int)×(List Bool)×(Int)×(List YTT9)×(List YTT9)) (mk:=fun s=>qex_ s.1 s.2.1 s.2.2.1 s.2.2.2.1 s.2.2.2.2.1 s.2.2.2.2.2) (fun w1 s=>?_) 18446744073709551616 (s,t6,t26,t27,s_2,t6_2)
 have e2:(fun s t6 s_2 t6_2=>(jfn Tryz.prog qbk_ 6 18446744073709551616 (Ev.get qb7_) 216 q7f_) 31 [] (qrz_ s t6 s_2 t6_2))=qw3_:=by funext s t6 s_2 t6_2; exact q1ec_ s t6 s_2 t6_2
 refine (q1hb_ _ w1 s.1 s.2.1 s.2.2.1 s.2.2.2.1 s.2.2.2.2.1 s.2.2.2.2.2).trans ?_
 rw [e2]
theorem q1j2_ (x:As [.pr (.int .u32) (.pr (.ar 8 .bool) (.ar 8 YTT8)),.int .i64,.pr (.int .i64) (.sl (.int .u16))]):evT Tryz.prog qbk_ 6 18446744073709551616 (Ev.get qb7_) 216 q7f_ x=qtp_ x:=by
 have e1:(fun s t6 t26 t27 s_2 t6_2=>(jfn Tryz.prog qbk_ 6 18446744073709551616 (Ev.get qb7_) 216 q7f_) 250 [] (qex_ s t6 t26 t27 s_2 t6_2))=qj8_:=by funext s t6 t26 t27 s_2 t6_2; exact q1eo_ s t6 t26 t27 s_2 t6_2
 rw [q5_,q1g3_,e1]
 rfl
theorem q1h8_:CtOk Tryz.prog (fun _=>True) 216 ⟨q7f_,qtp_⟩:=q3_ (q0_ qx4_ (q0_ qph_ (q0_ qwg_ q4_))) q1j2_
@[reducible] def qe6_:Sh:=⟨[.d (.pr (.sl (.int .u16)) YTT0),.d (.int .u16),.d (.int .u32),.d (.int .i64),.d YTT8],[],[.pr (.sl (.int .u16)) YTT0,.int .u16,.int .u32,.int .i64,.pr (.int .i64) (.sl (.int .u16))],[.d (.pr (.sl (.int .u16)) YTT0),.d (.int .i64)],[],0,[.pr (.sl (.int .u16)) YTT0,.int .i64]⟩
def qm3_:Env:=(cts [(178,(⟨q4l_,q9o_⟩:Ct)),(214,(⟨qfg_,q35_⟩:Ct)),(215,(⟨qkd_,qe9_⟩:Ct)),(216,(⟨q7f_,qtp_⟩:Ct)),(217,(⟨qhr_,q9c_⟩:Ct))])
def qlg_:List (Nat×Hint):=[(14,⟨[],[1,2,3,5,9,10,21]⟩)]
def qqt_ (owner tx n a t10:Int) (t21:Bool) (a_2:List YTT2) (x:Int×List Int) (t10_2:List YTT2):St:={ fr:=[(1,.d (.int .u16) owner),(2,.d (.int .u32) tx),(3,.d (.int .i64) n),(5,.prw 0 a 32 0),(9,.pb 1 0),(10,.prw 2 t10 32 0),(21,.d .bool t21)],nt:=49,up:=[],own:=[(0,.row (.pr (.sl (.int .u16)) YTT0) 35 a_2),(1,.box 30 [.d (.int .i64) x.1,.d (.sl (.int .u16)) x.2]),(2,.row (.pr (.sl (.int .u16)) YTT0) 35 t10_2)],nx:=3,log:=[],ln:=0 }
def qpu_ (owner tx n a t10:Int) (t21:Bool) (a_2:List YTT2) (x:Int×List Int) (t10_2:List YTT2):Option (As [.pr (.sl (.int .u16)) YTT0,.int .i64]) :=
 if t21=true then Option.bind (at? a_2 a) fun y=>Option.bind (at? t10_2 t10) fun x=>Option.bind (at? (List.set t10_2 (Int.toNat t10) y) t10) fun y_1=>Option.bind (at? (List.set t10_2 (Int.toNat t10) y) t10) fun y=>some (y,2,()) else Option.bind (at? a_2 a) fun y=>Option.bind (q35_ (y,owner,())) fun y=>if y.1=true then Option.bind (at? a_2 a) fun y=>Option.bind (at? t10_2 t10) fun x=>Option.bind (at? (List.set t10_2 (Int.toNat t10) y) t10) fun y_1=>Option.bind (at? (List.set t10_2 (Int.toNat t10) y) t10) fun y=>some (y,22,()) else Option.bind (at? a_2 a) fun y=>Option.bind (qe9_ (y,1,tx,())) fun y=>if (!y.1)=true then Option.bind (at? a_2 a) fun y=>Option.bind (at? t10_2 t10) fun x=>Option.bind (at? (List.set t10_2 (Int.toNat t10) y) t10) fun y_1=>Option.bind (at? (List.set t10_2 (Int.toNat t10) y) t10) fun y=>some (y,23,()) else Option.bind (at? a_2 a) fun y=>Option.bind (qtp_ (y.2.2.2.2.2.1,n,x,())) fun y=>if nei y.2.1 0=true then Option.bind (at? a_2 a) fun y_1=>Option.bind (at? t10_2 t10) fun x=>Option.bind (at? (List.set t10_2 (Int.toNat t10) y_1) t10) fun y_2=>Option.bind (at? (List.set t10_2 (Int.toNat t10) y_1) t10) fun y_3=>some (y_3,y.2.1,()) else Option.bind (at? a_2 a) fun x=>Option.bind (at? (List.set a_2 (Int.toNat a) (x.1,x.2.1,x.2.2.1,x.2.2.2.1,x.2.2.2.2.1,y.1,x.2.2.2.2.2.2)) a) fun y=>Option.bind (q9c_ (y,owner,())) fun y=>Option.bind (at? t10_2 t10) fun x=>Option.bind (at? (List.set t10_2 (Int.toNat t10) y.1) t10) fun y_1=>Option.bind (at? (List.set t10_2 (Int.toNat t10) y.1) t10) fun y=>some (y,0,())
def qrr_ (j1:Int->Int->Int->Int->Int->Bool->List YTT2->Int×List Int->List YTT2->Option (As [.pr (.sl (.int .u16)) YTT0,.int .i64])) (a:List Int×(Int×Int)×Int×Int×Int×YTT9×Int) (owner tx n:Int) (x:Int×List Int):Option (As [.pr (.sl (.int .u16)) YTT0,.int .i64]) :=
 Option.bind (q9o_ (a,())) fun y=>if eqi owner 0=true then j1 owner tx n 0 0 true [y.1] x [zAg0] else j1 owner tx n 0 0 (eqi tx 0) [y.1] x [zAg0]
def qiz_ (owner tx n a t10:Int) (t21:Bool) (a_2:List YTT2) (x:Int×List Int) (t10_2:List YTT2):Option (As [.pr (.sl (.int .u16)) YTT0,.int .i64]):=qpu_ owner tx n a t10 t21 a_2 x t10_2
def qba_ (x:As [.pr (.sl (.int .u16)) YTT0,.int .u16,.int .u32,.int .i64,.pr (.int .i64) (.sl (.int .u16))]):Option (As [.pr (.sl (.int .u16)) YTT0,.int .i64]):=qrr_ qiz_ x.1 x.2.1 x.2.2.1 x.2.2.2.1 x.2.2.2.2.1
theorem q1fv_ (J:Orc (As [.pr (.sl (.int .u16)) YTT0,.int .i64])) (owner tx n a t10:Int) (t21:Bool) (a_2:List YTT2) (x:Int×List Int) (t10_2:List YTT2):pfn Tryz.prog qm3_ 6 18446744073709551616 (Ev.get qlg_) 205 qe6_ J 14 [] (qqt_ owner tx n a t10 t21 a_2 x t10_2)=qpu_ owner tx n a t10 t21 a_2 x t10_2:=by kernel_rfl
theorem q1fa_ (J:Orc (As [.pr (.sl (.int .u16)) YTT0,.int .i64])) (x:As [.pr (.sl (.int .u16)) YTT0,.int .u16,.int .u32,.int .i64,.pr (.int .i64) (.sl (.int .u16))]):rfn Tryz.prog qm3_ 6 18446744073709551616 (Ev.get qlg_) 205 qe6_ J x=qrr_ (fun owner tx n a t10 t21 a_2 x t10_2=>J 14 [] (qqt_ owner tx n a t10 t21 a_2 x t10_2)) x.1 x.2.1 x.2.2.1 x.2.2.2.1 x.2.2.2.2.1:=by kernel_rfl
theorem q1e0_ (owner tx n a t10:Int) (t21:Bool) (a_2:List YTT2) (x:Int×List Int) (t10_2:List YTT2):jfn Tryz.prog qm3_ 6 18446744073709551616 (Ev.get qlg_) 205 qe6_ 14 [] (qqt_ owner tx n a t10 t21 a_2 x t10_2)=qiz_ owner tx n a t10 t21 a_2 x t10_2:=by
 rw [q8_ (by decide)]
 rw [q1fv_]
 rfl
theorem q1ii_ (x:As [.pr (.sl (.int .u16)) YTT0,.int .u16,.int .u32,.int .i64,.pr (.int .i64) (.sl (.int .u16))]):evT Tryz.prog qm3_ 6 18446744073709551616 (Ev.get qlg_) 205 qe6_ x=qba_ x:=by
 have e1:(fun owner tx n a t10 t21 a_2 x t10_2=>(jfn Tryz.prog qm3_ 6 18446744073709551616 (Ev.get qlg_) 205 qe6_) 14 [] (qqt_ owner tx n a t10 t21 a_2 x t10_2))=qiz_:=by funext owner tx n a t10 t21 a_2 x t10_2; exact q1e0_ owner tx n a t10 t21 a_2 x t10_2
 rw [q5_,q1fa_,e1]
 rfl
theorem q1gl_:CtOk Tryz.prog (fun _=>True) 205 ⟨qe6_,qba_⟩:=q3_ (q0_ qs5_ (q0_ qx3_ (q0_ qxv_ (q0_ q1h8_ (q0_ qzd_ q4_))))) q1ii_
@[reducible] def q2e_:Sh:=⟨[.agg [.d (.int .u8),.d (.int .u8),.d (.sl (.int .u16)),.d (.int .u16),.d (.int .i64),.d (.int .u8),.d (.int .u32),.d (.int .u32),.d (.int .u32),.d (.bool),.d (.bool),.d (.bool),.d (.bool),.d (.bool),.d (.bool),.d (.bool),.d (.bool),.d (.int .i64),.d (.sl (.int .u16)),.d (.int .i64),.d (.sl (.int .u16)),.d (.int .i64),.d (.sl (.int .u16)),.d (.int .i64),.d (.sl (.int .u16)),.d (.int .i64),.d (.sl (.int .u16)),.d (.int .i64),.d (.sl (.int .u16)),.d (.int .i64),.d (.sl (.int .u16)),.d (.int .i64),.d (.sl (.int .u16)),.d (.int .i64),.row 0],.d (.sl (.int .u8))],[.row .bool 4],[.int .u8,.int .u8,.sl (.int .u16),.int .u16,.int .i64,.int .u8,.int .u32,.int .u32,.int .u32,.bool,.bool,.bool,.bool,.bool,.bool,.bool,.bool,.int .i64,.sl (.int .u16),.int .i64,.sl (.int .u16),.int .i64,.sl (.int .u16),.int .i64,.sl (.int .u16),.int .i64,.sl (.int .u16),.int .i64,.sl (.int .u16),.int .i64,.sl (.int .u16),.int .i64,.sl (.int .u16),.int .i64,.sl (.int .u8),.sl .bool],[.d (.pr (.int .u8) (.pr (.int .u8) (.pr (.pr (.sl (.int .u16)) YTT0) (.sl .bool)))),.d (.pr (.int .u8) YTT3)],[],0,[.pr (.int .u8) (.pr (.int .u8) (.pr (.pr (.sl (.int .u16)) YTT0) (.sl .bool))),.pr (.int .u8) YTT3]⟩
def qh9_:Env:=(cts [(1000038,Ev.bxCt),(1000194,Ev.bxCt),(24,(⟨q6e_,qh0_⟩:Ct)),(49,(⟨q4d_,q5e_⟩:Ct)),(52,(⟨qvd_,qgd_⟩:Ct)),(54,(⟨q4h_,qbo_⟩:Ct)),(120,(⟨qaf_,qh_⟩:Ct)),(129,(⟨qg_,qz_⟩:Ct)),(203,(⟨qck_,qge_⟩:Ct)),(204,(⟨qri_,qed_⟩:Ct)),(205,(⟨qe6_,qba_⟩:Ct))])
def qhd_:List (Nat×Hint):=[(7,⟨[],[2,4,5,6,7]⟩)]
def qjw_ (except:Int) (o:List Bool) (s s_2:Int) (s_3:List Int) (s_4 s_5 s_6 s_7 s_8 s_9:Int) (s_10 s_11 s_12 s_13 s_14 s_15 s_16 s_17:Bool) (s_18:Int) (s_19:List Int) (s_20:Int) (s_21:List Int) (s_22:Int) (s_23:List Int) (s_24:Int) (s_25:List Int) (s_26:Int) (s_27:List Int) (s_28:Int) (s_29:List Int) (s_30:Int) (s_31:List Int) (s_32:Int) (s_33:List Int) (s_34 t4 t4_2 t4_3 t4_4 t4_5 t4_6 t4_7 t4_8:Int) (t4_9 t4_10 t4_11 t4_12 t4_13 t4_14 t4_15 t4_16:Bool) (t4_17 t4_18 t4_19 t4_20 t4_21 t4_22 t4_23 t4_24 t4_25 t5 t5_2 t5_3 t5_4:Int) (a:Int×Int×Int×Int×List Int×List Bool):St:={ fr:=[(2,.pb 1 0),(4,.pb 2 0),(5,.pb 3 0),(6,.pb 4 0),(7,.d (.int .u8) except)],nt:=43,up:=[],own:=[(0,.row .bool 4 o),(1,.box 38 [.d (.int .u8) s,.d (.int .u8) s_2,.d (.sl (.int .u16)) s_3,.d (.int .u16) s_4,.d (.int .i64) s_5,.d (.int .u8) s_6,.d (.int .u32) s_7,.d (.int .u32) s_8,.d (.int .u32) s_9,.d .bool s_10,.d .bool s_11,.d .bool s_12,.d .bool s_13,.d .bool s_14,.d .bool s_15,.d .bool s_16,.d .bool s_17,.d (.int .i64) s_18,.d (.sl (.int .u16)) s_19,.d (.int .i64) s_20,.d (.sl (.int .u16)) s_21,.d (.int .i64) s_22,.d (.sl (.int .u16)) s_23,.d (.int .i64) s_24,.d (.sl (.int .u16)) s_25,.d (.int .i64) s_26,.d (.sl (.int .u16)) s_27,.d (.int .i64) s_28,.d (.sl (.int .u16)) s_29,.d (.int .i64) s_30,.d (.sl (.int .u16)) s_31,.d (.int .i64) s_32,.d (.sl (.int .u16)) s_33,.d (.int .i64) s_34,.row 0]),(2,.box 38 [.d (.int .u8) t4,.d (.int .u8) t4_2,.k (Go.Value.slice Option.none 0 0),.d (.int .u16) t4_3,.d (.int .i64) t4_4,.d (.int .u8) t4_5,.d (.int .u32) t4_6,.d (.int .u32) t4_7,.d (.int .u32) t4_8,.d .bool t4_9,.d .bool t4_10,.d .bool t4_11,.d .bool t4_12,.d .bool t4_13,.d .bool t4_14,.d .bool t4_15,.d .bool t4_16,.d (.int .i64) t4_17,.k (Go.Value.slice Option.none 0 0),.d (.int .i64) t4_18,.k (Go.Value.slice Option.none 0 0),.d (.int .i64) t4_19,.k (Go.Value.slice Option.none 0 0),.d (.int .i64) t4_20,.k (Go.Value.slice Option.none 0 0),.d (.int .i64) t4_21,.k (Go.Value.slice Option.none 0 0),.d (.int .i64) t4_22,.k (Go.Value.slice Option.none 0 0),.d (.int .i64) t4_23,.k (Go.Value.slice Option.none 0 0),.d (.int .i64) t4_24,.k (Go.Value.slice Option.none 0 0),.d (.int .i64) t4_25,.k (Go.Value.slice Option.none 0 0)]),(3,.box 46 [.d (.int .u8) t5,.d (.int .u8) t5_2,.k (Go.Value.slice Option.none 0 0),.k (Go.Value.slice Option.none 0 0),.d (.int .u16) t5_3,.d (.int .u16) t5_4]),(4,.box 44 [.d (.int .u8) a.1,.d (.int .u16) a.2.1,.d (.int .u16) a.2.2.1,.d (.int .u16) a.2.2.2.1,.d (.sl (.int .u16)) a.2.2.2.2.1,.d (.sl .bool) a.2.2.2.2.2])],nx:=5,log:=[],ln:=1 }
def qz5_ (except:Int) (o:List Bool) (s s_2:Int) (s_3:List Int) (s_4 s_5 s_6 s_7 s_8 s_9:Int) (s_10 s_11 s_12 s_13 s_14 s_15 s_16 s_17:Bool) (s_18:Int) (s_19:List Int) (s_20:Int) (s_21:List Int) (s_22:Int) (s_23:List Int) (s_24:Int) (s_25:List Int) (s_26:Int) (s_27:List Int) (s_28:Int) (s_29:List Int) (s_30:Int) (s_31:List Int) (s_32:Int) (s_33:List Int) (s_34 t4 t4_2 t4_3 t4_4 t4_5 t4_6 t4_7 t4_8:Int) (t4_9 t4_10 t4_11 t4_12 t4_13 t4_14 t4_15 t4_16:Bool) (t4_17 t4_18 t4_19 t4_20 t4_21 t4_22 t4_23 t4_24 t4_25 t5 t5_2 t5_3 t5_4:Int) (a:Int×Int×Int×Int×List Int×List Bool):Option (As [.pr (.int .u8) (.pr (.int .u8) (.pr (.pr (.sl (.int .u16)) YTT0) (.sl .bool))),.pr (.int .u8) YTT3]) :=
 (fun (gA:TAg)=>if nei except 0=true then Option.bind (qh_ (a.1,except,())) fun y=>some ((s,s_2,gA,o),y.1,()) else if eqi a.1 5=true then if le (add .i64 (cvt .i64 a.2.1) (Int.ofNat (List.length a.2.2.2.2.2))) (Int.ofNat (List.length o))=true then need (ge a.2.1 0) (need (le a.2.1 (Int.ofNat (List.length o))) (need (le (Int.ofNat (List.length o)) (Int.ofNat (List.length o))) (need (le (a.2.1 + (Int.ofNat (List.length o) - a.2.1)) (Int.ofNat (List.length o))) (Option.bind (qz_ ((s,s_2,gA,List.take (Int.toNat a.2.1) o++List.take (Int.toNat (Int.ofNat (List.length o) - a.2.1)) a.2.2.2.2.2++List.drop (Int.toNat a.2.1 + List.length (List.take (Int.toNat (Int.ofNat (List.length o) - a.2.1)) a.2.2.2.2.2)) o),a,())) fun y=>some ((s,s_2,gA,List.take (Int.toNat a.2.1) o++List.take (Int.toNat (Int.ofNat (List.length o) - a.2.1)) a.2.2.2.2.2++List.drop (Int.toNat a.2.1 + List.length (List.take (Int.toNat (Int.ofNat (List.length o) - a.2.1)) a.2.2.2.2.2)) o),y.1,()))))) else Option.bind (qz_ ((s,s_2,gA,o),a,())) fun y=>some ((s,s_2,gA,o),y.1,()) else if eqi a.1 15=true then if le (add .i64 (cvt .i64 a.2.1) (Int.ofNat (List.length a.2.2.2.2.2))) (Int.ofNat (List.length o))=true then need (ge a.2.1 0) (need (le a.2.1 (Int.ofNat (List.length o))) (need (le (Int.ofNat (List.length o)) (Int.ofNat (List.length o))) (need (le (a.2.1 + (Int.ofNat (List.length o) - a.2.1)) (Int.ofNat (List.length o))) (Option.bind (qz_ ((s,s_2,gA,List.take (Int.toNat a.2.1) o++List.take (Int.toNat (Int.ofNat (List.length o) - a.2.1)) a.2.2.2.2.2++List.drop (Int.toNat a.2.1 + List.length (List.take (Int.toNat (Int.ofNat (List.length o) - a.2.1)) a.2.2.2.2.2)) o),a,())) fun y=>some ((s,s_2,gA,List.take (Int.toNat a.2.1) o++List.take (Int.toNat (Int.ofNat (List.length o) - a.2.1)) a.2.2.2.2.2++List.drop (Int.toNat a.2.1 + List.length (List.take (Int.toNat (Int.ofNat (List.length o) - a.2.1)) a.2.2.2.2.2)) o),y.1,()))))) else Option.bind (qz_ ((s,s_2,gA,o),a,())) fun y=>some ((s,s_2,gA,o),y.1,()) else if eqi (Int.ofNat (List.length a.2.2.2.2.1)) 0=true then Option.bind (qz_ ((s,s_2,gA,o),a,())) fun y=>some ((s,s_2,gA,o),y.1,()) else if eqi a.1 23=true then if eqi 272 a.2.2.2.1=true then Option.bind (qge_ (a.2.2.2.2.1,())) fun y=>if nei y.2.1 0=true then Option.bind (qh_ (a.1,3,())) fun y=>some ((s,s_2,gA,o),y.1,()) else amb (eqAs q2e_.rs) [Option.bind (qed_ (gA,y.1,())) fun y=>if nei y.2.1 0=true then Option.bind (qh_ (a.1,4,())) fun y=>some ((s,s_2,gA,o),y.1,()) else Option.bind (qz_ ((s,s_2,(mkAg y.1),o),a,())) fun y_1=>some ((s,s_2,(mkAg y.1),o),y_1.1,()),Option.bind (qed_ (gA,y.1,())) fun y=>if nei y.2.1 0=true then Option.bind (qh_ (a.1,4,())) fun y=>some ((s,s_2,gA,o),y.1,()) else Option.bind (qz_ ((s,s_2,(mkAg y.1),o),a,())) fun y_1=>some ((s,s_2,(mkAg y.1),o),y_1.1,())] else if eqi 288 a.2.2.2.1=true then Option.bind (qh0_ (a.2.2.2.2.1,())) fun y=>if nei y.2.2.2.2.1 0=true then Option.bind (qh_ (a.1,3,())) fun y=>some ((s,s_2,gA,o),y.1,()) else amb (eqAs q2e_.rs) [Option.bind (qba_ (gA,y.1,y.2.1,y.2.2.1,y.2.2.2.1,())) fun y=>if nei y.2.1 0=true then Option.bind (qh_ (a.1,4,())) fun y=>some ((s,s_2,gA,o),y.1,()) else Option.bind (qz_ ((s,s_2,(mkAg y.1),o),a,())) fun y_1=>some ((s,s_2,(mkAg y.1),o),y_1.1,()),Option.bind (qba_ (gA,y.1,y.2.1,y.2.2.1,y.2.2.2.1,())) fun y=>if nei y.2.1 0=true then Option.bind (qh_ (a.1,4,())) fun y=>some ((s,s_2,gA,o),y.1,()) else Option.bind (qz_ ((s,s_2,(mkAg y.1),o),a,())) fun y_1=>some ((s,s_2,(mkAg y.1),o),y_1.1,())] else Option.bind (qh_ (a.1,2,())) fun y=>some ((s,s_2,gA,o),y.1,()) else if eqi 272 a.2.1=true then Option.bind (qge_ (a.2.2.2.2.1,())) fun y=>if nei y.2.1 0=true then Option.bind (qh_ (a.1,3,())) fun y=>some ((s,s_2,gA,o),y.1,()) else amb (eqAs q2e_.rs) [Option.bind (qed_ (gA,y.1,())) fun y=>if nei y.2.1 0=true then Option.bind (qh_ (a.1,4,())) fun y=>some ((s,s_2,gA,o),y.1,()) else Option.bind (qz_ ((s,s_2,(mkAg y.1),o),a,())) fun y_1=>some ((s,s_2,(mkAg y.1),o),y_1.1,()),Option.bind (qed_ (gA,y.1,())) fun y=>if nei y.2.1 0=true then Option.bind (qh_ (a.1,4,())) fun y=>some ((s,s_2,gA,o),y.1,()) else Option.bind (qz_ ((s,s_2,(mkAg y.1),o),a,())) fun y_1=>some ((s,s_2,(mkAg y.1),o),y_1.1,())] else if eqi 288 a.2.1=true then Option.bind (qh0_ (a.2.2.2.2.1,())) fun y=>if nei y.2.2.2.2.1 0=true then Option.bind (qh_ (a.1,3,())) fun y=>some ((s,s_2,gA,o),y.1,()) else amb (eqAs q2e_.rs) [Option.bind (qba_ (gA,y.1,y.2.1,y.2.2.1,y.2.2.2.1,())) fun y=>if nei y.2.1 0=true then Option.bind (qh_ (a.1,4,())) fun y=>some ((s,s_2,gA,o),y.1,()) else Option.bind (qz_ ((s,s_2,(mkAg y.1),o),a,())) fun y_1=>some ((s,s_2,(mkAg y.1),o),y_1.1,()),Option.bind (qba_ (gA,y.1,y.2.1,y.2.2.1,y.2.2.2.1,())) fun y=>if nei y.2.1 0=true then Option.bind (qh_ (a.1,4,())) fun y=>some ((s,s_2,gA,o),y.1,()) else Option.bind (qz_ ((s,s_2,(mkAg y.1),o),a,())) fun y_1=>some ((s,s_2,(mkAg y.1),o),y_1.1,())] else Option.bind (qh_ (a.1,2,())) fun y=>some ((s,s_2,gA,o),y.1,())) (s_3,(s_4,s_5),s_6,s_7,s_8,(s_9,[s_10,s_11,s_12,s_13,s_14,s_15,s_16,s_17],[(s_18,s_19),(s_20,s_21),(s_22,s_23),(s_24,s_25),(s_26,s_27),(s_28,s_29),(s_30,s_31),(s_32,s_33)]),s_34)
def qz2_ (j1:Int->List Bool->Int->Int->List Int->Int->Int->Int->Int->Int->Int->Bool->Bool->Bool->Bool->Bool->Bool->Bool->Bool->Int->List Int->Int->List Int->Int->List Int->Int->List Int->Int->List Int->Int->List Int->Int->List Int->Int->List Int->Int->Int->Int->Int->Int->Int->Int->Int->Int->Bool->Bool->Bool->Bool->Bool->Bool->Bool->Bool->Int->Int->Int->Int->Int->Int->Int->Int->Int->Int->Int->Int->Int->Int×Int×Int×Int×List Int×List Bool->Option (As [.pr (.int .u8) (.pr (.int .u8) (.pr (.pr (.sl (.int .u16)) YTT0) (.sl .bool))),.pr (.int .u8) YTT3])) (s pdu:Int) (s_2:List Int) (pdu_2 v v_2 a except d:Int) (v_3 v_4 v_5 v_6 v_7 v_8 v_9 v_10:Bool) (v_11:Int) (v_12:List Int) (v_13:Int) (v_14:List Int) (v_15:Int) (v_16:List Int) (v_17:Int) (v_18:List Int) (v_19:Int) (v_20:List Int) (v_21:Int) (v_22:List Int) (v_23:Int) (v_24:List Int) (v_25:Int) (v_26:List Int) (v_27:Int) (v_28:List Int) (v_29:List Bool):Option (As [.pr (.int .u8) (.pr (.int .u8) (.pr (.pr (.sl (.int .u16)) YTT0) (.sl .bool))),.pr (.int .u8) YTT3]) :=
 Option.bind (qgd_ (v_28,())) fun y=>if eqi y.2.1 0=true then Option.bind (q5e_ ()) fun y_1=>Option.bind (qbo_ (y_1.1,y.1,())) fun y_2=>j1 y_2.1 v_29 s pdu s_2 pdu_2 v v_2 a except d v_3 v_4 v_5 v_6 v_7 v_8 v_9 v_10 v_11 v_12 v_13 v_14 v_15 v_16 v_17 v_18 v_19 v_20 v_21 v_22 v_23 v_24 v_25 v_26 v_27 0 0 0 0 0 0 0 0 false false false false false false false false 0 0 0 0 0 0 0 0 0 0 0 0 0 y.1 else j1 y.2.1 v_29 s pdu s_2 pdu_2 v v_2 a except d v_3 v_4 v_5 v_6 v_7 v_8 v_9 v_10 v_11 v_12 v_13 v_14 v_15 v_16 v_17 v_18 v_19 v_20 v_21 v_22 v_23 v_24 v_25 v_26 v_27 0 0 0 0 0 0 0 0 false false false false false false false false 0 0 0 0 0 0 0 0 0 0 0 0 0 y.1
def qjz_ (except:Int) (o:List Bool) (s s_2:Int) (s_3:List Int) (s_4 s_5 s_6 s_7 s_8 s_9:Int) (s_10 s_11 s_12 s_13 s_14 s_15 s_16 s_17:Bool) (s_18:Int) (s_19:List Int) (s_20:Int) (s_21:List Int) (s_22:Int) (s_23:List Int) (s_24:Int) (s_25:List Int) (s_26:Int) (s_27:List Int) (s_28:Int) (s_29:List Int) (s_30:Int) (s_31:List Int) (s_32:Int) (s_33:List Int) (s_34 t4 t4_2 t4_3 t4_4 t4_5 t4_6 t4_7 t4_8:Int) (t4_9 t4_10 t4_11 t4_12 t4_13 t4_14 t4_15 t4_16:Bool) (t4_17 t4_18 t4_19 t4_20 t4_21 t4_22 t4_23 t4_24 t4_25 t5 t5_2 t5_3 t5_4:Int) (a:Int×Int×Int×Int×List Int×List Bool):Option (As [.pr (.int .u8) (.pr (.int .u8) (.pr (.pr (.sl (.int .u16)) YTT0) (.sl .bool))),.pr (.int .u8) YTT3]):=qz5_ except o s s_2 s_3 s_4 s_5 s_6 s_7 s_8 s_9 s_10 s_11 s_12 s_13 s_14 s_15 s_16 s_17 s_18 s_19 s_20 s_21 s_22 s_23 s_24 s_25 s_26 s_27 s_28 s_29 s_30 s_31 s_32 s_33 s_34 t4 t4_2 t4_3 t4_4 t4_5 t4_6 t4_7 t4_8 t4_9 t4_10 t4_11 t4_12 t4_13 t4_14 t4_15 t4_16 t4_17 t4_18 t4_19 t4_20 t4_21 t4_22 t4_23 t4_24 t4_25 t5 t5_2 t5_3 t5_4 a
def qte_ (x:As [.int .u8,.int .u8,.sl (.int .u16),.int .u16,.int .i64,.int .u8,.int .u32,.int .u32,.int .u32,.bool,.bool,.bool,.bool,.bool,.bool,.bool,.bool,.int .i64,.sl (.int .u16),.int .i64,.sl (.int .u16),.int .i64,.sl (.int .u16),.int .i64,.sl (.int .u16),.int .i64,.sl (.int .u16),.int .i64,.sl (.int .u16),.int .i64,.sl (.int .u16),.int .i64,.sl (.int .u16),.int .i64,.sl (.int .u8),.sl .bool]):Option (As [.pr (.int .u8) (.pr (.int .u8) (.pr (.pr (.sl (.int .u16)) YTT0) (.sl .bool))),.pr (.int .u8) YTT3]):=qz2_ qjz_ x.1 x.2.1 x.2.2.1 x.2.2.2.1 x.2.2.2.2.1 x.2.2.2.2.2.1 x.2.2.2.2.2.2.1 x.2.2.2.2.2.2.2.1 x.2.2.2.2.2.2.2.2.1 x.2.2.2.2.2.2.2.2.2.1 x.2.2.2.2.2.2.2.2.2.2.1 x.2.2.2.2.2.2.2.2.2.2.2.1 x.2.2.2.2.2.2.2.2.2.2.2.2.1 x.2.2.2.2.2.2.2.2.2.2.2.2.2.1 x.2.2.2.2.2.2.2.2.2.2.2.2.2.2.1 x.2.2.2.2.2.2.2.2.2.2.2.2.2.2.2.1 x.2.2.2.2.2.2.2.2.2.2.2.2.2.2.2.2.1 x.2.2.2.2.2.2.2.2.2.2.2.2.2.2.2.2.2.1 x.2.2.2.2.2.2.2.2.2.2.2.2.2.2.2.2.2.2.1 x.2.2.2.2.2.2.2.2.2.2.2.2.2.2.2.2.2.2.2.1 x.2.2.2.2.2.2.2.2.2.2.2.2.2.2.2.2.2.2.2.2.1 x.2.2.2.2.2.2.2.2.2.2.2.2.2.2.2.2.2.2.2.2.2.1 x.2.2.2.2.2.2.2.2.2.2.2.2.2.2.2.2.2.2.2.2.2.2.1 x.2.2.2.2.2.2.2.2.2.2.2.2.2.2.2.2.2.2.2.2.2.2.2.1 x.2.2.2.2.2.2.2.2.2.2.2.2.2.2.2.2.2.2.2.2.2.2.2.2.1 x.2.2.2.2.2.2.2.2.2.2.2.2.2.2.2.2.2.2.2.2.2.2.2.2.2.1 x.2.2.2.2.2.2.2.2.2.2.2.2.2.2.2.2.2.2.2.2.2.2.2.2.2.2.1 x.2.2.2.2.2.2.2.2.2.2.2.2.2.2.2.2.2.2.2.2.2.2.2.2.2.2.2.1 x.2.2.2.2.2.2.2.2.2.2.2.2.2.2.2.2.2.2.2.2.2.2.2.2.2.2.2.2.1 x.2.2.2.2.2.2.2.2.2.2.2.2.2.2.2.2.2.2.2.2.2.2.2.2.2.2.2.2.2.1 x.2.2.2.2.2.2.2.2.2.2.2.2.2.2.2.2.2.2.2.2.2.2.2.2.2.2.2.2.2.2.1 x.2.2.2.2.2.2.2.2.2.2.2.2.2.2.2.2.2.2.2.2.2.2.2.2.2.2.2.2.2.2.2.1 x.2.2.2.2.2.2.2.2.2.2.2.2.2.2.2.2.2.2.2.2.2.2.2.2.2.2.2.2.2.2.2.2.1 x.2.2.2.2.2.2.2.2.2.2.2.2.2.2.2.2.2.2.2.2.2.2.2.2.2.2.2.2.2.2.2.2.2.1 x.2.2.2.2.2.2.2.2.2.2.2.2.2.2.2.2.2.2.2.2.2.2.2.2.2.2.2.2.2.2.2.2.2.2.1 x.2.2.2.2.2.2.2.2.2.2.2.2.2.2.2.2.2.2.2.2.2.2.2.2.2.2.2.2.2.2.2.2.2.2.2.1
theorem q18a_ (J:Orc (As [.pr (.int .u8) (.pr (.int .u8) (.pr (.pr (.sl (.int .u16)) YTT0) (.sl .bool))),.pr (.int .u8) YTT3])) (except:Int) (o:List Bool) (s s_2:Int) (s_3:List Int) (s_4 s_5 s_6 s_7 s_8 s_9:Int) (s_10 s_11 s_12 s_13 s_14 s_15 s_16 s_17:Bool) (s_18:Int) (s_19:List Int) (s_20:Int) (s_21:List Int) (s_22:Int) (s_23:List Int) (s_24:Int) (s_25:List Int) (s_26:Int) (s_27:List Int) (s_28:Int) (s_29:List Int) (s_30:Int) (s_31:List Int) (s_32:Int) (s_33:List Int) (s_34 t4 t4_2 t4_3 t4_4 t4_5 t4_6 t4_7 t4_8:Int) (t4_9 t4_10 t4_11 t4_12 t4_13 t4_14 t4_15 t4_16:Bool) (t4_17 t4_18 t4_19 t4_20 t4_21 t4_22 t4_23 t4_24 t4_25 t5 t5_2 t5_3 t5_4:Int) (a:Int×Int×Int×Int×List Int×List Bool):pfn Tryz.prog qh9_ 6 18446744073709551616 (Ev.get qhd_) 62 q2e_ J 7 [] (qjw_ except o s s_2 s_3 s_4 s_5 s_6 s_7 s_8 s_9 s_10 s_11 s_12 s_13 s_14 s_15 s_16 s_17 s_18 s_19 s_20 s_21 s_22 s_23 s_24 s_25 s_26 s_27 s_28 s_29 s_30 s_31 s_32 s_33 s_34 t4 t4_2 t4_3 t4_4 t4_5 t4_6 t4_7 t4_8 t4_9 t4_10 t4_11 t4_12 t4_13 t4_14 t4_15 t4_16 t4_17 t4_18 t4_19 t4_20 t4_21 t4_22 t4_23 t4_24 t4_25 t5 t5_2 t5_3 t5_4 a)=qz5_ except o s s_2 s_3 s_4 s_5 s_6 s_7 s_8 s_9 s_10 s_11 s_12 s_13 s_14 s_15 s_16 s_17 s_18 s_19 s_20 s_21 s_22 s_23 s_24 s_25 s_26 s_27 s_28 s_29 s_30 s_31 s_32 s_33 s_34 t4 t4_2 t4_3 t4_4 t4_5 t4_6 t4_7 t4_8 t4_9 t4_10 t4_11 t4_12 t4_13 t4_14 t4_15 t4_16 t4_17 t4_18 t4_19 t4_20 t4_21 t4_22 t4_23 t4_24 t4_25 t5 t5_2 t5_3 t5_4 a:=by kernel_rfl
theorem q18g_ (J:Orc (As [.pr (.int .u8) (.pr (.int .u8) (.pr (.pr (.sl (.int .u16)) YTT0) (.sl .bool))),.pr (.int .u8) YTT3])) (x:As [.int .u8,.int .u8,.sl (.int .u16),.int .u16,.int .i64,.int .u8,.int .u32,.int .u32,.int .u32,.bool,.bool,.bool,.bool,.bool,.bool,.bool,.bool,.int .i64,.sl (.int .u16),.int .i64,.sl (.int .u16),.int .i64,.sl (.int .u16),.int .i64,.sl (.int .u16),.int .i64,.sl (.int .u16),.int .i64,.sl (.int .u16),.int .i64,.sl (.int .u16),.int .i64,.sl (.int .u16),.int .i64,.sl (.int .u8),.sl .bool]):rfn Tryz.prog qh9_ 6 18446744073709551616 (Ev.get qhd_) 62 q2e_ J x=qz2_ (fun except o s s_2 s_3 s_4 s_5 s_6 s_7 s_8 s_9 s_10 s_11 s_12 s_13 s_14 s_15 s_16 s_17 s_18 s_19 s_20 s_21 s_22 s_23 s_24 s_25 s_26 s_27 s_28 s_29 s_30 s_31 s_32 s_33 s_34 t4 t4_2 t4_3 t4_4 t4_5 t4_6 t4_7 t4_8 t4_9 t4_10 t4_11 t4_12 t4_13 t4_14 t4_15 t4_16 t4_17 t4_18 t4_19 t4_20 t4_21 t4_22 t4_23 t4_24 t4_25 t5 t5_2 t5_3 t5_4 a=>J 7 [] (qjw_ except o s s_2 s_3 s_4 s_5 s_6 s_7 s_8 s_9 s_10 s_11 s_12 s_13 s_14 s_15 s_16 s_17 s_18 s_19 s_20 s_21 s_22 s_23 s_24 s_25 s_26 s_27 s_28 s_29 s_30 s_31 s_32 s_33 s_34 t4 t4_2 t4_3 t4_4 t4_5 t4_6 t4_7 t4_8 t4_9 t4_10 t4_11 t4_12 t4_13 t4_14 t4_15 t4_16 t4_17 t4_18 t4_19 t4_20 t4_21 t4_22 t4_23 t4_24 t4_25 t5 t5_2 t5_3 t5_4 a)) x.1 x.2.1 x.2.2.1 x.2.2.2.1 x.2.2.2.2.1 x.2.2.2.2.2.1 x.2.2.2.2.2.2.1 x.2.2.2.2.2.2.2.1 x.2.2.2.2.2.2.2.2.1 x.2.2.2.2.2.2.2.2.2.1 x.2.2.2.2.2.2.2.2.2.2.1 x.2.2.2.2.2.2.2.2.2.2.2.1 x.2.2.2.2.2.2.2.2.2.2.2.2.1 x.2.2.2.2.2.2.2.2.2.2.2.2.2.1 x.2.2.2.2.2.2.2.2.2.2.2.2.2.2.1 x.2.2.2.2.2.2.2.2.2.2.2.2.2.2.2.1 x.2.2.2.2.2.2.2.2.2.2.2.2.2.2.2.2.1 x.2.2.2.2.2.2.2.2.2.2.2.2.2.2.2.2.2.1 x.2.2.2.2.2.2.2.2.2.2.2.2.2.2.2.2.2.2.1 x.2.2.2.2.2.2.2.2.2.2.2.2.2.2.2.2.2.2.2.1 x.2.2.2.2.2.2.2.2.2.2.2.2.2.2.2.2.2.2.2.2.1 x.2.2.2.2.2.2.2.2.2.2.2.2.2.2.2.2.2.2.2.2.2.1 x.2.2.2.2.2.2.2.2.2.2.2.2.2.2.2.2.2.2.2.2.2.2.1 x.2.2.2.2.2.2.2.2.2.2.2.2.2.2.2.2.2.2.2.2.2.2.2.1 x.2.2.2.2.2.2.2.2.2.2.2.2.2.2.2.2.2.2.2.2.2.2.2.2.1 x.2.2.2.2.2.2.2.2.2.2.2.2.2.2.2.2.2.2.2.2.2.2.2.2.2.1 x.2.2.2.2.2.2.2.2.2.2.2.2.2.2.2.2.2.2.2.2.2.2.2.2.2.2.1 x.2.2.2.2.2.2.2.2.2.2.2.2.2.2.2.2.2.2.2.2.2.2.2.2.2.2.2.1 x.2.2.2.2.2.2.2.2.2.2.2.2.2.2.2.2.2.2.2.2.2.2.2.2.2.2.2.2.1 x.2.2.2.2.2.2.2.2.2.2.2.2.2.2.2.2.2.2.2.2.2.2.2.2.2.2.2.2.2.1 x.2.2.2.2.2.2.2.2.2.2.2.2.2.2.2.2.2.2.2.2.2.2.2.2.2.2.2.2.2.2.1 x.2.2.2.2.2.2.2.2.2.2.2.2.2.2.2.2.2.2.2.2.2.2.2.2.2.2.2.2.2.2.2.1 x.2.2.2.2.2.2.2.2.2.2.2.2.2.2.2.2.2.2.2.2.2.2.2.2.2.2.2.2.2.2.2.2.1 x.2.2.2.2.2.2.2.2.2.2.2.2.2.2.2.2.2.2.2.2.2.2.2.2.2.2.2.2.2.2.2.2.2.1 x.2.2.2.2.2.2.2.2.2.2.2.2.2.2.2.2.2.2.2.2.2.2.2.2.2.2.2.2.2.2.2.2.2.2.1 x.2.2.2.2.2.2.2.2.2.2.2.2.2.2.2.2.2.2.2.2.2.2.2.2.2.2.2.2.2.2.2.2.2.2.2.1:=by kernel_rfl
theorem q18y_ (except:Int) (o:List Bool) (s s_2:Int) (s_3:List Int) (s_4 s_5 s_6 s_7 s_8 s_9:Int) (s_10 s_11 s_12 s_13 s_14 s_15 s_16 s_17:Bool) (s_18:Int) (s_19:List Int) (s_20:Int) (s_21:List Int) (s_22:Int) (s_23:List Int) (s_24:Int) (s_25:List Int) (s_26:Int) (s_27:List Int) (s_28:Int) (s_29:List Int) (s_30:Int) (s_31:List Int) (s_32:Int) (s_33:List Int) (s_34 t4 t4_2 t4_3 t4_4 t4_5 t4_6 t4_7 t4_8:Int) (t4_9 t4_10 t4_11 t4_12 t4_13 t4_14 t4_15 t4_16:Bool) (t4_17 t4_18 t4_19 t4_20 t4_21 t4_22 t4_23 t4_24 t4_25 t5 t5_2 t5_3 t5_4:Int) (a:Int×Int×Int×Int×List Int×List Bool):jfn Tryz.prog qh9_ 6 18446744073709551616 (Ev.get qhd_) 62 q2e_ 7 [] (qjw_ except o s s_2 s_3 s_4 s_5 s_6 s_7 s_8 s_9 s_10 s_11 s_12 s_13 s_14 s_15 s_16 s_17 s_18 s_19 s_20 s_21 s_22 s_23 s_24 s_25 s_26 s_27 s_28 s_29 s_30 s_31 s_32 s_33 s_34 t4 t4_2 t4_3 t4_4 t4_5 t4_6 t4_7 t4_8 t4_9 t4_10 t4_11 t4_12 t4_13 t4_14 t4_15 t4_16 t4_17 t4_18 t4_19 t4_20 t4_21 t4_22 t4_23 t4_24 t4_25 t5 t5_2 t5_3 t5_4 a)=qjz_ except o s s_2 s_3 s_4 s_5 s_6 s_7 s_8 s_9 s_10 s_11 s_12 s_13 s_14 s_15 s_16 s_17 s_18 s_19 s_20 s_21 s_22 s_23 s_24 s_25 s_26 s_27 s_28 s_29 s_30 s_31 s_32 s_33 s_34 t4 t4_2 t4_3 t4_4 t4_5 t4_6 t4_7 t4_8 t4_9 t4_10 t4_11 t4_12 t4_13 t4_14 t4_15 t4_16 t4_17 t4_18 t4_19 t4_20 t4_21 t4_22 t4_23 t4_24 t4_25 t5 t5_2 t5_3 t5_4 a:=by
 rw [q8_ (by decide)]
 rw [q18a_]
 rfl
theorem q1bd_ (x:As [.int .u8,.int .u8,.sl (.int .u16),.int .u16,.int .i64,.int .u8,.int .u32,.int .u32,.int .u32,.bool,.bool,.bool,.bool,.bool,.bool,.bool,.bool,.int .i64,.sl (.int .u16),.int .i64,.sl (.int .u16),.int .i64,.sl (.int .u16),.int .i64,.sl (.int .u16),.int .i64,.sl (.int .u16),.int .i64,.sl (.int .u16),.int .i64,.sl (.int .u16),.int .i64,.sl (.int .u16),.int .i64,.sl (.int .u8),.sl .bool]):evT Tryz.prog qh9_ 6 18446744073709551616 (Ev.get qhd_) 62 q2e_ x=qte_ x:=by
 have e1:(fun except o s s_2 s_3 s_4 s_5 s_6 s_7 s_8 s_9 s_10 s_11 s_12 s_13 s_14 s_15 s_16 s_17 s_18 s_19 s_20 s_21 s_22 s_23 s_24 s_25 s_26 s_27 s_28 s_29 s_30 s_31 s_32 s_33 s_34 t4 t4_2 t4_3 t4_4 t4_5 t4_6 t4_7 t4_8 t4_9 t4_10 t4_11 t4_12 t4_13 t4_14 t4_15 t4_16 t4_17 t4_18 t4_19 t4_20 t4_21 t4_22 t4_23 t4_24 t4_25 t5 t5_2 t5_3 t5_4 a=>(jfn Tryz.prog qh9_ 6 18446744073709551616 (Ev.get qhd_) 62 q2e_) 7 [] (qjw_ except o s s_2 s_3 s_4 s_5 s_6 s_7 s_8 s_9 s_10 s_11 s_12 s_13 s_14 s_15 s_16 s_17 s_18 s_19 s_20 s_21 s_22 s_23 s_24 s_25 s_26 s_27 s_28 s_29 s_30 s_31 s_32 s_33 s_34 t4 t4_2 t4_3 t4_4 t4_5 t4_6 t4_7 t4_8 t4_9 t4_10 t4_11 t4_12 t4_13 t4_14 t4_15 t4_16 t4_17 t4_18 t4_19 t4_20 t4_21 t4_22 t4_23 t4_24 t4_25 t5 t5_2 t5_3 t5_4 a))=qjz_:=by funext except o s s_2 s_3 s_4 s_5 s_6 s_7 s_8 s_9 s_10 s_11 s_12 s_13 s_14 s_15 s_16 s_17 s_18 s_19 s_20 s_21 s_22 s_23 s_24 s_25 s_26 s_27 s_28 s_29 s_30 s_31 s_32 s_33 s_34 t4 t4_2 t4_3 t4_4 t4_5 t4_6 t4_7 t4_8 t4_9 t4_10 t4_11 t4_12 t4_13 t4_14 t4_15 t4_16 t4_17 t4_18 t4_19 t4_20 t4_21 t4_22 t4_23 t4_24 t4_25 t5 t5_2 t5_3 t5_4 a; exact q18y_ except o s s_2 s_3 s_4 s_5 s_6 s_7 s_8 s_9 s_10 s_11 s_12 s_13 s_14 s_15 s_16 s_17 s_18 s_19 s_20 s_21 s_22 s_23 s_24 s_25 s_26 s_27 s_28 s_29 s_30 s_31 s_32 s_33 s_34 t4 t4_2 t4_3 t4_4 t4_5 t4_6 t4_7 t4_8 t4_9 t4_10 t4_11 t4_12 t4_13 t4_14 t4_15 t4_16 t4_17 t4_18 t4_19 t4_20 t4_21 t4_22 t4_23 t4_24 t4_25 t5 t5_2 t5_3 t5_4 a
 rw [q5_,q18g_,e1]
 rfl
theorem q17v_:CtOk Tryz.prog (fun _=>True) 62 ⟨q2e_,qte_⟩:=q3_ (q0_ Ev.bx_ok (q0_ Ev.bx_ok (q0_ q1c7_ (q0_ qze_ (q0_ q1hd_ (q0_ qy0_ (q0_ qkl_ (q0_ q16l_ (q0_ q1bx_ (q0_ q1hn_ (q0_ q1gl_ q4_))))))))))) q1bd_
@[reducible] def q9g_:Sh:=⟨[.d (.pr (.int .u8) (.pr (.int .u8) (.pr (.pr (.sl (.int .u16)) YTT0) (.sl .bool))))],[],[.pr (.int .u8) (.pr (.int .u8) (.pr (.pr (.sl (.int .u16)) YTT0) (.sl .bool)))],[.d (.pr (.int .u8) (.pr (.int .u8) (.pr (.pr (.sl (.int .u16)) YTT0) (.sl .bool))))],[],0,[.pr (.int .u8) (.pr (.int .u8) (.pr (.pr (.sl (.int .u16)) YTT0) (.sl .bool)))]⟩
def qlr_:Env:=(cts [(130,(⟨q87_,q56_⟩:Ct)),(131,(⟨q27_,qe_⟩:Ct))])
def qlq_:List (Nat×Hint):=[(122,⟨[],[1,2,15]⟩)]
def qfj_ (s t2 t15:Int) (s_2 t2_2:List (YaA4q0)):St:={ fr:=[(1,.prw 0 s 35 0),(2,.prw 1 t2 35 0),(15,.d (.int .i64) t15)],nt:=33,up:=[],own:=[(0,.row (.pr (.int .u8) (.pr (.int .u8) (.pr (.pr (.sl (.int .u16)) YTT0) (.sl .bool)))) 38 s_2),(1,.row (.pr (.int .u8) (.pr (.int .u8) (.pr (.pr (.sl (.int .u16)) YTT0) (.sl .bool)))) 38 t2_2)],nx:=2,log:=[],ln:=0 }
def qf1_ (self1:Int->Int->Int->List (YaA4q0)->List (YaA4q0)->Option (As [.pr (.int .u8) (.pr (.int .u8) (.pr (.pr (.sl (.int .u16)) YTT0) (.sl .bool)))])) (s t2 t15:Int) (s_2 t2_2:List (YaA4q0)):Option (As [.pr (.int .u8) (.pr (.int .u8) (.pr (.pr (.sl (.int .u16)) YTT0) (.sl .bool)))]) :=
 if lt t15 8=true then need (ge t15 0) (need (lt t15 8) (Option.bind (at? s_2 s) fun y=>Option.bind (at? y.2.2.1.2.2.2.2.2.1.2.2 t15) fun z=>Option.bind (qe_ (z.2,())) fun y=>Option.bind (at? s_2 s) fun x=>Option.bind (at? x.2.2.1.2.2.2.2.2.1.2.2 t15) fun z=>self1 s t2 (add .i64 t15 1) (List.set s_2 (Int.toNat s) (x.1,x.2.1,(x.2.2.1.1,x.2.2.1.2.1,x.2.2.1.2.2.1,x.2.2.1.2.2.2.1,x.2.2.1.2.2.2.2.1,(x.2.2.1.2.2.2.2.2.1.1,x.2.2.1.2.2.2.2.2.1.2.1,List.set x.2.2.1.2.2.2.2.2.1.2.2 (Int.toNat t15) (z.1,y.1)),x.2.2.1.2.2.2.2.2.2),x.2.2.2)) t2_2)) else Option.bind (at? s_2 s) fun y=>Option.bind (at? t2_2 t2) fun x=>Option.bind (at? (List.set t2_2 (Int.toNat t2) y) t2) fun y_1=>Option.bind (at? (List.set t2_2 (Int.toNat t2) y) t2) fun y=>some (y,())
def qqd_ (j1:Int->Int->Int->List (YaA4q0)->List (YaA4q0)->Option (As [.pr (.int .u8) (.pr (.int .u8) (.pr (.pr (.sl (.int .u16)) YTT0) (.sl .bool)))])) (s:YaA4q0):Option (As [.pr (.int .u8) (.pr (.int .u8) (.pr (.pr (.sl (.int .u16)) YTT0) (.sl .bool)))]) :=
 Option.bind (q56_ (s.2.2.2,())) fun y=>Option.bind (qe_ (s.2.2.1.1,())) fun y_1=>j1 0 0 0 [(s.1,s.2.1,(y_1.1,s.2.2.1.2),y.1)] [zSl]
def qfm_ (s t2 t15:Int) (s_2 t2_2:List (YaA4q0)):Option (As [.pr (.int .u8) (.pr (.int .u8) (.pr (.pr (.sl (.int .u16)) YTT0) (.sl .bool)))]) :=
 loopF (fun (self:(Int)×(Int)×(Int)×(List (YaA4q0))×(List (YaA4q0))->Option (As [.pr (.int .u8) (.pr (.int .u8) (.pr (.pr (.sl (.int .u16)) YTT0) (.sl .bool)))])) (s:(Int)×(Int)×(Int)×(List (YaA4q0))×(List (YaA4q0)))=>qf1_ (fun s t2 t15 s_2 t2_2=>self (s,t2,t15,s_2,t2_2)) s.1 s.2.1 s.2.2.1 s.2.2.2.1 s.2.2.2.2) 18446744073709551616 (s,t2,t15,s_2,t2_2)
def qb8_ (x:As [.pr (.int .u8) (.pr (.int .u8) (.pr (.pr (.sl (.int .u16)) YTT0) (.sl .bool)))]):Option (As [.pr (.int .u8) (.pr (.int .u8) (.pr (.pr (.sl (.int .u16)) YTT0) (.sl .bool)))]):=qqd_ qfm_ x.1
theorem q1gs_ (J:Orc (As [.pr (.int .u8) (.pr (.int .u8) (.pr (.pr (.sl (.int .u16)) YTT0) (.sl .bool)))])) (w1:St->Option (As [.pr (.int .u8) (.pr (.int .u8) (.pr (.pr (.sl (.int .u16)) YTT0) (.sl .bool)))])) (s t2 t15:Int) (s_2 t2_2:List (YaA4q0)):pfn Tryz.prog qlr_ 6 18446744073709551616 (Ev.get qlq_) 63 q9g_ J 122 [w1] (qfj_ s t2 t15 s_2 t2_2)=qf1_ (fun s t2 t15 s_2 t2_2=>w1 (qfj_ s t2 t15 s_2 t2_2)) s t2 t15 s_2 t2_2:=by kernel_rfl
theorem q1dg_ (J:Orc (As [.pr (.int .u8) (.pr (.int .u8) (.pr (.pr (.sl (.int .u16)) YTT0) (.sl .bool)))])) (x:As [.pr (.int .u8) (.pr (.int .u8) (.pr (.pr (.sl (.int .u16)) YTT0) (.sl .bool)))]):rfn Tryz.prog qlr_ 6 18446744073709551616 (Ev.get qlq_) 63 q9g_ J x=qqd_ (fun s t2 t15 s_2 t2_2=>J 122 [] (qfj_ s t2 t15 s_2 t2_2)) x.1:=by kernel_rfl
theorem q1gg_ (s t2 t15:Int) (s_2 t2_2:List (YaA4q0)):jfn Tryz.prog qlr_ 6 18446744073709551616 (Ev.get qlq_) 63 q9g_ 122 [] (qfj_ s t2 t15 s_2 t2_2)=qfm_ s t2 t15 s_2 t2_2:=by
 rw [q8_ (by decide)]
 rw [qr_ (by kernel_rfl)]
 refine qi_ (σ:=(Int)×(Int)×(Int)×(List (YaA4q0))×(List (YaA4q0))) (mk:=fun s=>qfj_ s.1 s.2.1 s.2.2.1 s.2.2.2.1 s.2.2.2.2) (fun w1 s=>?_) 18446744073709551616 (s,t2,t15,s_2,t2_2)
 refine (q1gs_ _ w1 s.1 s.2.1 s.2.2.1 s.2.2.2.1 s.2.2.2.2).trans ?_
 rfl
theorem q1if_ (x:As [.pr (.int .u8) (.pr (.int .u8) (.pr (.pr (.sl (.int .u16)) YTT0) (.sl .bool)))]):evT Tryz.prog qlr_ 6 18446744073709551616 (Ev.get qlq_) 63 q9g_ x=qb8_ x:=by
 have e1:(fun s t2 t15 s_2 t2_2=>(jfn Tryz.prog qlr_ 6 18446744073709551616 (Ev.get qlq_) 63 q9g_) 122 [] (qfj_ s t2 t15 s_2 t2_2))=qfm_:=by funext s t2 t15 s_2 t2_2; exact q1gg_ s t2 t15 s_2 t2_2
 rw [q5_,q1dg_,e1]
 rfl
theorem qwh_:CtOk Tryz.prog (fun _=>True) 63 ⟨q9g_,qb8_⟩:=q3_ (q0_ qzi_ (q0_ q5t_ q4_)) q1if_
@[reducible] def qo6_:Sh:=⟨[.d (.pr (.int .u8) (.pr (.int .u8) (.pr (.pr (.sl (.int .u16)) YTT0) (.sl .bool))))],[],[.pr (.int .u8) (.pr (.int .u8) (.pr (.pr (.sl (.int .u16)) YTT0) (.sl .bool)))],[.agg [.d (.int .u8),.d (.int .u8),.d (.sl (.int .u16)),.d (.int .u16),.d (.int .i64),.d (.int .u8),.d (.int .u32),.d (.int .u32),.d (.int .u32),.d (.bool),.d (.bool),.d (.bool),.d (.bool),.d (.bool),.d (.bool),.d (.bool),.d (.bool),.d (.int .i64),.d (.sl (.int .u16)),.d (.int .i64),.d (.sl (.int .u16)),.d (.int .i64),.d (.sl (.int .u16)),.d (.int .i64),.d (.sl (.int .u16)),.d (.int .i64),.d (.sl (.int .u16)),.d (.int .i64),.d (.sl (.int .u16)),.d (.int .i64),.d (.sl (.int .u16)),.d (.int .i64),.d (.sl (.int .u16)),.d (.int .i64),.row 0]],[(0,.row .bool 4)],1,[.int .u8,.int .u8,.sl (.int .u16),.int .u16,.int .i64,.int .u8,.int .u32,.int .u32,.int .u32,.bool,.bool,.bool,.bool,.bool,.bool,.bool,.bool,.int .i64,.sl (.int .u16),.int .i64,.sl (.int .u16),.int .i64,.sl (.int .u16),.int .i64,.sl (.int .u16),.int .i64,.sl (.int .u16),.int .i64,.sl (.int .u16),.int .i64,.sl (.int .u16),.int .i64,.sl (.int .u16),.int .i64,.sl .bool]⟩
def q116_:Env:=(cts [(1000038,Ev.bxCt),(1000194,Ev.bxCt),(130,(⟨q4k_,q36_⟩:Ct)),(131,(⟨q27_,qe_⟩:Ct))])
def q11k_:List (Nat×Hint):=[]
def qkc_ (s:YaA4q0):Option (As [.int .u8,.int .u8,.sl (.int .u16),.int .u16,.int .i64,.int .u8,.int .u32,.int .u32,.int .u32,.bool,.bool,.bool,.bool,.bool,.bool,.bool,.bool,.int .i64,.sl (.int .u16),.int .i64,.sl (.int .u16),.int .i64,.sl (.int .u16),.int .i64,.sl (.int .u16),.int .i64,.sl (.int .u16),.int .i64,.sl (.int .u16),.int .i64,.sl (.int .u16),.int .i64,.sl (.int .u16),.int .i64,.sl .bool]) :=
 Option.bind (q36_ (s.2.2.2,())) fun y=>Option.bind (qe_ (s.2.2.1.1,())) fun y_1=>Option.bind (qe_ ((List.getD s.2.2.1.2.2.2.2.2.1.2.2 0 (0,[])).2,())) fun y_2=>Option.bind (qe_ ((List.getD s.2.2.1.2.2.2.2.2.1.2.2 1 (0,[])).2,())) fun y_3=>Option.bind (qe_ ((List.getD s.2.2.1.2.2.2.2.2.1.2.2 2 (0,[])).2,())) fun y_4=>Option.bind (qe_ ((List.getD s.2.2.1.2.2.2.2.2.1.2.2 3 (0,[])).2,())) fun y_5=>Option.bind (qe_ ((List.getD s.2.2.1.2.2.2.2.2.1.2.2 4 (0,[])).2,())) fun y_6=>Option.bind (qe_ ((List.getD s.2.2.1.2.2.2.2.2.1.2.2 5 (0,[])).2,())) fun y_7=>Option.bind (qe_ ((List.getD s.2.2.1.2.2.2.2.2.1.2.2 6 (0,[])).2,())) fun y_8=>Option.bind (qe_ ((List.getD s.2.2.1.2.2.2.2.2.1.2.2 7 (0,[])).2,())) fun y_9=>some (s.1,s.2.1,y_1.1,s.2.2.1.2.1.1,s.2.2.1.2.1.2,s.2.2.1.2.2.1,s.2.2.1.2.2.2.1,s.2.2.1.2.2.2.2.1,s.2.2.1.2.2.2.2.2.1.1,List.getD s.2.2.1.2.2.2.2.2.1.2.1 0 false,List.getD s.2.2.1.2.2.2.2.2.1.2.1 1 false,List.getD s.2.2.1.2.2.2.2.2.1.2.1 2 false,List.getD s.2.2.1.2.2.2.2.2.1.2.1 3 false,List.getD s.2.2.1.2.2.2.2.2.1.2.1 4 false,List.getD s.2.2.1.2.2.2.2.2.1.2.1 5 false,List.getD s.2.2.1.2.2.2.2.2.1.2.1 6 false,List.getD s.2.2.1.2.2.2.2.2.1.2.1 7 false,(List.getD s.2.2.1.2.2.2.2.2.1.2.2 0 (0,[])).1,y_2.1,(List.getD s.2.2.1.2.2.2.2.2.1.2.2 1 (0,[])).1,y_3.1,(List.getD s.2.2.1.2.2.2.2.2.1.2.2 2 (0,[])).1,y_4.1,(List.getD s.2.2.1.2.2.2.2.2.1.2.2 3 (0,[])).1,y_5.1,(List.getD s.2.2.1.2.2.2.2.2.1.2.2 4 (0,[])).1,y_6.1,(List.getD s.2.2.1.2.2.2.2.2.1.2.2 5 (0,[])).1,y_7.1,(List.getD s.2.2.1.2.2.2.2.2.1.2.2 6 (0,[])).1,y_8.1,(List.getD s.2.2.1.2.2.2.2.2.1.2.2 7 (0,[])).1,y_9.1,s.2.2.1.2.2.2.2.2.2,y.1,())
def qlh_ (x:As [.pr (.int .u8) (.pr (.int .u8) (.pr (.pr (.sl (.int .u16)) YTT0) (.sl .bool)))]):Option (As [.int .u8,.int .u8,.sl (.int .u16),.int .u16,.int .i64,.int .u8,.int .u32,.int .u32,.int .u32,.bool,.bool,.bool,.bool,.bool,.bool,.bool,.bool,.int .i64,.sl (.int .u16),.int .i64,.sl (.int .u16),.int .i64,.sl (.int .u16),.int .i64,.sl (.int .u16),.int .i64,.sl (.int .u16),.int .i64,.sl (.int .u16),.int .i64,.sl (.int .u16),.int .i64,.sl (.int .u16),.int .i64,.sl .bool]):=qkc_ x.1
theorem q1a9_ (J:Orc (As [.int .u8,.int .u8,.sl (.int .u16),.int .u16,.int .i64,.int .u8,.int .u32,.int .u32,.int .u32,.bool,.bool,.bool,.bool,.bool,.bool,.bool,.bool,.int .i64,.sl (.int .u16),.int .i64,.sl (.int .u16),.int .i64,.sl (.int .u16),.int .i64,.sl (.int .u16),.int .i64,.sl (.int .u16),.int .i64,.sl (.int .u16),.int .i64,.sl (.int .u16),.int .i64,.sl (.int .u16),.int .i64,.sl .bool])) (x:As [.pr (.int .u8) (.pr (.int .u8) (.pr (.pr (.sl (.int .u16)) YTT0) (.sl .bool)))]):rfn Tryz.prog q116_ 6 18446744073709551616 (Ev.get q11k_) 63 qo6_ J x=qkc_ x.1:=by kernel_rfl
theorem q1d7_ (x:As [.pr (.int .u8) (.pr (.int .u8) (.pr (.pr (.sl (.int .u16)) YTT0) (.sl .bool)))]):evT Tryz.prog q116_ 6 18446744073709551616 (Ev.get q11k_) 63 qo6_ x=qlh_ x:=by
 rw [q5_,q1a9_]
 rfl
theorem q19i_:CtOk Tryz.prog (fun _=>True) 63 ⟨qo6_,qlh_⟩:=q3_ (q0_ Ev.bx_ok (q0_ Ev.bx_ok (q0_ ql2_ (q0_ q5t_ q4_)))) q1d7_
@[reducible] def q37_:Sh:=⟨[.d (.sl .bool),.d (.sl .bool)],[],[.sl .bool,.sl .bool],[.d (.bool)],[],0,[.bool]⟩
def q88_:Env:=(cts [])
def q7v_:List (Nat×Hint):=[(58,⟨[],[0,1,12,13]⟩)]
def q4z_ (s1 s2:List Bool) (t12 t13:Int):St:={ fr:=[(0,.d (.sl .bool) s1),(1,.d (.sl .bool) s2),(12,.d (.int .i64) t12),(13,.d (.int .i64) t13)],nt:=26,up:=[],own:=[],nx:=0,log:=[],ln:=0 }
def q4x_ (self1:List Bool->List Bool->Int->Int->Option (As [.bool])) (s1 s2:List Bool) (t12 t13:Int):Option (As [.bool]) :=
 if lt t13 t12=true then Option.bind (at? s1 t13) fun y=>Option.bind (at? s2 t13) fun y_1=>if Sx.neb y y_1=true then some (false,()) else self1 s1 s2 t12 (add .i64 t13 1) else some (true,())
def qaa_ (j1:List Bool->List Bool->Int->Int->Option (As [.bool])) (s1 s2:List Bool):Option (As [.bool]) :=
 if nei (Int.ofNat (List.length s1)) (Int.ofNat (List.length s2))=true then some (false,()) else j1 s1 s2 (Int.ofNat (List.length s1)) 0
def q79_ (s1 s2:List Bool) (t12 t13:Int):Option (As [.bool]) :=
 loopF (fun (self:(List Bool)×(List Bool)×(Int)×(Int)->Option (As [.bool])) (s:(List Bool)×(List Bool)×(Int)×(Int))=>q4x_ (fun s1 s2 t12 t13=>self (s1,s2,t12,t13)) s.1 s.2.1 s.2.2.1 s.2.2.2) 18446744073709551616 (s1,s2,t12,t13)
def q5a_ (x:As [.sl .bool,.sl .bool]):Option (As [.bool]):=qaa_ q79_ x.1 x.2.1
theorem qyn_ (J:Orc (As [.bool])) (w1:St->Option (As [.bool])) (s1 s2:List Bool) (t12 t13:Int):pfn Tryz.prog q88_ 6 18446744073709551616 (Ev.get q7v_) 90 q37_ J 58 [w1] (q4z_ s1 s2 t12 t13)=q4x_ (fun s1 s2 t12 t13=>w1 (q4z_ s1 s2 t12 t13)) s1 s2 t12 t13:=by kernel_rfl
theorem qyt_ (J:Orc (As [.bool])) (x:As [.sl .bool,.sl .bool]):rfn Tryz.prog q88_ 6 18446744073709551616 (Ev.get q7v_) 90 q37_ J x=qaa_ (fun s1 s2 t12 t13=>J 58 [] (q4z_ s1 s2 t12 t13)) x.1 x.2.1:=by kernel_rfl
theorem qyx_ (s1 s2:List Bool) (t12 t13:Int):jfn Tryz.prog q88_ 6 18446744073709551616 (Ev.get q7v_) 90 q37_ 58 [] (q4z_ s1 s2 t12 t13)=q79_ s1 s2 t12 t13:=by
 rw [q8_ (by decide)]
 rw [qr_ (by kernel_rfl)]
 refine qi_ (σ:=(List Bool)×(List Bool)×(Int)×(Int)) (mk:=fun s=>q4z_ s.1 s.2.1 s.2.2.1 s.2.2.2) (fun w1 s=>?_) 18446744073709551616 (s1,s2,t12,t13)
 refine (qyn_ _ w1 s.1 s.2.1 s.2.2.1 s.2.2.2).trans ?_
 rfl
theorem qzq_ (x:As [.sl .bool,.sl .bool]):evT Tryz.prog q88_ 6 18446744073709551616 (Ev.get q7v_) 90 q37_ x=q5a_ x:=by
 have e1:(fun s1 s2 t12 t13=>(jfn Tryz.prog q88_ 6 18446744073709551616 (Ev.get q7v_) 90 q37_) 58 [] (q4z_ s1 s2 t12 t13))=q79_:=by funext s1 s2 t12 t13; exact qyx_ s1 s2 t12 t13
 rw [q5_,qyt_,e1]
 rfl
theorem qok_:CtOk Tryz.prog (fun _=>True) 90 ⟨q37_,q5a_⟩:=q3_ q4_ qzq_
@[reducible] def q7w_:Sh:=⟨[.d (.pr (.int .u8) YTT3),.d (.pr (.int .u8) YTT3)],[],[.pr (.int .u8) YTT3,.pr (.int .u8) YTT3],[.d (.bool)],[],0,[.bool]⟩
def q12s_:Env:=(cts [(80,(⟨q1m_,q1o_⟩:Ct)),(90,(⟨q37_,q5a_⟩:Ct))])
def q12p_:List (Nat×Hint):=[]
def qms_ (a b:Int×Int×List Bool×List Int×Int×Int):Option (As [.bool]) :=
 if eqi a.1 b.1=true then if eqi a.2.1 b.2.1=true then if eqi a.2.2.2.2.1 b.2.2.2.2.1=true then if eqi a.2.2.2.2.2 b.2.2.2.2.2=true then Option.bind (q5a_ (a.2.2.1,b.2.2.1,())) fun y=>if y.1=true then Option.bind (q1o_ (a.2.2.2.1,b.2.2.2.1,())) fun y=>some (y.1,()) else some (false,()) else some (false,()) else some (false,()) else some (false,()) else some (false,())
def q3j_ (x:As [.pr (.int .u8) YTT3,.pr (.int .u8) YTT3]):Option (As [.bool]):=qms_ x.1 x.2.1
theorem q1ce_ (J:Orc (As [.bool])) (x:As [.pr (.int .u8) YTT3,.pr (.int .u8) YTT3]):rfn Tryz.prog q12s_ 6 18446744073709551616 (Ev.get q12p_) 69 q7w_ J x=qms_ x.1 x.2.1:=by kernel_rfl
theorem q1e5_ (x:As [.pr (.int .u8) YTT3,.pr (.int .u8) YTT3]):evT Tryz.prog q12s_ 6 18446744073709551616 (Ev.get q12p_) 69 q7w_ x=q3j_ x:=by
 rw [q5_,q1ce_]
 rfl
theorem qd0_:CtOk Tryz.prog (fun _=>True) 69 ⟨q7w_,q3j_⟩:=q3_ (q0_ q8u_ (q0_ qok_ q4_)) q1e5_
@[reducible] def q5s_:Sh:=⟨[.d (.un),.d (.pr (.int .u8) YTT3)],[],[.un,.pr (.int .u8) YTT3],[.d (.bool)],[],0,[.bool]⟩
def ql3_:Env:=(cts [(69,(⟨q7w_,q3j_⟩:Ct)),(120,(⟨qaf_,qh_⟩:Ct))])
def qlb_:List (Nat×Hint):=[]
def q8d_ (v:Unit) (r:Int×Int×List Bool×List Int×Int×Int):Option (As [.bool]) :=
 if lt r.1 128=true then if ge r.2.1 1=true then if le r.2.1 4=true then Option.bind (qh_ (r.1,r.2.1,())) fun y=>Option.bind (q3j_ (r,y.1,())) fun y=>some (y.1,()) else some (false,()) else some (false,()) else some (false,())
def q2v_ (x:As [.un,.pr (.int .u8) YTT3]):Option (As [.bool]):=q8d_ x.1 x.2.1
theorem qvn_ (J:Orc (As [.bool])) (x:As [.un,.pr (.int .u8) YTT3]):rfn Tryz.prog ql3_ 6 18446744073709551616 (Ev.get qlb_) 254 q5s_ J x=q8d_ x.1 x.2.1:=by kernel_rfl
theorem qwu_ (x:As [.un,.pr (.int .u8) YTT3]):evT Tryz.prog ql3_ 6 18446744073709551616 (Ev.get qlb_) 254 q5s_ x=q2v_ x:=by
 rw [q5_,qvn_]
 rfl
theorem qjc_:CtOk Tryz.prog (fun _=>True) 254 ⟨q5s_,q2v_⟩:=q3_ (q0_ qd0_ (q0_ qkl_ q4_)) qwu_
@[reducible] def q5r_:Sh:=⟨[.d (.un),.d (.pr (.int .u8) YTT3)],[],[.un,.pr (.int .u8) YTT3],[.d (.sl (.int .u8))],[],0,[.sl (.int .u8)]⟩
def ql7_:Env:=(cts [])
def ql9_:List (Nat×Hint):=[]
def qjs_ (v:Unit) (r:Int×Int×List Bool×List Int×Int×Int):Option (As [.sl (.int .u8)]) :=
 some ([add .u8 r.1 128,r.2.1],())
def q3m_ (x:As [.un,.pr (.int .u8) YTT3]):Option (As [.sl (.int .u8)]):=qjs_ x.1 x.2.1
theorem qwd_ (J:Orc (As [.sl (.int .u8)])) (x:As [.un,.pr (.int .u8) YTT3]):rfn Tryz.prog ql7_ 6 18446744073709551616 (Ev.get ql9_) 255 q5r_ J x=qjs_ x.1 x.2.1:=by kernel_rfl
theorem qwr_ (x:As [.un,.pr (.int .u8) YTT3]):evT Tryz.prog ql7_ 6 18446744073709551616 (Ev.get ql9_) 255 q5r_ x=q3m_ x:=by
 rw [q5_,qwd_]
 rfl
theorem qj5_:CtOk Tryz.prog (fun _=>True) 255 ⟨q5r_,q3m_⟩:=q3_ q4_ qwr_
@[reducible] def q71_:Sh:=⟨[.d (.un),.d (.pr (.int .u8) YTT3)],[],[.un,.pr (.int .u8) YTT3],[.d (.bool)],[],0,[.bool]⟩
def qon_:Env:=(cts [(69,(⟨q7w_,q3j_⟩:Ct))])
def qoi_:List (Nat×Hint):=[]
def q97_ (v:Unit) (r:Int×Int×List Bool×List Int×Int×Int):Option (As [.bool]) :=
 if ge (Int.ofNat (List.length r.2.2.1)) 8=true then if le (Int.ofNat (List.length r.2.2.1)) 2000=true then if eqi (rem (Int.ofNat (List.length r.2.2.1)) 8) 0=true then Option.bind (q3j_ (r,(r.1,0,r.2.2.1,[],0,0),())) fun y=>some (y.1,()) else some (false,()) else some (false,()) else some (false,())
def q1u_ (x:As [.un,.pr (.int .u8) YTT3]):Option (As [.bool]):=q97_ x.1 x.2.1
theorem qxt_ (J:Orc (As [.bool])) (x:As [.un,.pr (.int .u8) YTT3]):rfn Tryz.prog qon_ 6 18446744073709551616 (Ev.get qoi_) 267 q71_ J x=q97_ x.1 x.2.1:=by kernel_rfl
theorem qyv_ (x:As [.un,.pr (.int .u8) YTT3]):evT Tryz.prog qon_ 6 18446744073709551616 (Ev.get qoi_) 267 q71_ x=q1u_ x:=by
 rw [q5_,qxt_]
 rfl
theorem qm6_:CtOk Tryz.prog (fun _=>True) 267 ⟨q71_,q1u_⟩:=q3_ (q0_ qd0_ q4_) qyv_
@[reducible] def q73_:Sh:=⟨[.d (.un),.d (.pr (.int .u8) YTT3)],[],[.un,.pr (.int .u8) YTT3],[.d (.sl (.int .u8))],[],0,[.sl (.int .u8)]⟩
def qom_:Env:=(cts [(61,(⟨q80_,qj3_⟩:Ct))])
def qos_:List (Nat×Hint):=[]
def q9h_ (v:Unit) (r:Int×Int×List Bool×List Int×Int×Int):Option (As [.sl (.int .u8)]) :=
 Option.bind (qj3_ (r.2.2.1,())) fun y=>need (small (Nat.succ (Nat.succ 0) + List.length y.1)) (some (r.1::cvt .u8 (Int.ofNat (List.length y.1))::y.1,()))
def q2t_ (x:As [.un,.pr (.int .u8) YTT3]):Option (As [.sl (.int .u8)]):=q9h_ x.1 x.2.1
theorem qxj_ (J:Orc (As [.sl (.int .u8)])) (x:As [.un,.pr (.int .u8) YTT3]):rfn Tryz.prog qom_ 6 18446744073709551616 (Ev.get qos_) 268 q73_ J x=q9h_ x.1 x.2.1:=by kernel_rfl
theorem qz0_ (x:As [.un,.pr (.int .u8) YTT3]):evT Tryz.prog qom_ 6 18446744073709551616 (Ev.get qos_) 268 q73_ x=q2t_ x:=by
 rw [q5_,qxj_]
 rfl
theorem qlm_:CtOk Tryz.prog (fun _=>True) 268 ⟨q73_,q2t_⟩:=q3_ (q0_ q14g_ q4_) qz0_
@[reducible] def q68_:Sh:=⟨[.d (.un),.d (.pr (.int .u8) YTT3)],[],[.un,.pr (.int .u8) YTT3],[.d (.bool)],[],0,[.bool]⟩
def qme_:Env:=(cts [(69,(⟨q7w_,q3j_⟩:Ct))])
def qmc_:List (Nat×Hint):=[]
def q8t_ (v:Unit) (r:Int×Int×List Bool×List Int×Int×Int):Option (As [.bool]) :=
 if ge (Int.ofNat (List.length r.2.2.2.1)) 1=true then if le (Int.ofNat (List.length r.2.2.2.1)) 125=true then Option.bind (q3j_ (r,(r.1,0,[],r.2.2.2.1,0,0),())) fun y=>some (y.1,()) else some (false,()) else some (false,())
def q14_ (x:As [.un,.pr (.int .u8) YTT3]):Option (As [.bool]):=q8t_ x.1 x.2.1
theorem qwm_ (J:Orc (As [.bool])) (x:As [.un,.pr (.int .u8) YTT3]):rfn Tryz.prog qme_ 6 18446744073709551616 (Ev.get qmc_) 270 q68_ J x=q8t_ x.1 x.2.1:=by kernel_rfl
theorem qxo_ (x:As [.un,.pr (.int .u8) YTT3]):evT Tryz.prog qme_ 6 18446744073709551616 (Ev.get qmc_) 270 q68_ x=q14_ x:=by
 rw [q5_,qwm_]
 rfl
theorem ql4_:CtOk Tryz.prog (fun _=>True) 270 ⟨q68_,q14_⟩:=q3_ (q0_ qd0_ q4_) qxo_
@[reducible] def q3u_:Sh:=⟨[.row 0,.d (.sl (.int .u16))],[.row (.int .u8) 5],[.sl (.int .u16),.sl (.int .u8)],[.row 1],[(1,.row (.int .u8) 5)],1,[.sl (.int .u8)]⟩
def qdj_:Env:=(cts [])
def qdz_:List (Nat×Hint):=[(26,⟨[.unl 0],[0,7,8,9]⟩)]
def q96_ (t7:List Int) (t8 t9:Int) (out:List Int):St:={ fr:=[(0,.row 1),(7,.d (.sl (.int .u16)) t7),(8,.d (.int .i64) t8),(9,.d (.int .i64) t9)],nt:=23,up:=[],own:=[(1,.row (.int .u8) 5 out)],nx:=2,log:=[],ln:=1 }
def q8y_ (self1:List Int->Int->Int->List Int->Option (As [.sl (.int .u8)])) (t7:List Int) (t8 t9:Int) (out:List Int):Option (As [.sl (.int .u8)]) :=
 if lt t9 t8=true then Option.bind (at? t7 t9) fun y=>need (small (List.length out + Nat.succ (Nat.succ 0))) (self1 t7 t8 (add .i64 t9 1) (out++[cvt .u8 (Sx.shr .u16 y 8),cvt .u8 y])) else some (out,())
def qgv_ (j1:List Int->Int->Int->List Int->Option (As [.sl (.int .u8)])) (out l:List Int):Option (As [.sl (.int .u8)]) :=
 j1 out (Int.ofNat (List.length out)) 0 l
def qcj_ (t7:List Int) (t8 t9:Int) (out:List Int):Option (As [.sl (.int .u8)]) :=
 loopF (fun (self:(List Int)×(Int)×(Int)×(List Int)->Option (As [.sl (.int .u8)])) (s:(List Int)×(Int)×(Int)×(List Int))=>q8y_ (fun t7 t8 t9 out=>self (t7,t8,t9,out)) s.1 s.2.1 s.2.2.1 s.2.2.2) 18446744073709551616 (t7,t8,t9,out)
def q3l_ (x:As [.sl (.int .u16),.sl (.int .u8)]):Option (As [.sl (.int .u8)]):=qgv_ qcj_ x.1 x.2.1
theorem q15p_ (J:Orc (As [.sl (.int .u8)])) (w1:St->Option (As [.sl (.int .u8)])) (t7:List Int) (t8 t9:Int) (out:List Int):pfn Tryz.prog qdj_ 6 18446744073709551616 (Ev.get qdz_) 273 q3u_ J 26 [w1] (q96_ t7 t8 t9 out)=q8y_ (fun t7 t8 t9 out=>w1 (q96_ t7 t8 t9 out)) t7 t8 t9 out:=by kernel_rfl
theorem q15w_ (J:Orc (As [.sl (.int .u8)])) (x:As [.sl (.int .u16),.sl (.int .u8)]):rfn Tryz.prog qdj_ 6 18446744073709551616 (Ev.get qdz_) 273 q3u_ J x=qgv_ (fun t7 t8 t9 out=>J 26 [] (q96_ t7 t8 t9 out)) x.1 x.2.1:=by kernel_rfl
theorem q14x_ (t7:List Int) (t8 t9:Int) (out:List Int):jfn Tryz.prog qdj_ 6 18446744073709551616 (Ev.get qdz_) 273 q3u_ 26 [] (q96_ t7 t8 t9 out)=qcj_ t7 t8 t9 out:=by
 rw [q8_ (by decide)]
 rw [qr_ (by kernel_rfl)]
 refine qi_ (σ:=(List Int)×(Int)×(Int)×(List Int)) (mk:=fun s=>q96_ s.1 s.2.1 s.2.2.1 s.2.2.2) (fun w1 s=>?_) 18446744073709551616 (t7,t8,t9,out)
 refine (q15p_ _ w1 s.1 s.2.1 s.2.2.1 s.2.2.2).trans ?_
 rfl
theorem q17e_ (x:As [.sl (.int .u16),.sl (.int .u8)]):evT Tryz.prog qdj_ 6 18446744073709551616 (Ev.get qdz_) 273 q3u_ x=q3l_ x:=by
 have e1:(fun t7 t8 t9 out=>(jfn Tryz.prog qdj_ 6 18446744073709551616 (Ev.get qdz_) 273 q3u_) 26 [] (q96_ t7 t8 t9 out))=qcj_:=by funext t7 t8 t9 out; exact q14x_ t7 t8 t9 out
 rw [q5_,q15w_,e1]
 rfl
theorem qgp_:CtOk Tryz.prog (fun _=>True) 273 ⟨q3u_,q3l_⟩:=q3_ q4_ q17e_
@[reducible] def q6c_:Sh:=⟨[.d (.un),.d (.pr (.int .u8) YTT3)],[],[.un,.pr (.int .u8) YTT3],[.d (.sl (.int .u8))],[],0,[.sl (.int .u8)]⟩
def qlv_:Env:=(cts [(273,(⟨q3u_,q3l_⟩:Ct))])
def qm7_:List (Nat×Hint):=[]
def q8v_ (v:Unit) (r:Int×Int×List Bool×List Int×Int×Int):Option (As [.sl (.int .u8)]) :=
 Option.bind (q3l_ (r.2.2.2.1,[r.1,cvt .u8 (mul .i64 2 (Int.ofNat (List.length r.2.2.2.1)))],())) fun y=>some (y.1,())
def q1n_ (x:As [.un,.pr (.int .u8) YTT3]):Option (As [.sl (.int .u8)]):=q8v_ x.1 x.2.1
theorem qwn_ (J:Orc (As [.sl (.int .u8)])) (x:As [.un,.pr (.int .u8) YTT3]):rfn Tryz.prog qlv_ 6 18446744073709551616 (Ev.get qm7_) 271 q6c_ J x=q8v_ x.1 x.2.1:=by kernel_rfl
theorem qxl_ (x:As [.un,.pr (.int .u8) YTT3]):evT Tryz.prog qlv_ 6 18446744073709551616 (Ev.get qm7_) 271 q6c_ x=q1n_ x:=by
 rw [q5_,qwn_]
 rfl
theorem ql8_:CtOk Tryz.prog (fun _=>True) 271 ⟨q6c_,q1n_⟩:=q3_ (q0_ qgp_ q4_) qxl_
@[reducible] def q8c_:Sh:=⟨[.d (.un),.d (.pr (.int .u8) YTT3)],[],[.un,.pr (.int .u8) YTT3],[.d (.bool)],[],0,[.bool]⟩
def qq7_:Env:=(cts [(69,(⟨q7w_,q3j_⟩:Ct))])
def qr7_:List (Nat×Hint):=[]
def qa1_ (v:Unit) (r:Int×Int×List Bool×List Int×Int×Int):Option (As [.bool]) :=
 if eqi (Int.ofNat (List.length r.2.2.1)) 1=true then Option.bind (q3j_ (r,(r.1,0,r.2.2.1,[],r.2.2.2.2.1,0),())) fun y=>some (y.1,()) else some (false,())
def q3y_ (x:As [.un,.pr (.int .u8) YTT3]):Option (As [.bool]):=qa1_ x.1 x.2.1
theorem qyc_ (J:Orc (As [.bool])) (x:As [.un,.pr (.int .u8) YTT3]):rfn Tryz.prog qq7_ 6 18446744073709551616 (Ev.get qr7_) 275 q8c_ J x=qa1_ x.1 x.2.1:=by kernel_rfl
theorem q109_ (x:As [.un,.pr (.int .u8) YTT3]):evT Tryz.prog qq7_ 6 18446744073709551616 (Ev.get qr7_) 275 q8c_ x=q3y_ x:=by
 rw [q5_,qyc_]
 rfl
theorem qog_:CtOk Tryz.prog (fun _=>True) 275 ⟨q8c_,q3y_⟩:=q3_ (q0_ qd0_ q4_) q109_
@[reducible] def q39_:Sh:=⟨[.d (.un),.d (.pr (.int .u8) YTT3)],[],[.un,.pr (.int .u8) YTT3],[.d (.sl (.int .u8))],[],0,[.sl (.int .u8)]⟩
def q85_:Env:=(cts [(273,(⟨q3u_,q3l_⟩:Ct))])
def q7x_:List (Nat×Hint):=[(7,⟨[],[3,5]⟩)]
def qa7_ (x r r_2:Int) (r_3:List Bool) (r_4:List Int) (r_5 r_6:Int):St:={ fr:=[(3,.pb 0 0),(5,.d (.int .u16) x)],nt:=18,up:=[],own:=[(0,.box 46 [.d (.int .u8) r,.d (.int .u8) r_2,.d (.sl .bool) r_3,.d (.sl (.int .u16)) r_4,.d (.int .u16) r_5,.d (.int .u16) r_6])],nx:=1,log:=[],ln:=0 }
def qfi_ (x r r_2:Int) (r_3:List Bool) (r_4:List Int) (r_5 r_6:Int):Option (As [.sl (.int .u8)]) :=
 Option.bind (q3l_ ([r_5,x],[r],())) fun y=>some (y.1,())
def qa4_ (j1:Int->Int->Int->List Bool->List Int->Int->Int->Option (As [.sl (.int .u8)])) (v:Unit) (r:Int×Int×List Bool×List Int×Int×Int):Option (As [.sl (.int .u8)]) :=
 Option.bind (at? r.2.2.1 0) fun y=>if y=true then j1 65280 r.1 r.2.1 r.2.2.1 r.2.2.2.1 r.2.2.2.2.1 r.2.2.2.2.2 else j1 0 r.1 r.2.1 r.2.2.1 r.2.2.2.1 r.2.2.2.2.1 r.2.2.2.2.2
def q4w_ (x r r_2:Int) (r_3:List Bool) (r_4:List Int) (r_5 r_6:Int):Option (As [.sl (.int .u8)]):=qfi_ x r r_2 r_3 r_4 r_5 r_6
def q58_ (x:As [.un,.pr (.int .u8) YTT3]):Option (As [.sl (.int .u8)]):=qa4_ q4w_ x.1 x.2.1
theorem qzh_ (J:Orc (As [.sl (.int .u8)])) (x r r_2:Int) (r_3:List Bool) (r_4:List Int) (r_5 r_6:Int):pfn Tryz.prog q85_ 6 18446744073709551616 (Ev.get q7x_) 276 q39_ J 7 [] (qa7_ x r r_2 r_3 r_4 r_5 r_6)=qfi_ x r r_2 r_3 r_4 r_5 r_6:=by kernel_rfl
theorem qz1_ (J:Orc (As [.sl (.int .u8)])) (x:As [.un,.pr (.int .u8) YTT3]):rfn Tryz.prog q85_ 6 18446744073709551616 (Ev.get q7x_) 276 q39_ J x=qa4_ (fun x r r_2 r_3 r_4 r_5 r_6=>J 7 [] (qa7_ x r r_2 r_3 r_4 r_5 r_6)) x.1 x.2.1:=by kernel_rfl
theorem qzb_ (x r r_2:Int) (r_3:List Bool) (r_4:List Int) (r_5 r_6:Int):jfn Tryz.prog q85_ 6 18446744073709551616 (Ev.get q7x_) 276 q39_ 7 [] (qa7_ x r r_2 r_3 r_4 r_5 r_6)=q4w_ x r r_2 r_3 r_4 r_5 r_6:=by
 rw [q8_ (by decide)]
 rw [qzh_]
 rfl
theorem qzo_ (x:As [.un,.pr (.int .u8) YTT3]):evT Tryz.prog q85_ 6 18446744073709551616 (Ev.get q7x_) 276 q39_ x=q58_ x:=by
 have e1:(fun x r r_2 r_3 r_4 r_5 r_6=>(jfn Tryz.prog q85_ 6 18446744073709551616 (Ev.get q7x_) 276 q39_) 7 [] (qa7_ x r r_2 r_3 r_4 r_5 r_6))=q4w_:=by funext x r r_2 r_3 r_4 r_5 r_6; exact qzb_ x r r_2 r_3 r_4 r_5 r_6
 rw [q5_,qz1_,e1]
 rfl
theorem qoh_:CtOk Tryz.prog (fun _=>True) 276 ⟨q39_,q58_⟩:=q3_ (q0_ qgp_ q4_) qzo_
@[reducible] def q72_:Sh:=⟨[.d (.un),.d (.pr (.int .u8) YTT3)],[],[.un,.pr (.int .u8) YTT3],[.d (.bool)],[],0,[.bool]⟩
def qou_:Env:=(cts [(69,(⟨q7w_,q3j_⟩:Ct))])
def qoo_:List (Nat×Hint):=[]
def q98_ (v:Unit) (r:Int×Int×List Bool×List Int×Int×Int):Option (As [.bool]) :=
 if eqi (Int.ofNat (List.length r.2.2.2.1)) 1=true then Option.bind (q3j_ (r,(r.1,0,[],r.2.2.2.1,r.2.2.2.2.1,0),())) fun y=>some (y.1,()) else some (false,())
def q3i_ (x:As [.un,.pr (.int .u8) YTT3]):Option (As [.bool]):=q98_ x.1 x.2.1
theorem qxx_ (J:Orc (As [.bool])) (x:As [.un,.pr (.int .u8) YTT3]):rfn Tryz.prog qou_ 6 18446744073709551616 (Ev.get qoo_) 278 q72_ J x=q98_ x.1 x.2.1:=by kernel_rfl
theorem qy2_ (x:As [.un,.pr (.int .u8) YTT3]):evT Tryz.prog qou_ 6 18446744073709551616 (Ev.get qoo_) 278 q72_ x=q3i_ x:=by
 rw [q5_,qxx_]
 rfl
theorem qm9_:CtOk Tryz.prog (fun _=>True) 278 ⟨q72_,q3i_⟩:=q3_ (q0_ qd0_ q4_) qy2_
@[reducible] def q4u_:Sh:=⟨[.d (.un),.d (.pr (.int .u8) YTT3)],[],[.un,.pr (.int .u8) YTT3],[.d (.sl (.int .u8))],[],0,[.sl (.int .u8)]⟩
def qol_:Env:=(cts [(273,(⟨q3u_,q3l_⟩:Ct))])
def qop_:List (Nat×Hint):=[]
def q99_ (v:Unit) (r:Int×Int×List Bool×List Int×Int×Int):Option (As [.sl (.int .u8)]) :=
 Option.bind (at? r.2.2.2.1 0) fun y=>amb (eqAs q4u_.rs) [Option.bind (q3l_ ([r.2.2.2.2.1,y],[r.1],())) fun y=>some (y.1,()),Option.bind (q3l_ ([r.2.2.2.2.1,y],[r.1],())) fun y=>some (y.1,())]
def q4q_ (x:As [.un,.pr (.int .u8) YTT3]):Option (As [.sl (.int .u8)]):=q99_ x.1 x.2.1
theorem qxu_ (J:Orc (As [.sl (.int .u8)])) (x:As [.un,.pr (.int .u8) YTT3]):rfn Tryz.prog qol_ 6 18446744073709551616 (Ev.get qop_) 279 q4u_ J x=q99_ x.1 x.2.1:=by kernel_rfl
theorem qzm_ (x:As [.un,.pr (.int .u8) YTT3]):evT Tryz.prog qol_ 6 18446744073709551616 (Ev.get qop_) 279 q4u_ x=q4q_ x:=by
 rw [q5_,qxu_]
 rfl
theorem qlz_:CtOk Tryz.prog (fun _=>True) 279 ⟨q4u_,q4q_⟩:=q3_ (q0_ qgp_ q4_) qzm_
@[reducible] def q8x_:Sh:=⟨[.d (.wr (.int .u16)),.d (.pr (.int .u8) YTT3)],[],[.wr (.int .u16),.pr (.int .u8) YTT3],[.d (.bool)],[],0,[.bool]⟩
def qsk_:Env:=(cts [(69,(⟨q7w_,q3j_⟩:Ct))])
def qsi_:List (Nat×Hint):=[]
def qb1_ (k:Int) (r:Int×Int×List Bool×List Int×Int×Int):Option (As [.bool]) :=
 if ge r.2.2.2.2.2 1=true then if le r.2.2.2.2.2 k=true then Option.bind (q3j_ (r,(r.1,0,[],[],r.2.2.2.2),())) fun y=>some (y.1,()) else some (false,()) else some (false,())
def q2l_ (x:As [.wr (.int .u16),.pr (.int .u8) YTT3]):Option (As [.bool]):=qb1_ x.1 x.2.1
theorem q107_ (J:Orc (As [.bool])) (x:As [.wr (.int .u16),.pr (.int .u8) YTT3]):rfn Tryz.prog qsk_ 6 18446744073709551616 (Ev.get qsi_) 281 q8x_ J x=qb1_ x.1 x.2.1:=by kernel_rfl
theorem q11s_ (x:As [.wr (.int .u16),.pr (.int .u8) YTT3]):evT Tryz.prog qsk_ 6 18446744073709551616 (Ev.get qsi_) 281 q8x_ x=q2l_ x:=by
 rw [q5_,q107_]
 rfl
theorem qqh_:CtOk Tryz.prog (fun _=>True) 281 ⟨q8x_,q2l_⟩:=q3_ (q0_ qd0_ q4_) q11s_
@[reducible] def q8w_:Sh:=⟨[.d (.wr (.int .u16)),.d (.pr (.int .u8) YTT3)],[],[.wr (.int .u16),.pr (.int .u8) YTT3],[.d (.sl (.int .u8))],[],0,[.sl (.int .u8)]⟩
def qsh_:Env:=(cts [(273,(⟨q3u_,q3l_⟩:Ct))])
def qsg_:List (Nat×Hint):=[]
def qb4_ (v:Int) (r:Int×Int×List Bool×List Int×Int×Int):Option (As [.sl (.int .u8)]) :=
 Option.bind (q3l_ ([r.2.2.2.2.1,r.2.2.2.2.2],[r.1],())) fun y=>some (y.1,())
def q3k_ (x:As [.wr (.int .u16),.pr (.int .u8) YTT3]):Option (As [.sl (.int .u8)]):=qb4_ x.1 x.2.1
theorem qzy_ (J:Orc (As [.sl (.int .u8)])) (x:As [.wr (.int .u16),.pr (.int .u8) YTT3]):rfn Tryz.prog qsh_ 6 18446744073709551616 (Ev.get qsg_) 282 q8w_ J x=qb4_ x.1 x.2.1:=by kernel_rfl
theorem q11x_ (x:As [.wr (.int .u16),.pr (.int .u8) YTT3]):evT Tryz.prog qsh_ 6 18446744073709551616 (Ev.get qsg_) 282 q8w_ x=q3k_ x:=by
 rw [q5_,qzy_]
 rfl
theorem qrl_:CtOk Tryz.prog (fun _=>True) 282 ⟨q8w_,q3k_⟩:=q3_ (q0_ qgp_ q4_) q11x_
@[reducible] def qnm_:Sh:=⟨[.d (.pr (.int .u8) YTT3)],[],[.pr (.int .u8) YTT3],[.d (.sl (.int .u8)),.d (.int .i64)],[],0,[.sl (.int .u8),.int .i64]⟩
def q10n_:Env:=(cts [(254,(⟨q5s_,q2v_⟩:Ct)),(255,(⟨q5r_,q3m_⟩:Ct)),(267,(⟨q71_,q1u_⟩:Ct)),(268,(⟨q73_,q2t_⟩:Ct)),(270,(⟨q68_,q14_⟩:Ct)),(271,(⟨q6c_,q1n_⟩:Ct)),(275,(⟨q8c_,q3y_⟩:Ct)),(276,(⟨q39_,q58_⟩:Ct)),(278,(⟨q72_,q3i_⟩:Ct)),(279,(⟨q4u_,q4q_⟩:Ct)),(281,(⟨q8x_,q2l_⟩:Ct)),(282,(⟨q8w_,q3k_⟩:Ct))])
def q119_:List (Nat×Hint):=[]
def qkz_ (r:Int×Int×List Bool×List Int×Int×Int):Option (As [.sl (.int .u8),.int .i64]) :=
 if nei r.2.1 0=true then Option.bind (q2v_ ((),r,())) fun y=>if y.1=true then Option.bind (q3m_ ((),r,())) fun y=>some (y.1,0,()) else some ([],13,()) else if eqi r.1 1=true then Option.bind (q1u_ ((),r,())) fun y=>if y.1=true then Option.bind (q2t_ ((),r,())) fun y=>some (y.1,0,()) else some ([],13,()) else if eqi r.1 2=true then Option.bind (q1u_ ((),r,())) fun y=>if y.1=true then Option.bind (q2t_ ((),r,())) fun y=>some (y.1,0,()) else some ([],13,()) else if eqi r.1 3=true then Option.bind (q14_ ((),r,())) fun y=>if y.1=true then Option.bind (q1n_ ((),r,())) fun y=>some (y.1,0,()) else some ([],13,()) else if eqi r.1 4=true then Option.bind (q14_ ((),r,())) fun y=>if y.1=true then Option.bind (q1n_ ((),r,())) fun y=>some (y.1,0,()) else some ([],13,()) else if eqi r.1 23=true then Option.bind (q14_ ((),r,())) fun y=>if y.1=true then Option.bind (q1n_ ((),r,())) fun y=>some (y.1,0,()) else some ([],13,()) else if eqi r.1 5=true then Option.bind (q3y_ ((),r,())) fun y=>if y.1=true then Option.bind (q58_ ((),r,())) fun y=>some (y.1,0,()) else some ([],13,()) else if eqi r.1 6=true then Option.bind (q3i_ ((),r,())) fun y=>if y.1=true then Option.bind (q4q_ ((),r,())) fun y=>some (y.1,0,()) else some ([],13,()) else if eqi r.1 15=true then Option.bind (q2l_ (1968,r,())) fun y=>if y.1=true then Option.bind (q3k_ (1968,r,())) fun y=>some (y.1,0,()) else some ([],13,()) else if eqi r.1 16=true then Option.bind (q2l_ (123,r,())) fun y=>if y.1=true then Option.bind (q3k_ (123,r,())) fun y=>some (y.1,0,()) else some ([],13,()) else some ([],13,())
def q9a_ (x:As [.pr (.int .u8) YTT3]):Option (As [.sl (.int .u8),.int .i64]):=qkz_ x.1
theorem q19x_ (J:Orc (As [.sl (.int .u8),.int .i64])) (x:As [.pr (.int .u8) YTT3]):rfn Tryz.prog q10n_ 6 18446744073709551616 (Ev.get q119_) 64 qnm_ J x=qkz_ x.1:=by kernel_rfl
theorem q1b3_ (x:As [.pr (.int .u8) YTT3]):evT Tryz.prog q10n_ 6 18446744073709551616 (Ev.get q119_) 64 qnm_ x=q9a_ x:=by
 rw [q5_,q19x_]
 rfl
theorem q19v_:CtOk Tryz.prog (fun _=>True) 64 ⟨qnm_,q9a_⟩:=q3_ (q0_ qjc_ (q0_ qj5_ (q0_ qm6_ (q0_ qlm_ (q0_ ql4_ (q0_ ql8_ (q0_ qog_ (q0_ qoh_ (q0_ qm9_ (q0_ qlz_ (q0_ qqh_ (q0_ qrl_ q4_)))))))))))) q1b3_
@[reducible] def q8m_:Sh:=⟨[.d (.pr (.int .u8) (.pr (.int .u8) (.pr (.pr (.sl (.int .u16)) YTT0) (.sl .bool)))),.d (.sl (.int .u8))],[],[.pr (.int .u8) (.pr (.int .u8) (.pr (.pr (.sl (.int .u16)) YTT0) (.sl .bool))),.sl (.int .u8)],[.d (.pr (.int .u8) (.pr (.int .u8) (.pr (.pr (.sl (.int .u16)) YTT0) (.sl .bool)))),.d (.sl (.int .u8))],[],0,[.pr (.int .u8) (.pr (.int .u8) (.pr (.pr (.sl (.int .u16)) YTT0) (.sl .bool))),.sl (.int .u8)]⟩
def q11b_:Env:=(cts [(62,(⟨q2e_,qte_⟩:Ct)),(63,(⟨qo6_,qlh_⟩:Ct)),(64,(⟨qnm_,q9a_⟩:Ct))])
def q10j_:List (Nat×Hint):=[]
def qky_ (s:YaA4q0) (pdu:List Int):Option (As [.pr (.int .u8) (.pr (.int .u8) (.pr (.pr (.sl (.int .u16)) YTT0) (.sl .bool))),.sl (.int .u8)]) :=
 Option.bind (qlh_ (s,())) fun y=>Option.bind (qte_ (y.1,y.2.1,y.2.2.1,y.2.2.2.1,y.2.2.2.2.1,y.2.2.2.2.2.1,y.2.2.2.2.2.2.1,y.2.2.2.2.2.2.2.1,y.2.2.2.2.2.2.2.2.1,y.2.2.2.2.2.2.2.2.2.1,y.2.2.2.2.2.2.2.2.2.2.1,y.2.2.2.2.2.2.2.2.2.2.2.1,y.2.2.2.2.2.2.2.2.2.2.2.2.1,y.2.2.2.2.2.2.2.2.2.2.2.2.2.1,y.2.2.2.2.2.2.2.2.2.2.2.2.2.2.1,y.2.2.2.2.2.2.2.2.2.2.2.2.2.2.2.1,y.2.2.2.2.2.2.2.2.2.2.2.2.2.2.2.2.1,y.2.2.2.2.2.2.2.2.2.2.2.2.2.2.2.2.2.1,y.2.2.2.2.2.2.2.2.2.2.2.2.2.2.2.2.2.2.1,y.2.2.2.2.2.2.2.2.2.2.2.2.2.2.2.2.2.2.2.1,y.2.2.2.2.2.2.2.2.2.2.2.2.2.2.2.2.2.2.2.2.1,y.2.2.2.2.2.2.2.2.2.2.2.2.2.2.2.2.2.2.2.2.2.1,y.2.2.2.2.2.2.2.2.2.2.2.2.2.2.2.2.2.2.2.2.2.2.1,y.2.2.2.2.2.2.2.2.2.2.2.2.2.2.2.2.2.2.2.2.2.2.2.1,y.2.2.2.2.2.2.2.2.2.2.2.2.2.2.2.2.2.2.2.2.2.2.2.2.1,y.2.2.2.2.2.2.2.2.2.2.2.2.2.2.2.2.2.2.2.2.2.2.2.2.2.1,y.2.2.2.2.2.2.2.2.2.2.2.2.2.2.2.2.2.2.2.2.2.2.2.2.2.2.1,y.2.2.2.2.2.2.2.2.2.2.2.2.2.2.2.2.2.2.2.2.2.2.2.2.2.2.2.1,y.2.2.2.2.2.2.2.2.2.2.2.2.2.2.2.2.2.2.2.2.2.2.2.2.2.2.2.2.1,y.2.2.2.2.2.2.2.2.2.2.2.2.2.2.2.2.2.2.2.2.2.2.2.2.2.2.2.2.2.1,y.2.2.2.2.2.2.2.2.2.2.2.2.2.2.2.2.2.2.2.2.2.2.2.2.2.2.2.2.2.2.1,y.2.2.2.2.2.2.2.2.2.2.2.2.2.2.2.2.2.2.2.2.2.2.2.2.2.2.2.2.2.2.2.1,y.2.2.2.2.2.2.2.2.2.2.2.2.2.2.2.2.2.2.2.2.2.2.2.2.2.2.2.2.2.2.2.2.1,y.2.2.2.2.2.2.2.2.2.2.2.2.2.2.2.2.2.2.2.2.2.2.2.2.2.2.2.2.2.2.2.2.2.1,pdu,y.2.2.2.2.2.2.2.2.2.2.2.2.2.2.2.2.2.2.2.2.2.2.2.2.2.2.2.2.2.2.2.2.2.2.1,())) fun y=>Option.bind (q9a_ (y.2.1,())) fun y_1=>some (y.1,y_1.1,())
def q5f_ (x:As [.pr (.int .u8) (.pr (.int .u8) (.pr (.pr (.sl (.int .u16)) YTT0) (.sl .bool))),.sl (.int .u8)]):Option (As [.pr (.int .u8) (.pr (.int .u8) (.pr (.pr (.sl (.int .u16)) YTT0) (.sl .bool))),.sl (.int .u8)]):=qky_ x.1 x.2.1
theorem q18e_ (J:Orc (As [.pr (.int .u8) (.pr (.int .u8) (.pr (.pr (.sl (.int .u16)) YTT0) (.sl .bool))),.sl (.int .u8)])) (x:As [.pr (.int .u8) (.pr (.int .u8) (.pr (.pr (.sl (.int .u16)) YTT0) (.sl .bool))),.sl (.int .u8)]):rfn Tryz.prog q11b_ 6 18446744073709551616 (Ev.get q10j_) 14 q8m_ J x=qky_ x.1 x.2.1:=by kernel_rfl
theorem q1bw_ (x:As [.pr (.int .u8) (.pr (.int .u8) (.pr (.pr (.sl (.int .u16)) YTT0) (.sl .bool))),.sl (.int .u8)]):evT Tryz.prog q11b_ 6 18446744073709551616 (Ev.get q10j_) 14 q8m_ x=q5f_ x:=by
 rw [q5_,q18e_]
 rfl
theorem qkr_:CtOk Tryz.prog (fun _=>True) 14 ⟨q8m_,q5f_⟩:=q3_ (q0_ q17v_ (q0_ q19i_ (q0_ q19v_ q4_))) q1bw_
@[reducible] def q9b_:Sh:=⟨[.d (.un),.d (.sl (.int .u8))],[],[.un,.sl (.int .u8)],[.d (.pr (.int .u8) YTT3)],[],0,[.pr (.int .u8) YTT3]⟩
def qlp_:Env:=(cts [(120,(⟨qaf_,qh_⟩:Ct))])
def qlw_:List (Nat×Hint):=[]
def ql5_ (v:Unit) (b:List Int):Option (As [.pr (.int .u8) YTT3]) :=
 Option.bind (at? b 0) fun y=>Option.bind (at? b 1) fun y_1=>Option.bind (qh_ (y,y_1,())) fun y=>some (y.1,())
def qay_ (x:As [.un,.sl (.int .u8)]):Option (As [.pr (.int .u8) YTT3]):=ql5_ x.1 x.2.1
theorem qwo_ (J:Orc (As [.pr (.int .u8) YTT3])) (x:As [.un,.sl (.int .u8)]):rfn Tryz.prog qlp_ 6 18446744073709551616 (Ev.get qlw_) 253 q9b_ J x=ql5_ x.1 x.2.1:=by kernel_rfl
theorem qxr_ (x:As [.un,.sl (.int .u8)]):evT Tryz.prog qlp_ 6 18446744073709551616 (Ev.get qlw_) 253 q9b_ x=qay_ x:=by
 rw [q5_,qwo_]
 rfl
theorem qwt_:CtOk Tryz.prog (fun _=>True) 253 ⟨q9b_,qay_⟩:=q3_ (q0_ qkl_ q4_) qxr_
@[reducible] def qb2_:Sh:=⟨[.d (.un),.d (.sl (.int .u8))],[],[.un,.sl (.int .u8)],[.d (.pr (.int .u8) YTT3)],[],0,[.pr (.int .u8) YTT3]⟩
def qpr_:Env:=(cts [(212,(⟨q9j_,qgz_⟩:Ct))])
def qsa_:List (Nat×Hint):=[]
def qox_ (v:Unit) (b:List Int):Option (As [.pr (.int .u8) YTT3]) :=
 Option.bind (at? b 0) fun y=>Option.bind (cut b 2 (Int.ofNat (List.length b))) fun y_1=>Option.bind (qgz_ (y_1,())) fun y_2=>some ((y,0,y_2.1,[],0,0),())
def q9q_ (x:As [.un,.sl (.int .u8)]):Option (As [.pr (.int .u8) YTT3]):=qox_ x.1 x.2.1
theorem qz6_ (J:Orc (As [.pr (.int .u8) YTT3])) (x:As [.un,.sl (.int .u8)]):rfn Tryz.prog qpr_ 6 18446744073709551616 (Ev.get qsa_) 266 qb2_ J x=qox_ x.1 x.2.1:=by kernel_rfl
theorem qzu_ (x:As [.un,.sl (.int .u8)]):evT Tryz.prog qpr_ 6 18446744073709551616 (Ev.get qsa_) 266 qb2_ x=q9q_ x:=by
 rw [q5_,qz6_]
 rfl
theorem qza_:CtOk Tryz.prog (fun _=>True) 266 ⟨qb2_,q9q_⟩:=q3_ (q0_ q11g_ q4_) qzu_
@[reducible] def q66_:Sh:=⟨[.d (.sl (.int .u8))],[],[.sl (.int .u8)],[.d (.sl (.int .u16))],[],0,[.sl (.int .u16)]⟩
def qjp_:Env:=(cts [])
def qj7_:List (Nat×Hint):=[(58,⟨[],[0,3,10,11]⟩)]
def qd3_ (b:List Int) (t10 t11:Int) (l:List Int):St:={ fr:=[(0,.d (.sl (.int .u8)) b),(3,.row 0),(10,.d (.int .i64) t10),(11,.d (.int .i64) t11)],nt:=34,up:=[],own:=[(0,.row (.int .u16) 23 l)],nx:=1,log:=[],ln:=0 }
def q10z_ (self1:List Int->Int->Int->List Int->Option (As [.sl (.int .u16)])) (b:List Int) (t10 t11:Int) (l:List Int):Option (As [.sl (.int .u16)]) :=
 if lt t11 t10=true then Option.bind (at? b (mul .i64 2 t11)) fun y=>Option.bind (at? b (add .i64 (mul .i64 2 t11) 1)) fun y_1=>Option.bind (at? l t11) fun x=>Option.bind (at? l t11) fun x=>self1 b t10 (add .i64 t11 1) (List.set l (Int.toNat t11) (Sx.bor .u16 (Sx.shl .u16 (cvt .u16 y) 8) (cvt .u16 y_1))) else some (l,())
def q10p_ (j1:List Int->Int->Int->List Int->Option (As [.sl (.int .u16)])) (b:List Int):Option (As [.sl (.int .u16)]) :=
 need (ge (quo .i64 (Int.ofNat (List.length b)) 2) 0) (need (Ev.capOk (quo .i64 (Int.ofNat (List.length b)) 2) (quo .i64 (Int.ofNat (List.length b)) 2)) (need (small (Int.toNat (quo .i64 (Int.ofNat (List.length b)) 2))) (j1 b (Int.ofNat (List.length (List.replicate (α:=Int) (Int.toNat (quo .i64 (Int.ofNat (List.length b)) 2)) 0))) 0 (List.replicate (Int.toNat (quo .i64 (Int.ofNat (List.length b)) 2)) 0))))
def quq_ (b:List Int) (t10 t11:Int) (l:List Int):Option (As [.sl (.int .u16)]) :=
 loopF (fun (self:(List Int)×(Int)×(Int)×(List Int)->Option (As [.sl (.int .u16)])) (s:(List Int)×(Int)×(Int)×(List Int))=>q10z_ (fun b t10 t11 l=>self (b,t10,t11,l)) s.1 s.2.1 s.2.2.1 s.2.2.2) 18446744073709551616 (b,t10,t11,l)
def q9i_ (x:As [.sl (.int .u8)]):Option (As [.sl (.int .u16)]):=q10p_ quq_ x.1
theorem q1bv_ (J:Orc (As [.sl (.int .u16)])) (w1:St->Option (As [.sl (.int .u16)])) (b:List Int) (t10 t11:Int) (l:List Int):pfn Tryz.prog qjp_ 6 18446744073709551616 (Ev.get qj7_) 272 q66_ J 58 [w1] (qd3_ b t10 t11 l)=q10z_ (fun b t10 t11 l=>w1 (qd3_ b t10 t11 l)) b t10 t11 l:=by kernel_rfl
theorem q1at_ (J:Orc (As [.sl (.int .u16)])) (x:As [.sl (.int .u8)]):rfn Tryz.prog qjp_ 6 18446744073709551616 (Ev.get qj7_) 272 q66_ J x=q10p_ (fun b t10 t11 l=>J 58 [] (qd3_ b t10 t11 l)) x.1:=by kernel_rfl
theorem q1bn_ (b:List Int) (t10 t11:Int) (l:List Int):jfn Tryz.prog qjp_ 6 18446744073709551616 (Ev.get qj7_) 272 q66_ 58 [] (qd3_ b t10 t11 l)=quq_ b t10 t11 l:=by
 rw [q8_ (by decide)]
 rw [qr_ (by kernel_rfl)]
 refine qi_ (σ:=(List Int)×(Int)×(Int)×(List Int)) (mk:=fun s=>qd3_ s.1 s.2.1 s.2.2.1 s.2.2.2) (fun w1 s=>?_) 18446744073709551616 (b,t10,t11,l)
 refine (q1bv_ _ w1 s.1 s.2.1 s.2.2.1 s.2.2.2).trans ?_
 rfl
theorem q1er_ (x:As [.sl (.int .u8)]):evT Tryz.prog qjp_ 6 18446744073709551616 (Ev.get qj7_) 272 q66_ x=q9i_ x:=by
 have e1:(fun b t10 t11 l=>(jfn Tryz.prog qjp_ 6 18446744073709551616 (Ev.get qj7_) 272 q66_) 58 [] (qd3_ b t10 t11 l))=quq_:=by funext b t10 t11 l; exact q1bn_ b t10 t11 l
 rw [q5_,q1at_,e1]
 rfl
theorem qmy_:CtOk Tryz.prog (fun _=>True) 272 ⟨q66_,q9i_⟩:=q3_ q4_ q1er_
@[reducible] def qa2_:Sh:=⟨[.d (.un),.d (.sl (.int .u8))],[],[.un,.sl (.int .u8)],[.d (.pr (.int .u8) YTT3)],[],0,[.pr (.int .u8) YTT3]⟩
def qov_:Env:=(cts [(272,(⟨q66_,q9i_⟩:Ct))])
def qoj_:List (Nat×Hint):=[]
def qmh_ (v:Unit) (b:List Int):Option (As [.pr (.int .u8) YTT3]) :=
 Option.bind (at? b 0) fun y=>Option.bind (cut b 2 (Int.ofNat (List.length b))) fun y_1=>Option.bind (q9i_ (y_1,())) fun y_2=>some ((y,0,[],y_2.1,0,0),())
def q60_ (x:As [.un,.sl (.int .u8)]):Option (As [.pr (.int .u8) YTT3]):=qmh_ x.1 x.2.1
theorem qxn_ (J:Orc (As [.pr (.int .u8) YTT3])) (x:As [.un,.sl (.int .u8)]):rfn Tryz.prog qov_ 6 18446744073709551616 (Ev.get qoj_) 269 qa2_ J x=qmh_ x.1 x.2.1:=by kernel_rfl
theorem qy7_ (x:As [.un,.sl (.int .u8)]):evT Tryz.prog qov_ 6 18446744073709551616 (Ev.get qoj_) 269 qa2_ x=q60_ x:=by
 rw [q5_,qxn_]
 rfl
theorem qxi_:CtOk Tryz.prog (fun _=>True) 269 ⟨qa2_,q60_⟩:=q3_ (q0_ qmy_ q4_) qy7_
@[reducible] def qct_:Sh:=⟨[.d (.un),.d (.sl (.int .u8))],[],[.un,.sl (.int .u8)],[.d (.pr (.int .u8) YTT3)],[],0,[.pr (.int .u8) YTT3]⟩
def qsf_:Env:=(cts [(272,(⟨q66_,q9i_⟩:Ct))])
def qsl_:List (Nat×Hint):=[]
def qpb_ (v:Unit) (b:List Int):Option (As [.pr (.int .u8) YTT3]) :=
 Option.bind (cut b 1 (Int.ofNat (List.length b))) fun y=>Option.bind (q9i_ (y,())) fun y=>if lt (Int.ofNat (List.length y.1)) 2=true then some ((0,0,[],[],0,0),()) else Option.bind (at? b 0) fun y_1=>Option.bind (at? y.1 0) fun y_2=>Option.bind (at? y.1 1) fun y=>some ((y_1,0,[eqi y 65280],[],y_2,0),())
def qek_ (x:As [.un,.sl (.int .u8)]):Option (As [.pr (.int .u8) YTT3]):=qpb_ x.1 x.2.1
theorem qzp_ (J:Orc (As [.pr (.int .u8) YTT3])) (x:As [.un,.sl (.int .u8)]):rfn Tryz.prog qsf_ 6 18446744073709551616 (Ev.get qsl_) 274 qct_ J x=qpb_ x.1 x.2.1:=by kernel_rfl
theorem q121_ (x:As [.un,.sl (.int .u8)]):evT Tryz.prog qsf_ 6 18446744073709551616 (Ev.get qsl_) 274 qct_ x=qek_ x:=by
 rw [q5_,qzp_]
 rfl
theorem qzs_:CtOk Tryz.prog (fun _=>True) 274 ⟨qct_,qek_⟩:=q3_ (q0_ qmy_ q4_) q121_
@[reducible] def qam_:Sh:=⟨[.d (.un),.d (.sl (.int .u8))],[],[.un,.sl (.int .u8)],[.d (.pr (.int .u8) YTT3)],[],0,[.pr (.int .u8) YTT3]⟩
def qqq_:Env:=(cts [(272,(⟨q66_,q9i_⟩:Ct))])
def qq3_:List (Nat×Hint):=[]
def qor_ (v:Unit) (b:List Int):Option (As [.pr (.int .u8) YTT3]) :=
 Option.bind (cut b 1 (Int.ofNat (List.length b))) fun y=>Option.bind (q9i_ (y,())) fun y=>if lt (Int.ofNat (List.length y.1)) 2=true then some ((0,0,[],[],0,0),()) else Option.bind (at? b 0) fun y_1=>Option.bind (at? y.1 0) fun y_2=>Option.bind (at? y.1 1) fun y=>some ((y_1,0,[],[y],y_2,0),())
def qdp_ (x:As [.un,.sl (.int .u8)]):Option (As [.pr (.int .u8) YTT3]):=qor_ x.1 x.2.1
theorem qz7_ (J:Orc (As [.pr (.int .u8) YTT3])) (x:As [.un,.sl (.int .u8)]):rfn Tryz.prog qqq_ 6 18446744073709551616 (Ev.get qq3_) 277 qam_ J x=qor_ x.1 x.2.1:=by kernel_rfl
theorem q108_ (x:As [.un,.sl (.int .u8)]):evT Tryz.prog qqq_ 6 18446744073709551616 (Ev.get qq3_) 277 qam_ x=qdp_ x:=by
 rw [q5_,qz7_]
 rfl
theorem qyb_:CtOk Tryz.prog (fun _=>True) 277 ⟨qam_,qdp_⟩:=q3_ (q0_ qmy_ q4_) q108_
@[reducible] def qdx_:Sh:=⟨[.d (.wr (.int .u16)),.d (.sl (.int .u8))],[],[.wr (.int .u16),.sl (.int .u8)],[.d (.pr (.int .u8) YTT3)],[],0,[.pr (.int .u8) YTT3]⟩
def qtu_:Env:=(cts [(272,(⟨q66_,q9i_⟩:Ct))])
def qtk_:List (Nat×Hint):=[]
def qsj_ (v:Int) (b:List Int):Option (As [.pr (.int .u8) YTT3]) :=
 Option.bind (cut b 1 (Int.ofNat (List.length b))) fun y=>Option.bind (q9i_ (y,())) fun y=>if lt (Int.ofNat (List.length y.1)) 2=true then some ((0,0,[],[],0,0),()) else Option.bind (at? b 0) fun y_1=>Option.bind (at? y.1 0) fun y_2=>Option.bind (at? y.1 1) fun y=>some ((y_1,0,[],[],y_2,y),())
def qcb_ (x:As [.wr (.int .u16),.sl (.int .u8)]):Option (As [.pr (.int .u8) YTT3]):=qsj_ x.1 x.2.1
theorem q11y_ (J:Orc (As [.pr (.int .u8) YTT3])) (x:As [.wr (.int .u16),.sl (.int .u8)]):rfn Tryz.prog qtu_ 6 18446744073709551616 (Ev.get qtk_) 280 qdx_ J x=qsj_ x.1 x.2.1:=by kernel_rfl
theorem q13o_ (x:As [.wr (.int .u16),.sl (.int .u8)]):evT Tryz.prog qtu_ 6 18446744073709551616 (Ev.get qtk_) 280 qdx_ x=qcb_ x:=by
 rw [q5_,q11y_]
 rfl
theorem q129_:CtOk Tryz.prog (fun _=>True) 280 ⟨qdx_,qcb_⟩:=q3_ (q0_ qmy_ q4_) q13o_
@[reducible] def qah_:Sh:=⟨[.d (.sl (.int .u8))],[],[.sl (.int .u8)],[.d (.pr (.int .u8) YTT3),.d (.int .i64)],[],0,[.pr (.int .u8) YTT3,.int .i64]⟩
def qhp_:Env:=(cts [(66,(⟨qhc_,q2y_⟩:Ct)),(253,(⟨q9b_,qay_⟩:Ct)),(254,(⟨q5s_,q2v_⟩:Ct)),(255,(⟨q5r_,q3m_⟩:Ct)),(266,(⟨qb2_,q9q_⟩:Ct)),(267,(⟨q71_,q1u_⟩:Ct)),(268,(⟨q73_,q2t_⟩:Ct)),(269,(⟨qa2_,q60_⟩:Ct)),(270,(⟨q68_,q14_⟩:Ct)),(271,(⟨q6c_,q1n_⟩:Ct)),(274,(⟨qct_,qek_⟩:Ct)),(275,(⟨q8c_,q3y_⟩:Ct)),(276,(⟨q39_,q58_⟩:Ct)),(277,(⟨qam_,qdp_⟩:Ct)),(278,(⟨q72_,q3i_⟩:Ct)),(279,(⟨q4u_,q4q_⟩:Ct)),(280,(⟨qdx_,qcb_⟩:Ct)),(281,(⟨q8x_,q2l_⟩:Ct)),(282,(⟨q8w_,q3k_⟩:Ct))])
def qhh_:List (Nat×Hint):=[(6,⟨[],[0,2,15,42,43,44,45,46,47]⟩)]
def qkk_ (b:List Int) (t15:Bool) (t2 t2_2 t2_3 t2_4:Int):St:={ fr:=[(0,.d (.sl (.int .u8)) b),(2,.pb 0 0),(15,.d .bool t15)],nt:=51,up:=[],own:=[(0,.box 46 [.d (.int .u8) t2,.d (.int .u8) t2_2,.k (Go.Value.slice Option.none 0 0),.k (Go.Value.slice Option.none 0 0),.d (.int .u16) t2_3,.d (.int .u16) t2_4])],nx:=1,log:=[],ln:=0 }
def qys_ (b:List Int) (t15:Bool) (t2 t2_2 t2_3 t2_4:Int):Option (As [.pr (.int .u8) YTT3,.int .i64]) :=
 if t15=true then some ((0,0,[],[],0,0),13,()) else Option.bind (at? b 0) fun y=>if lt y 128=true then Option.bind (at? b 0) fun y=>if eqi y 1=true then Option.bind (q9q_ ((),b,())) fun y=>Option.bind (q1u_ ((),y.1,())) fun y_1=>if (!y_1.1)=true then some ((0,0,[],[],0,0),13,()) else Option.bind (q2t_ ((),y.1,())) fun y_2=>Option.bind (q2y_ (y_2.1,b,())) fun y_3=>if (!y_3.1)=true then some ((0,0,[],[],0,0),13,()) else some (y.1,0,()) else if eqi y 2=true then Option.bind (q9q_ ((),b,())) fun y=>Option.bind (q1u_ ((),y.1,())) fun y_1=>if (!y_1.1)=true then some ((0,0,[],[],0,0),13,()) else Option.bind (q2t_ ((),y.1,())) fun y_2=>Option.bind (q2y_ (y_2.1,b,())) fun y_3=>if (!y_3.1)=true then some ((0,0,[],[],0,0),13,()) else some (y.1,0,()) else if eqi y 3=true then Option.bind (q60_ ((),b,())) fun y=>Option.bind (q14_ ((),y.1,())) fun y_1=>if (!y_1.1)=true then some ((0,0,[],[],0,0),13,()) else Option.bind (q1n_ ((),y.1,())) fun y_2=>Option.bind (q2y_ (y_2.1,b,())) fun y_3=>if (!y_3.1)=true then some ((0,0,[],[],0,0),13,()) else some (y.1,0,()) else if eqi y 4=true then Option.bind (q60_ ((),b,())) fun y=>Option.bind (q14_ ((),y.1,())) fun y_1=>if (!y_1.1)=true then some ((0,0,[],[],0,0),13,()) else Option.bind (q1n_ ((),y.1,())) fun y_2=>Option.bind (q2y_ (y_2.1,b,())) fun y_3=>if (!y_3.1)=true then some ((0,0,[],[],0,0),13,()) else some (y.1,0,()) else if eqi y 23=true then Option.bind (q60_ ((),b,())) fun y=>Option.bind (q14_ ((),y.1,())) fun y_1=>if (!y_1.1)=true then some ((0,0,[],[],0,0),13,()) else Option.bind (q1n_ ((),y.1,())) fun y_2=>Option.bind (q2y_ (y_2.1,b,())) fun y_3=>if (!y_3.1)=true then some ((0,0,[],[],0,0),13,()) else some (y.1,0,()) else if eqi y 5=true then Option.bind (qek_ ((),b,())) fun y=>Option.bind (q3y_ ((),y.1,())) fun y_1=>if (!y_1.1)=true then some ((0,0,[],[],0,0),13,()) else Option.bind (q58_ ((),y.1,())) fun y_2=>Option.bind (q2y_ (y_2.1,b,())) fun y_3=>if (!y_3.1)=true then some ((0,0,[],[],0,0),13,()) else some (y.1,0,()) else if eqi y 6=true then Option.bind (qdp_ ((),b,())) fun y=>Option.bind (q3i_ ((),y.1,())) fun y_1=>if (!y_1.1)=true then some ((0,0,[],[],0,0),13,()) else Option.bind (q4q_ ((),y.1,())) fun y_2=>Option.bind (q2y_ (y_2.1,b,())) fun y_3=>if (!y_3.1)=true then some ((0,0,[],[],0,0),13,()) else some (y.1,0,()) else if eqi y 15=true then Option.bind (qcb_ (1968,b,())) fun y=>Option.bind (q2l_ (1968,y.1,())) fun y_1=>if (!y_1.1)=true then some ((0,0,[],[],0,0),13,()) else Option.bind (q3k_ (1968,y.1,())) fun y_2=>Option.bind (q2y_ (y_2.1,b,())) fun y_3=>if (!y_3.1)=true then some ((0,0,[],[],0,0),13,()) else some (y.1,0,()) else if eqi y 16=true then Option.bind (qcb_ (123,b,())) fun y=>Option.bind (q2l_ (123,y.1,())) fun y_1=>if (!y_1.1)=true then some ((0,0,[],[],0,0),13,()) else Option.bind (q3k_ (123,y.1,())) fun y_2=>Option.bind (q2y_ (y_2.1,b,())) fun y_3=>if (!y_3.1)=true then some ((0,0,[],[],0,0),13,()) else some (y.1,0,()) else some ((0,0,[],[],0,0),13,()) else Option.bind (qay_ ((),b,())) fun y=>Option.bind (q2v_ ((),y.1,())) fun y_1=>if (!y_1.1)=true then some ((0,0,[],[],0,0),13,()) else Option.bind (q3m_ ((),y.1,())) fun y_2=>Option.bind (q2y_ (y_2.1,b,())) fun y_3=>if (!y_3.1)=true then some ((0,0,[],[],0,0),13,()) else some (y.1,0,())
def qyu_ (j1:List Int->Bool->Int->Int->Int->Int->Option (As [.pr (.int .u8) YTT3,.int .i64])) (b:List Int):Option (As [.pr (.int .u8) YTT3,.int .i64]) :=
 if lt (Int.ofNat (List.length b)) 2=true then j1 b true 0 0 0 0 else j1 b (gt (Int.ofNat (List.length b)) 253) 0 0 0 0
def qsw_ (b:List Int) (t15:Bool) (t2 t2_2 t2_3 t2_4:Int):Option (As [.pr (.int .u8) YTT3,.int .i64]):=qys_ b t15 t2 t2_2 t2_3 t2_4
def qt9_ (x:As [.sl (.int .u8)]):Option (As [.pr (.int .u8) YTT3,.int .i64]):=qyu_ qsw_ x.1
theorem q18k_ (J:Orc (As [.pr (.int .u8) YTT3,.int .i64])) (b:List Int) (t15:Bool) (t2 t2_2 t2_3 t2_4:Int):pfn Tryz.prog qhp_ 6 18446744073709551616 (Ev.get qhh_) 15 qah_ J 6 [] (qkk_ b t15 t2 t2_2 t2_3 t2_4)=qys_ b t15 t2 t2_2 t2_3 t2_4:=by kernel_rfl
theorem q19c_ (J:Orc (As [.pr (.int .u8) YTT3,.int .i64])) (x:As [.sl (.int .u8)]):rfn Tryz.prog qhp_ 6 18446744073709551616 (Ev.get qhh_) 15 qah_ J x=qyu_ (fun b t15 t2 t2_2 t2_3 t2_4=>J 6 [] (qkk_ b t15 t2 t2_2 t2_3 t2_4)) x.1:=by kernel_rfl
theorem q19e_ (b:List Int) (t15:Bool) (t2 t2_2 t2_3 t2_4:Int):jfn Tryz.prog qhp_ 6 18446744073709551616 (Ev.get qhh_) 15 qah_ 6 [] (qkk_ b t15 t2 t2_2 t2_3 t2_4)=qsw_ b t15 t2 t2_2 t2_3 t2_4:=by
 rw [q8_ (by decide)]
 rw [q18k_]
 rfl
theorem q1d2_ (x:As [.sl (.int .u8)]):evT Tryz.prog qhp_ 6 18446744073709551616 (Ev.get qhh_) 15 qah_ x=qt9_ x:=by
 have e1:(fun b t15 t2 t2_2 t2_3 t2_4=>(jfn Tryz.prog qhp_ 6 18446744073709551616 (Ev.get qhh_) 15 qah_) 6 [] (qkk_ b t15 t2 t2_2 t2_3 t2_4))=qsw_:=by funext b t15 t2 t2_2 t2_3 t2_4; exact q19e_ b t15 t2 t2_2 t2_3 t2_4
 rw [q5_,q19c_,e1]
 rfl
theorem q193_:CtOk Tryz.prog (fun _=>True) 15 ⟨qah_,qt9_⟩:=q3_ (q0_ qyi_ (q0_ qwt_ (q0_ qjc_ (q0_ qj5_ (q0_ qza_ (q0_ qm6_ (q0_ qlm_ (q0_ qxi_ (q0_ ql4_ (q0_ ql8_ (q0_ qzs_ (q0_ qog_ (q0_ qoh_ (q0_ qyb_ (q0_ qm9_ (q0_ qlz_ (q0_ q129_ (q0_ qqh_ (q0_ qrl_ q4_))))))))))))))))))) q1d2_
@[reducible] def qgo_:Sh:=⟨[.d (.pr (.int .u8) YTT4),.pb 0 0],[.box 38 [.d (.int .u8),.d (.int .u8),.d (.sl (.int .u16)),.d (.int .u16),.d (.int .i64),.d (.int .u8),.d (.int .u32),.d (.int .u32),.d (.int .u32),.d (.bool),.d (.bool),.d (.bool),.d (.bool),.d (.bool),.d (.bool),.d (.bool),.d (.bool),.d (.int .i64),.d (.sl (.int .u16)),.d (.int .i64),.d (.sl (.int .u16)),.d (.int .i64),.d (.sl (.int .u16)),.d (.int .i64),.d (.sl (.int .u16)),.d (.int .i64),.d (.sl (.int .u16)),.d (.int .i64),.d (.sl (.int .u16)),.d (.int .i64),.d (.sl (.int .u16)),.d (.int .i64),.d (.sl (.int .u16)),.d (.int .i64),.d (.sl .bool)]],[.pr (.int .u8) YTT4,.int .u8,.int .u8,.sl (.int .u16),.int .u16,.int .i64,.int .u8,.int .u32,.int .u32,.int .u32,.bool,.bool,.bool,.bool,.bool,.bool,.bool,.bool,.int .i64,.sl (.int .u16),.int .i64,.sl (.int .u16),.int .i64,.sl (.int .u16),.int .i64,.sl (.int .u16),.int .i64,.sl (.int .u16),.int .i64,.sl (.int .u16),.int .i64,.sl (.int .u16),.int .i64,.sl (.int .u16),.int .i64,.sl .bool],[.d (.pr (.int .u8) YTT3)],[(0,.box 38 [.d (.int .u8),.d (.int .u8),.d (.sl (.int .u16)),.d (.int .u16),.d (.int .i64),.d (.int .u8),.d (.int .u32),.d (.int .u32),.d (.int .u32),.d (.bool),.d (.bool),.d (.bool),.d (.bool),.d (.bool),.d (.bool),.d (.bool),.d (.bool),.d (.int .i64),.d (.sl (.int .u16)),.d (.int .i64),.d (.sl (.int .u16)),.d (.int .i64),.d (.sl (.int .u16)),.d (.int .i64),.d (.sl (.int .u16)),.d (.int .i64),.d (.sl (.int .u16)),.d (.int .i64),.d (.sl (.int .u16)),.d (.int .i64),.d (.sl (.int .u16)),.d (.int .i64),.d (.sl (.int .u16)),.d (.int .i64),.d (.sl .bool)])],0,[.pr (.int .u8) YTT3,.int .u8,.int .u8,.sl (.int .u16),.int .u16,.int .i64,.int .u8,.int .u32,.int .u32,.int .u32,.bool,.bool,.bool,.bool,.bool,.bool,.bool,.bool,.int .i64,.sl (.int .u16),.int .i64,.sl (.int .u16),.int .i64,.sl (.int .u16),.int .i64,.sl (.int .u16),.int .i64,.sl (.int .u16),.int .i64,.sl (.int .u16),.int .i64,.sl (.int .u16),.int .i64,.sl (.int .u16),.int .i64,.sl .bool]⟩
def qvi_:Env:=(cts [(1000038,Ev.bxCt),(13,(⟨q2d_,qdl_⟩:Ct)),(14,(⟨q8m_,q5f_⟩:Ct)),(15,(⟨qah_,qt9_⟩:Ct))])
def qw1_:List (Nat×Hint):=[]
def qus_ (a:Int×Int×Int×Int×List Int×List Bool) (v a_2:Int) (v_2:List Int) (b v_3 next out r v_4:Int) (v_5 v_6 v_7 v_8 v_9 v_10 v_11 v_12:Bool) (v_13:Int) (v_14:List Int) (v_15:Int) (v_16:List Int) (v_17:Int) (v_18:List Int) (v_19:Int) (v_20:List Int) (v_21:Int) (v_22:List Int) (x:Int) (x_2:List Int) (x_3:Int) (x_4:List Int) (x_5:Int) (x_6:List Int) (x_7:Int) (x_8:List Bool):Option (As [.pr (.int .u8) YTT3,.int .u8,.int .u8,.sl (.int .u16),.int .u16,.int .i64,.int .u8,.int .u32,.int .u32,.int .u32,.bool,.bool,.bool,.bool,.bool,.bool,.bool,.bool,.int .i64,.sl (.int .u16),.int .i64,.sl (.int .u16),.int .i64,.sl (.int .u16),.int .i64,.sl (.int .u16),.int .i64,.sl (.int .u16),.int .i64,.sl (.int .u16),.int .i64,.sl (.int .u16),.int .i64,.sl (.int .u16),.int .i64,.sl .bool]) :=
 Option.bind (qdl_ (a,())) fun y=>Option.bind (q5f_ ((v,a_2,(v_2,(b,v_3),next,out,r,(v_4,[v_5,v_6,v_7,v_8,v_9,v_10,v_11,v_12],[(v_13,v_14),(v_15,v_16),(v_17,v_18),(v_19,v_20),(v_21,v_22),(x,x_2),(x_3,x_4),(x_5,x_6)]),x_7),x_8),y.1,())) fun y=>Option.bind (qt9_ (y.2.1,())) fun y_1=>some (y_1.1,pkS y.1)
def q95_ (x:As [.pr (.int .u8) YTT4,.int .u8,.int .u8,.sl (.int .u16),.int .u16,.int .i64,.int .u8,.int .u32,.int .u32,.int .u32,.bool,.bool,.bool,.bool,.bool,.bool,.bool,.bool,.int .i64,.sl (.int .u16),.int .i64,.sl (.int .u16),.int .i64,.sl (.int .u16),.int .i64,.sl (.int .u16),.int .i64,.sl (.int .u16),.int .i64,.sl (.int .u16),.int .i64,.sl (.int .u16),.int .i64,.sl (.int .u16),.int .i64,.sl .bool]):Option (As [.pr (.int .u8) YTT3,.int .u8,.int .u8,.sl (.int .u16),.int .u16,.int .i64,.int .u8,.int .u32,.int .u32,.int .u32,.bool,.bool,.bool,.bool,.bool,.bool,.bool,.bool,.int .i64,.sl (.int .u16),.int .i64,.sl (.int .u16),.int .i64,.sl (.int .u16),.int .i64,.sl (.int .u16),.int .i64,.sl (.int .u16),.int .i64,.sl (.int .u16),.int .i64,.sl (.int .u16),.int .i64,.sl (.int .u16),.int .i64,.sl .bool]):=qus_ x.1 x.2.1 x.2.2.1 x.2.2.2.1 x.2.2.2.2.1 x.2.2.2.2.2.1 x.2.2.2.2.2.2.1 x.2.2.2.2.2.2.2.1 x.2.2.2.2.2.2.2.2.1 x.2.2.2.2.2.2.2.2.2.1 x.2.2.2.2.2.2.2.2.2.2.1 x.2.2.2.2.2.2.2.2.2.2.2.1 x.2.2.2.2.2.2.2.2.2.2.2.2.1 x.2.2.2.2.2.2.2.2.2.2.2.2.2.1 x.2.2.2.2.2.2.2.2.2.2.2.2.2.2.1 x.2.2.2.2.2.2.2.2.2.2.2.2.2.2.2.1 x.2.2.2.2.2.2.2.2.2.2.2.2.2.2.2.2.1 x.2.2.2.2.2.2.2.2.2.2.2.2.2.2.2.2.2.1 x.2.2.2.2.2.2.2.2.2.2.2.2.2.2.2.2.2.2.1 x.2.2.2.2.2.2.2.2.2.2.2.2.2.2.2.2.2.2.2.1 x.2.2.2.2.2.2.2.2.2.2.2.2.2.2.2.2.2.2.2.2.1 x.2.2.2.2.2.2.2.2.2.2.2.2.2.2.2.2.2.2.2.2.2.1 x.2.2.2.2.2.2.2.2.2.2.2.2.2.2.2.2.2.2.2.2.2.2.1 x.2.2.2.2.2.2.2.2.2.2.2.2.2.2.2.2.2.2.2.2.2.2.2.1 x.2.2.2.2.2.2.2.2.2.2.2.2.2.2.2.2.2.2.2.2.2.2.2.2.1 x.2.2.2.2.2.2.2.2.2.2.2.2.2.2.2.2.2.2.2.2.2.2.2.2.2.1 x.2.2.2.2.2.2.2.2.2.2.2.2.2.2.2.2.2.2.2.2.2.2.2.2.2.2.1 x.2.2.2.2.2.2.2.2.2.2.2.2.2.2.2.2.2.2.2.2.2.2.2.2.2.2.2.1 x.2.2.2.2.2.2.2.2.2.2.2.2.2.2.2.2.2.2.2.2.2.2.2.2.2.2.2.2.1 x.2.2.2.2.2.2.2.2.2.2.2.2.2.2.2.2.2.2.2.2.2.2.2.2.2.2.2.2.2.1 x.2.2.2.2.2.2.2.2.2.2.2.2.2.2.2.2.2.2.2.2.2.2.2.2.2.2.2.2.2.2.1 x.2.2.2.2.2.2.2.2.2.2.2.2.2.2.2.2.2.2.2.2.2.2.2.2.2.2.2.2.2.2.2.1 x.2.2.2.2.2.2.2.2.2.2.2.2.2.2.2.2.2.2.2.2.2.2.2.2.2.2.2.2.2.2.2.2.1 x.2.2.2.2.2.2.2.2.2.2.2.2.2.2.2.2.2.2.2.2.2.2.2.2.2.2.2.2.2.2.2.2.2.1 x.2.2.2.2.2.2.2.2.2.2.2.2.2.2.2.2.2.2.2.2.2.2.2.2.2.2.2.2.2.2.2.2.2.2.1 x.2.2.2.2.2.2.2.2.2.2.2.2.2.2.2.2.2.2.2.2.2.2.2.2.2.2.2.2.2.2.2.2.2.2.2.1
theorem q141_ (J:Orc (As [.pr (.int .u8) YTT3,.int .u8,.int .u8,.sl (.int .u16),.int .u16,.int .i64,.int .u8,.int .u32,.int .u32,.int .u32,.bool,.bool,.bool,.bool,.bool,.bool,.bool,.bool,.int .i64,.sl (.int .u16),.int .i64,.sl (.int .u16),.int .i64,.sl (.int .u16),.int .i64,.sl (.int .u16),.int .i64,.sl (.int .u16),.int .i64,.sl (.int .u16),.int .i64,.sl (.int .u16),.int .i64,.sl (.int .u16),.int .i64,.sl .bool])) (x:As [.pr (.int .u8) YTT4,.int .u8,.int .u8,.sl (.int .u16),.int .u16,.int .i64,.int .u8,.int .u32,.int .u32,.int .u32,.bool,.bool,.bool,.bool,.bool,.bool,.bool,.bool,.int .i64,.sl (.int .u16),.int .i64,.sl (.int .u16),.int .i64,.sl (.int .u16),.int .i64,.sl (.int .u16),.int .i64,.sl (.int .u16),.int .i64,.sl (.int .u16),.int .i64,.sl (.int .u16),.int .i64,.sl (.int .u16),.int .i64,.sl .bool]):rfn Tryz.prog qvi_ 6 18446744073709551616 (Ev.get qw1_) 56 qgo_ J x=qus_ x.1 x.2.1 x.2.2.1 x.2.2.2.1 x.2.2.2.2.1 x.2.2.2.2.2.1 x.2.2.2.2.2.2.1 x.2.2.2.2.2.2.2.1 x.2.2.2.2.2.2.2.2.1 x.2.2.2.2.2.2.2.2.2.1 x.2.2.2.2.2.2.2.2.2.2.1 x.2.2.2.2.2.2.2.2.2.2.2.1 x.2.2.2.2.2.2.2.2.2.2.2.2.1 x.2.2.2.2.2.2.2.2.2.2.2.2.2.1 x.2.2.2.2.2.2.2.2.2.2.2.2.2.2.1 x.2.2.2.2.2.2.2.2.2.2.2.2.2.2.2.1 x.2.2.2.2.2.2.2.2.2.2.2.2.2.2.2.2.1 x.2.2.2.2.2.2.2.2.2.2.2.2.2.2.2.2.2.1 x.2.2.2.2.2.2.2.2.2.2.2.2.2.2.2.2.2.2.1 x.2.2.2.2.2.2.2.2.2.2.2.2.2.2.2.2.2.2.2.1 x.2.2.2.2.2.2.2.2.2.2.2.2.2.2.2.2.2.2.2.2.1 x.2.2.2.2.2.2.2.2.2.2.2.2.2.2.2.2.2.2.2.2.2.1 x.2.2.2.2.2.2.2.2.2.2.2.2.2.2.2.2.2.2.2.2.2.2.1 x.2.2.2.2.2.2.2.2.2.2.2.2.2.2.2.2.2.2.2.2.2.2.2.1 x.2.2.2.2.2.2.2.2.2.2.2.2.2.2.2.2.2.2.2.2.2.2.2.2.1 x.2.2.2.2.2.2.2.2.2.2.2.2.2.2.2.2.2.2.2.2.2.2.2.2.2.1 x.2.2.2.2.2.2.2.2.2.2.2.2.2.2.2.2.2.2.2.2.2.2.2.2.2.2.1 x.2.2.2.2.2.2.2.2.2.2.2.2.2.2.2.2.2.2.2.2.2.2.2.2.2.2.2.1 x.2.2.2.2.2.2.2.2.2.2.2.2.2.2.2.2.2.2.2.2.2.2.2.2.2.2.2.2.1 x.2.2.2.2.2.2.2.2.2.2.2.2.2.2.2.2.2.2.2.2.2.2.2.2.2.2.2.2.2.1 x.2.2.2.2.2.2.2.2.2.2.2.2.2.2.2.2.2.2.2.2.2.2.2.2.2.2.2.2.2.2.1 x.2.2.2.2.2.2.2.2.2.2.2.2.2.2.2.2.2.2.2.2.2.2.2.2.2.2.2.2.2.2.2.1 x.2.2.2.2.2.2.2.2.2.2.2.2.2.2.2.2.2.2.2.2.2.2.2.2.2.2.2.2.2.2.2.2.1 x.2.2.2.2.2.2.2.2.2.2.2.2.2.2.2.2.2.2.2.2.2.2.2.2.2.2.2.2.2.2.2.2.2.1 x.2.2.2.2.2.2.2.2.2.2.2.2.2.2.2.2.2.2.2.2.2.2.2.2.2.2.2.2.2.2.2.2.2.2.1 x.2.2.2.2.2.2.2.2.2.2.2.2.2.2.2.2.2.2.2.2.2.2.2.2.2.2.2.2.2.2.2.2.2.2.2.1:=by kernel_rfl
theorem q166_ (x:As [.pr (.int .u8) YTT4,.int .u8,.int .u8,.sl (.int .u16),.int .u16,.int .i64,.int .u8,.int .u32,.int .u32,.int .u32,.bool,.bool,.bool,.bool,.bool,.bool,.bool,.bool,.int .i64,.sl (.int .u16),.int .i64,.sl (.int .u16),.int .i64,.sl (.int .u16),.int .i64,.sl (.int .u16),.int .i64,.sl (.int .u16),.int .i64,.sl (.int .u16),.int .i64,.sl (.int .u16),.int .i64,.sl (.int .u16),.int .i64,.sl .bool]):evT Tryz.prog qvi_ 6 18446744073709551616 (Ev.get qw1_) 56 qgo_ x=q95_ x:=by
 rw [q5_,q141_]
 rfl
theorem q144_:CtOk Tryz.prog (fun _=>True) 56 ⟨qgo_,q95_⟩:=q3_ (q0_ Ev.bx_ok (q0_ qvo_ (q0_ qkr_ (q0_ q193_ q4_)))) q166_
@[reducible] def qhg_:Sh:=⟨[.d (.pr (.int .u16) YTT6)],[],[.pr (.int .u16) YTT6],[.d (.sl (.int .u16))],[],0,[.sl (.int .u16)]⟩
def q10i_:Env:=(cts [])
def q10u_:List (Nat×Hint):=[]
def qkj_ (c:Int×Int×Int×Int×Int):Option (As [.sl (.int .u16)]) :=
 some ([c.1,cvt .u16 c.2.1,cvt .u16 (quo .u32 c.2.2.1 65536),cvt .u16 (rem c.2.2.1 65536),c.2.2.2.1,cvt .u16 (quo .u32 c.2.2.2.2 65536),cvt .u16 (rem c.2.2.2.2 65536),0],())
def q9d_ (x:As [.pr (.int .u16) YTT6]):Option (As [.sl (.int .u16)]):=qkj_ x.1
theorem q17w_ (J:Orc (As [.sl (.int .u16)])) (x:As [.pr (.int .u16) YTT6]):rfn Tryz.prog q10i_ 6 18446744073709551616 (Ev.get q10u_) 57 qhg_ J x=qkj_ x.1:=by kernel_rfl
theorem q1ci_ (x:As [.pr (.int .u16) YTT6]):evT Tryz.prog q10i_ 6 18446744073709551616 (Ev.get q10u_) 57 qhg_ x=q9d_ x:=by
 rw [q5_,q17w_]
 rfl
theorem qy6_:CtOk Tryz.prog (fun _=>True) 57 ⟨qhg_,q9d_⟩:=q3_ q4_ q1ci_
@[reducible] def qn6_:Sh:=⟨[],[],[],[.d (.bool)],[],0,[.bool]⟩
def q11a_:Env:=(cts [(1000038,Ev.bxCt),(20,(⟨qe5_,qug_⟩:Ct)),(35,(⟨qld_,qj6_⟩:Ct)),(56,(⟨qgo_,q95_⟩:Ct)),(57,(⟨qhg_,q9d_⟩:Ct))])
def q10r_:List (Nat×Hint):=[]
def qy9_:Option (As [.bool]) :=
 Option.bind (qj6_ (3,1,[0,0,0,0,0,0,0,0,0,0,0,0,0,0,0,0,0,0,0,0,0,0,0,0,0,0,0,0,0,0,0,0,0,0,0,0,0,0,0,0,0,0,0,0,0,0,0,0,0,0,0,0,0,0,0,0,0,0,0,0,0,0,0,0],5,())) fun y=>if nei y.2.1 0=true then some (false,()) else Option.bind (q95_ ((3,256,8,0,[],[]),pkS y.1)) fun y=>Option.bind (q9d_ ((7,1,1,0,0),())) fun y_1=>Option.bind (q95_ ((23,256,8,272,y_1.1,[]),y.2)) fun y_2=>Option.bind (q95_ ((6,272,0,0,[1],[]),y_2.2)) fun y_3=>Option.bind (q9d_ ((8,1,2,0,0),())) fun y_4=>Option.bind (q95_ ((16,272,8,0,y_4.1,[]),y_3.2)) fun y_5=>Option.bind (qug_ (y.1.2.2.2.1,[0,0,0,0,0,0,0,0],())) fun y=>if y.1=true then Option.bind (qug_ (y_2.1.2.2.2.1,[7,1,0,1,0,0,0,0],())) fun y=>if y.1=true then if eqi y_3.1.2.1 2=true then some (eqi y_5.1.2.1 4,()) else some (false,()) else some (false,()) else some (false,())
def qbf_ (x:As []):Option (As [.bool]):=qy9_
theorem q17y_ (J:Orc (As [.bool])) (x:As []):rfn Tryz.prog q11a_ 6 18446744073709551616 (Ev.get q10r_) 10 qn6_ J x=qy9_:=by kernel_rfl
theorem q1cx_ (x:As []):evT Tryz.prog q11a_ 6 18446744073709551616 (Ev.get q10r_) 10 qn6_ x=qbf_ x:=by
 rw [q5_,q17y_]
 rfl
theorem q18v_:CtOk Tryz.prog (fun _=>True) 10 ⟨qn6_,qbf_⟩:=q3_ (q0_ Ev.bx_ok (q0_ q1gz_ (q0_ q13x_ (q0_ q144_ (q0_ qy6_ q4_))))) q1cx_
@[reducible] def qxc_:Sh:=⟨[.d (.sl (.int .u16)),.d (.sl .bool)],[],[.sl (.int .u16),.sl .bool],[.d (.bool)],[],0,[.bool]⟩
def q1aa_:Env:=(cts [])
def q1ac_:List (Nat×Hint):=[]
def qve_ (words:List Int) (bits:List Bool):Option (As [.bool]) :=
 if le (Int.ofNat (List.length words)) 200=true then some (le (Int.ofNat (List.length bits)) 2100,()) else some (false,())
def qya_ (x:As [.sl (.int .u16),.sl .bool]):Option (As [.bool]):=qve_ x.1 x.2.1
theorem q1jk_ (J:Orc (As [.bool])) (x:As [.sl (.int .u16),.sl .bool]):rfn Tryz.prog q1aa_ 6 18446744073709551616 (Ev.get q1ac_) 78 qxc_ J x=qve_ x.1 x.2.1:=by kernel_rfl
theorem q1jv_ (x:As [.sl (.int .u16),.sl .bool]):evT Tryz.prog q1aa_ 6 18446744073709551616 (Ev.get q1ac_) 78 qxc_ x=qya_ x:=by
 rw [q5_,q1jk_]
 rfl
theorem q1jq_:CtOk Tryz.prog (fun _=>True) 78 ⟨qxc_,qya_⟩:=q3_ q4_ q1jv_
@[reducible] def q4p_:Sh:=⟨[.d (.sl (.pr (.int .u8) (.pr (.sl (.int .u8)) (.pr (.pr (.int .u8) YTT4) (.pr (.int .u16) YTT6))))),.d (.int .i64)],[],[.sl (.pr (.int .u8) (.pr (.sl (.int .u8)) (.pr (.pr (.int .u8) YTT4) (.pr (.int .u16) YTT6)))),.int .i64],[.d (.bool)],[],0,[.bool]⟩
def q6h_:Env:=(cts [(78,(⟨qxc_,qya_⟩:Ct))])
def q64_:List (Nat×Hint):=[(3,⟨[],[0,1]⟩),(26,⟨[],[0,1,7,8,9,18,19,20,21,22,23,24,25]⟩),(1689,⟨[.agd 20 (.sl (.int .u16)),.agd 23 (.sl .bool),.agd 24 .bool,.agd 25 .bool],[0,1,7,8,9,26]⟩)]
def q86_ (l:List YTT7) (most:Int) (t7:List YTT7) (t8 t9:Int):St:={ fr:=[(0,.d (.sl (.pr (.int .u8) (.pr (.sl (.int .u8)) (.pr (.pr (.int .u8) YTT4) (.pr (.int .u16) YTT6))))) l),(1,.d (.int .i64) most),(7,.d (.sl (.pr (.int .u8) (.pr (.sl (.int .u8)) (.pr (.pr (.int .u8) YTT4) (.pr (.int .u16) YTT6))))) t7),(8,.d (.int .i64) t8),(9,.d (.int .i64) t9)],nt:=32,up:=[],own:=[],nx:=0,log:=[],ln:=0 }
def qqe_ (l:List YTT7) (most:Int) (t7:List YTT7) (t8 t9:Int) (t26:Bool):St:={ fr:=[(0,.d (.sl (.pr (.int .u8) (.pr (.sl (.int .u8)) (.pr (.pr (.int .u8) YTT4) (.pr (.int .u16) YTT6))))) l),(1,.d (.int .i64) most),(7,.d (.sl (.pr (.int .u8) (.pr (.sl (.int .u8)) (.pr (.pr (.int .u8) YTT4) (.pr (.int .u16) YTT6))))) t7),(8,.d (.int .i64) t8),(9,.d (.int .i64) t9),(26,.d .bool t26)],nt:=32,up:=[],own:=[],nx:=0,log:=[],ln:=0 }
def qqo_ (l:List YTT7) (most:Int):St:={ fr:=[(0,.d (.sl (.pr (.int .u8) (.pr (.sl (.int .u8)) (.pr (.pr (.int .u8) YTT4) (.pr (.int .u16) YTT6))))) l),(1,.d (.int .i64) most)],nt:=32,up:=[],own:=[],nx:=0,log:=[],ln:=0 }
def qcn_ (j2:List YTT7->Int->List YTT7->Int->Int->Bool->Option (As [.bool])) (j3:List YTT7->Int->Option (As [.bool])) (self1:List YTT7->Int->List YTT7->Int->Int->Option (As [.bool])) (l:List YTT7) (most:Int) (t7:List YTT7) (t8 t9:Int):Option (As [.bool]) :=
 if lt t9 t8=true then Option.bind (at? t7 t9) fun y=>if gt (Int.ofNat (List.length y.2.1)) 300=true then j2 l most t7 t8 t9 true else Option.bind (qya_ (y.2.2.1.2.2.2.2.1,y.2.2.1.2.2.2.2.2,())) fun y=>j2 l most t7 t8 t9 !y.1 else j3 l most
def qrb_ (self1:List YTT7->Int->List YTT7->Int->Int->Option (As [.bool])) (l:List YTT7) (most:Int) (t7:List YTT7) (t8 t9:Int) (t26:Bool):Option (As [.bool]) :=
 if t26=true then some (false,()) else self1 l most t7 t8 (add .i64 t9 1)
def q12c_ (l:List YTT7) (most:Int):Option (As [.bool]) :=
 some (le (Int.ofNat (List.length l)) most,())
def q137_ (j1:List YTT7->Int->List YTT7->Int->Int->Option (As [.bool])) (l:List YTT7) (most:Int):Option (As [.bool]) :=
 j1 l most l (Int.ofNat (List.length l)) 0
def qfw_ (u1:List YTT7->Int->List YTT7->Int->Int->Option (As [.bool])) (l:List YTT7) (most:Int) (t7:List YTT7) (t8 t9:Int) (t26:Bool):Option (As [.bool]):=qrb_ u1 l most t7 t8 t9 t26
def qfy_ (l:List YTT7) (most:Int):Option (As [.bool]):=q12c_ l most
def qrv_ (l:List YTT7) (most:Int) (t7:List YTT7) (t8 t9:Int):Option (As [.bool]) :=
 loopF (fun (self:(List YTT7)×(Int)×(List YTT7)×(Int)×(Int)->Option (As [.bool])) (s:(List YTT7)×(Int)×(List YTT7)×(Int)×(Int))=>qcn_ (qfw_ (fun l most t7 t8 t9=>self (l,most,t7,t8,t9))) (qfy_) (fun l most t7 t8 t9=>self (l,most,t7,t8,t9)) s.1 s.2.1 s.2.2.1 s.2.2.2.1 s.2.2.2.2) 18446744073709551616 (l,most,t7,t8,t9)
def qtx_ (x:As [.sl (.pr (.int .u8) (.pr (.sl (.int .u8)) (.pr (.pr (.int .u8) YTT4) (.pr (.int .u16) YTT6)))),.int .i64]):Option (As [.bool]):=q137_ qrv_ x.1 x.2.1
theorem q1fq_ (J:Orc (As [.bool])) (w1:St->Option (As [.bool])) (l:List YTT7) (most:Int) (t7:List YTT7) (t8 t9:Int) (t26:Bool):pfn Tryz.prog q6h_ 6 18446744073709551616 (Ev.get q64_) 22 q4p_ J 1689 [w1] (qqe_ l most t7 t8 t9 t26)=qrb_ (fun l most t7 t8 t9=>w1 (q86_ l most t7 t8 t9)) l most t7 t8 t9 t26:=by kernel_rfl
theorem q1dt_ (J:Orc (As [.bool])) (l:List YTT7) (most:Int):pfn Tryz.prog q6h_ 6 18446744073709551616 (Ev.get q64_) 22 q4p_ J 3 [] (qqo_ l most)=q12c_ l most:=by kernel_rfl
theorem q1eg_ (J:Orc (As [.bool])) (w1:St->Option (As [.bool])) (l:List YTT7) (most:Int) (t7:List YTT7) (t8 t9:Int):pfn Tryz.prog q6h_ 6 18446744073709551616 (Ev.get q64_) 22 q4p_ J 26 [w1] (q86_ l most t7 t8 t9)=qcn_ (fun l most t7 t8 t9 t26=>J 1689 [w1] (qqe_ l most t7 t8 t9 t26)) (fun l most=>J 3 [] (qqo_ l most)) (fun l most t7 t8 t9=>w1 (q86_ l most t7 t8 t9)) l most t7 t8 t9:=by kernel_rfl
theorem q1gc_ (J:Orc (As [.bool])) (x:As [.sl (.pr (.int .u8) (.pr (.sl (.int .u8)) (.pr (.pr (.int .u8) YTT4) (.pr (.int .u16) YTT6)))),.int .i64]):rfn Tryz.prog q6h_ 6 18446744073709551616 (Ev.get q64_) 22 q4p_ J x=q137_ (fun l most t7 t8 t9=>J 26 [] (q86_ l most t7 t8 t9)) x.1 x.2.1:=by kernel_rfl
theorem q1ft_ (w1:St->Option (As [.bool])) (l:List YTT7) (most:Int) (t7:List YTT7) (t8 t9:Int) (t26:Bool):jfn Tryz.prog q6h_ 6 18446744073709551616 (Ev.get q64_) 22 q4p_ 1689 [w1] (qqe_ l most t7 t8 t9 t26)=qfw_ (fun l most t7 t8 t9=>w1 (q86_ l most t7 t8 t9)) l most t7 t8 t9 t26:=by
 rw [q8_ (by decide)]
 rw [q1fq_]
 rfl
theorem q1fg_ (l:List YTT7) (most:Int):jfn Tryz.prog q6h_ 6 18446744073709551616 (Ev.get q64_) 22 q4p_ 3 [] (qqo_ l most)=qfy_ l most:=by
 rw [q8_ (by decide)]
 rw [q1dt_]
 rfl
theorem q1e1_ (l:List YTT7) (most:Int) (t7:List YTT7) (t8 t9:Int):jfn Tryz.prog q6h_ 6 18446744073709551616 (Ev.get q64_) 22 q4p_ 26 [] (q86_ l most t7 t8 t9)=qrv_ l most t7 t8 t9:=by
 rw [q8_ (by decide)]
 rw [qr_ (by kernel_rfl)]
 refine qi_ (σ:=(List YTT7)×(Int)×(List YTT7)×(Int)×(Int)) (mk:=fun s=>q86_ s.1 s.2.1 s.2.2.1 s.2.2.2.1 s.2.2.2.2) (fun w1 s=>?_) 18446744073709551616 (l,most,t7,t8,t9)
 have e2:(fun l most t7 t8 t9 t26=>(jfn Tryz.prog q6h_ 6 18446744073709551616 (Ev.get q64_) 22 q4p_) 1689 [w1] (qqe_ l most t7 t8 t9 t26))=qfw_ (fun l most t7 t8 t9=>w1 (q86_ l most t7 t8 t9)):=by funext l most t7 t8 t9 t26; exact q1ft_ w1 l most t7 t8 t9 t26
 have e3:(fun l most=>(jfn Tryz.prog q6h_ 6 18446744073709551616 (Ev.get q64_) 22 q4p_) 3 [] (qqo_ l most))=qfy_:=by funext l most; exact q1fg_ l most
 refine (q1eg_ _ w1 s.1 s.2.1 s.2.2.1 s.2.2.2.1 s.2.2.2.2).trans ?_
 rw [e2,e3]
theorem q1hy_ (x:As [.sl (.pr (.int .u8) (.pr (.sl (.int .u8)) (.pr (.pr (.int .u8) YTT4) (.pr (.int .u16) YTT6)))),.int .i64]):evT Tryz.prog q6h_ 6 18446744073709551616 (Ev.get q64_) 22 q4p_ x=qtx_ x:=by
 have e1:(fun l most t7 t8 t9=>(jfn Tryz.prog q6h_ 6 18446744073709551616 (Ev.get q64_) 22 q4p_) 26 [] (q86_ l most t7 t8 t9))=qrv_:=by funext l most t7 t8 t9; exact q1e1_ l most t7 t8 t9
 rw [q5_,q1gc_,e1]
 rfl
theorem q1eu_:CtOk Tryz.prog (fun _=>True) 22 ⟨q4p_,qtx_⟩:=q3_ (q0_ q1jq_ q4_) q1hy_
@[reducible] def qjj_:Sh:=⟨[.d (.int .u8)],[],[.int .u8],[.d (.bool)],[],0,[.bool]⟩
def q13s_:Env:=(cts [])
def q13m_:List (Nat×Hint):=[]
def qd9_ (unit:Int):Option (As [.bool]) :=
 if ge unit 1=true then some (le unit 247,()) else some (false,())
def qdc_ (x:As [.int .u8]):Option (As [.bool]):=qd9_ x.1
theorem q1d4_ (J:Orc (As [.bool])) (x:As [.int .u8]):rfn Tryz.prog q13s_ 6 18446744073709551616 (Ev.get q13m_) 85 qjj_ J x=qd9_ x.1:=by kernel_rfl
theorem q1g4_ (x:As [.int .u8]):evT Tryz.prog q13s_ 6 18446744073709551616 (Ev.get q13m_) 85 qjj_ x=qdc_ x:=by
 rw [q5_,q1d4_]
 rfl
theorem q11m_:CtOk Tryz.prog (fun _=>True) 85 ⟨qjj_,qdc_⟩:=q3_ q4_ q1g4_
end Go.Proofs.Lx
end
