/- Proved in the last of these 12 parts (this is part 8): SlaveOwns returns true, whatever the link, the bank, the ticks and what comes. Conditions: those of the given statement, and no others. -/
import Derived.Test.YtkcmbampiiolbaaGreatParte
import Derived.Test.YtkcmbampiiolbaaGreatPartg
import Derived.Test.YtkcmbampiiolbaaGreatProg
set_option linter.unusedVariables false
set_option linter.unusedSimpArgs false
set_option linter.unusedSectionVars false
section
open Go Go.Proofs Ev Sx
set_option maxRecDepth 100000
namespace Go.Proofs.Lx
abbrev YaA4q0:Type:=Int×Int×YTT2×List Bool
@[reducible] def q7n_:Sh:=⟨[.d (.pr (.int .u32) (.pr (.ar 8 .bool) (.ar 8 YTT8))),.d (.int .i64),.d YTT8],[],[.pr (.int .u32) (.pr (.ar 8 .bool) (.ar 8 YTT8)),.int .i64,.pr (.int .i64) (.sl (.int .u16))],[.d (.pr (.int .u32) (.pr (.ar 8 .bool) (.ar 8 YTT8))),.d (.int .i64)],[],0,[.pr (.int .u32) (.pr (.ar 8 .bool) (.ar 8 YTT8)),.int .i64]⟩
def qbd_:Env:=(cts [(75,(⟨qew_,q9l_⟩:Ct)),(76,(⟨qec_,q8h_⟩:Ct)),(79,(⟨qi0_,qdv_⟩:Ct))])
def qb6_:List (Nat×Hint):=[(31,⟨[],[3,6]⟩),(250,⟨[],[3,6,26,27]⟩)]
def qf9_ (s t6:Int) (t26:List Bool) (t27:Int) (s_2 t6_2:List YTT9):St:={ fr:=[(3,.prw 0 s 25 0),(6,.prw 1 t6 25 0),(26,.d (.ar 8 .bool) t26),(27,.d (.int .i64) t27)],nt:=46,up:=[],own:=[(0,.row (.pr (.int .u32) (.pr (.ar 8 .bool) (.ar 8 YTT8))) 33 s_2),(1,.row (.pr (.int .u32) (.pr (.ar 8 .bool) (.ar 8 YTT8))) 33 t6_2)],nx:=2,log:=[],ln:=0 }
def qq5_ (s t6:Int) (s_2 t6_2:List YTT9):St:={ fr:=[(3,.prw 0 s 25 0),(6,.prw 1 t6 25 0)],nt:=46,up:=[],own:=[(0,.row (.pr (.int .u32) (.pr (.ar 8 .bool) (.ar 8 YTT8))) 33 s_2),(1,.row (.pr (.int .u32) (.pr (.ar 8 .bool) (.ar 8 YTT8))) 33 t6_2)],nx:=2,log:=[],ln:=0 }
def qg2_ (j2:Int->Int->List YTT9->List YTT9->Option (As [.pr (.int .u32) (.pr (.ar 8 .bool) (.ar 8 YTT8)),.int .i64])) (self1:Int->Int->List Bool->Int->List YTT9->List YTT9->Option (As [.pr (.int .u32) (.pr (.ar 8 .bool) (.ar 8 YTT8)),.int .i64])) (s t6:Int) (t26:List Bool) (t27:Int) (s_2 t6_2:List YTT9):Option (As [.pr (.int .u32) (.pr (.ar 8 .bool) (.ar 8 YTT8)),.int .i64]) :=
 if lt t27 8=true then need (lt t27 8) (Option.bind (at? t26 t27) fun y=>if y=true then need (ge t27 0) (need (lt t27 8) (Option.bind (at? s_2 s) fun y=>Option.bind (at? y.2.2 t27) fun z=>Option.bind (qdv_ (z,())) fun y=>need (ge t27 0) (need (lt t27 8) (Option.bind (at? s_2 s) fun x=>Option.bind (at? x.2.2 t27) fun z=>self1 s t6 t26 (add .i64 t27 1) (List.set s_2 (Int.toNat s) (x.1,x.2.1,List.set x.2.2 (Int.toNat t27) y.1)) t6_2)))) else need (ge t27 0) (need (lt t27 8) (Option.bind (at? s_2 s) fun x=>Option.bind (at? x.2.2 t27) fun z=>self1 s t6 t26 (add .i64 t27 1) (List.set s_2 (Int.toNat s) (x.1,x.2.1,List.set x.2.2 (Int.toNat t27) (0,[]))) t6_2))) else j2 s t6 s_2 t6_2
def q11n_ (s t6:Int) (s_2 t6_2:List YTT9):Option (As [.pr (.int .u32) (.pr (.ar 8 .bool) (.ar 8 YTT8)),.int .i64]) :=
 Option.bind (at? s_2 s) fun y=>Option.bind (at? t6_2 t6) fun x=>Option.bind (at? (List.set t6_2 (Int.toNat t6) y) t6) fun y_1=>Option.bind (at? (List.set t6_2 (Int.toNat t6) y) t6) fun y=>some (y,0,())
def qpw_ (j1:Int->Int->List Bool->Int->List YTT9->List YTT9->Option (As [.pr (.int .u32) (.pr (.ar 8 .bool) (.ar 8 YTT8)),.int .i64])) (s:Int×List Bool×List (Int×List Int)) (n:Int) (x:Int×List Int):Option (As [.pr (.int .u32) (.pr (.ar 8 .bool) (.ar 8 YTT8)),.int .i64]) :=
 Option.bind (q9l_ (n,())) fun y=>if (!y.1)=true then some (zSt,2,()) else Option.bind (q8h_ (x,())) fun y=>if (!y.1)=true then some (zSt,20,()) else need (ge n 0) (need (lt n 8) (Option.bind (at? s.2.1 n) fun z=>need (ge n 0) (need (lt n 8) (Option.bind (at? s.2.2 n) fun z=>j1 0 0 (List.set s.2.1 (Int.toNat n) true) 0 [(s.1,List.set s.2.1 (Int.toNat n) true,List.set s.2.2 (Int.toNat n) x)] [zSt]))))
def qv8_ (s t6:Int) (s_2 t6_2:List YTT9):Option (As [.pr (.int .u32) (.pr (.ar 8 .bool) (.ar 8 YTT8)),.int .i64]):=q11n_ s t6 s_2 t6_2
def qjk_ (s t6:Int) (t26:List Bool) (t27:Int) (s_2 t6_2:List YTT9):Option (As [.pr (.int .u32) (.pr (.ar 8 .bool) (.ar 8 YTT8)),.int .i64]) :=
 loopF (fun (self:(Int)×(Int)×(List Bool)×(Int)×(List YTT9)×(List YTT9)->Option (As [.pr (.int .u32) (.pr (.ar 8 .bool) (.ar 8 YTT8)),.int .i64])) (s:(Int)×(Int)×(List Bool)×(Int)×(List YTT9)×(List YTT9))=>qg2_ (qv8_) (fun s t6 t26 t27 s_2 t6_2=>self (s,t6,t26,t27,s_2,t6_2)) s.1 s.2.1 s.2.2.1 s.2.2.2.1 s.2.2.2.2.1 s.2.2.2.2.2) 18446744073709551616 (s,t6,t26,t27,s_2,t6_2)
def qtk_ (x:As [.pr (.int .u32) (.pr (.ar 8 .bool) (.ar 8 YTT8)),.int .i64,.pr (.int .i64) (.sl (.int .u16))]):Option (As [.pr (.int .u32) (.pr (.ar 8 .bool) (.ar 8 YTT8)),.int .i64]):=qpw_ qjk_ x.1 x.2.1 x.2.2.1
theorem q1fx_ (J:Orc (As [.pr (.int .u32) (.pr (.ar 8 .bool) (.ar 8 YTT8)),.int .i64])) (s t6:Int) (s_2 t6_2:List YTT9):pfn Tryz.prog qbd_ 6 18446744073709551616 (Ev.get qb6_) 216 q7n_ J 31 [] (qq5_ s t6 s_2 t6_2)=q11n_ s t6 s_2 t6_2:=by kernel_rfl
theorem q1g5_ (J:Orc (As [.pr (.int .u32) (.pr (.ar 8 .bool) (.ar 8 YTT8)),.int .i64])) (w1:St->Option (As [.pr (.int .u32) (.pr (.ar 8 .bool) (.ar 8 YTT8)),.int .i64])) (s t6:Int) (t26:List Bool) (t27:Int) (s_2 t6_2:List YTT9):pfn Tryz.prog qbd_ 6 18446744073709551616 (Ev.get qb6_) 216 q7n_ J 250 [w1] (qf9_ s t6 t26 t27 s_2 t6_2)=qg2_ (fun s t6 s_2 t6_2=>J 31 [] (qq5_ s t6 s_2 t6_2)) (fun s t6 t26 t27 s_2 t6_2=>w1 (qf9_ s t6 t26 t27 s_2 t6_2)) s t6 t26 t27 s_2 t6_2:=by kernel_rfl
theorem q1d1_ (J:Orc (As [.pr (.int .u32) (.pr (.ar 8 .bool) (.ar 8 YTT8)),.int .i64])) (x:As [.pr (.int .u32) (.pr (.ar 8 .bool) (.ar 8 YTT8)),.int .i64,.pr (.int .i64) (.sl (.int .u16))]):rfn Tryz.prog qbd_ 6 18446744073709551616 (Ev.get qb6_) 216 q7n_ J x=qpw_ (fun s t6 t26 t27 s_2 t6_2=>J 250 [] (qf9_ s t6 t26 t27 s_2 t6_2)) x.1 x.2.1 x.2.2.1:=by kernel_rfl
theorem q1g6_ (s t6:Int) (s_2 t6_2:List YTT9):jfn Tryz.prog qbd_ 6 18446744073709551616 (Ev.get qb6_) 216 q7n_ 31 [] (qq5_ s t6 s_2 t6_2)=qv8_ s t6 s_2 t6_2:=by
 rw [q8_ (by decide)]
 rw [q1fx_]
 rfl
theorem q1gk_ (s t6:Int) (t26:List Bool) (t27:Int) (s_2 t6_2:List YTT9):jfn Tryz.prog qbd_ 6 18446744073709551616 (Ev.get qb6_) 216 q7n_ 250 [] (qf9_ s t6 t26 t27 s_2 t6_2)=qjk_ s t6 t26 t27 s_2 t6_2:=by
 rw [q8_ (by decide)]
 rw [qr_ (by kernel_rfl)]
 refine qi_ (σ:=(Int)×(Int)×(List Bool)×(Int)×(List YTT9)×(List YTT9)) (mk:=fun s=>qf9_ s.1 s.2.1 s.2.2.1 s.2.2.2.1 s.2.2.2.2.1 s.2.2.2.2.2) (fun w1 s=>?_) 18446744073709551616 (s,t6,t26,t27,s_2,t6_2)
 have e2:(fun s t6 s_2 t6_2=>(jfn Tryz.prog qbd_ 6 18446744073709551616 (Ev.get qb6_) 216 q7n_) 31 [] (qq5_ s t6 s_2 t6_2))=qv8_:=by funext s t6 s_2 t6_2; exact q1g6_ s t6 s_2 t6_2
 refine (q1g5_ _ w1 s.1 s.2.1 s.2.2.1 s.2.2.2.1 s.2.2.2.2.1 s.2.2.2.2.2).trans ?_
 rw [e2]
theorem q1hn_ (x:As [.pr (.int .u32) (.pr (.ar 8 .bool) (.ar 8 YTT8)),.int .i64,.pr (.int .i64) (.sl (.int .u16))]):evT Tryz.prog qbd_ 6 18446744073709551616 (Ev.get qb6_) 216 q7n_ x=qtk_ x:=by
 have e1:(fun s t6 t26 t27 s_2 t6_2=>(jfn Tryz.prog qbd_ 6 18446744073709551616 (Ev.get qb6_) 216 q7n_) 250 [] (qf9_ s t6 t26 t27 s_2 t6_2))=qjk_:=by funext s t6 t26 t27 s_2 t6_2; exact q1gk_ s t6 t26 t27 s_2 t6_2
 rw [q5_,q1d1_,e1]
 rfl
theorem q1ga_:CtOk Tryz.prog (fun _=>True) 216 ⟨q7n_,qtk_⟩:=q3_ (q0_ qwh_ (q0_ qrv_ (q0_ qw0_ q4_))) q1hn_
@[reducible] def qeb_:Sh:=⟨[.d (.pr (.sl (.int .u16)) YTT0),.d (.int .u16),.d (.int .u32),.d (.int .i64),.d YTT8],[],[.pr (.sl (.int .u16)) YTT0,.int .u16,.int .u32,.int .i64,.pr (.int .i64) (.sl (.int .u16))],[.d (.pr (.sl (.int .u16)) YTT0),.d (.int .i64)],[],0,[.pr (.sl (.int .u16)) YTT0,.int .i64]⟩
def qlt_:Env:=(cts [(178,(⟨q4n_,q9p_⟩:Ct)),(214,(⟨qfe_,q37_⟩:Ct)),(215,(⟨qjx_,qea_⟩:Ct)),(216,(⟨q7n_,qtk_⟩:Ct)),(217,(⟨qhc_,q9g_⟩:Ct))])
def qlr_:List (Nat×Hint):=[(14,⟨[],[1,2,3,5,9,10,21]⟩)]
def qrk_ (owner tx n a t10:Int) (t21:Bool) (a_2:List YTT2) (x:Int×List Int) (t10_2:List YTT2):St:={ fr:=[(1,.d (.int .u16) owner),(2,.d (.int .u32) tx),(3,.d (.int .i64) n),(5,.prw 0 a 32 0),(9,.pb 1 0),(10,.prw 2 t10 32 0),(21,.d .bool t21)],nt:=49,up:=[],own:=[(0,.row (.pr (.sl (.int .u16)) YTT0) 35 a_2),(1,.box 30 [.d (.int .i64) x.1,.d (.sl (.int .u16)) x.2]),(2,.row (.pr (.sl (.int .u16)) YTT0) 35 t10_2)],nx:=3,log:=[],ln:=0 }
def qqu_ (owner tx n a t10:Int) (t21:Bool) (a_2:List YTT2) (x:Int×List Int) (t10_2:List YTT2):Option (As [.pr (.sl (.int .u16)) YTT0,.int .i64]) :=
 if t21=true then Option.bind (at? a_2 a) fun y=>Option.bind (at? t10_2 t10) fun x=>Option.bind (at? (List.set t10_2 (Int.toNat t10) y) t10) fun y_1=>Option.bind (at? (List.set t10_2 (Int.toNat t10) y) t10) fun y=>some (y,2,()) else Option.bind (at? a_2 a) fun y=>Option.bind (q37_ (y,owner,())) fun y=>if y.1=true then Option.bind (at? a_2 a) fun y=>Option.bind (at? t10_2 t10) fun x=>Option.bind (at? (List.set t10_2 (Int.toNat t10) y) t10) fun y_1=>Option.bind (at? (List.set t10_2 (Int.toNat t10) y) t10) fun y=>some (y,22,()) else Option.bind (at? a_2 a) fun y=>Option.bind (qea_ (y,1,tx,())) fun y=>if (!y.1)=true then Option.bind (at? a_2 a) fun y=>Option.bind (at? t10_2 t10) fun x=>Option.bind (at? (List.set t10_2 (Int.toNat t10) y) t10) fun y_1=>Option.bind (at? (List.set t10_2 (Int.toNat t10) y) t10) fun y=>some (y,23,()) else Option.bind (at? a_2 a) fun y=>Option.bind (qtk_ (y.2.2.2.2.2.1,n,x,())) fun y=>if nei y.2.1 0=true then Option.bind (at? a_2 a) fun y_1=>Option.bind (at? t10_2 t10) fun x=>Option.bind (at? (List.set t10_2 (Int.toNat t10) y_1) t10) fun y_2=>Option.bind (at? (List.set t10_2 (Int.toNat t10) y_1) t10) fun y_3=>some (y_3,y.2.1,()) else Option.bind (at? a_2 a) fun x=>Option.bind (at? (List.set a_2 (Int.toNat a) (x.1,x.2.1,x.2.2.1,x.2.2.2.1,x.2.2.2.2.1,y.1,x.2.2.2.2.2.2)) a) fun y=>Option.bind (q9g_ (y,owner,())) fun y=>Option.bind (at? t10_2 t10) fun x=>Option.bind (at? (List.set t10_2 (Int.toNat t10) y.1) t10) fun y_1=>Option.bind (at? (List.set t10_2 (Int.toNat t10) y.1) t10) fun y=>some (y,0,())
def qpq_ (j1:Int->Int->Int->Int->Int->Bool->List YTT2->Int×List Int->List YTT2->Option (As [.pr (.sl (.int .u16)) YTT0,.int .i64])) (a:List Int×(Int×Int)×Int×Int×Int×YTT9×Int) (owner tx n:Int) (x:Int×List Int):Option (As [.pr (.sl (.int .u16)) YTT0,.int .i64]) :=
 Option.bind (q9p_ (a,())) fun y=>if eqi owner 0=true then j1 owner tx n 0 0 true [y.1] x [zAg0] else j1 owner tx n 0 0 (eqi tx 0) [y.1] x [zAg0]
def qj6_ (owner tx n a t10:Int) (t21:Bool) (a_2:List YTT2) (x:Int×List Int) (t10_2:List YTT2):Option (As [.pr (.sl (.int .u16)) YTT0,.int .i64]):=qqu_ owner tx n a t10 t21 a_2 x t10_2
def qbb_ (x:As [.pr (.sl (.int .u16)) YTT0,.int .u16,.int .u32,.int .i64,.pr (.int .i64) (.sl (.int .u16))]):Option (As [.pr (.sl (.int .u16)) YTT0,.int .i64]):=qpq_ qj6_ x.1 x.2.1 x.2.2.1 x.2.2.2.1 x.2.2.2.2.1
theorem q1e0_ (J:Orc (As [.pr (.sl (.int .u16)) YTT0,.int .i64])) (owner tx n a t10:Int) (t21:Bool) (a_2:List YTT2) (x:Int×List Int) (t10_2:List YTT2):pfn Tryz.prog qlt_ 6 18446744073709551616 (Ev.get qlr_) 205 qeb_ J 14 [] (qrk_ owner tx n a t10 t21 a_2 x t10_2)=qqu_ owner tx n a t10 t21 a_2 x t10_2:=by kernel_rfl
theorem q1dr_ (J:Orc (As [.pr (.sl (.int .u16)) YTT0,.int .i64])) (x:As [.pr (.sl (.int .u16)) YTT0,.int .u16,.int .u32,.int .i64,.pr (.int .i64) (.sl (.int .u16))]):rfn Tryz.prog qlt_ 6 18446744073709551616 (Ev.get qlr_) 205 qeb_ J x=qpq_ (fun owner tx n a t10 t21 a_2 x t10_2=>J 14 [] (qrk_ owner tx n a t10 t21 a_2 x t10_2)) x.1 x.2.1 x.2.2.1 x.2.2.2.1 x.2.2.2.2.1:=by kernel_rfl
theorem q1fu_ (owner tx n a t10:Int) (t21:Bool) (a_2:List YTT2) (x:Int×List Int) (t10_2:List YTT2):jfn Tryz.prog qlt_ 6 18446744073709551616 (Ev.get qlr_) 205 qeb_ 14 [] (qrk_ owner tx n a t10 t21 a_2 x t10_2)=qj6_ owner tx n a t10 t21 a_2 x t10_2:=by
 rw [q8_ (by decide)]
 rw [q1e0_]
 rfl
theorem q1hd_ (x:As [.pr (.sl (.int .u16)) YTT0,.int .u16,.int .u32,.int .i64,.pr (.int .i64) (.sl (.int .u16))]):evT Tryz.prog qlt_ 6 18446744073709551616 (Ev.get qlr_) 205 qeb_ x=qbb_ x:=by
 have e1:(fun owner tx n a t10 t21 a_2 x t10_2=>(jfn Tryz.prog qlt_ 6 18446744073709551616 (Ev.get qlr_) 205 qeb_) 14 [] (qrk_ owner tx n a t10 t21 a_2 x t10_2))=qj6_:=by funext owner tx n a t10 t21 a_2 x t10_2; exact q1fu_ owner tx n a t10 t21 a_2 x t10_2
 rw [q5_,q1dr_,e1]
 rfl
theorem q1d7_:CtOk Tryz.prog (fun _=>True) 205 ⟨qeb_,qbb_⟩:=q3_ (q0_ qpl_ (q0_ qwv_ (q0_ qxh_ (q0_ q1ga_ (q0_ qxz_ q4_))))) q1hd_
@[reducible] def q2j_:Sh:=⟨[.agg [.d (.int .u8),.d (.int .u8),.d (.sl (.int .u16)),.d (.int .u16),.d (.int .i64),.d (.int .u8),.d (.int .u32),.d (.int .u32),.d (.int .u32),.d (.bool),.d (.bool),.d (.bool),.d (.bool),.d (.bool),.d (.bool),.d (.bool),.d (.bool),.d (.int .i64),.d (.sl (.int .u16)),.d (.int .i64),.d (.sl (.int .u16)),.d (.int .i64),.d (.sl (.int .u16)),.d (.int .i64),.d (.sl (.int .u16)),.d (.int .i64),.d (.sl (.int .u16)),.d (.int .i64),.d (.sl (.int .u16)),.d (.int .i64),.d (.sl (.int .u16)),.d (.int .i64),.d (.sl (.int .u16)),.d (.int .i64),.row 0],.d (.sl (.int .u8))],[.row .bool 4],[.int .u8,.int .u8,.sl (.int .u16),.int .u16,.int .i64,.int .u8,.int .u32,.int .u32,.int .u32,.bool,.bool,.bool,.bool,.bool,.bool,.bool,.bool,.int .i64,.sl (.int .u16),.int .i64,.sl (.int .u16),.int .i64,.sl (.int .u16),.int .i64,.sl (.int .u16),.int .i64,.sl (.int .u16),.int .i64,.sl (.int .u16),.int .i64,.sl (.int .u16),.int .i64,.sl (.int .u16),.int .i64,.sl (.int .u8),.sl .bool],[.d (.pr (.int .u8) (.pr (.int .u8) (.pr (.pr (.sl (.int .u16)) YTT0) (.sl .bool)))),.d (.pr (.int .u8) YTT3)],[],0,[.pr (.int .u8) (.pr (.int .u8) (.pr (.pr (.sl (.int .u16)) YTT0) (.sl .bool))),.pr (.int .u8) YTT3]⟩
def qhh_:Env:=(cts [(1000038,Ev.bxCt),(1000194,Ev.bxCt),(24,(⟨q62_,qh0_⟩:Ct)),(49,(⟨q4i_,q5e_⟩:Ct)),(52,(⟨qut_,qee_⟩:Ct)),(54,(⟨q4j_,qb2_⟩:Ct)),(120,(⟨qag_,qe_⟩:Ct)),(129,(⟨qd_,qz_⟩:Ct)),(203,(⟨qbt_,qga_⟩:Ct)),(204,(⟨qr2_,qe7_⟩:Ct)),(205,(⟨qeb_,qbb_⟩:Ct))])
def qhd_:List (Nat×Hint):=[(7,⟨[],[2,4,5,6,7]⟩)]
def qk9_ (except:Int) (o:List Bool) (s s_2:Int) (s_3:List Int) (s_4 s_5 s_6 s_7 s_8 s_9:Int) (s_10 s_11 s_12 s_13 s_14 s_15 s_16 s_17:Bool) (s_18:Int) (s_19:List Int) (s_20:Int) (s_21:List Int) (s_22:Int) (s_23:List Int) (s_24:Int) (s_25:List Int) (s_26:Int) (s_27:List Int) (s_28:Int) (s_29:List Int) (s_30:Int) (s_31:List Int) (s_32:Int) (s_33:List Int) (s_34 t4 t4_2 t4_3 t4_4 t4_5 t4_6 t4_7 t4_8:Int) (t4_9 t4_10 t4_11 t4_12 t4_13 t4_14 t4_15 t4_16:Bool) (t4_17 t4_18 t4_19 t4_20 t4_21 t4_22 t4_23 t4_24 t4_25 t5 t5_2 t5_3 t5_4:Int) (a:Int×Int×Int×Int×List Int×List Bool):St:={ fr:=[(2,.pb 1 0),(4,.pb 2 0),(5,.pb 3 0),(6,.pb 4 0),(7,.d (.int .u8) except)],nt:=43,up:=[],own:=[(0,.row .bool 4 o),(1,.box 38 [.d (.int .u8) s,.d (.int .u8) s_2,.d (.sl (.int .u16)) s_3,.d (.int .u16) s_4,.d (.int .i64) s_5,.d (.int .u8) s_6,.d (.int .u32) s_7,.d (.int .u32) s_8,.d (.int .u32) s_9,.d .bool s_10,.d .bool s_11,.d .bool s_12,.d .bool s_13,.d .bool s_14,.d .bool s_15,.d .bool s_16,.d .bool s_17,.d (.int .i64) s_18,.d (.sl (.int .u16)) s_19,.d (.int .i64) s_20,.d (.sl (.int .u16)) s_21,.d (.int .i64) s_22,.d (.sl (.int .u16)) s_23,.d (.int .i64) s_24,.d (.sl (.int .u16)) s_25,.d (.int .i64) s_26,.d (.sl (.int .u16)) s_27,.d (.int .i64) s_28,.d (.sl (.int .u16)) s_29,.d (.int .i64) s_30,.d (.sl (.int .u16)) s_31,.d (.int .i64) s_32,.d (.sl (.int .u16)) s_33,.d (.int .i64) s_34,.row 0]),(2,.box 38 [.d (.int .u8) t4,.d (.int .u8) t4_2,.k (Go.Value.slice Option.none 0 0),.d (.int .u16) t4_3,.d (.int .i64) t4_4,.d (.int .u8) t4_5,.d (.int .u32) t4_6,.d (.int .u32) t4_7,.d (.int .u32) t4_8,.d .bool t4_9,.d .bool t4_10,.d .bool t4_11,.d .bool t4_12,.d .bool t4_13,.d .bool t4_14,.d .bool t4_15,.d .bool t4_16,.d (.int .i64) t4_17,.k (Go.Value.slice Option.none 0 0),.d (.int .i64) t4_18,.k (Go.Value.slice Option.none 0 0),.d (.int .i64) t4_19,.k (Go.Value.slice Option.none 0 0),.d (.int .i64) t4_20,.k (Go.Value.slice Option.none 0 0),.d (.int .i64) t4_21,.k (Go.Value.slice Option.none 0 0),.d (.int .i64) t4_22,.k (Go.Value.slice Option.none 0 0),.d (.int .i64) t4_23,.k (Go.Value.slice Option.none 0 0),.d (.int .i64) t4_24,.k (Go.Value.slice Option.none 0 0),.d (.int .i64) t4_25,.k (Go.Value.slice Option.none 0 0)]),(3,.box 46 [.d (.int .u8) t5,.d (.int .u8) t5_2,.k (Go.Value.slice Option.none 0 0),.k (Go.Value.slice Option.none 0 0),.d (.int .u16) t5_3,.d (.int .u16) t5_4]),(4,.box 44 [.d (.int .u8) a.1,.d (.int .u16) a.2.1,.d (.int .u16) a.2.2.1,.d (.int .u16) a.2.2.2.1,.d (.sl (.int .u16)) a.2.2.2.2.1,.d (.sl .bool) a.2.2.2.2.2])],nx:=5,log:=[],ln:=1 }
def qy5_ (except:Int) (o:List Bool) (s s_2:Int) (s_3:List Int) (s_4 s_5 s_6 s_7 s_8 s_9:Int) (s_10 s_11 s_12 s_13 s_14 s_15 s_16 s_17:Bool) (s_18:Int) (s_19:List Int) (s_20:Int) (s_21:List Int) (s_22:Int) (s_23:List Int) (s_24:Int) (s_25:List Int) (s_26:Int) (s_27:List Int) (s_28:Int) (s_29:List Int) (s_30:Int) (s_31:List Int) (s_32:Int) (s_33:List Int) (s_34 t4 t4_2 t4_3 t4_4 t4_5 t4_6 t4_7 t4_8:Int) (t4_9 t4_10 t4_11 t4_12 t4_13 t4_14 t4_15 t4_16:Bool) (t4_17 t4_18 t4_19 t4_20 t4_21 t4_22 t4_23 t4_24 t4_25 t5 t5_2 t5_3 t5_4:Int) (a:Int×Int×Int×Int×List Int×List Bool):Option (As [.pr (.int .u8) (.pr (.int .u8) (.pr (.pr (.sl (.int .u16)) YTT0) (.sl .bool))),.pr (.int .u8) YTT3]) :=
 (fun (gA:TAg)=>if nei except 0=true then Option.bind (qe_ (a.1,except,())) fun y=>some ((s,s_2,gA,o),y.1,()) else if eqi a.1 5=true then if le (add .i64 (cvt .i64 a.2.1) (Int.ofNat (List.length a.2.2.2.2.2))) (Int.ofNat (List.length o))=true then need (ge a.2.1 0) (need (le a.2.1 (Int.ofNat (List.length o))) (need (le (Int.ofNat (List.length o)) (Int.ofNat (List.length o))) (need (le (a.2.1 + (Int.ofNat (List.length o) - a.2.1)) (Int.ofNat (List.length o))) (Option.bind (qz_ ((s,s_2,gA,List.take (Int.toNat a.2.1) o++List.take (Int.toNat (Int.ofNat (List.length o) - a.2.1)) a.2.2.2.2.2++List.drop (Int.toNat a.2.1 + List.length (List.take (Int.toNat (Int.ofNat (List.length o) - a.2.1)) a.2.2.2.2.2)) o),a,())) fun y=>some ((s,s_2,gA,List.take (Int.toNat a.2.1) o++List.take (Int.toNat (Int.ofNat (List.length o) - a.2.1)) a.2.2.2.2.2++List.drop (Int.toNat a.2.1 + List.length (List.take (Int.toNat (Int.ofNat (List.length o) - a.2.1)) a.2.2.2.2.2)) o),y.1,()))))) else Option.bind (qz_ ((s,s_2,gA,o),a,())) fun y=>some ((s,s_2,gA,o),y.1,()) else if eqi a.1 15=true then if le (add .i64 (cvt .i64 a.2.1) (Int.ofNat (List.length a.2.2.2.2.2))) (Int.ofNat (List.length o))=true then need (ge a.2.1 0) (need (le a.2.1 (Int.ofNat (List.length o))) (need (le (Int.ofNat (List.length o)) (Int.ofNat (List.length o))) (need (le (a.2.1 + (Int.ofNat (List.length o) - a.2.1)) (Int.ofNat (List.length o))) (Option.bind (qz_ ((s,s_2,gA,List.take (Int.toNat a.2.1) o++List.take (Int.toNat (Int.ofNat (List.length o) - a.2.1)) a.2.2.2.2.2++List.drop (Int.toNat a.2.1 + List.length (List.take (Int.toNat (Int.ofNat (List.length o) - a.2.1)) a.2.2.2.2.2)) o),a,())) fun y=>some ((s,s_2,gA,List.take (Int.toNat a.2.1) o++List.take (Int.toNat (Int.ofNat (List.length o) - a.2.1)) a.2.2.2.2.2++List.drop (Int.toNat a.2.1 + List.length (List.take (Int.toNat (Int.ofNat (List.length o) - a.2.1)) a.2.2.2.2.2)) o),y.1,()))))) else Option.bind (qz_ ((s,s_2,gA,o),a,())) fun y=>some ((s,s_2,gA,o),y.1,()) else if eqi (Int.ofNat (List.length a.2.2.2.2.1)) 0=true then Option.bind (qz_ ((s,s_2,gA,o),a,())) fun y=>some ((s,s_2,gA,o),y.1,()) else if eqi a.1 23=true then if eqi 272 a.2.2.2.1=true then Option.bind (qga_ (a.2.2.2.2.1,())) fun y=>if nei y.2.1 0=true then Option.bind (qe_ (a.1,3,())) fun y=>some ((s,s_2,gA,o),y.1,()) else amb (eqAs q2j_.rs) [Option.bind (qe7_ (gA,y.1,())) fun y=>if nei y.2.1 0=true then Option.bind (qe_ (a.1,4,())) fun y=>some ((s,s_2,gA,o),y.1,()) else Option.bind (qz_ ((s,s_2,(mkAg y.1),o),a,())) fun y_1=>some ((s,s_2,(mkAg y.1),o),y_1.1,()),Option.bind (qe7_ (gA,y.1,())) fun y=>if nei y.2.1 0=true then Option.bind (qe_ (a.1,4,())) fun y=>some ((s,s_2,gA,o),y.1,()) else Option.bind (qz_ ((s,s_2,(mkAg y.1),o),a,())) fun y_1=>some ((s,s_2,(mkAg y.1),o),y_1.1,())] else if eqi 288 a.2.2.2.1=true then Option.bind (qh0_ (a.2.2.2.2.1,())) fun y=>if nei y.2.2.2.2.1 0=true then Option.bind (qe_ (a.1,3,())) fun y=>some ((s,s_2,gA,o),y.1,()) else amb (eqAs q2j_.rs) [Option.bind (qbb_ (gA,y.1,y.2.1,y.2.2.1,y.2.2.2.1,())) fun y=>if nei y.2.1 0=true then Option.bind (qe_ (a.1,4,())) fun y=>some ((s,s_2,gA,o),y.1,()) else Option.bind (qz_ ((s,s_2,(mkAg y.1),o),a,())) fun y_1=>some ((s,s_2,(mkAg y.1),o),y_1.1,()),Option.bind (qbb_ (gA,y.1,y.2.1,y.2.2.1,y.2.2.2.1,())) fun y=>if nei y.2.1 0=true then Option.bind (qe_ (a.1,4,())) fun y=>some ((s,s_2,gA,o),y.1,()) else Option.bind (qz_ ((s,s_2,(mkAg y.1),o),a,())) fun y_1=>some ((s,s_2,(mkAg y.1),o),y_1.1,())] else Option.bind (qe_ (a.1,2,())) fun y=>some ((s,s_2,gA,o),y.1,()) else if eqi 272 a.2.1=true then Option.bind (qga_ (a.2.2.2.2.1,())) fun y=>if nei y.2.1 0=true then Option.bind (qe_ (a.1,3,())) fun y=>some ((s,s_2,gA,o),y.1,()) else amb (eqAs q2j_.rs) [Option.bind (qe7_ (gA,y.1,())) fun y=>if nei y.2.1 0=true then Option.bind (qe_ (a.1,4,())) fun y=>some ((s,s_2,gA,o),y.1,()) else Option.bind (qz_ ((s,s_2,(mkAg y.1),o),a,())) fun y_1=>some ((s,s_2,(mkAg y.1),o),y_1.1,()),Option.bind (qe7_ (gA,y.1,())) fun y=>if nei y.2.1 0=true then Option.bind (qe_ (a.1,4,())) fun y=>some ((s,s_2,gA,o),y.1,()) else Option.bind (qz_ ((s,s_2,(mkAg y.1),o),a,())) fun y_1=>some ((s,s_2,(mkAg y.1),o),y_1.1,())] else if eqi 288 a.2.1=true then Option.bind (qh0_ (a.2.2.2.2.1,())) fun y=>if nei y.2.2.2.2.1 0=true then Option.bind (qe_ (a.1,3,())) fun y=>some ((s,s_2,gA,o),y.1,()) else amb (eqAs q2j_.rs) [Option.bind (qbb_ (gA,y.1,y.2.1,y.2.2.1,y.2.2.2.1,())) fun y=>if nei y.2.1 0=true then Option.bind (qe_ (a.1,4,())) fun y=>some ((s,s_2,gA,o),y.1,()) else Option.bind (qz_ ((s,s_2,(mkAg y.1),o),a,())) fun y_1=>some ((s,s_2,(mkAg y.1),o),y_1.1,()),Option.bind (qbb_ (gA,y.1,y.2.1,y.2.2.1,y.2.2.2.1,())) fun y=>if nei y.2.1 0=true then Option.bind (qe_ (a.1,4,())) fun y=>some ((s,s_2,gA,o),y.1,()) else Option.bind (qz_ ((s,s_2,(mkAg y.1),o),a,())) fun y_1=>some ((s,s_2,(mkAg y.1),o),y_1.1,())] else Option.bind (qe_ (a.1,2,())) fun y=>some ((s,s_2,gA,o),y.1,())) (s_3,(s_4,s_5),s_6,s_7,s_8,(s_9,[s_10,s_11,s_12,s_13,s_14,s_15,s_16,s_17],[(s_18,s_19),(s_20,s_21),(s_22,s_23),(s_24,s_25),(s_26,s_27),(s_28,s_29),(s_30,s_31),(s_32,s_33)]),s_34)
def qyc_ (j1:Int->List Bool->Int->Int->List Int->Int->Int->Int->Int->Int->Int->Bool->Bool->Bool->Bool->Bool->Bool->Bool->Bool->Int->List Int->Int->List Int->Int->List Int->Int->List Int->Int->List Int->Int->List Int->Int->List Int->Int->List Int->Int->Int->Int->Int->Int->Int->Int->Int->Int->Bool->Bool->Bool->Bool->Bool->Bool->Bool->Bool->Int->Int->Int->Int->Int->Int->Int->Int->Int->Int->Int->Int->Int->Int×Int×Int×Int×List Int×List Bool->Option (As [.pr (.int .u8) (.pr (.int .u8) (.pr (.pr (.sl (.int .u16)) YTT0) (.sl .bool))),.pr (.int .u8) YTT3])) (s pdu:Int) (s_2:List Int) (pdu_2 v v_2 a except d:Int) (v_3 v_4 v_5 v_6 v_7 v_8 v_9 v_10:Bool) (v_11:Int) (v_12:List Int) (v_13:Int) (v_14:List Int) (v_15:Int) (v_16:List Int) (v_17:Int) (v_18:List Int) (v_19:Int) (v_20:List Int) (v_21:Int) (v_22:List Int) (v_23:Int) (v_24:List Int) (v_25:Int) (v_26:List Int) (v_27:Int) (v_28:List Int) (v_29:List Bool):Option (As [.pr (.int .u8) (.pr (.int .u8) (.pr (.pr (.sl (.int .u16)) YTT0) (.sl .bool))),.pr (.int .u8) YTT3]) :=
 Option.bind (qee_ (v_28,())) fun y=>if eqi y.2.1 0=true then Option.bind (q5e_ ()) fun y_1=>Option.bind (qb2_ (y_1.1,y.1,())) fun y_2=>j1 y_2.1 v_29 s pdu s_2 pdu_2 v v_2 a except d v_3 v_4 v_5 v_6 v_7 v_8 v_9 v_10 v_11 v_12 v_13 v_14 v_15 v_16 v_17 v_18 v_19 v_20 v_21 v_22 v_23 v_24 v_25 v_26 v_27 0 0 0 0 0 0 0 0 false false false false false false false false 0 0 0 0 0 0 0 0 0 0 0 0 0 y.1 else j1 y.2.1 v_29 s pdu s_2 pdu_2 v v_2 a except d v_3 v_4 v_5 v_6 v_7 v_8 v_9 v_10 v_11 v_12 v_13 v_14 v_15 v_16 v_17 v_18 v_19 v_20 v_21 v_22 v_23 v_24 v_25 v_26 v_27 0 0 0 0 0 0 0 0 false false false false false false false false 0 0 0 0 0 0 0 0 0 0 0 0 0 y.1
def qku_ (except:Int) (o:List Bool) (s s_2:Int) (s_3:List Int) (s_4 s_5 s_6 s_7 s_8 s_9:Int) (s_10 s_11 s_12 s_13 s_14 s_15 s_16 s_17:Bool) (s_18:Int) (s_19:List Int) (s_20:Int) (s_21:List Int) (s_22:Int) (s_23:List Int) (s_24:Int) (s_25:List Int) (s_26:Int) (s_27:List Int) (s_28:Int) (s_29:List Int) (s_30:Int) (s_31:List Int) (s_32:Int) (s_33:List Int) (s_34 t4 t4_2 t4_3 t4_4 t4_5 t4_6 t4_7 t4_8:Int) (t4_9 t4_10 t4_11 t4_12 t4_13 t4_14 t4_15 t4_16:Bool) (t4_17 t4_18 t4_19 t4_20 t4_21 t4_22 t4_23 t4_24 t4_25 t5 t5_2 t5_3 t5_4:Int) (a:Int×Int×Int×Int×List Int×List Bool):Option (As [.pr (.int .u8) (.pr (.int .u8) (.pr (.pr (.sl (.int .u16)) YTT0) (.sl .bool))),.pr (.int .u8) YTT3]):=qy5_ except o s s_2 s_3 s_4 s_5 s_6 s_7 s_8 s_9 s_10 s_11 s_12 s_13 s_14 s_15 s_16 s_17 s_18 s_19 s_20 s_21 s_22 s_23 s_24 s_25 s_26 s_27 s_28 s_29 s_30 s_31 s_32 s_33 s_34 t4 t4_2 t4_3 t4_4 t4_5 t4_6 t4_7 t4_8 t4_9 t4_10 t4_11 t4_12 t4_13 t4_14 t4_15 t4_16 t4_17 t4_18 t4_19 t4_20 t4_21 t4_22 t4_23 t4_24 t4_25 t5 t5_2 t5_3 t5_4 a
def qso_ (x:As [.int .u8,.int .u8,.sl (.int .u16),.int .u16,.int .i64,.int .u8,.int .u32,.int .u32,.int .u32,.bool,.bool,.bool,.bool,.bool,.bool,.bool,.bool,.int .i64,.sl (.int .u16),.int .i64,.sl (.int .u16),.int .i64,.sl (.int .u16),.int .i64,.sl (.int .u16),.int .i64,.sl (.int .u16),.int .i64,.sl (.int .u16),.int .i64,.sl (.int .u16),.int .i64,.sl (.int .u16),.int .i64,.sl (.int .u8),.sl .bool]):Option (As [.pr (.int .u8) (.pr (.int .u8) (.pr (.pr (.sl (.int .u16)) YTT0) (.sl .bool))),.pr (.int .u8) YTT3]):=qyc_ qku_ x.1 x.2.1 x.2.2.1 x.2.2.2.1 x.2.2.2.2.1 x.2.2.2.2.2.1 x.2.2.2.2.2.2.1 x.2.2.2.2.2.2.2.1 x.2.2.2.2.2.2.2.2.1 x.2.2.2.2.2.2.2.2.2.1 x.2.2.2.2.2.2.2.2.2.2.1 x.2.2.2.2.2.2.2.2.2.2.2.1 x.2.2.2.2.2.2.2.2.2.2.2.2.1 x.2.2.2.2.2.2.2.2.2.2.2.2.2.1 x.2.2.2.2.2.2.2.2.2.2.2.2.2.2.1 x.2.2.2.2.2.2.2.2.2.2.2.2.2.2.2.1 x.2.2.2.2.2.2.2.2.2.2.2.2.2.2.2.2.1 x.2.2.2.2.2.2.2.2.2.2.2.2.2.2.2.2.2.1 x.2.2.2.2.2.2.2.2.2.2.2.2.2.2.2.2.2.2.1 x.2.2.2.2.2.2.2.2.2.2.2.2.2.2.2.2.2.2.2.1 x.2.2.2.2.2.2.2.2.2.2.2.2.2.2.2.2.2.2.2.2.1 x.2.2.2.2.2.2.2.2.2.2.2.2.2.2.2.2.2.2.2.2.2.1 x.2.2.2.2.2.2.2.2.2.2.2.2.2.2.2.2.2.2.2.2.2.2.1 x.2.2.2.2.2.2.2.2.2.2.2.2.2.2.2.2.2.2.2.2.2.2.2.1 x.2.2.2.2.2.2.2.2.2.2.2.2.2.2.2.2.2.2.2.2.2.2.2.2.1 x.2.2.2.2.2.2.2.2.2.2.2.2.2.2.2.2.2.2.2.2.2.2.2.2.2.1 x.2.2.2.2.2.2.2.2.2.2.2.2.2.2.2.2.2.2.2.2.2.2.2.2.2.2.1 x.2.2.2.2.2.2.2.2.2.2.2.2.2.2.2.2.2.2.2.2.2.2.2.2.2.2.2.1 x.2.2.2.2.2.2.2.2.2.2.2.2.2.2.2.2.2.2.2.2.2.2.2.2.2.2.2.2.1 x.2.2.2.2.2.2.2.2.2.2.2.2.2.2.2.2.2.2.2.2.2.2.2.2.2.2.2.2.2.1 x.2.2.2.2.2.2.2.2.2.2.2.2.2.2.2.2.2.2.2.2.2.2.2.2.2.2.2.2.2.2.1 x.2.2.2.2.2.2.2.2.2.2.2.2.2.2.2.2.2.2.2.2.2.2.2.2.2.2.2.2.2.2.2.1 x.2.2.2.2.2.2.2.2.2.2.2.2.2.2.2.2.2.2.2.2.2.2.2.2.2.2.2.2.2.2.2.2.1 x.2.2.2.2.2.2.2.2.2.2.2.2.2.2.2.2.2.2.2.2.2.2.2.2.2.2.2.2.2.2.2.2.2.1 x.2.2.2.2.2.2.2.2.2.2.2.2.2.2.2.2.2.2.2.2.2.2.2.2.2.2.2.2.2.2.2.2.2.2.1 x.2.2.2.2.2.2.2.2.2.2.2.2.2.2.2.2.2.2.2.2.2.2.2.2.2.2.2.2.2.2.2.2.2.2.2.1
theorem q18f_ (J:Orc (As [.pr (.int .u8) (.pr (.int .u8) (.pr (.pr (.sl (.int .u16)) YTT0) (.sl .bool))),.pr (.int .u8) YTT3])) (except:Int) (o:List Bool) (s s_2:Int) (s_3:List Int) (s_4 s_5 s_6 s_7 s_8 s_9:Int) (s_10 s_11 s_12 s_13 s_14 s_15 s_16 s_17:Bool) (s_18:Int) (s_19:List Int) (s_20:Int) (s_21:List Int) (s_22:Int) (s_23:List Int) (s_24:Int) (s_25:List Int) (s_26:Int) (s_27:List Int) (s_28:Int) (s_29:List Int) (s_30:Int) (s_31:List Int) (s_32:Int) (s_33:List Int) (s_34 t4 t4_2 t4_3 t4_4 t4_5 t4_6 t4_7 t4_8:Int) (t4_9 t4_10 t4_11 t4_12 t4_13 t4_14 t4_15 t4_16:Bool) (t4_17 t4_18 t4_19 t4_20 t4_21 t4_22 t4_23 t4_24 t4_25 t5 t5_2 t5_3 t5_4:Int) (a:Int×Int×Int×Int×List Int×List Bool):pfn Tryz.prog qhh_ 6 18446744073709551616 (Ev.get qhd_) 62 q2j_ J 7 [] (qk9_ except o s s_2 s_3 s_4 s_5 s_6 s_7 s_8 s_9 s_10 s_11 s_12 s_13 s_14 s_15 s_16 s_17 s_18 s_19 s_20 s_21 s_22 s_23 s_24 s_25 s_26 s_27 s_28 s_29 s_30 s_31 s_32 s_33 s_34 t4 t4_2 t4_3 t4_4 t4_5 t4_6 t4_7 t4_8 t4_9 t4_10 t4_11 t4_12 t4_13 t4_14 t4_15 t4_16 t4_17 t4_18 t4_19 t4_20 t4_21 t4_22 t4_23 t4_24 t4_25 t5 t5_2 t5_3 t5_4 a)=qy5_ except o s s_2 s_3 s_4 s_5 s_6 s_7 s_8 s_9 s_10 s_11 s_12 s_13 s_14 s_15 s_16 s_17 s_18 s_19 s_20 s_21 s_22 s_23 s_24 s_25 s_26 s_27 s_28 s_29 s_30 s_31 s_32 s_33 s_34 t4 t4_2 t4_3 t4_4 t4_5 t4_6 t4_7 t4_8 t4_9 t4_10 t4_11 t4_12 t4_13 t4_14 t4_15 t4_16 t4_17 t4_18 t4_19 t4_20 t4_21 t4_22 t4_23 t4_24 t4_25 t5 t5_2 t5_3 t5_4 a:=by kernel_rfl
theorem q19c_ (J:Orc (As [.pr (.int .u8) (.pr (.int .u8) (.pr (.pr (.sl (.int .u16)) YTT0) (.sl .bool))),.pr (.int .u8) YTT3])) (x:As [.int .u8,.int .u8,.sl (.int .u16),.int .u16,.int .i64,.int .u8,.int .u32,.int .u32,.int .u32,.bool,.bool,.bool,.bool,.bool,.bool,.bool,.bool,.int .i64,.sl (.int .u16),.int .i64,.sl (.int .u16),.int .i64,.sl (.int .u16),.int .i64,.sl (.int .u16),.int .i64,.sl (.int .u16),.int .i64,.sl (.int .u16),.int .i64,.sl (.int .u16),.int .i64,.sl (.int .u16),.int .i64,.sl (.int .u8),.sl .bool]):rfn Tryz.prog qhh_ 6 18446744073709551616 (Ev.get qhd_) 62 q2j_ J x=qyc_ (fun except o s s_2 s_3 s_4 s_5 s_6 s_7 s_8 s_9 s_10 s_11 s_12 s_13 s_14 s_15 s_16 s_17 s_18 s_19 s_20 s_21 s_22 s_23 s_24 s_25 s_26 s_27 s_28 s_29 s_30 s_31 s_32 s_33 s_34 t4 t4_2 t4_3 t4_4 t4_5 t4_6 t4_7 t4_8 t4_9 t4_10 t4_11 t4_12 t4_13 t4_14 t4_15 t4_16 t4_17 t4_18 t4_19 t4_20 t4_21 t4_22 t4_23 t4_24 t4_25 t5 t5_2 t5_3 t5_4 a=>J 7 [] (qk9_ except o s s_2 s_3 s_4 s_5 s_6 s_7 s_8 s_9 s_10 s_11 s_12 s_13 s_14 s_15 s_16 s_17 s_18 s_19 s_20 s_21 s_22 s_23 s_24 s_25 s_26 s_27 s_28 s_29 s_30 s_31 s_32 s_33 s_34 t4 t4_2 t4_3 t4_4 t4_5 t4_6 t4_7 t4_8 t4_9 t4_10 t4_11 t4_12 t4_13 t4_14 t4_15 t4_16 t4_17 t4_18 t4_19 t4_20 t4_21 t4_22 t4_23 t4_24 t4_25 t5 t5_2 t5_3 t5_4 a)) x.1 x.2.1 x.2.2.1 x.2.2.2.1 x.2.2.2.2.1 x.2.2.2.2.2.1 x.2.2.2.2.2.2.1 x.2.2.2.2.2.2.2.1 x.2.2.2.2.2.2.2.2.1 x.2.2.2.2.2.2.2.2.2.1 x.2.2.2.2.2.2.2.2.2.2.1 x.2.2.2.2.2.2.2.2.2.2.2.1 x.2.2.2.2.2.2.2.2.2.2.2.2.1 x.2.2.2.2.2.2.2.2.2.2.2.2.2.1 x.2.2.2.2.2.2.2.2.2.2.2.2.2.2.1 x.2.2.2.2.2.2.2.2.2.2.2.2.2.2.2.1 x.2.2.2.2.2.2.2.2.2.2.2.2.2.2.2.2.1 x.2.2.2.2.2.2.2.2.2.2.2.2.2.2.2.2.2.1 x.2.2.2.2.2.2.2.2.2.2.2.2.2.2.2.2.2.2.1 x.2.2.2.2.2.2.2.2.2.2.2.2.2.2.2.2.2.2.2.1 x.2.2.2.2.2.2.2.2.2.2.2.2.2.2.2.2.2.2.2.2.1 x.2.2.2.2.2.2.2.2.2.2.2.2.2.2.2.2.2.2.2.2.2.1 x.2.2.2.2.2.2.2.2.2.2.2.2.2.2.2.2.2.2.2.2.2.2.1 x.2.2.2.2.2.2.2.2.2.2.2.2.2.2.2.2.2.2.2.2.2.2.2.1 x.2.2.2.2.2.2.2.2.2.2.2.2.2.2.2.2.2.2.2.2.2.2.2.2.1 x.2.2.2.2.2.2.2.2.2.2.2.2.2.2.2.2.2.2.2.2.2.2.2.2.2.1 x.2.2.2.2.2.2.2.2.2.2.2.2.2.2.2.2.2.2.2.2.2.2.2.2.2.2.1 x.2.2.2.2.2.2.2.2.2.2.2.2.2.2.2.2.2.2.2.2.2.2.2.2.2.2.2.1 x.2.2.2.2.2.2.2.2.2.2.2.2.2.2.2.2.2.2.2.2.2.2.2.2.2.2.2.2.1 x.2.2.2.2.2.2.2.2.2.2.2.2.2.2.2.2.2.2.2.2.2.2.2.2.2.2.2.2.2.1 x.2.2.2.2.2.2.2.2.2.2.2.2.2.2.2.2.2.2.2.2.2.2.2.2.2.2.2.2.2.2.1 x.2.2.2.2.2.2.2.2.2.2.2.2.2.2.2.2.2.2.2.2.2.2.2.2.2.2.2.2.2.2.2.1 x.2.2.2.2.2.2.2.2.2.2.2.2.2.2.2.2.2.2.2.2.2.2.2.2.2.2.2.2.2.2.2.2.1 x.2.2.2.2.2.2.2.2.2.2.2.2.2.2.2.2.2.2.2.2.2.2.2.2.2.2.2.2.2.2.2.2.2.1 x.2.2.2.2.2.2.2.2.2.2.2.2.2.2.2.2.2.2.2.2.2.2.2.2.2.2.2.2.2.2.2.2.2.2.1 x.2.2.2.2.2.2.2.2.2.2.2.2.2.2.2.2.2.2.2.2.2.2.2.2.2.2.2.2.2.2.2.2.2.2.2.1:=by kernel_rfl
theorem q19k_ (except:Int) (o:List Bool) (s s_2:Int) (s_3:List Int) (s_4 s_5 s_6 s_7 s_8 s_9:Int) (s_10 s_11 s_12 s_13 s_14 s_15 s_16 s_17:Bool) (s_18:Int) (s_19:List Int) (s_20:Int) (s_21:List Int) (s_22:Int) (s_23:List Int) (s_24:Int) (s_25:List Int) (s_26:Int) (s_27:List Int) (s_28:Int) (s_29:List Int) (s_30:Int) (s_31:List Int) (s_32:Int) (s_33:List Int) (s_34 t4 t4_2 t4_3 t4_4 t4_5 t4_6 t4_7 t4_8:Int) (t4_9 t4_10 t4_11 t4_12 t4_13 t4_14 t4_15 t4_16:Bool) (t4_17 t4_18 t4_19 t4_20 t4_21 t4_22 t4_23 t4_24 t4_25 t5 t5_2 t5_3 t5_4:Int) (a:Int×Int×Int×Int×List Int×List Bool):jfn Tryz.prog qhh_ 6 18446744073709551616 (Ev.get qhd_) 62 q2j_ 7 [] (qk9_ except o s s_2 s_3 s_4 s_5 s_6 s_7 s_8 s_9 s_10 s_11 s_12 s_13 s_14 s_15 s_16 s_17 s_18 s_19 s_20 s_21 s_22 s_23 s_24 s_25 s_26 s_27 s_28 s_29 s_30 s_31 s_32 s_33 s_34 t4 t4_2 t4_3 t4_4 t4_5 t4_6 t4_7 t4_8 t4_9 t4_10 t4_11 t4_12 t4_13 t4_14 t4_15 t4_16 t4_17 t4_18 t4_19 t4_20 t4_21 t4_22 t4_23 t4_24 t4_25 t5 t5_2 t5_3 t5_4 a)=qku_ except o s s_2 s_3 s_4 s_5 s_6 s_7 s_8 s_9 s_10 s_11 s_12 s_13 s_14 s_15 s_16 s_17 s_18 s_19 s_20 s_21 s_22 s_23 s_24 s_25 s_26 s_27 s_28 s_29 s_30 s_31 s_32 s_33 s_34 t4 t4_2 t4_3 t4_4 t4_5 t4_6 t4_7 t4_8 t4_9 t4_10 t4_11 t4_12 t4_13 t4_14 t4_15 t4_16 t4_17 t4_18 t4_19 t4_20 t4_21 t4_22 t4_23 t4_24 t4_25 t5 t5_2 t5_3 t5_4 a:=by
 rw [q8_ (by decide)]
 rw [q18f_]
 rfl
theorem q1bf_ (x:As [.int .u8,.int .u8,.sl (.int .u16),.int .u16,.int .i64,.int .u8,.int .u32,.int .u32,.int .u32,.bool,.bool,.bool,.bool,.bool,.bool,.bool,.bool,.int .i64,.sl (.int .u16),.int .i64,.sl (.int .u16),.int .i64,.sl (.int .u16),.int .i64,.sl (.int .u16),.int .i64,.sl (.int .u16),.int .i64,.sl (.int .u16),.int .i64,.sl (.int .u16),.int .i64,.sl (.int .u16),.int .i64,.sl (.int .u8),.sl .bool]):evT Tryz.prog qhh_ 6 18446744073709551616 (Ev.get qhd_) 62 q2j_ x=qso_ x:=by
 have e1:(fun except o s s_2 s_3 s_4 s_5 s_6 s_7 s_8 s_9 s_10 s_11 s_12 s_13 s_14 s_15 s_16 s_17 s_18 s_19 s_20 s_21 s_22 s_23 s_24 s_25 s_26 s_27 s_28 s_29 s_30 s_31 s_32 s_33 s_34 t4 t4_2 t4_3 t4_4 t4_5 t4_6 t4_7 t4_8 t4_9 t4_10 t4_11 t4_12 t4_13 t4_14 t4_15 t4_16 t4_17 t4_18 t4_19 t4_20 t4_21 t4_22 t4_23 t4_24 t4_25 t5 t5_2 t5_3 t5_4 a=>(jfn Tryz.prog qhh_ 6 18446744073709551616 (Ev.get qhd_) 62 q2j_) 7 [] (qk9_ except o s s_2 s_3 s_4 s_5 s_6 s_7 s_8 s_9 s_10 s_11 s_12 s_13 s_14 s_15 s_16 s_17 s_18 s_19 s_20 s_21 s_22 s_23 s_24 s_25 s_26 s_27 s_28 s_29 s_30 s_31 s_32 s_33 s_34 t4 t4_2 t4_3 t4_4 t4_5 t4_6 t4_7 t4_8 t4_9 t4_10 t4_11 t4_12 t4_13 t4_14 t4_15 t4_16 t4_17 t4_18 t4_19 t4_20 t4_21 t4_22 t4_23 t4_24 t4_25 t5 t5_2 t5_3 t5_4 a))=qku_:=by funext except o s s_2 s_3 s_4 s_5 s_6 s_7 s_8 s_9 s_10 s_11 s_12 s_13 s_14 s_15 s_16 s_17 s_18 s_19 s_20 s_21 s_22 s_23 s_24 s_25 s_26 s_27 s_28 s_29 s_30 s_31 s_32 s_33 s_34 t4 t4_2 t4_3 t4_4 t4_5 t4_6 t4_7 t4_8 t4_9 t4_10 t4_11 t4_12 t4_13 t4_14 t4_15 t4_16 t4_17 t4_18 t4_19 t4_20 t4_21 t4_22 t4_23 t4_24 t4_25 t5 t5_2 t5_3 t5_4 a; exact q19k_ except o s s_2 s_3 s_4 s_5 s_6 s_7 s_8 s_9 s_10 s_11 s_12 s_13 s_14 s_15 s_16 s_17 s_18 s_19 s_20 s_21 s_22 s_23 s_24 s_25 s_26 s_27 s_28 s_29 s_30 s_31 s_32 s_33 s_34 t4 t4_2 t4_3 t4_4 t4_5 t4_6 t4_7 t4_8 t4_9 t4_10 t4_11 t4_12 t4_13 t4_14 t4_15 t4_16 t4_17 t4_18 t4_19 t4_20 t4_21 t4_22 t4_23 t4_24 t4_25 t5 t5_2 t5_3 t5_4 a
 rw [q5_,q19c_,e1]
 rfl
theorem q18u_:CtOk Tryz.prog (fun _=>True) 62 ⟨q2j_,qso_⟩:=q3_ (q0_ Ev.bx_ok (q0_ Ev.bx_ok (q0_ q1bb_ (q0_ qxr_ (q0_ q1hi_ (q0_ qz0_ (q0_ qkh_ (q0_ q16q_ (q0_ q1cd_ (q0_ q1h5_ (q0_ q1d7_ q4_))))))))))) q1bf_
@[reducible] def q9a_:Sh:=⟨[.d (.pr (.int .u8) (.pr (.int .u8) (.pr (.pr (.sl (.int .u16)) YTT0) (.sl .bool))))],[],[.pr (.int .u8) (.pr (.int .u8) (.pr (.pr (.sl (.int .u16)) YTT0) (.sl .bool)))],[.d (.pr (.int .u8) (.pr (.int .u8) (.pr (.pr (.sl (.int .u16)) YTT0) (.sl .bool))))],[],0,[.pr (.int .u8) (.pr (.int .u8) (.pr (.pr (.sl (.int .u16)) YTT0) (.sl .bool)))]⟩
def qm7_:Env:=(cts [(130,(⟨q83_,q59_⟩:Ct)),(131,(⟨q28_,qb_⟩:Ct))])
def qll_:List (Nat×Hint):=[(122,⟨[],[1,2,15]⟩)]
def qf0_ (s t2 t15:Int) (s_2 t2_2:List (YaA4q0)):St:={ fr:=[(1,.prw 0 s 35 0),(2,.prw 1 t2 35 0),(15,.d (.int .i64) t15)],nt:=33,up:=[],own:=[(0,.row (.pr (.int .u8) (.pr (.int .u8) (.pr (.pr (.sl (.int .u16)) YTT0) (.sl .bool)))) 38 s_2),(1,.row (.pr (.int .u8) (.pr (.int .u8) (.pr (.pr (.sl (.int .u16)) YTT0) (.sl .bool)))) 38 t2_2)],nx:=2,log:=[],ln:=0 }
def qf8_ (self1:Int->Int->Int->List (YaA4q0)->List (YaA4q0)->Option (As [.pr (.int .u8) (.pr (.int .u8) (.pr (.pr (.sl (.int .u16)) YTT0) (.sl .bool)))])) (s t2 t15:Int) (s_2 t2_2:List (YaA4q0)):Option (As [.pr (.int .u8) (.pr (.int .u8) (.pr (.pr (.sl (.int .u16)) YTT0) (.sl .bool)))]) :=
 if lt t15 8=true then need (ge t15 0) (need (lt t15 8) (Option.bind (at? s_2 s) fun y=>Option.bind (at? y.2.2.1.2.2.2.2.2.1.2.2 t15) fun z=>Option.bind (qb_ (z.2,())) fun y=>Option.bind (at? s_2 s) fun x=>Option.bind (at? x.2.2.1.2.2.2.2.2.1.2.2 t15) fun z=>self1 s t2 (add .i64 t15 1) (List.set s_2 (Int.toNat s) (x.1,x.2.1,(x.2.2.1.1,x.2.2.1.2.1,x.2.2.1.2.2.1,x.2.2.1.2.2.2.1,x.2.2.1.2.2.2.2.1,(x.2.2.1.2.2.2.2.2.1.1,x.2.2.1.2.2.2.2.2.1.2.1,List.set x.2.2.1.2.2.2.2.2.1.2.2 (Int.toNat t15) (z.1,y.1)),x.2.2.1.2.2.2.2.2.2),x.2.2.2)) t2_2)) else Option.bind (at? s_2 s) fun y=>Option.bind (at? t2_2 t2) fun x=>Option.bind (at? (List.set t2_2 (Int.toNat t2) y) t2) fun y_1=>Option.bind (at? (List.set t2_2 (Int.toNat t2) y) t2) fun y=>some (y,())
def qqx_ (j1:Int->Int->Int->List (YaA4q0)->List (YaA4q0)->Option (As [.pr (.int .u8) (.pr (.int .u8) (.pr (.pr (.sl (.int .u16)) YTT0) (.sl .bool)))])) (s:YaA4q0):Option (As [.pr (.int .u8) (.pr (.int .u8) (.pr (.pr (.sl (.int .u16)) YTT0) (.sl .bool)))]) :=
 Option.bind (q59_ (s.2.2.2,())) fun y=>Option.bind (qb_ (s.2.2.1.1,())) fun y_1=>j1 0 0 0 [(s.1,s.2.1,(y_1.1,s.2.2.1.2),y.1)] [zSl]
def qfl_ (s t2 t15:Int) (s_2 t2_2:List (YaA4q0)):Option (As [.pr (.int .u8) (.pr (.int .u8) (.pr (.pr (.sl (.int .u16)) YTT0) (.sl .bool)))]) :=
 loopF (fun (self:(Int)×(Int)×(Int)×(List (YaA4q0))×(List (YaA4q0))->Option (As [.pr (.int .u8) (.pr (.int .u8) (.pr (.pr (.sl (.int .u16)) YTT0) (.sl .bool)))])) (s:(Int)×(Int)×(Int)×(List (YaA4q0))×(List (YaA4q0)))=>qf8_ (fun s t2 t15 s_2 t2_2=>self (s,t2,t15,s_2,t2_2)) s.1 s.2.1 s.2.2.1 s.2.2.2.1 s.2.2.2.2) 18446744073709551616 (s,t2,t15,s_2,t2_2)
def qb7_ (x:As [.pr (.int .u8) (.pr (.int .u8) (.pr (.pr (.sl (.int .u16)) YTT0) (.sl .bool)))]):Option (As [.pr (.int .u8) (.pr (.int .u8) (.pr (.pr (.sl (.int .u16)) YTT0) (.sl .bool)))]):=qqx_ qfl_ x.1
theorem q1ez_ (J:Orc (As [.pr (.int .u8) (.pr (.int .u8) (.pr (.pr (.sl (.int .u16)) YTT0) (.sl .bool)))])) (w1:St->Option (As [.pr (.int .u8) (.pr (.int .u8) (.pr (.pr (.sl (.int .u16)) YTT0) (.sl .bool)))])) (s t2 t15:Int) (s_2 t2_2:List (YaA4q0)):pfn Tryz.prog qm7_ 6 18446744073709551616 (Ev.get qll_) 63 q9a_ J 122 [w1] (qf0_ s t2 t15 s_2 t2_2)=qf8_ (fun s t2 t15 s_2 t2_2=>w1 (qf0_ s t2 t15 s_2 t2_2)) s t2 t15 s_2 t2_2:=by kernel_rfl
theorem q1fk_ (J:Orc (As [.pr (.int .u8) (.pr (.int .u8) (.pr (.pr (.sl (.int .u16)) YTT0) (.sl .bool)))])) (x:As [.pr (.int .u8) (.pr (.int .u8) (.pr (.pr (.sl (.int .u16)) YTT0) (.sl .bool)))]):rfn Tryz.prog qm7_ 6 18446744073709551616 (Ev.get qll_) 63 q9a_ J x=qqx_ (fun s t2 t15 s_2 t2_2=>J 122 [] (qf0_ s t2 t15 s_2 t2_2)) x.1:=by kernel_rfl
theorem q1em_ (s t2 t15:Int) (s_2 t2_2:List (YaA4q0)):jfn Tryz.prog qm7_ 6 18446744073709551616 (Ev.get qll_) 63 q9a_ 122 [] (qf0_ s t2 t15 s_2 t2_2)=qfl_ s t2 t15 s_2 t2_2:=by
 rw [q8_ (by decide)]
 rw [qr_ (by kernel_rfl)]
 refine qi_ (σ:=(Int)×(Int)×(Int)×(List (YaA4q0))×(List (YaA4q0))) (mk:=fun s=>qf0_ s.1 s.2.1 s.2.2.1 s.2.2.2.1 s.2.2.2.2) (fun w1 s=>?_) 18446744073709551616 (s,t2,t15,s_2,t2_2)
 refine (q1ez_ _ w1 s.1 s.2.1 s.2.2.1 s.2.2.2.1 s.2.2.2.2).trans ?_
 rfl
theorem q1hf_ (x:As [.pr (.int .u8) (.pr (.int .u8) (.pr (.pr (.sl (.int .u16)) YTT0) (.sl .bool)))]):evT Tryz.prog qm7_ 6 18446744073709551616 (Ev.get qll_) 63 q9a_ x=qb7_ x:=by
 have e1:(fun s t2 t15 s_2 t2_2=>(jfn Tryz.prog qm7_ 6 18446744073709551616 (Ev.get qll_) 63 q9a_) 122 [] (qf0_ s t2 t15 s_2 t2_2))=qfl_:=by funext s t2 t15 s_2 t2_2; exact q1em_ s t2 t15 s_2 t2_2
 rw [q5_,q1fk_,e1]
 rfl
theorem qv2_:CtOk Tryz.prog (fun _=>True) 63 ⟨q9a_,qb7_⟩:=q3_ (q0_ qz1_ (q0_ q5o_ q4_)) q1hf_
@[reducible] def qmf_:Sh:=⟨[.d (.pr (.int .u8) (.pr (.int .u8) (.pr (.pr (.sl (.int .u16)) YTT0) (.sl .bool))))],[],[.pr (.int .u8) (.pr (.int .u8) (.pr (.pr (.sl (.int .u16)) YTT0) (.sl .bool)))],[.agg [.d (.int .u8),.d (.int .u8),.d (.sl (.int .u16)),.d (.int .u16),.d (.int .i64),.d (.int .u8),.d (.int .u32),.d (.int .u32),.d (.int .u32),.d (.bool),.d (.bool),.d (.bool),.d (.bool),.d (.bool),.d (.bool),.d (.bool),.d (.bool),.d (.int .i64),.d (.sl (.int .u16)),.d (.int .i64),.d (.sl (.int .u16)),.d (.int .i64),.d (.sl (.int .u16)),.d (.int .i64),.d (.sl (.int .u16)),.d (.int .i64),.d (.sl (.int .u16)),.d (.int .i64),.d (.sl (.int .u16)),.d (.int .i64),.d (.sl (.int .u16)),.d (.int .i64),.d (.sl (.int .u16)),.d (.int .i64),.row 0]],[(0,.row .bool 4)],1,[.int .u8,.int .u8,.sl (.int .u16),.int .u16,.int .i64,.int .u8,.int .u32,.int .u32,.int .u32,.bool,.bool,.bool,.bool,.bool,.bool,.bool,.bool,.int .i64,.sl (.int .u16),.int .i64,.sl (.int .u16),.int .i64,.sl (.int .u16),.int .i64,.sl (.int .u16),.int .i64,.sl (.int .u16),.int .i64,.sl (.int .u16),.int .i64,.sl (.int .u16),.int .i64,.sl (.int .u16),.int .i64,.sl .bool]⟩
def q108_:Env:=(cts [(1000038,Ev.bxCt),(1000194,Ev.bxCt),(130,(⟨q4l_,q3c_⟩:Ct)),(131,(⟨q28_,qb_⟩:Ct))])
def q106_:List (Nat×Hint):=[]
def qko_ (s:YaA4q0):Option (As [.int .u8,.int .u8,.sl (.int .u16),.int .u16,.int .i64,.int .u8,.int .u32,.int .u32,.int .u32,.bool,.bool,.bool,.bool,.bool,.bool,.bool,.bool,.int .i64,.sl (.int .u16),.int .i64,.sl (.int .u16),.int .i64,.sl (.int .u16),.int .i64,.sl (.int .u16),.int .i64,.sl (.int .u16),.int .i64,.sl (.int .u16),.int .i64,.sl (.int .u16),.int .i64,.sl (.int .u16),.int .i64,.sl .bool]) :=
 Option.bind (q3c_ (s.2.2.2,())) fun y=>Option.bind (qb_ (s.2.2.1.1,())) fun y_1=>Option.bind (qb_ ((List.getD s.2.2.1.2.2.2.2.2.1.2.2 0 (0,[])).2,())) fun y_2=>Option.bind (qb_ ((List.getD s.2.2.1.2.2.2.2.2.1.2.2 1 (0,[])).2,())) fun y_3=>Option.bind (qb_ ((List.getD s.2.2.1.2.2.2.2.2.1.2.2 2 (0,[])).2,())) fun y_4=>Option.bind (qb_ ((List.getD s.2.2.1.2.2.2.2.2.1.2.2 3 (0,[])).2,())) fun y_5=>Option.bind (qb_ ((List.getD s.2.2.1.2.2.2.2.2.1.2.2 4 (0,[])).2,())) fun y_6=>Option.bind (qb_ ((List.getD s.2.2.1.2.2.2.2.2.1.2.2 5 (0,[])).2,())) fun y_7=>Option.bind (qb_ ((List.getD s.2.2.1.2.2.2.2.2.1.2.2 6 (0,[])).2,())) fun y_8=>Option.bind (qb_ ((List.getD s.2.2.1.2.2.2.2.2.1.2.2 7 (0,[])).2,())) fun y_9=>some (s.1,s.2.1,y_1.1,s.2.2.1.2.1.1,s.2.2.1.2.1.2,s.2.2.1.2.2.1,s.2.2.1.2.2.2.1,s.2.2.1.2.2.2.2.1,s.2.2.1.2.2.2.2.2.1.1,List.getD s.2.2.1.2.2.2.2.2.1.2.1 0 false,List.getD s.2.2.1.2.2.2.2.2.1.2.1 1 false,List.getD s.2.2.1.2.2.2.2.2.1.2.1 2 false,List.getD s.2.2.1.2.2.2.2.2.1.2.1 3 false,List.getD s.2.2.1.2.2.2.2.2.1.2.1 4 false,List.getD s.2.2.1.2.2.2.2.2.1.2.1 5 false,List.getD s.2.2.1.2.2.2.2.2.1.2.1 6 false,List.getD s.2.2.1.2.2.2.2.2.1.2.1 7 false,(List.getD s.2.2.1.2.2.2.2.2.1.2.2 0 (0,[])).1,y_2.1,(List.getD s.2.2.1.2.2.2.2.2.1.2.2 1 (0,[])).1,y_3.1,(List.getD s.2.2.1.2.2.2.2.2.1.2.2 2 (0,[])).1,y_4.1,(List.getD s.2.2.1.2.2.2.2.2.1.2.2 3 (0,[])).1,y_5.1,(List.getD s.2.2.1.2.2.2.2.2.1.2.2 4 (0,[])).1,y_6.1,(List.getD s.2.2.1.2.2.2.2.2.1.2.2 5 (0,[])).1,y_7.1,(List.getD s.2.2.1.2.2.2.2.2.1.2.2 6 (0,[])).1,y_8.1,(List.getD s.2.2.1.2.2.2.2.2.1.2.2 7 (0,[])).1,y_9.1,s.2.2.1.2.2.2.2.2.2,y.1,())
def qm9_ (x:As [.pr (.int .u8) (.pr (.int .u8) (.pr (.pr (.sl (.int .u16)) YTT0) (.sl .bool)))]):Option (As [.int .u8,.int .u8,.sl (.int .u16),.int .u16,.int .i64,.int .u8,.int .u32,.int .u32,.int .u32,.bool,.bool,.bool,.bool,.bool,.bool,.bool,.bool,.int .i64,.sl (.int .u16),.int .i64,.sl (.int .u16),.int .i64,.sl (.int .u16),.int .i64,.sl (.int .u16),.int .i64,.sl (.int .u16),.int .i64,.sl (.int .u16),.int .i64,.sl (.int .u16),.int .i64,.sl (.int .u16),.int .i64,.sl .bool]):=qko_ x.1
theorem q19h_ (J:Orc (As [.int .u8,.int .u8,.sl (.int .u16),.int .u16,.int .i64,.int .u8,.int .u32,.int .u32,.int .u32,.bool,.bool,.bool,.bool,.bool,.bool,.bool,.bool,.int .i64,.sl (.int .u16),.int .i64,.sl (.int .u16),.int .i64,.sl (.int .u16),.int .i64,.sl (.int .u16),.int .i64,.sl (.int .u16),.int .i64,.sl (.int .u16),.int .i64,.sl (.int .u16),.int .i64,.sl (.int .u16),.int .i64,.sl .bool])) (x:As [.pr (.int .u8) (.pr (.int .u8) (.pr (.pr (.sl (.int .u16)) YTT0) (.sl .bool)))]):rfn Tryz.prog q108_ 6 18446744073709551616 (Ev.get q106_) 63 qmf_ J x=qko_ x.1:=by kernel_rfl
theorem q1c1_ (x:As [.pr (.int .u8) (.pr (.int .u8) (.pr (.pr (.sl (.int .u16)) YTT0) (.sl .bool)))]):evT Tryz.prog q108_ 6 18446744073709551616 (Ev.get q106_) 63 qmf_ x=qm9_ x:=by
 rw [q5_,q19h_]
 rfl
theorem q18q_:CtOk Tryz.prog (fun _=>True) 63 ⟨qmf_,qm9_⟩:=q3_ (q0_ Ev.bx_ok (q0_ Ev.bx_ok (q0_ ql4_ (q0_ q5o_ q4_)))) q1c1_
@[reducible] def q48_:Sh:=⟨[.d (.sl .bool),.d (.sl .bool)],[],[.sl .bool,.sl .bool],[.d (.bool)],[],0,[.bool]⟩
def q7z_:Env:=(cts [])
def q80_:List (Nat×Hint):=[(58,⟨[],[0,1,12,13]⟩)]
def q50_ (s1 s2:List Bool) (t12 t13:Int):St:={ fr:=[(0,.d (.sl .bool) s1),(1,.d (.sl .bool) s2),(12,.d (.int .i64) t12),(13,.d (.int .i64) t13)],nt:=26,up:=[],own:=[],nx:=0,log:=[],ln:=0 }
def q4w_ (self1:List Bool->List Bool->Int->Int->Option (As [.bool])) (s1 s2:List Bool) (t12 t13:Int):Option (As [.bool]) :=
 if lt t13 t12=true then Option.bind (at? s1 t13) fun y=>Option.bind (at? s2 t13) fun y_1=>if Sx.neb y y_1=true then some (false,()) else self1 s1 s2 t12 (add .i64 t13 1) else some (true,())
def qa2_ (j1:List Bool->List Bool->Int->Int->Option (As [.bool])) (s1 s2:List Bool):Option (As [.bool]) :=
 if nei (Int.ofNat (List.length s1)) (Int.ofNat (List.length s2))=true then some (false,()) else j1 s1 s2 (Int.ofNat (List.length s1)) 0
def q7a_ (s1 s2:List Bool) (t12 t13:Int):Option (As [.bool]) :=
 loopF (fun (self:(List Bool)×(List Bool)×(Int)×(Int)->Option (As [.bool])) (s:(List Bool)×(List Bool)×(Int)×(Int))=>q4w_ (fun s1 s2 t12 t13=>self (s1,s2,t12,t13)) s.1 s.2.1 s.2.2.1 s.2.2.2) 18446744073709551616 (s1,s2,t12,t13)
def q72_ (x:As [.sl .bool,.sl .bool]):Option (As [.bool]):=qa2_ q7a_ x.1 x.2.1
theorem qyz_ (J:Orc (As [.bool])) (w1:St->Option (As [.bool])) (s1 s2:List Bool) (t12 t13:Int):pfn Tryz.prog q7z_ 6 18446744073709551616 (Ev.get q80_) 90 q48_ J 58 [w1] (q50_ s1 s2 t12 t13)=q4w_ (fun s1 s2 t12 t13=>w1 (q50_ s1 s2 t12 t13)) s1 s2 t12 t13:=by kernel_rfl
theorem qy9_ (J:Orc (As [.bool])) (x:As [.sl .bool,.sl .bool]):rfn Tryz.prog q7z_ 6 18446744073709551616 (Ev.get q80_) 90 q48_ J x=qa2_ (fun s1 s2 t12 t13=>J 58 [] (q50_ s1 s2 t12 t13)) x.1 x.2.1:=by kernel_rfl
theorem qz2_ (s1 s2:List Bool) (t12 t13:Int):jfn Tryz.prog q7z_ 6 18446744073709551616 (Ev.get q80_) 90 q48_ 58 [] (q50_ s1 s2 t12 t13)=q7a_ s1 s2 t12 t13:=by
 rw [q8_ (by decide)]
 rw [qr_ (by kernel_rfl)]
 refine qi_ (σ:=(List Bool)×(List Bool)×(Int)×(Int)) (mk:=fun s=>q50_ s.1 s.2.1 s.2.2.1 s.2.2.2) (fun w1 s=>?_) 18446744073709551616 (s1,s2,t12,t13)
 refine (qyz_ _ w1 s.1 s.2.1 s.2.2.1 s.2.2.2).trans ?_
 rfl
theorem qzf_ (x:As [.sl .bool,.sl .bool]):evT Tryz.prog q7z_ 6 18446744073709551616 (Ev.get q80_) 90 q48_ x=q72_ x:=by
 have e1:(fun s1 s2 t12 t13=>(jfn Tryz.prog q7z_ 6 18446744073709551616 (Ev.get q80_) 90 q48_) 58 [] (q50_ s1 s2 t12 t13))=q7a_:=by funext s1 s2 t12 t13; exact qz2_ s1 s2 t12 t13
 rw [q5_,qy9_,e1]
 rfl
theorem qz7_:CtOk Tryz.prog (fun _=>True) 90 ⟨q48_,q72_⟩:=q3_ q4_ qzf_
@[reducible] def q89_:Sh:=⟨[.d (.pr (.int .u8) YTT3),.d (.pr (.int .u8) YTT3)],[],[.pr (.int .u8) YTT3,.pr (.int .u8) YTT3],[.d (.bool)],[],0,[.bool]⟩
def q133_:Env:=(cts [(80,(⟨q1n_,q1o_⟩:Ct)),(90,(⟨q48_,q72_⟩:Ct))])
def q11j_:List (Nat×Hint):=[]
def qnc_ (a b:Int×Int×List Bool×List Int×Int×Int):Option (As [.bool]) :=
 if eqi a.1 b.1=true then if eqi a.2.1 b.2.1=true then if eqi a.2.2.2.2.1 b.2.2.2.2.1=true then if eqi a.2.2.2.2.2 b.2.2.2.2.2=true then Option.bind (q72_ (a.2.2.1,b.2.2.1,())) fun y=>if y.1=true then Option.bind (q1o_ (a.2.2.2.1,b.2.2.2.1,())) fun y=>some (y.1,()) else some (false,()) else some (false,()) else some (false,()) else some (false,()) else some (false,())
def q3m_ (x:As [.pr (.int .u8) YTT3,.pr (.int .u8) YTT3]):Option (As [.bool]):=qnc_ x.1 x.2.1
theorem q1ac_ (J:Orc (As [.bool])) (x:As [.pr (.int .u8) YTT3,.pr (.int .u8) YTT3]):rfn Tryz.prog q133_ 6 18446744073709551616 (Ev.get q11j_) 69 q89_ J x=qnc_ x.1 x.2.1:=by kernel_rfl
theorem q1e5_ (x:As [.pr (.int .u8) YTT3,.pr (.int .u8) YTT3]):evT Tryz.prog q133_ 6 18446744073709551616 (Ev.get q11j_) 69 q89_ x=q3m_ x:=by
 rw [q5_,q1ac_]
 rfl
theorem qcq_:CtOk Tryz.prog (fun _=>True) 69 ⟨q89_,q3m_⟩:=q3_ (q0_ q8o_ (q0_ qz7_ q4_)) q1e5_
@[reducible] def q5p_:Sh:=⟨[.d (.un),.d (.pr (.int .u8) YTT3)],[],[.un,.pr (.int .u8) YTT3],[.d (.bool)],[],0,[.bool]⟩
def ql5_:Env:=(cts [(69,(⟨q89_,q3m_⟩:Ct)),(120,(⟨qag_,qe_⟩:Ct))])
def ql7_:List (Nat×Hint):=[]
def q8c_ (v:Unit) (r:Int×Int×List Bool×List Int×Int×Int):Option (As [.bool]) :=
 if lt r.1 128=true then if ge r.2.1 1=true then if le r.2.1 4=true then Option.bind (qe_ (r.1,r.2.1,())) fun y=>Option.bind (q3m_ (r,y.1,())) fun y=>some (y.1,()) else some (false,()) else some (false,()) else some (false,())
def q2y_ (x:As [.un,.pr (.int .u8) YTT3]):Option (As [.bool]):=q8c_ x.1 x.2.1
theorem qvo_ (J:Orc (As [.bool])) (x:As [.un,.pr (.int .u8) YTT3]):rfn Tryz.prog ql5_ 6 18446744073709551616 (Ev.get ql7_) 254 q5p_ J x=q8c_ x.1 x.2.1:=by kernel_rfl
theorem qwc_ (x:As [.un,.pr (.int .u8) YTT3]):evT Tryz.prog ql5_ 6 18446744073709551616 (Ev.get ql7_) 254 q5p_ x=q2y_ x:=by
 rw [q5_,qvo_]
 rfl
theorem qiv_:CtOk Tryz.prog (fun _=>True) 254 ⟨q5p_,q2y_⟩:=q3_ (q0_ qcq_ (q0_ qkh_ q4_)) qwc_
@[reducible] def q5q_:Sh:=⟨[.d (.un),.d (.pr (.int .u8) YTT3)],[],[.un,.pr (.int .u8) YTT3],[.d (.sl (.int .u8))],[],0,[.sl (.int .u8)]⟩
def ql0_:Env:=(cts [])
def ql2_:List (Nat×Hint):=[]
def qjn_ (v:Unit) (r:Int×Int×List Bool×List Int×Int×Int):Option (As [.sl (.int .u8)]) :=
 some ([add .u8 r.1 128,r.2.1],())
def q3p_ (x:As [.un,.pr (.int .u8) YTT3]):Option (As [.sl (.int .u8)]):=qjn_ x.1 x.2.1
theorem qvt_ (J:Orc (As [.sl (.int .u8)])) (x:As [.un,.pr (.int .u8) YTT3]):rfn Tryz.prog ql0_ 6 18446744073709551616 (Ev.get ql2_) 255 q5q_ J x=qjn_ x.1 x.2.1:=by kernel_rfl
theorem qw7_ (x:As [.un,.pr (.int .u8) YTT3]):evT Tryz.prog ql0_ 6 18446744073709551616 (Ev.get ql2_) 255 q5q_ x=q3p_ x:=by
 rw [q5_,qvt_]
 rfl
theorem qjj_:CtOk Tryz.prog (fun _=>True) 255 ⟨q5q_,q3p_⟩:=q3_ q4_ qw7_
@[reducible] def q6w_:Sh:=⟨[.d (.un),.d (.pr (.int .u8) YTT3)],[],[.un,.pr (.int .u8) YTT3],[.d (.bool)],[],0,[.bool]⟩
def qoq_:Env:=(cts [(69,(⟨q89_,q3m_⟩:Ct))])
def qok_:List (Nat×Hint):=[]
def q9e_ (v:Unit) (r:Int×Int×List Bool×List Int×Int×Int):Option (As [.bool]) :=
 if ge (Int.ofNat (List.length r.2.2.1)) 8=true then if le (Int.ofNat (List.length r.2.2.1)) 2000=true then if eqi (rem (Int.ofNat (List.length r.2.2.1)) 8) 0=true then Option.bind (q3m_ (r,(r.1,0,r.2.2.1,[],0,0),())) fun y=>some (y.1,()) else some (false,()) else some (false,()) else some (false,())
def q1u_ (x:As [.un,.pr (.int .u8) YTT3]):Option (As [.bool]):=q9e_ x.1 x.2.1
theorem qxf_ (J:Orc (As [.bool])) (x:As [.un,.pr (.int .u8) YTT3]):rfn Tryz.prog qoq_ 6 18446744073709551616 (Ev.get qok_) 267 q6w_ J x=q9e_ x.1 x.2.1:=by kernel_rfl
theorem qyk_ (x:As [.un,.pr (.int .u8) YTT3]):evT Tryz.prog qoq_ 6 18446744073709551616 (Ev.get qok_) 267 q6w_ x=q1u_ x:=by
 rw [q5_,qxf_]
 rfl
theorem qlq_:CtOk Tryz.prog (fun _=>True) 267 ⟨q6w_,q1u_⟩:=q3_ (q0_ qcq_ q4_) qyk_
@[reducible] def q6z_:Sh:=⟨[.d (.un),.d (.pr (.int .u8) YTT3)],[],[.un,.pr (.int .u8) YTT3],[.d (.sl (.int .u8))],[],0,[.sl (.int .u8)]⟩
def qos_:Env:=(cts [(61,(⟨q7w_,qjb_⟩:Ct))])
def qop_:List (Nat×Hint):=[]
def q9b_ (v:Unit) (r:Int×Int×List Bool×List Int×Int×Int):Option (As [.sl (.int .u8)]) :=
 Option.bind (qjb_ (r.2.2.1,())) fun y=>need (small (Nat.succ (Nat.succ 0) + List.length y.1)) (some (r.1::cvt .u8 (Int.ofNat (List.length y.1))::y.1,()))
def q2x_ (x:As [.un,.pr (.int .u8) YTT3]):Option (As [.sl (.int .u8)]):=q9b_ x.1 x.2.1
theorem qx4_ (J:Orc (As [.sl (.int .u8)])) (x:As [.un,.pr (.int .u8) YTT3]):rfn Tryz.prog qos_ 6 18446744073709551616 (Ev.get qop_) 268 q6z_ J x=q9b_ x.1 x.2.1:=by kernel_rfl
theorem qxt_ (x:As [.un,.pr (.int .u8) YTT3]):evT Tryz.prog qos_ 6 18446744073709551616 (Ev.get qop_) 268 q6z_ x=q2x_ x:=by
 rw [q5_,qx4_]
 rfl
theorem qla_:CtOk Tryz.prog (fun _=>True) 268 ⟨q6z_,q2x_⟩:=q3_ (q0_ q13u_ q4_) qxt_
@[reducible] def q66_:Sh:=⟨[.d (.un),.d (.pr (.int .u8) YTT3)],[],[.un,.pr (.int .u8) YTT3],[.d (.bool)],[],0,[.bool]⟩
def qm1_:Env:=(cts [(69,(⟨q89_,q3m_⟩:Ct))])
def qlu_:List (Nat×Hint):=[]
def q8v_ (v:Unit) (r:Int×Int×List Bool×List Int×Int×Int):Option (As [.bool]) :=
 if ge (Int.ofNat (List.length r.2.2.2.1)) 1=true then if le (Int.ofNat (List.length r.2.2.2.1)) 125=true then Option.bind (q3m_ (r,(r.1,0,[],r.2.2.2.1,0,0),())) fun y=>some (y.1,()) else some (false,()) else some (false,())
def q15_ (x:As [.un,.pr (.int .u8) YTT3]):Option (As [.bool]):=q8v_ x.1 x.2.1
theorem qwd_ (J:Orc (As [.bool])) (x:As [.un,.pr (.int .u8) YTT3]):rfn Tryz.prog qm1_ 6 18446744073709551616 (Ev.get qlu_) 270 q66_ J x=q8v_ x.1 x.2.1:=by kernel_rfl
theorem qxc_ (x:As [.un,.pr (.int .u8) YTT3]):evT Tryz.prog qm1_ 6 18446744073709551616 (Ev.get qlu_) 270 q66_ x=q15_ x:=by
 rw [q5_,qwd_]
 rfl
theorem ql1_:CtOk Tryz.prog (fun _=>True) 270 ⟨q66_,q15_⟩:=q3_ (q0_ qcq_ q4_) qxc_
@[reducible] def q3r_:Sh:=⟨[.row 0,.d (.sl (.int .u16))],[.row (.int .u8) 5],[.sl (.int .u16),.sl (.int .u8)],[.row 1],[(1,.row (.int .u8) 5)],1,[.sl (.int .u8)]⟩
def qd1_:Env:=(cts [])
def qds_:List (Nat×Hint):=[(26,⟨[.unl 0],[0,7,8,9]⟩)]
def q94_ (t7:List Int) (t8 t9:Int) (out:List Int):St:={ fr:=[(0,.row 1),(7,.d (.sl (.int .u16)) t7),(8,.d (.int .i64) t8),(9,.d (.int .i64) t9)],nt:=23,up:=[],own:=[(1,.row (.int .u8) 5 out)],nx:=2,log:=[],ln:=1 }
def q90_ (self1:List Int->Int->Int->List Int->Option (As [.sl (.int .u8)])) (t7:List Int) (t8 t9:Int) (out:List Int):Option (As [.sl (.int .u8)]) :=
 if lt t9 t8=true then Option.bind (at? t7 t9) fun y=>need (small (List.length out + Nat.succ (Nat.succ 0))) (self1 t7 t8 (add .i64 t9 1) (out++[cvt .u8 (Sx.shr .u16 y 8),cvt .u8 y])) else some (out,())
def qgh_ (j1:List Int->Int->Int->List Int->Option (As [.sl (.int .u8)])) (out l:List Int):Option (As [.sl (.int .u8)]) :=
 j1 out (Int.ofNat (List.length out)) 0 l
def qbw_ (t7:List Int) (t8 t9:Int) (out:List Int):Option (As [.sl (.int .u8)]) :=
 loopF (fun (self:(List Int)×(Int)×(Int)×(List Int)->Option (As [.sl (.int .u8)])) (s:(List Int)×(Int)×(Int)×(List Int))=>q90_ (fun t7 t8 t9 out=>self (t7,t8,t9,out)) s.1 s.2.1 s.2.2.1 s.2.2.2) 18446744073709551616 (t7,t8,t9,out)
def q3n_ (x:As [.sl (.int .u16),.sl (.int .u8)]):Option (As [.sl (.int .u8)]):=qgh_ qbw_ x.1 x.2.1
theorem q15j_ (J:Orc (As [.sl (.int .u8)])) (w1:St->Option (As [.sl (.int .u8)])) (t7:List Int) (t8 t9:Int) (out:List Int):pfn Tryz.prog qd1_ 6 18446744073709551616 (Ev.get qds_) 273 q3r_ J 26 [w1] (q94_ t7 t8 t9 out)=q90_ (fun t7 t8 t9 out=>w1 (q94_ t7 t8 t9 out)) t7 t8 t9 out:=by kernel_rfl
theorem q15a_ (J:Orc (As [.sl (.int .u8)])) (x:As [.sl (.int .u16),.sl (.int .u8)]):rfn Tryz.prog qd1_ 6 18446744073709551616 (Ev.get qds_) 273 q3r_ J x=qgh_ (fun t7 t8 t9 out=>J 26 [] (q94_ t7 t8 t9 out)) x.1 x.2.1:=by kernel_rfl
theorem q15c_ (t7:List Int) (t8 t9:Int) (out:List Int):jfn Tryz.prog qd1_ 6 18446744073709551616 (Ev.get qds_) 273 q3r_ 26 [] (q94_ t7 t8 t9 out)=qbw_ t7 t8 t9 out:=by
 rw [q8_ (by decide)]
 rw [qr_ (by kernel_rfl)]
 refine qi_ (σ:=(List Int)×(Int)×(Int)×(List Int)) (mk:=fun s=>q94_ s.1 s.2.1 s.2.2.1 s.2.2.2) (fun w1 s=>?_) 18446744073709551616 (t7,t8,t9,out)
 refine (q15j_ _ w1 s.1 s.2.1 s.2.2.1 s.2.2.2).trans ?_
 rfl
theorem q16s_ (x:As [.sl (.int .u16),.sl (.int .u8)]):evT Tryz.prog qd1_ 6 18446744073709551616 (Ev.get qds_) 273 q3r_ x=q3n_ x:=by
 have e1:(fun t7 t8 t9 out=>(jfn Tryz.prog qd1_ 6 18446744073709551616 (Ev.get qds_) 273 q3r_) 26 [] (q94_ t7 t8 t9 out))=qbw_:=by funext t7 t8 t9 out; exact q15c_ t7 t8 t9 out
 rw [q5_,q15a_,e1]
 rfl
theorem qh4_:CtOk Tryz.prog (fun _=>True) 273 ⟨q3r_,q3n_⟩:=q3_ q4_ q16s_
@[reducible] def q64_:Sh:=⟨[.d (.un),.d (.pr (.int .u8) YTT3)],[],[.un,.pr (.int .u8) YTT3],[.d (.sl (.int .u8))],[],0,[.sl (.int .u8)]⟩
def qlz_:Env:=(cts [(273,(⟨q3r_,q3n_⟩:Ct))])
def qli_:List (Nat×Hint):=[]
def q8t_ (v:Unit) (r:Int×Int×List Bool×List Int×Int×Int):Option (As [.sl (.int .u8)]) :=
 Option.bind (q3n_ (r.2.2.2.1,[r.1,cvt .u8 (mul .i64 2 (Int.ofNat (List.length r.2.2.2.1)))],())) fun y=>some (y.1,())
def q1p_ (x:As [.un,.pr (.int .u8) YTT3]):Option (As [.sl (.int .u8)]):=q8t_ x.1 x.2.1
theorem qw9_ (J:Orc (As [.sl (.int .u8)])) (x:As [.un,.pr (.int .u8) YTT3]):rfn Tryz.prog qlz_ 6 18446744073709551616 (Ev.get qli_) 271 q64_ J x=q8t_ x.1 x.2.1:=by kernel_rfl
theorem qx3_ (x:As [.un,.pr (.int .u8) YTT3]):evT Tryz.prog qlz_ 6 18446744073709551616 (Ev.get qli_) 271 q64_ x=q1p_ x:=by
 rw [q5_,qw9_]
 rfl
theorem ql6_:CtOk Tryz.prog (fun _=>True) 271 ⟨q64_,q1p_⟩:=q3_ (q0_ qh4_ q4_) qx3_
@[reducible] def q7u_:Sh:=⟨[.d (.un),.d (.pr (.int .u8) YTT3)],[],[.un,.pr (.int .u8) YTT3],[.d (.bool)],[],0,[.bool]⟩
def qpu_:Env:=(cts [(69,(⟨q89_,q3m_⟩:Ct))])
def qqp_:List (Nat×Hint):=[]
def qa9_ (v:Unit) (r:Int×Int×List Bool×List Int×Int×Int):Option (As [.bool]) :=
 if eqi (Int.ofNat (List.length r.2.2.1)) 1=true then Option.bind (q3m_ (r,(r.1,0,r.2.2.1,[],r.2.2.2.2.1,0),())) fun y=>some (y.1,()) else some (false,())
def q42_ (x:As [.un,.pr (.int .u8) YTT3]):Option (As [.bool]):=qa9_ x.1 x.2.1
theorem qz3_ (J:Orc (As [.bool])) (x:As [.un,.pr (.int .u8) YTT3]):rfn Tryz.prog qpu_ 6 18446744073709551616 (Ev.get qqp_) 275 q7u_ J x=qa9_ x.1 x.2.1:=by kernel_rfl
theorem qzg_ (x:As [.un,.pr (.int .u8) YTT3]):evT Tryz.prog qpu_ 6 18446744073709551616 (Ev.get qqp_) 275 q7u_ x=q42_ x:=by
 rw [q5_,qz3_]
 rfl
theorem qoi_:CtOk Tryz.prog (fun _=>True) 275 ⟨q7u_,q42_⟩:=q3_ (q0_ qcq_ q4_) qzg_
@[reducible] def q3b_:Sh:=⟨[.d (.un),.d (.pr (.int .u8) YTT3)],[],[.un,.pr (.int .u8) YTT3],[.d (.sl (.int .u8))],[],0,[.sl (.int .u8)]⟩
def q7s_:Env:=(cts [(273,(⟨q3r_,q3n_⟩:Ct))])
def q7y_:List (Nat×Hint):=[(7,⟨[],[3,5]⟩)]
def qab_ (x r r_2:Int) (r_3:List Bool) (r_4:List Int) (r_5 r_6:Int):St:={ fr:=[(3,.pb 0 0),(5,.d (.int .u16) x)],nt:=18,up:=[],own:=[(0,.box 46 [.d (.int .u8) r,.d (.int .u8) r_2,.d (.sl .bool) r_3,.d (.sl (.int .u16)) r_4,.d (.int .u16) r_5,.d (.int .u16) r_6])],nx:=1,log:=[],ln:=0 }
def qeu_ (x r r_2:Int) (r_3:List Bool) (r_4:List Int) (r_5 r_6:Int):Option (As [.sl (.int .u8)]) :=
 Option.bind (q3n_ ([r_5,x],[r],())) fun y=>some (y.1,())
def qa7_ (j1:Int->Int->Int->List Bool->List Int->Int->Int->Option (As [.sl (.int .u8)])) (v:Unit) (r:Int×Int×List Bool×List Int×Int×Int):Option (As [.sl (.int .u8)]) :=
 Option.bind (at? r.2.2.1 0) fun y=>if y=true then j1 65280 r.1 r.2.1 r.2.2.1 r.2.2.2.1 r.2.2.2.2.1 r.2.2.2.2.2 else j1 0 r.1 r.2.1 r.2.2.1 r.2.2.2.1 r.2.2.2.2.1 r.2.2.2.2.2
def q51_ (x r r_2:Int) (r_3:List Bool) (r_4:List Int) (r_5 r_6:Int):Option (As [.sl (.int .u8)]):=qeu_ x r r_2 r_3 r_4 r_5 r_6
def q5a_ (x:As [.un,.pr (.int .u8) YTT3]):Option (As [.sl (.int .u8)]):=qa7_ q51_ x.1 x.2.1
theorem qxo_ (J:Orc (As [.sl (.int .u8)])) (x r r_2:Int) (r_3:List Bool) (r_4:List Int) (r_5 r_6:Int):pfn Tryz.prog q7s_ 6 18446744073709551616 (Ev.get q7y_) 276 q3b_ J 7 [] (qab_ x r r_2 r_3 r_4 r_5 r_6)=qeu_ x r r_2 r_3 r_4 r_5 r_6:=by kernel_rfl
theorem qxm_ (J:Orc (As [.sl (.int .u8)])) (x:As [.un,.pr (.int .u8) YTT3]):rfn Tryz.prog q7s_ 6 18446744073709551616 (Ev.get q7y_) 276 q3b_ J x=qa7_ (fun x r r_2 r_3 r_4 r_5 r_6=>J 7 [] (qab_ x r r_2 r_3 r_4 r_5 r_6)) x.1 x.2.1:=by kernel_rfl
theorem qyi_ (x r r_2:Int) (r_3:List Bool) (r_4:List Int) (r_5 r_6:Int):jfn Tryz.prog q7s_ 6 18446744073709551616 (Ev.get q7y_) 276 q3b_ 7 [] (qab_ x r r_2 r_3 r_4 r_5 r_6)=q51_ x r r_2 r_3 r_4 r_5 r_6:=by
 rw [q8_ (by decide)]
 rw [qxo_]
 rfl
theorem qza_ (x:As [.un,.pr (.int .u8) YTT3]):evT Tryz.prog q7s_ 6 18446744073709551616 (Ev.get q7y_) 276 q3b_ x=q5a_ x:=by
 have e1:(fun x r r_2 r_3 r_4 r_5 r_6=>(jfn Tryz.prog q7s_ 6 18446744073709551616 (Ev.get q7y_) 276 q3b_) 7 [] (qab_ x r r_2 r_3 r_4 r_5 r_6))=q51_:=by funext x r r_2 r_3 r_4 r_5 r_6; exact qyi_ x r r_2 r_3 r_4 r_5 r_6
 rw [q5_,qxm_,e1]
 rfl
theorem qot_:CtOk Tryz.prog (fun _=>True) 276 ⟨q3b_,q5a_⟩:=q3_ (q0_ qh4_ q4_) qza_
@[reducible] def q7b_:Sh:=⟨[.d (.un),.d (.pr (.int .u8) YTT3)],[],[.un,.pr (.int .u8) YTT3],[.d (.bool)],[],0,[.bool]⟩
def qoe_:Env:=(cts [(69,(⟨q89_,q3m_⟩:Ct))])
def qor_:List (Nat×Hint):=[]
def q97_ (v:Unit) (r:Int×Int×List Bool×List Int×Int×Int):Option (As [.bool]) :=
 if eqi (Int.ofNat (List.length r.2.2.2.1)) 1=true then Option.bind (q3m_ (r,(r.1,0,[],r.2.2.2.1,r.2.2.2.2.1,0),())) fun y=>some (y.1,()) else some (false,())
def q3k_ (x:As [.un,.pr (.int .u8) YTT3]):Option (As [.bool]):=q97_ x.1 x.2.1
theorem qx2_ (J:Orc (As [.bool])) (x:As [.un,.pr (.int .u8) YTT3]):rfn Tryz.prog qoe_ 6 18446744073709551616 (Ev.get qor_) 278 q7b_ J x=q97_ x.1 x.2.1:=by kernel_rfl
theorem qyj_ (x:As [.un,.pr (.int .u8) YTT3]):evT Tryz.prog qoe_ 6 18446744073709551616 (Ev.get qor_) 278 q7b_ x=q3k_ x:=by
 rw [q5_,qx2_]
 rfl
theorem qln_:CtOk Tryz.prog (fun _=>True) 278 ⟨q7b_,q3k_⟩:=q3_ (q0_ qcq_ q4_) qyj_
@[reducible] def q4x_:Sh:=⟨[.d (.un),.d (.pr (.int .u8) YTT3)],[],[.un,.pr (.int .u8) YTT3],[.d (.sl (.int .u8))],[],0,[.sl (.int .u8)]⟩
def qom_:Env:=(cts [(273,(⟨q3r_,q3n_⟩:Ct))])
def qoo_:List (Nat×Hint):=[]
def q99_ (v:Unit) (r:Int×Int×List Bool×List Int×Int×Int):Option (As [.sl (.int .u8)]) :=
 Option.bind (at? r.2.2.2.1 0) fun y=>amb (eqAs q4x_.rs) [Option.bind (q3n_ ([r.2.2.2.2.1,y],[r.1],())) fun y=>some (y.1,()),Option.bind (q3n_ ([r.2.2.2.2.1,y],[r.1],())) fun y=>some (y.1,())]
def q4r_ (x:As [.un,.pr (.int .u8) YTT3]):Option (As [.sl (.int .u8)]):=q99_ x.1 x.2.1
theorem qx6_ (J:Orc (As [.sl (.int .u8)])) (x:As [.un,.pr (.int .u8) YTT3]):rfn Tryz.prog qom_ 6 18446744073709551616 (Ev.get qoo_) 279 q4x_ J x=q99_ x.1 x.2.1:=by kernel_rfl
theorem qys_ (x:As [.un,.pr (.int .u8) YTT3]):evT Tryz.prog qom_ 6 18446744073709551616 (Ev.get qoo_) 279 q4x_ x=q4r_ x:=by
 rw [q5_,qx6_]
 rfl
theorem qls_:CtOk Tryz.prog (fun _=>True) 279 ⟨q4x_,q4r_⟩:=q3_ (q0_ qh4_ q4_) qys_
@[reducible] def q8w_:Sh:=⟨[.d (.wr (.int .u16)),.d (.pr (.int .u8) YTT3)],[],[.wr (.int .u16),.pr (.int .u8) YTT3],[.d (.bool)],[],0,[.bool]⟩
def qsa_:Env:=(cts [(69,(⟨q89_,q3m_⟩:Ct))])
def qs7_:List (Nat×Hint):=[]
def qar_ (k:Int) (r:Int×Int×List Bool×List Int×Int×Int):Option (As [.bool]) :=
 if ge r.2.2.2.2.2 1=true then if le r.2.2.2.2.2 k=true then Option.bind (q3m_ (r,(r.1,0,[],[],r.2.2.2.2),())) fun y=>some (y.1,()) else some (false,()) else some (false,())
def q2m_ (x:As [.wr (.int .u16),.pr (.int .u8) YTT3]):Option (As [.bool]):=qar_ x.1 x.2.1
theorem qzi_ (J:Orc (As [.bool])) (x:As [.wr (.int .u16),.pr (.int .u8) YTT3]):rfn Tryz.prog qsa_ 6 18446744073709551616 (Ev.get qs7_) 281 q8w_ J x=qar_ x.1 x.2.1:=by kernel_rfl
theorem q10s_ (x:As [.wr (.int .u16),.pr (.int .u8) YTT3]):evT Tryz.prog qsa_ 6 18446744073709551616 (Ev.get qs7_) 281 q8w_ x=q2m_ x:=by
 rw [q5_,qzi_]
 rfl
theorem qrd_:CtOk Tryz.prog (fun _=>True) 281 ⟨q8w_,q2m_⟩:=q3_ (q0_ qcq_ q4_) q10s_
@[reducible] def q8x_:Sh:=⟨[.d (.wr (.int .u16)),.d (.pr (.int .u8) YTT3)],[],[.wr (.int .u16),.pr (.int .u8) YTT3],[.d (.sl (.int .u8))],[],0,[.sl (.int .u8)]⟩
def qsb_:Env:=(cts [(273,(⟨q3r_,q3n_⟩:Ct))])
def qs8_:List (Nat×Hint):=[]
def qam_ (v:Int) (r:Int×Int×List Bool×List Int×Int×Int):Option (As [.sl (.int .u8)]) :=
 Option.bind (q3n_ ([r.2.2.2.2.1,r.2.2.2.2.2],[r.1],())) fun y=>some (y.1,())
def q3l_ (x:As [.wr (.int .u16),.pr (.int .u8) YTT3]):Option (As [.sl (.int .u8)]):=qam_ x.1 x.2.1
theorem qze_ (J:Orc (As [.sl (.int .u8)])) (x:As [.wr (.int .u16),.pr (.int .u8) YTT3]):rfn Tryz.prog qsb_ 6 18446744073709551616 (Ev.get qs8_) 282 q8x_ J x=qam_ x.1 x.2.1:=by kernel_rfl
theorem q118_ (x:As [.wr (.int .u16),.pr (.int .u8) YTT3]):evT Tryz.prog qsb_ 6 18446744073709551616 (Ev.get qs8_) 282 q8x_ x=q3l_ x:=by
 rw [q5_,qze_]
 rfl
theorem qrl_:CtOk Tryz.prog (fun _=>True) 282 ⟨q8x_,q3l_⟩:=q3_ (q0_ qh4_ q4_) q118_
@[reducible] def qo0_:Sh:=⟨[.d (.pr (.int .u8) YTT3)],[],[.pr (.int .u8) YTT3],[.d (.sl (.int .u8)),.d (.int .i64)],[],0,[.sl (.int .u8),.int .i64]⟩
def qzw_:Env:=(cts [(254,(⟨q5p_,q2y_⟩:Ct)),(255,(⟨q5q_,q3p_⟩:Ct)),(267,(⟨q6w_,q1u_⟩:Ct)),(268,(⟨q6z_,q2x_⟩:Ct)),(270,(⟨q66_,q15_⟩:Ct)),(271,(⟨q64_,q1p_⟩:Ct)),(275,(⟨q7u_,q42_⟩:Ct)),(276,(⟨q3b_,q5a_⟩:Ct)),(278,(⟨q7b_,q3k_⟩:Ct)),(279,(⟨q4x_,q4r_⟩:Ct)),(281,(⟨q8w_,q2m_⟩:Ct)),(282,(⟨q8x_,q3l_⟩:Ct))])
def qzv_:List (Nat×Hint):=[]
def qkf_ (r:Int×Int×List Bool×List Int×Int×Int):Option (As [.sl (.int .u8),.int .i64]) :=
 if nei r.2.1 0=true then Option.bind (q2y_ ((),r,())) fun y=>if y.1=true then Option.bind (q3p_ ((),r,())) fun y=>some (y.1,0,()) else some ([],13,()) else if eqi r.1 1=true then Option.bind (q1u_ ((),r,())) fun y=>if y.1=true then Option.bind (q2x_ ((),r,())) fun y=>some (y.1,0,()) else some ([],13,()) else if eqi r.1 2=true then Option.bind (q1u_ ((),r,())) fun y=>if y.1=true then Option.bind (q2x_ ((),r,())) fun y=>some (y.1,0,()) else some ([],13,()) else if eqi r.1 3=true then Option.bind (q15_ ((),r,())) fun y=>if y.1=true then Option.bind (q1p_ ((),r,())) fun y=>some (y.1,0,()) else some ([],13,()) else if eqi r.1 4=true then Option.bind (q15_ ((),r,())) fun y=>if y.1=true then Option.bind (q1p_ ((),r,())) fun y=>some (y.1,0,()) else some ([],13,()) else if eqi r.1 23=true then Option.bind (q15_ ((),r,())) fun y=>if y.1=true then Option.bind (q1p_ ((),r,())) fun y=>some (y.1,0,()) else some ([],13,()) else if eqi r.1 5=true then Option.bind (q42_ ((),r,())) fun y=>if y.1=true then Option.bind (q5a_ ((),r,())) fun y=>some (y.1,0,()) else some ([],13,()) else if eqi r.1 6=true then Option.bind (q3k_ ((),r,())) fun y=>if y.1=true then Option.bind (q4r_ ((),r,())) fun y=>some (y.1,0,()) else some ([],13,()) else if eqi r.1 15=true then Option.bind (q2m_ (1968,r,())) fun y=>if y.1=true then Option.bind (q3l_ (1968,r,())) fun y=>some (y.1,0,()) else some ([],13,()) else if eqi r.1 16=true then Option.bind (q2m_ (123,r,())) fun y=>if y.1=true then Option.bind (q3l_ (123,r,())) fun y=>some (y.1,0,()) else some ([],13,()) else some ([],13,())
def q9f_ (x:As [.pr (.int .u8) YTT3]):Option (As [.sl (.int .u8),.int .i64]):=qkf_ x.1
theorem q18p_ (J:Orc (As [.sl (.int .u8),.int .i64])) (x:As [.pr (.int .u8) YTT3]):rfn Tryz.prog qzw_ 6 18446744073709551616 (Ev.get qzv_) 64 qo0_ J x=qkf_ x.1:=by kernel_rfl
theorem q1c2_ (x:As [.pr (.int .u8) YTT3]):evT Tryz.prog qzw_ 6 18446744073709551616 (Ev.get qzv_) 64 qo0_ x=q9f_ x:=by
 rw [q5_,q18p_]
 rfl
theorem q18n_:CtOk Tryz.prog (fun _=>True) 64 ⟨qo0_,q9f_⟩:=q3_ (q0_ qiv_ (q0_ qjj_ (q0_ qlq_ (q0_ qla_ (q0_ ql1_ (q0_ ql6_ (q0_ qoi_ (q0_ qot_ (q0_ qln_ (q0_ qls_ (q0_ qrd_ (q0_ qrl_ q4_)))))))))))) q1c2_
@[reducible] def qae_:Sh:=⟨[.d (.pr (.int .u8) (.pr (.int .u8) (.pr (.pr (.sl (.int .u16)) YTT0) (.sl .bool)))),.d (.sl (.int .u8))],[],[.pr (.int .u8) (.pr (.int .u8) (.pr (.pr (.sl (.int .u16)) YTT0) (.sl .bool))),.sl (.int .u8)],[.d (.pr (.int .u8) (.pr (.int .u8) (.pr (.pr (.sl (.int .u16)) YTT0) (.sl .bool)))),.d (.sl (.int .u8))],[],0,[.pr (.int .u8) (.pr (.int .u8) (.pr (.pr (.sl (.int .u16)) YTT0) (.sl .bool))),.sl (.int .u8)]⟩
def q10n_:Env:=(cts [(62,(⟨q2j_,qso_⟩:Ct)),(63,(⟨qmf_,qm9_⟩:Ct)),(64,(⟨qo0_,q9f_⟩:Ct))])
def q101_:List (Nat×Hint):=[]
def qks_ (s:YaA4q0) (pdu:List Int):Option (As [.pr (.int .u8) (.pr (.int .u8) (.pr (.pr (.sl (.int .u16)) YTT0) (.sl .bool))),.sl (.int .u8)]) :=
 Option.bind (qm9_ (s,())) fun y=>Option.bind (qso_ (y.1,y.2.1,y.2.2.1,y.2.2.2.1,y.2.2.2.2.1,y.2.2.2.2.2.1,y.2.2.2.2.2.2.1,y.2.2.2.2.2.2.2.1,y.2.2.2.2.2.2.2.2.1,y.2.2.2.2.2.2.2.2.2.1,y.2.2.2.2.2.2.2.2.2.2.1,y.2.2.2.2.2.2.2.2.2.2.2.1,y.2.2.2.2.2.2.2.2.2.2.2.2.1,y.2.2.2.2.2.2.2.2.2.2.2.2.2.1,y.2.2.2.2.2.2.2.2.2.2.2.2.2.2.1,y.2.2.2.2.2.2.2.2.2.2.2.2.2.2.2.1,y.2.2.2.2.2.2.2.2.2.2.2.2.2.2.2.2.1,y.2.2.2.2.2.2.2.2.2.2.2.2.2.2.2.2.2.1,y.2.2.2.2.2.2.2.2.2.2.2.2.2.2.2.2.2.2.1,y.2.2.2.2.2.2.2.2.2.2.2.2.2.2.2.2.2.2.2.1,y.2.2.2.2.2.2.2.2.2.2.2.2.2.2.2.2.2.2.2.2.1,y.2.2.2.2.2.2.2.2.2.2.2.2.2.2.2.2.2.2.2.2.2.1,y.2.2.2.2.2.2.2.2.2.2.2.2.2.2.2.2.2.2.2.2.2.2.1,y.2.2.2.2.2.2.2.2.2.2.2.2.2.2.2.2.2.2.2.2.2.2.2.1,y.2.2.2.2.2.2.2.2.2.2.2.2.2.2.2.2.2.2.2.2.2.2.2.2.1,y.2.2.2.2.2.2.2.2.2.2.2.2.2.2.2.2.2.2.2.2.2.2.2.2.2.1,y.2.2.2.2.2.2.2.2.2.2.2.2.2.2.2.2.2.2.2.2.2.2.2.2.2.2.1,y.2.2.2.2.2.2.2.2.2.2.2.2.2.2.2.2.2.2.2.2.2.2.2.2.2.2.2.1,y.2.2.2.2.2.2.2.2.2.2.2.2.2.2.2.2.2.2.2.2.2.2.2.2.2.2.2.2.1,y.2.2.2.2.2.2.2.2.2.2.2.2.2.2.2.2.2.2.2.2.2.2.2.2.2.2.2.2.2.1,y.2.2.2.2.2.2.2.2.2.2.2.2.2.2.2.2.2.2.2.2.2.2.2.2.2.2.2.2.2.2.1,y.2.2.2.2.2.2.2.2.2.2.2.2.2.2.2.2.2.2.2.2.2.2.2.2.2.2.2.2.2.2.2.1,y.2.2.2.2.2.2.2.2.2.2.2.2.2.2.2.2.2.2.2.2.2.2.2.2.2.2.2.2.2.2.2.2.1,y.2.2.2.2.2.2.2.2.2.2.2.2.2.2.2.2.2.2.2.2.2.2.2.2.2.2.2.2.2.2.2.2.2.1,pdu,y.2.2.2.2.2.2.2.2.2.2.2.2.2.2.2.2.2.2.2.2.2.2.2.2.2.2.2.2.2.2.2.2.2.2.1,())) fun y=>Option.bind (q9f_ (y.2.1,())) fun y_1=>some (y.1,y_1.1,())
def q7i_ (x:As [.pr (.int .u8) (.pr (.int .u8) (.pr (.pr (.sl (.int .u16)) YTT0) (.sl .bool))),.sl (.int .u8)]):Option (As [.pr (.int .u8) (.pr (.int .u8) (.pr (.pr (.sl (.int .u16)) YTT0) (.sl .bool))),.sl (.int .u8)]):=qks_ x.1 x.2.1
theorem q17c_ (J:Orc (As [.pr (.int .u8) (.pr (.int .u8) (.pr (.pr (.sl (.int .u16)) YTT0) (.sl .bool))),.sl (.int .u8)])) (x:As [.pr (.int .u8) (.pr (.int .u8) (.pr (.pr (.sl (.int .u16)) YTT0) (.sl .bool))),.sl (.int .u8)]):rfn Tryz.prog q10n_ 6 18446744073709551616 (Ev.get q101_) 14 qae_ J x=qks_ x.1 x.2.1:=by kernel_rfl
theorem q1ba_ (x:As [.pr (.int .u8) (.pr (.int .u8) (.pr (.pr (.sl (.int .u16)) YTT0) (.sl .bool))),.sl (.int .u8)]):evT Tryz.prog q10n_ 6 18446744073709551616 (Ev.get q101_) 14 qae_ x=q7i_ x:=by
 rw [q5_,q17c_]
 rfl
theorem qsc_:CtOk Tryz.prog (fun _=>True) 14 ⟨qae_,q7i_⟩:=q3_ (q0_ q18u_ (q0_ q18q_ (q0_ q18n_ q4_))) q1ba_
@[reducible] def q9c_:Sh:=⟨[.d (.un),.d (.sl (.int .u8))],[],[.un,.sl (.int .u8)],[.d (.pr (.int .u8) YTT3)],[],0,[.pr (.int .u8) YTT3]⟩
def qle_:Env:=(cts [(120,(⟨qag_,qe_⟩:Ct))])
def qm2_:List (Nat×Hint):=[]
def qky_ (v:Unit) (b:List Int):Option (As [.pr (.int .u8) YTT3]) :=
 Option.bind (at? b 0) fun y=>Option.bind (at? b 1) fun y_1=>Option.bind (qe_ (y,y_1,())) fun y=>some (y.1,())
def qao_ (x:As [.un,.sl (.int .u8)]):Option (As [.pr (.int .u8) YTT3]):=qky_ x.1 x.2.1
theorem qw6_ (J:Orc (As [.pr (.int .u8) YTT3])) (x:As [.un,.sl (.int .u8)]):rfn Tryz.prog qle_ 6 18446744073709551616 (Ev.get qm2_) 253 q9c_ J x=qky_ x.1 x.2.1:=by kernel_rfl
theorem qx7_ (x:As [.un,.sl (.int .u8)]):evT Tryz.prog qle_ 6 18446744073709551616 (Ev.get qm2_) 253 q9c_ x=qao_ x:=by
 rw [q5_,qw6_]
 rfl
theorem qw8_:CtOk Tryz.prog (fun _=>True) 253 ⟨q9c_,qao_⟩:=q3_ (q0_ qkh_ q4_) qx7_
@[reducible] def qas_:Sh:=⟨[.d (.un),.d (.sl (.int .u8))],[],[.un,.sl (.int .u8)],[.d (.pr (.int .u8) YTT3)],[],0,[.pr (.int .u8) YTT3]⟩
def qp9_:Env:=(cts [(212,(⟨q9v_,qdo_⟩:Ct))])
def qqn_:List (Nat×Hint):=[]
def qon_ (v:Unit) (b:List Int):Option (As [.pr (.int .u8) YTT3]) :=
 Option.bind (at? b 0) fun y=>Option.bind (cut b 2 (Int.ofNat (List.length b))) fun y_1=>Option.bind (qdo_ (y_1,())) fun y_2=>some ((y,0,y_2.1,[],0,0),())
def q9w_ (x:As [.un,.sl (.int .u8)]):Option (As [.pr (.int .u8) YTT3]):=qon_ x.1 x.2.1
theorem qy3_ (J:Orc (As [.pr (.int .u8) YTT3])) (x:As [.un,.sl (.int .u8)]):rfn Tryz.prog qp9_ 6 18446744073709551616 (Ev.get qqn_) 266 qas_ J x=qon_ x.1 x.2.1:=by kernel_rfl
theorem qzb_ (x:As [.un,.sl (.int .u8)]):evT Tryz.prog qp9_ 6 18446744073709551616 (Ev.get qqn_) 266 qas_ x=q9w_ x:=by
 rw [q5_,qy3_]
 rfl
theorem qy6_:CtOk Tryz.prog (fun _=>True) 266 ⟨qas_,q9w_⟩:=q3_ (q0_ q10f_ q4_) qzb_
@[reducible] def q6c_:Sh:=⟨[.d (.sl (.int .u8))],[],[.sl (.int .u8)],[.d (.sl (.int .u16))],[],0,[.sl (.int .u16)]⟩
def qji_:Env:=(cts [])
def qiw_:List (Nat×Hint):=[(58,⟨[],[0,3,10,11]⟩)]
def qcv_ (b:List Int) (t10 t11:Int) (l:List Int):St:={ fr:=[(0,.d (.sl (.int .u8)) b),(3,.row 0),(10,.d (.int .i64) t10),(11,.d (.int .i64) t11)],nt:=34,up:=[],own:=[(0,.row (.int .u16) 23 l)],nx:=1,log:=[],ln:=0 }
def qzo_ (self1:List Int->Int->Int->List Int->Option (As [.sl (.int .u16)])) (b:List Int) (t10 t11:Int) (l:List Int):Option (As [.sl (.int .u16)]) :=
 if lt t11 t10=true then Option.bind (at? b (mul .i64 2 t11)) fun y=>Option.bind (at? b (add .i64 (mul .i64 2 t11) 1)) fun y_1=>Option.bind (at? l t11) fun x=>Option.bind (at? l t11) fun x=>self1 b t10 (add .i64 t11 1) (List.set l (Int.toNat t11) (Sx.bor .u16 (Sx.shl .u16 (cvt .u16 y) 8) (cvt .u16 y_1))) else some (l,())
def q107_ (j1:List Int->Int->Int->List Int->Option (As [.sl (.int .u16)])) (b:List Int):Option (As [.sl (.int .u16)]) :=
 need (ge (quo .i64 (Int.ofNat (List.length b)) 2) 0) (need (Ev.capOk (quo .i64 (Int.ofNat (List.length b)) 2) (quo .i64 (Int.ofNat (List.length b)) 2)) (need (small (Int.toNat (quo .i64 (Int.ofNat (List.length b)) 2))) (j1 b (Int.ofNat (List.length (List.replicate (α:=Int) (Int.toNat (quo .i64 (Int.ofNat (List.length b)) 2)) 0))) 0 (List.replicate (Int.toNat (quo .i64 (Int.ofNat (List.length b)) 2)) 0))))
def qu9_ (b:List Int) (t10 t11:Int) (l:List Int):Option (As [.sl (.int .u16)]) :=
 loopF (fun (self:(List Int)×(Int)×(Int)×(List Int)->Option (As [.sl (.int .u16)])) (s:(List Int)×(Int)×(Int)×(List Int))=>qzo_ (fun b t10 t11 l=>self (b,t10,t11,l)) s.1 s.2.1 s.2.2.1 s.2.2.2) 18446744073709551616 (b,t10,t11,l)
def q9h_ (x:As [.sl (.int .u8)]):Option (As [.sl (.int .u16)]):=q107_ qu9_ x.1
theorem q1av_ (J:Orc (As [.sl (.int .u16)])) (w1:St->Option (As [.sl (.int .u16)])) (b:List Int) (t10 t11:Int) (l:List Int):pfn Tryz.prog qji_ 6 18446744073709551616 (Ev.get qiw_) 272 q6c_ J 58 [w1] (qcv_ b t10 t11 l)=qzo_ (fun b t10 t11 l=>w1 (qcv_ b t10 t11 l)) b t10 t11 l:=by kernel_rfl
theorem q1cn_ (J:Orc (As [.sl (.int .u16)])) (x:As [.sl (.int .u8)]):rfn Tryz.prog qji_ 6 18446744073709551616 (Ev.get qiw_) 272 q6c_ J x=q107_ (fun b t10 t11 l=>J 58 [] (qcv_ b t10 t11 l)) x.1:=by kernel_rfl
theorem q1c3_ (b:List Int) (t10 t11:Int) (l:List Int):jfn Tryz.prog qji_ 6 18446744073709551616 (Ev.get qiw_) 272 q6c_ 58 [] (qcv_ b t10 t11 l)=qu9_ b t10 t11 l:=by
 rw [q8_ (by decide)]
 rw [qr_ (by kernel_rfl)]
 refine qi_ (σ:=(List Int)×(Int)×(Int)×(List Int)) (mk:=fun s=>qcv_ s.1 s.2.1 s.2.2.1 s.2.2.2) (fun w1 s=>?_) 18446744073709551616 (b,t10,t11,l)
 refine (q1av_ _ w1 s.1 s.2.1 s.2.2.1 s.2.2.2).trans ?_
 rfl
theorem q1fh_ (x:As [.sl (.int .u8)]):evT Tryz.prog qji_ 6 18446744073709551616 (Ev.get qiw_) 272 q6c_ x=q9h_ x:=by
 have e1:(fun b t10 t11 l=>(jfn Tryz.prog qji_ 6 18446744073709551616 (Ev.get qiw_) 272 q6c_) 58 [] (qcv_ b t10 t11 l))=qu9_:=by funext b t10 t11 l; exact q1c3_ b t10 t11 l
 rw [q5_,q1cn_,e1]
 rfl
theorem qmu_:CtOk Tryz.prog (fun _=>True) 272 ⟨q6c_,q9h_⟩:=q3_ q4_ q1fh_
@[reducible] def qa0_:Sh:=⟨[.d (.un),.d (.sl (.int .u8))],[],[.un,.sl (.int .u8)],[.d (.pr (.int .u8) YTT3)],[],0,[.pr (.int .u8) YTT3]⟩
def qog_:Env:=(cts [(272,(⟨q6c_,q9h_⟩:Ct))])
def qof_:List (Nat×Hint):=[]
def qmd_ (v:Unit) (b:List Int):Option (As [.pr (.int .u8) YTT3]) :=
 Option.bind (at? b 0) fun y=>Option.bind (cut b 2 (Int.ofNat (List.length b))) fun y_1=>Option.bind (q9h_ (y_1,())) fun y_2=>some ((y,0,[],y_2.1,0,0),())
def q5x_ (x:As [.un,.sl (.int .u8)]):Option (As [.pr (.int .u8) YTT3]):=qmd_ x.1 x.2.1
theorem qxd_ (J:Orc (As [.pr (.int .u8) YTT3])) (x:As [.un,.sl (.int .u8)]):rfn Tryz.prog qog_ 6 18446744073709551616 (Ev.get qof_) 269 qa0_ J x=qmd_ x.1 x.2.1:=by kernel_rfl
theorem qyq_ (x:As [.un,.sl (.int .u8)]):evT Tryz.prog qog_ 6 18446744073709551616 (Ev.get qof_) 269 qa0_ x=q5x_ x:=by
 rw [q5_,qxd_]
 rfl
theorem qxb_:CtOk Tryz.prog (fun _=>True) 269 ⟨qa0_,q5x_⟩:=q3_ (q0_ qmu_ q4_) qyq_
@[reducible] def qch_:Sh:=⟨[.d (.un),.d (.sl (.int .u8))],[],[.un,.sl (.int .u8)],[.d (.pr (.int .u8) YTT3)],[],0,[.pr (.int .u8) YTT3]⟩
def qs5_:Env:=(cts [(272,(⟨q6c_,q9h_⟩:Ct))])
def qs6_:List (Nat×Hint):=[]
def qrq_ (v:Unit) (b:List Int):Option (As [.pr (.int .u8) YTT3]) :=
 Option.bind (cut b 1 (Int.ofNat (List.length b))) fun y=>Option.bind (q9h_ (y,())) fun y=>if lt (Int.ofNat (List.length y.1)) 2=true then some ((0,0,[],[],0,0),()) else Option.bind (at? b 0) fun y_1=>Option.bind (at? y.1 0) fun y_2=>Option.bind (at? y.1 1) fun y=>some ((y_1,0,[eqi y 65280],[],y_2,0),())
def qeo_ (x:As [.un,.sl (.int .u8)]):Option (As [.pr (.int .u8) YTT3]):=qrq_ x.1 x.2.1
theorem qzc_ (J:Orc (As [.pr (.int .u8) YTT3])) (x:As [.un,.sl (.int .u8)]):rfn Tryz.prog qs5_ 6 18446744073709551616 (Ev.get qs6_) 274 qch_ J x=qrq_ x.1 x.2.1:=by kernel_rfl
theorem q116_ (x:As [.un,.sl (.int .u8)]):evT Tryz.prog qs5_ 6 18446744073709551616 (Ev.get qs6_) 274 qch_ x=qeo_ x:=by
 rw [q5_,qzc_]
 rfl
theorem qzh_:CtOk Tryz.prog (fun _=>True) 274 ⟨qch_,qeo_⟩:=q3_ (q0_ qmu_ q4_) q116_
@[reducible] def qat_:Sh:=⟨[.d (.un),.d (.sl (.int .u8))],[],[.un,.sl (.int .u8)],[.d (.pr (.int .u8) YTT3)],[],0,[.pr (.int .u8) YTT3]⟩
def qrg_:Env:=(cts [(272,(⟨q6c_,q9h_⟩:Ct))])
def qpe_:List (Nat×Hint):=[]
def qod_ (v:Unit) (b:List Int):Option (As [.pr (.int .u8) YTT3]) :=
 Option.bind (cut b 1 (Int.ofNat (List.length b))) fun y=>Option.bind (q9h_ (y,())) fun y=>if lt (Int.ofNat (List.length y.1)) 2=true then some ((0,0,[],[],0,0),()) else Option.bind (at? b 0) fun y_1=>Option.bind (at? y.1 0) fun y_2=>Option.bind (at? y.1 1) fun y=>some ((y_1,0,[],[y],y_2,0),())
def qdf_ (x:As [.un,.sl (.int .u8)]):Option (As [.pr (.int .u8) YTT3]):=qod_ x.1 x.2.1
theorem qye_ (J:Orc (As [.pr (.int .u8) YTT3])) (x:As [.un,.sl (.int .u8)]):rfn Tryz.prog qrg_ 6 18446744073709551616 (Ev.get qpe_) 277 qat_ J x=qod_ x.1 x.2.1:=by kernel_rfl
theorem qz9_ (x:As [.un,.sl (.int .u8)]):evT Tryz.prog qrg_ 6 18446744073709551616 (Ev.get qpe_) 277 qat_ x=qdf_ x:=by
 rw [q5_,qye_]
 rfl
theorem qya_:CtOk Tryz.prog (fun _=>True) 277 ⟨qat_,qdf_⟩:=q3_ (q0_ qmu_ q4_) qz9_
@[reducible] def qd2_:Sh:=⟨[.d (.wr (.int .u16)),.d (.sl (.int .u8))],[],[.wr (.int .u16),.sl (.int .u8)],[.d (.pr (.int .u8) YTT3)],[],0,[.pr (.int .u8) YTT3]⟩
def qu1_:Env:=(cts [(272,(⟨q6c_,q9h_⟩:Ct))])
def qti_:List (Nat×Hint):=[]
def qs9_ (v:Int) (b:List Int):Option (As [.pr (.int .u8) YTT3]) :=
 Option.bind (cut b 1 (Int.ofNat (List.length b))) fun y=>Option.bind (q9h_ (y,())) fun y=>if lt (Int.ofNat (List.length y.1)) 2=true then some ((0,0,[],[],0,0),()) else Option.bind (at? b 0) fun y_1=>Option.bind (at? y.1 0) fun y_2=>Option.bind (at? y.1 1) fun y=>some ((y_1,0,[],[],y_2,y),())
def qbq_ (x:As [.wr (.int .u16),.sl (.int .u8)]):Option (As [.pr (.int .u8) YTT3]):=qs9_ x.1 x.2.1
theorem q110_ (J:Orc (As [.pr (.int .u8) YTT3])) (x:As [.wr (.int .u16),.sl (.int .u8)]):rfn Tryz.prog qu1_ 6 18446744073709551616 (Ev.get qti_) 280 qd2_ J x=qs9_ x.1 x.2.1:=by kernel_rfl
theorem q120_ (x:As [.wr (.int .u16),.sl (.int .u8)]):evT Tryz.prog qu1_ 6 18446744073709551616 (Ev.get qti_) 280 qd2_ x=qbq_ x:=by
 rw [q5_,q110_]
 rfl
theorem q10v_:CtOk Tryz.prog (fun _=>True) 280 ⟨qd2_,qbq_⟩:=q3_ (q0_ qmu_ q4_) q120_
@[reducible] def qad_:Sh:=⟨[.d (.sl (.int .u8))],[],[.sl (.int .u8)],[.d (.pr (.int .u8) YTT3),.d (.int .i64)],[],0,[.pr (.int .u8) YTT3,.int .i64]⟩
def qhf_:Env:=(cts [(66,(⟨qhp_,q2q_⟩:Ct)),(253,(⟨q9c_,qao_⟩:Ct)),(254,(⟨q5p_,q2y_⟩:Ct)),(255,(⟨q5q_,q3p_⟩:Ct)),(266,(⟨qas_,q9w_⟩:Ct)),(267,(⟨q6w_,q1u_⟩:Ct)),(268,(⟨q6z_,q2x_⟩:Ct)),(269,(⟨qa0_,q5x_⟩:Ct)),(270,(⟨q66_,q15_⟩:Ct)),(271,(⟨q64_,q1p_⟩:Ct)),(274,(⟨qch_,qeo_⟩:Ct)),(275,(⟨q7u_,q42_⟩:Ct)),(276,(⟨q3b_,q5a_⟩:Ct)),(277,(⟨qat_,qdf_⟩:Ct)),(278,(⟨q7b_,q3k_⟩:Ct)),(279,(⟨q4x_,q4r_⟩:Ct)),(280,(⟨qd2_,qbq_⟩:Ct)),(281,(⟨q8w_,q2m_⟩:Ct)),(282,(⟨q8x_,q3l_⟩:Ct))])
def qhb_:List (Nat×Hint):=[(6,⟨[],[0,2,15,42,43,44,45,46,47]⟩)]
def qkj_ (b:List Int) (t15:Bool) (t2 t2_2 t2_3 t2_4:Int):St:={ fr:=[(0,.d (.sl (.int .u8)) b),(2,.pb 0 0),(15,.d .bool t15)],nt:=51,up:=[],own:=[(0,.box 46 [.d (.int .u8) t2,.d (.int .u8) t2_2,.k (Go.Value.slice Option.none 0 0),.k (Go.Value.slice Option.none 0 0),.d (.int .u16) t2_3,.d (.int .u16) t2_4])],nx:=1,log:=[],ln:=0 }
def qym_ (b:List Int) (t15:Bool) (t2 t2_2 t2_3 t2_4:Int):Option (As [.pr (.int .u8) YTT3,.int .i64]) :=
 if t15=true then some ((0,0,[],[],0,0),13,()) else Option.bind (at? b 0) fun y=>if lt y 128=true then Option.bind (at? b 0) fun y=>if eqi y 1=true then Option.bind (q9w_ ((),b,())) fun y=>Option.bind (q1u_ ((),y.1,())) fun y_1=>if (!y_1.1)=true then some ((0,0,[],[],0,0),13,()) else Option.bind (q2x_ ((),y.1,())) fun y_2=>Option.bind (q2q_ (y_2.1,b,())) fun y_3=>if (!y_3.1)=true then some ((0,0,[],[],0,0),13,()) else some (y.1,0,()) else if eqi y 2=true then Option.bind (q9w_ ((),b,())) fun y=>Option.bind (q1u_ ((),y.1,())) fun y_1=>if (!y_1.1)=true then some ((0,0,[],[],0,0),13,()) else Option.bind (q2x_ ((),y.1,())) fun y_2=>Option.bind (q2q_ (y_2.1,b,())) fun y_3=>if (!y_3.1)=true then some ((0,0,[],[],0,0),13,()) else some (y.1,0,()) else if eqi y 3=true then Option.bind (q5x_ ((),b,())) fun y=>Option.bind (q15_ ((),y.1,())) fun y_1=>if (!y_1.1)=true then some ((0,0,[],[],0,0),13,()) else Option.bind (q1p_ ((),y.1,())) fun y_2=>Option.bind (q2q_ (y_2.1,b,())) fun y_3=>if (!y_3.1)=true then some ((0,0,[],[],0,0),13,()) else some (y.1,0,()) else if eqi y 4=true then Option.bind (q5x_ ((),b,())) fun y=>Option.bind (q15_ ((),y.1,())) fun y_1=>if (!y_1.1)=true then some ((0,0,[],[],0,0),13,()) else Option.bind (q1p_ ((),y.1,())) fun y_2=>Option.bind (q2q_ (y_2.1,b,())) fun y_3=>if (!y_3.1)=true then some ((0,0,[],[],0,0),13,()) else some (y.1,0,()) else if eqi y 23=true then Option.bind (q5x_ ((),b,())) fun y=>Option.bind (q15_ ((),y.1,())) fun y_1=>if (!y_1.1)=true then some ((0,0,[],[],0,0),13,()) else Option.bind (q1p_ ((),y.1,())) fun y_2=>Option.bind (q2q_ (y_2.1,b,())) fun y_3=>if (!y_3.1)=true then some ((0,0,[],[],0,0),13,()) else some (y.1,0,()) else if eqi y 5=true then Option.bind (qeo_ ((),b,())) fun y=>Option.bind (q42_ ((),y.1,())) fun y_1=>if (!y_1.1)=true then some ((0,0,[],[],0,0),13,()) else Option.bind (q5a_ ((),y.1,())) fun y_2=>Option.bind (q2q_ (y_2.1,b,())) fun y_3=>if (!y_3.1)=true then some ((0,0,[],[],0,0),13,()) else some (y.1,0,()) else if eqi y 6=true then Option.bind (qdf_ ((),b,())) fun y=>Option.bind (q3k_ ((),y.1,())) fun y_1=>if (!y_1.1)=true then some ((0,0,[],[],0,0),13,()) else Option.bind (q4r_ ((),y.1,())) fun y_2=>Option.bind (q2q_ (y_2.1,b,())) fun y_3=>if (!y_3.1)=true then some ((0,0,[],[],0,0),13,()) else some (y.1,0,()) else if eqi y 15=true then Option.bind (qbq_ (1968,b,())) fun y=>Option.bind (q2m_ (1968,y.1,())) fun y_1=>if (!y_1.1)=true then some ((0,0,[],[],0,0),13,()) else Option.bind (q3l_ (1968,y.1,())) fun y_2=>Option.bind (q2q_ (y_2.1,b,())) fun y_3=>if (!y_3.1)=true then some ((0,0,[],[],0,0),13,()) else some (y.1,0,()) else if eqi y 16=true then Option.bind (qbq_ (123,b,())) fun y=>Option.bind (q2m_ (123,y.1,())) fun y_1=>if (!y_1.1)=true then some ((0,0,[],[],0,0),13,()) else Option.bind (q3l_ (123,y.1,())) fun y_2=>Option.bind (q2q_ (y_2.1,b,())) fun y_3=>if (!y_3.1)=true then some ((0,0,[],[],0,0),13,()) else some (y.1,0,()) else some ((0,0,[],[],0,0),13,()) else Option.bind (qao_ ((),b,())) fun y=>Option.bind (q2y_ ((),y.1,())) fun y_1=>if (!y_1.1)=true then some ((0,0,[],[],0,0),13,()) else Option.bind (q3p_ ((),y.1,())) fun y_2=>Option.bind (q2q_ (y_2.1,b,())) fun y_3=>if (!y_3.1)=true then some ((0,0,[],[],0,0),13,()) else some (y.1,0,())
def qyt_ (j1:List Int->Bool->Int->Int->Int->Int->Option (As [.pr (.int .u8) YTT3,.int .i64])) (b:List Int):Option (As [.pr (.int .u8) YTT3,.int .i64]) :=
 if lt (Int.ofNat (List.length b)) 2=true then j1 b true 0 0 0 0 else j1 b (gt (Int.ofNat (List.length b)) 253) 0 0 0 0
def qsk_ (b:List Int) (t15:Bool) (t2 t2_2 t2_3 t2_4:Int):Option (As [.pr (.int .u8) YTT3,.int .i64]):=qym_ b t15 t2 t2_2 t2_3 t2_4
def qsn_ (x:As [.sl (.int .u8)]):Option (As [.pr (.int .u8) YTT3,.int .i64]):=qyt_ qsk_ x.1
theorem q190_ (J:Orc (As [.pr (.int .u8) YTT3,.int .i64])) (b:List Int) (t15:Bool) (t2 t2_2 t2_3 t2_4:Int):pfn Tryz.prog qhf_ 6 18446744073709551616 (Ev.get qhb_) 15 qad_ J 6 [] (qkj_ b t15 t2 t2_2 t2_3 t2_4)=qym_ b t15 t2 t2_2 t2_3 t2_4:=by kernel_rfl
theorem q19i_ (J:Orc (As [.pr (.int .u8) YTT3,.int .i64])) (x:As [.sl (.int .u8)]):rfn Tryz.prog qhf_ 6 18446744073709551616 (Ev.get qhb_) 15 qad_ J x=qyt_ (fun b t15 t2 t2_2 t2_3 t2_4=>J 6 [] (qkj_ b t15 t2 t2_2 t2_3 t2_4)) x.1:=by kernel_rfl
theorem q198_ (b:List Int) (t15:Bool) (t2 t2_2 t2_3 t2_4:Int):jfn Tryz.prog qhf_ 6 18446744073709551616 (Ev.get qhb_) 15 qad_ 6 [] (qkj_ b t15 t2 t2_2 t2_3 t2_4)=qsk_ b t15 t2 t2_2 t2_3 t2_4:=by
 rw [q8_ (by decide)]
 rw [q190_]
 rfl
theorem q19v_ (x:As [.sl (.int .u8)]):evT Tryz.prog qhf_ 6 18446744073709551616 (Ev.get qhb_) 15 qad_ x=qsn_ x:=by
 have e1:(fun b t15 t2 t2_2 t2_3 t2_4=>(jfn Tryz.prog qhf_ 6 18446744073709551616 (Ev.get qhb_) 15 qad_) 6 [] (qkj_ b t15 t2 t2_2 t2_3 t2_4))=qsk_:=by funext b t15 t2 t2_2 t2_3 t2_4; exact q198_ b t15 t2 t2_2 t2_3 t2_4
 rw [q5_,q19i_,e1]
 rfl
theorem q18h_:CtOk Tryz.prog (fun _=>True) 15 ⟨qad_,qsn_⟩:=q3_ (q0_ qyh_ (q0_ qw8_ (q0_ qiv_ (q0_ qjj_ (q0_ qy6_ (q0_ qlq_ (q0_ qla_ (q0_ qxb_ (q0_ ql1_ (q0_ ql6_ (q0_ qzh_ (q0_ qoi_ (q0_ qot_ (q0_ qya_ (q0_ qln_ (q0_ qls_ (q0_ q10v_ (q0_ qrd_ (q0_ qrl_ q4_))))))))))))))))))) q19v_
@[reducible] def qgb_:Sh:=⟨[.d (.pr (.int .u8) YTT4),.pb 0 0],[.box 38 [.d (.int .u8),.d (.int .u8),.d (.sl (.int .u16)),.d (.int .u16),.d (.int .i64),.d (.int .u8),.d (.int .u32),.d (.int .u32),.d (.int .u32),.d (.bool),.d (.bool),.d (.bool),.d (.bool),.d (.bool),.d (.bool),.d (.bool),.d (.bool),.d (.int .i64),.d (.sl (.int .u16)),.d (.int .i64),.d (.sl (.int .u16)),.d (.int .i64),.d (.sl (.int .u16)),.d (.int .i64),.d (.sl (.int .u16)),.d (.int .i64),.d (.sl (.int .u16)),.d (.int .i64),.d (.sl (.int .u16)),.d (.int .i64),.d (.sl (.int .u16)),.d (.int .i64),.d (.sl (.int .u16)),.d (.int .i64),.d (.sl .bool)]],[.pr (.int .u8) YTT4,.int .u8,.int .u8,.sl (.int .u16),.int .u16,.int .i64,.int .u8,.int .u32,.int .u32,.int .u32,.bool,.bool,.bool,.bool,.bool,.bool,.bool,.bool,.int .i64,.sl (.int .u16),.int .i64,.sl (.int .u16),.int .i64,.sl (.int .u16),.int .i64,.sl (.int .u16),.int .i64,.sl (.int .u16),.int .i64,.sl (.int .u16),.int .i64,.sl (.int .u16),.int .i64,.sl (.int .u16),.int .i64,.sl .bool],[.d (.pr (.int .u8) YTT3)],[(0,.box 38 [.d (.int .u8),.d (.int .u8),.d (.sl (.int .u16)),.d (.int .u16),.d (.int .i64),.d (.int .u8),.d (.int .u32),.d (.int .u32),.d (.int .u32),.d (.bool),.d (.bool),.d (.bool),.d (.bool),.d (.bool),.d (.bool),.d (.bool),.d (.bool),.d (.int .i64),.d (.sl (.int .u16)),.d (.int .i64),.d (.sl (.int .u16)),.d (.int .i64),.d (.sl (.int .u16)),.d (.int .i64),.d (.sl (.int .u16)),.d (.int .i64),.d (.sl (.int .u16)),.d (.int .i64),.d (.sl (.int .u16)),.d (.int .i64),.d (.sl (.int .u16)),.d (.int .i64),.d (.sl (.int .u16)),.d (.int .i64),.d (.sl .bool)])],0,[.pr (.int .u8) YTT3,.int .u8,.int .u8,.sl (.int .u16),.int .u16,.int .i64,.int .u8,.int .u32,.int .u32,.int .u32,.bool,.bool,.bool,.bool,.bool,.bool,.bool,.bool,.int .i64,.sl (.int .u16),.int .i64,.sl (.int .u16),.int .i64,.sl (.int .u16),.int .i64,.sl (.int .u16),.int .i64,.sl (.int .u16),.int .i64,.sl (.int .u16),.int .i64,.sl (.int .u16),.int .i64,.sl (.int .u16),.int .i64,.sl .bool]⟩
def qvv_:Env:=(cts [(1000038,Ev.bxCt),(13,(⟨q2e_,qdu_⟩:Ct)),(14,(⟨qae_,q7i_⟩:Ct)),(15,(⟨qad_,qsn_⟩:Ct))])
def qvj_:List (Nat×Hint):=[]
def qui_ (a:Int×Int×Int×Int×List Int×List Bool) (v a_2:Int) (v_2:List Int) (b v_3 next out r v_4:Int) (v_5 v_6 v_7 v_8 v_9 v_10 v_11 v_12:Bool) (v_13:Int) (v_14:List Int) (v_15:Int) (v_16:List Int) (v_17:Int) (v_18:List Int) (v_19:Int) (v_20:List Int) (v_21:Int) (v_22:List Int) (x:Int) (x_2:List Int) (x_3:Int) (x_4:List Int) (x_5:Int) (x_6:List Int) (x_7:Int) (x_8:List Bool):Option (As [.pr (.int .u8) YTT3,.int .u8,.int .u8,.sl (.int .u16),.int .u16,.int .i64,.int .u8,.int .u32,.int .u32,.int .u32,.bool,.bool,.bool,.bool,.bool,.bool,.bool,.bool,.int .i64,.sl (.int .u16),.int .i64,.sl (.int .u16),.int .i64,.sl (.int .u16),.int .i64,.sl (.int .u16),.int .i64,.sl (.int .u16),.int .i64,.sl (.int .u16),.int .i64,.sl (.int .u16),.int .i64,.sl (.int .u16),.int .i64,.sl .bool]) :=
 Option.bind (qdu_ (a,())) fun y=>Option.bind (q7i_ ((v,a_2,(v_2,(b,v_3),next,out,r,(v_4,[v_5,v_6,v_7,v_8,v_9,v_10,v_11,v_12],[(v_13,v_14),(v_15,v_16),(v_17,v_18),(v_19,v_20),(v_21,v_22),(x,x_2),(x_3,x_4),(x_5,x_6)]),x_7),x_8),y.1,())) fun y=>Option.bind (qsn_ (y.2.1,())) fun y_1=>some (y_1.1,pkS y.1)
def q95_ (x:As [.pr (.int .u8) YTT4,.int .u8,.int .u8,.sl (.int .u16),.int .u16,.int .i64,.int .u8,.int .u32,.int .u32,.int .u32,.bool,.bool,.bool,.bool,.bool,.bool,.bool,.bool,.int .i64,.sl (.int .u16),.int .i64,.sl (.int .u16),.int .i64,.sl (.int .u16),.int .i64,.sl (.int .u16),.int .i64,.sl (.int .u16),.int .i64,.sl (.int .u16),.int .i64,.sl (.int .u16),.int .i64,.sl (.int .u16),.int .i64,.sl .bool]):Option (As [.pr (.int .u8) YTT3,.int .u8,.int .u8,.sl (.int .u16),.int .u16,.int .i64,.int .u8,.int .u32,.int .u32,.int .u32,.bool,.bool,.bool,.bool,.bool,.bool,.bool,.bool,.int .i64,.sl (.int .u16),.int .i64,.sl (.int .u16),.int .i64,.sl (.int .u16),.int .i64,.sl (.int .u16),.int .i64,.sl (.int .u16),.int .i64,.sl (.int .u16),.int .i64,.sl (.int .u16),.int .i64,.sl (.int .u16),.int .i64,.sl .bool]):=qui_ x.1 x.2.1 x.2.2.1 x.2.2.2.1 x.2.2.2.2.1 x.2.2.2.2.2.1 x.2.2.2.2.2.2.1 x.2.2.2.2.2.2.2.1 x.2.2.2.2.2.2.2.2.1 x.2.2.2.2.2.2.2.2.2.1 x.2.2.2.2.2.2.2.2.2.2.1 x.2.2.2.2.2.2.2.2.2.2.2.1 x.2.2.2.2.2.2.2.2.2.2.2.2.1 x.2.2.2.2.2.2.2.2.2.2.2.2.2.1 x.2.2.2.2.2.2.2.2.2.2.2.2.2.2.1 x.2.2.2.2.2.2.2.2.2.2.2.2.2.2.2.1 x.2.2.2.2.2.2.2.2.2.2.2.2.2.2.2.2.1 x.2.2.2.2.2.2.2.2.2.2.2.2.2.2.2.2.2.1 x.2.2.2.2.2.2.2.2.2.2.2.2.2.2.2.2.2.2.1 x.2.2.2.2.2.2.2.2.2.2.2.2.2.2.2.2.2.2.2.1 x.2.2.2.2.2.2.2.2.2.2.2.2.2.2.2.2.2.2.2.2.1 x.2.2.2.2.2.2.2.2.2.2.2.2.2.2.2.2.2.2.2.2.2.1 x.2.2.2.2.2.2.2.2.2.2.2.2.2.2.2.2.2.2.2.2.2.2.1 x.2.2.2.2.2.2.2.2.2.2.2.2.2.2.2.2.2.2.2.2.2.2.2.1 x.2.2.2.2.2.2.2.2.2.2.2.2.2.2.2.2.2.2.2.2.2.2.2.2.1 x.2.2.2.2.2.2.2.2.2.2.2.2.2.2.2.2.2.2.2.2.2.2.2.2.2.1 x.2.2.2.2.2.2.2.2.2.2.2.2.2.2.2.2.2.2.2.2.2.2.2.2.2.2.1 x.2.2.2.2.2.2.2.2.2.2.2.2.2.2.2.2.2.2.2.2.2.2.2.2.2.2.2.1 x.2.2.2.2.2.2.2.2.2.2.2.2.2.2.2.2.2.2.2.2.2.2.2.2.2.2.2.2.1 x.2.2.2.2.2.2.2.2.2.2.2.2.2.2.2.2.2.2.2.2.2.2.2.2.2.2.2.2.2.1 x.2.2.2.2.2.2.2.2.2.2.2.2.2.2.2.2.2.2.2.2.2.2.2.2.2.2.2.2.2.2.1 x.2.2.2.2.2.2.2.2.2.2.2.2.2.2.2.2.2.2.2.2.2.2.2.2.2.2.2.2.2.2.2.1 x.2.2.2.2.2.2.2.2.2.2.2.2.2.2.2.2.2.2.2.2.2.2.2.2.2.2.2.2.2.2.2.2.1 x.2.2.2.2.2.2.2.2.2.2.2.2.2.2.2.2.2.2.2.2.2.2.2.2.2.2.2.2.2.2.2.2.2.1 x.2.2.2.2.2.2.2.2.2.2.2.2.2.2.2.2.2.2.2.2.2.2.2.2.2.2.2.2.2.2.2.2.2.2.1 x.2.2.2.2.2.2.2.2.2.2.2.2.2.2.2.2.2.2.2.2.2.2.2.2.2.2.2.2.2.2.2.2.2.2.2.1
theorem q13f_ (J:Orc (As [.pr (.int .u8) YTT3,.int .u8,.int .u8,.sl (.int .u16),.int .u16,.int .i64,.int .u8,.int .u32,.int .u32,.int .u32,.bool,.bool,.bool,.bool,.bool,.bool,.bool,.bool,.int .i64,.sl (.int .u16),.int .i64,.sl (.int .u16),.int .i64,.sl (.int .u16),.int .i64,.sl (.int .u16),.int .i64,.sl (.int .u16),.int .i64,.sl (.int .u16),.int .i64,.sl (.int .u16),.int .i64,.sl (.int .u16),.int .i64,.sl .bool])) (x:As [.pr (.int .u8) YTT4,.int .u8,.int .u8,.sl (.int .u16),.int .u16,.int .i64,.int .u8,.int .u32,.int .u32,.int .u32,.bool,.bool,.bool,.bool,.bool,.bool,.bool,.bool,.int .i64,.sl (.int .u16),.int .i64,.sl (.int .u16),.int .i64,.sl (.int .u16),.int .i64,.sl (.int .u16),.int .i64,.sl (.int .u16),.int .i64,.sl (.int .u16),.int .i64,.sl (.int .u16),.int .i64,.sl (.int .u16),.int .i64,.sl .bool]):rfn Tryz.prog qvv_ 6 18446744073709551616 (Ev.get qvj_) 56 qgb_ J x=qui_ x.1 x.2.1 x.2.2.1 x.2.2.2.1 x.2.2.2.2.1 x.2.2.2.2.2.1 x.2.2.2.2.2.2.1 x.2.2.2.2.2.2.2.1 x.2.2.2.2.2.2.2.2.1 x.2.2.2.2.2.2.2.2.2.1 x.2.2.2.2.2.2.2.2.2.2.1 x.2.2.2.2.2.2.2.2.2.2.2.1 x.2.2.2.2.2.2.2.2.2.2.2.2.1 x.2.2.2.2.2.2.2.2.2.2.2.2.2.1 x.2.2.2.2.2.2.2.2.2.2.2.2.2.2.1 x.2.2.2.2.2.2.2.2.2.2.2.2.2.2.2.1 x.2.2.2.2.2.2.2.2.2.2.2.2.2.2.2.2.1 x.2.2.2.2.2.2.2.2.2.2.2.2.2.2.2.2.2.1 x.2.2.2.2.2.2.2.2.2.2.2.2.2.2.2.2.2.2.1 x.2.2.2.2.2.2.2.2.2.2.2.2.2.2.2.2.2.2.2.1 x.2.2.2.2.2.2.2.2.2.2.2.2.2.2.2.2.2.2.2.2.1 x.2.2.2.2.2.2.2.2.2.2.2.2.2.2.2.2.2.2.2.2.2.1 x.2.2.2.2.2.2.2.2.2.2.2.2.2.2.2.2.2.2.2.2.2.2.1 x.2.2.2.2.2.2.2.2.2.2.2.2.2.2.2.2.2.2.2.2.2.2.2.1 x.2.2.2.2.2.2.2.2.2.2.2.2.2.2.2.2.2.2.2.2.2.2.2.2.1 x.2.2.2.2.2.2.2.2.2.2.2.2.2.2.2.2.2.2.2.2.2.2.2.2.2.1 x.2.2.2.2.2.2.2.2.2.2.2.2.2.2.2.2.2.2.2.2.2.2.2.2.2.2.1 x.2.2.2.2.2.2.2.2.2.2.2.2.2.2.2.2.2.2.2.2.2.2.2.2.2.2.2.1 x.2.2.2.2.2.2.2.2.2.2.2.2.2.2.2.2.2.2.2.2.2.2.2.2.2.2.2.2.1 x.2.2.2.2.2.2.2.2.2.2.2.2.2.2.2.2.2.2.2.2.2.2.2.2.2.2.2.2.2.1 x.2.2.2.2.2.2.2.2.2.2.2.2.2.2.2.2.2.2.2.2.2.2.2.2.2.2.2.2.2.2.1 x.2.2.2.2.2.2.2.2.2.2.2.2.2.2.2.2.2.2.2.2.2.2.2.2.2.2.2.2.2.2.2.1 x.2.2.2.2.2.2.2.2.2.2.2.2.2.2.2.2.2.2.2.2.2.2.2.2.2.2.2.2.2.2.2.2.1 x.2.2.2.2.2.2.2.2.2.2.2.2.2.2.2.2.2.2.2.2.2.2.2.2.2.2.2.2.2.2.2.2.2.1 x.2.2.2.2.2.2.2.2.2.2.2.2.2.2.2.2.2.2.2.2.2.2.2.2.2.2.2.2.2.2.2.2.2.2.1 x.2.2.2.2.2.2.2.2.2.2.2.2.2.2.2.2.2.2.2.2.2.2.2.2.2.2.2.2.2.2.2.2.2.2.2.1:=by kernel_rfl
theorem q14t_ (x:As [.pr (.int .u8) YTT4,.int .u8,.int .u8,.sl (.int .u16),.int .u16,.int .i64,.int .u8,.int .u32,.int .u32,.int .u32,.bool,.bool,.bool,.bool,.bool,.bool,.bool,.bool,.int .i64,.sl (.int .u16),.int .i64,.sl (.int .u16),.int .i64,.sl (.int .u16),.int .i64,.sl (.int .u16),.int .i64,.sl (.int .u16),.int .i64,.sl (.int .u16),.int .i64,.sl (.int .u16),.int .i64,.sl (.int .u16),.int .i64,.sl .bool]):evT Tryz.prog qvv_ 6 18446744073709551616 (Ev.get qvj_) 56 qgb_ x=q95_ x:=by
 rw [q5_,q13f_]
 rfl
theorem q13r_:CtOk Tryz.prog (fun _=>True) 56 ⟨qgb_,q95_⟩:=q3_ (q0_ Ev.bx_ok (q0_ qvg_ (q0_ qsc_ (q0_ q18h_ q4_)))) q14t_
@[reducible] def qhl_:Sh:=⟨[.d (.pr (.int .u16) YTT6)],[],[.pr (.int .u16) YTT6],[.d (.sl (.int .u16))],[],0,[.sl (.int .u16)]⟩
def q10l_:Env:=(cts [])
def qzq_:List (Nat×Hint):=[]
def qk3_ (c:Int×Int×Int×Int×Int):Option (As [.sl (.int .u16)]) :=
 some ([c.1,cvt .u16 c.2.1,cvt .u16 (quo .u32 c.2.2.1 65536),cvt .u16 (rem c.2.2.1 65536),c.2.2.2.1,cvt .u16 (quo .u32 c.2.2.2.2 65536),cvt .u16 (rem c.2.2.2.2 65536),0],())
def q9d_ (x:As [.pr (.int .u16) YTT6]):Option (As [.sl (.int .u16)]):=qk3_ x.1
theorem q182_ (J:Orc (As [.sl (.int .u16)])) (x:As [.pr (.int .u16) YTT6]):rfn Tryz.prog q10l_ 6 18446744073709551616 (Ev.get qzq_) 57 qhl_ J x=qk3_ x.1:=by kernel_rfl
theorem q1as_ (x:As [.pr (.int .u16) YTT6]):evT Tryz.prog q10l_ 6 18446744073709551616 (Ev.get qzq_) 57 qhl_ x=q9d_ x:=by
 rw [q5_,q182_]
 rfl
theorem qy7_:CtOk Tryz.prog (fun _=>True) 57 ⟨qhl_,q9d_⟩:=q3_ q4_ q1as_
@[reducible] def qny_:Sh:=⟨[],[],[],[.d (.bool)],[],0,[.bool]⟩
def q10r_:Env:=(cts [(1000038,Ev.bxCt),(20,(⟨qed_,qt9_⟩:Ct)),(35,(⟨qlg_,qj9_⟩:Ct)),(56,(⟨qgb_,q95_⟩:Ct)),(57,(⟨qhl_,q9d_⟩:Ct))])
def q104_:List (Nat×Hint):=[]
def qz6_:Option (As [.bool]) :=
 Option.bind (qj9_ (3,1,[0,0,0,0,0,0,0,0,0,0,0,0,0,0,0,0,0,0,0,0,0,0,0,0,0,0,0,0,0,0,0,0,0,0,0,0,0,0,0,0,0,0,0,0,0,0,0,0,0,0,0,0,0,0,0,0,0,0,0,0,0,0,0,0],5,())) fun y=>if nei y.2.1 0=true then some (false,()) else Option.bind (q95_ ((3,256,8,0,[],[]),pkS y.1)) fun y=>Option.bind (q9d_ ((7,1,1,0,0),())) fun y_1=>Option.bind (q95_ ((23,256,8,272,y_1.1,[]),y.2)) fun y_2=>Option.bind (q95_ ((6,272,0,0,[1],[]),y_2.2)) fun y_3=>Option.bind (q9d_ ((8,1,2,0,0),())) fun y_4=>Option.bind (q95_ ((16,272,8,0,y_4.1,[]),y_3.2)) fun y_5=>Option.bind (qt9_ (y.1.2.2.2.1,[0,0,0,0,0,0,0,0],())) fun y=>if y.1=true then Option.bind (qt9_ (y_2.1.2.2.2.1,[7,1,0,1,0,0,0,0],())) fun y=>if y.1=true then if eqi y_3.1.2.1 2=true then some (eqi y_5.1.2.1 4,()) else some (false,()) else some (false,()) else some (false,())
def qaw_ (x:As []):Option (As [.bool]):=qz6_
theorem q19g_ (J:Orc (As [.bool])) (x:As []):rfn Tryz.prog q10r_ 6 18446744073709551616 (Ev.get q104_) 10 qny_ J x=qz6_:=by kernel_rfl
theorem q1am_ (x:As []):evT Tryz.prog q10r_ 6 18446744073709551616 (Ev.get q104_) 10 qny_ x=qaw_ x:=by
 rw [q5_,q19g_]
 rfl
theorem q181_:CtOk Tryz.prog (fun _=>True) 10 ⟨qny_,qaw_⟩:=q3_ (q0_ Ev.bx_ok (q0_ q1g0_ (q0_ q11w_ (q0_ q13r_ (q0_ qy7_ q4_))))) q1am_
@[reducible] def qwn_:Sh:=⟨[.d (.sl (.int .u16)),.d (.sl .bool)],[],[.sl (.int .u16),.sl .bool],[.d (.bool)],[],0,[.bool]⟩
def q19p_:Env:=(cts [])
def q19t_:List (Nat×Hint):=[]
def qv0_ (words:List Int) (bits:List Bool):Option (As [.bool]) :=
 if le (Int.ofNat (List.length words)) 200=true then some (le (Int.ofNat (List.length bits)) 2100,()) else some (false,())
def qyg_ (x:As [.sl (.int .u16),.sl .bool]):Option (As [.bool]):=qv0_ x.1 x.2.1
theorem q1iw_ (J:Orc (As [.bool])) (x:As [.sl (.int .u16),.sl .bool]):rfn Tryz.prog q19p_ 6 18446744073709551616 (Ev.get q19t_) 78 qwn_ J x=qv0_ x.1 x.2.1:=by kernel_rfl
theorem q1j2_ (x:As [.sl (.int .u16),.sl .bool]):evT Tryz.prog q19p_ 6 18446744073709551616 (Ev.get q19t_) 78 qwn_ x=qyg_ x:=by
 rw [q5_,q1iw_]
 rfl
theorem q1ig_:CtOk Tryz.prog (fun _=>True) 78 ⟨qwn_,qyg_⟩:=q3_ q4_ q1j2_
@[reducible] def q4m_:Sh:=⟨[.d (.sl (.pr (.int .u8) (.pr (.sl (.int .u8)) (.pr (.pr (.int .u8) YTT4) (.pr (.int .u16) YTT6))))),.d (.int .i64)],[],[.sl (.pr (.int .u8) (.pr (.sl (.int .u8)) (.pr (.pr (.int .u8) YTT4) (.pr (.int .u16) YTT6)))),.int .i64],[.d (.bool)],[],0,[.bool]⟩
def q6d_:Env:=(cts [(78,(⟨qwn_,qyg_⟩:Ct))])
def q65_:List (Nat×Hint):=[(3,⟨[],[0,1]⟩),(26,⟨[],[0,1,7,8,9,18,19,20,21,22,23,24,25]⟩),(1689,⟨[.agd 20 (.sl (.int .u16)),.agd 23 (.sl .bool),.agd 24 .bool,.agd 25 .bool],[0,1,7,8,9,26]⟩)]
def q81_ (l:List YTT7) (most:Int) (t7:List YTT7) (t8 t9:Int):St:={ fr:=[(0,.d (.sl (.pr (.int .u8) (.pr (.sl (.int .u8)) (.pr (.pr (.int .u8) YTT4) (.pr (.int .u16) YTT6))))) l),(1,.d (.int .i64) most),(7,.d (.sl (.pr (.int .u8) (.pr (.sl (.int .u8)) (.pr (.pr (.int .u8) YTT4) (.pr (.int .u16) YTT6))))) t7),(8,.d (.int .i64) t8),(9,.d (.int .i64) t9)],nt:=32,up:=[],own:=[],nx:=0,log:=[],ln:=0 }
def qpj_ (l:List YTT7) (most:Int) (t7:List YTT7) (t8 t9:Int) (t26:Bool):St:={ fr:=[(0,.d (.sl (.pr (.int .u8) (.pr (.sl (.int .u8)) (.pr (.pr (.int .u8) YTT4) (.pr (.int .u16) YTT6))))) l),(1,.d (.int .i64) most),(7,.d (.sl (.pr (.int .u8) (.pr (.sl (.int .u8)) (.pr (.pr (.int .u8) YTT4) (.pr (.int .u16) YTT6))))) t7),(8,.d (.int .i64) t8),(9,.d (.int .i64) t9),(26,.d .bool t26)],nt:=32,up:=[],own:=[],nx:=0,log:=[],ln:=0 }
def qr3_ (l:List YTT7) (most:Int):St:={ fr:=[(0,.d (.sl (.pr (.int .u8) (.pr (.sl (.int .u8)) (.pr (.pr (.int .u8) YTT4) (.pr (.int .u16) YTT6))))) l),(1,.d (.int .i64) most)],nt:=32,up:=[],own:=[],nx:=0,log:=[],ln:=0 }
def qc1_ (j2:List YTT7->Int->List YTT7->Int->Int->Bool->Option (As [.bool])) (j3:List YTT7->Int->Option (As [.bool])) (self1:List YTT7->Int->List YTT7->Int->Int->Option (As [.bool])) (l:List YTT7) (most:Int) (t7:List YTT7) (t8 t9:Int):Option (As [.bool]) :=
 if lt t9 t8=true then Option.bind (at? t7 t9) fun y=>if gt (Int.ofNat (List.length y.2.1)) 300=true then j2 l most t7 t8 t9 true else Option.bind (qyg_ (y.2.2.1.2.2.2.2.1,y.2.2.1.2.2.2.2.2,())) fun y=>j2 l most t7 t8 t9 !y.1 else j3 l most
def qpg_ (self1:List YTT7->Int->List YTT7->Int->Int->Option (As [.bool])) (l:List YTT7) (most:Int) (t7:List YTT7) (t8 t9:Int) (t26:Bool):Option (As [.bool]) :=
 if t26=true then some (false,()) else self1 l most t7 t8 (add .i64 t9 1)
def q12y_ (l:List YTT7) (most:Int):Option (As [.bool]) :=
 some (le (Int.ofNat (List.length l)) most,())
def q11t_ (j1:List YTT7->Int->List YTT7->Int->Int->Option (As [.bool])) (l:List YTT7) (most:Int):Option (As [.bool]) :=
 j1 l most l (Int.ofNat (List.length l)) 0
def qfw_ (u1:List YTT7->Int->List YTT7->Int->Int->Option (As [.bool])) (l:List YTT7) (most:Int) (t7:List YTT7) (t8 t9:Int) (t26:Bool):Option (As [.bool]):=qpg_ u1 l most t7 t8 t9 t26
def qfg_ (l:List YTT7) (most:Int):Option (As [.bool]):=q12y_ l most
def qrf_ (l:List YTT7) (most:Int) (t7:List YTT7) (t8 t9:Int):Option (As [.bool]) :=
 loopF (fun (self:(List YTT7)×(Int)×(List YTT7)×(Int)×(Int)->Option (As [.bool])) (s:(List YTT7)×(Int)×(List YTT7)×(Int)×(Int))=>qc1_ (qfw_ (fun l most t7 t8 t9=>self (l,most,t7,t8,t9))) (qfg_) (fun l most t7 t8 t9=>self (l,most,t7,t8,t9)) s.1 s.2.1 s.2.2.1 s.2.2.2.1 s.2.2.2.2) 18446744073709551616 (l,most,t7,t8,t9)
def qoh_ (x:As [.sl (.pr (.int .u8) (.pr (.sl (.int .u8)) (.pr (.pr (.int .u8) YTT4) (.pr (.int .u16) YTT6)))),.int .i64]):Option (As [.bool]):=q11t_ qrf_ x.1 x.2.1
theorem q1g1_ (J:Orc (As [.bool])) (w1:St->Option (As [.bool])) (l:List YTT7) (most:Int) (t7:List YTT7) (t8 t9:Int) (t26:Bool):pfn Tryz.prog q6d_ 6 18446744073709551616 (Ev.get q65_) 22 q4m_ J 1689 [w1] (qpj_ l most t7 t8 t9 t26)=qpg_ (fun l most t7 t8 t9=>w1 (q81_ l most t7 t8 t9)) l most t7 t8 t9 t26:=by kernel_rfl
theorem q1f2_ (J:Orc (As [.bool])) (l:List YTT7) (most:Int):pfn Tryz.prog q6d_ 6 18446744073709551616 (Ev.get q65_) 22 q4m_ J 3 [] (qr3_ l most)=q12y_ l most:=by kernel_rfl
theorem q1fq_ (J:Orc (As [.bool])) (w1:St->Option (As [.bool])) (l:List YTT7) (most:Int) (t7:List YTT7) (t8 t9:Int):pfn Tryz.prog q6d_ 6 18446744073709551616 (Ev.get q65_) 22 q4m_ J 26 [w1] (q81_ l most t7 t8 t9)=qc1_ (fun l most t7 t8 t9 t26=>J 1689 [w1] (qpj_ l most t7 t8 t9 t26)) (fun l most=>J 3 [] (qr3_ l most)) (fun l most t7 t8 t9=>w1 (q81_ l most t7 t8 t9)) l most t7 t8 t9:=by kernel_rfl
theorem q1e3_ (J:Orc (As [.bool])) (x:As [.sl (.pr (.int .u8) (.pr (.sl (.int .u8)) (.pr (.pr (.int .u8) YTT4) (.pr (.int .u16) YTT6)))),.int .i64]):rfn Tryz.prog q6d_ 6 18446744073709551616 (Ev.get q65_) 22 q4m_ J x=q11t_ (fun l most t7 t8 t9=>J 26 [] (q81_ l most t7 t8 t9)) x.1 x.2.1:=by kernel_rfl
theorem q1gh_ (w1:St->Option (As [.bool])) (l:List YTT7) (most:Int) (t7:List YTT7) (t8 t9:Int) (t26:Bool):jfn Tryz.prog q6d_ 6 18446744073709551616 (Ev.get q65_) 22 q4m_ 1689 [w1] (qpj_ l most t7 t8 t9 t26)=qfw_ (fun l most t7 t8 t9=>w1 (q81_ l most t7 t8 t9)) l most t7 t8 t9 t26:=by
 rw [q8_ (by decide)]
 rw [q1g1_]
 rfl
theorem q1f1_ (l:List YTT7) (most:Int):jfn Tryz.prog q6d_ 6 18446744073709551616 (Ev.get q65_) 22 q4m_ 3 [] (qr3_ l most)=qfg_ l most:=by
 rw [q8_ (by decide)]
 rw [q1f2_]
 rfl
theorem q1g9_ (l:List YTT7) (most:Int) (t7:List YTT7) (t8 t9:Int):jfn Tryz.prog q6d_ 6 18446744073709551616 (Ev.get q65_) 22 q4m_ 26 [] (q81_ l most t7 t8 t9)=qrf_ l most t7 t8 t9:=by
 rw [q8_ (by decide)]
 rw [qr_ (by kernel_rfl)]
 refine qi_ (σ:=(List YTT7)×(Int)×(List YTT7)×(Int)×(Int)) (mk:=fun s=>q81_ s.1 s.2.1 s.2.2.1 s.2.2.2.1 s.2.2.2.2) (fun w1 s=>?_) 18446744073709551616 (l,most,t7,t8,t9)
 have e2:(fun l most t7 t8 t9 t26=>(jfn Tryz.prog q6d_ 6 18446744073709551616 (Ev.get q65_) 22 q4m_) 1689 [w1] (qpj_ l most t7 t8 t9 t26))=qfw_ (fun l most t7 t8 t9=>w1 (q81_ l most t7 t8 t9)):=by funext l most t7 t8 t9 t26; exact q1gh_ w1 l most t7 t8 t9 t26
 have e3:(fun l most=>(jfn Tryz.prog q6d_ 6 18446744073709551616 (Ev.get q65_) 22 q4m_) 3 [] (qr3_ l most))=qfg_:=by funext l most; exact q1f1_ l most
 refine (q1fq_ _ w1 s.1 s.2.1 s.2.2.1 s.2.2.2.1 s.2.2.2.2).trans ?_
 rw [e2,e3]
theorem q1gs_ (x:As [.sl (.pr (.int .u8) (.pr (.sl (.int .u8)) (.pr (.pr (.int .u8) YTT4) (.pr (.int .u16) YTT6)))),.int .i64]):evT Tryz.prog q6d_ 6 18446744073709551616 (Ev.get q65_) 22 q4m_ x=qoh_ x:=by
 have e1:(fun l most t7 t8 t9=>(jfn Tryz.prog q6d_ 6 18446744073709551616 (Ev.get q65_) 22 q4m_) 26 [] (q81_ l most t7 t8 t9))=qrf_:=by funext l most t7 t8 t9; exact q1g9_ l most t7 t8 t9
 rw [q5_,q1e3_,e1]
 rfl
theorem q1e9_:CtOk Tryz.prog (fun _=>True) 22 ⟨q4m_,qoh_⟩:=q3_ (q0_ q1ig_ q4_) q1gs_
@[reducible] def qjm_:Sh:=⟨[.d (.int .u8)],[],[.int .u8],[.d (.bool)],[],0,[.bool]⟩
def q131_:Env:=(cts [])
def q12c_:List (Nat×Hint):=[]
def qcu_ (unit:Int):Option (As [.bool]) :=
 if ge unit 1=true then some (le unit 247,()) else some (false,())
def qdh_ (x:As [.int .u8]):Option (As [.bool]):=qcu_ x.1
theorem q1ap_ (J:Orc (As [.bool])) (x:As [.int .u8]):rfn Tryz.prog q131_ 6 18446744073709551616 (Ev.get q12c_) 85 qjm_ J x=qcu_ x.1:=by kernel_rfl
theorem q1gl_ (x:As [.int .u8]):evT Tryz.prog q131_ 6 18446744073709551616 (Ev.get q12c_) 85 qjm_ x=qdh_ x:=by
 rw [q5_,q1ap_]
 rfl
theorem qzx_:CtOk Tryz.prog (fun _=>True) 85 ⟨qjm_,qdh_⟩:=q3_ q4_ q1gl_
end Go.Proofs.Lx
end
