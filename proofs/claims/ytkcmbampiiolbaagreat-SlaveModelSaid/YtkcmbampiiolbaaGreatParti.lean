/- Proved in the last of these 13 parts (this is part 9): SlaveModel returns true, whatever the link, the bank, the ticks and what comes. Conditions: those of the given statement, and no others. -/
import Derived.Test.YtkcmbampiiolbaaGreatParte
import Derived.Test.YtkcmbampiiolbaaGreatParth
import Derived.Test.YtkcmbampiiolbaaGreatProg
set_option linter.unusedVariables false
set_option linter.unusedSimpArgs false
set_option linter.unusedSectionVars false
section
open Go Go.Proofs Ev Sx
set_option maxRecDepth 100000
namespace Go.Proofs.Lx
abbrev YaAq0:Type:=Int×Int×YTT2×List Bool
@[reducible] def q4b_:Sh:=⟨[],[],[],[.d (.ar 16 (.int .u16))],[],0,[.ar 16 (.int .u16)]⟩
def q5r_:Env:=(cts [])
def q5i_:List (Nat×Hint):=[(58,⟨[],[0,1,5]⟩),(7475,⟨[],[0,1,2,3,5]⟩),(59802,⟨[],[0,1,2,3,5,10]⟩)]
def q48_ (t5:Int) (t0 t:List Int):St:={ fr:=[(0,.pb 0 0),(1,.pb 1 0),(5,.d (.int .i64) t5)],nt:=26,up:=[],own:=[(0,.row (.int .u16) 242 t0),(1,.row (.int .u16) 242 t)],nx:=2,log:=[],ln:=0 }
def qdu_ (i x t5 t10:Int) (t0 t:List Int):St:={ fr:=[(0,.pb 0 0),(1,.pb 1 0),(2,.d (.int .i64) i),(3,.d (.int .u16) x),(5,.d (.int .i64) t5),(10,.d (.int .i64) t10)],nt:=26,up:=[],own:=[(0,.row (.int .u16) 242 t0),(1,.row (.int .u16) 242 t)],nx:=2,log:=[],ln:=0 }
def qnk_ (i x t5:Int) (t0 t:List Int):St:={ fr:=[(0,.pb 0 0),(1,.pb 1 0),(2,.d (.int .i64) i),(3,.d (.int .u16) x),(5,.d (.int .i64) t5)],nt:=26,up:=[],own:=[(0,.row (.int .u16) 242 t0),(1,.row (.int .u16) 242 t)],nx:=2,log:=[],ln:=0 }
def qxr_ (j2:Int->Int->Int->Int->List Int->List Int->Option (As [.ar 16 (.int .u16)])) (self1:Int->List Int->List Int->Option (As [.ar 16 (.int .u16)])) (t5:Int) (t0 t:List Int):Option (As [.ar 16 (.int .u16)]) :=
 if lt t5 16=true then j2 t5 (cvt .u16 t5) t5 0 t0 t else need (eqi (Int.ofNat (List.length t)) 16) (need (eqi (Int.ofNat (List.length t0)) (Int.ofNat (List.length t))) (need (eqi 16 (Int.ofNat (List.length t * 1))) (need (eqi (Int.ofNat (List.length t)) 16) (need (eqi (Int.ofNat (List.length t)) 16) (some (t,()))))))
def qxg_ (j3:Int->Int->Int->List Int->List Int->Option (As [.ar 16 (.int .u16)])) (self1:Int->List Int->List Int->Option (As [.ar 16 (.int .u16)])) (self2:Int->Int->Int->Int->List Int->List Int->Option (As [.ar 16 (.int .u16)])) (i x t5 t10:Int) (t0 t:List Int):Option (As [.ar 16 (.int .u16)]) :=
 if lt t10 4=true then if eqi (Sx.band .u16 x 1) 1=true then self2 i (Sx.bxor .u16 (Sx.shr .u16 x 1) 40961) t5 (add .i64 t10 1) t0 t else self2 i (Sx.shr .u16 x 1) t5 (add .i64 t10 1) t0 t else j3 i x t5 t0 t
def qx4_ (self1:Int->List Int->List Int->Option (As [.ar 16 (.int .u16)])) (i x t5:Int) (t0 t:List Int):Option (As [.ar 16 (.int .u16)]) :=
 need (lt i 16) (Option.bind (at? t i) fun x_1=>Option.bind (at? t i) fun x_2=>self1 (add .i64 t5 1) t0 (List.set t (Int.toNat i) x))
def qxd_ (j1:Int->List Int->List Int->Option (As [.ar 16 (.int .u16)])):Option (As [.ar 16 (.int .u16)]) :=
 j1 0 (List.replicate 16 0) (List.replicate 16 0)
def qsg_ (u1:Int->List Int->List Int->Option (As [.ar 16 (.int .u16)])) (i x t5:Int) (t0 t:List Int):Option (As [.ar 16 (.int .u16)]):=qx4_ u1 i x t5 t0 t
def qsm_ (u1:Int->List Int->List Int->Option (As [.ar 16 (.int .u16)])) (i x t5 t10:Int) (t0 t:List Int):Option (As [.ar 16 (.int .u16)]) :=
 loopF (fun (self:(Int)×(Int)×(Int)×(Int)×(List Int)×(List Int)->Option (As [.ar 16 (.int .u16)])) (s:(Int)×(Int)×(Int)×(Int)×(List Int)×(List Int))=>qxg_ (qsg_ u1) u1 (fun i x t5 t10 t0 t=>self (i,x,t5,t10,t0,t)) s.1 s.2.1 s.2.2.1 s.2.2.2.1 s.2.2.2.2.1 s.2.2.2.2.2) 18446744073709551616 (i,x,t5,t10,t0,t)
def qsy_ (t5:Int) (t0 t:List Int):Option (As [.ar 16 (.int .u16)]) :=
 loopF (fun (self:(Int)×(List Int)×(List Int)->Option (As [.ar 16 (.int .u16)])) (s:(Int)×(List Int)×(List Int))=>qxr_ (qsm_ (fun t5 t0 t=>self (t5,t0,t))) (fun t5 t0 t=>self (t5,t0,t)) s.1 s.2.1 s.2.2) 18446744073709551616 (t5,t0,t)
def qqj_ (x:As []):Option (As [.ar 16 (.int .u16)]):=qxd_ qsy_
theorem q16s_  (J w1 i x t5 t0 t):pfn Tryz.prog q5r_ 6 18446744073709551616 (Ev.get q5i_) 183 q4b_ J 7475 [w1] (qnk_ i x t5 t0 t)=qx4_ (fun t5 t0 t=>w1 (q48_ t5 t0 t)) i x t5 t0 t:=by kernel_rfl
theorem q15q_  (J w1 w2 i x t5 t10 t0 t):pfn Tryz.prog q5r_ 6 18446744073709551616 (Ev.get q5i_) 183 q4b_ J 59802 [w1,w2] (qdu_ i x t5 t10 t0 t)=qxg_ (fun i x t5 t0 t=>J 7475 [w1] (qnk_ i x t5 t0 t)) (fun t5 t0 t=>w1 (q48_ t5 t0 t)) (fun i x t5 t10 t0 t=>w2 (qdu_ i x t5 t10 t0 t)) i x t5 t10 t0 t:=by kernel_rfl
theorem q177_  (J w1 t5 t0 t):pfn Tryz.prog q5r_ 6 18446744073709551616 (Ev.get q5i_) 183 q4b_ J 58 [w1] (q48_ t5 t0 t)=qxr_ (fun i x t5 t10 t0 t=>J 59802 [w1] (qdu_ i x t5 t10 t0 t)) (fun t5 t0 t=>w1 (q48_ t5 t0 t)) t5 t0 t:=by kernel_rfl
theorem q17c_ (J:Orc (As [.ar 16 (.int .u16)])) (x:As []):rfn Tryz.prog q5r_ 6 18446744073709551616 (Ev.get q5i_) 183 q4b_ J x=qxd_ (fun t5 t0 t=>J 58 [] (q48_ t5 t0 t)):=by kernel_rfl
theorem q18g_  (w1 i x t5 t0 t):jfn Tryz.prog q5r_ 6 18446744073709551616 (Ev.get q5i_) 183 q4b_ 7475 [w1] (qnk_ i x t5 t0 t)=qsg_ (fun t5 t0 t=>w1 (q48_ t5 t0 t)) i x t5 t0 t:=by
 rw [q6_ (by decide)]
 rw [q16s_]
 rfl
theorem q17v_  (w1 i x t5 t10 t0 t):jfn Tryz.prog q5r_ 6 18446744073709551616 (Ev.get q5i_) 183 q4b_ 59802 [w1] (qdu_ i x t5 t10 t0 t)=qsm_ (fun t5 t0 t=>w1 (q48_ t5 t0 t)) i x t5 t10 t0 t:=by
 rw [q6_ (by decide)]
 rw [qo_ (by kernel_rfl)]
 refine qj_ (σ:=(Int)×(Int)×(Int)×(Int)×(List Int)×(List Int)) (mk:=fun s=>qdu_ s.1 s.2.1 s.2.2.1 s.2.2.2.1 s.2.2.2.2.1 s.2.2.2.2.2) (fun w2 s=>?_) 18446744073709551616 (i,x,t5,t10,t0,t)
 have e3:(fun i x t5 t0 t=>(jfn Tryz.prog q5r_ 6 18446744073709551616 (Ev.get q5i_) 183 q4b_) 7475 [w1] (qnk_ i x t5 t0 t))=qsg_ (fun t5 t0 t=>w1 (q48_ t5 t0 t)):=by funext i x t5 t0 t; exact q18g_ w1 i x t5 t0 t
 refine (q15q_ _ w1 w2 s.1 s.2.1 s.2.2.1 s.2.2.2.1 s.2.2.2.2.1 s.2.2.2.2.2).trans ?_
 rw [e3]
theorem q18q_  (t5 t0 t):jfn Tryz.prog q5r_ 6 18446744073709551616 (Ev.get q5i_) 183 q4b_ 58 [] (q48_ t5 t0 t)=qsy_ t5 t0 t:=by
 rw [q6_ (by decide)]
 rw [qo_ (by kernel_rfl)]
 refine qj_ (σ:=(Int)×(List Int)×(List Int)) (mk:=fun s=>q48_ s.1 s.2.1 s.2.2) (fun w1 s=>?_) 18446744073709551616 (t5,t0,t)
 have e2:(fun i x t5 t10 t0 t=>(jfn Tryz.prog q5r_ 6 18446744073709551616 (Ev.get q5i_) 183 q4b_) 59802 [w1] (qdu_ i x t5 t10 t0 t))=qsm_ (fun t5 t0 t=>w1 (q48_ t5 t0 t)):=by funext i x t5 t10 t0 t; exact q17v_ w1 i x t5 t10 t0 t
 refine (q177_ _ w1 s.1 s.2.1 s.2.2).trans ?_
 rw [e2]
theorem q19x_ (x:As []):evT Tryz.prog q5r_ 6 18446744073709551616 (Ev.get q5i_) 183 q4b_ x=qqj_ x:=by
 have e1:(fun t5 t0 t=>(jfn Tryz.prog q5r_ 6 18446744073709551616 (Ev.get q5i_) 183 q4b_) 58 [] (q48_ t5 t0 t))=qsy_:=by funext t5 t0 t; exact q18q_ t5 t0 t
 rw [qi_,q17c_,e1]
 rfl
theorem q180_:CtOk Tryz.prog (fun _=>True) 183 ⟨q4b_,qqj_⟩:=qd_ q3_ q19x_
@[reducible] def qzx_:Sh:=⟨[.pb 0 0,.d (.int .u16),.d (.int .u8)],[.row (.int .u16) 242],[.int .u16,.int .u8,.sl (.int .u16)],[.d (.int .u16)],[(0,.row (.int .u16) 242)],0,[.int .u16,.sl (.int .u16)]⟩
def qto_ (t sum:Int) (c:List Int):Option (As [.int .u16,.sl (.int .u16)]) :=
 need (lt (Sx.band .u16 (Sx.bxor .u16 t (cvt .u16 sum)) 15) 16) (Option.bind (at? c (Sx.band .u16 (Sx.bxor .u16 t (cvt .u16 sum)) 15)) fun x=>Option.bind (at? c (Sx.band .u16 (Sx.bxor .u16 t (cvt .u16 sum)) 15)) fun y=>need (lt (Sx.band .u16 (Sx.bxor .u16 (Sx.shr .u16 (Sx.bxor .u16 t (cvt .u16 sum)) 4) y) 15) 16) (Option.bind (at? c (Sx.band .u16 (Sx.bxor .u16 (Sx.shr .u16 (Sx.bxor .u16 t (cvt .u16 sum)) 4) y) 15)) fun x=>Option.bind (at? c (Sx.band .u16 (Sx.bxor .u16 (Sx.shr .u16 (Sx.bxor .u16 t (cvt .u16 sum)) 4) y) 15)) fun y_1=>some (Sx.bxor .u16 (Sx.shr .u16 (Sx.bxor .u16 (Sx.shr .u16 (Sx.bxor .u16 t (cvt .u16 sum)) 4) y) 4) y_1,c,())))
def qv5_ (x:As [.int .u16,.int .u8,.sl (.int .u16)]):Option (As [.int .u16,.sl (.int .u16)]):=qto_ x.1 x.2.1 x.2.2.1
theorem q19p_:CtOk Tryz.prog (fun _=>True) 184 ⟨qzx_,qv5_⟩:=ctn q3_ 6 fun J x=>by kernel_rfl
@[reducible] def qlk_:Sh:=⟨[.d (.sl (.int .u8))],[],[.sl (.int .u8)],[.d (.int .u16)],[],0,[.int .u16]⟩
def qqm_:Env:=(cts [(183,(⟨q4b_,qqj_⟩:Ct)),(184,(⟨qzx_,qv5_⟩:Ct))])
def qq6_:List (Nat×Hint):=[(122,⟨[],[0,3,4,8,9]⟩)]
def qiu_ (b:List Int) (sum t8 t9:Int) (t:List Int):St:={ fr:=[(0,.d (.sl (.int .u8)) b),(3,.pb 0 0),(4,.d (.int .u16) sum),(8,.d (.int .i64) t8),(9,.d (.int .i64) t9)],nt:=20,up:=[],own:=[(0,.row (.int .u16) 242 t)],nx:=1,log:=[],ln:=0 }
def qi2_ (self1:List Int->Int->Int->Int->List Int->Option (As [.int .u16])) (b:List Int) (sum t8 t9:Int) (t:List Int):Option (As [.int .u16]) :=
 if lt t9 t8=true then Option.bind (at? b t9) fun y=>Option.bind (qv5_ (sum,y,t,())) fun y=>self1 b y.1 t8 (add .i64 t9 1) y.2.1 else some (sum,())
def qrv_ (j1:List Int->Int->Int->Int->List Int->Option (As [.int .u16])) (b:List Int):Option (As [.int .u16]) :=
 Option.bind (qqj_ ()) fun y=>need (eqi 16 (Int.ofNat (List.length y.1))) (need (eqi 16 (Int.ofNat (List.length y.1 * 1))) (j1 b 65535 (Int.ofNat (List.length b)) 0 y.1))
def qnr_ (b:List Int) (sum t8 t9:Int) (t:List Int):Option (As [.int .u16]) :=
 loopF (fun (self:(List Int)×(Int)×(Int)×(Int)×(List Int)->Option (As [.int .u16])) (s:(List Int)×(Int)×(Int)×(Int)×(List Int))=>qi2_ (fun b sum t8 t9 t=>self (b,sum,t8,t9,t)) s.1 s.2.1 s.2.2.1 s.2.2.2.1 s.2.2.2.2) 18446744073709551616 (b,sum,t8,t9,t)
def qu9_ (x:As [.sl (.int .u8)]):Option (As [.int .u16]):=qrv_ qnr_ x.1
theorem q1at_  (J w1 b sum t8 t9 t):pfn Tryz.prog qqm_ 6 18446744073709551616 (Ev.get qq6_) 140 qlk_ J 122 [w1] (qiu_ b sum t8 t9 t)=qi2_ (fun b sum t8 t9 t=>w1 (qiu_ b sum t8 t9 t)) b sum t8 t9 t:=by kernel_rfl
theorem q1ah_ (J:Orc (As [.int .u16])) (x:As [.sl (.int .u8)]):rfn Tryz.prog qqm_ 6 18446744073709551616 (Ev.get qq6_) 140 qlk_ J x=qrv_ (fun b sum t8 t9 t=>J 122 [] (qiu_ b sum t8 t9 t)) x.1:=by kernel_rfl
theorem q1aj_  (b sum t8 t9 t):jfn Tryz.prog qqm_ 6 18446744073709551616 (Ev.get qq6_) 140 qlk_ 122 [] (qiu_ b sum t8 t9 t)=qnr_ b sum t8 t9 t:=by
 rw [q6_ (by decide)]
 rw [qo_ (by kernel_rfl)]
 refine qj_ (σ:=(List Int)×(Int)×(Int)×(Int)×(List Int)) (mk:=fun s=>qiu_ s.1 s.2.1 s.2.2.1 s.2.2.2.1 s.2.2.2.2) (fun w1 s=>?_) 18446744073709551616 (b,sum,t8,t9,t)
 refine (q1at_ _ w1 s.1 s.2.1 s.2.2.1 s.2.2.2.1 s.2.2.2.2).trans ?_
 rfl
theorem q1av_ (x:As [.sl (.int .u8)]):evT Tryz.prog qqm_ 6 18446744073709551616 (Ev.get qq6_) 140 qlk_ x=qu9_ x:=by
 have e1:(fun b sum t8 t9 t=>(jfn Tryz.prog qqm_ 6 18446744073709551616 (Ev.get qq6_) 140 qlk_) 122 [] (qiu_ b sum t8 t9 t))=qnr_:=by funext b sum t8 t9 t; exact q1aj_ b sum t8 t9 t
 rw [qi_,q1ah_,e1]
 rfl
theorem q10l_:CtOk Tryz.prog (fun _=>True) 140 ⟨qlk_,qu9_⟩:=qd_ (q0_ q180_ (q0_ q19p_ q3_)) q1av_
@[reducible] def q137_:Sh:=⟨[.d (.sl (.int .u8))],[],[.sl (.int .u8)],[.d (.sl (.int .u8))],[],0,[.sl (.int .u8)]⟩
def qv2_ (b:List Int):Option (As [.sl (.int .u8)]) :=
 Option.bind (qu9_ (b,())) fun y=>need (Ev.capOk 0 (add .i64 (Int.ofNat (List.length b)) 2)) (need (small (Int.toNat (add .i64 (Int.ofNat (List.length b)) 2))) (need (small (0 + List.length b)) (need (small (List.length b + Nat.succ (Nat.succ 0))) (some (b++[cvt .u8 y.1,cvt .u8 (Sx.shr .u16 y.1 8)],())))))
def qxv_ (x:As [.sl (.int .u8)]):Option (As [.sl (.int .u8)]):=qv2_ x.1
theorem q1ae_:CtOk Tryz.prog (fun _=>True) 86 ⟨q137_,qxv_⟩:=ctn (q0_ q10l_ q3_) 6 fun J x=>by kernel_rfl
@[reducible] def qcp_:Sh:=⟨[.d (.int .u8),.d (.sl (.int .u8))],[],[.int .u8,.sl (.int .u8)],[.d (.sl (.int .u8)),.d (.int .i64)],[],0,[.sl (.int .u8),.int .i64]⟩
def qjc_:Env:=(cts [(85,(⟨qsr_,qev_⟩:Ct)),(86,(⟨q137_,qxv_⟩:Ct))])
def qjo_:List (Nat×Hint):=[(6,⟨[],[0,1,18]⟩)]
def qnt_ (unit:Int) (pdu:List Int) (t18:Bool):St:={ fr:=[(0,.d (.int .u8) unit),(1,.d (.sl (.int .u8)) pdu),(18,.d .bool t18)],nt:=24,up:=[],own:=[],nx:=0,log:=[],ln:=0 }
def qng_ (unit:Int) (pdu:List Int) (t18:Bool):Option (As [.sl (.int .u8),.int .i64]) :=
 if t18=true then some ([],2,()) else need (small (Nat.succ 0 + List.length pdu)) (Option.bind (qxv_ (unit::pdu,())) fun y=>some (y.1,0,()))
def qne_ (j1:Int->List Int->Bool->Option (As [.sl (.int .u8),.int .i64])) (unit:Int) (pdu:List Int):Option (As [.sl (.int .u8),.int .i64]) :=
 Option.bind (qev_ (unit,())) fun y=>if (!y.1)=true then j1 unit pdu true else if lt (Int.ofNat (List.length pdu)) 1=true then j1 unit pdu true else j1 unit pdu (gt (Int.ofNat (List.length pdu)) 253)
def qnf_ (unit:Int) (pdu:List Int) (t18:Bool):Option (As [.sl (.int .u8),.int .i64]):=qng_ unit pdu t18
def qqq_ (x:As [.int .u8,.sl (.int .u8)]):Option (As [.sl (.int .u8),.int .i64]):=qne_ qnf_ x.1 x.2.1
theorem q162_  (J unit pdu t18):pfn Tryz.prog qjc_ 6 18446744073709551616 (Ev.get qjo_) 28 qcp_ J 6 [] (qnt_ unit pdu t18)=qng_ unit pdu t18:=by kernel_rfl
theorem q18o_ (J:Orc (As [.sl (.int .u8),.int .i64])) (x:As [.int .u8,.sl (.int .u8)]):rfn Tryz.prog qjc_ 6 18446744073709551616 (Ev.get qjo_) 28 qcp_ J x=qne_ (fun unit pdu t18=>J 6 [] (qnt_ unit pdu t18)) x.1 x.2.1:=by kernel_rfl
theorem q18x_  (unit pdu t18):jfn Tryz.prog qjc_ 6 18446744073709551616 (Ev.get qjo_) 28 qcp_ 6 [] (qnt_ unit pdu t18)=qnf_ unit pdu t18:=by
 rw [q6_ (by decide)]
 rw [q162_]
 rfl
theorem q1ac_ (x:As [.int .u8,.sl (.int .u8)]):evT Tryz.prog qjc_ 6 18446744073709551616 (Ev.get qjo_) 28 qcp_ x=qqq_ x:=by
 have e1:(fun unit pdu t18=>(jfn Tryz.prog qjc_ 6 18446744073709551616 (Ev.get qjo_) 28 qcp_) 6 [] (qnt_ unit pdu t18))=qnf_:=by funext unit pdu t18; exact q18x_ unit pdu t18
 rw [qi_,q18o_,e1]
 rfl
theorem q16v_:CtOk Tryz.prog (fun _=>True) 28 ⟨qcp_,qqq_⟩:=qd_ (q0_ qvn_ (q0_ q1ae_ q3_)) q1ac_
@[reducible] def q138_:Sh:=⟨[.d (.sl (.int .u8))],[],[.sl (.int .u8)],[.d (.sl (.int .u8)),.d (.int .i64)],[],0,[.sl (.int .u8),.int .i64]⟩
def qvd_ (b:List Int):Option (As [.sl (.int .u8),.int .i64]) :=
 if lt (Int.ofNat (List.length b)) 2=true then some ([],10,()) else Option.bind (cut b 0 (Sx.sub .i64 (Int.ofNat (List.length b)) 2)) fun y=>Option.bind (at? b (Sx.sub .i64 (Int.ofNat (List.length b)) 2)) fun y_1=>Option.bind (at? b (add .i64 (Sx.sub .i64 (Int.ofNat (List.length b)) 2) 1)) fun y_2=>Option.bind (qu9_ (y,())) fun y=>if nei y.1 (Sx.bor .u16 (cvt .u16 y_1) (Sx.shl .u16 (cvt .u16 y_2) 8))=true then some ([],11,()) else need (ge (Sx.sub .i64 (Int.ofNat (List.length b)) 2) 0) (need (Ev.capOk (Sx.sub .i64 (Int.ofNat (List.length b)) 2) (Sx.sub .i64 (Int.ofNat (List.length b)) 2)) (need (small (Int.toNat (Sx.sub .i64 (Int.ofNat (List.length b)) 2))) (need (le (Int.ofNat (0 + List.length (List.replicate (α:=Int) (Int.toNat (Sx.sub .i64 (Int.ofNat (List.length b)) 2)) 0))) (Int.ofNat (List.length (List.replicate (α:=Int) (Int.toNat (Sx.sub .i64 (Int.ofNat (List.length b)) 2)) 0)))) (some (List.take (Int.toNat (Int.ofNat (List.length (List.replicate (α:=Int) (Int.toNat (Sx.sub .i64 (Int.ofNat (List.length b)) 2)) 0)))) b++List.drop (0 + List.length (List.take (Int.toNat (Int.ofNat (List.length (List.replicate (α:=Int) (Int.toNat (Sx.sub .i64 (Int.ofNat (List.length b)) 2)) 0)))) b)) (List.replicate (Int.toNat (Sx.sub .i64 (Int.ofNat (List.length b)) 2)) 0),0,())))))
def qxt_ (x:As [.sl (.int .u8)]):Option (As [.sl (.int .u8),.int .i64]):=qvd_ x.1
theorem q1ak_:CtOk Tryz.prog (fun _=>True) 89 ⟨q138_,qxt_⟩:=ctn (q0_ q10l_ q3_) 6 fun J x=>by kernel_rfl
@[reducible] def qca_:Sh:=⟨[.d (.sl (.int .u8))],[],[.sl (.int .u8)],[.d (.int .u8),.d (.sl (.int .u8)),.d (.int .i64)],[],0,[.int .u8,.sl (.int .u8),.int .i64]⟩
def qjt_:Env:=(cts [(85,(⟨qsr_,qev_⟩:Ct)),(89,(⟨q138_,qxt_⟩:Ct))])
def qji_:List (Nat×Hint):=[(6,⟨[],[0,14]⟩)]
def qn7_ (b:List Int) (t14:Bool):St:={ fr:=[(0,.d (.sl (.int .u8)) b),(14,.d .bool t14)],nt:=37,up:=[],own:=[],nx:=0,log:=[],ln:=0 }
def qo2_ (b:List Int) (t14:Bool):Option (As [.int .u8,.sl (.int .u8),.int .i64]) :=
 if t14=true then some (0,[],10,()) else Option.bind (qxt_ (b,())) fun y=>if nei y.2.1 0=true then some (0,[],y.2.1,()) else Option.bind (at? y.1 0) fun y_1=>Option.bind (qev_ (y_1,())) fun y_2=>if (!y_2.1)=true then some (0,[],10,()) else Option.bind (at? y.1 0) fun y_3=>Option.bind (cut y.1 1 (Int.ofNat (List.length y.1))) fun y_4=>need (le (Int.ofNat (List.length y.1)) (Int.ofNat (List.length y.1))) (need (le (Int.ofNat (List.length y.1)) (Int.ofNat (List.length y.1))) (some (y_3,y_4,0,())))
def qmz_ (j1:List Int->Bool->Option (As [.int .u8,.sl (.int .u8),.int .i64])) (b:List Int):Option (As [.int .u8,.sl (.int .u8),.int .i64]) :=
 if lt (Int.ofNat (List.length b)) 4=true then j1 b true else j1 b (gt (Int.ofNat (List.length b)) 256)
def qgy_ (b:List Int) (t14:Bool):Option (As [.int .u8,.sl (.int .u8),.int .i64]):=qo2_ b t14
def qqs_ (x:As [.sl (.int .u8)]):Option (As [.int .u8,.sl (.int .u8),.int .i64]):=qmz_ qgy_ x.1
theorem q163_  (J b t14):pfn Tryz.prog qjt_ 6 18446744073709551616 (Ev.get qji_) 30 qca_ J 6 [] (qn7_ b t14)=qo2_ b t14:=by kernel_rfl
theorem q17q_ (J:Orc (As [.int .u8,.sl (.int .u8),.int .i64])) (x:As [.sl (.int .u8)]):rfn Tryz.prog qjt_ 6 18446744073709551616 (Ev.get qji_) 30 qca_ J x=qmz_ (fun b t14=>J 6 [] (qn7_ b t14)) x.1:=by kernel_rfl
theorem q15u_  (b t14):jfn Tryz.prog qjt_ 6 18446744073709551616 (Ev.get qji_) 30 qca_ 6 [] (qn7_ b t14)=qgy_ b t14:=by
 rw [q6_ (by decide)]
 rw [q163_]
 rfl
theorem q19q_ (x:As [.sl (.int .u8)]):evT Tryz.prog qjt_ 6 18446744073709551616 (Ev.get qji_) 30 qca_ x=qqs_ x:=by
 have e1:(fun b t14=>(jfn Tryz.prog qjt_ 6 18446744073709551616 (Ev.get qji_) 30 qca_) 6 [] (qn7_ b t14))=qgy_:=by funext b t14; exact q15u_ b t14
 rw [qi_,q17q_,e1]
 rfl
theorem q17w_:CtOk Tryz.prog (fun _=>True) 30 ⟨qca_,qqs_⟩:=qd_ (q0_ qvn_ (q0_ q1ak_ q3_)) q19q_
@[reducible] def q1y_:Sh:=⟨[.d (.sl (.int .u8))],[],[.sl (.int .u8)],[.d (.bool)],[],0,[.bool]⟩
def q2o_:Env:=(cts [])
def q2n_:List (Nat×Hint):=[(26,⟨[],[0,3,7,8,9,10,17,18,19,20,21,26,27,28,29,30,31,32,33,34,35,36,37,38]⟩),(841,⟨[.agd 32 (.sl (.int .u8)),.agd 33 (.int .i64),.agd 35 (.int .u8),.agd 36 (.int .i64),.agd 37 .bool,.agd 26 (.sl (.int .u8)),.agd 27 (.int .i64),.agd 29 (.int .u8),.agd 30 .bool,.agd 31 .bool,.agd 38 .bool],[0,3,39]⟩),(840,⟨[.agd 17 (.sl (.int .u8)),.agd 18 (.int .i64),.agd 20 (.int .u8),.agd 21 .bool],[0,3,22]⟩),(104,⟨[.agd 7 (.int .i64),.agd 8 (.sl (.int .u8)),.agd 9 (.int .i64),.agd 10 .bool],[0,3,11]⟩)]
def q1x_ (b:List Int) (i:Int):St:={ fr:=[(0,.d (.sl (.int .u8)) b),(3,.d (.int .i64) i)],nt:=40,up:=[],own:=[],nx:=0,log:=[],ln:=0 }
def qiw_ (b:List Int) (i:Int) (t11:Bool):St:={ fr:=[(0,.d (.sl (.int .u8)) b),(3,.d (.int .i64) i),(11,.d .bool t11)],nt:=40,up:=[],own:=[],nx:=0,log:=[],ln:=0 }
def qij_ (b:List Int) (i:Int) (t22:Bool):St:={ fr:=[(0,.d (.sl (.int .u8)) b),(3,.d (.int .i64) i),(22,.d .bool t22)],nt:=40,up:=[],own:=[],nx:=0,log:=[],ln:=0 }
def qid_ (b:List Int) (i:Int) (t39:Bool):St:={ fr:=[(0,.d (.sl (.int .u8)) b),(3,.d (.int .i64) i),(39,.d .bool t39)],nt:=40,up:=[],own:=[],nx:=0,log:=[],ln:=0 }
def q6c_ (j2:List Int->Int->Bool->Option (As [.bool])) (self1:List Int->Int->Option (As [.bool])) (b:List Int) (i:Int):Option (As [.bool]) :=
 if lt i 6=true then j2 b i (lt i (Int.ofNat (List.length b))) else j2 b i false
def qia_ (j3:List Int->Int->Bool->Option (As [.bool])) (self1:List Int->Int->Option (As [.bool])) (b:List Int) (i:Int) (t11:Bool):Option (As [.bool]) :=
 if t11=true then if lt i 5=true then Option.bind (at? b i) fun y=>j3 b i (nei y 0) else j3 b i false else some (true,())
def qi6_ (j4:List Int->Int->Bool->Option (As [.bool])) (self1:List Int->Int->Option (As [.bool])) (b:List Int) (i:Int) (t22:Bool):Option (As [.bool]) :=
 if t22=true then some (false,()) else if eqi i 5=true then Option.bind (at? b i) fun y=>if lt y 2=true then j4 b i true else Option.bind (at? b i) fun y=>j4 b i (gt (cvt .i64 y) 254) else j4 b i false
def quw_ (self1:List Int->Int->Option (As [.bool])) (b:List Int) (i:Int) (t39:Bool):Option (As [.bool]) :=
 if t39=true then some (false,()) else self1 b (add .i64 i 1)
def qim_ (j1:List Int->Int->Option (As [.bool])) (b:List Int):Option (As [.bool]) :=
 j1 b 2
def qoy_ (u1:List Int->Int->Option (As [.bool])) (b:List Int) (i:Int) (t39:Bool):Option (As [.bool]):=quw_ u1 b i t39
def qd5_ (u1:List Int->Int->Option (As [.bool])) (b:List Int) (i:Int) (t22:Bool):Option (As [.bool]):=qi6_ (qoy_ u1) u1 b i t22
def q51_ (u1:List Int->Int->Option (As [.bool])) (b:List Int) (i:Int) (t11:Bool):Option (As [.bool]):=qia_ (qd5_ u1) u1 b i t11
def qe4_ (b:List Int) (i:Int):Option (As [.bool]) :=
 loopF (fun (self:(List Int)×(Int)->Option (As [.bool])) (s:(List Int)×(Int))=>q6c_ (q51_ (fun b i=>self (b,i))) (fun b i=>self (b,i)) s.1 s.2) 18446744073709551616 (b,i)
def qje_ (x:As [.sl (.int .u8)]):Option (As [.bool]):=qim_ qe4_ x.1
theorem q120_  (J w1 b i t39):pfn Tryz.prog q2o_ 6 18446744073709551616 (Ev.get q2n_) 185 q1y_ J 841 [w1] (qid_ b i t39)=quw_ (fun b i=>w1 (q1x_ b i)) b i t39:=by kernel_rfl
theorem q12s_  (J w1 b i t22):pfn Tryz.prog q2o_ 6 18446744073709551616 (Ev.get q2n_) 185 q1y_ J 840 [w1] (qij_ b i t22)=qi6_ (fun b i t39=>J 841 [w1] (qid_ b i t39)) (fun b i=>w1 (q1x_ b i)) b i t22:=by kernel_rfl
theorem q127_  (J w1 b i t11):pfn Tryz.prog q2o_ 6 18446744073709551616 (Ev.get q2n_) 185 q1y_ J 104 [w1] (qiw_ b i t11)=qia_ (fun b i t22=>J 840 [w1] (qij_ b i t22)) (fun b i=>w1 (q1x_ b i)) b i t11:=by kernel_rfl
theorem q12r_  (J w1 b i):pfn Tryz.prog q2o_ 6 18446744073709551616 (Ev.get q2n_) 185 q1y_ J 26 [w1] (q1x_ b i)=q6c_ (fun b i t11=>J 104 [w1] (qiw_ b i t11)) (fun b i=>w1 (q1x_ b i)) b i:=by kernel_rfl
theorem q11j_ (J:Orc (As [.bool])) (x:As [.sl (.int .u8)]):rfn Tryz.prog q2o_ 6 18446744073709551616 (Ev.get q2n_) 185 q1y_ J x=qim_ (fun b i=>J 26 [] (q1x_ b i)) x.1:=by kernel_rfl
theorem q11u_  (w1 b i t39):jfn Tryz.prog q2o_ 6 18446744073709551616 (Ev.get q2n_) 185 q1y_ 841 [w1] (qid_ b i t39)=qoy_ (fun b i=>w1 (q1x_ b i)) b i t39:=by
 rw [q6_ (by decide)]
 rw [q120_]
 rfl
theorem q11l_  (w1 b i t22):jfn Tryz.prog q2o_ 6 18446744073709551616 (Ev.get q2n_) 185 q1y_ 840 [w1] (qij_ b i t22)=qd5_ (fun b i=>w1 (q1x_ b i)) b i t22:=by
 rw [q6_ (by decide)]
 have e4:(fun b i t39=>(jfn Tryz.prog q2o_ 6 18446744073709551616 (Ev.get q2n_) 185 q1y_) 841 [w1] (qid_ b i t39))=qoy_ (fun b i=>w1 (q1x_ b i)):=by funext b i t39; exact q11u_ w1 b i t39
 rw [q12s_,e4]
 rfl
theorem q134_  (w1 b i t11):jfn Tryz.prog q2o_ 6 18446744073709551616 (Ev.get q2n_) 185 q1y_ 104 [w1] (qiw_ b i t11)=q51_ (fun b i=>w1 (q1x_ b i)) b i t11:=by
 rw [q6_ (by decide)]
 have e3:(fun b i t22=>(jfn Tryz.prog q2o_ 6 18446744073709551616 (Ev.get q2n_) 185 q1y_) 840 [w1] (qij_ b i t22))=qd5_ (fun b i=>w1 (q1x_ b i)):=by funext b i t22; exact q11l_ w1 b i t22
 rw [q127_,e3]
 rfl
theorem q112_  (b i):jfn Tryz.prog q2o_ 6 18446744073709551616 (Ev.get q2n_) 185 q1y_ 26 [] (q1x_ b i)=qe4_ b i:=by
 rw [q6_ (by decide)]
 rw [qo_ (by kernel_rfl)]
 refine qj_ (σ:=(List Int)×(Int)) (mk:=fun s=>q1x_ s.1 s.2) (fun w1 s=>?_) 18446744073709551616 (b,i)
 have e2:(fun b i t11=>(jfn Tryz.prog q2o_ 6 18446744073709551616 (Ev.get q2n_) 185 q1y_) 104 [w1] (qiw_ b i t11))=q51_ (fun b i=>w1 (q1x_ b i)):=by funext b i t11; exact q134_ w1 b i t11
 refine (q12r_ _ w1 s.1 s.2).trans ?_
 rw [e2]
theorem q13t_ (x:As [.sl (.int .u8)]):evT Tryz.prog q2o_ 6 18446744073709551616 (Ev.get q2n_) 185 q1y_ x=qje_ x:=by
 have e1:(fun b i=>(jfn Tryz.prog q2o_ 6 18446744073709551616 (Ev.get q2n_) 185 q1y_) 26 [] (q1x_ b i))=qe4_:=by funext b i; exact q112_ b i
 rw [qi_,q11j_,e1]
 rfl
theorem q111_:CtOk Tryz.prog (fun _=>True) 185 ⟨q1y_,qje_⟩:=qd_ q3_ q13t_
@[reducible] def qaq_:Sh:=⟨[.d (.sl (.int .u8))],[],[.sl (.int .u8)],[.d (.pr (.int .u16) YTT14),.d (.int .i64)],[],0,[.pr (.int .u16) YTT14,.int .i64]⟩
def qhk_:Env:=(cts [(185,(⟨q1y_,qje_⟩:Ct))])
def qh5_:List (Nat×Hint):=[(6,⟨[],[0,2,13]⟩)]
def qkr_ (b:List Int) (t13:Bool) (t2 t2_2:Int):St:={ fr:=[(0,.d (.sl (.int .u8)) b),(2,.pb 0 0),(13,.d .bool t13)],nt:=49,up:=[],own:=[(0,.box 148 [.d (.int .u16) t2,.d (.int .u8) t2_2,.k (Go.Value.slice Option.none 0 0)])],nx:=1,log:=[],ln:=0 }
def qjw_ (b:List Int) (t13:Bool) (t2 t2_2:Int):Option (As [.pr (.int .u16) YTT14,.int .i64]) :=
 if t13=true then some ((0,0,[]),0,()) else Option.bind (at? b 5) fun y=>if lt (Int.ofNat (List.length b)) (add .i64 6 (cvt .i64 y))=true then some ((0,0,[]),0,()) else need (ge (Sx.sub .i64 (add .i64 6 (cvt .i64 y)) 7) 0) (need (Ev.capOk (Sx.sub .i64 (add .i64 6 (cvt .i64 y)) 7) (Sx.sub .i64 (add .i64 6 (cvt .i64 y)) 7)) (need (small (Int.toNat (Sx.sub .i64 (add .i64 6 (cvt .i64 y)) 7))) (Option.bind (cut b 7 (add .i64 6 (cvt .i64 y))) fun y_1=>need (le (Int.ofNat (0 + List.length (List.replicate (α:=Int) (Int.toNat (Sx.sub .i64 (add .i64 6 (cvt .i64 y)) 7)) 0))) (Int.ofNat (List.length (List.replicate (α:=Int) (Int.toNat (Sx.sub .i64 (add .i64 6 (cvt .i64 y)) 7)) 0)))) (Option.bind (at? b 0) fun y_2=>Option.bind (at? b 1) fun y_3=>Option.bind (at? b 6) fun y_4=>some ((Sx.bor .u16 (Sx.shl .u16 (cvt .u16 y_2) 8) (cvt .u16 y_3),y_4,List.take (Int.toNat (Int.ofNat (List.length (List.replicate (α:=Int) (Int.toNat (Sx.sub .i64 (add .i64 6 (cvt .i64 y)) 7)) 0)))) y_1++List.drop (0 + List.length (List.take (Int.toNat (Int.ofNat (List.length (List.replicate (α:=Int) (Int.toNat (Sx.sub .i64 (add .i64 6 (cvt .i64 y)) 7)) 0)))) y_1)) (List.replicate (Int.toNat (Sx.sub .i64 (add .i64 6 (cvt .i64 y)) 7)) 0)),add .i64 6 (cvt .i64 y),())))))
def qbj_ (j1:List Int->Bool->Int->Int->Option (As [.pr (.int .u16) YTT14,.int .i64])) (b:List Int):Option (As [.pr (.int .u16) YTT14,.int .i64]) :=
 if le (Int.ofNat (List.length b)) 7=true then j1 b true 0 0 else Option.bind (qje_ (b,())) fun y=>j1 b (!y.1) 0 0
def qg1_ (b:List Int) (t13:Bool) (t2 t2_2:Int):Option (As [.pr (.int .u16) YTT14,.int .i64]):=qjw_ b t13 t2 t2_2
def qis_ (x:As [.sl (.int .u8)]):Option (As [.pr (.int .u16) YTT14,.int .i64]):=qbj_ qg1_ x.1
theorem q14u_  (J b t13 t2 t2_2):pfn Tryz.prog qhk_ 6 18446744073709551616 (Ev.get qh5_) 141 qaq_ J 6 [] (qkr_ b t13 t2 t2_2)=qjw_ b t13 t2 t2_2:=by kernel_rfl
theorem q153_ (J:Orc (As [.pr (.int .u16) YTT14,.int .i64])) (x:As [.sl (.int .u8)]):rfn Tryz.prog qhk_ 6 18446744073709551616 (Ev.get qh5_) 141 qaq_ J x=qbj_ (fun b t13 t2 t2_2=>J 6 [] (qkr_ b t13 t2 t2_2)) x.1:=by kernel_rfl
theorem q14o_  (b t13 t2 t2_2):jfn Tryz.prog qhk_ 6 18446744073709551616 (Ev.get qh5_) 141 qaq_ 6 [] (qkr_ b t13 t2 t2_2)=qg1_ b t13 t2 t2_2:=by
 rw [q6_ (by decide)]
 rw [q14u_]
 rfl
theorem q18u_ (x:As [.sl (.int .u8)]):evT Tryz.prog qhk_ 6 18446744073709551616 (Ev.get qh5_) 141 qaq_ x=qis_ x:=by
 have e1:(fun b t13 t2 t2_2=>(jfn Tryz.prog qhk_ 6 18446744073709551616 (Ev.get qh5_) 141 qaq_) 6 [] (qkr_ b t13 t2 t2_2))=qg1_:=by funext b t13 t2 t2_2; exact q14o_ b t13 t2 t2_2
 rw [qi_,q153_,e1]
 rfl
theorem q13v_:CtOk Tryz.prog (fun _=>True) 141 ⟨qaq_,qis_⟩:=qd_ (q0_ q111_ q3_) q18u_
@[reducible] def qa0_:Sh:=⟨[.d (.sl (.int .u8))],[],[.sl (.int .u8)],[.d (.pr (.int .u16) YTT14),.d (.int .i64)],[],0,[.pr (.int .u16) YTT14,.int .i64]⟩
def qhc_:Env:=(cts [(141,(⟨qaq_,qis_⟩:Ct))])
def qha_:List (Nat×Hint):=[(14,⟨[],[2,4,18]⟩)]
def qks_ (t18:Bool) (t2 t2_2:Int) (x:Int×Int×List Int):St:={ fr:=[(2,.pb 0 0),(4,.pb 1 0),(18,.d .bool t18)],nt:=21,up:=[],own:=[(0,.box 148 [.d (.int .u16) t2,.d (.int .u8) t2_2,.k (Go.Value.slice Option.none 0 0)]),(1,.box 148 [.d (.int .u16) x.1,.d (.int .u8) x.2.1,.d (.sl (.int .u8)) x.2.2])],nx:=2,log:=[],ln:=0 }
def qvl_ (t18:Bool) (t2 t2_2:Int) (x:Int×Int×List Int):Option (As [.pr (.int .u16) YTT14,.int .i64]) :=
 if t18=true then some ((0,0,[]),10,()) else some (x,0,())
def qky_ (j1:Bool->Int->Int->Int×Int×List Int->Option (As [.pr (.int .u16) YTT14,.int .i64])) (b:List Int):Option (As [.pr (.int .u16) YTT14,.int .i64]) :=
 Option.bind (qis_ (b,())) fun y=>if eqi y.2.1 0=true then j1 true 0 0 y.1 else j1 (nei y.2.1 (Int.ofNat (List.length b))) 0 0 y.1
def qft_ (t18:Bool) (t2 t2_2:Int) (x:Int×Int×List Int):Option (As [.pr (.int .u16) YTT14,.int .i64]):=qvl_ t18 t2 t2_2 x
def qn0_ (x:As [.sl (.int .u8)]):Option (As [.pr (.int .u16) YTT14,.int .i64]):=qky_ qft_ x.1
theorem q157_  (J t18 t2 t2_2 x):pfn Tryz.prog qhc_ 6 18446744073709551616 (Ev.get qha_) 87 qa0_ J 14 [] (qks_ t18 t2 t2_2 x)=qvl_ t18 t2 t2_2 x:=by kernel_rfl
theorem q15o_ (J:Orc (As [.pr (.int .u16) YTT14,.int .i64])) (x:As [.sl (.int .u8)]):rfn Tryz.prog qhc_ 6 18446744073709551616 (Ev.get qha_) 87 qa0_ J x=qky_ (fun t18 t2 t2_2 x=>J 14 [] (qks_ t18 t2 t2_2 x)) x.1:=by kernel_rfl
theorem q14b_  (t18 t2 t2_2 x):jfn Tryz.prog qhc_ 6 18446744073709551616 (Ev.get qha_) 87 qa0_ 14 [] (qks_ t18 t2 t2_2 x)=qft_ t18 t2 t2_2 x:=by
 rw [q6_ (by decide)]
 rw [q157_]
 rfl
theorem q16g_ (x:As [.sl (.int .u8)]):evT Tryz.prog qhc_ 6 18446744073709551616 (Ev.get qha_) 87 qa0_ x=qn0_ x:=by
 have e1:(fun t18 t2 t2_2 x=>(jfn Tryz.prog qhc_ 6 18446744073709551616 (Ev.get qha_) 87 qa0_) 14 [] (qks_ t18 t2 t2_2 x))=qft_:=by funext t18 t2 t2_2 x; exact q14b_ t18 t2 t2_2 x
 rw [qi_,q15o_,e1]
 rfl
theorem q14w_:CtOk Tryz.prog (fun _=>True) 87 ⟨qa0_,qn0_⟩:=qd_ (q0_ q13v_ q3_) q16g_
@[reducible] def qck_:Sh:=⟨[.d (.pr (.int .u16) YTT14)],[],[.pr (.int .u16) YTT14],[.d (.sl (.int .u8)),.d (.int .i64)],[],0,[.sl (.int .u8),.int .i64]⟩
def qjs_:Env:=(cts [])
def qjl_:List (Nat×Hint):=[(14,⟨[],[1,4,14]⟩)]
def qm4_ (n:Int) (t14:Bool) (x:Int×Int×List Int):St:={ fr:=[(1,.pb 0 0),(4,.d (.int .i64) n),(14,.d .bool t14)],nt:=37,up:=[],own:=[(0,.box 148 [.d (.int .u16) x.1,.d (.int .u8) x.2.1,.d (.sl (.int .u8)) x.2.2])],nx:=1,log:=[],ln:=0 }
def qm6_ (n:Int) (t14:Bool) (x:Int×Int×List Int):Option (As [.sl (.int .u8),.int .i64]) :=
 if t14=true then some ([],2,()) else need (Ev.capOk 0 (add .i64 7 n)) (need (small (Int.toNat (add .i64 7 n))) (need (small (0 + Nat.succ (Nat.succ (Nat.succ (Nat.succ (Nat.succ (Nat.succ (Nat.succ 0)))))))) (need (small (Nat.succ (Nat.succ (Nat.succ (Nat.succ (Nat.succ (Nat.succ (Nat.succ 0)))))) + List.length x.2.2)) (some (cvt .u8 (Sx.shr .u16 x.1 8)::cvt .u8 x.1::0::0::0::cvt .u8 (add .i64 n 1)::x.2.1::x.2.2,0,())))))
def qmm_ (j1:Int->Bool->Int×Int×List Int->Option (As [.sl (.int .u8),.int .i64])) (x:Int×Int×List Int):Option (As [.sl (.int .u8),.int .i64]) :=
 if lt (Int.ofNat (List.length x.2.2)) 1=true then j1 (Int.ofNat (List.length x.2.2)) true x else j1 (Int.ofNat (List.length x.2.2)) (gt (Int.ofNat (List.length x.2.2)) 253) x
def qlr_ (n:Int) (t14:Bool) (x:Int×Int×List Int):Option (As [.sl (.int .u8),.int .i64]):=qm6_ n t14 x
def qqi_ (x:As [.pr (.int .u16) YTT14]):Option (As [.sl (.int .u8),.int .i64]):=qmm_ qlr_ x.1
theorem q16d_  (J n t14 x):pfn Tryz.prog qjs_ 6 18446744073709551616 (Ev.get qjl_) 88 qck_ J 14 [] (qm4_ n t14 x)=qm6_ n t14 x:=by kernel_rfl
theorem q18y_ (J:Orc (As [.sl (.int .u8),.int .i64])) (x:As [.pr (.int .u16) YTT14]):rfn Tryz.prog qjs_ 6 18446744073709551616 (Ev.get qjl_) 88 qck_ J x=qmm_ (fun n t14 x=>J 14 [] (qm4_ n t14 x)) x.1:=by kernel_rfl
theorem q18s_  (n t14 x):jfn Tryz.prog qjs_ 6 18446744073709551616 (Ev.get qjl_) 88 qck_ 14 [] (qm4_ n t14 x)=qlr_ n t14 x:=by
 rw [q6_ (by decide)]
 rw [q16d_]
 rfl
theorem q1ab_ (x:As [.pr (.int .u16) YTT14]):evT Tryz.prog qjs_ 6 18446744073709551616 (Ev.get qjl_) 88 qck_ x=qqi_ x:=by
 have e1:(fun n t14 x=>(jfn Tryz.prog qjs_ 6 18446744073709551616 (Ev.get qjl_) 88 qck_) 14 [] (qm4_ n t14 x))=qlr_:=by funext n t14 x; exact q18s_ n t14 x
 rw [qi_,q18y_,e1]
 rfl
theorem q15r_:CtOk Tryz.prog (fun _=>True) 88 ⟨qck_,qqi_⟩:=qd_ q3_ q1ab_
@[reducible] def q5x_:Sh:=⟨[.d (.pr (.int .u8) (.pr (.int .u8) (.pr (.pr (.sl (.int .u16)) YTT0) (.sl .bool)))),.d (.sl (.int .u8))],[],[.pr (.int .u8) (.pr (.int .u8) (.pr (.pr (.sl (.int .u16)) YTT0) (.sl .bool))),.sl (.int .u8)],[.d (.pr (.int .u8) (.pr (.int .u8) (.pr (.pr (.sl (.int .u16)) YTT0) (.sl .bool)))),.d (.sl (.int .u8))],[],0,[.pr (.int .u8) (.pr (.int .u8) (.pr (.pr (.sl (.int .u16)) YTT0) (.sl .bool))),.sl (.int .u8)]⟩
def q8c_:Env:=(cts [(14,(⟨qfl_,q85_⟩:Ct)),(28,(⟨qcp_,qqq_⟩:Ct)),(30,(⟨qca_,qqs_⟩:Ct)),(63,(⟨qch_,qeb_⟩:Ct)),(87,(⟨qa0_,qn0_⟩:Ct)),(88,(⟨qck_,qqi_⟩:Ct))])
def q8f_:List (Nat×Hint):=[(30,⟨[],[2,4,10,11,62]⟩),(106,⟨[],[2,4,6,31]⟩)]
def qkp_ (s t4:Int) (t31:Bool) (s_2 t4_2:List (YaAq0)) (x:Int×Int×List Int):St:={ fr:=[(2,.prw 0 s 35 0),(4,.prw 1 t4 35 0),(6,.pb 2 0),(31,.d .bool t31)],nt:=79,up:=[],own:=[(0,.row (.pr (.int .u8) (.pr (.int .u8) (.pr (.pr (.sl (.int .u16)) YTT0) (.sl .bool)))) 38 s_2),(1,.row (.pr (.int .u8) (.pr (.int .u8) (.pr (.pr (.sl (.int .u16)) YTT0) (.sl .bool)))) 38 t4_2),(2,.box 148 [.d (.int .u16) x.1,.d (.int .u8) x.2.1,.d (.sl (.int .u8)) x.2.2])],nx:=3,log:=[],ln:=0 }
def qke_ (s t4 unit:Int) (pdu:List Int) (t62:Bool) (s_2 t4_2:List (YaAq0)):St:={ fr:=[(2,.prw 0 s 35 0),(4,.prw 1 t4 35 0),(10,.d (.int .u8) unit),(11,.d (.sl (.int .u8)) pdu),(62,.d .bool t62)],nt:=79,up:=[],own:=[(0,.row (.pr (.int .u8) (.pr (.int .u8) (.pr (.pr (.sl (.int .u16)) YTT0) (.sl .bool)))) 38 s_2),(1,.row (.pr (.int .u8) (.pr (.int .u8) (.pr (.pr (.sl (.int .u16)) YTT0) (.sl .bool)))) 38 t4_2)],nx:=2,log:=[],ln:=0 }
def qbq_ (s t4:Int) (t31:Bool) (s_2 t4_2:List (YaAq0)) (x:Int×Int×List Int):Option (As [.pr (.int .u8) (.pr (.int .u8) (.pr (.pr (.sl (.int .u16)) YTT0) (.sl .bool))),.sl (.int .u8)]) :=
 if t31=true then Option.bind (at? s_2 s) fun y=>Option.bind (qeb_ (y,())) fun y=>Option.bind (at? t4_2 t4) fun x=>Option.bind (at? (List.set t4_2 (Int.toNat t4) y.1) t4) fun y_1=>Option.bind (at? (List.set t4_2 (Int.toNat t4) y.1) t4) fun y=>some (y,[],()) else Option.bind (at? s_2 s) fun y=>Option.bind (q85_ (y,x.2.2,())) fun y=>Option.bind (at? s_2 s) fun x_1=>Option.bind (qqi_ ((x.1,x.2.1,y.2.1),())) fun y_1=>Option.bind (at? (List.set s_2 (Int.toNat s) y.1) s) fun y=>Option.bind (at? t4_2 t4) fun x=>Option.bind (at? (List.set t4_2 (Int.toNat t4) y) t4) fun y_2=>Option.bind (at? (List.set t4_2 (Int.toNat t4) y) t4) fun y=>some (y,y_1.1,())
def qbn_ (s t4 unit:Int) (pdu:List Int) (t62:Bool) (s_2 t4_2:List (YaAq0)):Option (As [.pr (.int .u8) (.pr (.int .u8) (.pr (.pr (.sl (.int .u16)) YTT0) (.sl .bool))),.sl (.int .u8)]) :=
 if t62=true then Option.bind (at? s_2 s) fun y=>Option.bind (qeb_ (y,())) fun y=>Option.bind (at? t4_2 t4) fun x=>Option.bind (at? (List.set t4_2 (Int.toNat t4) y.1) t4) fun y_1=>Option.bind (at? (List.set t4_2 (Int.toNat t4) y.1) t4) fun y=>some (y,[],()) else Option.bind (at? s_2 s) fun y=>Option.bind (q85_ (y,pdu,())) fun y=>Option.bind (at? s_2 s) fun x=>Option.bind (qqq_ (unit,y.2.1,())) fun y_1=>Option.bind (at? (List.set s_2 (Int.toNat s) y.1) s) fun y=>Option.bind (at? t4_2 t4) fun x=>Option.bind (at? (List.set t4_2 (Int.toNat t4) y) t4) fun y_2=>Option.bind (at? (List.set t4_2 (Int.toNat t4) y) t4) fun y=>some (y,y_1.1,())
def ql1_ (j1:Int->Int->Bool->List (YaAq0)->List (YaAq0)->Int×Int×List Int->Option (As [.pr (.int .u8) (.pr (.int .u8) (.pr (.pr (.sl (.int .u16)) YTT0) (.sl .bool))),.sl (.int .u8)])) (j2:Int->Int->Int->List Int->Bool->List (YaAq0)->List (YaAq0)->Option (As [.pr (.int .u8) (.pr (.int .u8) (.pr (.pr (.sl (.int .u16)) YTT0) (.sl .bool))),.sl (.int .u8)])) (s:YaAq0) (frame:List Int):Option (As [.pr (.int .u8) (.pr (.int .u8) (.pr (.pr (.sl (.int .u16)) YTT0) (.sl .bool))),.sl (.int .u8)]) :=
 if eqi s.2.1 2=true then Option.bind (qn0_ (frame,())) fun y=>if nei y.2.1 0=true then j1 0 0 true [s] [zSl] y.1 else j1 0 0 (nei y.1.2.1 s.1) [s] [zSl] y.1 else Option.bind (qqs_ (frame,())) fun y=>if nei y.2.2.1 0=true then j2 0 0 y.1 y.2.1 true [s] [zSl] else j2 0 0 y.1 y.2.1 (nei y.1 s.1) [s] [zSl]
def q8w_ (s t4:Int) (t31:Bool) (s_2 t4_2:List (YaAq0)) (x:Int×Int×List Int):Option (As [.pr (.int .u8) (.pr (.int .u8) (.pr (.pr (.sl (.int .u16)) YTT0) (.sl .bool))),.sl (.int .u8)]):=qbq_ s t4 t31 s_2 t4_2 x
def qbk_ (s t4 unit:Int) (pdu:List Int) (t62:Bool) (s_2 t4_2:List (YaAq0)):Option (As [.pr (.int .u8) (.pr (.int .u8) (.pr (.pr (.sl (.int .u16)) YTT0) (.sl .bool))),.sl (.int .u8)]):=qbn_ s t4 unit pdu t62 s_2 t4_2
def qnp_ (x:As [.pr (.int .u8) (.pr (.int .u8) (.pr (.pr (.sl (.int .u16)) YTT0) (.sl .bool))),.sl (.int .u8)]):Option (As [.pr (.int .u8) (.pr (.int .u8) (.pr (.pr (.sl (.int .u16)) YTT0) (.sl .bool))),.sl (.int .u8)]):=ql1_ q8w_ qbk_ x.1 x.2.1
theorem q13j_  (J s t4 t31 s_2 t4_2 x):pfn Tryz.prog q8c_ 6 18446744073709551616 (Ev.get q8f_) 29 q5x_ J 106 [] (qkp_ s t4 t31 s_2 t4_2 x)=qbq_ s t4 t31 s_2 t4_2 x:=by kernel_rfl
theorem q13f_  (J s t4 unit pdu t62 s_2 t4_2):pfn Tryz.prog q8c_ 6 18446744073709551616 (Ev.get q8f_) 29 q5x_ J 30 [] (qke_ s t4 unit pdu t62 s_2 t4_2)=qbn_ s t4 unit pdu t62 s_2 t4_2:=by kernel_rfl
theorem q15k_ (J:Orc (As [.pr (.int .u8) (.pr (.int .u8) (.pr (.pr (.sl (.int .u16)) YTT0) (.sl .bool))),.sl (.int .u8)])) (x:As [.pr (.int .u8) (.pr (.int .u8) (.pr (.pr (.sl (.int .u16)) YTT0) (.sl .bool))),.sl (.int .u8)]):rfn Tryz.prog q8c_ 6 18446744073709551616 (Ev.get q8f_) 29 q5x_ J x=ql1_ (fun s t4 t31 s_2 t4_2 x=>J 106 [] (qkp_ s t4 t31 s_2 t4_2 x)) (fun s t4 unit pdu t62 s_2 t4_2=>J 30 [] (qke_ s t4 unit pdu t62 s_2 t4_2)) x.1 x.2.1:=by kernel_rfl
theorem q14h_  (s t4 t31 s_2 t4_2 x):jfn Tryz.prog q8c_ 6 18446744073709551616 (Ev.get q8f_) 29 q5x_ 106 [] (qkp_ s t4 t31 s_2 t4_2 x)=q8w_ s t4 t31 s_2 t4_2 x:=by
 rw [q6_ (by decide)]
 rw [q13j_]
 rfl
theorem q14l_  (s t4 unit pdu t62 s_2 t4_2):jfn Tryz.prog q8c_ 6 18446744073709551616 (Ev.get q8f_) 29 q5x_ 30 [] (qke_ s t4 unit pdu t62 s_2 t4_2)=qbk_ s t4 unit pdu t62 s_2 t4_2:=by
 rw [q6_ (by decide)]
 rw [q13f_]
 rfl
theorem q16w_ (x:As [.pr (.int .u8) (.pr (.int .u8) (.pr (.pr (.sl (.int .u16)) YTT0) (.sl .bool))),.sl (.int .u8)]):evT Tryz.prog q8c_ 6 18446744073709551616 (Ev.get q8f_) 29 q5x_ x=qnp_ x:=by
 have e1:(fun s t4 t31 s_2 t4_2 x=>(jfn Tryz.prog q8c_ 6 18446744073709551616 (Ev.get q8f_) 29 q5x_) 106 [] (qkp_ s t4 t31 s_2 t4_2 x))=q8w_:=by funext s t4 t31 s_2 t4_2 x; exact q14h_ s t4 t31 s_2 t4_2 x
 have e2:(fun s t4 unit pdu t62 s_2 t4_2=>(jfn Tryz.prog q8c_ 6 18446744073709551616 (Ev.get q8f_) 29 q5x_) 30 [] (qke_ s t4 unit pdu t62 s_2 t4_2))=qbk_:=by funext s t4 unit pdu t62 s_2 t4_2; exact q14l_ s t4 unit pdu t62 s_2 t4_2
 rw [qi_,q15k_,e1,e2]
 rfl
theorem q15a_:CtOk Tryz.prog (fun _=>True) 29 ⟨q5x_,qnp_⟩:=qd_ (q0_ qp0_ (q0_ q16v_ (q0_ q17w_ (q0_ qs1_ (q0_ q14w_ (q0_ q15r_ q3_)))))) q16w_
@[reducible] def qe7_:Sh:=⟨[.d (.pr (.int .u16) (.int .i64))],[],[.pr (.int .u16) (.int .i64)],[.d (.pr (.int .u16) (.int .i64)),.d (.bool)],[],0,[.pr (.int .u16) (.int .i64),.bool]⟩
def qhn_:Env:=(cts [(113,(⟨qa3_,q4g_⟩:Ct)),(167,(⟨qnl_,q7k_⟩:Ct)),(207,(⟨qs0_,q97_⟩:Ct))])
def qgx_:List (Nat×Hint):=[(14,⟨[],[1,2,14]⟩)]
def qka_ (t14:Bool) (l t2:Int×Int):St:={ fr:=[(1,.pb 0 0),(2,.pb 1 0),(14,.d .bool t14)],nt:=25,up:=[],own:=[(0,.box 27 [.d (.int .u16) l.1,.d (.int .i64) l.2]),(1,.box 27 [.d (.int .u16) t2.1,.d (.int .i64) t2.2])],nx:=2,log:=[],ln:=0 }
def qk9_ (t14:Bool) (l t2:Int×Int):Option (As [.pr (.int .u16) (.int .i64),.bool]) :=
 if t14=true then some (l,false,()) else if eqi (Sx.sub .i64 l.2 1) 0=true then some ((0,0),true,()) else some ((l.1,Sx.sub .i64 l.2 1),false,())
def ql2_ (j1:Bool->Int×Int->Int×Int->Option (As [.pr (.int .u16) (.int .i64),.bool])) (l:Int×Int):Option (As [.pr (.int .u16) (.int .i64),.bool]) :=
 Option.bind (q7k_ (l,())) fun y=>Option.bind (q4g_ (y.1,())) fun y_1=>if y_1.1=true then j1 true y.1 (0,0) else Option.bind (q97_ (y.1.1,())) fun y_2=>j1 (eqi y.1.1 y_2.1.1 && (eqi y.1.2 y_2.1.2 && true)) y.1 (0,0)
def qk8_ (t14:Bool) (l t2:Int×Int):Option (As [.pr (.int .u16) (.int .i64),.bool]):=qk9_ t14 l t2
def qrs_ (x:As [.pr (.int .u16) (.int .i64)]):Option (As [.pr (.int .u16) (.int .i64),.bool]):=ql2_ qk8_ x.1
theorem q14m_  (J t14 l t2):pfn Tryz.prog qhn_ 6 18446744073709551616 (Ev.get qgx_) 179 qe7_ J 14 [] (qka_ t14 l t2)=qk9_ t14 l t2:=by kernel_rfl
theorem q14q_ (J:Orc (As [.pr (.int .u16) (.int .i64),.bool])) (x:As [.pr (.int .u16) (.int .i64)]):rfn Tryz.prog qhn_ 6 18446744073709551616 (Ev.get qgx_) 179 qe7_ J x=ql2_ (fun t14 l t2=>J 14 [] (qka_ t14 l t2)) x.1:=by kernel_rfl
theorem q14n_  (t14 l t2):jfn Tryz.prog qhn_ 6 18446744073709551616 (Ev.get qgx_) 179 qe7_ 14 [] (qka_ t14 l t2)=qk8_ t14 l t2:=by
 rw [q6_ (by decide)]
 rw [q14m_]
 rfl
theorem q17d_ (x:As [.pr (.int .u16) (.int .i64)]):evT Tryz.prog qhn_ 6 18446744073709551616 (Ev.get qgx_) 179 qe7_ x=qrs_ x:=by
 have e1:(fun t14 l t2=>(jfn Tryz.prog qhn_ 6 18446744073709551616 (Ev.get qgx_) 179 qe7_) 14 [] (qka_ t14 l t2))=qk8_:=by funext t14 l t2; exact q14n_ t14 l t2
 rw [qi_,q14q_,e1]
 rfl
theorem q14e_:CtOk Tryz.prog (fun _=>True) 179 ⟨qe7_,qrs_⟩:=qd_ (q0_ qbi_ (q0_ qeu_ (q0_ qkg_ q3_))) q17d_
@[reducible] def q17b_:Sh:=⟨[.d (.pr (.sl (.int .u16)) YTT0)],[],[.pr (.sl (.int .u16)) YTT0],[.d (.pr (.sl (.int .u16)) YTT0)],[],0,[.pr (.sl (.int .u16)) YTT0]⟩
def qre_ (a:List Int×(Int×Int)×Int×Int×Int×YTT9×Int):Option (As [.pr (.sl (.int .u16)) YTT0]) :=
 Option.bind (qe9_ (a,())) fun y=>Option.bind (qrs_ (y.1.2.1,())) fun y_1=>if y_1.2.1=true then Option.bind (q9k_ (y.1,())) fun y=>some (y.1,()) else some ((y.1.1,y_1.1,y.1.2.2),())
def qv9_ (x:As [.pr (.sl (.int .u16)) YTT0]):Option (As [.pr (.sl (.int .u16)) YTT0]):=qre_ x.1
theorem q15f_:CtOk Tryz.prog (fun _=>True) 136 ⟨q17b_,qv9_⟩:=ctn (q0_ qmx_ (q0_ q14e_ (q0_ qe3_ q3_))) 6 fun J x=>by kernel_rfl
@[reducible] def qxo_:Sh:=⟨[.d (.pr (.int .u8) (.pr (.int .u8) (.pr (.pr (.sl (.int .u16)) YTT0) (.sl .bool))))],[],[.pr (.int .u8) (.pr (.int .u8) (.pr (.pr (.sl (.int .u16)) YTT0) (.sl .bool)))],[.d (.pr (.int .u8) (.pr (.int .u8) (.pr (.pr (.sl (.int .u16)) YTT0) (.sl .bool))))],[],0,[.pr (.int .u8) (.pr (.int .u8) (.pr (.pr (.sl (.int .u16)) YTT0) (.sl .bool)))]⟩
def qr6_ (s:YaAq0):Option (As [.pr (.int .u8) (.pr (.int .u8) (.pr (.pr (.sl (.int .u16)) YTT0) (.sl .bool)))]) :=
 Option.bind (qeb_ (s,())) fun y=>Option.bind (qv9_ (y.1.2.2.1,())) fun y_1=>some ((y.1.1,y.1.2.1,y_1.1,y.1.2.2.2),())
def qrp_ (x:As [.pr (.int .u8) (.pr (.int .u8) (.pr (.pr (.sl (.int .u16)) YTT0) (.sl .bool)))]):Option (As [.pr (.int .u8) (.pr (.int .u8) (.pr (.pr (.sl (.int .u16)) YTT0) (.sl .bool)))]):=qr6_ x.1
theorem q154_:CtOk Tryz.prog (fun _=>True) 82 ⟨qxo_,qrp_⟩:=ctn (q0_ qs1_ (q0_ q15f_ q3_)) 6 fun J x=>by kernel_rfl
@[reducible] def q16e_:Sh:=⟨[.d (.pr (.sl (.int .u16)) YTT0)],[],[.pr (.sl (.int .u16)) YTT0],[.d (.pr (.sl (.int .u16)) YTT0)],[],0,[.pr (.sl (.int .u16)) YTT0]⟩
def qqx_ (a:List Int×(Int×Int)×Int×Int×Int×YTT9×Int):Option (As [.pr (.sl (.int .u16)) YTT0]) :=
 Option.bind (qe9_ (a,())) fun y=>if eqi y.1.2.2.1 1=true then Option.bind (q9k_ (y.1,())) fun y=>some (y.1,()) else some (y.1,())
def qv3_ (x:As [.pr (.sl (.int .u16)) YTT0]):Option (As [.pr (.sl (.int .u16)) YTT0]):=qqx_ x.1
theorem q14y_:CtOk Tryz.prog (fun _=>True) 137 ⟨q16e_,qv3_⟩:=ctn (q0_ qmx_ (q0_ qe3_ q3_)) 6 fun J x=>by kernel_rfl
@[reducible] def qx0_:Sh:=⟨[.d (.pr (.int .u8) (.pr (.int .u8) (.pr (.pr (.sl (.int .u16)) YTT0) (.sl .bool))))],[],[.pr (.int .u8) (.pr (.int .u8) (.pr (.pr (.sl (.int .u16)) YTT0) (.sl .bool)))],[.d (.pr (.int .u8) (.pr (.int .u8) (.pr (.pr (.sl (.int .u16)) YTT0) (.sl .bool))))],[],0,[.pr (.int .u8) (.pr (.int .u8) (.pr (.pr (.sl (.int .u16)) YTT0) (.sl .bool)))]⟩
def qr0_ (s:YaAq0):Option (As [.pr (.int .u8) (.pr (.int .u8) (.pr (.pr (.sl (.int .u16)) YTT0) (.sl .bool)))]) :=
 Option.bind (qeb_ (s,())) fun y=>Option.bind (qv3_ (y.1.2.2.1,())) fun y_1=>some ((y.1.1,y.1.2.1,y_1.1,[false,false,false,false,false,false,false,false,false,false,false,false,false,false,false,false]),())
def qrr_ (x:As [.pr (.int .u8) (.pr (.int .u8) (.pr (.pr (.sl (.int .u16)) YTT0) (.sl .bool)))]):Option (As [.pr (.int .u8) (.pr (.int .u8) (.pr (.pr (.sl (.int .u16)) YTT0) (.sl .bool)))]):=qr0_ x.1
theorem q15e_:CtOk Tryz.prog (fun _=>True) 83 ⟨qx0_,qrr_⟩:=ctn (q0_ qs1_ (q0_ q14y_ q3_)) 6 fun J x=>by kernel_rfl
@[reducible] def qu5_:Sh:=⟨[.d YTT8,.d YTT8],[],[.pr (.int .i64) (.sl (.int .u16)),.pr (.int .i64) (.sl (.int .u16))],[.d (.bool)],[],0,[.bool]⟩
def qnd_ (x y:Int×List Int):Option (As [.bool]) :=
 if eqi x.1 y.1=true then Option.bind (q2j_ (x.2,y.2,())) fun y=>some (y.1,()) else some (false,())
def qm3_ (x:As [.pr (.int .i64) (.sl (.int .u16)),.pr (.int .i64) (.sl (.int .u16))]):Option (As [.bool]):=qnd_ x.1 x.2.1
theorem qt8_:CtOk Tryz.prog (fun _=>True) 182 ⟨qu5_,qm3_⟩:=ctn (q0_ q7n_ q3_) 6 fun J x=>by kernel_rfl
@[reducible] def q2g_:Sh:=⟨[.d (.sl YTT8),.d (.sl YTT8),.fn (.func 182) [] []],[],[.sl YTT8,.sl YTT8],[.d (.bool)],[],0,[.bool]⟩
def q3f_:Env:=(cts [(182,(⟨qu5_,qm3_⟩:Ct))])
def q3e_:List (Nat×Hint):=[(58,⟨[],[1,2,15,16,17]⟩)]
def q24_ (s2 t15:List (Int×List Int)) (t16 t17:Int):St:={ fr:=[(1,.d (.sl YTT8) s2),(2,.fn (.func 182) [] []),(15,.d (.sl YTT8) t15),(16,.d (.int .i64) t16),(17,.d (.int .i64) t17)],nt:=32,up:=[],own:=[],nx:=0,log:=[],ln:=0 }
def q25_ (self1:List (Int×List Int)->List (Int×List Int)->Int->Int->Option (As [.bool])) (s2 t15:List (Int×List Int)) (t16 t17:Int):Option (As [.bool]) :=
 if lt t17 t16=true then Option.bind (at? t15 t17) fun y=>Option.bind (at? s2 t17) fun y_1=>Option.bind (qm3_ (y,y_1,())) fun y=>if (!y.1)=true then some (false,()) else self1 s2 t15 t16 (add .i64 t17 1) else some (true,())
def q4i_ (j1:List (Int×List Int)->List (Int×List Int)->Int->Int->Option (As [.bool])) (s1 s2:List (Int×List Int)):Option (As [.bool]) :=
 if nei (Int.ofNat (List.length s1)) (Int.ofNat (List.length s2))=true then some (false,()) else j1 s2 s1 (Int.ofNat (List.length s1)) 0
def q36_ (s2 t15:List (Int×List Int)) (t16 t17:Int):Option (As [.bool]) :=
 loopF (fun (self:(List (Int×List Int))×(List (Int×List Int))×(Int)×(Int)->Option (As [.bool])) (s:(List (Int×List Int))×(List (Int×List Int))×(Int)×(Int))=>q25_ (fun s2 t15 t16 t17=>self (s2,t15,t16,t17)) s.1 s.2.1 s.2.2.1 s.2.2.2) 18446744073709551616 (s2,t15,t16,t17)
def q59_ (x:As [.sl YTT8,.sl YTT8]):Option (As [.bool]):=q4i_ q36_ x.1 x.2.1
theorem qme_  (J w1 s2 t15 t16 t17):pfn Tryz.prog q3f_ 6 18446744073709551616 (Ev.get q3e_) 181 q2g_ J 58 [w1] (q24_ s2 t15 t16 t17)=q25_ (fun s2 t15 t16 t17=>w1 (q24_ s2 t15 t16 t17)) s2 t15 t16 t17:=by kernel_rfl
theorem qlq_ (J:Orc (As [.bool])) (x:As [.sl YTT8,.sl YTT8]):rfn Tryz.prog q3f_ 6 18446744073709551616 (Ev.get q3e_) 181 q2g_ J x=q4i_ (fun s2 t15 t16 t17=>J 58 [] (q24_ s2 t15 t16 t17)) x.1 x.2.1:=by kernel_rfl
theorem qn9_  (s2 t15 t16 t17):jfn Tryz.prog q3f_ 6 18446744073709551616 (Ev.get q3e_) 181 q2g_ 58 [] (q24_ s2 t15 t16 t17)=q36_ s2 t15 t16 t17:=by
 rw [q6_ (by decide)]
 rw [qo_ (by kernel_rfl)]
 refine qj_ (σ:=(List (Int×List Int))×(List (Int×List Int))×(Int)×(Int)) (mk:=fun s=>q24_ s.1 s.2.1 s.2.2.1 s.2.2.2) (fun w1 s=>?_) 18446744073709551616 (s2,t15,t16,t17)
 refine (qme_ _ w1 s.1 s.2.1 s.2.2.1 s.2.2.2).trans ?_
 rfl
theorem qo9_ (x:As [.sl YTT8,.sl YTT8]):evT Tryz.prog q3f_ 6 18446744073709551616 (Ev.get q3e_) 181 q2g_ x=q59_ x:=by
 have e1:(fun s2 t15 t16 t17=>(jfn Tryz.prog q3f_ 6 18446744073709551616 (Ev.get q3e_) 181 q2g_) 58 [] (q24_ s2 t15 t16 t17))=q36_:=by funext s2 t15 t16 t17; exact qn9_ s2 t15 t16 t17
 rw [qi_,qlq_,e1]
 rfl
theorem qlu_:CtOk Tryz.prog (fun _=>True) 181 ⟨q2g_,q59_⟩:=qd_ (q0_ qt8_ q3_) qo9_
@[reducible] def qyd_:Sh:=⟨[.d (.sl YTT8),.d (.sl YTT8)],[],[.sl YTT8,.sl YTT8],[.d (.bool)],[],0,[.bool]⟩
def qsz_ (a b:List (Int×List Int)):Option (As [.bool]) :=
 Option.bind (q59_ (a,b,())) fun y=>some (y.1,())
def qtf_ (x:As [.sl YTT8,.sl YTT8]):Option (As [.bool]):=qsz_ x.1 x.2.1
theorem q190_:CtOk Tryz.prog (fun _=>True) 138 ⟨qyd_,qtf_⟩:=ctn (q0_ qlu_ (q0_ qt8_ q3_)) 6 fun J x=>by kernel_rfl
@[reducible] def qx3_:Sh:=⟨[.d (.pr (.int .u32) (.pr (.ar 8 .bool) (.ar 8 YTT8))),.d (.pr (.int .u32) (.pr (.ar 8 .bool) (.ar 8 YTT8)))],[],[.pr (.int .u32) (.pr (.ar 8 .bool) (.ar 8 YTT8)),.pr (.int .u32) (.pr (.ar 8 .bool) (.ar 8 YTT8))],[.d (.bool)],[],0,[.bool]⟩
def q16c_:Env:=(cts [(2000033,Ev.bxCt),(138,(⟨qyd_,qtf_⟩:Ct)),(139,(⟨q6g_,q7a_⟩:Ct))])
def qrf_ (a b:Int×List Bool×List (Int×List Int)):Option (As [.bool]) :=
 if eqi a.1 b.1=true then if (Sx.eqb (List.getD a.2.1 0 false) (List.getD b.2.1 0 false) && (Sx.eqb (List.getD a.2.1 1 false) (List.getD b.2.1 1 false) && (Sx.eqb (List.getD a.2.1 2 false) (List.getD b.2.1 2 false) && (Sx.eqb (List.getD a.2.1 3 false) (List.getD b.2.1 3 false) && (Sx.eqb (List.getD a.2.1 4 false) (List.getD b.2.1 4 false) && (Sx.eqb (List.getD a.2.1 5 false) (List.getD b.2.1 5 false) && (Sx.eqb (List.getD a.2.1 6 false) (List.getD b.2.1 6 false) && (Sx.eqb (List.getD a.2.1 7 false) (List.getD b.2.1 7 false) && true))))))))=true then Option.bind (q7a_ (a,())) fun y=>Option.bind (q7a_ (b,())) fun y_1=>Option.bind (qtf_ (y.1,y_1.1,())) fun y=>some (y.1,()) else some (false,()) else some (false,())
def qrn_ (x:As [.pr (.int .u32) (.pr (.ar 8 .bool) (.ar 8 YTT8)),.pr (.int .u32) (.pr (.ar 8 .bool) (.ar 8 YTT8))]):Option (As [.bool]):=qrf_ x.1 x.2.1
theorem q15j_:CtOk Tryz.prog (fun _=>True) 84 ⟨qx3_,qrn_⟩:=ctn (env:=q16c_) (q0_ Ev.bx_ok (q0_ q190_ (q0_ qml_ q3_))) 6 fun J x=>by kernel_rfl
@[reducible] def qsx_:Sh:=⟨[.d (.pr (.sl (.int .u16)) YTT0),.d (.pr (.sl (.int .u16)) YTT0)],[],[.pr (.sl (.int .u16)) YTT0,.pr (.sl (.int .u16)) YTT0],[.d (.bool)],[],0,[.bool]⟩
def q161_:Env:=(cts [(2000035,Ev.bxCt),(80,(⟨q2l_,q2j_⟩:Ct)),(84,(⟨qx3_,qrn_⟩:Ct))])
def qr5_ (a b:List Int×(Int×Int)×Int×Int×Int×YTT9×Int):Option (As [.bool]) :=
 Option.bind (q2j_ (a.1,b.1,())) fun y=>if y.1=true then if (eqi a.2.1.1 b.2.1.1 && (eqi a.2.1.2 b.2.1.2 && true))=true then if eqi a.2.2.1 b.2.2.1=true then if eqi a.2.2.2.1 b.2.2.2.1=true then if eqi a.2.2.2.2.1 b.2.2.2.2.1=true then Option.bind (qrn_ (a.2.2.2.2.2.1,b.2.2.2.2.2.1,())) fun y=>if y.1=true then some (eqi a.2.2.2.2.2.2 b.2.2.2.2.2.2,()) else some (false,()) else some (false,()) else some (false,()) else some (false,()) else some (false,()) else some (false,())
def qew_ (x:As [.pr (.sl (.int .u16)) YTT0,.pr (.sl (.int .u16)) YTT0]):Option (As [.bool]):=qr5_ x.1 x.2.1
theorem qvp_:CtOk Tryz.prog (fun _=>True) 27 ⟨qsx_,qew_⟩:=ctn (env:=q161_) (q0_ Ev.bx_ok (q0_ q7n_ (q0_ q15j_ q3_))) 6 fun J x=>by kernel_rfl
@[reducible] def qxa_:Sh:=⟨[.d (.pr (.int .u8) (.pr (.int .u8) (.pr (.pr (.sl (.int .u16)) YTT0) (.sl .bool)))),.d (.pr (.int .u8) (.pr (.int .u8) (.pr (.pr (.sl (.int .u16)) YTT0) (.sl .bool))))],[],[.pr (.int .u8) (.pr (.int .u8) (.pr (.pr (.sl (.int .u16)) YTT0) (.sl .bool))),.pr (.int .u8) (.pr (.int .u8) (.pr (.pr (.sl (.int .u16)) YTT0) (.sl .bool)))],[.d (.bool)],[],0,[.bool]⟩
def q17y_:Env:=(cts [(2000038,Ev.bxCt),(27,(⟨qsx_,qew_⟩:Ct)),(90,(⟨q43_,q6a_⟩:Ct))])
def qr1_ (a b:YaAq0):Option (As [.bool]) :=
 if eqi a.1 b.1=true then if eqi a.2.1 b.2.1=true then Option.bind (qew_ (a.2.2.1,b.2.2.1,())) fun y=>if y.1=true then Option.bind (q6a_ (a.2.2.2,b.2.2.2,())) fun y=>some (y.1,()) else some (false,()) else some (false,()) else some (false,())
def qf7_ (x:As [.pr (.int .u8) (.pr (.int .u8) (.pr (.pr (.sl (.int .u16)) YTT0) (.sl .bool))),.pr (.int .u8) (.pr (.int .u8) (.pr (.pr (.sl (.int .u16)) YTT0) (.sl .bool)))]):Option (As [.bool]):=qr1_ x.1 x.2.1
theorem q14d_:CtOk Tryz.prog (fun _=>True) 32 ⟨qxa_,qf7_⟩:=ctn (env:=q17y_) (q0_ Ev.bx_ok (q0_ qvp_ (q0_ qlm_ q3_))) 6 fun J x=>by kernel_rfl
@[reducible] def qee_:Sh:=⟨[.d (.sl .bool),.d (.sl .bool)],[],[.sl .bool,.sl .bool],[.d (.bool)],[],0,[.bool]⟩
def qm9_:Env:=(cts [])
def qmj_:List (Nat×Hint):=[(58,⟨[],[0,1,12,13]⟩)]
def qgg_ (a b:List Bool) (t12 t13:Int):St:={ fr:=[(0,.d (.sl .bool) a),(1,.d (.sl .bool) b),(12,.d (.int .i64) t12),(13,.d (.int .i64) t13)],nt:=26,up:=[],own:=[],nx:=0,log:=[],ln:=0 }
def qg7_ (self1:List Bool->List Bool->Int->Int->Option (As [.bool])) (a b:List Bool) (t12 t13:Int):Option (As [.bool]) :=
 if lt t13 t12=true then Option.bind (at? a t13) fun y=>Option.bind (at? b t13) fun y_1=>if Sx.neb y y_1=true then some (false,()) else self1 a b t12 (add .i64 t13 1) else some (true,())
def qpd_ (j1:List Bool->List Bool->Int->Int->Option (As [.bool])) (a b:List Bool):Option (As [.bool]) :=
 if nei (Int.ofNat (List.length a)) (Int.ofNat (List.length b))=true then some (false,()) else j1 a b (Int.ofNat (List.length a)) 0
def qj9_ (a b:List Bool) (t12 t13:Int):Option (As [.bool]) :=
 loopF (fun (self:(List Bool)×(List Bool)×(Int)×(Int)->Option (As [.bool])) (s:(List Bool)×(List Bool)×(Int)×(Int))=>qg7_ (fun a b t12 t13=>self (a,b,t12,t13)) s.1 s.2.1 s.2.2.1 s.2.2.2) 18446744073709551616 (a,b,t12,t13)
def qsh_ (x:As [.sl .bool,.sl .bool]):Option (As [.bool]):=qpd_ qj9_ x.1 x.2.1
theorem q19r_  (J w1 a b t12 t13):pfn Tryz.prog qm9_ 6 18446744073709551616 (Ev.get qmj_) 53 qee_ J 58 [w1] (qgg_ a b t12 t13)=qg7_ (fun a b t12 t13=>w1 (qgg_ a b t12 t13)) a b t12 t13:=by kernel_rfl
theorem q197_ (J:Orc (As [.bool])) (x:As [.sl .bool,.sl .bool]):rfn Tryz.prog qm9_ 6 18446744073709551616 (Ev.get qmj_) 53 qee_ J x=qpd_ (fun a b t12 t13=>J 58 [] (qgg_ a b t12 t13)) x.1 x.2.1:=by kernel_rfl
theorem q195_  (a b t12 t13):jfn Tryz.prog qm9_ 6 18446744073709551616 (Ev.get qmj_) 53 qee_ 58 [] (qgg_ a b t12 t13)=qj9_ a b t12 t13:=by
 rw [q6_ (by decide)]
 rw [qo_ (by kernel_rfl)]
 refine qj_ (σ:=(List Bool)×(List Bool)×(Int)×(Int)) (mk:=fun s=>qgg_ s.1 s.2.1 s.2.2.1 s.2.2.2) (fun w1 s=>?_) 18446744073709551616 (a,b,t12,t13)
 refine (q19r_ _ w1 s.1 s.2.1 s.2.2.1 s.2.2.2).trans ?_
 rfl
theorem q1ar_ (x:As [.sl .bool,.sl .bool]):evT Tryz.prog qm9_ 6 18446744073709551616 (Ev.get qmj_) 53 qee_ x=qsh_ x:=by
 have e1:(fun a b t12 t13=>(jfn Tryz.prog qm9_ 6 18446744073709551616 (Ev.get qmj_) 53 qee_) 58 [] (qgg_ a b t12 t13))=qj9_:=by funext a b t12 t13; exact q195_ a b t12 t13
 rw [qi_,q197_,e1]
 rfl
theorem q1aa_:CtOk Tryz.prog (fun _=>True) 53 ⟨qee_,qsh_⟩:=qd_ q3_ q1ar_
@[reducible] def q10d_:Sh:=⟨[.d (.sl (.int .u8)),.d (.sl (.int .u8))],[],[.sl (.int .u8),.sl (.int .u8)],[.d (.bool)],[],0,[.bool]⟩
def q19i_ (a b:List Int):Option (As [.bool]) :=
 some (eqs (Sx.toS a) (Sx.toS b),())
def qsj_ (x:As [.sl (.int .u8),.sl (.int .u8)]):Option (As [.bool]):=q19i_ x.1 x.2.1
theorem q199_:CtOk Tryz.prog (fun _=>True) 31 ⟨q10d_,qsj_⟩:=ctn q3_ 6 fun J x=>by kernel_rfl
@[reducible] def qvr_:Sh:=⟨[.d (.pr (.int .u8) YTT3)],[],[.pr (.int .u8) YTT3],[.d (.bool)],[],0,[.bool]⟩
def qot_ (r:Int×Int×List Bool×List Int×Int×Int):Option (As [.bool]) :=
 if nei r.2.1 0=true then Option.bind (q3m_ ((),r,())) fun y=>some (y.1,()) else if eqi r.1 1=true then Option.bind (q26_ ((),r,())) fun y=>some (y.1,()) else if eqi r.1 2=true then Option.bind (q26_ ((),r,())) fun y=>some (y.1,()) else if eqi r.1 3=true then Option.bind (q14_ ((),r,())) fun y=>some (y.1,()) else if eqi r.1 4=true then Option.bind (q14_ ((),r,())) fun y=>some (y.1,()) else if eqi r.1 23=true then Option.bind (q14_ ((),r,())) fun y=>some (y.1,()) else if eqi r.1 5=true then Option.bind (q4u_ ((),r,())) fun y=>some (y.1,()) else if eqi r.1 6=true then Option.bind (q4e_ ((),r,())) fun y=>some (y.1,()) else if eqi r.1 15=true then Option.bind (q2y_ (1968,r,())) fun y=>some (y.1,()) else if eqi r.1 16=true then Option.bind (q2y_ (123,r,())) fun y=>some (y.1,()) else some (false,())
def qpf_ (x:As [.pr (.int .u8) YTT3]):Option (As [.bool]):=qot_ x.1
theorem q12z_:CtOk Tryz.prog (fun _=>True) 67 ⟨qvr_,qpf_⟩:=ctn (q0_ qau_ (q0_ qcl_ (q0_ qb9_ (q0_ qdm_ (q0_ qcd_ (q0_ qeq_ q3_)))))) 6 fun J x=>by kernel_rfl
@[reducible] def qa8_:Sh:=⟨[.d (.pr (.int .u8) YTT4),.d (.pr (.int .u8) YTT3)],[],[.pr (.int .u8) YTT4,.pr (.int .u8) YTT3],[.d (.bool)],[],0,[.bool]⟩
def qgz_:Env:=(cts [(58,(⟨q4a_,q8k_⟩:Ct)),(67,(⟨qvr_,qpf_⟩:Ct)),(68,(⟨q3n_,q5y_⟩:Ct)),(69,(⟨qx8_,q71_⟩:Ct)),(70,(⟨q7l_,q2w_⟩:Ct))])
def qh7_:List (Nat×Hint):=[(6,⟨[],[2,3,22,51,52,53,54,55,56]⟩)]
def qk2_ (t22:Bool) (a a_2 a_3 a_4:Int) (a_5:List Int) (a_6:List Bool) (r r_2:Int) (r_3:List Bool) (r_4:List Int) (r_5 r_6:Int):St:={ fr:=[(2,.pb 0 0),(3,.pb 1 0),(22,.d .bool t22)],nt:=63,up:=[],own:=[(0,.box 44 [.d (.int .u8) a,.d (.int .u16) a_2,.d (.int .u16) a_3,.d (.int .u16) a_4,.d (.sl (.int .u16)) a_5,.d (.sl .bool) a_6]),(1,.box 46 [.d (.int .u8) r,.d (.int .u8) r_2,.d (.sl .bool) r_3,.d (.sl (.int .u16)) r_4,.d (.int .u16) r_5,.d (.int .u16) r_6])],nx:=2,log:=[],ln:=0 }
def qr9_ (t22:Bool) (a a_2 a_3 a_4:Int) (a_5:List Int) (a_6:List Bool) (r r_2:Int) (r_3:List Bool) (r_4:List Int) (r_5 r_6:Int):Option (As [.bool]) :=
 if t22=true then some (false,()) else if nei r_2 0=true then some (true,()) else Option.bind (q5y_ ((a,a_2,a_3,a_4,a_5,a_6),())) fun y=>if y.2.1=true then Option.bind (q71_ (y.1,(r,r_2,r_3,r_4,r_5,r_6),())) fun y=>some (y.1,()) else if gt (Int.ofNat (List.length r_3)) 0=true then if eqi (Int.ofNat (List.length r_3)) (mul .i64 (quo .i64 (add .i64 (cvt .i64 a_3) 7) 8) 8)=true then Option.bind (cut r_3 (cvt .i64 a_3) (Int.ofNat (List.length r_3))) fun y=>Option.bind (q2w_ (y,true,())) fun y=>some (!y.1,()) else some (false,()) else some (eqi (Int.ofNat (List.length r_4)) (cvt .i64 a_3),())
def qkx_ (j1:Bool->Int->Int->Int->Int->List Int->List Bool->Int->Int->List Bool->List Int->Int->Int->Option (As [.bool])) (a:Int×Int×Int×Int×List Int×List Bool) (r:Int×Int×List Bool×List Int×Int×Int):Option (As [.bool]) :=
 Option.bind (q8k_ (a,())) fun y=>if (!y.1)=true then j1 true a.1 a.2.1 a.2.2.1 a.2.2.2.1 a.2.2.2.2.1 a.2.2.2.2.2 r.1 r.2.1 r.2.2.1 r.2.2.2.1 r.2.2.2.2.1 r.2.2.2.2.2 else Option.bind (qpf_ (r,())) fun y=>if (!y.1)=true then j1 true a.1 a.2.1 a.2.2.1 a.2.2.2.1 a.2.2.2.2.1 a.2.2.2.2.2 r.1 r.2.1 r.2.2.1 r.2.2.2.1 r.2.2.2.2.1 r.2.2.2.2.2 else j1 (nei a.1 r.1) a.1 a.2.1 a.2.2.1 a.2.2.2.1 a.2.2.2.2.1 a.2.2.2.2.2 r.1 r.2.1 r.2.2.1 r.2.2.2.1 r.2.2.2.2.1 r.2.2.2.2.2
def qbo_ (t22:Bool) (a a_2 a_3 a_4:Int) (a_5:List Int) (a_6:List Bool) (r r_2:Int) (r_3:List Bool) (r_4:List Int) (r_5 r_6:Int):Option (As [.bool]):=qr9_ t22 a a_2 a_3 a_4 a_5 a_6 r r_2 r_3 r_4 r_5 r_6
def qiq_ (x:As [.pr (.int .u8) YTT4,.pr (.int .u8) YTT3]):Option (As [.bool]):=qkx_ qbo_ x.1 x.2.1
theorem q150_  (J t22 a a_2 a_3 a_4 a_5 a_6 r r_2 r_3 r_4 r_5 r_6):pfn Tryz.prog qgz_ 6 18446744073709551616 (Ev.get qh7_) 16 qa8_ J 6 [] (qk2_ t22 a a_2 a_3 a_4 a_5 a_6 r r_2 r_3 r_4 r_5 r_6)=qr9_ t22 a a_2 a_3 a_4 a_5 a_6 r r_2 r_3 r_4 r_5 r_6:=by kernel_rfl
theorem q14z_ (J:Orc (As [.bool])) (x:As [.pr (.int .u8) YTT4,.pr (.int .u8) YTT3]):rfn Tryz.prog qgz_ 6 18446744073709551616 (Ev.get qh7_) 16 qa8_ J x=qkx_ (fun t22 a a_2 a_3 a_4 a_5 a_6 r r_2 r_3 r_4 r_5 r_6=>J 6 [] (qk2_ t22 a a_2 a_3 a_4 a_5 a_6 r r_2 r_3 r_4 r_5 r_6)) x.1 x.2.1:=by kernel_rfl
theorem q13u_  (t22 a a_2 a_3 a_4 a_5 a_6 r r_2 r_3 r_4 r_5 r_6):jfn Tryz.prog qgz_ 6 18446744073709551616 (Ev.get qh7_) 16 qa8_ 6 [] (qk2_ t22 a a_2 a_3 a_4 a_5 a_6 r r_2 r_3 r_4 r_5 r_6)=qbo_ t22 a a_2 a_3 a_4 a_5 a_6 r r_2 r_3 r_4 r_5 r_6:=by
 rw [q6_ (by decide)]
 rw [q150_]
 rfl
theorem q15w_ (x:As [.pr (.int .u8) YTT4,.pr (.int .u8) YTT3]):evT Tryz.prog qgz_ 6 18446744073709551616 (Ev.get qh7_) 16 qa8_ x=qiq_ x:=by
 have e1:(fun t22 a a_2 a_3 a_4 a_5 a_6 r r_2 r_3 r_4 r_5 r_6=>(jfn Tryz.prog qgz_ 6 18446744073709551616 (Ev.get qh7_) 16 qa8_) 6 [] (qk2_ t22 a a_2 a_3 a_4 a_5 a_6 r r_2 r_3 r_4 r_5 r_6))=qbo_:=by funext t22 a a_2 a_3 a_4 a_5 a_6 r r_2 r_3 r_4 r_5 r_6; exact q13u_ t22 a a_2 a_3 a_4 a_5 a_6 r r_2 r_3 r_4 r_5 r_6
 rw [qi_,q14z_,e1]
 rfl
theorem q13g_:CtOk Tryz.prog (fun _=>True) 16 ⟨qa8_,qiq_⟩:=qd_ (q0_ qnn_ (q0_ q12z_ (q0_ qra_ (q0_ q8y_ (q0_ qai_ q3_))))) q15w_
@[reducible] def qvf_:Sh:=⟨[.d (.pr YTT1 (.pr YTT1 (.pr YTT1 YTT1))),.d (.pr (.sl .bool) YTT10),.d (.sl (.int .u8))],[],[.pr YTT1 (.pr YTT1 (.pr YTT1 YTT1)),.pr (.sl .bool) YTT10,.sl (.int .u8)],[.d (.pr (.sl .bool) YTT10),.d (.sl (.int .u8))],[],0,[.pr (.sl .bool) YTT10,.sl (.int .u8)]⟩
def qpa_ (s:List YTT5×List YTT5×List YTT5×List YTT5) (m:List Bool×List Bool×List Int×List Int) (pdu:List Int):Option (As [.pr (.sl .bool) YTT10,.sl (.int .u8)]) :=
 Option.bind (qcg_ (pdu,())) fun y=>if nei y.2.1 0=true then Option.bind (qk_ (y.1.1,y.2.1,())) fun y=>Option.bind (qcc_ (y.1,())) fun y=>Option.bind (qx1_ (m,())) fun y_1=>some (y_1.1,y.1,()) else Option.bind (q2a_ (s,m,y.1,())) fun y=>Option.bind (qcc_ (y.2.1,())) fun y_1=>some (y.1,y_1.1,())
def qps_ (x:As [.pr YTT1 (.pr YTT1 (.pr YTT1 YTT1)),.pr (.sl .bool) YTT10,.sl (.int .u8)]):Option (As [.pr (.sl .bool) YTT10,.sl (.int .u8)]):=qpa_ x.1 x.2.1 x.2.2.1
theorem q11r_:CtOk Tryz.prog (fun _=>True) 51 ⟨qvf_,qps_⟩:=ctn (q0_ qtu_ (q0_ qut_ (q0_ qd1_ (q0_ q16j_ (q0_ qy8_ q3_))))) 6 fun J x=>by kernel_rfl
def q11x_ (c:Int×Int×Int×Int×Int):Option (As [.sl (.int .u16)]) :=
 Option.bind (q9p_ (c.2.2.1,())) fun y=>Option.bind (q9p_ (c.2.2.2.2,())) fun y_1=>some ([c.1,cvt .u16 c.2.1,y.1,y.2.1,c.2.2.2.1,y_1.1,y_1.2.1,0],())
def q1az_ (x:As [.pr (.int .u16) YTT6]):Option (As [.sl (.int .u16)]):=q11x_ x.1
def q12t_ (owner tx n:Int) (x:Int×List Int):Option (As [.sl (.int .u16),.int .i64]) :=
 Option.bind (qaf_ (n,())) fun y=>if (!y.1)=true then some ([],2,()) else Option.bind (q7g_ (x,())) fun y=>if (!y.1)=true then some ([],20,()) else Option.bind (qh0_ (owner,tx,n,x,())) fun y=>some (y.1,0,())
def q1b0_ (x:As [.int .u16,.int .u32,.int .i64,.pr (.int .i64) (.sl (.int .u16))]):Option (As [.sl (.int .u16),.int .i64]):=q12t_ x.1 x.2.1 x.2.2.1 x.2.2.2.1
@[reducible] def q4r_:Sh:=⟨[.d (.pr (.int .u8) (.pr (.sl (.int .u8)) (.pr (.pr (.int .u8) YTT4) (.pr (.int .u16) YTT6))))],[],[.pr (.int .u8) (.pr (.sl (.int .u8)) (.pr (.pr (.int .u8) YTT4) (.pr (.int .u16) YTT6)))],[.d (.sl (.int .u8)),.d (.bool)],[],0,[.sl (.int .u8),.bool]⟩
def qan_:Env:=(cts [(13,(⟨q28_,qc6_⟩:Ct)),(57,(⟨qqt_,q9c_⟩:Ct))])
def qa5_:List (Nat×Hint):=[(7,⟨[.frb 4],[4]⟩)]
def qcu_ (a:Int×Int×Int×Int×List Int×List Bool):St:={ fr:=[(4,.pb 0 0)],nt:=41,up:=[],own:=[(0,.box 44 [.d (.int .u8) a.1,.d (.int .u16) a.2.1,.d (.int .u16) a.2.2.1,.d (.int .u16) a.2.2.2.1,.d (.sl (.int .u16)) a.2.2.2.2.1,.d (.sl .bool) a.2.2.2.2.2])],nx:=1,log:=[],ln:=0 }
def qcs_ (a:Int×Int×Int×Int×List Int×List Bool):Option (As [.sl (.int .u8),.bool]) :=
 Option.bind (qc6_ (a,())) fun y=>some (y.1,eqi y.2.1 0,())
def qct_ (j1:Int×Int×Int×Int×List Int×List Bool->Option (As [.sl (.int .u8),.bool])) (o:Int×List Int×YTT16×Int×Int×Int×Int×Int):Option (As [.sl (.int .u8),.bool]) :=
 if eqi (rem o.1 6) 0=true then some (o.2.1,true,()) else if eqi (rem o.1 6) 5=true then Option.bind (q9c_ (o.2.2.2,())) fun y=>if eqi (rem o.2.2.2.2.2.2.1 2) 1=true then Option.bind (q9c_ (o.2.2.2,())) fun y=>j1 (16,272,8,0,y.1,[]) else j1 (23,256,8,272,y.1,[]) else if eqi (rem o.1 6) 2=true then j1 o.2.2.1 else some ([],false,())
def q92_ (a:Int×Int×Int×Int×List Int×List Bool):Option (As [.sl (.int .u8),.bool]):=qcs_ a
def q7w_ (x:As [.pr (.int .u8) (.pr (.sl (.int .u8)) (.pr (.pr (.int .u8) YTT4) (.pr (.int .u16) YTT6)))]):Option (As [.sl (.int .u8),.bool]):=qct_ q92_ x.1
theorem qy3_  (J a):pfn Tryz.prog qan_ 6 18446744073709551616 (Ev.get qa5_) 40 q4r_ J 7 [] (qcu_ a)=qcs_ a:=by kernel_rfl
theorem qy5_ (J:Orc (As [.sl (.int .u8),.bool])) (x:As [.pr (.int .u8) (.pr (.sl (.int .u8)) (.pr (.pr (.int .u8) YTT4) (.pr (.int .u16) YTT6)))]):rfn Tryz.prog qan_ 6 18446744073709551616 (Ev.get qa5_) 40 q4r_ J x=qct_ (fun a=>J 7 [] (qcu_ a)) x.1:=by kernel_rfl
theorem qy2_  (a):jfn Tryz.prog qan_ 6 18446744073709551616 (Ev.get qa5_) 40 q4r_ 7 [] (qcu_ a)=q92_ a:=by
 rw [q6_ (by decide)]
 rw [qy3_]
 rfl
theorem qzt_ (x:As [.pr (.int .u8) (.pr (.sl (.int .u8)) (.pr (.pr (.int .u8) YTT4) (.pr (.int .u16) YTT6)))]):evT Tryz.prog qan_ 6 18446744073709551616 (Ev.get qa5_) 40 q4r_ x=q7w_ x:=by
 have e1:(fun a=>(jfn Tryz.prog qan_ 6 18446744073709551616 (Ev.get qa5_) 40 q4r_) 7 [] (qcu_ a))=q92_:=funext fun a=>qy2_ a
 rw [qi_,qy5_,e1]
 rfl
theorem qrg_:CtOk Tryz.prog (fun _=>True) 40 ⟨q4r_,q7w_⟩:=qd_ (q0_ qsq_ (q0_ quh_ q3_)) qzt_
@[reducible] def qtb_:Sh:=⟨[.d (.pr (.int .u8) (.pr (.sl (.int .u8)) (.pr (.pr (.int .u8) YTT4) (.pr (.int .u16) YTT6)))),.d (.pr (.int .u8) (.pr (.int .u8) (.pr (.pr (.sl (.int .u16)) YTT0) (.sl .bool))))],[],[.pr (.int .u8) (.pr (.sl (.int .u8)) (.pr (.pr (.int .u8) YTT4) (.pr (.int .u16) YTT6))),.pr (.int .u8) (.pr (.int .u8) (.pr (.pr (.sl (.int .u16)) YTT0) (.sl .bool)))],[.d (.pr (.int .u8) (.pr (.int .u8) (.pr (.pr (.sl (.int .u16)) YTT0) (.sl .bool)))),.d (.sl (.int .u8))],[],0,[.pr (.int .u8) (.pr (.int .u8) (.pr (.pr (.sl (.int .u16)) YTT0) (.sl .bool))),.sl (.int .u8)]⟩
def q105_:Env:=(cts [(2000038,Ev.bxCt),(14,(⟨qfl_,q85_⟩:Ct)),(29,(⟨q5x_,qnp_⟩:Ct)),(40,(⟨q4r_,q7w_⟩:Ct)),(82,(⟨qxo_,qrp_⟩:Ct)),(83,(⟨qx0_,qrr_⟩:Ct))])
def ql7_ (o:Int×List Int×YTT16×Int×Int×Int×Int×Int) (s:YaAq0):Option (As [.pr (.int .u8) (.pr (.int .u8) (.pr (.pr (.sl (.int .u16)) YTT0) (.sl .bool))),.sl (.int .u8)]) :=
 Option.bind (q7w_ (o,())) fun y=>if y.2.1=true then Option.bind (q85_ (s,y.1,())) fun y=>some (y.1,y.2.1,()) else if eqi (rem o.1 6) 1=true then Option.bind (qnp_ (s,o.2.1,())) fun y=>some (y.1,y.2.1,()) else if eqi (rem o.1 6) 3=true then Option.bind (qrp_ (s,())) fun y=>some (y.1,[],()) else if eqi (rem o.1 6) 4=true then Option.bind (qrr_ (s,())) fun y=>some (y.1,[],()) else some (s,[],())
def qjx_ (x:As [.pr (.int .u8) (.pr (.sl (.int .u8)) (.pr (.pr (.int .u8) YTT4) (.pr (.int .u16) YTT6))),.pr (.int .u8) (.pr (.int .u8) (.pr (.pr (.sl (.int .u16)) YTT0) (.sl .bool)))]):Option (As [.pr (.int .u8) (.pr (.int .u8) (.pr (.pr (.sl (.int .u16)) YTT0) (.sl .bool))),.sl (.int .u8)]):=ql7_ x.1 x.2.1
theorem qz6_:CtOk Tryz.prog (fun _=>True) 25 ⟨qtb_,qjx_⟩:=ctn (env:=q105_) (q0_ Ev.bx_ok (q0_ qp0_ (q0_ q15a_ (q0_ qrg_ (q0_ q154_ (q0_ q15e_ q3_)))))) 6 fun J x=>by kernel_rfl
end Go.Proofs.Lx
end
section
namespace Pl
open Go Ev Sx
set_option maxRecDepth 10000
theorem q21_ {σ R:Type} (F:(σ->Option R)->σ->Option R) (n:Nat) (s:σ):loopF F (n + 1) s=F (loopF F n) s:=rfl
theorem loopF_eq {σ R:Type} {F:(σ->Option R)->σ->Option R} {Inv:σ->Prop} {μ:σ->Nat} {G:σ->Option R}
  (step:∀ self s,Inv s->(∀ s',Inv s'->μ s' < μ s->self s'=G s')->F self s=G s):∀ (n:Nat) (s:σ),Inv s->μ s < n->loopF F n s=G s
 | 0,s,_,h=>by omega
 | n + 1,s,hs,h=>by
  rw [q21_]
  exact step _ s hs fun s' hs' hlt=>loopF_eq step n s' hs' (by omega)
theorem w64 {x:Int} (h1:-9223372036854775808≤x) (h2:x≤9223372036854775807):IntKind.i64.wrap x=x:=by
 simp only [IntKind.wrap,IntKind.signed,IntKind.bits]
 simp
 omega
theorem wu8 {x:Int} (h1:0≤x) (h2:x≤255):IntKind.u8.wrap x=x:=by
 simp only [IntKind.wrap,IntKind.signed,IntKind.bits]
 simp
 omega
theorem wu16 {x:Int} (h1:0≤x) (h2:x≤65535):IntKind.u16.wrap x=x:=by
 simp only [IntKind.wrap,IntKind.signed,IntKind.bits]
 simp
 omega
theorem wu32 {x:Int} (h1:0≤x) (h2:x≤4294967295):IntKind.u32.wrap x=x:=by
 simp only [IntKind.wrap,IntKind.signed,IntKind.bits]
 simp
 omega
theorem add64 {a b:Int} (h1:-9223372036854775808≤a + b) (h2:a + b≤9223372036854775807):add .i64 a b=a + b:=w64 h1 h2
theorem sub64 {a b:Int} (h1:-9223372036854775808≤a - b) (h2:a - b≤9223372036854775807):sub .i64 a b=a - b:=w64 h1 h2
theorem mul64 {a b:Int} (h1:-9223372036854775808≤a * b) (h2:a * b≤9223372036854775807):mul .i64 a b=a * b:=w64 h1 h2
theorem cvt64 {a:Int} (h1:-9223372036854775808≤a) (h2:a≤9223372036854775807):cvt .i64 a=a:=w64 h1 h2
theorem q1a_ {n:Nat} (h:n < 4611686018427387904):add .i64 (n:Int) 1=((n + 1:Nat):Int):=by rw [add64 (by omega) (by omega)]; rfl
theorem addn64 {n m:Nat} (h:n + m < 4611686018427387904):add .i64 (n:Int) (m:Int)=((n + m:Nat):Int):=by rw [add64 (by omega) (by omega)]; rfl
theorem q1_ (n:Nat):Int.ofNat n=(n:Int):=rfl
theorem q7_ {a b:Int}:lt a b=true ↔ a < b:=by simp [lt]
theorem qv_ {a b:Int}:le a b=true ↔ a≤b:=by simp [le]
theorem gt_iff {a b:Int}:gt a b=true ↔ b < a:=by simp [gt]
theorem q17_ {a b:Int}:ge a b=true ↔ b≤a:=by simp [ge]
theorem q4_ {a b:Int}:eqi a b=true ↔ a=b:=by simp [eqi]
theorem qf_ {a b:Int}:nei a b=true ↔ a ≠ b:=by simp [nei]
theorem eqs_iff {a b:List UInt8}:eqs a b=true ↔ a=b:=by simp [eqs]
theorem small_iff {n:Nat}:small n=true ↔ n≤1073741824:=by simp [small]
theorem lt_dec (a b:Int):lt a b=decide (a < b):=rfl
theorem le_dec (a b:Int):le a b=decide (a≤b):=rfl
theorem gt_dec (a b:Int):gt a b=decide (b < a):=rfl
theorem ge_dec (a b:Int):ge a b=decide (b≤a):=rfl
theorem q8_ {b:Bool} {β:Type} {k:Option β} (h:b=true):need b k=k:=by unfold need; rw [if_pos h]
theorem qn_ {n:Nat} {β:Type} {k:Option β} (h:n≤1073741824):need (small n) k=k:=q8_ (small_iff.2 h)
theorem ql_ {α:Type} {s:List α} {i:Nat} {c:α} (h:s[i]? = some c):at? s (i:Int)=some c:=by
 unfold at?
 simp [h]
theorem q1b_ {α:Type} (c:α) (q:List α):at? (c::q) 0=some c:=rfl
theorem drop_nil {α:Type} {s:List α} {i:Nat} (h:s.drop i=[]):s.length≤i:=by
 have:=congrArg List.length h
 simp at this
 omega
theorem cut_nat {α:Type} {xs:List α} {i j:Nat} (h1:i≤j) (h2:j≤xs.length):cut xs (i:Int) (j:Int)=some ((xs.take j).drop i):=by
 unfold cut
 rw [if_pos ⟨by omega,by omega,by omega⟩]
 simp
theorem cut_from {α:Type} {xs:List α} {i:Nat} (h:i≤xs.length):cut xs (i:Int) (Int.ofNat xs.length)=some (xs.drop i):=by
 rw [q1_,cut_nat h (Nat.le_refl _)]
 simp
theorem cut_to {α:Type} {xs:List α} {j:Nat} (h:j≤xs.length):cut xs 0 (j:Int)=some (xs.take j):=by
 have:=cut_nat (xs:=xs) (Nat.zero_le j) h
 simpa using this
theorem cut_one {α:Type} (c:α) (q:List α):cut (c::q) 1 (Int.ofNat (c::q).length)=some q:=by
 have:=cut_from (xs:=c::q) (i:=1) (by simp)
 simpa using this
theorem eqV_refl:∀ (t:Ty) (x:Vl t),eqV t x x=true:=by
 have hl:∀ {α:Type} {f:α->α->Bool},(∀ a,f a a=true)->∀ x:List α,eqL f x x=true:=fun h x=>by
  induction x with
  | nil=>rfl
  | cons a q ih=>simp [eqL,h,ih]
 intro t
 induction t with
 | int k=>intro x; simp [eqV,eqi]
 | bool=>intro x; simp [eqV,eqb]
 | str=>intro x; simp [eqV,eqs]
 | sl t ih=>intro x; exact hl ih x
 | pr a b iha ihb=>intro x; simp [eqV,iha,ihb]
 | wr a ih=>intro x; exact ih x
 | un=>intro x; rfl
 | ar n t ih=>intro x; exact hl ih x
theorem eqAs_refl:∀ (rs:List Ty) (x:As rs),eqAs rs x x=true
 | [],_=>rfl
 | t::r,x=>by simp [eqAs,eqV_refl,eqAs_refl r]
theorem amb2 {R:Type} {eq:R->R->Bool} (h:∀ x,eq x x=true) (a:Option R):amb eq [a,a]=a:=by
 cases a <;> simp [amb,ambC,h]
theorem amb3 {R:Type} {eq:R->R->Bool} (h:∀ x,eq x x=true) (a:Option R):amb eq [a,a,a]=a:=by
 cases a <;> simp [amb,ambC,h]
end Pl
end
section
namespace Pl
open Go Ev Sx
theorem loop_idx {σ R α β:Type} {F:(σ->Option R)->σ->Option R} {mk:Nat->β->σ} {xs:List α} {stp:β->α->β} {fin:β->Option R} (Inv:Nat->β->Prop)
  (hs:∀ self i acc x,xs[i]? = some x->Inv i acc->F self (mk i acc)=self (mk (i + 1) (stp acc x)))
  (hi:∀ i acc x,xs[i]? = some x->Inv i acc->Inv (i + 1) (stp acc x))
  (he:∀ self acc,Inv xs.length acc->F self (mk xs.length acc)=fin acc) :
  ∀ (k i:Nat) (acc:β) (n:Nat),i + k=xs.length->k < n->Inv i acc->loopF F n (mk i acc)=fin ((xs.drop i).foldl stp acc)
 | _,_,_,0,_,hn,_=>by omega
 | 0,i,acc,n + 1,h,_,hI=>by
  have:i=xs.length:=by omega
  subst this
  rw [q21_,he _ _ hI,List.drop_length]
  rfl
 | k + 1,i,acc,n + 1,h,hn,hI=>by
  have hx:xs[i]? = some (xs[i]'(by omega)):=List.getElem?_eq_getElem (by omega)
  rw [q21_,hs _ _ _ _ hx hI,loop_idx Inv hs hi he k (i + 1) _ n (by omega) (by omega) (hi _ _ _ hx hI),List.drop_eq_getElem_cons (show i < xs.length by omega)]
  rfl
def goL {α β R:Type} (body:β->α->(β->Option R)->Option R) (fin:β->Option R):List α->β->Option R
 | [],acc=>fin acc
 | x::r,acc=>body acc x (goL body fin r)
theorem loop_go {σ R α β:Type} {F:(σ->Option R)->σ->Option R} {mk:Nat->β->σ} {xs:List α} {body:β->α->(β->Option R)->Option R} {fin:β->Option R}
  (hs:∀ self i acc x,xs[i]? = some x->F self (mk i acc)=body acc x fun a=>self (mk (i + 1) a))
  (he:∀ self acc,F self (mk xs.length acc)=fin acc) :
  ∀ (k i:Nat) (acc:β) (n:Nat),i + k=xs.length->k < n->loopF F n (mk i acc)=goL body fin (xs.drop i) acc
 | _,_,_,0,_,hn=>by omega
 | 0,i,acc,n + 1,h,_=>by
  have:i=xs.length:=by omega
  subst this
  rw [q21_,he,List.drop_length]
  rfl
 | k + 1,i,acc,n + 1,h,hn=>by
  have hx:xs[i]? = some (xs[i]'(by omega)):=List.getElem?_eq_getElem (by omega)
  rw [q21_,hs _ _ _ _ hx,List.drop_eq_getElem_cons (show i < xs.length by omega)]
  show _=body acc _ (goL body fin (xs.drop (i + 1)))
  congr 1
  funext a
  exact loop_go hs he k (i + 1) a n (by omega) (by omega)
theorem foldl_app {α β:Type} (f:α->List β):∀ (xs:List α) (out:List β),xs.foldl (fun o x=>o++f x) out=out++xs.flatMap f
 | [],out=>by simp
 | x::r,out=>by simp [foldl_app f r]
theorem wr8 (x:Int):IntKind.u8.wrap x=x % 256:=by
 simp only [IntKind.wrap,IntKind.signed,IntKind.bits]
 simp
theorem wr16 (x:Int):IntKind.u16.wrap x=x % 65536:=by
 simp only [IntKind.wrap,IntKind.signed,IntKind.bits]
 simp
theorem cvt8 (x:Int):cvt .u8 x=x % 256:=wr8 x
theorem cvt16 (x:Int):cvt .u16 x=x % 65536:=wr16 x
theorem shr8 (k:IntKind) (x:Int) (hk:8≤k.bits):shr k x 8=x / 256:=by
 unfold shr
 have:min (8:Int).toNat k.bits=8:=by
  have:(8:Int).toNat=8:=rfl
  omega
 rw [this,Int.fdiv_eq_ediv_of_nonneg _ (by decide)]
 rfl
theorem u16_rng (x:Int):0≤IntKind.u16.wrap x∧IntKind.u16.wrap x < 65536:=by rw [wr16]; omega
theorem band15 (x:Int):0≤band .u16 x 15∧band .u16 x 15 < 16:=by
 have h:(BitVec.ofInt IntKind.u16.bits x &&& BitVec.ofInt IntKind.u16.bits 15).toNat≤15:=by
  rw [BitVec.toNat_and]
  exact Nat.le_trans Nat.and_le_right (by decide)
 unfold band
 rw [wr16]
 omega
end Pl
end
section
namespace Pl
open Go Ev Sx
theorem loop_dt {σ R:Type} {F:(σ->Option R)->σ->Option R} {mk:Nat->σ} {N:Nat} {r:Option R} (hs:∀ self i,i < N->F self (mk i)=self (mk (i + 1))) (he:∀ self,F self (mk N)=r) :
  ∀ (k i n:Nat),i + k=N->k < n->loopF F n (mk i)=r
 | _,_,0,_,h=>by omega
 | 0,i,n + 1,h,_=>by
  have:i=N:=by omega
  subst this
  rw [q21_,he]
 | k + 1,i,n + 1,h,hn=>by rw [q21_,hs _ _ (by omega),loop_dt hs he k (i + 1) n (by omega) (by omega)]
theorem set_at {α:Type} (p:List α) (x y:α) (q:List α):(p++x::q).set p.length y=p++y::q:=by
 rw [List.set_append_right _ _ (Nat.le_refl _),Nat.sub_self]
 rfl
end Pl
end
section
namespace Go.Proofs.Lx
open Go Ev Sx Pl
set_option maxRecDepth 100000
def crcT:List Int:=[0,52225,55297,5120,61441,15360,10240,58369,40961,27648,30720,46081,20480,39937,34817,17408]
theorem table_eq:qqj_ ()=some (crcT,()):=by kernel_rfl
def tab (i:Int):Int:=crcT.getD i.toNat 0
theorem tab_at {i:Int} (h0:0≤i) (h1:i < 16):at? crcT i=some (tab i):=by
 obtain ⟨n,rfl⟩:=Int.eq_ofNat_of_zero_le h0
 have:n < crcT.length:=by show n < 16; omega
 have e:crcT[n]? = some (crcT[n]'this):=List.getElem?_eq_getElem this
 rw [ql_ e]
 unfold tab
 rw [Int.toNat_natCast,List.getD_eq_getElem?_getD,e]
 rfl
def nib (s:Int):Int:=bxor .u16 (shr .u16 s 4) (tab (band .u16 s 15))
def stepV (s c:Int):Int:=nib (nib (bxor .u16 s (cvt .u16 c)))
theorem stepV_rng (s c:Int):0≤stepV s c∧stepV s c < 65536:=u16_rng _
theorem step_eq (s c:Int):qv5_ (s,c,crcT,())=some (stepV s c,crcT,()):=by
 show qto_ s c crcT=_
 unfold qto_
 have h1:=band15 (bxor .u16 s (cvt .u16 c))
 rw [q8_ (q7_.2 h1.2),tab_at h1.1 h1.2,Option.bind_some,Option.bind_some]
 have h2:=band15 (bxor .u16 (shr .u16 (bxor .u16 s (cvt .u16 c)) 4) (tab (band .u16 (bxor .u16 s (cvt .u16 c)) 15)))
 rw [q8_ (q7_.2 h2.2),tab_at h2.1 h2.2,Option.bind_some,Option.bind_some]
 rfl
def sumV (b:List Int):Int:=b.foldl stepV 65535
theorem sumV_rng (b:List Int):0≤sumV b∧sumV b < 65536:=by
 unfold sumV
 have:∀ (b:List Int) (s:Int),(0≤s∧s < 65536)->0≤b.foldl stepV s∧b.foldl stepV s < 65536:=by
  intro b
  induction b with
  | nil=>exact fun s h=>h
  | cons c r ih=>exact fun s _=>ih _ (stepV_rng s c)
 exact this b _ (by decide)
theorem sum_eq {b:List Int} (h:b.length < 4611686018427387904):qu9_ (b,())=some (sumV b,()):=by
 show qrv_ qnr_ b=_
 unfold qrv_
 rw [table_eq,Option.bind_some]
 rw [q8_ (by rfl),q8_ (by rfl)]
 unfold qnr_
 refine (loop_idx (xs:=b) (mk:=fun i acc=>(b,acc,Int.ofNat b.length,(i:Int),crcT)) (stp:=stepV) (fin:=fun acc=>some (acc,())) (fun _ _=>True) ?_ (fun _ _ _ _ _=>trivial) ?_ b.length 0 65535 _ (by omega) (by omega) trivial).trans ?_
 ·intro self i acc x hx _
  have hi:=(List.getElem?_eq_some_iff.1 hx).1
  show qi2_ _ b acc (Int.ofNat b.length) (i:Int) crcT=_
  unfold qi2_
  rw [if_pos (by rw [q7_,q1_]; omega),ql_ hx,Option.bind_some,step_eq,Option.bind_some,q1a_ (by omega)]
 ·intro self acc _
  show qi2_ _ b acc (Int.ofNat b.length) (b.length:Int) crcT=_
  unfold qi2_
  rw [if_neg (by rw [q7_,q1_]; omega)]
 ·rfl
theorem capOk_0 {n:Int} (h:0≤n):capOk 0 n=true:=by
 unfold capOk
 split
 ·rfl
 ·exact decide_eq_true h
theorem capOk_self (n:Int):capOk n n=true:=by
 unfold capOk
 rw [if_pos rfl]
def two (x:Int):List Int:=[x / 256 % 256,x % 256]
def putV (b:List Int):List Int:=b++[sumV b % 256,sumV b / 256]
theorem put_eq {b:List Int} (h:b.length < 1000000):qxv_ (b,())=some (putV b,()):=by
 show qv2_ b=_
 unfold qv2_
 have hs:=sumV_rng b
 have e:add .i64 (Int.ofNat b.length) 2=((b.length + 2:Nat):Int):=by rw [q1_]; exact addn64 (m:=2) (by omega)
 rw [sum_eq (by omega),Option.bind_some,e,q8_ (capOk_0 (by omega)),q8_ (by rw [small_iff]; omega),qn_ (by omega),qn_ (by simp; omega),cvt8,cvt8,shr8 _ _ (by decide)]
 have e2:sumV b / 256 % 256=sumV b / 256:=by omega
 rw [e2]
 rfl
end Go.Proofs.Lx
end
section
namespace Go.Proofs.Lx
open Go Ev Sx Pl
set_option maxRecDepth 100000
abbrev TA:=Int×Int×Int×Int×List Int×List Bool
structure OkA (a:TA):Prop where
 f0:0≤a.1
 f1:a.1≤255
 at0:0≤a.2.1
 at1:a.2.1≤65535
 m0:0≤a.2.2.1
 m1:a.2.2.1≤65535
 t0:0≤a.2.2.2.1
 t1:a.2.2.2.1≤65535
 w:∀ x ∈ a.2.2.2.2.1,0≤x∧x≤65535
 lw:a.2.2.2.2.1.length≤100000
 lb:a.2.2.2.2.2.length≤100000
def shp (f:Int):Option (Int×Int×Int×Bool×Bool) :=
 if eqi 1 f=true then some (2000,0,0,false,false) else if eqi 2 f=true then some (2000,0,0,false,false) else if eqi 3 f=true then some (125,0,0,false,false) else
 if eqi 4 f=true then some (125,0,0,false,false) else if eqi 5 f=true then some (0,1,0,false,false) else if eqi 6 f=true then some (0,0,1,false,false) else
 if eqi 15 f=true then some (1968,1968,0,false,true) else if eqi 16 f=true then some (123,0,123,false,true) else if eqi 23 f=true then some (125,0,121,true,false) else none
def shpD (f:Int):Int×Int×Int×Bool×Bool:=(shp f).getD (0,0,0,false,false)
theorem shape_eq (f:Int):qc2_ (f,())=some (shpD f,(shp f).isSome,()):=rfl
theorem shp_cases (f:Int):((f=1∨f=2)∧shp f=some (2000,0,0,false,false))∨((f=3∨f=4)∧shp f=some (125,0,0,false,false))∨(f=5∧shp f=some (0,1,0,false,false)) ∨
  (f=6∧shp f=some (0,0,1,false,false))∨(f=15∧shp f=some (1968,1968,0,false,true))∨(f=16∧shp f=some (123,0,123,false,true))∨(f=23∧shp f=some (125,0,121,true,false)) ∨
  ((f ≠ 1∧f ≠ 2∧f ≠ 3∧f ≠ 4∧f ≠ 5∧f ≠ 6∧f ≠ 15∧f ≠ 16∧f ≠ 23)∧shp f=none):=by
 by_cases h1:f=1
 ·subst h1; exact .inl ⟨.inl rfl,rfl⟩
 by_cases h2:f=2
 ·subst h2; exact .inl ⟨.inr rfl,rfl⟩
 by_cases h3:f=3
 ·subst h3; exact .inr (.inl ⟨.inl rfl,rfl⟩)
 by_cases h4:f=4
 ·subst h4; exact .inr (.inl ⟨.inr rfl,rfl⟩)
 by_cases h5:f=5
 ·subst h5; exact .inr (.inr (.inl ⟨rfl,rfl⟩))
 by_cases h6:f=6
 ·subst h6; exact .inr (.inr (.inr (.inl ⟨rfl,rfl⟩)))
 by_cases h7:f=15
 ·subst h7; exact .inr (.inr (.inr (.inr (.inl ⟨rfl,rfl⟩))))
 by_cases h8:f=16
 ·subst h8; exact .inr (.inr (.inr (.inr (.inr (.inl ⟨rfl,rfl⟩)))))
 by_cases h9:f=23
 ·subst h9; exact .inr (.inr (.inr (.inr (.inr (.inr (.inl ⟨rfl,rfl⟩))))))
 refine .inr (.inr (.inr (.inr (.inr (.inr (.inr ⟨⟨h1,h2,h3,h4,h5,h6,h7,h8,h9⟩,?_⟩))))))
 have e:∀ n:Int,f ≠ n->¬ eqi n f=true:=fun n hn h=>hn (q4_.1 h).symm
 unfold shp
 rw [if_neg (e _ h1),if_neg (e _ h2),if_neg (e _ h3),if_neg (e _ h4),if_neg (e _ h5),if_neg (e _ h6),if_neg (e _ h7),if_neg (e _ h8),if_neg (e _ h9)]
def withinV (n most:Int):Bool:=if eqi most 0=true then eqi n 0 else if ge n 1=true then le n most else false
theorem within_eq (n most:Int):qht_ (n,most,())=some (withinV n most,()):=by
 show qr7_ n most=_
 unfold qr7_ withinV
 split
 ·rfl
 ·split <;> rfl
def rightS (a:TA) (s:Int×Int×Int×Bool×Bool):Bool:=(s.2.2.2.1 || eqi a.2.2.2.1 0) && (withinV a.2.2.1 s.1 && (withinV (Int.ofNat a.2.2.2.2.2.length) s.2.1 && (withinV (Int.ofNat a.2.2.2.2.1.length) s.2.2.1 &&
 (!s.2.2.2.2 || eqi (Int.ofNat a.2.2.2.2.2.length + Int.ofNat a.2.2.2.2.1.length) a.2.2.1))))
def q1o_ (a:TA):Bool:=match shp a.1 with
 | none=>false
 | some s=>rightS a s
theorem right_K2 (t:Bool) (a1 a2 a3 a4:Int) (a5:List Int) (a6:List Bool) (s1 s2 s3:Int) (s4 s5:Bool) :
  qhg_ t a1 a2 a3 a4 a5 a6 s1 s2 s3 s4 s5=some (!t && (!s5 || eqi (add .i64 (Int.ofNat a6.length) (Int.ofNat a5.length)) (cvt .i64 a3)),()):=by
 unfold qhg_ qsn_
 cases t <;> cases s5 <;> rfl
theorem right_K1 (t:Bool) (a1 a2 a3 a4:Int) (a5:List Int) (a6:List Bool) (s1 s2 s3:Int) (s4 s5:Bool) :
  qe0_ t a1 a2 a3 a4 a5 a6 s1 s2 s3 s4 s5=some (!t && (withinV (cvt .i64 a3) s1 && (withinV (Int.ofNat a6.length) s2 && (withinV (Int.ofNat a5.length) s3 && (!s5 || eqi (add .i64 (Int.ofNat a6.length) (Int.ofNat a5.length)) (cvt .i64 a3))))),()):=by
 unfold qe0_ qsu_
 rw [within_eq,within_eq,within_eq]
 simp only [Option.bind_some,right_K2]
 cases t <;> cases withinV (cvt .i64 a3) s1 <;> cases withinV (Int.ofNat a6.length) s2 <;> cases withinV (Int.ofNat a5.length) s3 <;> rfl
theorem right_eq {a:TA} (h:OkA a):q8k_ (a,())=some (q1o_ a,()):=by
 show qn5_ qe0_ a=_
 unfold qn5_
 have h1:=h.m0
 have h2:=h.m1
 have h3:=h.lw
 have h4:=h.lb
 rw [shape_eq,Option.bind_some]
 simp only [right_K1]
 rw [cvt64 (by omega) (by omega),add64 (by rw [q1_,q1_]; omega) (by rw [q1_,q1_]; omega)]
 unfold q1o_ shpD
 cases shp a.1 with
 | none=>rfl
 | some s =>
  obtain ⟨s1,s2,s3,s4,s5⟩:=s
  unfold rightS
  have e:nei a.2.2.2.1 0=!eqi a.2.2.2.1 0:=rfl
  rw [e]
  cases s4 <;> cases eqi a.2.2.2.1 0 <;> rfl
theorem two_eq {y:Int}:([cvt .u8 (shr .u16 y 8),cvt .u8 y]:List Int)=two y:=by
 rw [cvt8,cvt8,shr8 _ _ (by decide)]
 rfl
theorem numbers_eq {l out:List Int} (h:out.length + 2 * l.length≤1000000):q20_ (l,out,())=some (out++l.flatMap two,()):=by
 show qhw_ qde_ l out=_
 unfold qhw_ qde_
 refine (loop_idx (xs:=l) (mk:=fun i acc=>(l,Int.ofNat l.length,(i:Int),acc)) (stp:=fun o y=>o++two y) (fin:=fun acc=>some (acc,())) (fun i acc=>acc.length≤out.length + 2 * i) ?_ ?_ ?_ l.length 0 out _ (by omega) (by omega) (by omega)).trans ?_
 ·intro self i acc x hx hI
  have hi:=(List.getElem?_eq_some_iff.1 hx).1
  show q9v_ _ l (Int.ofNat l.length) (i:Int) acc=_
  unfold q9v_
  rw [if_pos (by rw [q7_,q1_]; omega),ql_ hx,Option.bind_some,qn_ (by omega),two_eq,q1a_ (by omega)]
 ·intro i acc x hx hI
  simp [two]
  omega
 ·intro self acc _
  show q9v_ _ l (Int.ofNat l.length) (l.length:Int) acc=_
  unfold q9v_
  rw [if_neg (by rw [q7_,q1_]; omega)]
 ·rw [List.drop_zero,foldl_app]
end Go.Proofs.Lx
end
section
namespace Pl
open Go Ev Sx
theorem loop_det {σ R:Type} {F:(σ->Option R)->σ->Option R} {mk:Nat->σ} {N:Nat} {r:Option R} (hs:∀ self i,i < N->F self (mk i)=self (mk (i + 1))) (he:∀ self,F self (mk N)=r) :
  ∀ (k i n:Nat),i + k=N->k < n->loopF F n (mk i)=r
 | _,_,0,_,h=>by omega
 | 0,i,n + 1,h,_=>by
  have:i=N:=by omega
  subst this
  rw [q21_,he]
 | k + 1,i,n + 1,h,hn=>by rw [q21_,hs _ _ (by omega),loop_det hs he k (i + 1) n (by omega) (by omega)]
theorem quo_nat {i d:Nat} (hi:i < 4611686018427387904):quo .i64 (i:Int) (d:Int)=((i / d:Nat):Int):=by
 unfold quo
 have h:=Nat.div_le_self i d
 have e:(i:Int).tdiv (d:Int)=((i / d:Nat):Int):=by rw [Int.ofNat_tdiv]
 rw [e]
 generalize i / d=q at h ⊢
 exact w64 (by omega) (by omega)
theorem rem_nat {i d:Nat}:rem (i:Int) (d:Int)=((i % d:Nat):Int):=by
 unfold rem
 rw [Int.ofNat_tmod]
theorem fill_step {α:Type} {f:Nat->α} {init:List α} {i:Nat} (hi:i < init.length):((List.range i).map f++init.drop i).set i (f i)=(List.range (i + 1)).map f++init.drop (i + 1):=by
 rw [List.drop_eq_getElem_cons hi,List.set_append_right _ _ (by simp)]
 simp only [List.length_map,List.length_range,Nat.sub_self,List.set_cons_zero,List.range_succ,List.map_append,List.map_cons,List.map_nil,List.append_assoc,List.singleton_append]
end Pl
namespace Go.Proofs.Lx
open Go Ev Sx Pl
set_option maxRecDepth 100000
def byteV:List Bool->Int
 | []=>0
 | b::r=>(if b=true then 1 else 0) + 2 * byteV r
theorem byteV_rng:∀ t:List Bool,0≤byteV t∧byteV t < 2 ^ t.length
 | []=>by simp [byteV]
 | b::r=>by
  have:=byteV_rng r
  rw [List.length_cons,Int.pow_succ]
  unfold byteV
  split <;> omega
theorem byteV_snoc (b:Bool):∀ t:List Bool,byteV (t++[b])=byteV t + (if b=true then 2 ^ t.length else 0)
 | []=>by cases b <;> rfl
 | a::r=>by
  rw [List.cons_append]
  unfold byteV
  rw [byteV_snoc b r,List.length_cons,Int.pow_succ]
  cases b <;> simp <;> omega
theorem byteV_bit:∀ (t:List Bool) (k:Nat),byteV t / 2 ^ k % 2=(if t.getD k false=true then 1 else 0)
 | [],k=>by simp [byteV]
 | b::r,0=>by
  unfold byteV
  cases b <;> simp <;> omega
 | b::r,k + 1=>by
  have:=byteV_bit r k
  rw [List.getD_cons_succ,<- this]
  have e:((if b=true then (1:Int) else 0) + 2 * byteV r) / 2 ^ (k + 1)=byteV r / 2 ^ k:=by
   rw [Int.pow_succ,Int.mul_comm (2 ^ k) 2,<- Int.ediv_ediv_of_nonneg (by decide)]
   congr 1
   split <;> omega
  show ((if b=true then (1:Int) else 0) + 2 * byteV r) / 2 ^ (k + 1) % 2=_
  rw [e]
def packN (n:Nat):Nat:=(n + 7) / 8
def packP (bits:List Bool) (i:Nat):List Int:=(List.range (packN bits.length)).map fun j=>byteV (((bits.take i).drop (8 * j)).take 8)
def packS (bits:List Bool):List Int:=(List.range (packN bits.length)).map fun j=>byteV ((bits.drop (8 * j)).take 8)
theorem packP_len (bits:List Bool) (i:Nat):(packP bits i).length=packN bits.length:=by simp [packP]
theorem packS_len (bits:List Bool):(packS bits).length=packN bits.length:=by simp [packS]
theorem packP_all (bits:List Bool):packP bits bits.length=packS bits:=by unfold packP packS; rw [List.take_length]
theorem packP_zero (bits:List Bool):packP bits 0=List.replicate (packN bits.length) 0:=by
 unfold packP
 rw [List.take_zero]
 simp only [List.drop_nil,List.take_nil,byteV]
 exact List.map_const' ..|>.trans (by simp)
theorem chunk_next {bits:List Bool} {i j:Nat} {y:Bool} (hy:bits[i]? = some y):((bits.take (i + 1)).drop (8 * j)).take 8=((bits.take i).drop (8 * j)).take 8++(if j=i / 8 then [y] else []):=by
 have hi:=(List.getElem?_eq_some_iff.1 hy).1
 have e:bits.take (i + 1)=bits.take i++[y]:=by rw [List.take_add_one,hy]; rfl
 have hl:(bits.take i).length=i:=by rw [List.length_take]; omega
 by_cases h:j=i / 8
 ·rw [if_pos h,e,List.drop_append_of_le_length (by omega)]
  have h1:((bits.take i).drop (8 * j)++[y]).length≤8:=by rw [List.length_append,List.length_drop,hl,List.length_singleton]; omega
  rw [List.take_of_length_le h1,List.take_of_length_le (l:=(bits.take i).drop (8 * j)) (by rw [List.length_drop,hl]; omega)]
 ·rw [if_neg h,List.append_nil]
  by_cases h2:8 * j≤i
  ·rw [e,List.drop_append_of_le_length (by omega),List.take_append_of_le_length (by simp; omega)]
  ·rw [List.drop_of_length_le (by simp; omega),List.drop_of_length_le (by simp; omega)]
theorem packP_next {bits:List Bool} {i:Nat} {y:Bool} (hy:bits[i]? = some y) :
  ∃ v,(packP bits i)[i / 8]? = some v∧0≤v∧v < 2 ^ (i % 8)∧packP bits (i + 1)=(if y=true then (packP bits i).set (i / 8) (v + 2 ^ (i % 8)) else packP bits i):=by
 have hi:=(List.getElem?_eq_some_iff.1 hy).1
 have hm:i / 8 < packN bits.length:=by unfold packN; omega
 have hlen:((((bits.take i).drop (8 * (i / 8))).take 8)).length=i % 8:=by simp; omega
 refine ⟨byteV (((bits.take i).drop (8 * (i / 8))).take 8),?_,(byteV_rng _).1,?_,?_⟩
 ·unfold packP
  rw [List.getElem?_map,List.getElem?_range hm]
  rfl
 ·have:=(byteV_rng (((bits.take i).drop (8 * (i / 8))).take 8)).2
  rwa [hlen] at this
 ·apply List.ext_getElem?
  intro j
  have hj:∀ q,(packP bits q)[j]? = if j < packN bits.length then some (byteV (((bits.take q).drop (8 * j)).take 8)) else none:=by
   intro q
   unfold packP
   rw [List.getElem?_map]
   split
   ·rename_i h; rw [List.getElem?_range h]; rfl
   ·rename_i h; rw [List.getElem?_eq_none (by simp; omega)]; rfl
  rw [hj]
  by_cases hjm:j < packN bits.length
  ·rw [if_pos hjm,chunk_next hy]
   by_cases hji:j=i / 8
   ·rw [if_pos hji,byteV_snoc]
    cases y with
    | true =>
     rw [if_pos rfl,if_pos rfl,hji,hlen,List.getElem?_set_self (by rw [packP_len]; exact hm)]
    | false =>
     rw [if_neg (by decide),if_neg (by decide),hj,if_pos hjm,Int.add_zero]
   ·rw [if_neg hji,List.append_nil]
    cases y with
    | true=>rw [if_pos rfl,List.getElem?_set_ne (by omega),hj,if_pos hjm]
    | false=>rw [if_neg (by decide),hj,if_pos hjm]
  ·rw [if_neg hjm]
   cases y with
   | true=>rw [if_pos rfl,List.getElem?_set_ne (by omega),hj,if_neg hjm]
   | false=>rw [if_neg (by decide),hj,if_neg hjm]
theorem bor_bit {v:Int} {k:Nat} (h0:0≤v) (h1:v < 2 ^ k) (hk:k < 8):bor .u8 v (shl .u8 1 (k:Int))=v + 2 ^ k:=by
 have key:∀ (k:Fin 8) (v:Fin 128),v.1 < 2 ^ k.1->bor .u8 (v.1:Int) (shl .u8 1 (k.1:Int))=(v.1:Int) + 2 ^ k.1:=by decide +kernel
 obtain ⟨n,rfl⟩:=Int.eq_ofNat_of_zero_le h0
 have h2:n < 2 ^ k:=by exact_mod_cast h1
 have h3:2 ^ k≤2 ^ 7:=Nat.pow_le_pow_right (by decide) (by omega)
 exact key ⟨k,hk⟩ ⟨n,by omega⟩ h2
theorem pack_eq {bits:List Bool} (h:bits.length≤100000):qlc_ (bits,())=some (packS bits,()):=by
 show qph_ qg6_ bits=_
 have hK:qg6_ bits (packN bits.length:Int)=some (packS bits,()):=by
  unfold qg6_ qtn_
  have hN:packN bits.length≤100000:=by unfold packN; omega
  rw [q8_ (by rw [q17_]; omega),q8_ (capOk_self _),Int.toNat_natCast,qn_ (by omega)]
  unfold qpt_
  rw [<- packP_zero,<- packP_all]
  refine loop_det (mk:=fun i=>(bits,Int.ofNat bits.length,(i:Int),packP bits i)) (N:=bits.length) ?_ ?_ bits.length 0 _ (by omega) (by omega)
  ·intro self i hi
   have hy:bits[i]? = some (bits[i]'hi):=List.getElem?_eq_getElem hi
   obtain ⟨v,hv,h0,h1,e⟩:=packP_next hy
   show qga_ _ bits (Int.ofNat bits.length) (i:Int) (packP bits i)=_
   unfold qga_
   have hq:quo .i64 (i:Int) 8=((i / 8:Nat):Int):=quo_nat (d:=8) (by omega)
   have hr:rem (i:Int) 8=((i % 8:Nat):Int):=rem_nat (d:=8)
   rw [if_pos (by rw [q7_,q1_]; omega),ql_ hy,Option.bind_some,hq,hr,ql_ hv,q1a_ (by omega)]
   simp only [Option.bind_some]
   rw [q8_ (by rw [q17_]; omega),bor_bit h0 h1 (Nat.mod_lt _ (by decide)),Int.toNat_natCast,e]
   split <;> rfl
  ·intro self
   show qga_ _ bits (Int.ofNat bits.length) (bits.length:Int) (packP bits bits.length)=_
   unfold qga_
   rw [if_neg (by rw [q7_,q1_]; omega)]
 unfold qph_
 have hq:quo .i64 (Int.ofNat bits.length) 8=((bits.length / 8:Nat):Int):=quo_nat (d:=8) (by omega)
 rw [hq]
 split
 ·rename_i h1
  rw [gt_iff,q1_,show rem (bits.length:Int) 8=((bits.length % 8:Nat):Int) from rem_nat (d:=8)] at h1
  rw [q1a_ (by omega)]
  have:bits.length / 8 + 1=packN bits.length:=by unfold packN; omega
  rw [this]
  exact hK
 ·rename_i h1
  rw [gt_iff,q1_,show rem (bits.length:Int) 8=((bits.length % 8:Nat):Int) from rem_nat (d:=8)] at h1
  have:bits.length / 8=packN bits.length:=by unfold packN; omega
  rw [this]
  exact hK
def bitV (y:Int) (k:Nat):Bool:=eqi (band .u8 (shr .u8 y (k:Int)) 1) 1
theorem bitV_eq {y:Int} {k:Nat} (h0:0≤y) (h1:y < 256) (hk:k < 8):bitV y k=decide (y / 2 ^ k % 2=1):=by
 have key:∀ (k:Fin 8) (v:Fin 256),bitV (v.1:Int) k.1=decide ((v.1:Int) / 2 ^ k.1 % 2=1):=by decide +kernel
 obtain ⟨n,rfl⟩:=Int.eq_ofNat_of_zero_le h0
 exact key ⟨k,hk⟩ ⟨n,by omega⟩
def unpackS (b:List Int):List Bool:=(List.range (8 * b.length)).map fun i=>bitV (b.getD (i / 8) 0) (i % 8)
theorem unpack_eq {b:List Int} (h:b.length≤100000):qi1_ (b,())=some (unpackS b,()):=by
 show qkl_ qg4_ b=_
 unfold qkl_
 have hm:mul .i64 8 (Int.ofNat b.length)=((8 * b.length:Nat):Int):=by
  rw [mul64 (by rw [q1_]; omega) (by rw [q1_]; omega)]
  simp
 rw [hm,q8_ (by rw [q17_]; omega),q8_ (capOk_self _),Int.toNat_natCast,qn_ (by omega),List.length_replicate]
 unfold qg4_ unpackS
 refine (loop_det (mk:=fun i=>(b,Int.ofNat (8 * b.length),(i:Int),(List.range i).map (fun i=>bitV (b.getD (i / 8) 0) (i % 8))++(List.replicate (8 * b.length) false).drop i)) (N:=8 * b.length) ?_ ?_ (8 * b.length) 0 _ (by omega) (by omega))
 ·intro self i hi
  show qbm_ _ b (Int.ofNat (8 * b.length)) (i:Int) _=_
  unfold qbm_
  have hq:quo .i64 (i:Int) 8=((i / 8:Nat):Int):=quo_nat (d:=8) (by omega)
  have hr:rem (i:Int) 8=((i % 8:Nat):Int):=rem_nat (d:=8)
  have hlt:i / 8 < b.length:=by omega
  have hb:b[i / 8]? = some (b[i / 8]'hlt):=List.getElem?_eq_getElem hlt
  have hlen:((List.range i).map (fun i=>bitV (b.getD (i / 8) 0) (i % 8))++(List.replicate (8 * b.length) false).drop i).length=8 * b.length:=by simp; omega
  have ho:((List.range i).map (fun i=>bitV (b.getD (i / 8) 0) (i % 8))++(List.replicate (8 * b.length) false).drop i)[i]? = some (((List.range i).map (fun i=>bitV (b.getD (i / 8) 0) (i % 8))++(List.replicate (8 * b.length) false).drop i)[i]'(by omega)):=List.getElem?_eq_getElem (by omega)
  rw [if_pos (by rw [q7_,q1_]; omega),hq,hr,ql_ hb,Option.bind_some,q8_ (by rw [q17_]; omega),ql_ ho,Option.bind_some,Option.bind_some,q1a_ (by omega),Int.toNat_natCast]
  have e:eqi (band .u8 (shr .u8 (b[i / 8]'hlt) ((i % 8:Nat):Int)) 1) 1=bitV (b.getD (i / 8) 0) (i % 8):=by
   rw [List.getD_eq_getElem?_getD,hb]
   rfl
  rw [e,fill_step (f:=fun i=>bitV (b.getD (i / 8) 0) (i % 8)) (by simp; omega)]
 ·intro self
  show qbm_ _ b (Int.ofNat (8 * b.length)) ((8 * b.length:Nat):Int) _=_
  unfold qbm_
  rw [if_neg (by rw [q7_,q1_]; omega),List.drop_of_length_le (by simp),List.append_nil]
end Go.Proofs.Lx
end
section
namespace Go.Proofs.Lx
open Go Ev Sx Pl
set_option maxRecDepth 100000
inductive RA:TA->Prop where
 | bits (f p n:Int) (hf:f=1∨f=2) (h1:1≤n) (h2:n≤2000):RA (f,p,n,0,[],[])
 | words (f p n:Int) (hf:f=3∨f=4) (h1:1≤n) (h2:n≤125):RA (f,p,n,0,[],[])
 | coil (p:Int) (b:Bool):RA (5,p,0,0,[],[b])
 | word (p:Int) (x:Int):RA (6,p,0,0,[x],[])
 | coils (p:Int) (l:List Bool) (h1:1≤l.length) (h2:l.length≤1968):RA (15,p,(l.length:Int),0,[],l)
 | regs (p:Int) (l:List Int) (h1:1≤l.length) (h2:l.length≤123):RA (16,p,(l.length:Int),0,l,[])
 | swap (p n t:Int) (l:List Int) (h1:1≤l.length) (h2:l.length≤121) (h3:1≤n) (h4:n≤125):RA (23,p,n,t,l,[])
theorem within0 {n:Int} (h:withinV n 0=true):n=0:=q4_.1 h
theorem within1 {n m:Int} (hm:0 < m) (h:withinV n m=true):1≤n∧n≤m:=by
 unfold withinV at h
 rw [if_neg (by rw [q4_]; omega)] at h
 split at h
 ·rename_i h1; exact ⟨q17_.1 h1,qv_.1 h⟩
 ·cases h
theorem len0 {α:Type} {l:List α} (h:Int.ofNat l.length=0):l=[]:=by
 rw [q1_] at h
 exact List.eq_nil_of_length_eq_zero (by omega)
theorem len1 {α:Type} {l:List α} (h:1≤Int.ofNat l.length∧Int.ofNat l.length≤1):∃ x,l=[x]:=by
 rw [q1_] at h
 exact List.length_eq_one_iff.1 (by omega)
theorem q3i_ {a:TA} (hr:q1o_ a=true):RA a:=by
 obtain ⟨f,p,n,t,ws,bs⟩:=a
 unfold q1o_ at hr
 simp only at hr
 rcases shp_cases f with ⟨hf,e⟩ | ⟨hf,e⟩ | ⟨hf,e⟩ | ⟨hf,e⟩ | ⟨hf,e⟩ | ⟨hf,e⟩ | ⟨hf,e⟩ | ⟨hf,e⟩ <;> rw [e] at hr <;> simp only [rightS,Bool.and_eq_true,Bool.false_or,Bool.true_or,Bool.not_false,Bool.not_true,true_and,and_true] at hr
 ·obtain ⟨h1,h2,h3,h4⟩:=hr
  have h2:=within1 (by decide) h2
  rw [q4_.1 h1,len0 (within0 h3),len0 (within0 h4)]
  exact .bits f p n hf h2.1 h2.2
 ·obtain ⟨h1,h2,h3,h4⟩:=hr
  have h2:=within1 (by decide) h2
  rw [q4_.1 h1,len0 (within0 h3),len0 (within0 h4)]
  exact .words f p n hf h2.1 h2.2
 ·obtain ⟨h1,h2,h3,h4⟩:=hr
  obtain ⟨b,rfl⟩:=len1 (within1 (by decide) h3)
  rw [q4_.1 h1,within0 h2,len0 (within0 h4),hf]
  exact .coil p b
 ·obtain ⟨h1,h2,h3,h4⟩:=hr
  obtain ⟨b,rfl⟩:=len1 (within1 (by decide) h4)
  rw [q4_.1 h1,within0 h2,len0 (within0 h3),hf]
  exact .word p b
 ·obtain ⟨h1,h2,h3,h4,h5⟩:=hr
  have h3:=within1 (by decide) h3
  have e4:=len0 (within0 h4)
  subst e4
  rw [q4_.1 h1,<- q4_.1 h5,hf]
  rw [q1_] at h3
  exact .coils p bs (by omega) (by omega)
 ·obtain ⟨h1,h2,h3,h4,h5⟩:=hr
  have h4:=within1 (by decide) h4
  have e3:=len0 (within0 h3)
  subst e3
  have e5:(ws.length:Int)=n:=by have:=q4_.1 h5; simpa using this
  rw [q4_.1 h1,<- e5,hf]
  rw [q1_] at h4
  exact .regs p ws (by omega) (by omega)
 ·obtain ⟨h2,h3,h4⟩:=hr
  have h2:=within1 (by decide) h2
  have h4:=within1 (by decide) h4
  rw [len0 (within0 h3),hf]
  rw [q1_] at h4
  exact .swap p n t ws (by omega) (by omega) h2.1 h2.2
 ·cases hr
def askB (a:TA):List Int :=
 if a.1=5 then a.1::two a.2.1++two (if a.2.2.2.2.2.headD false=true then 65280 else 0)
 else if a.1=6 then a.1::two a.2.1++a.2.2.2.2.1.flatMap two
 else if a.1=15 then a.1::two a.2.1++two a.2.2.1++[(packN a.2.2.2.2.2.length:Int)]++packS a.2.2.2.2.2
 else if a.1=16 then a.1::two a.2.1++two a.2.2.1++[2 * (a.2.2.2.2.1.length:Int)]++a.2.2.2.2.1.flatMap two
 else if a.1=23 then a.1::two a.2.1++two a.2.2.1++two a.2.2.2.1++two (a.2.2.2.2.1.length:Int)++[2 * (a.2.2.2.2.1.length:Int)]++a.2.2.2.2.1.flatMap two
 else a.1::two a.2.1++two a.2.2.1
theorem flat_two_len (l:List Int):(l.flatMap two).length=2 * l.length:=by
 induction l with
 | nil=>rfl
 | cons x r ih=>rw [List.flatMap_cons,List.length_append,ih]; simp [two]; omega
abbrev BO:=Option (As [.sl (.int .u8),.int .i64])
theorem bK0 (f p n s1:Int) (out:List Int) (h5:f=1∨f=2∨f=3∨f=4):q5p_ f p n 0 [] [] s1 0 0 false false out=some (out,0,()):=by
 rcases h5 with rfl | rfl | rfl | rfl <;> rfl
theorem bK5 (p:Int) (b:Bool) (out:List Int):q5p_ 5 p 0 0 [] [b] 0 1 0 false false out=Option.bind (q20_ ([if b=true then 65280 else 0],out,())) fun y=>(some (y.1,0,()):BO):=by
 cases b <;> rfl
theorem bK6 (p x:Int) (out:List Int):q5p_ 6 p 0 0 [x] [] 0 0 1 false false out=Option.bind (q20_ ([x],out,())) fun y=>(some (y.1,0,()):BO):=rfl
theorem bK15 (p n:Int) (l:List Bool) (out:List Int):q5p_ 15 p n 0 [] l 1968 1968 0 false true out =
  Option.bind (qlc_ (l,())) fun y=>need (small (out.length + 1)) (need (small ((out++[Int.ofNat (y.1.length % 256)]).length + y.1.length)) (some (out++[Int.ofNat (y.1.length % 256)]++y.1,0,()):BO)):=rfl
theorem bK16 (p n:Int) (l out:List Int):q5p_ 16 p n 0 l [] 123 0 123 false true out =
  need (small (out.length + 1)) (Option.bind (q20_ (l,out++[cvt .u8 (mul .i64 2 (Int.ofNat l.length))],())) fun y=>(some (y.1,0,()):BO)):=rfl
theorem bK23 (p n t:Int) (l out:List Int):q5p_ 23 p n t l [] 125 0 121 true false out =
  Option.bind (q20_ ([t,Int.ofNat (l.length % 65536)],out,())) fun y=>need (small (y.1.length + 1)) (Option.bind (q20_ (l,y.1++[cvt .u8 (mul .i64 2 (Int.ofNat l.length))],())) fun y=>(some (y.1,0,()):BO)):=rfl
theorem nums1 (x:Int) {out:List Int} (h:out.length≤900000):q20_ ([x],out,())=some (out++two x,()):=by
 rw [numbers_eq (by simp; omega)]
 simp
theorem q16k_ {a:TA} (h:OkA a):qc6_ (a,())=if q1o_ a=true then some (askB a,0,()) else some ([],12,()):=by
 show qlz_ q5p_ a=_
 unfold qlz_
 rw [right_eq h,Option.bind_some]
 cases hr:q1o_ a with
 | false=>rfl
 | true =>
  have hra:=q3i_ hr
  rw [if_neg (by decide),if_pos rfl,shape_eq,Option.bind_some]
  clear hr h
  have hin:∀ f p:Int,q20_ ([p],[f],())=some (f::two p,()):=fun f p=>nums1 p (by simp)
  have hin2:∀ f p n:Int,q20_ ([n],f::two p,())=some (f::two p++two n,()):=fun f p n=>nums1 n (by simp [two])
  cases hra with
  | bits f p n hf h1 h2 =>
   rcases hf with rfl | rfl <;> rw [hin,Option.bind_some,if_pos (by rfl),hin2,Option.bind_some]
   ·exact bK0 1 p n 2000 _ (.inl rfl)
   ·exact bK0 2 p n 2000 _ (.inr (.inl rfl))
  | words f p n hf h1 h2 =>
   rcases hf with rfl | rfl <;> rw [hin,Option.bind_some,if_pos (by rfl),hin2,Option.bind_some]
   ·exact bK0 3 p n 125 _ (.inr (.inr (.inl rfl)))
   ·exact bK0 4 p n 125 _ (.inr (.inr (.inr rfl)))
  | coil p b =>
   rw [hin,Option.bind_some,if_neg (by show ¬ gt 0 0=true; decide)]
   exact (bK5 p b _).trans (by rw [nums1 _ (by simp [two]),Option.bind_some]; rfl)
  | word p x =>
   rw [hin,Option.bind_some,if_neg (by show ¬ gt 0 0=true; decide)]
   exact (bK6 p x _).trans (by rw [nums1 _ (by simp [two]),Option.bind_some]; simp [askB])
  | coils p l h1 h2 =>
   rw [hin,Option.bind_some,if_pos (by rfl),hin2,Option.bind_some]
   refine (bK15 p _ l _).trans ?_
   rw [pack_eq (by omega),Option.bind_some,qn_ (by simp [two]),qn_ (by simp [two,packS_len,packN]; omega)]
   refine congrArg (fun x=>some (x,0,())) ?_
   have e:packN l.length % 256=packN l.length:=by unfold packN; omega
   rw [packS_len,e]
   rfl
  | regs p l h1 h2 =>
   rw [hin,Option.bind_some,if_pos (by rfl),hin2,Option.bind_some]
   refine (bK16 p _ l _).trans ?_
   rw [qn_ (by simp [two]),mul64 (by rw [q1_]; omega) (by rw [q1_]; omega),cvt8,numbers_eq (by simp [two]; omega),Option.bind_some]
   refine congrArg (fun x=>some (x,0,())) ?_
   have e:(2 * Int.ofNat l.length) % 256=2 * (l.length:Int):=by rw [q1_]; omega
   rw [e]
   rfl
  | swap p n t l h1 h2 h3 h4 =>
   rw [hin,Option.bind_some,if_pos (by rfl),hin2,Option.bind_some]
   refine (bK23 p n t l _).trans ?_
   rw [numbers_eq (by simp [two]),Option.bind_some,qn_ (by simp [two]),mul64 (by rw [q1_]; omega) (by rw [q1_]; omega),cvt8,numbers_eq (by simp [two]; omega),Option.bind_some]
   refine congrArg (fun x=>some (x,0,())) ?_
   have e:(2 * Int.ofNat l.length) % 256=2 * (l.length:Int):=by rw [q1_]; omega
   have e2:Int.ofNat (l.length % 65536)=(l.length:Int):=by rw [q1_]; omega
   rw [e,e2]
   simp [askB]
end Go.Proofs.Lx
end
section
namespace Pl
open Go Ev Sx
theorem zip_at {α β:Type} {s1:List α} {s2:List β} (h:s1.length=s2.length) {i:Nat} {x:α×β} (hx:(s1.zip s2)[i]? = some x):s1[i]? = some x.1∧s2[i]? = some x.2:=by
 rw [List.getElem?_zip_eq_some] at hx
 exact hx
theorem goL_eq {α:Type} [DecidableEq α] {ne:α->α->Bool} (hne:∀ a b,ne a b=!decide (a=b)):∀ (s1 s2:List α),s1.length=s2.length ->
  goL (R:=Bool×Unit) (fun (_:Unit) (x:α×α) k=>if ne x.1 x.2=true then some (false,()) else k ()) (fun _=>some (true,())) (s1.zip s2) ()=some (decide (s1=s2),())
 | [],[],_=>rfl
 | a::r,b::q,h=>by
  rw [List.zip_cons_cons]
  show (if ne a b=true then some (false,()) else goL _ _ (r.zip q) ())=_
  rw [hne]
  by_cases e:a=b
  ·subst e
   rw [if_neg (by simp),goL_eq hne r q (by simpa using h)]
   simp
  ·rw [if_pos (by simp [e])]
   simp [e]
end Pl
namespace Go.Proofs.Lx
open Go Ev Sx Pl
set_option maxRecDepth 100000
theorem equalW_eq {s1 s2:List Int} (h:s1.length≤1000000):q2j_ (s1,s2,())=some (decide (s1=s2),()):=by
 show q7o_ q54_ s1 s2=_
 unfold q7o_
 by_cases hl:s1.length=s2.length
 ·rw [if_neg (by rw [qf_,q1_,q1_]; omega)]
  unfold q54_
  have hz:(s1.zip s2).length=s1.length:=by rw [List.length_zip]; omega
  rw [<- goL_eq (ne:=nei) (fun a b=>by simp [nei]; rfl) s1 s2 hl]
  refine loop_go (xs:=s1.zip s2) (mk:=fun i _=>(s1,s2,Int.ofNat s1.length,(i:Int))) ?_ ?_ s1.length 0 () _ (by rw [hz]; omega) (by omega)
  ·intro self i acc x hx
   have hi:=(List.getElem?_eq_some_iff.1 hx).1
   obtain ⟨h1,h2⟩:=zip_at hl hx
   show q3x_ _ s1 s2 (Int.ofNat s1.length) (i:Int)=_
   unfold q3x_
   rw [if_pos (by rw [q7_,q1_]; omega),ql_ h1,Option.bind_some,ql_ h2,Option.bind_some,q1a_ (by omega)]
  ·intro self acc
   show q3x_ _ s1 s2 (Int.ofNat s1.length) (((s1.zip s2).length:Nat):Int)=_
   unfold q3x_
   rw [if_neg (by rw [q7_,q1_]; omega)]
 ·rw [if_pos (by rw [qf_,q1_,q1_]; omega),decide_eq_false (fun e=>hl (by rw [e]))]
theorem equalB_eq {s1 s2:List Bool} (h:s1.length≤1000000):q6a_ (s1,s2,())=some (decide (s1=s2),()):=by
 show q8r_ q6b_ s1 s2=_
 unfold q8r_
 by_cases hl:s1.length=s2.length
 ·rw [if_neg (by rw [qf_,q1_,q1_]; omega)]
  unfold q6b_
  have hz:(s1.zip s2).length=s1.length:=by rw [List.length_zip]; omega
  rw [<- goL_eq (ne:=neb) (fun a b=>by cases a <;> cases b <;> rfl) s1 s2 hl]
  refine loop_go (xs:=s1.zip s2) (mk:=fun i _=>(s1,s2,Int.ofNat s1.length,(i:Int))) ?_ ?_ s1.length 0 () _ (by rw [hz]; omega) (by omega)
  ·intro self i acc x hx
   have hi:=(List.getElem?_eq_some_iff.1 hx).1
   obtain ⟨h1,h2⟩:=zip_at hl hx
   show q4o_ _ s1 s2 (Int.ofNat s1.length) (i:Int)=_
   unfold q4o_
   rw [if_pos (by rw [q7_,q1_]; omega),ql_ h1,Option.bind_some,ql_ h2,Option.bind_some,q1a_ (by omega)]
  ·intro self acc
   show q4o_ _ s1 s2 (Int.ofNat s1.length) (((s1.zip s2).length:Nat):Int)=_
   unfold q4o_
   rw [if_neg (by rw [q7_,q1_]; omega)]
 ·rw [if_pos (by rw [qf_,q1_,q1_]; omega),decide_eq_false (fun e=>hl (by rw [e]))]
abbrev BB:=Option (As [.bool])
theorem if_dec {p:Prop} [Decidable p] {b:Bool} {k:BB} {q:Bool} (h:b=true ↔ p) (hk:p->k=some (q,())):(if b=true then k else some (false,()))=some (decide p && q,()):=by
 by_cases hp:p
 ·rw [if_pos (h.2 hp),hk hp,decide_eq_true hp]; rfl
 ·rw [if_neg (fun e=>hp (h.1 e)),decide_eq_false hp]; rfl
instance decA5:DecidableEq (Int×Int×Int×List Int×List Bool):=inferInstance
instance decA:DecidableEq TA:=inferInstance
abbrev TP:=Int×Int×Int×Int×Bool×TA×Int×Int×Int
instance decP1:DecidableEq (TA×Int×Int×Int):=inferInstance
instance decP2:DecidableEq (Int×Bool×TA×Int×Int×Int):=inferInstance
instance decP:DecidableEq TP:=inferInstance
theorem eqb_iff {a b:Bool}:eqb a b=true ↔ a=b:=by cases a <;> cases b <;> decide
theorem q3v_ {s:List Int} (h:s.length≤1000000):qg_ (s,())=some (s,()):=by
 show qba_ s=_
 unfold qba_
 split
 ·rename_i h0
  rw [len0 (q4_.1 h0)]
  rfl
 ·rw [qn_ (by omega)]
  all_goals rfl
theorem cloneB_eq {s:List Bool} (h:s.length≤1000000):q6d_ (s,())=some (s,()):=by
 show qdl_ s=_
 unfold qdl_
 split
 ·rename_i h0
  rw [len0 (q4_.1 h0)]
  rfl
 ·rw [qn_ (by omega)]
  all_goals rfl
def mbapV (tx unit:Int) (pdu:List Int):List Int:=[tx / 256 % 256,tx % 256,0,0,0,(pdu.length + 1:Nat) % 256,unit]++pdu
theorem q1ay_ {tx unit:Int} {pdu:List Int} (h1:1≤pdu.length) (h2:pdu.length≤253):qqi_ ((tx,unit,pdu),())=some (mbapV tx unit pdu,0,()):=by
 show qmm_ qlr_ (tx,unit,pdu)=_
 unfold qmm_
 rw [if_neg (by rw [q7_]; simp only [q1_]; omega)]
 show qm6_ (Int.ofNat pdu.length) (gt (Int.ofNat pdu.length) 253) (tx,unit,pdu)=_
 unfold qm6_
 dsimp only
 have e:add .i64 7 (Int.ofNat pdu.length)=((7 + pdu.length:Nat):Int):=addn64 (n:=7) (by omega)
 rw [if_neg (by rw [gt_iff,q1_]; omega),e,q8_ (capOk_0 (by omega)),q8_ (by rw [small_iff]; omega),qn_ (by omega),qn_ (by simp; omega),cvt8,cvt8,cvt8,shr8 _ _ (by decide),q1_,q1a_ (by omega)]
 rfl
theorem rtub_eq {unit:Int} {pdu:List Int} (hu:1≤unit) (hu2:unit≤247) (h1:1≤pdu.length) (h2:pdu.length≤253):qqq_ (unit,pdu,())=some (putV (unit::pdu),0,()):=by
 show qne_ qnf_ unit pdu=_
 unfold qne_
 have e:qev_ (unit,())=some (true,()):=by
  show qfi_ unit=_
  unfold qfi_
  rw [if_pos (q17_.2 hu),qv_.2 hu2]
 rw [e,Option.bind_some,if_neg (by decide),if_neg (by rw [q7_,q1_]; omega)]
 show qng_ unit pdu (gt (Int.ofNat pdu.length) 253)=_
 unfold qng_
 rw [if_neg (by rw [gt_iff,q1_]; omega),qn_ (by omega),put_eq (by simp; omega),Option.bind_some]
structure OkP (p:TP):Prop where
 u0:1≤p.1
 u1:p.1≤247
 l:p.2.1=1∨p.2.1=2
 t0:1≤p.2.2.1
 t1:p.2.2.1≤100000
 r0:0≤p.2.2.2.1
 r1:p.2.2.2.1≤1000
 a:OkA p.2.2.2.2.2.1
 x0:0≤p.2.2.2.2.2.2.1
 x1:p.2.2.2.2.2.2.1≤65535
def zA:TA:=(0,0,0,0,[],[])
end Go.Proofs.Lx
end
section
namespace Pl
open Go Ev Sx
theorem shl8 {y:Int} (h0:0≤y) (h1:y≤255):shl .u16 (cvt .u16 y) 8=256 * y:=by
 rw [cvt16]
 unfold shl
 have:min (8:Int).toNat IntKind.u16.bits=8:=by decide
 rw [this,wr16]
 omega
theorem bor_hi {a b:Int} (ha:0≤a) (ha2:a≤255) (hb:0≤b) (hb':b≤255):bor .u16 (256 * a) b=256 * a + b:=by
 obtain ⟨n,rfl⟩:=Int.eq_ofNat_of_zero_le ha
 obtain ⟨m,rfl⟩:=Int.eq_ofNat_of_zero_le hb
 unfold bor
 rw [wr16]
 have e1:(BitVec.ofInt IntKind.u16.bits (256 * (n:Int))).toNat=256 * n:=by
  rw [BitVec.toNat_ofInt]
  have:((2 ^ IntKind.u16.bits:Nat):Int)=65536:=by decide
  rw [this]
  omega
 have e2:(BitVec.ofInt IntKind.u16.bits (m:Int)).toNat=m:=by
  rw [BitVec.toNat_ofInt]
  have:((2 ^ IntKind.u16.bits:Nat):Int)=65536:=by decide
  rw [this]
  omega
 rw [BitVec.toNat_or,e1,e2]
 have e3:256 * n ||| m=256 * n + m:=by
  have:=Nat.two_pow_add_eq_or_of_lt (i:=8) (b:=m) (by omega) n
  rw [show (2:Nat) ^ 8=256 from rfl] at this
  exact this.symm
 rw [e3]
 omega
theorem bor_comm {a b:Int}:bor .u16 a b=bor .u16 b a:=by
 unfold bor
 rw [BitVec.or_comm]
def numV (y z:Int):Int:=bor .u16 (shl .u16 (cvt .u16 y) 8) (cvt .u16 z)
theorem numV_rng (y z:Int):0≤numV y z∧numV y z < 65536:=u16_rng _
theorem numV_eq {y z:Int} (h0:0≤y) (h1:y≤255) (h2:0≤z) (h3:z≤255):numV y z=256 * y + z:=by
 unfold numV
 rw [shl8 h0 h1,cvt16]
 have:z % 65536=z:=by omega
 rw [this,bor_hi h0 h1 h2 h3]
def listS (b:List Int):List Int:=(List.range (b.length / 2)).map fun i=>numV (b.getD (2 * i) 0) (b.getD (2 * i + 1) 0)
end Pl
namespace Go.Proofs.Lx
open Go Ev Sx Pl
set_option maxRecDepth 100000
abbrev TR:=Int×Int×List Bool×List Int×Int×Int
instance decR5:DecidableEq (Int×List Bool×List Int×Int×Int):=inferInstance
instance decR:DecidableEq TR:=inferInstance
def zR:TR:=(0,0,[],[],0,0)
structure SmR (r:TR):Prop where
 b:r.2.2.1.length≤100000
 w:r.2.2.2.1.length≤100000
theorem zR_sm:SmR zR:=⟨by decide,by decide⟩
theorem sameR_eq {a b:TR} (h:SmR a):q71_ (a,b,())=some (decide (a=b),()):=by
 show qqw_ a b=_
 unfold qqw_
 have h1:=h.b
 have h2:=h.w
 rw [equalW_eq (by omega),Option.bind_some,equalB_eq (by omega),Option.bind_some]
 obtain ⟨a1,a2,a3,a4,a5,a6⟩:=a
 obtain ⟨b1,b2,b3,b4,b5,b6⟩:=b
 rw [if_dec (q4_) fun _=>if_dec (q4_) fun _=>if_dec (q4_) fun _=>if_dec (q4_) fun _=>if_dec (p:=a3=b3) (by simp) fun _=>rfl]
 refine congrArg (fun x=>some (x,())) ?_
 rw [Bool.eq_iff_iff]
 simp only [Bool.and_eq_true,decide_eq_true_eq,Prod.ext_iff]
 constructor
 ·rintro ⟨h1,h2,h3,h4,h5,h6⟩; exact ⟨h1,h2,h5,h6,h3,h4⟩
 ·rintro ⟨h1,h2,h5,h6,h3,h4⟩; exact ⟨h1,h2,h3,h4,h5,h6⟩
def exR (r:TR):Bool:=decide (r.1 < 128) && (decide (1≤r.2.1) && (decide (r.2.1≤4) && decide (r=(rem r.1 128,r.2.1,[],[],0,0))))
def bitR (r:TR):Bool:=decide (8≤r.2.2.1.length) && (decide (r.2.2.1.length≤2000) && (decide (r.2.2.1.length % 8=0) && decide (r=(r.1,0,r.2.2.1,[],0,0))))
def wordR (r:TR):Bool:=decide (1≤r.2.2.2.1.length) && (decide (r.2.2.2.1.length≤125) && decide (r=(r.1,0,[],r.2.2.2.1,0,0)))
def obR (r:TR):Bool:=decide (r.2.2.1.length=1) && decide (r=(r.1,0,r.2.2.1,[],r.2.2.2.2.1,0))
def owR (r:TR):Bool:=decide (r.2.2.2.1.length=1) && decide (r=(r.1,0,[],r.2.2.2.1,r.2.2.2.2.1,0))
def ctR (k:Int) (r:TR):Bool:=decide (1≤r.2.2.2.2.2) && (decide (r.2.2.2.2.2≤k) && decide (r=(r.1,0,[],[],r.2.2.2.2.1,r.2.2.2.2.2)))
theorem exR_eq {r:TR} (h:SmR r):q3m_ ((),r,())=some (exR r,()):=by
 show qaw_ () r=_
 unfold qaw_ exR
 have e:qk_ (r.1,r.2.1,())=some ((rem r.1 128,r.2.1,[],[],0,0),()):=rfl
 rw [e,Option.bind_some,sameR_eq h,Option.bind_some]
 rw [if_dec (q7_) fun _=>if_dec (q17_) fun _=>if_dec (qv_) fun _=>rfl]
theorem bitR_eq {r:TR} (h:SmR r):q26_ ((),r,())=some (bitR r,()):=by
 show qcj_ () r=_
 unfold qcj_ bitR
 rw [sameR_eq h,Option.bind_some]
 rw [if_dec (p:=8≤r.2.2.1.length) (by rw [q17_,q1_]; omega) fun _=>if_dec (p:=r.2.2.1.length≤2000) (by rw [qv_,q1_]; omega) fun _=>if_dec (p:=r.2.2.1.length % 8=0) (by rw [q4_,q1_,show rem (r.2.2.1.length:Int) 8=((r.2.2.1.length % 8:Nat):Int) from rem_nat (d:=8)]; omega) fun _=>rfl]
theorem wordR_eq {r:TR} (h:SmR r):q14_ ((),r,())=some (wordR r,()):=by
 show qbd_ () r=_
 unfold qbd_ wordR
 rw [sameR_eq h,Option.bind_some]
 rw [if_dec (p:=1≤r.2.2.2.1.length) (by rw [q17_,q1_]; omega) fun _=>if_dec (p:=r.2.2.2.1.length≤125) (by rw [qv_,q1_]; omega) fun _=>rfl]
theorem obR_eq {r:TR} (h:SmR r):q4u_ ((),r,())=some (obR r,()):=by
 show qdb_ () r=_
 unfold qdb_ obR
 rw [sameR_eq h,Option.bind_some]
 rw [if_dec (p:=r.2.2.1.length=1) (by rw [q4_,q1_]; omega) fun _=>rfl]
theorem owR_eq {r:TR} (h:SmR r):q4e_ ((),r,())=some (owR r,()):=by
 show qcn_ () r=_
 unfold qcn_ owR
 rw [sameR_eq h,Option.bind_some]
 rw [if_dec (p:=r.2.2.2.1.length=1) (by rw [q4_,q1_]; omega) fun _=>rfl]
theorem ctR_eq {r:TR} {k:Int} (h:SmR r):q2y_ (k,r,())=some (ctR k r,()):=by
 show qef_ k r=_
 unfold qef_ ctR
 rw [sameR_eq h,Option.bind_some]
 rw [if_dec (q17_) fun _=>if_dec (qv_) fun _=>rfl]
def rightR (r:TR):Bool:=if nei r.2.1 0=true then exR r else if eqi r.1 1=true then bitR r else if eqi r.1 2=true then bitR r else if eqi r.1 3=true then wordR r else if eqi r.1 4=true then wordR r else if eqi r.1 23=true then wordR r else
 if eqi r.1 5=true then obR r else if eqi r.1 6=true then owR r else if eqi r.1 15=true then ctR 1968 r else if eqi r.1 16=true then ctR 123 r else false
theorem rightR_eq {r:TR} (h:SmR r):qpf_ (r,())=some (rightR r,()):=by
 show qot_ r=_
 unfold qot_ rightR
 rw [exR_eq h,bitR_eq h,wordR_eq h,obR_eq h,owR_eq h,ctR_eq h,ctR_eq h]
 simp only [Option.bind_some]
 repeat (first | rfl | split)
def exB (r:TR):List Int:=[add .u8 r.1 128,r.2.1]
def bitB (r:TR):List Int:=r.1::(packN r.2.2.1.length:Int) % 256::packS r.2.2.1
def wordB (r:TR):List Int:=[r.1,2 * (r.2.2.2.1.length:Int) % 256]++r.2.2.2.1.flatMap two
def obB (r:TR):List Int:=r.1::two r.2.2.2.2.1++two (if r.2.2.1.headD false=true then 65280 else 0)
def owB (r:TR):List Int:=r.1::two r.2.2.2.2.1++two (r.2.2.2.1.headD 0)
def ctB (r:TR):List Int:=r.1::two r.2.2.2.2.1++two r.2.2.2.2.2
theorem rnumbers_eq {l out:List Int} (h:out.length + 2 * l.length≤1000000):q5z_ (l,out,())=some (out++l.flatMap two,()):=by
 show qek_ qav_ l out=_
 unfold qek_ qav_
 refine (loop_idx (xs:=l) (mk:=fun i acc=>(l,Int.ofNat l.length,(i:Int),acc)) (stp:=fun o y=>o++two y) (fin:=fun acc=>some (acc,())) (fun i acc=>acc.length≤out.length + 2 * i) ?_ ?_ ?_ l.length 0 out _ (by omega) (by omega) (by omega)).trans ?_
 ·intro self i acc x hx hI
  have hi:=(List.getElem?_eq_some_iff.1 hx).1
  show q7y_ _ l (Int.ofNat l.length) (i:Int) acc=_
  unfold q7y_
  rw [if_pos (by rw [q7_,q1_]; omega),ql_ hx,Option.bind_some,qn_ (by omega),two_eq,q1a_ (by omega)]
 ·intro i acc x hx hI
  simp [two]
  omega
 ·intro self acc _
  show q7y_ _ l (Int.ofNat l.length) (l.length:Int) acc=_
  unfold q7y_
  rw [if_neg (by rw [q7_,q1_]; omega)]
 ·rw [List.drop_zero,foldl_app]
theorem exB_eq (r:TR):q4j_ ((),r,())=some (exB r,()):=rfl
theorem bitB_eq {r:TR} (h:SmR r):q3g_ ((),r,())=some (bitB r,()):=by
 show qcm_ () r=_
 unfold qcm_
 have hb:=h.b
 rw [pack_eq hb,Option.bind_some,qn_ (by rw [packS_len]; unfold packN; omega),packS_len]
 rfl
theorem wordB_eq {r:TR} (h:SmR r):q1z_ ((),r,())=some (wordB r,()):=by
 show qbc_ () r=_
 unfold qbc_
 have hw:=h.w
 rw [mul64 (by rw [q1_]; omega) (by rw [q1_]; omega),cvt8,rnumbers_eq (by simp; omega),Option.bind_some]
 rfl
theorem obB_eq {r:TR} (h:obR r=true):q4s_ ((),r,())=some (obB r,()):=by
 unfold obR at h
 rw [Bool.and_eq_true] at h
 obtain ⟨x,hx⟩:=List.length_eq_one_iff.1 (of_decide_eq_true h.1)
 show q8v_ q4m_ () r=_
 unfold q8v_
 rw [hx,q1b_,Option.bind_some]
 have key:∀ (v:Int) (r2:Int) (r3:List Bool) (r4:List Int) (r6:Int),q4m_ v r.1 r2 r3 r4 r.2.2.2.2.1 r6=some (r.1::two r.2.2.2.2.1++two v,()):=fun v r2 r3 r4 r6=>by
  unfold q4m_ qcy_
  rw [rnumbers_eq (by simp),Option.bind_some]
  simp
 unfold obB
 rw [hx]
 cases x with
 | true=>rw [if_pos rfl,key]; rfl
 | false=>rw [if_neg (by decide),key]; rfl
theorem amb_same {R:Type} {eq:R->R->Bool} (h:∀ x,eq x x=true) (o:R):amb eq [some o,some o]=some o:=by
 show (if eq o o=true then some o else none)=_
 rw [if_pos (h o)]
theorem eqAs_refl:∀ (rs:List Ty) (x:As rs),eqAs rs x x=true
 | [],_=>rfl
 | t::r,x=>by
  show (eqV t x.1 x.1 && eqAs r x.2 x.2)=true
  rw [eqV_refl,eqAs_refl r]
  rfl
theorem owB_eq {r:TR} (h:owR r=true):q5h_ ((),r,())=some (owB r,()):=by
 unfold owR at h
 rw [Bool.and_eq_true] at h
 obtain ⟨x,hx⟩:=List.length_eq_one_iff.1 (of_decide_eq_true h.1)
 show qcb_ () r=_
 unfold qcb_
 rw [hx,q1b_,Option.bind_some,rnumbers_eq (by simp),Option.bind_some,amb_same (eqAs_refl _)]
 unfold owB
 rw [hx]
 simp
theorem ctB_eq (k:Int) (r:TR):q4d_ (k,r,())=some (ctB r,()):=by
 show qf4_ k r=_
 unfold qf4_
 rw [rnumbers_eq (by simp),Option.bind_some]
 simp [ctB]
theorem rlist_eq {b:List Int} (h:b.length≤100000):qf2_ (b,())=some (listS b,()):=by
 show qkm_ qfn_ b=_
 unfold qkm_
 have hq:quo .i64 (Int.ofNat b.length) 2=((b.length / 2:Nat):Int):=quo_nat (d:=2) (by omega)
 rw [hq,q8_ (by rw [q17_]; omega),q8_ (capOk_self _),Int.toNat_natCast,qn_ (by omega),List.length_replicate]
 unfold qfn_ listS
 refine (loop_det (mk:=fun i=>(b,Int.ofNat (b.length / 2),(i:Int),(List.range i).map (fun i=>numV (b.getD (2 * i) 0) (b.getD (2 * i + 1) 0))++(List.replicate (b.length / 2) (0:Int)).drop i)) (N:=b.length / 2) ?_ ?_ (b.length / 2) 0 _ (by omega) (by omega))
 ·intro self i hi
  show qbf_ _ b (Int.ofNat (b.length / 2)) (i:Int) _=_
  unfold qbf_
  have hm:mul .i64 2 (i:Int)=((2 * i:Nat):Int):=by
   rw [mul64 (by omega) (by omega)]
   simp
  have h1:b[2 * i]? = some (b[2 * i]'(by omega)):=List.getElem?_eq_getElem (by omega)
  have h2:b[2 * i + 1]? = some (b[2 * i + 1]'(by omega)):=List.getElem?_eq_getElem (by omega)
  have ho:((List.range i).map (fun i=>numV (b.getD (2 * i) 0) (b.getD (2 * i + 1) 0))++(List.replicate (b.length / 2) (0:Int)).drop i)[i]? = some (((List.range i).map (fun i=>numV (b.getD (2 * i) 0) (b.getD (2 * i + 1) 0))++(List.replicate (b.length / 2) (0:Int)).drop i)[i]'(by simp; omega)):=List.getElem?_eq_getElem (by simp; omega)
  rw [if_pos (by rw [q7_,q1_]; omega),hm,q1a_ (by omega),ql_ h1,ql_ h2,ql_ ho,q1a_ (by omega),Int.toNat_natCast]
  simp only [Option.bind_some]
  have e:bor .u16 (shl .u16 (cvt .u16 (b[2 * i]'(by omega))) 8) (cvt .u16 (b[2 * i + 1]'(by omega)))=numV (b.getD (2 * i) 0) (b.getD (2 * i + 1) 0):=by
   rw [List.getD_eq_getElem?_getD,List.getD_eq_getElem?_getD,h1,h2]
   rfl
  rw [e,fill_step (f:=fun i=>numV (b.getD (2 * i) 0) (b.getD (2 * i + 1) 0)) (by simp; omega)]
 ·intro self
  show qbf_ _ b (Int.ofNat (b.length / 2)) ((b.length / 2:Nat):Int) _=_
  unfold qbf_
  rw [if_neg (by rw [q7_,q1_]; omega),List.drop_of_length_le (by simp),List.append_nil]
end Go.Proofs.Lx
end
section
namespace Go.Proofs.Lx
open Go Ev Sx Pl
set_option maxRecDepth 100000
theorem listS_len (b:List Int):(listS b).length=b.length / 2:=by simp [listS]
theorem unpackS_len (b:List Int):(unpackS b).length=8 * b.length:=by simp [unpackS]
def exC (x y:Int):TR:=(rem x 128,y,[],[],0,0)
def bitC (x:Int) (r:List Int):TR:=(x,0,unpackS r,[],0,0)
def wordC (x:Int) (r:List Int):TR:=(x,0,[],listS r,0,0)
def pairC (f:Int->Int->TR) (r:List Int):TR:=match listS r with
 | p::q::_=>f p q
 | _=>zR
def obC (x:Int):List Int->TR:=pairC fun p q=>(x,0,[eqi q 65280],[],p,0)
def owC (x:Int):List Int->TR:=pairC fun p q=>(x,0,[],[q],p,0)
def ctC (x:Int):List Int->TR:=pairC fun p q=>(x,0,[],[],p,q)
theorem cut_tail {α:Type} (x:α) (r:List α):cut (x::r) 1 (Int.ofNat (x::r).length)=some r:=cut_one x r
theorem cut_two {α:Type} (x y:α) (r:List α):cut (x::y::r) 2 (Int.ofNat (x::y::r).length)=some r:=by
 have:=cut_from (xs:=x::y::r) (i:=2) (by simp)
 simpa using this
theorem exC_eq (x y:Int) (r:List Int):q96_ ((),x::y::r,())=some (exC x y,()):=rfl
theorem bitC_eq (x y:Int) {r:List Int} (h:r.length≤1000):q8d_ ((),x::y::r,())=some (bitC x r,()):=by
 show qdv_ () (x::y::r)=_
 unfold qdv_
 rw [q1b_,Option.bind_some,cut_two,Option.bind_some,unpack_eq (by omega),Option.bind_some]
 rfl
theorem wordC_eq (x y:Int) {r:List Int} (h:r.length≤1000):q5c_ ((),x::y::r,())=some (wordC x r,()):=by
 show qci_ () (x::y::r)=_
 unfold qci_
 rw [q1b_,Option.bind_some,cut_two,Option.bind_some,rlist_eq (by omega),Option.bind_some]
 rfl
theorem pair_cases (l:List Int):(l.length < 2∧∀ (f:Int->Int->TR),(match l with | p::q::_=>f p q | _=>zR)=zR)∨∃ p q r,l=p::q::r:=by
 match l with
 | []=>exact .inl ⟨by decide,fun _=>rfl⟩
 | [_]=>exact .inl ⟨by show 1 < 2; decide,fun _=>rfl⟩
 | p::q::r=>exact .inr ⟨p,q,r,rfl⟩
theorem at_one {α:Type} (p q:α) (r:List α):at? (p::q::r) 1=some q:=rfl
theorem obC_eq (x:Int) {r:List Int} (h:r.length≤1000):qcw_ ((),x::r,())=some (obC x r,()):=by
 show qex_ () (x::r)=_
 unfold qex_ obC pairC
 rw [cut_tail,Option.bind_some,rlist_eq (by omega),Option.bind_some]
 rcases pair_cases (listS r) with ⟨h1,h2⟩ | ⟨p,q,s,h1⟩
 ·dsimp only
  rw [h2,if_pos (by rw [q7_,q1_]; omega)]
  rfl
 ·dsimp only
  rw [h1,if_neg (by rw [q7_,q1_]; simp; omega),q1b_,q1b_,at_one]
  rfl
theorem owC_eq (x:Int) {r:List Int} (h:r.length≤1000):qbu_ ((),x::r,())=some (owC x r,()):=by
 show qe5_ () (x::r)=_
 unfold qe5_ owC pairC
 rw [cut_tail,Option.bind_some,rlist_eq (by omega),Option.bind_some]
 rcases pair_cases (listS r) with ⟨h1,h2⟩ | ⟨p,q,s,h1⟩
 ·dsimp only
  rw [h2,if_pos (by rw [q7_,q1_]; omega)]
  rfl
 ·dsimp only
  rw [h1,if_neg (by rw [q7_,q1_]; simp; omega),q1b_,q1b_,at_one]
  rfl
theorem ctC_eq (k x:Int) {r:List Int} (h:r.length≤1000):qaj_ (k,x::r,())=some (ctC x r,()):=by
 show qgi_ k (x::r)=_
 unfold qgi_ ctC pairC
 rw [cut_tail,Option.bind_some,rlist_eq (by omega),Option.bind_some]
 rcases pair_cases (listS r) with ⟨h1,h2⟩ | ⟨p,q,s,h1⟩
 ·dsimp only
  rw [h2,if_pos (by rw [q7_,q1_]; omega)]
  rfl
 ·dsimp only
  rw [h1,if_neg (by rw [q7_,q1_]; simp; omega),q1b_,q1b_,at_one]
  rfl
theorem pairC_sm {f:Int->Int->TR} (h:∀ p q,SmR (f p q)) (r:List Int):SmR (pairC f r):=by
 unfold pairC
 split
 ·exact h _ _
 ·exact zR_sm
def chkV (b:List Int) (c:TR) (ok:Bool) (w:List Int):TR×Int:=if ok=true then if eqs (toS w) (toS b)=true then (c,0) else (zR,13) else (zR,13)
theorem chk_eq {b:List Int} {c:TR} {ok:Bool} {w:List Int} {rd:Option (TR×Unit)} {rt:TR->Option (Bool×Unit)} {wt:TR->Option (List Int×Unit)} (h1:rd=some (c,())) (h2:rt c=some (ok,())) (h3:ok=true->wt c=some (w,())) :
  (Option.bind rd fun y=>Option.bind (rt y.1) fun y_1=>if (!y_1.1)=true then some ((0,0,[],[],0,0),13,()) else Option.bind (wt y.1) fun y_2=>Option.bind (q2z_ (y_2.1,b,())) fun y_3=>if (!y_3.1)=true then some ((0,0,[],[],0,0),13,()) else (some (y.1,0,()):Option (TR×Int×Unit)))=some ((chkV b c ok w).1,(chkV b c ok w).2,()):=by
 rw [h1,Option.bind_some,h2,Option.bind_some]
 unfold chkV
 cases ok with
 | false=>rfl
 | true =>
  rw [if_neg (by decide),h3 rfl,Option.bind_some,if_pos rfl]
  show Option.bind (some (eqs (toS w) (toS b),())) _=_
  rw [Option.bind_some]
  cases eqs (toS w) (toS b) <;> rfl
theorem if_pair {c:Prop} [Decidable c] {A B:Option (TR×Int×Unit)} {a b:TR×Int} (h1:A=some (a.1,a.2,())) (h2:B=some (b.1,b.2,())):(if c then A else B)=some ((if c then a else b).1,(if c then a else b).2,()):=by
 by_cases h:c
 ·rw [if_pos h,if_pos h,h1]
 ·rw [if_neg h,if_neg h,h2]
def parseQ (x y:Int) (r:List Int):TR×Int:=if 251 < r.length then (zR,13) else if lt x 128=true then
   if eqi x 1=true then chkV (x::y::r) (bitC x r) (bitR (bitC x r)) (bitB (bitC x r)) else if eqi x 2=true then chkV (x::y::r) (bitC x r) (bitR (bitC x r)) (bitB (bitC x r)) else
   if eqi x 3=true then chkV (x::y::r) (wordC x r) (wordR (wordC x r)) (wordB (wordC x r)) else if eqi x 4=true then chkV (x::y::r) (wordC x r) (wordR (wordC x r)) (wordB (wordC x r)) else
   if eqi x 23=true then chkV (x::y::r) (wordC x r) (wordR (wordC x r)) (wordB (wordC x r)) else if eqi x 5=true then chkV (x::y::r) (obC x (y::r)) (obR (obC x (y::r))) (obB (obC x (y::r))) else
   if eqi x 6=true then chkV (x::y::r) (owC x (y::r)) (owR (owC x (y::r))) (owB (owC x (y::r))) else if eqi x 15=true then chkV (x::y::r) (ctC x (y::r)) (ctR 1968 (ctC x (y::r))) (ctB (ctC x (y::r))) else
   if eqi x 16=true then chkV (x::y::r) (ctC x (y::r)) (ctR 123 (ctC x (y::r))) (ctB (ctC x (y::r))) else (zR,13)
  else chkV (x::y::r) (exC x y) (exR (exC x y)) (exB (exC x y))
def parseR:List Int->TR×Int
 | x::y::r=>parseQ x y r
 | _=>(zR,13)
theorem parse_eq (b:List Int):q89_ (b,())=some ((parseR b).1,(parseR b).2,()):=by
 show qir_ qdd_ b=_
 unfold qir_
 match b with
 | []=>rfl
 | [_]=>rfl
 | x::y::r =>
  rw [if_neg (by rw [q7_,q1_]; simp; omega)]
  show _=some ((parseQ x y r).1,(parseQ x y r).2,())
  unfold qdd_ qop_ parseQ
  by_cases hl:251 < r.length
  ·rw [if_pos (by rw [gt_iff,q1_]; simp; omega),if_pos hl]
   rfl
  ·rw [if_neg (by rw [gt_iff,q1_]; simp; omega),if_neg hl,q1b_,Option.bind_some,Option.bind_some]
   have sb:SmR (bitC x r):=⟨by show (unpackS r).length≤_; rw [unpackS_len]; omega,by show 0≤100000; decide⟩
   have sw:SmR (wordC x r):=⟨by show 0≤100000; decide,by show (listS r).length≤_; rw [listS_len]; omega⟩
   have so:SmR (obC x (y::r)):=pairC_sm (fun p q=>⟨by show 1≤100000; decide,by show 0≤100000; decide⟩) _
   have su:SmR (owC x (y::r)):=pairC_sm (fun p q=>⟨by show 0≤100000; decide,by show 1≤100000; decide⟩) _
   have sc:SmR (ctC x (y::r)):=pairC_sm (fun p q=>⟨by show 0≤100000; decide,by show 0≤100000; decide⟩) _
   have se:SmR (exC x y):=⟨by show 0≤100000; decide,by show 0≤100000; decide⟩
   have hr:(y::r).length≤1000:=by simp; omega
   have kb:=chk_eq (b:=x::y::r) (rt:=fun c=>q26_ ((),c,())) (wt:=fun c=>q3g_ ((),c,())) (bitC_eq x y (by omega)) (bitR_eq sb) (fun _=>bitB_eq sb)
   have kw:=chk_eq (b:=x::y::r) (rt:=fun c=>q14_ ((),c,())) (wt:=fun c=>q1z_ ((),c,())) (wordC_eq x y (by omega)) (wordR_eq sw) (fun _=>wordB_eq sw)
   have ko:=chk_eq (b:=x::y::r) (rt:=fun c=>q4u_ ((),c,())) (wt:=fun c=>q4s_ ((),c,())) (obC_eq x hr) (obR_eq so) (fun h=>obB_eq h)
   have ku:=chk_eq (b:=x::y::r) (rt:=fun c=>q4e_ ((),c,())) (wt:=fun c=>q5h_ ((),c,())) (owC_eq x hr) (owR_eq su) (fun h=>owB_eq h)
   have kc:=fun k=>chk_eq (b:=x::y::r) (rt:=fun c=>q2y_ (k,c,())) (wt:=fun c=>q4d_ (k,c,())) (ctC_eq k x hr) (ctR_eq sc) (fun _=>ctB_eq k _)
   have ke:=chk_eq (b:=x::y::r) (rt:=fun c=>q3m_ ((),c,())) (wt:=fun c=>q4j_ ((),c,())) (exC_eq x y r) (exR_eq se) (fun _=>exB_eq _)
   exact if_pair (if_pair kb (if_pair kb (if_pair kw (if_pair kw (if_pair kw (if_pair ko (if_pair ku (if_pair (kc _) (if_pair (kc _) rfl))))))))) ke
end Go.Proofs.Lx
end
