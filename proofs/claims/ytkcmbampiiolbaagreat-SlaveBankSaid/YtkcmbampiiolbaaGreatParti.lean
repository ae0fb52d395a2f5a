/- Proved in the last of these 13 parts (this is part 9): SlaveBank returns true, whatever the link, the bank, the ticks and what comes. Conditions: those of the given statement, and no others. -/
import Derived.Test.YtkcmbampiiolbaaGreatParte
import Derived.Test.YtkcmbampiiolbaaGreatParth
import Derived.Test.YtkcmbampiiolbaaGreatProg
set_option linter.unusedVariables false
set_option linter.unusedSimpArgs false
set_option linter.unusedSectionVars false
section
open Go Go.Proofs Ev Sx
set_option maxRecDepth 100000
namespace Go.Proofs.Lx
abbrev YaAq0:Type:=Int×Int×YTT2×List Bool
@[reducible] def q49_:Sh:=⟨[],[],[],[.d (.ar 16 (.int .u16))],[],0,[.ar 16 (.int .u16)]⟩
def q5i_:Env:=(cts [])
def q5g_:List (Nat×Hint):=[(58,⟨[],[0,1,5]⟩),(7475,⟨[],[0,1,2,3,5]⟩),(59802,⟨[],[0,1,2,3,5,10]⟩)]
def q40_ (t5:Int) (t0 t:List Int):St:={ fr:=[(0,.pb 0 0),(1,.pb 1 0),(5,.d (.int .i64) t5)],nt:=26,up:=[],own:=[(0,.row (.int .u16) 242 t0),(1,.row (.int .u16) 242 t)],nx:=2,log:=[],ln:=0 }
def qeo_ (i x t5 t10:Int) (t0 t:List Int):St:={ fr:=[(0,.pb 0 0),(1,.pb 1 0),(2,.d (.int .i64) i),(3,.d (.int .u16) x),(5,.d (.int .i64) t5),(10,.d (.int .i64) t10)],nt:=26,up:=[],own:=[(0,.row (.int .u16) 242 t0),(1,.row (.int .u16) 242 t)],nx:=2,log:=[],ln:=0 }
def qmw_ (i x t5:Int) (t0 t:List Int):St:={ fr:=[(0,.pb 0 0),(1,.pb 1 0),(2,.d (.int .i64) i),(3,.d (.int .u16) x),(5,.d (.int .i64) t5)],nt:=26,up:=[],own:=[(0,.row (.int .u16) 242 t0),(1,.row (.int .u16) 242 t)],nx:=2,log:=[],ln:=0 }
def qwk_ (j2:Int->Int->Int->Int->List Int->List Int->Option (As [.ar 16 (.int .u16)])) (self1:Int->List Int->List Int->Option (As [.ar 16 (.int .u16)])) (t5:Int) (t0 t:List Int):Option (As [.ar 16 (.int .u16)]) :=
 if lt t5 16=true then j2 t5 (cvt .u16 t5) t5 0 t0 t else need (eqi (Int.ofNat (List.length t)) 16) (need (eqi (Int.ofNat (List.length t0)) (Int.ofNat (List.length t))) (need (eqi 16 (Int.ofNat (List.length t * 1))) (need (eqi (Int.ofNat (List.length t)) 16) (need (eqi (Int.ofNat (List.length t)) 16) (some (t,()))))))
def qw2_ (j3:Int->Int->Int->List Int->List Int->Option (As [.ar 16 (.int .u16)])) (self1:Int->List Int->List Int->Option (As [.ar 16 (.int .u16)])) (self2:Int->Int->Int->Int->List Int->List Int->Option (As [.ar 16 (.int .u16)])) (i x t5 t10:Int) (t0 t:List Int):Option (As [.ar 16 (.int .u16)]) :=
 if lt t10 4=true then if eqi (Sx.band .u16 x 1) 1=true then self2 i (Sx.bxor .u16 (Sx.shr .u16 x 1) 40961) t5 (add .i64 t10 1) t0 t else self2 i (Sx.shr .u16 x 1) t5 (add .i64 t10 1) t0 t else j3 i x t5 t0 t
def qwn_ (self1:Int->List Int->List Int->Option (As [.ar 16 (.int .u16)])) (i x t5:Int) (t0 t:List Int):Option (As [.ar 16 (.int .u16)]) :=
 need (lt i 16) (Option.bind (at? t i) fun x_1=>Option.bind (at? t i) fun x_2=>self1 (add .i64 t5 1) t0 (List.set t (Int.toNat i) x))
def qxh_ (j1:Int->List Int->List Int->Option (As [.ar 16 (.int .u16)])):Option (As [.ar 16 (.int .u16)]) :=
 j1 0 (List.replicate 16 0) (List.replicate 16 0)
def qsg_ (u1:Int->List Int->List Int->Option (As [.ar 16 (.int .u16)])) (i x t5:Int) (t0 t:List Int):Option (As [.ar 16 (.int .u16)]):=qwn_ u1 i x t5 t0 t
def qs5_ (u1:Int->List Int->List Int->Option (As [.ar 16 (.int .u16)])) (i x t5 t10:Int) (t0 t:List Int):Option (As [.ar 16 (.int .u16)]) :=
 loopF (fun (self:(Int)×(Int)×(Int)×(Int)×(List Int)×(List Int)->Option (As [.ar 16 (.int .u16)])) (s:(Int)×(Int)×(Int)×(Int)×(List Int)×(List Int))=>qw2_ (qsg_ u1) u1 (fun i x t5 t10 t0 t=>self (i,x,t5,t10,t0,t)) s.1 s.2.1 s.2.2.1 s.2.2.2.1 s.2.2.2.2.1 s.2.2.2.2.2) 18446744073709551616 (i,x,t5,t10,t0,t)
def qs4_ (t5:Int) (t0 t:List Int):Option (As [.ar 16 (.int .u16)]) :=
 loopF (fun (self:(Int)×(List Int)×(List Int)->Option (As [.ar 16 (.int .u16)])) (s:(Int)×(List Int)×(List Int))=>qwk_ (qs5_ (fun t5 t0 t=>self (t5,t0,t))) (fun t5 t0 t=>self (t5,t0,t)) s.1 s.2.1 s.2.2) 18446744073709551616 (t5,t0,t)
def qpp_ (x:As []):Option (As [.ar 16 (.int .u16)]):=qxh_ qs4_
theorem q17i_  (J w1 i x t5 t0 t):pfn Tryz.prog q5i_ 6 18446744073709551616 (Ev.get q5g_) 183 q49_ J 7475 [w1] (qmw_ i x t5 t0 t)=qwn_ (fun t5 t0 t=>w1 (q40_ t5 t0 t)) i x t5 t0 t:=by kernel_rfl
theorem q167_  (J w1 w2 i x t5 t10 t0 t):pfn Tryz.prog q5i_ 6 18446744073709551616 (Ev.get q5g_) 183 q49_ J 59802 [w1,w2] (qeo_ i x t5 t10 t0 t)=qw2_ (fun i x t5 t0 t=>J 7475 [w1] (qmw_ i x t5 t0 t)) (fun t5 t0 t=>w1 (q40_ t5 t0 t)) (fun i x t5 t10 t0 t=>w2 (qeo_ i x t5 t10 t0 t)) i x t5 t10 t0 t:=by kernel_rfl
theorem q16j_  (J w1 t5 t0 t):pfn Tryz.prog q5i_ 6 18446744073709551616 (Ev.get q5g_) 183 q49_ J 58 [w1] (q40_ t5 t0 t)=qwk_ (fun i x t5 t10 t0 t=>J 59802 [w1] (qeo_ i x t5 t10 t0 t)) (fun t5 t0 t=>w1 (q40_ t5 t0 t)) t5 t0 t:=by kernel_rfl
theorem q176_ (J:Orc (As [.ar 16 (.int .u16)])) (x:As []):rfn Tryz.prog q5i_ 6 18446744073709551616 (Ev.get q5g_) 183 q49_ J x=qxh_ (fun t5 t0 t=>J 58 [] (q40_ t5 t0 t)):=by kernel_rfl
theorem q175_  (w1 i x t5 t0 t):jfn Tryz.prog q5i_ 6 18446744073709551616 (Ev.get q5g_) 183 q49_ 7475 [w1] (qmw_ i x t5 t0 t)=qsg_ (fun t5 t0 t=>w1 (q40_ t5 t0 t)) i x t5 t0 t:=by
 rw [q6_ (by decide)]
 rw [q17i_]
 rfl
theorem q188_  (w1 i x t5 t10 t0 t):jfn Tryz.prog q5i_ 6 18446744073709551616 (Ev.get q5g_) 183 q49_ 59802 [w1] (qeo_ i x t5 t10 t0 t)=qs5_ (fun t5 t0 t=>w1 (q40_ t5 t0 t)) i x t5 t10 t0 t:=by
 rw [q6_ (by decide)]
 rw [qn_ (by kernel_rfl)]
 refine qh_ (σ:=(Int)×(Int)×(Int)×(Int)×(List Int)×(List Int)) (mk:=fun s=>qeo_ s.1 s.2.1 s.2.2.1 s.2.2.2.1 s.2.2.2.2.1 s.2.2.2.2.2) (fun w2 s=>?_) 18446744073709551616 (i,x,t5,t10,t0,t)
 have e3:(fun i x t5 t0 t=>(jfn Tryz.prog q5i_ 6 18446744073709551616 (Ev.get q5g_) 183 q49_) 7475 [w1] (qmw_ i x t5 t0 t))=qsg_ (fun t5 t0 t=>w1 (q40_ t5 t0 t)):=by funext i x t5 t0 t; exact q175_ w1 i x t5 t0 t
 refine (q167_ _ w1 w2 s.1 s.2.1 s.2.2.1 s.2.2.2.1 s.2.2.2.2.1 s.2.2.2.2.2).trans ?_
 rw [e3]
theorem q16m_  (t5 t0 t):jfn Tryz.prog q5i_ 6 18446744073709551616 (Ev.get q5g_) 183 q49_ 58 [] (q40_ t5 t0 t)=qs4_ t5 t0 t:=by
 rw [q6_ (by decide)]
 rw [qn_ (by kernel_rfl)]
 refine qh_ (σ:=(Int)×(List Int)×(List Int)) (mk:=fun s=>q40_ s.1 s.2.1 s.2.2) (fun w1 s=>?_) 18446744073709551616 (t5,t0,t)
 have e2:(fun i x t5 t10 t0 t=>(jfn Tryz.prog q5i_ 6 18446744073709551616 (Ev.get q5g_) 183 q49_) 59802 [w1] (qeo_ i x t5 t10 t0 t))=qs5_ (fun t5 t0 t=>w1 (q40_ t5 t0 t)):=by funext i x t5 t10 t0 t; exact q188_ w1 i x t5 t10 t0 t
 refine (q16j_ _ w1 s.1 s.2.1 s.2.2).trans ?_
 rw [e2]
theorem q19v_ (x:As []):evT Tryz.prog q5i_ 6 18446744073709551616 (Ev.get q5g_) 183 q49_ x=qpp_ x:=by
 have e1:(fun t5 t0 t=>(jfn Tryz.prog q5i_ 6 18446744073709551616 (Ev.get q5g_) 183 q49_) 58 [] (q40_ t5 t0 t))=qs4_:=by funext t5 t0 t; exact q16m_ t5 t0 t
 rw [qi_,q176_,e1]
 rfl
theorem q17k_:CtOk Tryz.prog (fun _=>True) 183 ⟨q49_,qpp_⟩:=qc_ q3_ q19v_
@[reducible] def q10b_:Sh:=⟨[.pb 0 0,.d (.int .u16),.d (.int .u8)],[.row (.int .u16) 242],[.int .u16,.int .u8,.sl (.int .u16)],[.d (.int .u16)],[(0,.row (.int .u16) 242)],0,[.int .u16,.sl (.int .u16)]⟩
def qta_ (t sum:Int) (c:List Int):Option (As [.int .u16,.sl (.int .u16)]) :=
 need (lt (Sx.band .u16 (Sx.bxor .u16 t (cvt .u16 sum)) 15) 16) (Option.bind (at? c (Sx.band .u16 (Sx.bxor .u16 t (cvt .u16 sum)) 15)) fun x=>Option.bind (at? c (Sx.band .u16 (Sx.bxor .u16 t (cvt .u16 sum)) 15)) fun y=>need (lt (Sx.band .u16 (Sx.bxor .u16 (Sx.shr .u16 (Sx.bxor .u16 t (cvt .u16 sum)) 4) y) 15) 16) (Option.bind (at? c (Sx.band .u16 (Sx.bxor .u16 (Sx.shr .u16 (Sx.bxor .u16 t (cvt .u16 sum)) 4) y) 15)) fun x=>Option.bind (at? c (Sx.band .u16 (Sx.bxor .u16 (Sx.shr .u16 (Sx.bxor .u16 t (cvt .u16 sum)) 4) y) 15)) fun y_1=>some (Sx.bxor .u16 (Sx.shr .u16 (Sx.bxor .u16 (Sx.shr .u16 (Sx.bxor .u16 t (cvt .u16 sum)) 4) y) 4) y_1,c,())))
def qug_ (x:As [.int .u16,.int .u8,.sl (.int .u16)]):Option (As [.int .u16,.sl (.int .u16)]):=qta_ x.1 x.2.1 x.2.2.1
theorem q19i_:CtOk Tryz.prog (fun _=>True) 184 ⟨q10b_,qug_⟩:=ctn q3_ 6 fun J x=>by kernel_rfl
@[reducible] def qm0_:Sh:=⟨[.d (.sl (.int .u8))],[],[.sl (.int .u8)],[.d (.int .u16)],[],0,[.int .u16]⟩
def qq0_:Env:=(cts [(183,(⟨q49_,qpp_⟩:Ct)),(184,(⟨q10b_,qug_⟩:Ct))])
def qq6_:List (Nat×Hint):=[(122,⟨[],[0,3,4,8,9]⟩)]
def qjb_ (b:List Int) (sum t8 t9:Int) (t:List Int):St:={ fr:=[(0,.d (.sl (.int .u8)) b),(3,.pb 0 0),(4,.d (.int .u16) sum),(8,.d (.int .i64) t8),(9,.d (.int .i64) t9)],nt:=20,up:=[],own:=[(0,.row (.int .u16) 242 t)],nx:=1,log:=[],ln:=0 }
def qiz_ (self1:List Int->Int->Int->Int->List Int->Option (As [.int .u16])) (b:List Int) (sum t8 t9:Int) (t:List Int):Option (As [.int .u16]) :=
 if lt t9 t8=true then Option.bind (at? b t9) fun y=>Option.bind (qug_ (sum,y,t,())) fun y=>self1 b y.1 t8 (add .i64 t9 1) y.2.1 else some (sum,())
def qr9_ (j1:List Int->Int->Int->Int->List Int->Option (As [.int .u16])) (b:List Int):Option (As [.int .u16]) :=
 Option.bind (qpp_ ()) fun y=>need (eqi 16 (Int.ofNat (List.length y.1))) (need (eqi 16 (Int.ofNat (List.length y.1 * 1))) (j1 b 65535 (Int.ofNat (List.length b)) 0 y.1))
def qml_ (b:List Int) (sum t8 t9:Int) (t:List Int):Option (As [.int .u16]) :=
 loopF (fun (self:(List Int)×(Int)×(Int)×(Int)×(List Int)->Option (As [.int .u16])) (s:(List Int)×(Int)×(Int)×(Int)×(List Int))=>qiz_ (fun b sum t8 t9 t=>self (b,sum,t8,t9,t)) s.1 s.2.1 s.2.2.1 s.2.2.2.1 s.2.2.2.2) 18446744073709551616 (b,sum,t8,t9,t)
def qtm_ (x:As [.sl (.int .u8)]):Option (As [.int .u16]):=qr9_ qml_ x.1
theorem q1ac_  (J w1 b sum t8 t9 t):pfn Tryz.prog qq0_ 6 18446744073709551616 (Ev.get qq6_) 140 qm0_ J 122 [w1] (qjb_ b sum t8 t9 t)=qiz_ (fun b sum t8 t9 t=>w1 (qjb_ b sum t8 t9 t)) b sum t8 t9 t:=by kernel_rfl
theorem q1ai_ (J:Orc (As [.int .u16])) (x:As [.sl (.int .u8)]):rfn Tryz.prog qq0_ 6 18446744073709551616 (Ev.get qq6_) 140 qm0_ J x=qr9_ (fun b sum t8 t9 t=>J 122 [] (qjb_ b sum t8 t9 t)) x.1:=by kernel_rfl
theorem q1af_  (b sum t8 t9 t):jfn Tryz.prog qq0_ 6 18446744073709551616 (Ev.get qq6_) 140 qm0_ 122 [] (qjb_ b sum t8 t9 t)=qml_ b sum t8 t9 t:=by
 rw [q6_ (by decide)]
 rw [qn_ (by kernel_rfl)]
 refine qh_ (σ:=(List Int)×(Int)×(Int)×(Int)×(List Int)) (mk:=fun s=>qjb_ s.1 s.2.1 s.2.2.1 s.2.2.2.1 s.2.2.2.2) (fun w1 s=>?_) 18446744073709551616 (b,sum,t8,t9,t)
 refine (q1ac_ _ w1 s.1 s.2.1 s.2.2.1 s.2.2.2.1 s.2.2.2.2).trans ?_
 rfl
theorem q1ar_ (x:As [.sl (.int .u8)]):evT Tryz.prog qq0_ 6 18446744073709551616 (Ev.get qq6_) 140 qm0_ x=qtm_ x:=by
 have e1:(fun b sum t8 t9 t=>(jfn Tryz.prog qq0_ 6 18446744073709551616 (Ev.get qq6_) 140 qm0_) 122 [] (qjb_ b sum t8 t9 t))=qml_:=by funext b sum t8 t9 t; exact q1af_ b sum t8 t9 t
 rw [qi_,q1ai_,e1]
 rfl
theorem q10u_:CtOk Tryz.prog (fun _=>True) 140 ⟨qm0_,qtm_⟩:=qc_ (q0_ q17k_ (q0_ q19i_ q3_)) q1ar_
@[reducible] def q139_:Sh:=⟨[.d (.sl (.int .u8))],[],[.sl (.int .u8)],[.d (.sl (.int .u8))],[],0,[.sl (.int .u8)]⟩
def quq_ (b:List Int):Option (As [.sl (.int .u8)]) :=
 Option.bind (qtm_ (b,())) fun y=>need (Ev.capOk 0 (add .i64 (Int.ofNat (List.length b)) 2)) (need (small (Int.toNat (add .i64 (Int.ofNat (List.length b)) 2))) (need (small (0 + List.length b)) (need (small (List.length b + Nat.succ (Nat.succ 0))) (some (b++[cvt .u8 y.1,cvt .u8 (Sx.shr .u16 y.1 8)],())))))
def qxo_ (x:As [.sl (.int .u8)]):Option (As [.sl (.int .u8)]):=quq_ x.1
theorem q1ak_:CtOk Tryz.prog (fun _=>True) 86 ⟨q139_,qxo_⟩:=ctn (q0_ q10u_ q3_) 6 fun J x=>by kernel_rfl
@[reducible] def qd4_:Sh:=⟨[.d (.int .u8),.d (.sl (.int .u8))],[],[.int .u8,.sl (.int .u8)],[.d (.sl (.int .u8)),.d (.int .i64)],[],0,[.sl (.int .u8),.int .i64]⟩
def qk7_:Env:=(cts [(85,(⟨qrw_,qfo_⟩:Ct)),(86,(⟨q139_,qxo_⟩:Ct))])
def qk6_:List (Nat×Hint):=[(6,⟨[],[0,1,18]⟩)]
def qnk_ (unit:Int) (pdu:List Int) (t18:Bool):St:={ fr:=[(0,.d (.int .u8) unit),(1,.d (.sl (.int .u8)) pdu),(18,.d .bool t18)],nt:=24,up:=[],own:=[],nx:=0,log:=[],ln:=0 }
def qo6_ (unit:Int) (pdu:List Int) (t18:Bool):Option (As [.sl (.int .u8),.int .i64]) :=
 if t18=true then some ([],2,()) else need (small (Nat.succ 0 + List.length pdu)) (Option.bind (qxo_ (unit::pdu,())) fun y=>some (y.1,0,()))
def qo2_ (j1:Int->List Int->Bool->Option (As [.sl (.int .u8),.int .i64])) (unit:Int) (pdu:List Int):Option (As [.sl (.int .u8),.int .i64]) :=
 Option.bind (qfo_ (unit,())) fun y=>if (!y.1)=true then j1 unit pdu true else if lt (Int.ofNat (List.length pdu)) 1=true then j1 unit pdu true else j1 unit pdu (gt (Int.ofNat (List.length pdu)) 253)
def qnr_ (unit:Int) (pdu:List Int) (t18:Bool):Option (As [.sl (.int .u8),.int .i64]):=qo6_ unit pdu t18
def qq4_ (x:As [.int .u8,.sl (.int .u8)]):Option (As [.sl (.int .u8),.int .i64]):=qo2_ qnr_ x.1 x.2.1
theorem q16e_  (J unit pdu t18):pfn Tryz.prog qk7_ 6 18446744073709551616 (Ev.get qk6_) 28 qd4_ J 6 [] (qnk_ unit pdu t18)=qo6_ unit pdu t18:=by kernel_rfl
theorem q177_ (J:Orc (As [.sl (.int .u8),.int .i64])) (x:As [.int .u8,.sl (.int .u8)]):rfn Tryz.prog qk7_ 6 18446744073709551616 (Ev.get qk6_) 28 qd4_ J x=qo2_ (fun unit pdu t18=>J 6 [] (qnk_ unit pdu t18)) x.1 x.2.1:=by kernel_rfl
theorem q18k_  (unit pdu t18):jfn Tryz.prog qk7_ 6 18446744073709551616 (Ev.get qk6_) 28 qd4_ 6 [] (qnk_ unit pdu t18)=qnr_ unit pdu t18:=by
 rw [q6_ (by decide)]
 rw [q16e_]
 rfl
theorem q19o_ (x:As [.int .u8,.sl (.int .u8)]):evT Tryz.prog qk7_ 6 18446744073709551616 (Ev.get qk6_) 28 qd4_ x=qq4_ x:=by
 have e1:(fun unit pdu t18=>(jfn Tryz.prog qk7_ 6 18446744073709551616 (Ev.get qk6_) 28 qd4_) 6 [] (qnk_ unit pdu t18))=qnr_:=by funext unit pdu t18; exact q18k_ unit pdu t18
 rw [qi_,q177_,e1]
 rfl
theorem q171_:CtOk Tryz.prog (fun _=>True) 28 ⟨qd4_,qq4_⟩:=qc_ (q0_ qut_ (q0_ q1ak_ q3_)) q19o_
@[reducible] def q137_:Sh:=⟨[.d (.sl (.int .u8))],[],[.sl (.int .u8)],[.d (.sl (.int .u8)),.d (.int .i64)],[],0,[.sl (.int .u8),.int .i64]⟩
def qus_ (b:List Int):Option (As [.sl (.int .u8),.int .i64]) :=
 if lt (Int.ofNat (List.length b)) 2=true then some ([],10,()) else Option.bind (cut b 0 (Sx.sub .i64 (Int.ofNat (List.length b)) 2)) fun y=>Option.bind (at? b (Sx.sub .i64 (Int.ofNat (List.length b)) 2)) fun y_1=>Option.bind (at? b (add .i64 (Sx.sub .i64 (Int.ofNat (List.length b)) 2) 1)) fun y_2=>Option.bind (qtm_ (y,())) fun y=>if nei y.1 (Sx.bor .u16 (cvt .u16 y_1) (Sx.shl .u16 (cvt .u16 y_2) 8))=true then some ([],11,()) else need (ge (Sx.sub .i64 (Int.ofNat (List.length b)) 2) 0) (need (Ev.capOk (Sx.sub .i64 (Int.ofNat (List.length b)) 2) (Sx.sub .i64 (Int.ofNat (List.length b)) 2)) (need (small (Int.toNat (Sx.sub .i64 (Int.ofNat (List.length b)) 2))) (need (le (Int.ofNat (0 + List.length (List.replicate (α:=Int) (Int.toNat (Sx.sub .i64 (Int.ofNat (List.length b)) 2)) 0))) (Int.ofNat (List.length (List.replicate (α:=Int) (Int.toNat (Sx.sub .i64 (Int.ofNat (List.length b)) 2)) 0)))) (some (List.take (Int.toNat (Int.ofNat (List.length (List.replicate (α:=Int) (Int.toNat (Sx.sub .i64 (Int.ofNat (List.length b)) 2)) 0)))) b++List.drop (0 + List.length (List.take (Int.toNat (Int.ofNat (List.length (List.replicate (α:=Int) (Int.toNat (Sx.sub .i64 (Int.ofNat (List.length b)) 2)) 0)))) b)) (List.replicate (Int.toNat (Sx.sub .i64 (Int.ofNat (List.length b)) 2)) 0),0,())))))
def qxp_ (x:As [.sl (.int .u8)]):Option (As [.sl (.int .u8),.int .i64]):=qus_ x.1
theorem q1am_:CtOk Tryz.prog (fun _=>True) 89 ⟨q137_,qxp_⟩:=ctn (q0_ q10u_ q3_) 6 fun J x=>by kernel_rfl
@[reducible] def qcy_:Sh:=⟨[.d (.sl (.int .u8))],[],[.sl (.int .u8)],[.d (.int .u8),.d (.sl (.int .u8)),.d (.int .i64)],[],0,[.int .u8,.sl (.int .u8),.int .i64]⟩
def qjv_:Env:=(cts [(85,(⟨qrw_,qfo_⟩:Ct)),(89,(⟨q137_,qxp_⟩:Ct))])
def qjt_:List (Nat×Hint):=[(6,⟨[],[0,14]⟩)]
def qo1_ (b:List Int) (t14:Bool):St:={ fr:=[(0,.d (.sl (.int .u8)) b),(14,.d .bool t14)],nt:=37,up:=[],own:=[],nx:=0,log:=[],ln:=0 }
def qns_ (b:List Int) (t14:Bool):Option (As [.int .u8,.sl (.int .u8),.int .i64]) :=
 if t14=true then some (0,[],10,()) else Option.bind (qxp_ (b,())) fun y=>if nei y.2.1 0=true then some (0,[],y.2.1,()) else Option.bind (at? y.1 0) fun y_1=>Option.bind (qfo_ (y_1,())) fun y_2=>if (!y_2.1)=true then some (0,[],10,()) else Option.bind (at? y.1 0) fun y_3=>Option.bind (cut y.1 1 (Int.ofNat (List.length y.1))) fun y_4=>need (le (Int.ofNat (List.length y.1)) (Int.ofNat (List.length y.1))) (need (le (Int.ofNat (List.length y.1)) (Int.ofNat (List.length y.1))) (some (y_3,y_4,0,())))
def qmh_ (j1:List Int->Bool->Option (As [.int .u8,.sl (.int .u8),.int .i64])) (b:List Int):Option (As [.int .u8,.sl (.int .u8),.int .i64]) :=
 if lt (Int.ofNat (List.length b)) 4=true then j1 b true else j1 b (gt (Int.ofNat (List.length b)) 256)
def qi3_ (b:List Int) (t14:Bool):Option (As [.int .u8,.sl (.int .u8),.int .i64]):=qns_ b t14
def qps_ (x:As [.sl (.int .u8)]):Option (As [.int .u8,.sl (.int .u8),.int .i64]):=qmh_ qi3_ x.1
theorem q17p_  (J b t14):pfn Tryz.prog qjv_ 6 18446744073709551616 (Ev.get qjt_) 30 qcy_ J 6 [] (qo1_ b t14)=qns_ b t14:=by kernel_rfl
theorem q15t_ (J:Orc (As [.int .u8,.sl (.int .u8),.int .i64])) (x:As [.sl (.int .u8)]):rfn Tryz.prog qjv_ 6 18446744073709551616 (Ev.get qjt_) 30 qcy_ J x=qmh_ (fun b t14=>J 6 [] (qo1_ b t14)) x.1:=by kernel_rfl
theorem q187_  (b t14):jfn Tryz.prog qjv_ 6 18446744073709551616 (Ev.get qjt_) 30 qcy_ 6 [] (qo1_ b t14)=qi3_ b t14:=by
 rw [q6_ (by decide)]
 rw [q17p_]
 rfl
theorem q18v_ (x:As [.sl (.int .u8)]):evT Tryz.prog qjv_ 6 18446744073709551616 (Ev.get qjt_) 30 qcy_ x=qps_ x:=by
 have e1:(fun b t14=>(jfn Tryz.prog qjv_ 6 18446744073709551616 (Ev.get qjt_) 30 qcy_) 6 [] (qo1_ b t14))=qi3_:=by funext b t14; exact q187_ b t14
 rw [qi_,q15t_,e1]
 rfl
theorem q189_:CtOk Tryz.prog (fun _=>True) 30 ⟨qcy_,qps_⟩:=qc_ (q0_ qut_ (q0_ q1am_ q3_)) q18v_
@[reducible] def q1w_:Sh:=⟨[.d (.sl (.int .u8))],[],[.sl (.int .u8)],[.d (.bool)],[],0,[.bool]⟩
def q2k_:Env:=(cts [])
def q2i_:List (Nat×Hint):=[(26,⟨[],[0,3,7,8,9,10,17,18,19,20,21,26,27,28,29,30,31,32,33,34,35,36,37,38]⟩),(841,⟨[.agd 32 (.sl (.int .u8)),.agd 33 (.int .i64),.agd 35 (.int .u8),.agd 36 (.int .i64),.agd 37 .bool,.agd 26 (.sl (.int .u8)),.agd 27 (.int .i64),.agd 29 (.int .u8),.agd 30 .bool,.agd 31 .bool,.agd 38 .bool],[0,3,39]⟩),(840,⟨[.agd 17 (.sl (.int .u8)),.agd 18 (.int .i64),.agd 20 (.int .u8),.agd 21 .bool],[0,3,22]⟩),(104,⟨[.agd 7 (.int .i64),.agd 8 (.sl (.int .u8)),.agd 9 (.int .i64),.agd 10 .bool],[0,3,11]⟩)]
def q1v_ (b:List Int) (i:Int):St:={ fr:=[(0,.d (.sl (.int .u8)) b),(3,.d (.int .i64) i)],nt:=40,up:=[],own:=[],nx:=0,log:=[],ln:=0 }
def qiw_ (b:List Int) (i:Int) (t11:Bool):St:={ fr:=[(0,.d (.sl (.int .u8)) b),(3,.d (.int .i64) i),(11,.d .bool t11)],nt:=40,up:=[],own:=[],nx:=0,log:=[],ln:=0 }
def qjc_ (b:List Int) (i:Int) (t22:Bool):St:={ fr:=[(0,.d (.sl (.int .u8)) b),(3,.d (.int .i64) i),(22,.d .bool t22)],nt:=40,up:=[],own:=[],nx:=0,log:=[],ln:=0 }
def qj2_ (b:List Int) (i:Int) (t39:Bool):St:={ fr:=[(0,.d (.sl (.int .u8)) b),(3,.d (.int .i64) i),(39,.d .bool t39)],nt:=40,up:=[],own:=[],nx:=0,log:=[],ln:=0 }
def q6n_ (j2:List Int->Int->Bool->Option (As [.bool])) (self1:List Int->Int->Option (As [.bool])) (b:List Int) (i:Int):Option (As [.bool]) :=
 if lt i 6=true then j2 b i (lt i (Int.ofNat (List.length b))) else j2 b i false
def qj1_ (j3:List Int->Int->Bool->Option (As [.bool])) (self1:List Int->Int->Option (As [.bool])) (b:List Int) (i:Int) (t11:Bool):Option (As [.bool]) :=
 if t11=true then if lt i 5=true then Option.bind (at? b i) fun y=>j3 b i (nei y 0) else j3 b i false else some (true,())
def qis_ (j4:List Int->Int->Bool->Option (As [.bool])) (self1:List Int->Int->Option (As [.bool])) (b:List Int) (i:Int) (t22:Bool):Option (As [.bool]) :=
 if t22=true then some (false,()) else if eqi i 5=true then Option.bind (at? b i) fun y=>if lt y 2=true then j4 b i true else Option.bind (at? b i) fun y=>j4 b i (gt (cvt .i64 y) 254) else j4 b i false
def qu6_ (self1:List Int->Int->Option (As [.bool])) (b:List Int) (i:Int) (t39:Bool):Option (As [.bool]) :=
 if t39=true then some (false,()) else self1 b (add .i64 i 1)
def qix_ (j1:List Int->Int->Option (As [.bool])) (b:List Int):Option (As [.bool]) :=
 j1 b 2
def qon_ (u1:List Int->Int->Option (As [.bool])) (b:List Int) (i:Int) (t39:Bool):Option (As [.bool]):=qu6_ u1 b i t39
def qen_ (u1:List Int->Int->Option (As [.bool])) (b:List Int) (i:Int) (t22:Bool):Option (As [.bool]):=qis_ (qon_ u1) u1 b i t22
def q4z_ (u1:List Int->Int->Option (As [.bool])) (b:List Int) (i:Int) (t11:Bool):Option (As [.bool]):=qj1_ (qen_ u1) u1 b i t11
def qe4_ (b:List Int) (i:Int):Option (As [.bool]) :=
 loopF (fun (self:(List Int)×(Int)->Option (As [.bool])) (s:(List Int)×(Int))=>q6n_ (q4z_ (fun b i=>self (b,i))) (fun b i=>self (b,i)) s.1 s.2) 18446744073709551616 (b,i)
def qjz_ (x:As [.sl (.int .u8)]):Option (As [.bool]):=qix_ qe4_ x.1
theorem q12g_  (J w1 b i t39):pfn Tryz.prog q2k_ 6 18446744073709551616 (Ev.get q2i_) 185 q1w_ J 841 [w1] (qj2_ b i t39)=qu6_ (fun b i=>w1 (q1v_ b i)) b i t39:=by kernel_rfl
theorem q11n_  (J w1 b i t22):pfn Tryz.prog q2k_ 6 18446744073709551616 (Ev.get q2i_) 185 q1w_ J 840 [w1] (qjc_ b i t22)=qis_ (fun b i t39=>J 841 [w1] (qj2_ b i t39)) (fun b i=>w1 (q1v_ b i)) b i t22:=by kernel_rfl
theorem q12d_  (J w1 b i t11):pfn Tryz.prog q2k_ 6 18446744073709551616 (Ev.get q2i_) 185 q1w_ J 104 [w1] (qiw_ b i t11)=qj1_ (fun b i t22=>J 840 [w1] (qjc_ b i t22)) (fun b i=>w1 (q1v_ b i)) b i t11:=by kernel_rfl
theorem q116_  (J w1 b i):pfn Tryz.prog q2k_ 6 18446744073709551616 (Ev.get q2i_) 185 q1w_ J 26 [w1] (q1v_ b i)=q6n_ (fun b i t11=>J 104 [w1] (qiw_ b i t11)) (fun b i=>w1 (q1v_ b i)) b i:=by kernel_rfl
theorem q128_ (J:Orc (As [.bool])) (x:As [.sl (.int .u8)]):rfn Tryz.prog q2k_ 6 18446744073709551616 (Ev.get q2i_) 185 q1w_ J x=qix_ (fun b i=>J 26 [] (q1v_ b i)) x.1:=by kernel_rfl
theorem q12o_  (w1 b i t39):jfn Tryz.prog q2k_ 6 18446744073709551616 (Ev.get q2i_) 185 q1w_ 841 [w1] (qj2_ b i t39)=qon_ (fun b i=>w1 (q1v_ b i)) b i t39:=by
 rw [q6_ (by decide)]
 rw [q12g_]
 rfl
theorem q132_  (w1 b i t22):jfn Tryz.prog q2k_ 6 18446744073709551616 (Ev.get q2i_) 185 q1w_ 840 [w1] (qjc_ b i t22)=qen_ (fun b i=>w1 (q1v_ b i)) b i t22:=by
 rw [q6_ (by decide)]
 have e4:(fun b i t39=>(jfn Tryz.prog q2k_ 6 18446744073709551616 (Ev.get q2i_) 185 q1w_) 841 [w1] (qj2_ b i t39))=qon_ (fun b i=>w1 (q1v_ b i)):=by funext b i t39; exact q12o_ w1 b i t39
 rw [q11n_,e4]
 rfl
theorem q12m_  (w1 b i t11):jfn Tryz.prog q2k_ 6 18446744073709551616 (Ev.get q2i_) 185 q1w_ 104 [w1] (qiw_ b i t11)=q4z_ (fun b i=>w1 (q1v_ b i)) b i t11:=by
 rw [q6_ (by decide)]
 have e3:(fun b i t22=>(jfn Tryz.prog q2k_ 6 18446744073709551616 (Ev.get q2i_) 185 q1w_) 840 [w1] (qjc_ b i t22))=qen_ (fun b i=>w1 (q1v_ b i)):=by funext b i t22; exact q132_ w1 b i t22
 rw [q12d_,e3]
 rfl
theorem q11k_  (b i):jfn Tryz.prog q2k_ 6 18446744073709551616 (Ev.get q2i_) 185 q1w_ 26 [] (q1v_ b i)=qe4_ b i:=by
 rw [q6_ (by decide)]
 rw [qn_ (by kernel_rfl)]
 refine qh_ (σ:=(List Int)×(Int)) (mk:=fun s=>q1v_ s.1 s.2) (fun w1 s=>?_) 18446744073709551616 (b,i)
 have e2:(fun b i t11=>(jfn Tryz.prog q2k_ 6 18446744073709551616 (Ev.get q2i_) 185 q1w_) 104 [w1] (qiw_ b i t11))=q4z_ (fun b i=>w1 (q1v_ b i)):=by funext b i t11; exact q12m_ w1 b i t11
 refine (q116_ _ w1 s.1 s.2).trans ?_
 rw [e2]
theorem q14k_ (x:As [.sl (.int .u8)]):evT Tryz.prog q2k_ 6 18446744073709551616 (Ev.get q2i_) 185 q1w_ x=qjz_ x:=by
 have e1:(fun b i=>(jfn Tryz.prog q2k_ 6 18446744073709551616 (Ev.get q2i_) 185 q1w_) 26 [] (q1v_ b i))=qe4_:=by funext b i; exact q11k_ b i
 rw [qi_,q128_,e1]
 rfl
theorem q133_:CtOk Tryz.prog (fun _=>True) 185 ⟨q1w_,qjz_⟩:=qc_ q3_ q14k_
@[reducible] def qb5_:Sh:=⟨[.d (.sl (.int .u8))],[],[.sl (.int .u8)],[.d (.pr (.int .u16) YTT14),.d (.int .i64)],[],0,[.pr (.int .u16) YTT14,.int .i64]⟩
def qhr_:Env:=(cts [(185,(⟨q1w_,qjz_⟩:Ct))])
def qhz_:List (Nat×Hint):=[(6,⟨[],[0,2,13]⟩)]
def qkr_ (b:List Int) (t13:Bool) (t2 t2_2:Int):St:={ fr:=[(0,.d (.sl (.int .u8)) b),(2,.pb 0 0),(13,.d .bool t13)],nt:=49,up:=[],own:=[(0,.box 148 [.d (.int .u16) t2,.d (.int .u8) t2_2,.k (Go.Value.slice Option.none 0 0)])],nx:=1,log:=[],ln:=0 }
def qlb_ (b:List Int) (t13:Bool) (t2 t2_2:Int):Option (As [.pr (.int .u16) YTT14,.int .i64]) :=
 if t13=true then some ((0,0,[]),0,()) else Option.bind (at? b 5) fun y=>if lt (Int.ofNat (List.length b)) (add .i64 6 (cvt .i64 y))=true then some ((0,0,[]),0,()) else need (ge (Sx.sub .i64 (add .i64 6 (cvt .i64 y)) 7) 0) (need (Ev.capOk (Sx.sub .i64 (add .i64 6 (cvt .i64 y)) 7) (Sx.sub .i64 (add .i64 6 (cvt .i64 y)) 7)) (need (small (Int.toNat (Sx.sub .i64 (add .i64 6 (cvt .i64 y)) 7))) (Option.bind (cut b 7 (add .i64 6 (cvt .i64 y))) fun y_1=>need (le (Int.ofNat (0 + List.length (List.replicate (α:=Int) (Int.toNat (Sx.sub .i64 (add .i64 6 (cvt .i64 y)) 7)) 0))) (Int.ofNat (List.length (List.replicate (α:=Int) (Int.toNat (Sx.sub .i64 (add .i64 6 (cvt .i64 y)) 7)) 0)))) (Option.bind (at? b 0) fun y_2=>Option.bind (at? b 1) fun y_3=>Option.bind (at? b 6) fun y_4=>some ((Sx.bor .u16 (Sx.shl .u16 (cvt .u16 y_2) 8) (cvt .u16 y_3),y_4,List.take (Int.toNat (Int.ofNat (List.length (List.replicate (α:=Int) (Int.toNat (Sx.sub .i64 (add .i64 6 (cvt .i64 y)) 7)) 0)))) y_1++List.drop (0 + List.length (List.take (Int.toNat (Int.ofNat (List.length (List.replicate (α:=Int) (Int.toNat (Sx.sub .i64 (add .i64 6 (cvt .i64 y)) 7)) 0)))) y_1)) (List.replicate (Int.toNat (Sx.sub .i64 (add .i64 6 (cvt .i64 y)) 7)) 0)),add .i64 6 (cvt .i64 y),())))))
def qbw_ (j1:List Int->Bool->Int->Int->Option (As [.pr (.int .u16) YTT14,.int .i64])) (b:List Int):Option (As [.pr (.int .u16) YTT14,.int .i64]) :=
 if le (Int.ofNat (List.length b)) 7=true then j1 b true 0 0 else Option.bind (qjz_ (b,())) fun y=>j1 b (!y.1) 0 0
def qgh_ (b:List Int) (t13:Bool) (t2 t2_2:Int):Option (As [.pr (.int .u16) YTT14,.int .i64]):=qlb_ b t13 t2 t2_2
def qii_ (x:As [.sl (.int .u8)]):Option (As [.pr (.int .u16) YTT14,.int .i64]):=qbw_ qgh_ x.1
theorem q158_  (J b t13 t2 t2_2):pfn Tryz.prog qhr_ 6 18446744073709551616 (Ev.get qhz_) 141 qb5_ J 6 [] (qkr_ b t13 t2 t2_2)=qlb_ b t13 t2 t2_2:=by kernel_rfl
theorem q147_ (J:Orc (As [.pr (.int .u16) YTT14,.int .i64])) (x:As [.sl (.int .u8)]):rfn Tryz.prog qhr_ 6 18446744073709551616 (Ev.get qhz_) 141 qb5_ J x=qbw_ (fun b t13 t2 t2_2=>J 6 [] (qkr_ b t13 t2 t2_2)) x.1:=by kernel_rfl
theorem q13d_  (b t13 t2 t2_2):jfn Tryz.prog qhr_ 6 18446744073709551616 (Ev.get qhz_) 141 qb5_ 6 [] (qkr_ b t13 t2 t2_2)=qgh_ b t13 t2 t2_2:=by
 rw [q6_ (by decide)]
 rw [q158_]
 rfl
theorem q16f_ (x:As [.sl (.int .u8)]):evT Tryz.prog qhr_ 6 18446744073709551616 (Ev.get qhz_) 141 qb5_ x=qii_ x:=by
 have e1:(fun b t13 t2 t2_2=>(jfn Tryz.prog qhr_ 6 18446744073709551616 (Ev.get qhz_) 141 qb5_) 6 [] (qkr_ b t13 t2 t2_2))=qgh_:=by funext b t13 t2 t2_2; exact q13d_ b t13 t2 t2_2
 rw [qi_,q147_,e1]
 rfl
theorem q13w_:CtOk Tryz.prog (fun _=>True) 141 ⟨qb5_,qii_⟩:=qc_ (q0_ q133_ q3_) q16f_
@[reducible] def qb1_:Sh:=⟨[.d (.sl (.int .u8))],[],[.sl (.int .u8)],[.d (.pr (.int .u16) YTT14),.d (.int .i64)],[],0,[.pr (.int .u16) YTT14,.int .i64]⟩
def qhn_:Env:=(cts [(141,(⟨qb5_,qii_⟩:Ct))])
def qi0_:List (Nat×Hint):=[(14,⟨[],[2,4,18]⟩)]
def qld_ (t18:Bool) (t2 t2_2:Int) (x:Int×Int×List Int):St:={ fr:=[(2,.pb 0 0),(4,.pb 1 0),(18,.d .bool t18)],nt:=21,up:=[],own:=[(0,.box 148 [.d (.int .u16) t2,.d (.int .u8) t2_2,.k (Go.Value.slice Option.none 0 0)]),(1,.box 148 [.d (.int .u16) x.1,.d (.int .u8) x.2.1,.d (.sl (.int .u8)) x.2.2])],nx:=2,log:=[],ln:=0 }
def qv1_ (t18:Bool) (t2 t2_2:Int) (x:Int×Int×List Int):Option (As [.pr (.int .u16) YTT14,.int .i64]) :=
 if t18=true then some ((0,0,[]),10,()) else some (x,0,())
def ql1_ (j1:Bool->Int->Int->Int×Int×List Int->Option (As [.pr (.int .u16) YTT14,.int .i64])) (b:List Int):Option (As [.pr (.int .u16) YTT14,.int .i64]) :=
 Option.bind (qii_ (b,())) fun y=>if eqi y.2.1 0=true then j1 true 0 0 y.1 else j1 (nei y.2.1 (Int.ofNat (List.length b))) 0 0 y.1
def qg7_ (t18:Bool) (t2 t2_2:Int) (x:Int×Int×List Int):Option (As [.pr (.int .u16) YTT14,.int .i64]):=qv1_ t18 t2 t2_2 x
def qn2_ (x:As [.sl (.int .u8)]):Option (As [.pr (.int .u16) YTT14,.int .i64]):=ql1_ qg7_ x.1
theorem q14z_  (J t18 t2 t2_2 x):pfn Tryz.prog qhn_ 6 18446744073709551616 (Ev.get qi0_) 87 qb1_ J 14 [] (qld_ t18 t2 t2_2 x)=qv1_ t18 t2 t2_2 x:=by kernel_rfl
theorem q13l_ (J:Orc (As [.pr (.int .u16) YTT14,.int .i64])) (x:As [.sl (.int .u8)]):rfn Tryz.prog qhn_ 6 18446744073709551616 (Ev.get qi0_) 87 qb1_ J x=ql1_ (fun t18 t2 t2_2 x=>J 14 [] (qld_ t18 t2 t2_2 x)) x.1:=by kernel_rfl
theorem q15g_  (t18 t2 t2_2 x):jfn Tryz.prog qhn_ 6 18446744073709551616 (Ev.get qi0_) 87 qb1_ 14 [] (qld_ t18 t2 t2_2 x)=qg7_ t18 t2 t2_2 x:=by
 rw [q6_ (by decide)]
 rw [q14z_]
 rfl
theorem q17e_ (x:As [.sl (.int .u8)]):evT Tryz.prog qhn_ 6 18446744073709551616 (Ev.get qi0_) 87 qb1_ x=qn2_ x:=by
 have e1:(fun t18 t2 t2_2 x=>(jfn Tryz.prog qhn_ 6 18446744073709551616 (Ev.get qi0_) 87 qb1_) 14 [] (qld_ t18 t2 t2_2 x))=qg7_:=by funext t18 t2 t2_2 x; exact q15g_ t18 t2 t2_2 x
 rw [qi_,q13l_,e1]
 rfl
theorem q13b_:CtOk Tryz.prog (fun _=>True) 87 ⟨qb1_,qn2_⟩:=qc_ (q0_ q13w_ q3_) q17e_
@[reducible] def qd9_:Sh:=⟨[.d (.pr (.int .u16) YTT14)],[],[.pr (.int .u16) YTT14],[.d (.sl (.int .u8)),.d (.int .i64)],[],0,[.sl (.int .u8),.int .i64]⟩
def qjr_:Env:=(cts [])
def qk9_:List (Nat×Hint):=[(14,⟨[],[1,4,14]⟩)]
def qmr_ (n:Int) (t14:Bool) (x:Int×Int×List Int):St:={ fr:=[(1,.pb 0 0),(4,.d (.int .i64) n),(14,.d .bool t14)],nt:=37,up:=[],own:=[(0,.box 148 [.d (.int .u16) x.1,.d (.int .u8) x.2.1,.d (.sl (.int .u8)) x.2.2])],nx:=1,log:=[],ln:=0 }
def qmd_ (n:Int) (t14:Bool) (x:Int×Int×List Int):Option (As [.sl (.int .u8),.int .i64]) :=
 if t14=true then some ([],2,()) else need (Ev.capOk 0 (add .i64 7 n)) (need (small (Int.toNat (add .i64 7 n))) (need (small (0 + Nat.succ (Nat.succ (Nat.succ (Nat.succ (Nat.succ (Nat.succ (Nat.succ 0)))))))) (need (small (Nat.succ (Nat.succ (Nat.succ (Nat.succ (Nat.succ (Nat.succ (Nat.succ 0)))))) + List.length x.2.2)) (some (cvt .u8 (Sx.shr .u16 x.1 8)::cvt .u8 x.1::0::0::0::cvt .u8 (add .i64 n 1)::x.2.1::x.2.2,0,())))))
def qoe_ (j1:Int->Bool->Int×Int×List Int->Option (As [.sl (.int .u8),.int .i64])) (x:Int×Int×List Int):Option (As [.sl (.int .u8),.int .i64]) :=
 if lt (Int.ofNat (List.length x.2.2)) 1=true then j1 (Int.ofNat (List.length x.2.2)) true x else j1 (Int.ofNat (List.length x.2.2)) (gt (Int.ofNat (List.length x.2.2)) 253) x
def qmu_ (n:Int) (t14:Bool) (x:Int×Int×List Int):Option (As [.sl (.int .u8),.int .i64]):=qmd_ n t14 x
def qq7_ (x:As [.pr (.int .u16) YTT14]):Option (As [.sl (.int .u8),.int .i64]):=qoe_ qmu_ x.1
theorem q170_  (J n t14 x):pfn Tryz.prog qjr_ 6 18446744073709551616 (Ev.get qk9_) 88 qd9_ J 14 [] (qmr_ n t14 x)=qmd_ n t14 x:=by kernel_rfl
theorem q18s_ (J:Orc (As [.sl (.int .u8),.int .i64])) (x:As [.pr (.int .u16) YTT14]):rfn Tryz.prog qjr_ 6 18446744073709551616 (Ev.get qk9_) 88 qd9_ J x=qoe_ (fun n t14 x=>J 14 [] (qmr_ n t14 x)) x.1:=by kernel_rfl
theorem q18f_  (n t14 x):jfn Tryz.prog qjr_ 6 18446744073709551616 (Ev.get qk9_) 88 qd9_ 14 [] (qmr_ n t14 x)=qmu_ n t14 x:=by
 rw [q6_ (by decide)]
 rw [q170_]
 rfl
theorem q19c_ (x:As [.pr (.int .u16) YTT14]):evT Tryz.prog qjr_ 6 18446744073709551616 (Ev.get qk9_) 88 qd9_ x=qq7_ x:=by
 have e1:(fun n t14 x=>(jfn Tryz.prog qjr_ 6 18446744073709551616 (Ev.get qk9_) 88 qd9_) 14 [] (qmr_ n t14 x))=qmu_:=by funext n t14 x; exact q18f_ n t14 x
 rw [qi_,q18s_,e1]
 rfl
theorem q15q_:CtOk Tryz.prog (fun _=>True) 88 ⟨qd9_,qq7_⟩:=qc_ q3_ q19c_
@[reducible] def q5b_:Sh:=⟨[.d (.pr (.int .u8) (.pr (.int .u8) (.pr (.pr (.sl (.int .u16)) YTT0) (.sl .bool)))),.d (.sl (.int .u8))],[],[.pr (.int .u8) (.pr (.int .u8) (.pr (.pr (.sl (.int .u16)) YTT0) (.sl .bool))),.sl (.int .u8)],[.d (.pr (.int .u8) (.pr (.int .u8) (.pr (.pr (.sl (.int .u16)) YTT0) (.sl .bool)))),.d (.sl (.int .u8))],[],0,[.pr (.int .u8) (.pr (.int .u8) (.pr (.pr (.sl (.int .u16)) YTT0) (.sl .bool))),.sl (.int .u8)]⟩
def q8n_:Env:=(cts [(14,(⟨qc0_,q25_⟩:Ct)),(28,(⟨qd4_,qq4_⟩:Ct)),(30,(⟨qcy_,qps_⟩:Ct)),(63,(⟨qd1_,qew_⟩:Ct)),(87,(⟨qb1_,qn2_⟩:Ct)),(88,(⟨qd9_,qq7_⟩:Ct))])
def q8o_:List (Nat×Hint):=[(30,⟨[],[2,4,10,11,62]⟩),(106,⟨[],[2,4,6,31]⟩)]
def qkv_ (s t4:Int) (t31:Bool) (s_2 t4_2:List (YaAq0)) (x:Int×Int×List Int):St:={ fr:=[(2,.prw 0 s 35 0),(4,.prw 1 t4 35 0),(6,.pb 2 0),(31,.d .bool t31)],nt:=79,up:=[],own:=[(0,.row (.pr (.int .u8) (.pr (.int .u8) (.pr (.pr (.sl (.int .u16)) YTT0) (.sl .bool)))) 38 s_2),(1,.row (.pr (.int .u8) (.pr (.int .u8) (.pr (.pr (.sl (.int .u16)) YTT0) (.sl .bool)))) 38 t4_2),(2,.box 148 [.d (.int .u16) x.1,.d (.int .u8) x.2.1,.d (.sl (.int .u8)) x.2.2])],nx:=3,log:=[],ln:=0 }
def qkf_ (s t4 unit:Int) (pdu:List Int) (t62:Bool) (s_2 t4_2:List (YaAq0)):St:={ fr:=[(2,.prw 0 s 35 0),(4,.prw 1 t4 35 0),(10,.d (.int .u8) unit),(11,.d (.sl (.int .u8)) pdu),(62,.d .bool t62)],nt:=79,up:=[],own:=[(0,.row (.pr (.int .u8) (.pr (.int .u8) (.pr (.pr (.sl (.int .u16)) YTT0) (.sl .bool)))) 38 s_2),(1,.row (.pr (.int .u8) (.pr (.int .u8) (.pr (.pr (.sl (.int .u16)) YTT0) (.sl .bool)))) 38 t4_2)],nx:=2,log:=[],ln:=0 }
def qbq_ (s t4:Int) (t31:Bool) (s_2 t4_2:List (YaAq0)) (x:Int×Int×List Int):Option (As [.pr (.int .u8) (.pr (.int .u8) (.pr (.pr (.sl (.int .u16)) YTT0) (.sl .bool))),.sl (.int .u8)]) :=
 if t31=true then Option.bind (at? s_2 s) fun y=>Option.bind (qew_ (y,())) fun y=>Option.bind (at? t4_2 t4) fun x=>Option.bind (at? (List.set t4_2 (Int.toNat t4) y.1) t4) fun y_1=>Option.bind (at? (List.set t4_2 (Int.toNat t4) y.1) t4) fun y=>some (y,[],()) else Option.bind (at? s_2 s) fun y=>Option.bind (q25_ (y,x.2.2,())) fun y=>Option.bind (at? s_2 s) fun x_1=>Option.bind (qq7_ ((x.1,x.2.1,y.2.1),())) fun y_1=>Option.bind (at? (List.set s_2 (Int.toNat s) y.1) s) fun y=>Option.bind (at? t4_2 t4) fun x=>Option.bind (at? (List.set t4_2 (Int.toNat t4) y) t4) fun y_2=>Option.bind (at? (List.set t4_2 (Int.toNat t4) y) t4) fun y=>some (y,y_1.1,())
def qbz_ (s t4 unit:Int) (pdu:List Int) (t62:Bool) (s_2 t4_2:List (YaAq0)):Option (As [.pr (.int .u8) (.pr (.int .u8) (.pr (.pr (.sl (.int .u16)) YTT0) (.sl .bool))),.sl (.int .u8)]) :=
 if t62=true then Option.bind (at? s_2 s) fun y=>Option.bind (qew_ (y,())) fun y=>Option.bind (at? t4_2 t4) fun x=>Option.bind (at? (List.set t4_2 (Int.toNat t4) y.1) t4) fun y_1=>Option.bind (at? (List.set t4_2 (Int.toNat t4) y.1) t4) fun y=>some (y,[],()) else Option.bind (at? s_2 s) fun y=>Option.bind (q25_ (y,pdu,())) fun y=>Option.bind (at? s_2 s) fun x=>Option.bind (qq4_ (unit,y.2.1,())) fun y_1=>Option.bind (at? (List.set s_2 (Int.toNat s) y.1) s) fun y=>Option.bind (at? t4_2 t4) fun x=>Option.bind (at? (List.set t4_2 (Int.toNat t4) y) t4) fun y_2=>Option.bind (at? (List.set t4_2 (Int.toNat t4) y) t4) fun y=>some (y,y_1.1,())
def ql7_ (j1:Int->Int->Bool->List (YaAq0)->List (YaAq0)->Int×Int×List Int->Option (As [.pr (.int .u8) (.pr (.int .u8) (.pr (.pr (.sl (.int .u16)) YTT0) (.sl .bool))),.sl (.int .u8)])) (j2:Int->Int->Int->List Int->Bool->List (YaAq0)->List (YaAq0)->Option (As [.pr (.int .u8) (.pr (.int .u8) (.pr (.pr (.sl (.int .u16)) YTT0) (.sl .bool))),.sl (.int .u8)])) (s:YaAq0) (frame:List Int):Option (As [.pr (.int .u8) (.pr (.int .u8) (.pr (.pr (.sl (.int .u16)) YTT0) (.sl .bool))),.sl (.int .u8)]) :=
 if eqi s.2.1 2=true then Option.bind (qn2_ (frame,())) fun y=>if nei y.2.1 0=true then j1 0 0 true [s] [zSl] y.1 else j1 0 0 (nei y.1.2.1 s.1) [s] [zSl] y.1 else Option.bind (qps_ (frame,())) fun y=>if nei y.2.2.1 0=true then j2 0 0 y.1 y.2.1 true [s] [zSl] else j2 0 0 y.1 y.2.1 (nei y.1 s.1) [s] [zSl]
def q99_ (s t4:Int) (t31:Bool) (s_2 t4_2:List (YaAq0)) (x:Int×Int×List Int):Option (As [.pr (.int .u8) (.pr (.int .u8) (.pr (.pr (.sl (.int .u16)) YTT0) (.sl .bool))),.sl (.int .u8)]):=qbq_ s t4 t31 s_2 t4_2 x
def qbs_ (s t4 unit:Int) (pdu:List Int) (t62:Bool) (s_2 t4_2:List (YaAq0)):Option (As [.pr (.int .u8) (.pr (.int .u8) (.pr (.pr (.sl (.int .u16)) YTT0) (.sl .bool))),.sl (.int .u8)]):=qbz_ s t4 unit pdu t62 s_2 t4_2
def qod_ (x:As [.pr (.int .u8) (.pr (.int .u8) (.pr (.pr (.sl (.int .u16)) YTT0) (.sl .bool))),.sl (.int .u8)]):Option (As [.pr (.int .u8) (.pr (.int .u8) (.pr (.pr (.sl (.int .u16)) YTT0) (.sl .bool))),.sl (.int .u8)]):=ql7_ q99_ qbs_ x.1 x.2.1
theorem q13e_  (J s t4 t31 s_2 t4_2 x):pfn Tryz.prog q8n_ 6 18446744073709551616 (Ev.get q8o_) 29 q5b_ J 106 [] (qkv_ s t4 t31 s_2 t4_2 x)=qbq_ s t4 t31 s_2 t4_2 x:=by kernel_rfl
theorem q152_  (J s t4 unit pdu t62 s_2 t4_2):pfn Tryz.prog q8n_ 6 18446744073709551616 (Ev.get q8o_) 29 q5b_ J 30 [] (qkf_ s t4 unit pdu t62 s_2 t4_2)=qbz_ s t4 unit pdu t62 s_2 t4_2:=by kernel_rfl
theorem q148_ (J:Orc (As [.pr (.int .u8) (.pr (.int .u8) (.pr (.pr (.sl (.int .u16)) YTT0) (.sl .bool))),.sl (.int .u8)])) (x:As [.pr (.int .u8) (.pr (.int .u8) (.pr (.pr (.sl (.int .u16)) YTT0) (.sl .bool))),.sl (.int .u8)]):rfn Tryz.prog q8n_ 6 18446744073709551616 (Ev.get q8o_) 29 q5b_ J x=ql7_ (fun s t4 t31 s_2 t4_2 x=>J 106 [] (qkv_ s t4 t31 s_2 t4_2 x)) (fun s t4 unit pdu t62 s_2 t4_2=>J 30 [] (qkf_ s t4 unit pdu t62 s_2 t4_2)) x.1 x.2.1:=by kernel_rfl
theorem q13j_  (s t4 t31 s_2 t4_2 x):jfn Tryz.prog q8n_ 6 18446744073709551616 (Ev.get q8o_) 29 q5b_ 106 [] (qkv_ s t4 t31 s_2 t4_2 x)=q99_ s t4 t31 s_2 t4_2 x:=by
 rw [q6_ (by decide)]
 rw [q13e_]
 rfl
theorem q14y_  (s t4 unit pdu t62 s_2 t4_2):jfn Tryz.prog q8n_ 6 18446744073709551616 (Ev.get q8o_) 29 q5b_ 30 [] (qkf_ s t4 unit pdu t62 s_2 t4_2)=qbs_ s t4 unit pdu t62 s_2 t4_2:=by
 rw [q6_ (by decide)]
 rw [q152_]
 rfl
theorem q18h_ (x:As [.pr (.int .u8) (.pr (.int .u8) (.pr (.pr (.sl (.int .u16)) YTT0) (.sl .bool))),.sl (.int .u8)]):evT Tryz.prog q8n_ 6 18446744073709551616 (Ev.get q8o_) 29 q5b_ x=qod_ x:=by
 have e1:(fun s t4 t31 s_2 t4_2 x=>(jfn Tryz.prog q8n_ 6 18446744073709551616 (Ev.get q8o_) 29 q5b_) 106 [] (qkv_ s t4 t31 s_2 t4_2 x))=q99_:=by funext s t4 t31 s_2 t4_2 x; exact q13j_ s t4 t31 s_2 t4_2 x
 have e2:(fun s t4 unit pdu t62 s_2 t4_2=>(jfn Tryz.prog q8n_ 6 18446744073709551616 (Ev.get q8o_) 29 q5b_) 30 [] (qkf_ s t4 unit pdu t62 s_2 t4_2))=qbs_:=by funext s t4 unit pdu t62 s_2 t4_2; exact q14y_ s t4 unit pdu t62 s_2 t4_2
 rw [qi_,q148_,e1,e2]
 rfl
theorem q157_:CtOk Tryz.prog (fun _=>True) 29 ⟨q5b_,qod_⟩:=qc_ (q0_ qip_ (q0_ q171_ (q0_ q189_ (q0_ qsj_ (q0_ q13b_ (q0_ q15q_ q3_)))))) q18h_
@[reducible] def qes_:Sh:=⟨[.d (.pr (.int .u16) (.int .i64))],[],[.pr (.int .u16) (.int .i64)],[.d (.pr (.int .u16) (.int .i64)),.d (.bool)],[],0,[.pr (.int .u16) (.int .i64),.bool]⟩
def qi1_:Env:=(cts [(113,(⟨qea_,q5p_⟩:Ct)),(167,(⟨qmc_,q7p_⟩:Ct)),(207,(⟨qrl_,q9l_⟩:Ct))])
def qi7_:List (Nat×Hint):=[(14,⟨[],[1,2,14]⟩)]
def qkz_ (t14:Bool) (l t2:Int×Int):St:={ fr:=[(1,.pb 0 0),(2,.pb 1 0),(14,.d .bool t14)],nt:=25,up:=[],own:=[(0,.box 27 [.d (.int .u16) l.1,.d (.int .i64) l.2]),(1,.box 27 [.d (.int .u16) t2.1,.d (.int .i64) t2.2])],nx:=2,log:=[],ln:=0 }
def qkq_ (t14:Bool) (l t2:Int×Int):Option (As [.pr (.int .u16) (.int .i64),.bool]) :=
 if t14=true then some (l,false,()) else if eqi (Sx.sub .i64 l.2 1) 0=true then some ((0,0),true,()) else some ((l.1,Sx.sub .i64 l.2 1),false,())
def qla_ (j1:Bool->Int×Int->Int×Int->Option (As [.pr (.int .u16) (.int .i64),.bool])) (l:Int×Int):Option (As [.pr (.int .u16) (.int .i64),.bool]) :=
 Option.bind (q7p_ (l,())) fun y=>Option.bind (q5p_ (y.1,())) fun y_1=>if y_1.1=true then j1 true y.1 (0,0) else Option.bind (q9l_ (y.1.1,())) fun y_2=>j1 (eqi y.1.1 y_2.1.1 && (eqi y.1.2 y_2.1.2 && true)) y.1 (0,0)
def ql9_ (t14:Bool) (l t2:Int×Int):Option (As [.pr (.int .u16) (.int .i64),.bool]):=qkq_ t14 l t2
def qrf_ (x:As [.pr (.int .u16) (.int .i64)]):Option (As [.pr (.int .u16) (.int .i64),.bool]):=qla_ ql9_ x.1
theorem q13k_  (J t14 l t2):pfn Tryz.prog qi1_ 6 18446744073709551616 (Ev.get qi7_) 179 qes_ J 14 [] (qkz_ t14 l t2)=qkq_ t14 l t2:=by kernel_rfl
theorem q140_ (J:Orc (As [.pr (.int .u16) (.int .i64),.bool])) (x:As [.pr (.int .u16) (.int .i64)]):rfn Tryz.prog qi1_ 6 18446744073709551616 (Ev.get qi7_) 179 qes_ J x=qla_ (fun t14 l t2=>J 14 [] (qkz_ t14 l t2)) x.1:=by kernel_rfl
theorem q13r_  (t14 l t2):jfn Tryz.prog qi1_ 6 18446744073709551616 (Ev.get qi7_) 179 qes_ 14 [] (qkz_ t14 l t2)=ql9_ t14 l t2:=by
 rw [q6_ (by decide)]
 rw [q13k_]
 rfl
theorem q18p_ (x:As [.pr (.int .u16) (.int .i64)]):evT Tryz.prog qi1_ 6 18446744073709551616 (Ev.get qi7_) 179 qes_ x=qrf_ x:=by
 have e1:(fun t14 l t2=>(jfn Tryz.prog qi1_ 6 18446744073709551616 (Ev.get qi7_) 179 qes_) 14 [] (qkz_ t14 l t2))=ql9_:=by funext t14 l t2; exact q13r_ t14 l t2
 rw [qi_,q140_,e1]
 rfl
theorem q151_:CtOk Tryz.prog (fun _=>True) 179 ⟨qes_,qrf_⟩:=qc_ (q0_ qgr_ (q0_ qfy_ (q0_ qko_ q3_))) q18p_
@[reducible] def q185_:Sh:=⟨[.d (.pr (.sl (.int .u16)) YTT0)],[],[.pr (.sl (.int .u16)) YTT0],[.d (.pr (.sl (.int .u16)) YTT0)],[],0,[.pr (.sl (.int .u16)) YTT0]⟩
def qqx_ (a:List Int×(Int×Int)×Int×Int×Int×YTT9×Int):Option (As [.pr (.sl (.int .u16)) YTT0]) :=
 Option.bind (qf0_ (a,())) fun y=>Option.bind (qrf_ (y.1.2.1,())) fun y_1=>if y_1.2.1=true then Option.bind (qa2_ (y.1,())) fun y=>some (y.1,()) else some ((y.1.1,y_1.1,y.1.2.2),())
def quh_ (x:As [.pr (.sl (.int .u16)) YTT0]):Option (As [.pr (.sl (.int .u16)) YTT0]):=qqx_ x.1
theorem q13a_:CtOk Tryz.prog (fun _=>True) 136 ⟨q185_,quh_⟩:=ctn (q0_ qn0_ (q0_ q151_ (q0_ qdx_ q3_))) 6 fun J x=>by kernel_rfl
@[reducible] def qx4_:Sh:=⟨[.d (.pr (.int .u8) (.pr (.int .u8) (.pr (.pr (.sl (.int .u16)) YTT0) (.sl .bool))))],[],[.pr (.int .u8) (.pr (.int .u8) (.pr (.pr (.sl (.int .u16)) YTT0) (.sl .bool)))],[.d (.pr (.int .u8) (.pr (.int .u8) (.pr (.pr (.sl (.int .u16)) YTT0) (.sl .bool))))],[],0,[.pr (.int .u8) (.pr (.int .u8) (.pr (.pr (.sl (.int .u16)) YTT0) (.sl .bool)))]⟩
def qqh_ (s:YaAq0):Option (As [.pr (.int .u8) (.pr (.int .u8) (.pr (.pr (.sl (.int .u16)) YTT0) (.sl .bool)))]) :=
 Option.bind (qew_ (s,())) fun y=>Option.bind (quh_ (y.1.2.2.1,())) fun y_1=>some ((y.1.1,y.1.2.1,y_1.1,y.1.2.2.2),())
def qrg_ (x:As [.pr (.int .u8) (.pr (.int .u8) (.pr (.pr (.sl (.int .u16)) YTT0) (.sl .bool)))]):Option (As [.pr (.int .u8) (.pr (.int .u8) (.pr (.pr (.sl (.int .u16)) YTT0) (.sl .bool)))]):=qqh_ x.1
theorem q155_:CtOk Tryz.prog (fun _=>True) 82 ⟨qx4_,qrg_⟩:=ctn (q0_ qsj_ (q0_ q13a_ q3_)) 6 fun J x=>by kernel_rfl
@[reducible] def q17x_:Sh:=⟨[.d (.pr (.sl (.int .u16)) YTT0)],[],[.pr (.sl (.int .u16)) YTT0],[.d (.pr (.sl (.int .u16)) YTT0)],[],0,[.pr (.sl (.int .u16)) YTT0]⟩
def qqm_ (a:List Int×(Int×Int)×Int×Int×Int×YTT9×Int):Option (As [.pr (.sl (.int .u16)) YTT0]) :=
 Option.bind (qf0_ (a,())) fun y=>if eqi y.1.2.2.1 1=true then Option.bind (qa2_ (y.1,())) fun y=>some (y.1,()) else some (y.1,())
def qur_ (x:As [.pr (.sl (.int .u16)) YTT0]):Option (As [.pr (.sl (.int .u16)) YTT0]):=qqm_ x.1
theorem q15m_:CtOk Tryz.prog (fun _=>True) 137 ⟨q17x_,qur_⟩:=ctn (q0_ qn0_ (q0_ qdx_ q3_)) 6 fun J x=>by kernel_rfl
@[reducible] def qvz_:Sh:=⟨[.d (.pr (.int .u8) (.pr (.int .u8) (.pr (.pr (.sl (.int .u16)) YTT0) (.sl .bool))))],[],[.pr (.int .u8) (.pr (.int .u8) (.pr (.pr (.sl (.int .u16)) YTT0) (.sl .bool)))],[.d (.pr (.int .u8) (.pr (.int .u8) (.pr (.pr (.sl (.int .u16)) YTT0) (.sl .bool))))],[],0,[.pr (.int .u8) (.pr (.int .u8) (.pr (.pr (.sl (.int .u16)) YTT0) (.sl .bool)))]⟩
def qr1_ (s:YaAq0):Option (As [.pr (.int .u8) (.pr (.int .u8) (.pr (.pr (.sl (.int .u16)) YTT0) (.sl .bool)))]) :=
 Option.bind (qew_ (s,())) fun y=>Option.bind (qur_ (y.1.2.2.1,())) fun y_1=>some ((y.1.1,y.1.2.1,y_1.1,[false,false,false,false,false,false,false,false,false,false,false,false,false,false,false,false]),())
def qrd_ (x:As [.pr (.int .u8) (.pr (.int .u8) (.pr (.pr (.sl (.int .u16)) YTT0) (.sl .bool)))]):Option (As [.pr (.int .u8) (.pr (.int .u8) (.pr (.pr (.sl (.int .u16)) YTT0) (.sl .bool)))]):=qr1_ x.1
theorem q154_:CtOk Tryz.prog (fun _=>True) 83 ⟨qvz_,qrd_⟩:=ctn (q0_ qsj_ (q0_ q15m_ q3_)) 6 fun J x=>by kernel_rfl
def q113_ (x y:Int×List Int):Option (As [.bool]) :=
 if eqi x.1 y.1=true then Option.bind (q30_ (x.2,y.2,())) fun y=>some (y.1,()) else some (false,())
def q163_ (x:As [.pr (.int .i64) (.sl (.int .u16)),.pr (.int .i64) (.sl (.int .u16))]):Option (As [.bool]):=q113_ x.1 x.2.1
def qnl_ (self1:List (Int×List Int)->List (Int×List Int)->Int->Int->Option (As [.bool])) (s2 t15:List (Int×List Int)) (t16 t17:Int):Option (As [.bool]) :=
 if lt t17 t16=true then Option.bind (at? t15 t17) fun y=>Option.bind (at? s2 t17) fun y_1=>Option.bind (q163_ (y,y_1,())) fun y=>if (!y.1)=true then some (false,()) else self1 s2 t15 t16 (add .i64 t17 1) else some (true,())
def qnn_ (j1:List (Int×List Int)->List (Int×List Int)->Int->Int->Option (As [.bool])) (s1 s2:List (Int×List Int)):Option (As [.bool]) :=
 if nei (Int.ofNat (List.length s1)) (Int.ofNat (List.length s2))=true then some (false,()) else j1 s2 s1 (Int.ofNat (List.length s1)) 0
def qme_ (s2 t15:List (Int×List Int)) (t16 t17:Int):Option (As [.bool]) :=
 loopF (fun (self:(List (Int×List Int))×(List (Int×List Int))×(Int)×(Int)->Option (As [.bool])) (s:(List (Int×List Int))×(List (Int×List Int))×(Int)×(Int))=>qnl_ (fun s2 t15 t16 t17=>self (s2,t15,t16,t17)) s.1 s.2.1 s.2.2.1 s.2.2.2) 18446744073709551616 (s2,t15,t16,t17)
def qpv_ (x:As [.sl YTT8,.sl YTT8]):Option (As [.bool]):=qnn_ qme_ x.1 x.2.1
def q18j_ (a b:List (Int×List Int)):Option (As [.bool]) :=
 Option.bind (qpv_ (a,b,())) fun y=>some (y.1,())
def q1av_ (x:As [.sl YTT8,.sl YTT8]):Option (As [.bool]):=q18j_ x.1 x.2.1
def q13g_ (a b:Int×List Bool×List (Int×List Int)):Option (As [.bool]) :=
 if eqi a.1 b.1=true then if (Sx.eqb (List.getD a.2.1 0 false) (List.getD b.2.1 0 false) && (Sx.eqb (List.getD a.2.1 1 false) (List.getD b.2.1 1 false) && (Sx.eqb (List.getD a.2.1 2 false) (List.getD b.2.1 2 false) && (Sx.eqb (List.getD a.2.1 3 false) (List.getD b.2.1 3 false) && (Sx.eqb (List.getD a.2.1 4 false) (List.getD b.2.1 4 false) && (Sx.eqb (List.getD a.2.1 5 false) (List.getD b.2.1 5 false) && (Sx.eqb (List.getD a.2.1 6 false) (List.getD b.2.1 6 false) && (Sx.eqb (List.getD a.2.1 7 false) (List.getD b.2.1 7 false) && true))))))))=true then Option.bind (q8t_ (a,())) fun y=>Option.bind (q8t_ (b,())) fun y_1=>Option.bind (q1av_ (y.1,y_1.1,())) fun y=>some (y.1,()) else some (false,()) else some (false,())
def q1ad_ (x:As [.pr (.int .u32) (.pr (.ar 8 .bool) (.ar 8 YTT8)),.pr (.int .u32) (.pr (.ar 8 .bool) (.ar 8 YTT8))]):Option (As [.bool]):=q13g_ x.1 x.2.1
def q14t_ (a b:List Int×(Int×Int)×Int×Int×Int×YTT9×Int):Option (As [.bool]) :=
 Option.bind (q30_ (a.1,b.1,())) fun y=>if y.1=true then if (eqi a.2.1.1 b.2.1.1 && (eqi a.2.1.2 b.2.1.2 && true))=true then if eqi a.2.2.1 b.2.2.1=true then if eqi a.2.2.2.1 b.2.2.2.1=true then if eqi a.2.2.2.2.1 b.2.2.2.2.1=true then Option.bind (q1ad_ (a.2.2.2.2.2.1,b.2.2.2.2.2.1,())) fun y=>if y.1=true then some (eqi a.2.2.2.2.2.2 b.2.2.2.2.2.2,()) else some (false,()) else some (false,()) else some (false,()) else some (false,()) else some (false,()) else some (false,())
def q102_ (x:As [.pr (.sl (.int .u16)) YTT0,.pr (.sl (.int .u16)) YTT0]):Option (As [.bool]):=q14t_ x.1 x.2.1
def q15e_ (a b:YaAq0):Option (As [.bool]) :=
 if eqi a.1 b.1=true then if eqi a.2.1 b.2.1=true then Option.bind (q102_ (a.2.2.1,b.2.2.1,())) fun y=>if y.1=true then Option.bind (q6o_ (a.2.2.2,b.2.2.2,())) fun y=>some (y.1,()) else some (false,()) else some (false,()) else some (false,())
def q1b3_ (x:As [.pr (.int .u8) (.pr (.int .u8) (.pr (.pr (.sl (.int .u16)) YTT0) (.sl .bool))),.pr (.int .u8) (.pr (.int .u8) (.pr (.pr (.sl (.int .u16)) YTT0) (.sl .bool)))]):Option (As [.bool]):=q15e_ x.1 x.2.1
def q193_ (self1:List Bool->List Bool->Int->Int->Option (As [.bool])) (a b:List Bool) (t12 t13:Int):Option (As [.bool]) :=
 if lt t13 t12=true then Option.bind (at? a t13) fun y=>Option.bind (at? b t13) fun y_1=>if Sx.neb y y_1=true then some (false,()) else self1 a b t12 (add .i64 t13 1) else some (true,())
def q19u_ (j1:List Bool->List Bool->Int->Int->Option (As [.bool])) (a b:List Bool):Option (As [.bool]) :=
 if nei (Int.ofNat (List.length a)) (Int.ofNat (List.length b))=true then some (false,()) else j1 a b (Int.ofNat (List.length a)) 0
def q1a5_ (a b:List Bool) (t12 t13:Int):Option (As [.bool]) :=
 loopF (fun (self:(List Bool)×(List Bool)×(Int)×(Int)->Option (As [.bool])) (s:(List Bool)×(List Bool)×(Int)×(Int))=>q193_ (fun a b t12 t13=>self (a,b,t12,t13)) s.1 s.2.1 s.2.2.1 s.2.2.2) 18446744073709551616 (a,b,t12,t13)
def q1b6_ (x:As [.sl .bool,.sl .bool]):Option (As [.bool]):=q19u_ q1a5_ x.1 x.2.1
def q18x_ (a b:List Int):Option (As [.bool]) :=
 some (eqs (Sx.toS a) (Sx.toS b),())
def q1b5_ (x:As [.sl (.int .u8),.sl (.int .u8)]):Option (As [.bool]):=q18x_ x.1 x.2.1
def q118_ (r:Int×Int×List Bool×List Int×Int×Int):Option (As [.bool]) :=
 if nei r.2.1 0=true then Option.bind (q2q_ ((),r,())) fun y=>some (y.1,()) else if eqi r.1 1=true then Option.bind (q1f_ ((),r,())) fun y=>some (y.1,()) else if eqi r.1 2=true then Option.bind (q1f_ ((),r,())) fun y=>some (y.1,()) else if eqi r.1 3=true then Option.bind (q1c_ ((),r,())) fun y=>some (y.1,()) else if eqi r.1 4=true then Option.bind (q1c_ ((),r,())) fun y=>some (y.1,()) else if eqi r.1 23=true then Option.bind (q1c_ ((),r,())) fun y=>some (y.1,()) else if eqi r.1 5=true then Option.bind (q3n_ ((),r,())) fun y=>some (y.1,()) else if eqi r.1 6=true then Option.bind (q3g_ ((),r,())) fun y=>some (y.1,()) else if eqi r.1 15=true then Option.bind (q1x_ (1968,r,())) fun y=>some (y.1,()) else if eqi r.1 16=true then Option.bind (q1x_ (123,r,())) fun y=>some (y.1,()) else some (false,())
def q19t_ (x:As [.pr (.int .u8) YTT3]):Option (As [.bool]):=q118_ x.1
def q13o_ (t22:Bool) (a a_2 a_3 a_4:Int) (a_5:List Int) (a_6:List Bool) (r r_2:Int) (r_3:List Bool) (r_4:List Int) (r_5 r_6:Int):Option (As [.bool]) :=
 if t22=true then some (false,()) else if nei r_2 0=true then some (true,()) else Option.bind (q9g_ ((a,a_2,a_3,a_4,a_5,a_6),())) fun y=>if y.2.1=true then Option.bind (q9h_ (y.1,(r,r_2,r_3,r_4,r_5,r_6),())) fun y=>some (y.1,()) else if gt (Int.ofNat (List.length r_3)) 0=true then if eqi (Int.ofNat (List.length r_3)) (mul .i64 (quo .i64 (add .i64 (cvt .i64 a_3) 7) 8) 8)=true then Option.bind (cut r_3 (cvt .i64 a_3) (Int.ofNat (List.length r_3))) fun y=>Option.bind (q66_ (y,true,())) fun y=>some (!y.1,()) else some (false,()) else some (eqi (Int.ofNat (List.length r_4)) (cvt .i64 a_3),())
def q145_ (j1:Bool->Int->Int->Int->Int->List Int->List Bool->Int->Int->List Bool->List Int->Int->Int->Option (As [.bool])) (a:Int×Int×Int×Int×List Int×List Bool) (r:Int×Int×List Bool×List Int×Int×Int):Option (As [.bool]) :=
 Option.bind (q9p_ (a,())) fun y=>if (!y.1)=true then j1 true a.1 a.2.1 a.2.2.1 a.2.2.2.1 a.2.2.2.2.1 a.2.2.2.2.2 r.1 r.2.1 r.2.2.1 r.2.2.2.1 r.2.2.2.2.1 r.2.2.2.2.2 else Option.bind (q19t_ (r,())) fun y=>if (!y.1)=true then j1 true a.1 a.2.1 a.2.2.1 a.2.2.2.1 a.2.2.2.2.1 a.2.2.2.2.2 r.1 r.2.1 r.2.2.1 r.2.2.2.1 r.2.2.2.2.1 r.2.2.2.2.2 else j1 (nei a.1 r.1) a.1 a.2.1 a.2.2.1 a.2.2.2.1 a.2.2.2.2.1 a.2.2.2.2.2 r.1 r.2.1 r.2.2.1 r.2.2.2.1 r.2.2.2.2.1 r.2.2.2.2.2
def q13i_ (t22:Bool) (a a_2 a_3 a_4:Int) (a_5:List Int) (a_6:List Bool) (r r_2:Int) (r_3:List Bool) (r_4:List Int) (r_5 r_6:Int):Option (As [.bool]):=q13o_ t22 a a_2 a_3 a_4 a_5 a_6 r r_2 r_3 r_4 r_5 r_6
def q1b4_ (x:As [.pr (.int .u8) YTT4,.pr (.int .u8) YTT3]):Option (As [.bool]):=q145_ q13i_ x.1 x.2.1
def q11h_ (s:List YTT5×List YTT5×List YTT5×List YTT5) (m:List Bool×List Bool×List Int×List Int) (pdu:List Int):Option (As [.pr (.sl .bool) YTT10,.sl (.int .u8)]) :=
 Option.bind (qfd_ (pdu,())) fun y=>if nei y.2.1 0=true then Option.bind (ql_ (y.1.1,y.2.1,())) fun y=>Option.bind (qd3_ (y.1,())) fun y=>Option.bind (q1au_ (m,())) fun y_1=>some (y_1.1,y.1,()) else Option.bind (q27_ (s,m,y.1,())) fun y=>Option.bind (qd3_ (y.2.1,())) fun y_1=>some (y.1,y_1.1,())
def q1b1_ (x:As [.pr YTT1 (.pr YTT1 (.pr YTT1 YTT1)),.pr (.sl .bool) YTT10,.sl (.int .u8)]):Option (As [.pr (.sl .bool) YTT10,.sl (.int .u8)]):=q11h_ x.1 x.2.1 x.2.2.1
def q11t_ (c:Int×Int×Int×Int×Int):Option (As [.sl (.int .u16)]) :=
 Option.bind (qaa_ (c.2.2.1,())) fun y=>Option.bind (qaa_ (c.2.2.2.2,())) fun y_1=>some ([c.1,cvt .u16 c.2.1,y.1,y.2.1,c.2.2.2.1,y_1.1,y_1.2.1,0],())
def q1b2_ (x:As [.pr (.int .u16) YTT6]):Option (As [.sl (.int .u16)]):=q11t_ x.1
def q122_ (owner tx n:Int) (x:Int×List Int):Option (As [.sl (.int .u16),.int .i64]) :=
 Option.bind (qb6_ (n,())) fun y=>if (!y.1)=true then some ([],2,()) else Option.bind (qa8_ (x,())) fun y=>if (!y.1)=true then some ([],20,()) else Option.bind (qhp_ (owner,tx,n,x,())) fun y=>some (y.1,0,())
def q1b0_ (x:As [.int .u16,.int .u32,.int .i64,.pr (.int .i64) (.sl (.int .u16))]):Option (As [.sl (.int .u16),.int .i64]):=q122_ x.1 x.2.1 x.2.2.1 x.2.2.2.1
@[reducible] def q5s_:Sh:=⟨[.d (.pr (.int .u8) (.pr (.sl (.int .u8)) (.pr (.pr (.int .u8) YTT4) (.pr (.int .u16) YTT6))))],[],[.pr (.int .u8) (.pr (.sl (.int .u8)) (.pr (.pr (.int .u8) YTT4) (.pr (.int .u16) YTT6)))],[.d (.sl (.int .u8)),.d (.bool)],[],0,[.sl (.int .u8),.bool]⟩
def qay_:Env:=(cts [(13,(⟨q1y_,q3f_⟩:Ct)),(57,(⟨qqw_,qa7_⟩:Ct))])
def qb0_:List (Nat×Hint):=[(7,⟨[.frb 4],[4]⟩)]
def qdg_ (a:Int×Int×Int×Int×List Int×List Bool):St:={ fr:=[(4,.pb 0 0)],nt:=41,up:=[],own:=[(0,.box 44 [.d (.int .u8) a.1,.d (.int .u16) a.2.1,.d (.int .u16) a.2.2.1,.d (.int .u16) a.2.2.2.1,.d (.sl (.int .u16)) a.2.2.2.2.1,.d (.sl .bool) a.2.2.2.2.2])],nx:=1,log:=[],ln:=0 }
def qdd_ (a:Int×Int×Int×Int×List Int×List Bool):Option (As [.sl (.int .u8),.bool]) :=
 Option.bind (q3f_ (a,())) fun y=>some (y.1,eqi y.2.1 0,())
def qde_ (j1:Int×Int×Int×Int×List Int×List Bool->Option (As [.sl (.int .u8),.bool])) (o:Int×List Int×YTT16×Int×Int×Int×Int×Int):Option (As [.sl (.int .u8),.bool]) :=
 if eqi (rem o.1 6) 0=true then some (o.2.1,true,()) else if eqi (rem o.1 6) 5=true then Option.bind (qa7_ (o.2.2.2,())) fun y=>if eqi (rem o.2.2.2.2.2.2.1 2) 1=true then Option.bind (qa7_ (o.2.2.2,())) fun y=>j1 (16,272,8,0,y.1,[]) else j1 (23,256,8,272,y.1,[]) else if eqi (rem o.1 6) 2=true then j1 o.2.2.1 else some ([],false,())
def q9e_ (a:Int×Int×Int×Int×List Int×List Bool):Option (As [.sl (.int .u8),.bool]):=qdd_ a
def qeq_ (x:As [.pr (.int .u8) (.pr (.sl (.int .u8)) (.pr (.pr (.int .u8) YTT4) (.pr (.int .u16) YTT6)))]):Option (As [.sl (.int .u8),.bool]):=qde_ q9e_ x.1
theorem qxx_  (J a):pfn Tryz.prog qay_ 6 18446744073709551616 (Ev.get qb0_) 40 q5s_ J 7 [] (qdg_ a)=qdd_ a:=by kernel_rfl
theorem qxz_ (J:Orc (As [.sl (.int .u8),.bool])) (x:As [.pr (.int .u8) (.pr (.sl (.int .u8)) (.pr (.pr (.int .u8) YTT4) (.pr (.int .u16) YTT6)))]):rfn Tryz.prog qay_ 6 18446744073709551616 (Ev.get qb0_) 40 q5s_ J x=qde_ (fun a=>J 7 [] (qdg_ a)) x.1:=by kernel_rfl
theorem qy4_  (a):jfn Tryz.prog qay_ 6 18446744073709551616 (Ev.get qb0_) 40 q5s_ 7 [] (qdg_ a)=q9e_ a:=by
 rw [q6_ (by decide)]
 rw [qxx_]
 rfl
theorem qzn_ (x:As [.pr (.int .u8) (.pr (.sl (.int .u8)) (.pr (.pr (.int .u8) YTT4) (.pr (.int .u16) YTT6)))]):evT Tryz.prog qay_ 6 18446744073709551616 (Ev.get qb0_) 40 q5s_ x=qeq_ x:=by
 have e1:(fun a=>(jfn Tryz.prog qay_ 6 18446744073709551616 (Ev.get qb0_) 40 q5s_) 7 [] (qdg_ a))=q9e_:=funext fun a=>qy4_ a
 rw [qi_,qxz_,e1]
 rfl
theorem qy3_:CtOk Tryz.prog (fun _=>True) 40 ⟨q5s_,qeq_⟩:=qc_ (q0_ qnv_ (q0_ qu5_ q3_)) qzn_
@[reducible] def qsp_:Sh:=⟨[.d (.pr (.int .u8) (.pr (.sl (.int .u8)) (.pr (.pr (.int .u8) YTT4) (.pr (.int .u16) YTT6)))),.d (.pr (.int .u8) (.pr (.int .u8) (.pr (.pr (.sl (.int .u16)) YTT0) (.sl .bool))))],[],[.pr (.int .u8) (.pr (.sl (.int .u8)) (.pr (.pr (.int .u8) YTT4) (.pr (.int .u16) YTT6))),.pr (.int .u8) (.pr (.int .u8) (.pr (.pr (.sl (.int .u16)) YTT0) (.sl .bool)))],[.d (.pr (.int .u8) (.pr (.int .u8) (.pr (.pr (.sl (.int .u16)) YTT0) (.sl .bool)))),.d (.sl (.int .u8))],[],0,[.pr (.int .u8) (.pr (.int .u8) (.pr (.pr (.sl (.int .u16)) YTT0) (.sl .bool))),.sl (.int .u8)]⟩
def q10f_:Env:=(cts [(2000038,Ev.bxCt),(14,(⟨qc0_,q25_⟩:Ct)),(29,(⟨q5b_,qod_⟩:Ct)),(40,(⟨q5s_,qeq_⟩:Ct)),(82,(⟨qx4_,qrg_⟩:Ct)),(83,(⟨qvz_,qrd_⟩:Ct))])
def qlo_ (o:Int×List Int×YTT16×Int×Int×Int×Int×Int) (s:YaAq0):Option (As [.pr (.int .u8) (.pr (.int .u8) (.pr (.pr (.sl (.int .u16)) YTT0) (.sl .bool))),.sl (.int .u8)]) :=
 Option.bind (qeq_ (o,())) fun y=>if y.2.1=true then Option.bind (q25_ (s,y.1,())) fun y=>some (y.1,y.2.1,()) else if eqi (rem o.1 6) 1=true then Option.bind (qod_ (s,o.2.1,())) fun y=>some (y.1,y.2.1,()) else if eqi (rem o.1 6) 3=true then Option.bind (qrg_ (s,())) fun y=>some (y.1,[],()) else if eqi (rem o.1 6) 4=true then Option.bind (qrd_ (s,())) fun y=>some (y.1,[],()) else some (s,[],())
def qc2_ (x:As [.pr (.int .u8) (.pr (.sl (.int .u8)) (.pr (.pr (.int .u8) YTT4) (.pr (.int .u16) YTT6))),.pr (.int .u8) (.pr (.int .u8) (.pr (.pr (.sl (.int .u16)) YTT0) (.sl .bool)))]):Option (As [.pr (.int .u8) (.pr (.int .u8) (.pr (.pr (.sl (.int .u16)) YTT0) (.sl .bool))),.sl (.int .u8)]):=qlo_ x.1 x.2.1
theorem qzk_:CtOk Tryz.prog (fun _=>True) 25 ⟨qsp_,qc2_⟩:=ctn (env:=q10f_) (q0_ Ev.bx_ok (q0_ qip_ (q0_ q157_ (q0_ qy3_ (q0_ q155_ (q0_ q154_ q3_)))))) 6 fun J x=>by kernel_rfl
end Go.Proofs.Lx
end
section
open Go Go.Proofs Ev Sx
set_option maxRecDepth 100000
namespace Go.Proofs.Lx
@[reducible] def q3a_:Sh:=⟨[.row 0,.row 0],[.row (.int .u16) 23],[.sl (.int .u16)],[.d .bool],[(0,.row (.int .u16) 23)],0,[.bool,.sl (.int .u16)]⟩
def q4c_:Env:=(cts [])
def q4e_:List (Nat×Hint):=[(58,⟨[],[0,1,12,13]⟩)]
def q2x_ (t12 t13:Int) (s1:List Int):St:={ fr:=[(0,.row 0),(1,.row 0),(12,.d (.int .i64) t12),(13,.d (.int .i64) t13)],nt:=26,up:=[],own:=[(0,.row (.int .u16) 23 s1)],nx:=1,log:=[],ln:=1 }
def q2z_ (self1:Int->Int->List Int->Option (As [.bool,.sl (.int .u16)])) (t12 t13:Int) (s1:List Int):Option (As [.bool,.sl (.int .u16)]) :=
 if lt t13 t12=true then Option.bind (at? s1 t13) fun x=>Option.bind (at? s1 t13) fun y=>Option.bind (at? s1 t13) fun x=>Option.bind (at? s1 t13) fun y_1=>if nei y y_1=true then some (false,s1,()) else self1 t12 (add .i64 t13 1) s1 else some (true,s1,())
def q5r_ (j1:Int->Int->List Int->Option (As [.bool,.sl (.int .u16)])) (s1:List Int):Option (As [.bool,.sl (.int .u16)]) :=
 if nei (Int.ofNat (List.length s1)) (Int.ofNat (List.length s1))=true then some (false,s1,()) else j1 (Int.ofNat (List.length s1)) 0 s1
def q46_ (t12 t13:Int) (s1:List Int):Option (As [.bool,.sl (.int .u16)]) :=
 loopF (fun (self:(Int)×(Int)×(List Int)->Option (As [.bool,.sl (.int .u16)])) (s:(Int)×(Int)×(List Int))=>q2z_ (fun t12 t13 s1=>self (t12,t13,s1)) s.1 s.2.1 s.2.2) 18446744073709551616 (t12,t13,s1)
def q7v_ (x:As [.sl (.int .u16)]):Option (As [.bool,.sl (.int .u16)]):=q5r_ q46_ x.1
theorem qqs_  (J w1 t12 t13 s1):pfn Tryz.prog q4c_ 6 18446744073709551616 (Ev.get q4e_) 80 q3a_ J 58 [w1] (q2x_ t12 t13 s1)=q2z_ (fun t12 t13 s1=>w1 (q2x_ t12 t13 s1)) t12 t13 s1:=by kernel_rfl
theorem qqi_ (J:Orc (As [.bool,.sl (.int .u16)])) (x:As [.sl (.int .u16)]):rfn Tryz.prog q4c_ 6 18446744073709551616 (Ev.get q4e_) 80 q3a_ J x=q5r_ (fun t12 t13 s1=>J 58 [] (q2x_ t12 t13 s1)) x.1:=by kernel_rfl
theorem qr2_  (t12 t13 s1):jfn Tryz.prog q4c_ 6 18446744073709551616 (Ev.get q4e_) 80 q3a_ 58 [] (q2x_ t12 t13 s1)=q46_ t12 t13 s1:=by
 rw [q6_ (by decide)]
 rw [qn_ (by kernel_rfl)]
 refine qh_ (σ:=(Int)×(Int)×(List Int)) (mk:=fun s=>q2x_ s.1 s.2.1 s.2.2) (fun w1 s=>?_) 18446744073709551616 (t12,t13,s1)
 refine (qqs_ _ w1 s.1 s.2.1 s.2.2).trans ?_
 rfl
theorem qrk_ (x:As [.sl (.int .u16)]):evT Tryz.prog q4c_ 6 18446744073709551616 (Ev.get q4e_) 80 q3a_ x=q7v_ x:=by
 have e1:(fun t12 t13 s1=>(jfn Tryz.prog q4c_ 6 18446744073709551616 (Ev.get q4e_) 80 q3a_) 58 [] (q2x_ t12 t13 s1))=q46_:=by funext t12 t13 s1; exact qr2_ t12 t13 s1
 rw [qi_,qqi_,e1]
 rfl
theorem qql_:CtOk Tryz.prog (fun _=>True) 80 ⟨q3a_,q7v_⟩:=qc_ q3_ qrk_
@[reducible] def q104_:Sh:=⟨[.agg [.d (.int .u8),.d (.int .u8),.d (.sl .bool),.row 0,.d (.int .u16),.d (.int .u16)],.agg [.d (.int .u8),.d (.int .u8),.d (.sl .bool),.row 0,.d (.int .u16),.d (.int .u16)]],[.row (.int .u16) 23],[.int .u8,.int .u8,.sl .bool,.int .u16,.int .u16,.int .u8,.int .u8,.sl .bool,.int .u16,.int .u16,.sl (.int .u16)],[.d .bool],[(0,.row (.int .u16) 23)],0,[.bool,.sl (.int .u16)]⟩
def qlu_ (a b:Int) (a_2:List Bool) (b_2 v v_2 v_3:Int) (v_4:List Bool) (v_5 v_6:Int) (v_7:List Int):Option (As [.bool,.sl (.int .u16)]) :=
 if eqi a v_2=true then if eqi b v_3=true then if eqi b_2 v_5=true then if eqi v v_6=true then Option.bind (q6o_ (a_2,v_4,())) fun y=>if y.1=true then Option.bind (q7v_ (v_7,())) fun y=>some (y.1,y.2.1,()) else some (false,v_7,()) else some (false,v_7,()) else some (false,v_7,()) else some (false,v_7,()) else some (false,v_7,())
def qqv_ (x:As [.int .u8,.int .u8,.sl .bool,.int .u16,.int .u16,.int .u8,.int .u8,.sl .bool,.int .u16,.int .u16,.sl (.int .u16)]):Option (As [.bool,.sl (.int .u16)]):=qlu_ x.1 x.2.1 x.2.2.1 x.2.2.2.1 x.2.2.2.2.1 x.2.2.2.2.2.1 x.2.2.2.2.2.2.1 x.2.2.2.2.2.2.2.1 x.2.2.2.2.2.2.2.2.1 x.2.2.2.2.2.2.2.2.2.1 x.2.2.2.2.2.2.2.2.2.2.1
theorem qyg_:CtOk Tryz.prog (fun _=>True) 69 ⟨q104_,qqv_⟩:=ctn (q0_ qql_ (q0_ qly_ q3_)) 6 fun J x=>by kernel_rfl
@[reducible] def qhl_:Sh:=⟨[.d (.un),.agg [.d (.int .u8),.d (.int .u8),.d (.sl .bool),.row 0,.d (.int .u16),.d (.int .u16)]],[.row (.int .u16) 23],[.un,.int .u8,.int .u8,.sl .bool,.int .u16,.int .u16,.sl (.int .u16)],[.d .bool],[(0,.row (.int .u16) 23)],0,[.bool,.sl (.int .u16)]⟩
def q9j_ (v:Unit) (r v_2:Int) (r_2:List Bool) (v_3 n:Int) (v_4:List Int):Option (As [.bool,.sl (.int .u16)]) :=
 if ge (Int.ofNat (List.length v_4)) 1=true then if le (Int.ofNat (List.length v_4)) 125=true then Option.bind (qqv_ (r,v_2,r_2,v_3,n,r,0,[],0,0,v_4,())) fun y=>some (y.1,y.2.1,()) else some (false,v_4,()) else some (false,v_4,())
def q47_ (x:As [.un,.int .u8,.int .u8,.sl .bool,.int .u16,.int .u16,.sl (.int .u16)]):Option (As [.bool,.sl (.int .u16)]):=q9j_ x.1 x.2.1 x.2.2.1 x.2.2.2.1 x.2.2.2.2.1 x.2.2.2.2.2.1 x.2.2.2.2.2.2.1
theorem qr4_:CtOk Tryz.prog (fun _=>True) 270 ⟨qhl_,q47_⟩:=ctn (q0_ qyg_ q3_) 6 fun J x=>by kernel_rfl
@[reducible] def q7l_:Sh:=⟨[.row 0,.row 1],[.row (.int .u8) 5,.row (.int .u16) 23],[.sl (.int .u8),.sl (.int .u16)],[.row 2],[(1,.row (.int .u16) 23),(2,.row (.int .u8) 5)],1,[.sl (.int .u16),.sl (.int .u8)]⟩
def q9d_:Env:=(cts [])
def q9f_:List (Nat×Hint):=[(26,⟨[.unl 0],[0,7,8,9]⟩)]
def q64_ (t8 t9:Int) (t7 out:List Int):St:={ fr:=[(0,.row 2),(7,.row 1),(8,.d (.int .i64) t8),(9,.d (.int .i64) t9)],nt:=23,up:=[],own:=[(1,.row (.int .u16) 23 t7),(2,.row (.int .u8) 5 out)],nx:=3,log:=[],ln:=2 }
def q6i_ (self1:Int->Int->List Int->List Int->Option (As [.sl (.int .u16),.sl (.int .u8)])) (t8 t9:Int) (t7 out:List Int):Option (As [.sl (.int .u16),.sl (.int .u8)]) :=
 if lt t9 t8=true then Option.bind (at? t7 t9) fun x=>Option.bind (at? t7 t9) fun y=>need (small (List.length out + Nat.succ (Nat.succ 0))) (self1 t8 (add .i64 t9 1) t7 (out++[cvt .u8 (Sx.shr .u16 y 8),cvt .u8 y])) else some (t7,out,())
def qcn_ (j1:Int->Int->List Int->List Int->Option (As [.sl (.int .u16),.sl (.int .u8)])) (out l:List Int):Option (As [.sl (.int .u16),.sl (.int .u8)]) :=
 j1 (Int.ofNat (List.length l)) 0 l out
def q8f_ (t8 t9:Int) (t7 out:List Int):Option (As [.sl (.int .u16),.sl (.int .u8)]) :=
 loopF (fun (self:(Int)×(Int)×(List Int)×(List Int)->Option (As [.sl (.int .u16),.sl (.int .u8)])) (s:(Int)×(Int)×(List Int)×(List Int))=>q6i_ (fun t8 t9 t7 out=>self (t8,t9,t7,out)) s.1 s.2.1 s.2.2.1 s.2.2.2) 18446744073709551616 (t8,t9,t7,out)
def qh8_ (x:As [.sl (.int .u8),.sl (.int .u16)]):Option (As [.sl (.int .u16),.sl (.int .u8)]):=qcn_ q8f_ x.1 x.2.1
theorem qwd_  (J w1 t8 t9 t7 out):pfn Tryz.prog q9d_ 6 18446744073709551616 (Ev.get q9f_) 273 q7l_ J 26 [w1] (q64_ t8 t9 t7 out)=q6i_ (fun t8 t9 t7 out=>w1 (q64_ t8 t9 t7 out)) t8 t9 t7 out:=by kernel_rfl
theorem qwr_ (J:Orc (As [.sl (.int .u16),.sl (.int .u8)])) (x:As [.sl (.int .u8),.sl (.int .u16)]):rfn Tryz.prog q9d_ 6 18446744073709551616 (Ev.get q9f_) 273 q7l_ J x=qcn_ (fun t8 t9 t7 out=>J 26 [] (q64_ t8 t9 t7 out)) x.1 x.2.1:=by kernel_rfl
theorem qw5_  (t8 t9 t7 out):jfn Tryz.prog q9d_ 6 18446744073709551616 (Ev.get q9f_) 273 q7l_ 26 [] (q64_ t8 t9 t7 out)=q8f_ t8 t9 t7 out:=by
 rw [q6_ (by decide)]
 rw [qn_ (by kernel_rfl)]
 refine qh_ (σ:=(Int)×(Int)×(List Int)×(List Int)) (mk:=fun s=>q64_ s.1 s.2.1 s.2.2.1 s.2.2.2) (fun w1 s=>?_) 18446744073709551616 (t8,t9,t7,out)
 refine (qwd_ _ w1 s.1 s.2.1 s.2.2.1 s.2.2.2).trans ?_
 rfl
theorem qy2_ (x:As [.sl (.int .u8),.sl (.int .u16)]):evT Tryz.prog q9d_ 6 18446744073709551616 (Ev.get q9f_) 273 q7l_ x=qh8_ x:=by
 have e1:(fun t8 t9 t7 out=>(jfn Tryz.prog q9d_ 6 18446744073709551616 (Ev.get q9f_) 273 q7l_) 26 [] (q64_ t8 t9 t7 out))=q8f_:=by funext t8 t9 t7 out; exact qw5_ t8 t9 t7 out
 rw [qi_,qwr_,e1]
 rfl
theorem qw9_:CtOk Tryz.prog (fun _=>True) 273 ⟨q7l_,qh8_⟩:=qc_ q3_ qy2_
@[reducible] def qhy_:Sh:=⟨[.d (.un),.agg [.d (.int .u8),.d (.int .u8),.d (.sl .bool),.row 0,.d (.int .u16),.d (.int .u16)]],[.row (.int .u16) 23],[.un,.int .u8,.int .u8,.sl .bool,.int .u16,.int .u16,.sl (.int .u16)],[.d (.sl (.int .u8))],[(0,.row (.int .u16) 23)],0,[.sl (.int .u8),.sl (.int .u16)]⟩
def q9k_ (v:Unit) (r v_2:Int) (r_2:List Bool) (v_3 v_4:Int) (v_5:List Int):Option (As [.sl (.int .u8),.sl (.int .u16)]) :=
 Option.bind (qh8_ ([r,cvt .u8 (mul .i64 2 (Int.ofNat (List.length v_5)))],v_5,())) fun y=>some (y.2.1,y.1,())
def q4a_ (x:As [.un,.int .u8,.int .u8,.sl .bool,.int .u16,.int .u16,.sl (.int .u16)]):Option (As [.sl (.int .u8),.sl (.int .u16)]):=q9k_ x.1 x.2.1 x.2.2.1 x.2.2.2.1 x.2.2.2.2.1 x.2.2.2.2.2.1 x.2.2.2.2.2.2.1
theorem qrj_:CtOk Tryz.prog (fun _=>True) 271 ⟨qhy_,q4a_⟩:=ctn (q0_ qw9_ q3_) 6 fun J x=>by kernel_rfl
@[reducible] def qad_:Sh:=⟨[.d (.sl (.int .u8))],[],[.sl (.int .u8)],[.row 0],[(0,.row (.int .u16) 23)],1,[.sl (.int .u16)]⟩
def qdt_:Env:=(cts [])
def qdm_:List (Nat×Hint):=[(58,⟨[],[0,3,10,11]⟩)]
def q8w_ (b:List Int) (t10 t11:Int) (l:List Int):St:={ fr:=[(0,.d (.sl (.int .u8)) b),(3,.row 0),(10,.d (.int .i64) t10),(11,.d (.int .i64) t11)],nt:=34,up:=[],own:=[(0,.row (.int .u16) 23 l)],nx:=1,log:=[],ln:=0 }
def q91_ (self1:List Int->Int->Int->List Int->Option (As [.sl (.int .u16)])) (b:List Int) (t10 t11:Int) (l:List Int):Option (As [.sl (.int .u16)]) :=
 if lt t11 t10=true then Option.bind (at? b (mul .i64 2 t11)) fun y=>Option.bind (at? b (add .i64 (mul .i64 2 t11) 1)) fun y_1=>Option.bind (at? l t11) fun x=>Option.bind (at? l t11) fun x=>self1 b t10 (add .i64 t11 1) (List.set l (Int.toNat t11) (Sx.bor .u16 (Sx.shl .u16 (cvt .u16 y) 8) (cvt .u16 y_1))) else some (l,())
def qhf_ (j1:List Int->Int->Int->List Int->Option (As [.sl (.int .u16)])) (b:List Int):Option (As [.sl (.int .u16)]) :=
 need (ge (quo .i64 (Int.ofNat (List.length b)) 2) 0) (need (Ev.capOk (quo .i64 (Int.ofNat (List.length b)) 2) (quo .i64 (Int.ofNat (List.length b)) 2)) (need (small (Int.toNat (quo .i64 (Int.ofNat (List.length b)) 2))) (j1 b (Int.ofNat (List.length (List.replicate (α:=Int) (Int.toNat (quo .i64 (Int.ofNat (List.length b)) 2)) 0))) 0 (List.replicate (Int.toNat (quo .i64 (Int.ofNat (List.length b)) 2)) 0))))
def qct_ (b:List Int) (t10 t11:Int) (l:List Int):Option (As [.sl (.int .u16)]) :=
 loopF (fun (self:(List Int)×(Int)×(Int)×(List Int)->Option (As [.sl (.int .u16)])) (s:(List Int)×(Int)×(Int)×(List Int))=>q91_ (fun b t10 t11 l=>self (b,t10,t11,l)) s.1 s.2.1 s.2.2.1 s.2.2.2) 18446744073709551616 (b,t10,t11,l)
def qmb_ (x:As [.sl (.int .u8)]):Option (As [.sl (.int .u16)]):=qhf_ qct_ x.1
theorem qzy_  (J w1 b t10 t11 l):pfn Tryz.prog qdt_ 6 18446744073709551616 (Ev.get qdm_) 272 qad_ J 58 [w1] (q8w_ b t10 t11 l)=q91_ (fun b t10 t11 l=>w1 (q8w_ b t10 t11 l)) b t10 t11 l:=by kernel_rfl
theorem q10m_ (J:Orc (As [.sl (.int .u16)])) (x:As [.sl (.int .u8)]):rfn Tryz.prog qdt_ 6 18446744073709551616 (Ev.get qdm_) 272 qad_ J x=qhf_ (fun b t10 t11 l=>J 58 [] (q8w_ b t10 t11 l)) x.1:=by kernel_rfl
theorem qzw_  (b t10 t11 l):jfn Tryz.prog qdt_ 6 18446744073709551616 (Ev.get qdm_) 272 qad_ 58 [] (q8w_ b t10 t11 l)=qct_ b t10 t11 l:=by
 rw [q6_ (by decide)]
 rw [qn_ (by kernel_rfl)]
 refine qh_ (σ:=(List Int)×(Int)×(Int)×(List Int)) (mk:=fun s=>q8w_ s.1 s.2.1 s.2.2.1 s.2.2.2) (fun w1 s=>?_) 18446744073709551616 (b,t10,t11,l)
 refine (qzy_ _ w1 s.1 s.2.1 s.2.2.1 s.2.2.2).trans ?_
 rfl
theorem q11g_ (x:As [.sl (.int .u8)]):evT Tryz.prog qdt_ 6 18446744073709551616 (Ev.get qdm_) 272 qad_ x=qmb_ x:=by
 have e1:(fun b t10 t11 l=>(jfn Tryz.prog qdt_ 6 18446744073709551616 (Ev.get qdm_) 272 qad_) 58 [] (q8w_ b t10 t11 l))=qct_:=by funext b t10 t11 l; exact qzw_ b t10 t11 l
 rw [qi_,q10m_,e1]
 rfl
theorem q10a_:CtOk Tryz.prog (fun _=>True) 272 ⟨qad_,qmb_⟩:=qc_ q3_ q11g_
@[reducible] def qje_:Sh:=⟨[.d (.un),.d (.sl (.int .u8))],[],[.un,.sl (.int .u8)],[.agg [.d (.int .u8),.d (.int .u8),.d (.sl .bool),.row 0,.d (.int .u16),.d (.int .u16)]],[(0,.row (.int .u16) 23)],1,[.int .u8,.int .u8,.sl .bool,.int .u16,.int .u16,.sl (.int .u16)]⟩
def qbb_ (v:Unit) (b:List Int):Option (As [.int .u8,.int .u8,.sl .bool,.int .u16,.int .u16,.sl (.int .u16)]) :=
 Option.bind (at? b 0) fun y=>Option.bind (cut b 2 (Int.ofNat (List.length b))) fun y_1=>Option.bind (qmb_ (y_1,())) fun y_2=>some (y,0,[],0,0,y_2.1,())
def q4i_ (x:As [.un,.sl (.int .u8)]):Option (As [.int .u8,.int .u8,.sl .bool,.int .u16,.int .u16,.sl (.int .u16)]):=qbb_ x.1 x.2.1
theorem qs8_:CtOk Tryz.prog (fun _=>True) 269 ⟨qje_,q4i_⟩:=ctn (q0_ q10a_ q3_) 6 fun J x=>by kernel_rfl
@[reducible] def q7h_:Sh:=⟨[.d (.sl (.int .u8))],[],[.sl (.int .u8)],[.agg [.d (.int .u8),.d (.int .u8),.d (.sl .bool),.row 0,.d (.int .u16),.d (.int .u16)],.d (.int .i64)],[(0,.row (.int .u16) 23)],1,[.int .u8,.int .u8,.sl .bool,.int .u16,.int .u16,.int .i64,.sl (.int .u16)]⟩
def qcm_:Env:=(cts [(66,(⟨qku_,qw_⟩:Ct)),(253,(⟨qd2_,q7b_⟩:Ct)),(254,(⟨qbj_,q2q_⟩:Ct)),(255,(⟨qbi_,q3h_⟩:Ct)),(266,(⟨qf8_,q4q_⟩:Ct)),(267,(⟨qej_,q1f_⟩:Ct)),(268,(⟨qdo_,q24_⟩:Ct)),(269,(⟨qje_,q4i_⟩:Ct)),(270,(⟨qhl_,q47_⟩:Ct)),(271,(⟨qhy_,q4a_⟩:Ct)),(274,(⟨qh1_,q9b_⟩:Ct)),(275,(⟨qfh_,q3n_⟩:Ct)),(276,(⟨q32_,q3q_⟩:Ct)),(277,(⟨qg0_,q8r_⟩:Ct)),(278,(⟨qdh_,q3g_⟩:Ct)),(279,(⟨q93_,q4b_⟩:Ct)),(280,(⟨qhv_,q5u_⟩:Ct)),(281,(⟨qh3_,q1x_⟩:Ct)),(282,(⟨qh2_,q2t_⟩:Ct))])
def qcb_:List (Nat×Hint):=[(6,⟨[],[0,2,15,42,43,44,45,46,47]⟩)]
def qfj_ (b:List Int) (t15:Bool) (t2 t2_2 t2_3 t2_4:Int):St:={ fr:=[(0,.d (.sl (.int .u8)) b),(2,.pb 0 0),(15,.d .bool t15)],nt:=51,up:=[],own:=[(0,.box 46 [.d (.int .u8) t2,.d (.int .u8) t2_2,.k (Go.Value.slice Option.none 0 0),.k (Go.Value.slice Option.none 0 0),.d (.int .u16) t2_3,.d (.int .u16) t2_4])],nx:=1,log:=[],ln:=0 }
def qf3_ (b:List Int) (t15:Bool) (t2 t2_2 t2_3 t2_4:Int):Option (As [.int .u8,.int .u8,.sl .bool,.int .u16,.int .u16,.int .i64,.sl (.int .u16)]) :=
 if t15=true then Option.none else Option.bind (at? b 0) fun y=>if lt y 128=true then Option.bind (at? b 0) fun y=>if eqi y 1=true then Option.bind (q4q_ ((),b,())) fun y=>Option.bind (q1f_ ((),y.1,())) fun y_1=>if (!y_1.1)=true then Option.none else Option.bind (q24_ ((),y.1,())) fun y=>Option.bind (qw_ (y.1,b,())) fun y=>if (!y.1)=true then Option.none else Option.none else if eqi y 2=true then Option.bind (q4q_ ((),b,())) fun y=>Option.bind (q1f_ ((),y.1,())) fun y_1=>if (!y_1.1)=true then Option.none else Option.bind (q24_ ((),y.1,())) fun y=>Option.bind (qw_ (y.1,b,())) fun y=>if (!y.1)=true then Option.none else Option.none else if eqi y 3=true then Option.bind (q4i_ ((),b,())) fun y=>Option.bind (q47_ ((),y.1,y.2.1,y.2.2.1,y.2.2.2.1,y.2.2.2.2.1,y.2.2.2.2.2.1,())) fun y_1=>if (!y_1.1)=true then Option.none else Option.bind (q4a_ ((),y.1,y.2.1,y.2.2.1,y.2.2.2.1,y.2.2.2.2.1,y_1.2.1,())) fun y_2=>Option.bind (qw_ (y_2.1,b,())) fun y_3=>if (!y_3.1)=true then Option.none else some (y.1,y.2.1,y.2.2.1,y.2.2.2.1,y.2.2.2.2.1,0,y_2.2.1,()) else if eqi y 4=true then Option.bind (q4i_ ((),b,())) fun y=>Option.bind (q47_ ((),y.1,y.2.1,y.2.2.1,y.2.2.2.1,y.2.2.2.2.1,y.2.2.2.2.2.1,())) fun y_1=>if (!y_1.1)=true then Option.none else Option.bind (q4a_ ((),y.1,y.2.1,y.2.2.1,y.2.2.2.1,y.2.2.2.2.1,y_1.2.1,())) fun y_2=>Option.bind (qw_ (y_2.1,b,())) fun y_3=>if (!y_3.1)=true then Option.none else some (y.1,y.2.1,y.2.2.1,y.2.2.2.1,y.2.2.2.2.1,0,y_2.2.1,()) else if eqi y 23=true then Option.bind (q4i_ ((),b,())) fun y=>Option.bind (q47_ ((),y.1,y.2.1,y.2.2.1,y.2.2.2.1,y.2.2.2.2.1,y.2.2.2.2.2.1,())) fun y_1=>if (!y_1.1)=true then Option.none else Option.bind (q4a_ ((),y.1,y.2.1,y.2.2.1,y.2.2.2.1,y.2.2.2.2.1,y_1.2.1,())) fun y_2=>Option.bind (qw_ (y_2.1,b,())) fun y_3=>if (!y_3.1)=true then Option.none else some (y.1,y.2.1,y.2.2.1,y.2.2.2.1,y.2.2.2.2.1,0,y_2.2.1,()) else if eqi y 5=true then Option.bind (q9b_ ((),b,())) fun y=>Option.bind (q3n_ ((),y.1,())) fun y_1=>if (!y_1.1)=true then Option.none else Option.bind (q3q_ ((),y.1,())) fun y=>Option.bind (qw_ (y.1,b,())) fun y=>if (!y.1)=true then Option.none else Option.none else if eqi y 6=true then Option.bind (q8r_ ((),b,())) fun y=>Option.bind (q3g_ ((),y.1,())) fun y_1=>if (!y_1.1)=true then Option.none else Option.bind (q4b_ ((),y.1,())) fun y=>Option.bind (qw_ (y.1,b,())) fun y=>if (!y.1)=true then Option.none else Option.none else if eqi y 15=true then Option.bind (q5u_ (1968,b,())) fun y=>Option.bind (q1x_ (1968,y.1,())) fun y_1=>if (!y_1.1)=true then Option.none else Option.bind (q2t_ (1968,y.1,())) fun y=>Option.bind (qw_ (y.1,b,())) fun y=>if (!y.1)=true then Option.none else Option.none else if eqi y 16=true then Option.bind (q5u_ (123,b,())) fun y=>Option.bind (q1x_ (123,y.1,())) fun y_1=>if (!y_1.1)=true then Option.none else Option.bind (q2t_ (123,y.1,())) fun y=>Option.bind (qw_ (y.1,b,())) fun y=>if (!y.1)=true then Option.none else Option.none else Option.none else Option.bind (q7b_ ((),b,())) fun y=>Option.bind (q2q_ ((),y.1,())) fun y_1=>if (!y_1.1)=true then Option.none else Option.bind (q3h_ ((),y.1,())) fun y=>Option.bind (qw_ (y.1,b,())) fun y=>if (!y.1)=true then Option.none else Option.none
def qfu_ (j1:List Int->Bool->Int->Int->Int->Int->Option (As [.int .u8,.int .u8,.sl .bool,.int .u16,.int .u16,.int .i64,.sl (.int .u16)])) (b:List Int):Option (As [.int .u8,.int .u8,.sl .bool,.int .u16,.int .u16,.int .i64,.sl (.int .u16)]) :=
 if lt (Int.ofNat (List.length b)) 2=true then j1 b true 0 0 0 0 else j1 b (gt (Int.ofNat (List.length b)) 253) 0 0 0 0
def qfs_ (b:List Int) (t15:Bool) (t2 t2_2 t2_3 t2_4:Int):Option (As [.int .u8,.int .u8,.sl .bool,.int .u16,.int .u16,.int .i64,.sl (.int .u16)]):=qf3_ b t15 t2 t2_2 t2_3 t2_4
def q45_ (x:As [.sl (.int .u8)]):Option (As [.int .u8,.int .u8,.sl .bool,.int .u16,.int .u16,.int .i64,.sl (.int .u16)]):=qfu_ qfs_ x.1
theorem qzi_  (J b t15 t2 t2_2 t2_3 t2_4):pfn Tryz.prog qcm_ 6 18446744073709551616 (Ev.get qcb_) 15 q7h_ J 6 [] (qfj_ b t15 t2 t2_2 t2_3 t2_4)=qf3_ b t15 t2 t2_2 t2_3 t2_4:=by kernel_rfl
theorem qzb_ (J:Orc (As [.int .u8,.int .u8,.sl .bool,.int .u16,.int .u16,.int .i64,.sl (.int .u16)])) (x:As [.sl (.int .u8)]):rfn Tryz.prog qcm_ 6 18446744073709551616 (Ev.get qcb_) 15 q7h_ J x=qfu_ (fun b t15 t2 t2_2 t2_3 t2_4=>J 6 [] (qfj_ b t15 t2 t2_2 t2_3 t2_4)) x.1:=by kernel_rfl
theorem qzc_  (b t15 t2 t2_2 t2_3 t2_4):jfn Tryz.prog qcm_ 6 18446744073709551616 (Ev.get qcb_) 15 q7h_ 6 [] (qfj_ b t15 t2 t2_2 t2_3 t2_4)=qfs_ b t15 t2 t2_2 t2_3 t2_4:=by
 rw [q6_ (by decide)]
 rw [qzi_]
 rfl
theorem q114_ (x:As [.sl (.int .u8)]):evT Tryz.prog qcm_ 6 18446744073709551616 (Ev.get qcb_) 15 q7h_ x=q45_ x:=by
 have e1:(fun b t15 t2 t2_2 t2_3 t2_4=>(jfn Tryz.prog qcm_ 6 18446744073709551616 (Ev.get qcb_) 15 q7h_) 6 [] (qfj_ b t15 t2 t2_2 t2_3 t2_4))=qfs_:=by funext b t15 t2 t2_2 t2_3 t2_4; exact qzc_ b t15 t2 t2_2 t2_3 t2_4
 rw [qi_,qzb_,e1]
 rfl
theorem qyv_:CtOk Tryz.prog (fun _=>True) 15 ⟨q7h_,q45_⟩:=qc_ (q0_ qot_ (q0_ qjg_ (q0_ qbe_ (q0_ qao_ (q0_ qlw_ (q0_ qcz_ (q0_ qcv_ (q0_ qs8_ (q0_ qr4_ (q0_ qrj_ (q0_ qmp_ (q0_ qed_ (q0_ qe2_ (q0_ qlz_ (q0_ qd6_ (q0_ qcx_ (q0_ qog_ (q0_ qff_ (q0_ qfw_ q3_))))))))))))))))))) q114_
end Go.Proofs.Lx
end
section
open Go Go.Proofs Ev Sx
set_option maxRecDepth 100000
namespace Go.Proofs.Lx
abbrev YJT4:Type:=(List Int×(Int×Int)×Int×Int×Int×(Int×List Bool×List (Int×List Int))×Int)
abbrev YJT0:Type:=(Int×Int×YJT4×List Bool)
abbrev YJT5:Type:=(Int×Int×Int×Int×List Int×List Bool)
abbrev YJT1:Type:=(Int×List Int×YJT5×Int×Int×Int×Int×Int)
abbrev YJT2:Ty:=(.pr (.int .u8) (.pr (.int .u8) (.pr (.pr (.sl (.int .u16)) (.pr (.pr (.int .u16) (.int .i64)) (.pr (.int .u8) (.pr (.int .u32) (.pr (.int .u32) (.pr (.pr (.int .u32) (.pr (.ar 8 .bool) (.ar 8 (.pr (.int .i64) (.sl (.int .u16)))))) (.int .i64))))))) (.sl .bool))))
abbrev YJT3:Ty:=(.pr (.int .u8) (.pr (.sl (.int .u8)) (.pr (.pr (.int .u8) (.pr (.int .u16) (.pr (.int .u16) (.pr (.int .u16) (.pr (.sl (.int .u16)) (.sl .bool)))))) (.pr (.int .u16) (.pr (.int .u8) (.pr (.int .u32) (.pr (.int .u16) (.int .u32))))))))
abbrev YsCq0:Type:=Int×List Int×YJT5×Int×Int×Int×Int×Int
@[reducible] def q9_:Sh:=⟨[.d (.int .u8),.d (.sl (.int .u16)),.d (.int .u8),.d (.sl YJT3)],[],[.int .u8,.sl (.int .u16),.int .u8,.sl YJT3],[.d (.bool)],[],0,[.bool]⟩
def qa_:Env:=(cts [(9,(⟨quu_,qk8_⟩:Ct)),(10,(⟨qv7_,q88_⟩:Ct)),(13,(⟨q1y_,q3f_⟩:Ct)),(14,(⟨qc0_,q25_⟩:Ct)),(15,(⟨q7h_,q45_⟩:Ct)),(20,(⟨q9w_,qa1_⟩:Ct)),(22,(⟨q48_,qht_⟩:Ct)),(24,(⟨q4p_,q89_⟩:Ct)),(25,(⟨qsp_,qc2_⟩:Ct))])
def qb_:List (Nat×Hint):=[(506,⟨[],[9,11,52,53,54,80,81,82,83,84,85,105,106,107,110,111,112,113,114,115,147,148,149,150,153,154,155,156,157,158,159,162,163,164]⟩),(32409,⟨[],[9,11,13,14,15,52,53,54,80,81,82,83,84,85,105,106,107,110,111,112,113,114,115,147,148,149,150,153,154,155,156,157,158,159,162,163,164]⟩),(129639,⟨[],[9,11,13,14,15,16,52,53,54,80,81,82,83,84,85,105,106,107,110,111,112,113,114,115,147,148,149,150,153,154,155,156,157,158,159,162,163,164]⟩),(8296959,⟨[],[9,11,14,15,24,25,52,53,54,80,81,82,83,84,85,105,106,107,110,111,112,113,114,115,147,148,149,150,153,154,155,156,157,158,159,162,163,164]⟩),(16593919,⟨[.agd 149 (.int .u8),.agd 150 .bool,.agd 155 (.int .u32),.agd 158 (.int .u32),.agd 159 .bool,.agd 162 (.sl (.int .u8)),.agd 163 (.int .i64),.agd 164 .bool],[9,11,52,53,54,165]⟩),(66375674,⟨[],[9,11,14,15,24,25,52,53,54,80,81,82,83,84,85,105,106,107,110,111,112,113,114,115,128,129,130,147,148,149,150,153,154,155,156,157,158,159,162,163,164]⟩),(4148478,⟨[.frz 25,.agd 106 (.int .i64),.agd 107 .bool,.agd 110 (.sl (.int .u16)),.agd 113 (.sl (.int .u16)),.agd 114 .bool,.agd 115 .bool],[9,11,14,15,16,24,25,52,53,54,116]⟩),(1037114,⟨[.row 16 30],[9,11,13,14,15,16,52,53,54,61]⟩),(132750643,⟨[.agd 80 (.int .i64),.agd 85 .bool],[9,11,13,14,15,16,21,52,53,54,61,86]⟩),(30,⟨[],[3,9,10,46,49,80,81,82,83,84,85,105,106,107,110,111,112,113,114,115,147,148,149,150,153,154,155,156,157,158,159,162,163,164]⟩)]
def qca_ (l:List YJT1) (s:Int) (ok t46:Bool) (s_2:List YJT0):St:={ fr:=[(3,.d (.sl YJT3) l),(9,.prw 0 s 35 0),(10,.d .bool ok),(46,.d .bool t46)],nt:=168,up:=[],own:=[(0,.row YJT2 38 s_2)],nx:=1,log:=[],ln:=0 }
def qd_ (s read:Int) (t52:List YJT1) (t53 t54:Int) (s_2:List YJT0):St:={ fr:=[(9,.prw 0 s 35 0),(11,.fn (.func 23) [] [.prw 0 read 35 0]),(52,.d (.sl YJT3) t52),(53,.d (.int .i64) t53),(54,.d (.int .i64) t54)],nt:=168,up:=[],own:=[(0,.row YJT2 38 s_2)],nx:=1,log:=[],ln:=0 }
def qcj_ (s read before:Int) (t52:List YJT1) (t53 t54:Int) (s_2:List YJT0) (o:YsCq0) (was:List Int) (before_2:List YJT0):St:={ fr:=[(9,.prw 0 s 35 0),(11,.fn (.func 23) [] [.prw 0 read 35 0]),(13,.pb 1 0),(14,.row 2),(15,.prw 3 before 35 0),(52,.d (.sl YJT3) t52),(53,.d (.int .i64) t53),(54,.d (.int .i64) t54)],nt:=168,up:=[],own:=[(0,.row YJT2 38 s_2),(1,.box 72 [.d (.int .u8) o.1,.d (.sl (.int .u8)) o.2.1,.d (.int .u8) o.2.2.1.1,.d (.int .u16) o.2.2.1.2.1,.d (.int .u16) o.2.2.1.2.2.1,.d (.int .u16) o.2.2.1.2.2.2.1,.d (.sl (.int .u16)) o.2.2.1.2.2.2.2.1,.d (.sl .bool) o.2.2.1.2.2.2.2.2,.d (.int .u16) o.2.2.2.1,.d (.int .u8) o.2.2.2.2.1,.d (.int .u32) o.2.2.2.2.2.1,.d (.int .u16) o.2.2.2.2.2.2.1,.d (.int .u32) o.2.2.2.2.2.2.2]),(2,.row (.int .u16) 23 was),(3,.row YJT2 38 before_2)],nx:=4,log:=[],ln:=0 }
def q34_ (s read before:Int) (t52:List YJT1) (t53 t54 t61:Int) (s_2:List YJT0) (o:YsCq0) (was:List Int) (before_2:List YJT0) (blocks:List (Int×List Int)):St:={ fr:=[(9,.prw 0 s 35 0),(11,.fn (.func 23) [] [.prw 0 read 35 0]),(13,.pb 1 0),(14,.row 2),(15,.prw 3 before 35 0),(16,.row 4),(52,.d (.sl YJT3) t52),(53,.d (.int .i64) t53),(54,.d (.int .i64) t54),(61,.d (.int .i64) t61)],nt:=168,up:=[],own:=[(0,.row YJT2 38 s_2),(1,.box 72 [.d (.int .u8) o.1,.d (.sl (.int .u8)) o.2.1,.d (.int .u8) o.2.2.1.1,.d (.int .u16) o.2.2.1.2.1,.d (.int .u16) o.2.2.1.2.2.1,.d (.int .u16) o.2.2.1.2.2.2.1,.d (.sl (.int .u16)) o.2.2.1.2.2.2.2.1,.d (.sl .bool) o.2.2.1.2.2.2.2.2,.d (.int .u16) o.2.2.2.1,.d (.int .u8) o.2.2.2.2.1,.d (.int .u32) o.2.2.2.2.2.1,.d (.int .u16) o.2.2.2.2.2.2.1,.d (.int .u32) o.2.2.2.2.2.2.2]),(2,.row (.int .u16) 23 was),(3,.row YJT2 38 before_2),(4,.row (.pr (.int .i64) (.sl (.int .u16))) 30 blocks)],nx:=5,log:=[],ln:=0 }
def qco_ (s read before:Int) (t52:List YJT1) (t53 t54 t61:Int) (t86:Bool) (s_2:List YJT0) (o:YsCq0) (was:List Int) (before_2:List YJT0) (blocks:List (Int×List Int)) (x:Int×List Int):St:={ fr:=[(9,.prw 0 s 35 0),(11,.fn (.func 23) [] [.prw 0 read 35 0]),(13,.pb 1 0),(14,.row 2),(15,.prw 3 before 35 0),(16,.row 4),(21,.pb 5 0),(52,.d (.sl YJT3) t52),(53,.d (.int .i64) t53),(54,.d (.int .i64) t54),(61,.d (.int .i64) t61),(86,.d .bool t86)],nt:=168,up:=[],own:=[(0,.row YJT2 38 s_2),(1,.box 72 [.d (.int .u8) o.1,.d (.sl (.int .u8)) o.2.1,.d (.int .u8) o.2.2.1.1,.d (.int .u16) o.2.2.1.2.1,.d (.int .u16) o.2.2.1.2.2.1,.d (.int .u16) o.2.2.1.2.2.2.1,.d (.sl (.int .u16)) o.2.2.1.2.2.2.2.1,.d (.sl .bool) o.2.2.1.2.2.2.2.2,.d (.int .u16) o.2.2.2.1,.d (.int .u8) o.2.2.2.2.1,.d (.int .u32) o.2.2.2.2.2.1,.d (.int .u16) o.2.2.2.2.2.2.1,.d (.int .u32) o.2.2.2.2.2.2.2]),(2,.row (.int .u16) 23 was),(3,.row YJT2 38 before_2),(4,.row (.pr (.int .i64) (.sl (.int .u16))) 30 blocks),(5,.box 30 [.d (.int .i64) x.1,.d (.sl (.int .u16)) x.2])],nx:=6,log:=[],ln:=0 }
def qcq_ (s read before:Int) (t52:List YJT1) (t53 t54:Int) (s_2:List YJT0) (o:YsCq0) (was:List Int) (before_2:List YJT0) (blocks:List (Int×List Int)):St:={ fr:=[(9,.prw 0 s 35 0),(11,.fn (.func 23) [] [.prw 0 read 35 0]),(13,.pb 1 0),(14,.row 2),(15,.prw 3 before 35 0),(16,.row 4),(52,.d (.sl YJT3) t52),(53,.d (.int .i64) t53),(54,.d (.int .i64) t54)],nt:=168,up:=[],own:=[(0,.row YJT2 38 s_2),(1,.box 72 [.d (.int .u8) o.1,.d (.sl (.int .u8)) o.2.1,.d (.int .u8) o.2.2.1.1,.d (.int .u16) o.2.2.1.2.1,.d (.int .u16) o.2.2.1.2.2.1,.d (.int .u16) o.2.2.1.2.2.2.1,.d (.sl (.int .u16)) o.2.2.1.2.2.2.2.1,.d (.sl .bool) o.2.2.1.2.2.2.2.2,.d (.int .u16) o.2.2.2.1,.d (.int .u8) o.2.2.2.2.1,.d (.int .u32) o.2.2.2.2.2.1,.d (.int .u16) o.2.2.2.2.2.2.1,.d (.int .u32) o.2.2.2.2.2.2.2]),(2,.row (.int .u16) 23 was),(3,.row YJT2 38 before_2),(4,.row (.pr (.int .i64) (.sl (.int .u16))) 30 blocks)],nx:=5,log:=[],ln:=0 }
def qci_ (s read before:Int) (out now:List Int) (t52:List YJT1) (t53 t54:Int) (t116:Bool) (s_2:List YJT0) (was:List Int) (before_2:List YJT0) (blocks:List (Int×List Int)):St:={ fr:=[(9,.prw 0 s 35 0),(11,.fn (.func 23) [] [.prw 0 read 35 0]),(14,.row 1),(15,.prw 2 before 35 0),(16,.row 3),(24,.d (.sl (.int .u8)) out),(25,.d (.sl (.int .u16)) now),(52,.d (.sl YJT3) t52),(53,.d (.int .i64) t53),(54,.d (.int .i64) t54),(116,.d .bool t116)],nt:=168,up:=[],own:=[(0,.row YJT2 38 s_2),(1,.row (.int .u16) 23 was),(2,.row YJT2 38 before_2),(3,.row (.pr (.int .i64) (.sl (.int .u16))) 30 blocks)],nx:=4,log:=[],ln:=0 }
def q6a_ (s read before:Int) (out now:List Int) (t52:List YJT1) (t53 t54 t129 t130:Int) (s_2:List YJT0) (was:List Int) (before_2:List YJT0) (t128:List (Int×List Int)):St:={ fr:=[(9,.prw 0 s 35 0),(11,.fn (.func 23) [] [.prw 0 read 35 0]),(14,.row 1),(15,.prw 2 before 35 0),(24,.d (.sl (.int .u8)) out),(25,.d (.sl (.int .u16)) now),(52,.d (.sl YJT3) t52),(53,.d (.int .i64) t53),(54,.d (.int .i64) t54),(128,.row 3),(129,.d (.int .i64) t129),(130,.d (.int .i64) t130)],nt:=168,up:=[],own:=[(0,.row YJT2 38 s_2),(1,.row (.int .u16) 23 was),(2,.row YJT2 38 before_2),(3,.row (.pr (.int .i64) (.sl (.int .u16))) 30 t128)],nx:=4,log:=[],ln:=0 }
def qc6_ (s read before:Int) (out now:List Int) (t52:List YJT1) (t53 t54:Int) (s_2:List YJT0) (was:List Int) (before_2:List YJT0):St:={ fr:=[(9,.prw 0 s 35 0),(11,.fn (.func 23) [] [.prw 0 read 35 0]),(14,.row 1),(15,.prw 2 before 35 0),(24,.d (.sl (.int .u8)) out),(25,.d (.sl (.int .u16)) now),(52,.d (.sl YJT3) t52),(53,.d (.int .i64) t53),(54,.d (.int .i64) t54)],nt:=168,up:=[],own:=[(0,.row YJT2 38 s_2),(1,.row (.int .u16) 23 was),(2,.row YJT2 38 before_2)],nx:=3,log:=[],ln:=0 }
def qbf_ (s read:Int) (t52:List YJT1) (t53 t54:Int) (t165:Bool) (s_2:List YJT0):St:={ fr:=[(9,.prw 0 s 35 0),(11,.fn (.func 23) [] [.prw 0 read 35 0]),(52,.d (.sl YJT3) t52),(53,.d (.int .i64) t53),(54,.d (.int .i64) t54),(165,.d .bool t165)],nt:=168,up:=[],own:=[(0,.row YJT2 38 s_2)],nx:=1,log:=[],ln:=0 }
def qqc_ (j2:Int->Int->List YJT1->Int->Int->List YJT0->Option (As [.bool])) (l:List YJT1) (s:Int) (ok t46:Bool) (s_2:List YJT0):Option (As [.bool]) :=
 if t46=true then if ok=true then Option.bind (q88_ ()) fun y=>some (y.1,()) else some (false,()) else j2 s s l (Int.ofNat (List.length l)) 0 s_2
def q65_ (j3:Int->Int->Int->List YJT1->Int->Int->List YJT0->YsCq0->List Int->List YJT0->Option (As [.bool])) (self2:Int->Int->List YJT1->Int->Int->List YJT0->Option (As [.bool])) (s read:Int) (t52:List YJT1) (t53 t54:Int) (s_2:List YJT0):Option (As [.bool]) :=
 if lt t54 t53=true then Option.bind (at? t52 t54) fun y=>Option.bind (at? s_2 s) fun y_1=>amb (eqAs q9_.rs) [Option.bind (q3f_ ((3,0,64,0,[],[]),())) fun y_2=>Option.bind (at? s_2 read) fun y_3=>Option.bind (q25_ (y_3,y_2.1,())) fun y_4=>Option.bind (q45_ (y_4.2.1,())) fun y_5=>j3 s read 0 t52 t53 t54 s_2 y y_5.2.2.2.2.2.2.1 [y_1],Option.bind (q3f_ ((3,0,64,0,[],[]),())) fun y_2=>Option.bind (at? s_2 read) fun y_3=>Option.bind (q25_ (y_3,y_2.1,())) fun y_4=>Option.bind (q45_ (y_4.2.1,())) fun y_5=>j3 s read 0 t52 t53 t54 s_2 y y_5.2.2.2.2.2.2.1 [y_1]] else Option.bind (q88_ ()) fun y=>some (y.1,())
def qq1_ (j4:Int->Int->Int->List YJT1->Int->Int->Int->List YJT0->YsCq0->List Int->List YJT0->List (Int×List Int)->Option (As [.bool])) (self2:Int->Int->List YJT1->Int->Int->List YJT0->Option (As [.bool])) (s read before:Int) (t52:List YJT1) (t53 t54:Int) (s_2:List YJT0) (o:YsCq0) (was:List Int) (before_2:List YJT0):Option (As [.bool]) :=
 j4 s read before t52 t53 t54 0 s_2 o was before_2 []
def q6h_ (j5:Int->Int->Int->List YJT1->Int->Int->Int->Bool->List YJT0->YsCq0->List Int->List YJT0->List (Int×List Int)->Int×List Int->Option (As [.bool])) (j6:Int->Int->Int->List YJT1->Int->Int->List YJT0->YsCq0->List Int->List YJT0->List (Int×List Int)->Option (As [.bool])) (self2:Int->Int->List YJT1->Int->Int->List YJT0->Option (As [.bool])) (self4:Int->Int->Int->List YJT1->Int->Int->Int->List YJT0->YsCq0->List Int->List YJT0->List (Int×List Int)->Option (As [.bool])) (s read before:Int) (t52:List YJT1) (t53 t54 t61:Int) (s_2:List YJT0) (o:YsCq0) (was:List Int) (before_2:List YJT0) (blocks:List (Int×List Int)):Option (As [.bool]) :=
 if lt t61 8=true then Option.bind (q3f_ ((3,cvt .u16 (add .i64 512 (mul .i64 t61 32)),20,0,[],[]),())) fun y=>Option.bind (at? s_2 read) fun y_1=>Option.bind (q25_ (y_1,y.1,())) fun y=>Option.bind (q45_ (y.2.1,())) fun y=>Option.bind (q89_ (y.2.2.2.2.2.2.1,())) fun y=>if eqi y.2.2.2.2.1 0=true then need (ge t61 0) (need (lt t61 8) (Option.bind (at? before_2 before) fun y_2=>Option.bind (at? y_2.2.2.1.2.2.2.2.2.1.2.1 t61) fun z=>j5 s read before t52 t53 t54 t61 z s_2 o was before_2 blocks y.2.2.2.1)) else j5 s read before t52 t53 t54 t61 false s_2 o was before_2 blocks y.2.2.2.1 else j6 s read before t52 t53 t54 s_2 o was before_2 blocks
def q6l_ (self2:Int->Int->List YJT1->Int->Int->List YJT0->Option (As [.bool])) (self4:Int->Int->Int->List YJT1->Int->Int->Int->List YJT0->YsCq0->List Int->List YJT0->List (Int×List Int)->Option (As [.bool])) (s read before:Int) (t52:List YJT1) (t53 t54 t61:Int) (t86:Bool) (s_2:List YJT0) (o:YsCq0) (was:List Int) (before_2:List YJT0) (blocks:List (Int×List Int)) (x:Int×List Int):Option (As [.bool]) :=
 if t86=true then need (small (List.length blocks + Nat.succ 0)) (self4 s read before t52 t53 t54 (add .i64 t61 1) s_2 o was before_2 (blocks++[x])) else self4 s read before t52 t53 t54 (add .i64 t61 1) s_2 o was before_2 blocks
def qc7_ (j7:Int->Int->Int->List Int->List Int->List YJT1->Int->Int->Bool->List YJT0->List Int->List YJT0->List (Int×List Int)->Option (As [.bool])) (self2:Int->Int->List YJT1->Int->Int->List YJT0->Option (As [.bool])) (s read before:Int) (t52:List YJT1) (t53 t54:Int) (s_2:List YJT0) (o:YsCq0) (was:List Int) (before_2:List YJT0) (blocks:List (Int×List Int)):Option (As [.bool]) :=
 Option.bind (at? s_2 s) fun y=>Option.bind (qc2_ (o,y,())) fun y=>Option.bind (at? s_2 s) fun x=>Option.bind (q3f_ ((3,0,64,0,[],[]),())) fun y_1=>Option.bind (at? (List.set s_2 (Int.toNat s) y.1) read) fun y_2=>Option.bind (q25_ (y_2,y_1.1,())) fun y_3=>Option.bind (q45_ (y_3.2.1,())) fun y_4=>if nei (Int.ofNat (List.length was)) 64=true then j7 s read before y.2.1 y_4.2.2.2.2.2.2.1 t52 t53 t54 true (List.set s_2 (Int.toNat s) y.1) was before_2 blocks else if nei (Int.ofNat (List.length y_4.2.2.2.2.2.2.1)) 64=true then j7 s read before y.2.1 y_4.2.2.2.2.2.2.1 t52 t53 t54 true (List.set s_2 (Int.toNat s) y.1) was before_2 blocks else Option.bind (at? (List.set s_2 (Int.toNat s) y.1) s) fun y_5=>Option.bind (qa1_ (y_4.2.2.2.2.2.2.1,y_5.2.2.1.1,())) fun y_6=>j7 s read before y.2.1 y_4.2.2.2.2.2.2.1 t52 t53 t54 (!y_6.1) (List.set s_2 (Int.toNat s) y.1) was before_2 blocks
def q6g_ (j8:Int->Int->Int->List Int->List Int->List YJT1->Int->Int->Int->Int->List YJT0->List Int->List YJT0->List (Int×List Int)->Option (As [.bool])) (self2:Int->Int->List YJT1->Int->Int->List YJT0->Option (As [.bool])) (s read before:Int) (out now:List Int) (t52:List YJT1) (t53 t54:Int) (t116:Bool) (s_2:List YJT0) (was:List Int) (before_2:List YJT0) (blocks:List (Int×List Int)):Option (As [.bool]) :=
 if t116=true then some (false,()) else Option.bind (at? s_2 s) fun y=>Option.bind (at? before_2 before) fun y_1=>if eqi y.2.2.1.2.2.2.2.1 y_1.2.2.1.2.2.2.2.1=true then Option.bind (qa1_ (was,now,())) fun y=>if (!y.1)=true then some (false,()) else self2 s read t52 t53 (add .i64 t54 1) s_2 else j8 s read before out now t52 t53 t54 (Int.ofNat (List.length blocks)) 0 s_2 was before_2 blocks
def q67_ (j9:Int->Int->Int->List Int->List Int->List YJT1->Int->Int->List YJT0->List Int->List YJT0->Option (As [.bool])) (self2:Int->Int->List YJT1->Int->Int->List YJT0->Option (As [.bool])) (self8:Int->Int->Int->List Int->List Int->List YJT1->Int->Int->Int->Int->List YJT0->List Int->List YJT0->List (Int×List Int)->Option (As [.bool])) (s read before:Int) (out now:List Int) (t52:List YJT1) (t53 t54 t129 t130:Int) (s_2:List YJT0) (was:List Int) (before_2:List YJT0) (t128:List (Int×List Int)):Option (As [.bool]) :=
 if lt t130 t129=true then Option.bind (at? t128 t130) fun x=>Option.bind (at? t128 t130) fun y=>need (ge y.1 0) (need (le y.1 (Int.ofNat (List.length was))) (need (le (Int.ofNat (List.length was)) (Int.ofNat (List.length was))) (need (le (y.1 + (Int.ofNat (List.length was) - y.1)) (Int.ofNat (List.length was))) (self8 s read before out now t52 t53 t54 t129 (add .i64 t130 1) s_2 (List.take (Int.toNat y.1) was++List.take (Int.toNat (Int.ofNat (List.length was) - y.1)) y.2++List.drop (Int.toNat y.1 + List.length (List.take (Int.toNat (Int.ofNat (List.length was) - y.1)) y.2)) was) before_2 t128)))) else j9 s read before out now t52 t53 t54 s_2 was before_2
def qcc_ (j10:Int->Int->List YJT1->Int->Int->Bool->List YJT0->Option (As [.bool])) (self2:Int->Int->List YJT1->Int->Int->List YJT0->Option (As [.bool])) (s read before:Int) (out now:List Int) (t52:List YJT1) (t53 t54:Int) (s_2:List YJT0) (was:List Int) (before_2:List YJT0):Option (As [.bool]) :=
 Option.bind (qa1_ (was,now,())) fun y=>if (!y.1)=true then j10 s read t52 t53 t54 true s_2 else Option.bind (at? before_2 before) fun y=>if nei y.2.2.1.2.2.1 2=true then j10 s read t52 t53 t54 true s_2 else Option.bind (at? s_2 s) fun y=>Option.bind (at? before_2 before) fun y_1=>if nei y.2.2.1.2.2.2.2.1 y_1.2.2.1.2.2.2.1=true then j10 s read t52 t53 t54 true s_2 else j10 s read t52 t53 t54 (eqi (Int.ofNat (List.length out)) 0) s_2
def qbg_ (self2:Int->Int->List YJT1->Int->Int->List YJT0->Option (As [.bool])) (s read:Int) (t52:List YJT1) (t53 t54:Int) (t165:Bool) (s_2:List YJT0):Option (As [.bool]) :=
 if t165=true then some (false,()) else self2 s read t52 t53 (add .i64 t54 1) s_2
def qcr_ (j1:List YJT1->Int->Bool->Bool->List YJT0->Option (As [.bool])) (link:Int) (b:List Int) (ticks:Int) (l:List YJT1):Option (As [.bool]) :=
 Option.bind (qk8_ (link,b,ticks,())) fun y=>Option.bind (cut l 0 (if lt 60 (Int.ofNat (List.length l))=true then 60 else Int.ofNat (List.length l))) fun y_1=>if (!y.2.1)=true then j1 y_1 0 y.2.1 true [y.1] else Option.bind (qht_ (y_1,60,())) fun y_2=>j1 y_1 0 y.2.1 (!y_2.1) [y.1]
def q8k_ (u2:Int->Int->List YJT1->Int->Int->List YJT0->Option (As [.bool])) (u4:Int->Int->Int->List YJT1->Int->Int->Int->List YJT0->YsCq0->List Int->List YJT0->List (Int×List Int)->Option (As [.bool])) (s read before:Int) (t52:List YJT1) (t53 t54 t61:Int) (t86:Bool) (s_2:List YJT0) (o:YsCq0) (was:List Int) (before_2:List YJT0) (blocks:List (Int×List Int)) (x:Int×List Int):Option (As [.bool]):=q6l_ u2 u4 s read before t52 t53 t54 t61 t86 s_2 o was before_2 blocks x
def qbh_ (u2:Int->Int->List YJT1->Int->Int->List YJT0->Option (As [.bool])) (s read:Int) (t52:List YJT1) (t53 t54:Int) (t165:Bool) (s_2:List YJT0):Option (As [.bool]):=qbg_ u2 s read t52 t53 t54 t165 s_2
def q6c_ (u2:Int->Int->List YJT1->Int->Int->List YJT0->Option (As [.bool])) (s read before:Int) (out now:List Int) (t52:List YJT1) (t53 t54:Int) (s_2:List YJT0) (was:List Int) (before_2:List YJT0):Option (As [.bool]):=qcc_ (qbh_ u2) u2 s read before out now t52 t53 t54 s_2 was before_2
def q6e_ (u2:Int->Int->List YJT1->Int->Int->List YJT0->Option (As [.bool])) (s read before:Int) (out now:List Int) (t52:List YJT1) (t53 t54 t129 t130:Int) (s_2:List YJT0) (was:List Int) (before_2:List YJT0) (t128:List (Int×List Int)):Option (As [.bool]) :=
 loopF (fun (self:(Int)×(Int)×(Int)×(List Int)×(List Int)×(List YJT1)×(Int)×(Int)×(Int)×(Int)×(List YJT0)×(List Int)×(List YJT0)×(List (Int×List Int))->Option (As [.bool])) (s:(Int)×(Int)×(Int)×(List Int)×(List Int)×(List YJT1)×(Int)×(Int)×(Int)×(Int)×(List YJT0)×(List Int)×(List YJT0)×(List (Int×List Int)))=>q67_ (q6c_ u2) u2 (fun s read before out now t52 t53 t54 t129 t130 s_2 was before_2 t128=>self (s,read,before,out,now,t52,t53,t54,t129,t130,s_2,was,before_2,t128)) s.1 s.2.1 s.2.2.1 s.2.2.2.1 s.2.2.2.2.1 s.2.2.2.2.2.1 s.2.2.2.2.2.2.1 s.2.2.2.2.2.2.2.1 s.2.2.2.2.2.2.2.2.1 s.2.2.2.2.2.2.2.2.2.1 s.2.2.2.2.2.2.2.2.2.2.1 s.2.2.2.2.2.2.2.2.2.2.2.1 s.2.2.2.2.2.2.2.2.2.2.2.2.1 s.2.2.2.2.2.2.2.2.2.2.2.2.2) 18446744073709551616 (s,read,before,out,now,t52,t53,t54,t129,t130,s_2,was,before_2,t128)
def q8h_ (u2:Int->Int->List YJT1->Int->Int->List YJT0->Option (As [.bool])) (s read before:Int) (out now:List Int) (t52:List YJT1) (t53 t54:Int) (t116:Bool) (s_2:List YJT0) (was:List Int) (before_2:List YJT0) (blocks:List (Int×List Int)):Option (As [.bool]):=q6g_ (q6e_ u2) u2 s read before out now t52 t53 t54 t116 s_2 was before_2 blocks
def q6m_ (u2:Int->Int->List YJT1->Int->Int->List YJT0->Option (As [.bool])) (s read before:Int) (t52:List YJT1) (t53 t54:Int) (s_2:List YJT0) (o:YsCq0) (was:List Int) (before_2:List YJT0) (blocks:List (Int×List Int)):Option (As [.bool]):=qc7_ (q8h_ u2) u2 s read before t52 t53 t54 s_2 o was before_2 blocks
def q6j_ (u2:Int->Int->List YJT1->Int->Int->List YJT0->Option (As [.bool])) (s read before:Int) (t52:List YJT1) (t53 t54 t61:Int) (s_2:List YJT0) (o:YsCq0) (was:List Int) (before_2:List YJT0) (blocks:List (Int×List Int)):Option (As [.bool]) :=
 loopF (fun (self:(Int)×(Int)×(Int)×(List YJT1)×(Int)×(Int)×(Int)×(List YJT0)×YJT1×(List Int)×(List YJT0)×(List (Int×List Int))->Option (As [.bool])) (s:(Int)×(Int)×(Int)×(List YJT1)×(Int)×(Int)×(Int)×(List YJT0)×YJT1×(List Int)×(List YJT0)×(List (Int×List Int)))=>q6h_ (q8k_ u2 (fun s read before t52 t53 t54 t61 s_2 o was before_2 blocks=>self (s,read,before,t52,t53,t54,t61,s_2,o,was,before_2,blocks))) (q6m_ u2) u2 (fun s read before t52 t53 t54 t61 s_2 o was before_2 blocks=>self (s,read,before,t52,t53,t54,t61,s_2,o,was,before_2,blocks)) s.1 s.2.1 s.2.2.1 s.2.2.2.1 s.2.2.2.2.1 s.2.2.2.2.2.1 s.2.2.2.2.2.2.1 s.2.2.2.2.2.2.2.1 s.2.2.2.2.2.2.2.2.1 s.2.2.2.2.2.2.2.2.2.1 s.2.2.2.2.2.2.2.2.2.2.1 s.2.2.2.2.2.2.2.2.2.2.2) 18446744073709551616 (s,read,before,t52,t53,t54,t61,s_2,o,was,before_2,blocks)
def q8i_ (u2:Int->Int->List YJT1->Int->Int->List YJT0->Option (As [.bool])) (s read before:Int) (t52:List YJT1) (t53 t54:Int) (s_2:List YJT0) (o:YsCq0) (was:List Int) (before_2:List YJT0):Option (As [.bool]):=qq1_ (q6j_ u2) u2 s read before t52 t53 t54 s_2 o was before_2
def q8g_ (s read:Int) (t52:List YJT1) (t53 t54:Int) (s_2:List YJT0):Option (As [.bool]) :=
 loopF (fun (self:(Int)×(Int)×(List YJT1)×(Int)×(Int)×(List YJT0)->Option (As [.bool])) (s:(Int)×(Int)×(List YJT1)×(Int)×(Int)×(List YJT0))=>q65_ (q8i_ (fun s read t52 t53 t54 s_2=>self (s,read,t52,t53,t54,s_2))) (fun s read t52 t53 t54 s_2=>self (s,read,t52,t53,t54,s_2)) s.1 s.2.1 s.2.2.1 s.2.2.2.1 s.2.2.2.2.1 s.2.2.2.2.2) 18446744073709551616 (s,read,t52,t53,t54,s_2)
def qcd_ (l:List YJT1) (s:Int) (ok t46:Bool) (s_2:List YJT0):Option (As [.bool]):=qqc_ (q8g_) l s ok t46 s_2
def qhj_ (x:As [.int .u8,.sl (.int .u16),.int .u8,.sl YJT3]):Option (As [.bool]):=qcr_ qcd_ x.1 x.2.1 x.2.2.1 x.2.2.2.1
theorem qxf_  (J w2 w4 s read before t52 t53 t54 t61 t86 s_2 o was before_2 blocks x):pfn Tryz.prog qa_ 6 18446744073709551616 (Ev.get qb_) 4 q9_ J 132750643 [w2,w4] (qco_ s read before t52 t53 t54 t61 t86 s_2 o was before_2 blocks x)=q6l_ (fun s read t52 t53 t54 s_2=>w2 (qd_ s read t52 t53 t54 s_2)) (fun s read before t52 t53 t54 t61 s_2 o was before_2 blocks=>w4 (q34_ s read before t52 t53 t54 t61 s_2 o was before_2 blocks)) s read before t52 t53 t54 t61 t86 s_2 o was before_2 blocks x:=by kernel_rfl
theorem qvg_  (J w2 s read t52 t53 t54 t165 s_2):pfn Tryz.prog qa_ 6 18446744073709551616 (Ev.get qb_) 4 q9_ J 16593919 [w2] (qbf_ s read t52 t53 t54 t165 s_2)=qbg_ (fun s read t52 t53 t54 s_2=>w2 (qd_ s read t52 t53 t54 s_2)) s read t52 t53 t54 t165 s_2:=by kernel_rfl
theorem qwp_  (J w2 s read before out now t52 t53 t54 s_2 was before_2):pfn Tryz.prog qa_ 6 18446744073709551616 (Ev.get qb_) 4 q9_ J 8296959 [w2] (qc6_ s read before out now t52 t53 t54 s_2 was before_2)=qcc_ (fun s read t52 t53 t54 t165 s_2=>J 16593919 [w2] (qbf_ s read t52 t53 t54 t165 s_2)) (fun s read t52 t53 t54 s_2=>w2 (qd_ s read t52 t53 t54 s_2)) s read before out now t52 t53 t54 s_2 was before_2:=by kernel_rfl
theorem qxa_  (J w2 w8 s read before out now t52 t53 t54 t129 t130 s_2 was before_2 t128):pfn Tryz.prog qa_ 6 18446744073709551616 (Ev.get qb_) 4 q9_ J 66375674 [w2,w8] (q6a_ s read before out now t52 t53 t54 t129 t130 s_2 was before_2 t128)=q67_ (fun s read before out now t52 t53 t54 s_2 was before_2=>J 8296959 [w2] (qc6_ s read before out now t52 t53 t54 s_2 was before_2)) (fun s read t52 t53 t54 s_2=>w2 (qd_ s read t52 t53 t54 s_2)) (fun s read before out now t52 t53 t54 t129 t130 s_2 was before_2 t128=>w8 (q6a_ s read before out now t52 t53 t54 t129 t130 s_2 was before_2 t128)) s read before out now t52 t53 t54 t129 t130 s_2 was before_2 t128:=by kernel_rfl
theorem qx6_  (J w2 s read before out now t52 t53 t54 t116 s_2 was before_2 blocks):pfn Tryz.prog qa_ 6 18446744073709551616 (Ev.get qb_) 4 q9_ J 4148478 [w2] (qci_ s read before out now t52 t53 t54 t116 s_2 was before_2 blocks)=q6g_ (fun s read before out now t52 t53 t54 t129 t130 s_2 was before_2 t128=>J 66375674 [w2] (q6a_ s read before out now t52 t53 t54 t129 t130 s_2 was before_2 t128)) (fun s read t52 t53 t54 s_2=>w2 (qd_ s read t52 t53 t54 s_2)) s read before out now t52 t53 t54 t116 s_2 was before_2 blocks:=by kernel_rfl
theorem qxi_  (J w2 s read before t52 t53 t54 s_2 o was before_2 blocks):pfn Tryz.prog qa_ 6 18446744073709551616 (Ev.get qb_) 4 q9_ J 129639 [w2] (qcq_ s read before t52 t53 t54 s_2 o was before_2 blocks)=qc7_ (fun s read before out now t52 t53 t54 t116 s_2 was before_2 blocks=>J 4148478 [w2] (qci_ s read before out now t52 t53 t54 t116 s_2 was before_2 blocks)) (fun s read t52 t53 t54 s_2=>w2 (qd_ s read t52 t53 t54 s_2)) s read before t52 t53 t54 s_2 o was before_2 blocks:=by kernel_rfl
theorem qw3_  (J w2 w4 s read before t52 t53 t54 t61 s_2 o was before_2 blocks):pfn Tryz.prog qa_ 6 18446744073709551616 (Ev.get qb_) 4 q9_ J 1037114 [w2,w4] (q34_ s read before t52 t53 t54 t61 s_2 o was before_2 blocks)=q6h_ (fun s read before t52 t53 t54 t61 t86 s_2 o was before_2 blocks x=>J 132750643 [w2,w4] (qco_ s read before t52 t53 t54 t61 t86 s_2 o was before_2 blocks x)) (fun s read before t52 t53 t54 s_2 o was before_2 blocks=>J 129639 [w2] (qcq_ s read before t52 t53 t54 s_2 o was before_2 blocks)) (fun s read t52 t53 t54 s_2=>w2 (qd_ s read t52 t53 t54 s_2)) (fun s read before t52 t53 t54 t61 s_2 o was before_2 blocks=>w4 (q34_ s read before t52 t53 t54 t61 s_2 o was before_2 blocks)) s read before t52 t53 t54 t61 s_2 o was before_2 blocks:=by kernel_rfl
theorem qxl_  (J w2 s read before t52 t53 t54 s_2 o was before_2):pfn Tryz.prog qa_ 6 18446744073709551616 (Ev.get qb_) 4 q9_ J 32409 [w2] (qcj_ s read before t52 t53 t54 s_2 o was before_2)=qq1_ (fun s read before t52 t53 t54 t61 s_2 o was before_2 blocks=>J 1037114 [w2] (q34_ s read before t52 t53 t54 t61 s_2 o was before_2 blocks)) (fun s read t52 t53 t54 s_2=>w2 (qd_ s read t52 t53 t54 s_2)) s read before t52 t53 t54 s_2 o was before_2:=by kernel_rfl
theorem qxm_  (J w2 s read t52 t53 t54 s_2):pfn Tryz.prog qa_ 6 18446744073709551616 (Ev.get qb_) 4 q9_ J 506 [w2] (qd_ s read t52 t53 t54 s_2)=q65_ (fun s read before t52 t53 t54 s_2 o was before_2=>J 32409 [w2] (qcj_ s read before t52 t53 t54 s_2 o was before_2)) (fun s read t52 t53 t54 s_2=>w2 (qd_ s read t52 t53 t54 s_2)) s read t52 t53 t54 s_2:=by kernel_rfl
theorem qwq_  (J l s ok t46 s_2):pfn Tryz.prog qa_ 6 18446744073709551616 (Ev.get qb_) 4 q9_ J 30 [] (qca_ l s ok t46 s_2)=qqc_ (fun s read t52 t53 t54 s_2=>J 506 [] (qd_ s read t52 t53 t54 s_2)) l s ok t46 s_2:=by kernel_rfl
theorem qx8_ (J:Orc (As [.bool])) (x:As [.int .u8,.sl (.int .u16),.int .u8,.sl YJT3]):rfn Tryz.prog qa_ 6 18446744073709551616 (Ev.get qb_) 4 q9_ J x=qcr_ (fun l s ok t46 s_2=>J 30 [] (qca_ l s ok t46 s_2)) x.1 x.2.1 x.2.2.1 x.2.2.2.1:=by kernel_rfl
theorem qw6_  (w2 w4 s read before t52 t53 t54 t61 t86 s_2 o was before_2 blocks x):jfn Tryz.prog qa_ 6 18446744073709551616 (Ev.get qb_) 4 q9_ 132750643 [w2,w4] (qco_ s read before t52 t53 t54 t61 t86 s_2 o was before_2 blocks x)=q8k_ (fun s read t52 t53 t54 s_2=>w2 (qd_ s read t52 t53 t54 s_2)) (fun s read before t52 t53 t54 t61 s_2 o was before_2 blocks=>w4 (q34_ s read before t52 t53 t54 t61 s_2 o was before_2 blocks)) s read before t52 t53 t54 t61 t86 s_2 o was before_2 blocks x:=by
 rw [q6_ (by decide)]
 rw [qxf_]
 rfl
theorem qvs_  (w2 s read t52 t53 t54 t165 s_2):jfn Tryz.prog qa_ 6 18446744073709551616 (Ev.get qb_) 4 q9_ 16593919 [w2] (qbf_ s read t52 t53 t54 t165 s_2)=qbh_ (fun s read t52 t53 t54 s_2=>w2 (qd_ s read t52 t53 t54 s_2)) s read t52 t53 t54 t165 s_2:=by
 rw [q6_ (by decide)]
 rw [qvg_]
 rfl
theorem qwc_  (w2 s read before out now t52 t53 t54 s_2 was before_2):jfn Tryz.prog qa_ 6 18446744073709551616 (Ev.get qb_) 4 q9_ 8296959 [w2] (qc6_ s read before out now t52 t53 t54 s_2 was before_2)=q6c_ (fun s read t52 t53 t54 s_2=>w2 (qd_ s read t52 t53 t54 s_2)) s read before out now t52 t53 t54 s_2 was before_2:=by
 rw [q6_ (by decide)]
 have e10:(fun s read t52 t53 t54 t165 s_2=>(jfn Tryz.prog qa_ 6 18446744073709551616 (Ev.get qb_) 4 q9_) 16593919 [w2] (qbf_ s read t52 t53 t54 t165 s_2))=qbh_ (fun s read t52 t53 t54 s_2=>w2 (qd_ s read t52 t53 t54 s_2)):=by funext s read t52 t53 t54 t165 s_2; exact qvs_ w2 s read t52 t53 t54 t165 s_2
 rw [qwp_,e10]
 rfl
theorem qx5_  (w2 s read before out now t52 t53 t54 t129 t130 s_2 was before_2 t128):jfn Tryz.prog qa_ 6 18446744073709551616 (Ev.get qb_) 4 q9_ 66375674 [w2] (q6a_ s read before out now t52 t53 t54 t129 t130 s_2 was before_2 t128)=q6e_ (fun s read t52 t53 t54 s_2=>w2 (qd_ s read t52 t53 t54 s_2)) s read before out now t52 t53 t54 t129 t130 s_2 was before_2 t128:=by
 rw [q6_ (by decide)]
 rw [qn_ (by kernel_rfl)]
 refine qh_ (σ:=(Int)×(Int)×(Int)×(List Int)×(List Int)×(List YJT1)×(Int)×(Int)×(Int)×(Int)×(List YJT0)×(List Int)×(List YJT0)×(List (Int×List Int))) (mk:=fun s=>q6a_ s.1 s.2.1 s.2.2.1 s.2.2.2.1 s.2.2.2.2.1 s.2.2.2.2.2.1 s.2.2.2.2.2.2.1 s.2.2.2.2.2.2.2.1 s.2.2.2.2.2.2.2.2.1 s.2.2.2.2.2.2.2.2.2.1 s.2.2.2.2.2.2.2.2.2.2.1 s.2.2.2.2.2.2.2.2.2.2.2.1 s.2.2.2.2.2.2.2.2.2.2.2.2.1 s.2.2.2.2.2.2.2.2.2.2.2.2.2) (fun w8 s=>?_) 18446744073709551616 (s,read,before,out,now,t52,t53,t54,t129,t130,s_2,was,before_2,t128)
 have e9:(fun s read before out now t52 t53 t54 s_2 was before_2=>(jfn Tryz.prog qa_ 6 18446744073709551616 (Ev.get qb_) 4 q9_) 8296959 [w2] (qc6_ s read before out now t52 t53 t54 s_2 was before_2))=q6c_ (fun s read t52 t53 t54 s_2=>w2 (qd_ s read t52 t53 t54 s_2)):=by funext s read before out now t52 t53 t54 s_2 was before_2; exact qwc_ w2 s read before out now t52 t53 t54 s_2 was before_2
 refine (qxa_ _ w2 w8 s.1 s.2.1 s.2.2.1 s.2.2.2.1 s.2.2.2.2.1 s.2.2.2.2.2.1 s.2.2.2.2.2.2.1 s.2.2.2.2.2.2.2.1 s.2.2.2.2.2.2.2.2.1 s.2.2.2.2.2.2.2.2.2.1 s.2.2.2.2.2.2.2.2.2.2.1 s.2.2.2.2.2.2.2.2.2.2.2.1 s.2.2.2.2.2.2.2.2.2.2.2.2.1 s.2.2.2.2.2.2.2.2.2.2.2.2.2).trans ?_
 rw [e9]
theorem qvw_  (w2 s read before out now t52 t53 t54 t116 s_2 was before_2 blocks):jfn Tryz.prog qa_ 6 18446744073709551616 (Ev.get qb_) 4 q9_ 4148478 [w2] (qci_ s read before out now t52 t53 t54 t116 s_2 was before_2 blocks)=q8h_ (fun s read t52 t53 t54 s_2=>w2 (qd_ s read t52 t53 t54 s_2)) s read before out now t52 t53 t54 t116 s_2 was before_2 blocks:=by
 rw [q6_ (by decide)]
 have e8:(fun s read before out now t52 t53 t54 t129 t130 s_2 was before_2 t128=>(jfn Tryz.prog qa_ 6 18446744073709551616 (Ev.get qb_) 4 q9_) 66375674 [w2] (q6a_ s read before out now t52 t53 t54 t129 t130 s_2 was before_2 t128))=q6e_ (fun s read t52 t53 t54 s_2=>w2 (qd_ s read t52 t53 t54 s_2)):=by funext s read before out now t52 t53 t54 t129 t130 s_2 was before_2 t128; exact qx5_ w2 s read before out now t52 t53 t54 t129 t130 s_2 was before_2 t128
 rw [qx6_,e8]
 rfl
theorem qws_  (w2 s read before t52 t53 t54 s_2 o was before_2 blocks):jfn Tryz.prog qa_ 6 18446744073709551616 (Ev.get qb_) 4 q9_ 129639 [w2] (qcq_ s read before t52 t53 t54 s_2 o was before_2 blocks)=q6m_ (fun s read t52 t53 t54 s_2=>w2 (qd_ s read t52 t53 t54 s_2)) s read before t52 t53 t54 s_2 o was before_2 blocks:=by
 rw [q6_ (by decide)]
 have e7:(fun s read before out now t52 t53 t54 t116 s_2 was before_2 blocks=>(jfn Tryz.prog qa_ 6 18446744073709551616 (Ev.get qb_) 4 q9_) 4148478 [w2] (qci_ s read before out now t52 t53 t54 t116 s_2 was before_2 blocks))=q8h_ (fun s read t52 t53 t54 s_2=>w2 (qd_ s read t52 t53 t54 s_2)):=by funext s read before out now t52 t53 t54 t116 s_2 was before_2 blocks; exact qvw_ w2 s read before out now t52 t53 t54 t116 s_2 was before_2 blocks
 rw [qxi_,e7]
 rfl
theorem qw0_  (w2 s read before t52 t53 t54 t61 s_2 o was before_2 blocks):jfn Tryz.prog qa_ 6 18446744073709551616 (Ev.get qb_) 4 q9_ 1037114 [w2] (q34_ s read before t52 t53 t54 t61 s_2 o was before_2 blocks)=q6j_ (fun s read t52 t53 t54 s_2=>w2 (qd_ s read t52 t53 t54 s_2)) s read before t52 t53 t54 t61 s_2 o was before_2 blocks:=by
 rw [q6_ (by decide)]
 rw [qn_ (by kernel_rfl)]
 refine qh_ (σ:=(Int)×(Int)×(Int)×(List YJT1)×(Int)×(Int)×(Int)×(List YJT0)×YJT1×(List Int)×(List YJT0)×(List (Int×List Int))) (mk:=fun s=>q34_ s.1 s.2.1 s.2.2.1 s.2.2.2.1 s.2.2.2.2.1 s.2.2.2.2.2.1 s.2.2.2.2.2.2.1 s.2.2.2.2.2.2.2.1 s.2.2.2.2.2.2.2.2.1 s.2.2.2.2.2.2.2.2.2.1 s.2.2.2.2.2.2.2.2.2.2.1 s.2.2.2.2.2.2.2.2.2.2.2) (fun w4 s=>?_) 18446744073709551616 (s,read,before,t52,t53,t54,t61,s_2,o,was,before_2,blocks)
 have e5:(fun s read before t52 t53 t54 t61 t86 s_2 o was before_2 blocks x=>(jfn Tryz.prog qa_ 6 18446744073709551616 (Ev.get qb_) 4 q9_) 132750643 [w2,w4] (qco_ s read before t52 t53 t54 t61 t86 s_2 o was before_2 blocks x))=q8k_ (fun s read t52 t53 t54 s_2=>w2 (qd_ s read t52 t53 t54 s_2)) (fun s read before t52 t53 t54 t61 s_2 o was before_2 blocks=>w4 (q34_ s read before t52 t53 t54 t61 s_2 o was before_2 blocks)):=by funext s read before t52 t53 t54 t61 t86 s_2 o was before_2 blocks x; exact qw6_ w2 w4 s read before t52 t53 t54 t61 t86 s_2 o was before_2 blocks x
 have e6:(fun s read before t52 t53 t54 s_2 o was before_2 blocks=>(jfn Tryz.prog qa_ 6 18446744073709551616 (Ev.get qb_) 4 q9_) 129639 [w2] (qcq_ s read before t52 t53 t54 s_2 o was before_2 blocks))=q6m_ (fun s read t52 t53 t54 s_2=>w2 (qd_ s read t52 t53 t54 s_2)):=by funext s read before t52 t53 t54 s_2 o was before_2 blocks; exact qws_ w2 s read before t52 t53 t54 s_2 o was before_2 blocks
 refine (qw3_ _ w2 w4 s.1 s.2.1 s.2.2.1 s.2.2.2.1 s.2.2.2.2.1 s.2.2.2.2.2.1 s.2.2.2.2.2.2.1 s.2.2.2.2.2.2.2.1 s.2.2.2.2.2.2.2.2.1 s.2.2.2.2.2.2.2.2.2.1 s.2.2.2.2.2.2.2.2.2.2.1 s.2.2.2.2.2.2.2.2.2.2.2).trans ?_
 rw [e5,e6]
theorem qwj_  (w2 s read before t52 t53 t54 s_2 o was before_2):jfn Tryz.prog qa_ 6 18446744073709551616 (Ev.get qb_) 4 q9_ 32409 [w2] (qcj_ s read before t52 t53 t54 s_2 o was before_2)=q8i_ (fun s read t52 t53 t54 s_2=>w2 (qd_ s read t52 t53 t54 s_2)) s read before t52 t53 t54 s_2 o was before_2:=by
 rw [q6_ (by decide)]
 have e4:(fun s read before t52 t53 t54 t61 s_2 o was before_2 blocks=>(jfn Tryz.prog qa_ 6 18446744073709551616 (Ev.get qb_) 4 q9_) 1037114 [w2] (q34_ s read before t52 t53 t54 t61 s_2 o was before_2 blocks))=q6j_ (fun s read t52 t53 t54 s_2=>w2 (qd_ s read t52 t53 t54 s_2)):=by funext s read before t52 t53 t54 t61 s_2 o was before_2 blocks; exact qw0_ w2 s read before t52 t53 t54 t61 s_2 o was before_2 blocks
 rw [qxl_,e4]
 rfl
theorem qwa_  (s read t52 t53 t54 s_2):jfn Tryz.prog qa_ 6 18446744073709551616 (Ev.get qb_) 4 q9_ 506 [] (qd_ s read t52 t53 t54 s_2)=q8g_ s read t52 t53 t54 s_2:=by
 rw [q6_ (by decide)]
 rw [qn_ (by kernel_rfl)]
 refine qh_ (σ:=(Int)×(Int)×(List YJT1)×(Int)×(Int)×(List YJT0)) (mk:=fun s=>qd_ s.1 s.2.1 s.2.2.1 s.2.2.2.1 s.2.2.2.2.1 s.2.2.2.2.2) (fun w2 s=>?_) 18446744073709551616 (s,read,t52,t53,t54,s_2)
 have e3:(fun s read before t52 t53 t54 s_2 o was before_2=>(jfn Tryz.prog qa_ 6 18446744073709551616 (Ev.get qb_) 4 q9_) 32409 [w2] (qcj_ s read before t52 t53 t54 s_2 o was before_2))=q8i_ (fun s read t52 t53 t54 s_2=>w2 (qd_ s read t52 t53 t54 s_2)):=by funext s read before t52 t53 t54 s_2 o was before_2; exact qwj_ w2 s read before t52 t53 t54 s_2 o was before_2
 refine (qxm_ _ w2 s.1 s.2.1 s.2.2.1 s.2.2.2.1 s.2.2.2.2.1 s.2.2.2.2.2).trans ?_
 rw [e3]
theorem qxk_  (l s ok t46 s_2):jfn Tryz.prog qa_ 6 18446744073709551616 (Ev.get qb_) 4 q9_ 30 [] (qca_ l s ok t46 s_2)=qcd_ l s ok t46 s_2:=by
 rw [q6_ (by decide)]
 have e2:(fun s read t52 t53 t54 s_2=>(jfn Tryz.prog qa_ 6 18446744073709551616 (Ev.get qb_) 4 q9_) 506 [] (qd_ s read t52 t53 t54 s_2))=q8g_:=by funext s read t52 t53 t54 s_2; exact qwa_ s read t52 t53 t54 s_2
 rw [qwq_,e2]
 rfl
theorem qxy_ (x:As [.int .u8,.sl (.int .u16),.int .u8,.sl YJT3]):evT Tryz.prog qa_ 6 18446744073709551616 (Ev.get qb_) 4 q9_ x=qhj_ x:=by
 have e1:(fun l s ok t46 s_2=>(jfn Tryz.prog qa_ 6 18446744073709551616 (Ev.get qb_) 4 q9_) 30 [] (qca_ l s ok t46 s_2))=qcd_:=by funext l s ok t46 s_2; exact qxk_ l s ok t46 s_2
 rw [qi_,qx8_,e1]
 rfl
theorem qww_:CtOk Tryz.prog (fun _=>True) 4 ⟨q9_,qhj_⟩:=qc_ (q0_ q121_ (q0_ q12a_ (q0_ qnv_ (q0_ qip_ (q0_ qyv_ (q0_ qxd_ (q0_ q16u_ (q0_ qva_ (q0_ qzk_ q3_))))))))) qxy_
end Go.Proofs.Lx
end
section
namespace Pl
open Go Ev Sx
set_option maxRecDepth 10000
theorem q20_ {σ R:Type} (F:(σ->Option R)->σ->Option R) (n:Nat) (s:σ):loopF F (n + 1) s=F (loopF F n) s:=rfl
theorem loopF_eq {σ R:Type} {F:(σ->Option R)->σ->Option R} {Inv:σ->Prop} {μ:σ->Nat} {G:σ->Option R}
  (step:∀ self s,Inv s->(∀ s',Inv s'->μ s' < μ s->self s'=G s')->F self s=G s):∀ (n:Nat) (s:σ),Inv s->μ s < n->loopF F n s=G s
 | 0,s,_,h=>by omega
 | n + 1,s,hs,h=>by
  rw [q20_]
  exact step _ s hs fun s' hs' hlt=>loopF_eq step n s' hs' (by omega)
theorem w64 {x:Int} (h1:-9223372036854775808≤x) (h2:x≤9223372036854775807):IntKind.i64.wrap x=x:=by
 simp only [IntKind.wrap,IntKind.signed,IntKind.bits]
 simp
 omega
theorem wu8 {x:Int} (h1:0≤x) (h2:x≤255):IntKind.u8.wrap x=x:=by
 simp only [IntKind.wrap,IntKind.signed,IntKind.bits]
 simp
 omega
theorem wu16 {x:Int} (h1:0≤x) (h2:x≤65535):IntKind.u16.wrap x=x:=by
 simp only [IntKind.wrap,IntKind.signed,IntKind.bits]
 simp
 omega
theorem wu32 {x:Int} (h1:0≤x) (h2:x≤4294967295):IntKind.u32.wrap x=x:=by
 simp only [IntKind.wrap,IntKind.signed,IntKind.bits]
 simp
 omega
theorem add64 {a b:Int} (h1:-9223372036854775808≤a + b) (h2:a + b≤9223372036854775807):add .i64 a b=a + b:=w64 h1 h2
theorem sub64 {a b:Int} (h1:-9223372036854775808≤a - b) (h2:a - b≤9223372036854775807):sub .i64 a b=a - b:=w64 h1 h2
theorem mul64 {a b:Int} (h1:-9223372036854775808≤a * b) (h2:a * b≤9223372036854775807):mul .i64 a b=a * b:=w64 h1 h2
theorem cvt64 {a:Int} (h1:-9223372036854775808≤a) (h2:a≤9223372036854775807):cvt .i64 a=a:=w64 h1 h2
theorem q15_ {n:Nat} (h:n < 4611686018427387904):add .i64 (n:Int) 1=((n + 1:Nat):Int):=by rw [add64 (by omega) (by omega)]; rfl
theorem addn64 {n m:Nat} (h:n + m < 4611686018427387904):add .i64 (n:Int) (m:Int)=((n + m:Nat):Int):=by rw [add64 (by omega) (by omega)]; rfl
theorem q1_ (n:Nat):Int.ofNat n=(n:Int):=rfl
theorem q7_ {a b:Int}:lt a b=true ↔ a < b:=by simp [lt]
theorem qs_ {a b:Int}:le a b=true ↔ a≤b:=by simp [le]
theorem gt_iff {a b:Int}:gt a b=true ↔ b < a:=by simp [gt]
theorem q12_ {a b:Int}:ge a b=true ↔ b≤a:=by simp [ge]
theorem q4_ {a b:Int}:eqi a b=true ↔ a=b:=by simp [eqi]
theorem qk_ {a b:Int}:nei a b=true ↔ a ≠ b:=by simp [nei]
theorem eqs_iff {a b:List UInt8}:eqs a b=true ↔ a=b:=by simp [eqs]
theorem small_iff {n:Nat}:small n=true ↔ n≤1073741824:=by simp [small]
theorem lt_dec (a b:Int):lt a b=decide (a < b):=rfl
theorem le_dec (a b:Int):le a b=decide (a≤b):=rfl
theorem gt_dec (a b:Int):gt a b=decide (b < a):=rfl
theorem ge_dec (a b:Int):ge a b=decide (b≤a):=rfl
theorem q8_ {b:Bool} {β:Type} {k:Option β} (h:b=true):need b k=k:=by unfold need; rw [if_pos h]
theorem qm_ {n:Nat} {β:Type} {k:Option β} (h:n≤1073741824):need (small n) k=k:=q8_ (small_iff.2 h)
theorem qj_ {α:Type} {s:List α} {i:Nat} {c:α} (h:s[i]? = some c):at? s (i:Int)=some c:=by
 unfold at?
 simp [h]
theorem q1m_ {α:Type} (c:α) (q:List α):at? (c::q) 0=some c:=rfl
theorem drop_nil {α:Type} {s:List α} {i:Nat} (h:s.drop i=[]):s.length≤i:=by
 have:=congrArg List.length h
 simp at this
 omega
theorem cut_nat {α:Type} {xs:List α} {i j:Nat} (h1:i≤j) (h2:j≤xs.length):cut xs (i:Int) (j:Int)=some ((xs.take j).drop i):=by
 unfold cut
 rw [if_pos ⟨by omega,by omega,by omega⟩]
 simp
theorem cut_from {α:Type} {xs:List α} {i:Nat} (h:i≤xs.length):cut xs (i:Int) (Int.ofNat xs.length)=some (xs.drop i):=by
 rw [q1_,cut_nat h (Nat.le_refl _)]
 simp
theorem cut_to {α:Type} {xs:List α} {j:Nat} (h:j≤xs.length):cut xs 0 (j:Int)=some (xs.take j):=by
 have:=cut_nat (xs:=xs) (Nat.zero_le j) h
 simpa using this
theorem cut_one {α:Type} (c:α) (q:List α):cut (c::q) 1 (Int.ofNat (c::q).length)=some q:=by
 have:=cut_from (xs:=c::q) (i:=1) (by simp)
 simpa using this
theorem eqV_refl:∀ (t:Ty) (x:Vl t),eqV t x x=true:=by
 have hl:∀ {α:Type} {f:α->α->Bool},(∀ a,f a a=true)->∀ x:List α,eqL f x x=true:=fun h x=>by
  induction x with
  | nil=>rfl
  | cons a q ih=>simp [eqL,h,ih]
 intro t
 induction t with
 | int k=>intro x; simp [eqV,eqi]
 | bool=>intro x; simp [eqV,eqb]
 | str=>intro x; simp [eqV,eqs]
 | sl t ih=>intro x; exact hl ih x
 | pr a b iha ihb=>intro x; simp [eqV,iha,ihb]
 | wr a ih=>intro x; exact ih x
 | un=>intro x; rfl
 | ar n t ih=>intro x; exact hl ih x
theorem eqAs_refl:∀ (rs:List Ty) (x:As rs),eqAs rs x x=true
 | [],_=>rfl
 | t::r,x=>by simp [eqAs,eqV_refl,eqAs_refl r]
theorem amb2 {R:Type} {eq:R->R->Bool} (h:∀ x,eq x x=true) (a:Option R):amb eq [a,a]=a:=by
 cases a <;> simp [amb,ambC,h]
theorem amb3 {R:Type} {eq:R->R->Bool} (h:∀ x,eq x x=true) (a:Option R):amb eq [a,a,a]=a:=by
 cases a <;> simp [amb,ambC,h]
end Pl
end
section
namespace Pl
open Go Ev Sx
theorem loop_idx {σ R α β:Type} {F:(σ->Option R)->σ->Option R} {mk:Nat->β->σ} {xs:List α} {stp:β->α->β} {fin:β->Option R} (Inv:Nat->β->Prop)
  (hs:∀ self i acc x,xs[i]? = some x->Inv i acc->F self (mk i acc)=self (mk (i + 1) (stp acc x)))
  (hi:∀ i acc x,xs[i]? = some x->Inv i acc->Inv (i + 1) (stp acc x))
  (he:∀ self acc,Inv xs.length acc->F self (mk xs.length acc)=fin acc) :
  ∀ (k i:Nat) (acc:β) (n:Nat),i + k=xs.length->k < n->Inv i acc->loopF F n (mk i acc)=fin ((xs.drop i).foldl stp acc)
 | _,_,_,0,_,hn,_=>by omega
 | 0,i,acc,n + 1,h,_,hI=>by
  have:i=xs.length:=by omega
  subst this
  rw [q20_,he _ _ hI,List.drop_length]
  rfl
 | k + 1,i,acc,n + 1,h,hn,hI=>by
  have hx:xs[i]? = some (xs[i]'(by omega)):=List.getElem?_eq_getElem (by omega)
  rw [q20_,hs _ _ _ _ hx hI,loop_idx Inv hs hi he k (i + 1) _ n (by omega) (by omega) (hi _ _ _ hx hI),List.drop_eq_getElem_cons (show i < xs.length by omega)]
  rfl
def goL {α β R:Type} (body:β->α->(β->Option R)->Option R) (fin:β->Option R):List α->β->Option R
 | [],acc=>fin acc
 | x::r,acc=>body acc x (goL body fin r)
theorem loop_go {σ R α β:Type} {F:(σ->Option R)->σ->Option R} {mk:Nat->β->σ} {xs:List α} {body:β->α->(β->Option R)->Option R} {fin:β->Option R}
  (hs:∀ self i acc x,xs[i]? = some x->F self (mk i acc)=body acc x fun a=>self (mk (i + 1) a))
  (he:∀ self acc,F self (mk xs.length acc)=fin acc) :
  ∀ (k i:Nat) (acc:β) (n:Nat),i + k=xs.length->k < n->loopF F n (mk i acc)=goL body fin (xs.drop i) acc
 | _,_,_,0,_,hn=>by omega
 | 0,i,acc,n + 1,h,_=>by
  have:i=xs.length:=by omega
  subst this
  rw [q20_,he,List.drop_length]
  rfl
 | k + 1,i,acc,n + 1,h,hn=>by
  have hx:xs[i]? = some (xs[i]'(by omega)):=List.getElem?_eq_getElem (by omega)
  rw [q20_,hs _ _ _ _ hx,List.drop_eq_getElem_cons (show i < xs.length by omega)]
  show _=body acc _ (goL body fin (xs.drop (i + 1)))
  congr 1
  funext a
  exact loop_go hs he k (i + 1) a n (by omega) (by omega)
theorem foldl_app {α β:Type} (f:α->List β):∀ (xs:List α) (out:List β),xs.foldl (fun o x=>o++f x) out=out++xs.flatMap f
 | [],out=>by simp
 | x::r,out=>by simp [foldl_app f r]
theorem wr8 (x:Int):IntKind.u8.wrap x=x % 256:=by
 simp only [IntKind.wrap,IntKind.signed,IntKind.bits]
 simp
theorem wr16 (x:Int):IntKind.u16.wrap x=x % 65536:=by
 simp only [IntKind.wrap,IntKind.signed,IntKind.bits]
 simp
theorem cvt8 (x:Int):cvt .u8 x=x % 256:=wr8 x
theorem cvt16 (x:Int):cvt .u16 x=x % 65536:=wr16 x
theorem shr8 (k:IntKind) (x:Int) (hk:8≤k.bits):shr k x 8=x / 256:=by
 unfold shr
 have:min (8:Int).toNat k.bits=8:=by
  have:(8:Int).toNat=8:=rfl
  omega
 rw [this,Int.fdiv_eq_ediv_of_nonneg _ (by decide)]
 rfl
theorem u16_rng (x:Int):0≤IntKind.u16.wrap x∧IntKind.u16.wrap x < 65536:=by rw [wr16]; omega
theorem band15 (x:Int):0≤band .u16 x 15∧band .u16 x 15 < 16:=by
 have h:(BitVec.ofInt IntKind.u16.bits x &&& BitVec.ofInt IntKind.u16.bits 15).toNat≤15:=by
  rw [BitVec.toNat_and]
  exact Nat.le_trans Nat.and_le_right (by decide)
 unfold band
 rw [wr16]
 omega
end Pl
end
section
namespace Pl
open Go Ev Sx
theorem loop_dt {σ R:Type} {F:(σ->Option R)->σ->Option R} {mk:Nat->σ} {N:Nat} {r:Option R} (hs:∀ self i,i < N->F self (mk i)=self (mk (i + 1))) (he:∀ self,F self (mk N)=r) :
  ∀ (k i n:Nat),i + k=N->k < n->loopF F n (mk i)=r
 | _,_,0,_,h=>by omega
 | 0,i,n + 1,h,_=>by
  have:i=N:=by omega
  subst this
  rw [q20_,he]
 | k + 1,i,n + 1,h,hn=>by rw [q20_,hs _ _ (by omega),loop_dt hs he k (i + 1) n (by omega) (by omega)]
theorem set_at {α:Type} (p:List α) (x y:α) (q:List α):(p++x::q).set p.length y=p++y::q:=by
 rw [List.set_append_right _ _ (Nat.le_refl _),Nat.sub_self]
 rfl
end Pl
end
section
namespace Go.Proofs.Lx
open Go Ev Sx Pl
set_option maxRecDepth 100000
def crcT:List Int:=[0,52225,55297,5120,61441,15360,10240,58369,40961,27648,30720,46081,20480,39937,34817,17408]
theorem table_eq:qpp_ ()=some (crcT,()):=by kernel_rfl
def tab (i:Int):Int:=crcT.getD i.toNat 0
theorem tab_at {i:Int} (h0:0≤i) (h1:i < 16):at? crcT i=some (tab i):=by
 obtain ⟨n,rfl⟩:=Int.eq_ofNat_of_zero_le h0
 have:n < crcT.length:=by show n < 16; omega
 have e:crcT[n]? = some (crcT[n]'this):=List.getElem?_eq_getElem this
 rw [qj_ e]
 unfold tab
 rw [Int.toNat_natCast,List.getD_eq_getElem?_getD,e]
 rfl
def nib (s:Int):Int:=bxor .u16 (shr .u16 s 4) (tab (band .u16 s 15))
def stepV (s c:Int):Int:=nib (nib (bxor .u16 s (cvt .u16 c)))
theorem stepV_rng (s c:Int):0≤stepV s c∧stepV s c < 65536:=u16_rng _
theorem step_eq (s c:Int):qug_ (s,c,crcT,())=some (stepV s c,crcT,()):=by
 show qta_ s c crcT=_
 unfold qta_
 have h1:=band15 (bxor .u16 s (cvt .u16 c))
 rw [q8_ (q7_.2 h1.2),tab_at h1.1 h1.2,Option.bind_some,Option.bind_some]
 have h2:=band15 (bxor .u16 (shr .u16 (bxor .u16 s (cvt .u16 c)) 4) (tab (band .u16 (bxor .u16 s (cvt .u16 c)) 15)))
 rw [q8_ (q7_.2 h2.2),tab_at h2.1 h2.2,Option.bind_some,Option.bind_some]
 rfl
def sumV (b:List Int):Int:=b.foldl stepV 65535
theorem sumV_rng (b:List Int):0≤sumV b∧sumV b < 65536:=by
 unfold sumV
 have:∀ (b:List Int) (s:Int),(0≤s∧s < 65536)->0≤b.foldl stepV s∧b.foldl stepV s < 65536:=by
  intro b
  induction b with
  | nil=>exact fun s h=>h
  | cons c r ih=>exact fun s _=>ih _ (stepV_rng s c)
 exact this b _ (by decide)
theorem sum_eq {b:List Int} (h:b.length < 4611686018427387904):qtm_ (b,())=some (sumV b,()):=by
 show qr9_ qml_ b=_
 unfold qr9_
 rw [table_eq,Option.bind_some]
 rw [q8_ (by rfl),q8_ (by rfl)]
 unfold qml_
 refine (loop_idx (xs:=b) (mk:=fun i acc=>(b,acc,Int.ofNat b.length,(i:Int),crcT)) (stp:=stepV) (fin:=fun acc=>some (acc,())) (fun _ _=>True) ?_ (fun _ _ _ _ _=>trivial) ?_ b.length 0 65535 _ (by omega) (by omega) trivial).trans ?_
 ·intro self i acc x hx _
  have hi:=(List.getElem?_eq_some_iff.1 hx).1
  show qiz_ _ b acc (Int.ofNat b.length) (i:Int) crcT=_
  unfold qiz_
  rw [if_pos (by rw [q7_,q1_]; omega),qj_ hx,Option.bind_some,step_eq,Option.bind_some,q15_ (by omega)]
 ·intro self acc _
  show qiz_ _ b acc (Int.ofNat b.length) (b.length:Int) crcT=_
  unfold qiz_
  rw [if_neg (by rw [q7_,q1_]; omega)]
 ·rfl
theorem capOk_0 {n:Int} (h:0≤n):capOk 0 n=true:=by
 unfold capOk
 split
 ·rfl
 ·exact decide_eq_true h
theorem capOk_self (n:Int):capOk n n=true:=by
 unfold capOk
 rw [if_pos rfl]
def two (x:Int):List Int:=[x / 256 % 256,x % 256]
def putV (b:List Int):List Int:=b++[sumV b % 256,sumV b / 256]
theorem put_eq {b:List Int} (h:b.length < 1000000):qxo_ (b,())=some (putV b,()):=by
 show quq_ b=_
 unfold quq_
 have hs:=sumV_rng b
 have e:add .i64 (Int.ofNat b.length) 2=((b.length + 2:Nat):Int):=by rw [q1_]; exact addn64 (m:=2) (by omega)
 rw [sum_eq (by omega),Option.bind_some,e,q8_ (capOk_0 (by omega)),q8_ (by rw [small_iff]; omega),qm_ (by omega),qm_ (by simp; omega),cvt8,cvt8,shr8 _ _ (by decide)]
 have e2:sumV b / 256 % 256=sumV b / 256:=by omega
 rw [e2]
 rfl
end Go.Proofs.Lx
end
