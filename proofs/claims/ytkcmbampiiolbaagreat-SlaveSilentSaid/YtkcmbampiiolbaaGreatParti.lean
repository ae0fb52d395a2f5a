/- Proved in the last of these 12 parts (this is part 9): SlaveSilent returns true, whatever the bank, what came ahead, the unit, the bytes, the place and the pattern. Conditions: those of the given statement, and no others. -/
import Derived.Test.YtkcmbampiiolbaaGreatParte
import Derived.Test.YtkcmbampiiolbaaGreatParth
import Derived.Test.YtkcmbampiiolbaaGreatProg
set_option linter.unusedVariables false
set_option linter.unusedSimpArgs false
set_option linter.unusedSectionVars false
section
open Go Go.Proofs Ev Sx
set_option maxRecDepth 100000
namespace Go.Proofs.Lx
abbrev YaAq0:Type:=Int×Int×YTT2×List Bool
@[reducible] def q4j_:Sh:=⟨[],[],[],[.d (.ar 16 (.int .u16))],[],0,[.ar 16 (.int .u16)]⟩
def q6g_:Env:=(cts [])
def q62_:List (Nat×Hint):=[(58,⟨[],[0,1,5]⟩),(7475,⟨[],[0,1,2,3,5]⟩),(59802,⟨[],[0,1,2,3,5,10]⟩)]
def q4e_ (t5:Int) (t0 t:List Int):St:={ fr:=[(0,.pb 0 0),(1,.pb 1 0),(5,.d (.int .i64) t5)],nt:=26,up:=[],own:=[(0,.row (.int .u16) 242 t0),(1,.row (.int .u16) 242 t)],nx:=2,log:=[],ln:=0 }
def qfz_ (i x t5 t10:Int) (t0 t:List Int):St:={ fr:=[(0,.pb 0 0),(1,.pb 1 0),(2,.d (.int .i64) i),(3,.d (.int .u16) x),(5,.d (.int .i64) t5),(10,.d (.int .i64) t10)],nt:=26,up:=[],own:=[(0,.row (.int .u16) 242 t0),(1,.row (.int .u16) 242 t)],nx:=2,log:=[],ln:=0 }
def qrc_ (i x t5:Int) (t0 t:List Int):St:={ fr:=[(0,.pb 0 0),(1,.pb 1 0),(2,.d (.int .i64) i),(3,.d (.int .u16) x),(5,.d (.int .i64) t5)],nt:=26,up:=[],own:=[(0,.row (.int .u16) 242 t0),(1,.row (.int .u16) 242 t)],nx:=2,log:=[],ln:=0 }
def q13e_ (j2:Int->Int->Int->Int->List Int->List Int->Option (As [.ar 16 (.int .u16)])) (self1:Int->List Int->List Int->Option (As [.ar 16 (.int .u16)])) (t5:Int) (t0 t:List Int):Option (As [.ar 16 (.int .u16)]) :=
 if lt t5 16=true then j2 t5 (cvt .u16 t5) t5 0 t0 t else need (eqi (Int.ofNat (List.length t)) 16) (need (eqi (Int.ofNat (List.length t0)) (Int.ofNat (List.length t))) (need (eqi 16 (Int.ofNat (List.length t * 1))) (need (eqi (Int.ofNat (List.length t)) 16) (need (eqi (Int.ofNat (List.length t)) 16) (some (t,()))))))
def q12t_ (j3:Int->Int->Int->List Int->List Int->Option (As [.ar 16 (.int .u16)])) (self1:Int->List Int->List Int->Option (As [.ar 16 (.int .u16)])) (self2:Int->Int->Int->Int->List Int->List Int->Option (As [.ar 16 (.int .u16)])) (i x t5 t10:Int) (t0 t:List Int):Option (As [.ar 16 (.int .u16)]) :=
 if lt t10 4=true then if eqi (Sx.band .u16 x 1) 1=true then self2 i (Sx.bxor .u16 (Sx.shr .u16 x 1) 40961) t5 (add .i64 t10 1) t0 t else self2 i (Sx.shr .u16 x 1) t5 (add .i64 t10 1) t0 t else j3 i x t5 t0 t
def q13i_ (self1:Int->List Int->List Int->Option (As [.ar 16 (.int .u16)])) (i x t5:Int) (t0 t:List Int):Option (As [.ar 16 (.int .u16)]) :=
 need (lt i 16) (Option.bind (at? t i) fun x_1=>Option.bind (at? t i) fun x_2=>self1 (add .i64 t5 1) t0 (List.set t (Int.toNat i) x))
def q13u_ (j1:Int->List Int->List Int->Option (As [.ar 16 (.int .u16)])):Option (As [.ar 16 (.int .u16)]) :=
 j1 0 (List.replicate 16 0) (List.replicate 16 0)
def qvp_ (u1:Int->List Int->List Int->Option (As [.ar 16 (.int .u16)])) (i x t5:Int) (t0 t:List Int):Option (As [.ar 16 (.int .u16)]):=q13i_ u1 i x t5 t0 t
def qvy_ (u1:Int->List Int->List Int->Option (As [.ar 16 (.int .u16)])) (i x t5 t10:Int) (t0 t:List Int):Option (As [.ar 16 (.int .u16)]) :=
 loopF (fun (self:(Int)×(Int)×(Int)×(Int)×(List Int)×(List Int)->Option (As [.ar 16 (.int .u16)])) (s:(Int)×(Int)×(Int)×(Int)×(List Int)×(List Int))=>q12t_ (qvp_ u1) u1 (fun i x t5 t10 t0 t=>self (i,x,t5,t10,t0,t)) s.1 s.2.1 s.2.2.1 s.2.2.2.1 s.2.2.2.2.1 s.2.2.2.2.2) 18446744073709551616 (i,x,t5,t10,t0,t)
def qvv_ (t5:Int) (t0 t:List Int):Option (As [.ar 16 (.int .u16)]) :=
 loopF (fun (self:(Int)×(List Int)×(List Int)->Option (As [.ar 16 (.int .u16)])) (s:(Int)×(List Int)×(List Int))=>q13e_ (qvy_ (fun t5 t0 t=>self (t5,t0,t))) (fun t5 t0 t=>self (t5,t0,t)) s.1 s.2.1 s.2.2) 18446744073709551616 (t5,t0,t)
def qtl_ (x:As []):Option (As [.ar 16 (.int .u16)]):=q13u_ qvv_
theorem q1et_ (J:Orc (As [.ar 16 (.int .u16)])) (w1:St->Option (As [.ar 16 (.int .u16)])) (i x t5:Int) (t0 t:List Int):pfn Tryz.prog q6g_ 6 18446744073709551616 (Ev.get q62_) 183 q4j_ J 7475 [w1] (qrc_ i x t5 t0 t)=q13i_ (fun t5 t0 t=>w1 (q4e_ t5 t0 t)) i x t5 t0 t:=by kernel_rfl
theorem q1ge_ (J:Orc (As [.ar 16 (.int .u16)])) (w1 w2:St->Option (As [.ar 16 (.int .u16)])) (i x t5 t10:Int) (t0 t:List Int):pfn Tryz.prog q6g_ 6 18446744073709551616 (Ev.get q62_) 183 q4j_ J 59802 [w1,w2] (qfz_ i x t5 t10 t0 t)=q12t_ (fun i x t5 t0 t=>J 7475 [w1] (qrc_ i x t5 t0 t)) (fun t5 t0 t=>w1 (q4e_ t5 t0 t)) (fun i x t5 t10 t0 t=>w2 (qfz_ i x t5 t10 t0 t)) i x t5 t10 t0 t:=by kernel_rfl
theorem q1f8_ (J:Orc (As [.ar 16 (.int .u16)])) (w1:St->Option (As [.ar 16 (.int .u16)])) (t5:Int) (t0 t:List Int):pfn Tryz.prog q6g_ 6 18446744073709551616 (Ev.get q62_) 183 q4j_ J 58 [w1] (q4e_ t5 t0 t)=q13e_ (fun i x t5 t10 t0 t=>J 59802 [w1] (qfz_ i x t5 t10 t0 t)) (fun t5 t0 t=>w1 (q4e_ t5 t0 t)) t5 t0 t:=by kernel_rfl
theorem q1fk_ (J:Orc (As [.ar 16 (.int .u16)])) (x:As []):rfn Tryz.prog q6g_ 6 18446744073709551616 (Ev.get q62_) 183 q4j_ J x=q13u_ (fun t5 t0 t=>J 58 [] (q4e_ t5 t0 t)):=by kernel_rfl
theorem q1dv_ (w1:St->Option (As [.ar 16 (.int .u16)])) (i x t5:Int) (t0 t:List Int):jfn Tryz.prog q6g_ 6 18446744073709551616 (Ev.get q62_) 183 q4j_ 7475 [w1] (qrc_ i x t5 t0 t)=qvp_ (fun t5 t0 t=>w1 (q4e_ t5 t0 t)) i x t5 t0 t:=by
 rw [q8_ (by decide)]
 rw [q1et_]
 rfl
theorem q1em_ (w1:St->Option (As [.ar 16 (.int .u16)])) (i x t5 t10:Int) (t0 t:List Int):jfn Tryz.prog q6g_ 6 18446744073709551616 (Ev.get q62_) 183 q4j_ 59802 [w1] (qfz_ i x t5 t10 t0 t)=qvy_ (fun t5 t0 t=>w1 (q4e_ t5 t0 t)) i x t5 t10 t0 t:=by
 rw [q8_ (by decide)]
 rw [qr_ (by kernel_rfl)]
 refine qi_ (σ:=(Int)×(Int)×(Int)×(Int)×(List Int)×(List Int)) (mk:=fun s=>qfz_ s.1 s.2.1 s.2.2.1 s.2.2.2.1 s.2.2.2.2.1 s.2.2.2.2.2) (fun w2 s=>?_) 18446744073709551616 (i,x,t5,t10,t0,t)
 have e3:(fun i x t5 t0 t=>(jfn Tryz.prog q6g_ 6 18446744073709551616 (Ev.get q62_) 183 q4j_) 7475 [w1] (qrc_ i x t5 t0 t))=qvp_ (fun t5 t0 t=>w1 (q4e_ t5 t0 t)):=by funext i x t5 t0 t; exact q1dv_ w1 i x t5 t0 t
 refine (q1ge_ _ w1 w2 s.1 s.2.1 s.2.2.1 s.2.2.2.1 s.2.2.2.2.1 s.2.2.2.2.2).trans ?_
 rw [e3]
theorem q1e6_ (t5:Int) (t0 t:List Int):jfn Tryz.prog q6g_ 6 18446744073709551616 (Ev.get q62_) 183 q4j_ 58 [] (q4e_ t5 t0 t)=qvv_ t5 t0 t:=by
 rw [q8_ (by decide)]
 rw [qr_ (by kernel_rfl)]
 refine qi_ (σ:=(Int)×(List Int)×(List Int)) (mk:=fun s=>q4e_ s.1 s.2.1 s.2.2) (fun w1 s=>?_) 18446744073709551616 (t5,t0,t)
 have e2:(fun i x t5 t10 t0 t=>(jfn Tryz.prog q6g_ 6 18446744073709551616 (Ev.get q62_) 183 q4j_) 59802 [w1] (qfz_ i x t5 t10 t0 t))=qvy_ (fun t5 t0 t=>w1 (q4e_ t5 t0 t)):=by funext i x t5 t10 t0 t; exact q1em_ w1 i x t5 t10 t0 t
 refine (q1f8_ _ w1 s.1 s.2.1 s.2.2).trans ?_
 rw [e2]
theorem q1in_ (x:As []):evT Tryz.prog q6g_ 6 18446744073709551616 (Ev.get q62_) 183 q4j_ x=qtl_ x:=by
 have e1:(fun t5 t0 t=>(jfn Tryz.prog q6g_ 6 18446744073709551616 (Ev.get q62_) 183 q4j_) 58 [] (q4e_ t5 t0 t))=qvv_:=by funext t5 t0 t; exact q1e6_ t5 t0 t
 rw [q5_,q1fk_,e1]
 rfl
theorem q1g7_:CtOk Tryz.prog (fun _=>True) 183 ⟨q4j_,qtl_⟩:=q3_ q4_ q1in_
@[reducible] def qv6_:Sh:=⟨[.pb 0 0,.d (.int .u16),.d (.int .u8)],[.row (.int .u16) 242],[.int .u16,.int .u8,.sl (.int .u16)],[.d (.int .u16)],[(0,.row (.int .u16) 242)],0,[.int .u16,.sl (.int .u16)]⟩
def q179_:Env:=(cts [])
def q177_:List (Nat×Hint):=[]
def qt6_ (t sum:Int) (c:List Int):Option (As [.int .u16,.sl (.int .u16)]) :=
 need (lt (Sx.band .u16 (Sx.bxor .u16 t (cvt .u16 sum)) 15) 16) (Option.bind (at? c (Sx.band .u16 (Sx.bxor .u16 t (cvt .u16 sum)) 15)) fun x=>Option.bind (at? c (Sx.band .u16 (Sx.bxor .u16 t (cvt .u16 sum)) 15)) fun y=>need (lt (Sx.band .u16 (Sx.bxor .u16 (Sx.shr .u16 (Sx.bxor .u16 t (cvt .u16 sum)) 4) y) 15) 16) (Option.bind (at? c (Sx.band .u16 (Sx.bxor .u16 (Sx.shr .u16 (Sx.bxor .u16 t (cvt .u16 sum)) 4) y) 15)) fun x=>Option.bind (at? c (Sx.band .u16 (Sx.bxor .u16 (Sx.shr .u16 (Sx.bxor .u16 t (cvt .u16 sum)) 4) y) 15)) fun y_1=>some (Sx.bxor .u16 (Sx.shr .u16 (Sx.bxor .u16 (Sx.shr .u16 (Sx.bxor .u16 t (cvt .u16 sum)) 4) y) 4) y_1,c,())))
def qvk_ (x:As [.int .u16,.int .u8,.sl (.int .u16)]):Option (As [.int .u16,.sl (.int .u16)]):=qt6_ x.1 x.2.1 x.2.2.1
theorem q1io_ (J:Orc (As [.int .u16,.sl (.int .u16)])) (x:As [.int .u16,.int .u8,.sl (.int .u16)]):rfn Tryz.prog q179_ 6 18446744073709551616 (Ev.get q177_) 184 qv6_ J x=qt6_ x.1 x.2.1 x.2.2.1:=by kernel_rfl
theorem q1ji_ (x:As [.int .u16,.int .u8,.sl (.int .u16)]):evT Tryz.prog q179_ 6 18446744073709551616 (Ev.get q177_) 184 qv6_ x=qvk_ x:=by
 rw [q5_,q1io_]
 rfl
theorem q1i2_:CtOk Tryz.prog (fun _=>True) 184 ⟨qv6_,qvk_⟩:=q3_ q4_ q1ji_
@[reducible] def qg8_:Sh:=⟨[.d (.sl (.int .u8))],[],[.sl (.int .u8)],[.d (.int .u16)],[],0,[.int .u16]⟩
def qtz_:Env:=(cts [(183,(⟨q4j_,qtl_⟩:Ct)),(184,(⟨qv6_,qvk_⟩:Ct))])
def qtt_:List (Nat×Hint):=[(122,⟨[],[0,3,4,8,9]⟩)]
def qk6_ (b:List Int) (sum t8 t9:Int) (t:List Int):St:={ fr:=[(0,.d (.sl (.int .u8)) b),(3,.pb 0 0),(4,.d (.int .u16) sum),(8,.d (.int .i64) t8),(9,.d (.int .i64) t9)],nt:=20,up:=[],own:=[(0,.row (.int .u16) 242 t)],nx:=1,log:=[],ln:=0 }
def qke_ (self1:List Int->Int->Int->Int->List Int->Option (As [.int .u16])) (b:List Int) (sum t8 t9:Int) (t:List Int):Option (As [.int .u16]) :=
 if lt t9 t8=true then Option.bind (at? b t9) fun y=>Option.bind (qvk_ (sum,y,t,())) fun y=>self1 b y.1 t8 (add .i64 t9 1) y.2.1 else some (sum,())
def qv2_ (j1:List Int->Int->Int->Int->List Int->Option (As [.int .u16])) (b:List Int):Option (As [.int .u16]) :=
 Option.bind (qtl_ ()) fun y=>need (eqi 16 (Int.ofNat (List.length y.1))) (need (eqi 16 (Int.ofNat (List.length y.1 * 1))) (j1 b 65535 (Int.ofNat (List.length b)) 0 y.1))
def qq5_ (b:List Int) (sum t8 t9:Int) (t:List Int):Option (As [.int .u16]) :=
 loopF (fun (self:(List Int)×(Int)×(Int)×(Int)×(List Int)->Option (As [.int .u16])) (s:(List Int)×(Int)×(Int)×(Int)×(List Int))=>qke_ (fun b sum t8 t9 t=>self (b,sum,t8,t9,t)) s.1 s.2.1 s.2.2.1 s.2.2.2.1 s.2.2.2.2) 18446744073709551616 (b,sum,t8,t9,t)
def qst_ (x:As [.sl (.int .u8)]):Option (As [.int .u16]):=qv2_ qq5_ x.1
theorem q1j4_ (J:Orc (As [.int .u16])) (w1:St->Option (As [.int .u16])) (b:List Int) (sum t8 t9:Int) (t:List Int):pfn Tryz.prog qtz_ 6 18446744073709551616 (Ev.get qtt_) 140 qg8_ J 122 [w1] (qk6_ b sum t8 t9 t)=qke_ (fun b sum t8 t9 t=>w1 (qk6_ b sum t8 t9 t)) b sum t8 t9 t:=by kernel_rfl
theorem q1jc_ (J:Orc (As [.int .u16])) (x:As [.sl (.int .u8)]):rfn Tryz.prog qtz_ 6 18446744073709551616 (Ev.get qtt_) 140 qg8_ J x=qv2_ (fun b sum t8 t9 t=>J 122 [] (qk6_ b sum t8 t9 t)) x.1:=by kernel_rfl
theorem q1j6_ (b:List Int) (sum t8 t9:Int) (t:List Int):jfn Tryz.prog qtz_ 6 18446744073709551616 (Ev.get qtt_) 140 qg8_ 122 [] (qk6_ b sum t8 t9 t)=qq5_ b sum t8 t9 t:=by
 rw [q8_ (by decide)]
 rw [qr_ (by kernel_rfl)]
 refine qi_ (σ:=(List Int)×(Int)×(Int)×(Int)×(List Int)) (mk:=fun s=>qk6_ s.1 s.2.1 s.2.2.1 s.2.2.2.1 s.2.2.2.2) (fun w1 s=>?_) 18446744073709551616 (b,sum,t8,t9,t)
 refine (q1j4_ _ w1 s.1 s.2.1 s.2.2.1 s.2.2.2.1 s.2.2.2.2).trans ?_
 rfl
theorem q1jw_ (x:As [.sl (.int .u8)]):evT Tryz.prog qtz_ 6 18446744073709551616 (Ev.get qtt_) 140 qg8_ x=qst_ x:=by
 have e1:(fun b sum t8 t9 t=>(jfn Tryz.prog qtz_ 6 18446744073709551616 (Ev.get qtt_) 140 qg8_) 122 [] (qk6_ b sum t8 t9 t))=qq5_:=by funext b sum t8 t9 t; exact q1j6_ b sum t8 t9 t
 rw [q5_,q1jc_,e1]
 rfl
theorem q170_:CtOk Tryz.prog (fun _=>True) 140 ⟨qg8_,qst_⟩:=q3_ (q0_ q1g7_ (q0_ q1i2_ q4_)) q1jw_
@[reducible] def qxb_:Sh:=⟨[.d (.sl (.int .u8))],[],[.sl (.int .u8)],[.d (.sl (.int .u8))],[],0,[.sl (.int .u8)]⟩
def q1ab_:Env:=(cts [(140,(⟨qg8_,qst_⟩:Ct))])
def q1af_:List (Nat×Hint):=[]
def qv3_ (b:List Int):Option (As [.sl (.int .u8)]) :=
 Option.bind (qst_ (b,())) fun y=>need (Ev.capOk 0 (add .i64 (Int.ofNat (List.length b)) 2)) (need (small (Int.toNat (add .i64 (Int.ofNat (List.length b)) 2))) (need (small (0 + List.length b)) (need (small (List.length b + Nat.succ (Nat.succ 0))) (some (b++[cvt .u8 y.1,cvt .u8 (Sx.shr .u16 y.1 8)],())))))
def qzg_ (x:As [.sl (.int .u8)]):Option (As [.sl (.int .u8)]):=qv3_ x.1
theorem q1jn_ (J:Orc (As [.sl (.int .u8)])) (x:As [.sl (.int .u8)]):rfn Tryz.prog q1ab_ 6 18446744073709551616 (Ev.get q1af_) 86 qxb_ J x=qv3_ x.1:=by kernel_rfl
theorem q1js_ (x:As [.sl (.int .u8)]):evT Tryz.prog q1ab_ 6 18446744073709551616 (Ev.get q1af_) 86 qxb_ x=qzg_ x:=by
 rw [q5_,q1jn_]
 rfl
theorem q1j8_:CtOk Tryz.prog (fun _=>True) 86 ⟨qxb_,qzg_⟩:=q3_ (q0_ q170_ q4_) q1js_
@[reducible] def qbn_:Sh:=⟨[.d (.int .u8),.d (.sl (.int .u8))],[],[.int .u8,.sl (.int .u8)],[.d (.sl (.int .u8)),.d (.int .i64)],[],0,[.sl (.int .u8),.int .i64]⟩
def qln_:Env:=(cts [(85,(⟨qjj_,qdc_⟩:Ct)),(86,(⟨qxb_,qzg_⟩:Ct))])
def qm4_:List (Nat×Hint):=[(6,⟨[],[0,1,18]⟩)]
def qpc_ (unit:Int) (pdu:List Int) (t18:Bool):St:={ fr:=[(0,.d (.int .u8) unit),(1,.d (.sl (.int .u8)) pdu),(18,.d .bool t18)],nt:=24,up:=[],own:=[],nx:=0,log:=[],ln:=0 }
def qs6_ (unit:Int) (pdu:List Int) (t18:Bool):Option (As [.sl (.int .u8),.int .i64]) :=
 if t18=true then some ([],2,()) else need (small (Nat.succ 0 + List.length pdu)) (Option.bind (qzg_ (unit::pdu,())) fun y=>some (y.1,0,()))
def qfv_ (j1:Int->List Int->Bool->Option (As [.sl (.int .u8),.int .i64])) (unit:Int) (pdu:List Int):Option (As [.sl (.int .u8),.int .i64]) :=
 Option.bind (qdc_ (unit,())) fun y=>if (!y.1)=true then j1 unit pdu true else if lt (Int.ofNat (List.length pdu)) 1=true then j1 unit pdu true else j1 unit pdu (gt (Int.ofNat (List.length pdu)) 253)
def qje_ (unit:Int) (pdu:List Int) (t18:Bool):Option (As [.sl (.int .u8),.int .i64]):=qs6_ unit pdu t18
def qdk_ (x:As [.int .u8,.sl (.int .u8)]):Option (As [.sl (.int .u8),.int .i64]):=qfv_ qje_ x.1 x.2.1
theorem q1gd_ (J:Orc (As [.sl (.int .u8),.int .i64])) (unit:Int) (pdu:List Int) (t18:Bool):pfn Tryz.prog qln_ 6 18446744073709551616 (Ev.get qm4_) 28 qbn_ J 6 [] (qpc_ unit pdu t18)=qs6_ unit pdu t18:=by kernel_rfl
theorem q1gh_ (J:Orc (As [.sl (.int .u8),.int .i64])) (x:As [.int .u8,.sl (.int .u8)]):rfn Tryz.prog qln_ 6 18446744073709551616 (Ev.get qm4_) 28 qbn_ J x=qfv_ (fun unit pdu t18=>J 6 [] (qpc_ unit pdu t18)) x.1 x.2.1:=by kernel_rfl
theorem q1fu_ (unit:Int) (pdu:List Int) (t18:Bool):jfn Tryz.prog qln_ 6 18446744073709551616 (Ev.get qm4_) 28 qbn_ 6 [] (qpc_ unit pdu t18)=qje_ unit pdu t18:=by
 rw [q8_ (by decide)]
 rw [q1gd_]
 rfl
theorem q1iy_ (x:As [.int .u8,.sl (.int .u8)]):evT Tryz.prog qln_ 6 18446744073709551616 (Ev.get qm4_) 28 qbn_ x=qdk_ x:=by
 have e1:(fun unit pdu t18=>(jfn Tryz.prog qln_ 6 18446744073709551616 (Ev.get qm4_) 28 qbn_) 6 [] (qpc_ unit pdu t18))=qje_:=by funext unit pdu t18; exact q1fu_ unit pdu t18
 rw [q5_,q1gh_,e1]
 rfl
theorem q13d_:CtOk Tryz.prog (fun _=>True) 28 ⟨qbn_,qdk_⟩:=q3_ (q0_ q11m_ (q0_ q1j8_ q4_)) q1iy_
@[reducible] def qwz_:Sh:=⟨[.d (.sl (.int .u8))],[],[.sl (.int .u8)],[.d (.sl (.int .u8)),.d (.int .i64)],[],0,[.sl (.int .u8),.int .i64]⟩
def q1ad_:Env:=(cts [(140,(⟨qg8_,qst_⟩:Ct))])
def q1ae_:List (Nat×Hint):=[]
def qv9_ (b:List Int):Option (As [.sl (.int .u8),.int .i64]) :=
 if lt (Int.ofNat (List.length b)) 2=true then some ([],10,()) else Option.bind (cut b 0 (Sx.sub .i64 (Int.ofNat (List.length b)) 2)) fun y=>Option.bind (at? b (Sx.sub .i64 (Int.ofNat (List.length b)) 2)) fun y_1=>Option.bind (at? b (add .i64 (Sx.sub .i64 (Int.ofNat (List.length b)) 2) 1)) fun y_2=>Option.bind (qst_ (y,())) fun y=>if nei y.1 (Sx.bor .u16 (cvt .u16 y_1) (Sx.shl .u16 (cvt .u16 y_2) 8))=true then some ([],11,()) else need (ge (Sx.sub .i64 (Int.ofNat (List.length b)) 2) 0) (need (Ev.capOk (Sx.sub .i64 (Int.ofNat (List.length b)) 2) (Sx.sub .i64 (Int.ofNat (List.length b)) 2)) (need (small (Int.toNat (Sx.sub .i64 (Int.ofNat (List.length b)) 2))) (need (le (Int.ofNat (0 + List.length (List.replicate (α:=Int) (Int.toNat (Sx.sub .i64 (Int.ofNat (List.length b)) 2)) 0))) (Int.ofNat (List.length (List.replicate (α:=Int) (Int.toNat (Sx.sub .i64 (Int.ofNat (List.length b)) 2)) 0)))) (some (List.take (Int.toNat (Int.ofNat (List.length (List.replicate (α:=Int) (Int.toNat (Sx.sub .i64 (Int.ofNat (List.length b)) 2)) 0)))) b++List.drop (0 + List.length (List.take (Int.toNat (Int.ofNat (List.length (List.replicate (α:=Int) (Int.toNat (Sx.sub .i64 (Int.ofNat (List.length b)) 2)) 0)))) b)) (List.replicate (Int.toNat (Sx.sub .i64 (Int.ofNat (List.length b)) 2)) 0),0,())))))
def qxz_ (x:As [.sl (.int .u8)]):Option (As [.sl (.int .u8),.int .i64]):=qv9_ x.1
theorem q1j9_ (J:Orc (As [.sl (.int .u8),.int .i64])) (x:As [.sl (.int .u8)]):rfn Tryz.prog q1ad_ 6 18446744073709551616 (Ev.get q1ae_) 89 qwz_ J x=qv9_ x.1:=by kernel_rfl
theorem q1jt_ (x:As [.sl (.int .u8)]):evT Tryz.prog q1ad_ 6 18446744073709551616 (Ev.get q1ae_) 89 qwz_ x=qxz_ x:=by
 rw [q5_,q1j9_]
 rfl
theorem q1jh_:CtOk Tryz.prog (fun _=>True) 89 ⟨qwz_,qxz_⟩:=q3_ (q0_ q170_ q4_) q1jt_
@[reducible] def qbb_:Sh:=⟨[.d (.sl (.int .u8))],[],[.sl (.int .u8)],[.d (.int .u8),.d (.sl (.int .u8)),.d (.int .i64)],[],0,[.int .u8,.sl (.int .u8),.int .i64]⟩
def qlx_:Env:=(cts [(85,(⟨qjj_,qdc_⟩:Ct)),(89,(⟨qwz_,qxz_⟩:Ct))])
def qmd_:List (Nat×Hint):=[(6,⟨[],[0,14]⟩)]
def qru_ (b:List Int) (t14:Bool):St:={ fr:=[(0,.d (.sl (.int .u8)) b),(14,.d .bool t14)],nt:=37,up:=[],own:=[],nx:=0,log:=[],ln:=0 }
def qp2_ (b:List Int) (t14:Bool):Option (As [.int .u8,.sl (.int .u8),.int .i64]) :=
 if t14=true then some (0,[],10,()) else Option.bind (qxz_ (b,())) fun y=>if nei y.2.1 0=true then some (0,[],y.2.1,()) else Option.bind (at? y.1 0) fun y_1=>Option.bind (qdc_ (y_1,())) fun y_2=>if (!y_2.1)=true then some (0,[],10,()) else Option.bind (at? y.1 0) fun y_3=>Option.bind (cut y.1 1 (Int.ofNat (List.length y.1))) fun y_4=>need (le (Int.ofNat (List.length y.1)) (Int.ofNat (List.length y.1))) (need (le (Int.ofNat (List.length y.1)) (Int.ofNat (List.length y.1))) (some (y_3,y_4,0,())))
def qpd_ (j1:List Int->Bool->Option (As [.int .u8,.sl (.int .u8),.int .i64])) (b:List Int):Option (As [.int .u8,.sl (.int .u8),.int .i64]) :=
 if lt (Int.ofNat (List.length b)) 4=true then j1 b true else j1 b (gt (Int.ofNat (List.length b)) 256)
def qj2_ (b:List Int) (t14:Bool):Option (As [.int .u8,.sl (.int .u8),.int .i64]):=qp2_ b t14
def qdt_ (x:As [.sl (.int .u8)]):Option (As [.int .u8,.sl (.int .u8),.int .i64]):=qpd_ qj2_ x.1
theorem q1gq_ (J:Orc (As [.int .u8,.sl (.int .u8),.int .i64])) (b:List Int) (t14:Bool):pfn Tryz.prog qlx_ 6 18446744073709551616 (Ev.get qmd_) 30 qbb_ J 6 [] (qru_ b t14)=qp2_ b t14:=by kernel_rfl
theorem q1ga_ (J:Orc (As [.int .u8,.sl (.int .u8),.int .i64])) (x:As [.sl (.int .u8)]):rfn Tryz.prog qlx_ 6 18446744073709551616 (Ev.get qmd_) 30 qbb_ J x=qpd_ (fun b t14=>J 6 [] (qru_ b t14)) x.1:=by kernel_rfl
theorem q1dy_ (b:List Int) (t14:Bool):jfn Tryz.prog qlx_ 6 18446744073709551616 (Ev.get qmd_) 30 qbb_ 6 [] (qru_ b t14)=qj2_ b t14:=by
 rw [q8_ (by decide)]
 rw [q1gq_]
 rfl
theorem q1hw_ (x:As [.sl (.int .u8)]):evT Tryz.prog qlx_ 6 18446744073709551616 (Ev.get qmd_) 30 qbb_ x=qdt_ x:=by
 have e1:(fun b t14=>(jfn Tryz.prog qlx_ 6 18446744073709551616 (Ev.get qmd_) 30 qbb_) 6 [] (qru_ b t14))=qj2_:=by funext b t14; exact q1dy_ b t14
 rw [q5_,q1ga_,e1]
 rfl
theorem q13l_:CtOk Tryz.prog (fun _=>True) 30 ⟨qbb_,qdt_⟩:=q3_ (q0_ q11m_ (q0_ q1jh_ q4_)) q1hw_
@[reducible] def q26_:Sh:=⟨[.d (.sl (.int .u8))],[],[.sl (.int .u8)],[.d (.bool)],[],0,[.bool]⟩
def q2q_:Env:=(cts [])
def q2p_:List (Nat×Hint):=[(26,⟨[],[0,3,7,8,9,10,17,18,19,20,21,26,27,28,29,30,31,32,33,34,35,36,37,38]⟩),(841,⟨[.agd 32 (.sl (.int .u8)),.agd 33 (.int .i64),.agd 35 (.int .u8),.agd 36 (.int .i64),.agd 37 .bool,.agd 26 (.sl (.int .u8)),.agd 27 (.int .i64),.agd 29 (.int .u8),.agd 30 .bool,.agd 31 .bool,.agd 38 .bool],[0,3,39]⟩),(840,⟨[.agd 17 (.sl (.int .u8)),.agd 18 (.int .i64),.agd 20 (.int .u8),.agd 21 .bool],[0,3,22]⟩),(104,⟨[.agd 7 (.int .i64),.agd 8 (.sl (.int .u8)),.agd 9 (.int .i64),.agd 10 .bool],[0,3,11]⟩)]
def q25_ (b:List Int) (i:Int):St:={ fr:=[(0,.d (.sl (.int .u8)) b),(3,.d (.int .i64) i)],nt:=40,up:=[],own:=[],nx:=0,log:=[],ln:=0 }
def qjv_ (b:List Int) (i:Int) (t11:Bool):St:={ fr:=[(0,.d (.sl (.int .u8)) b),(3,.d (.int .i64) i),(11,.d .bool t11)],nt:=40,up:=[],own:=[],nx:=0,log:=[],ln:=0 }
def qjt_ (b:List Int) (i:Int) (t22:Bool):St:={ fr:=[(0,.d (.sl (.int .u8)) b),(3,.d (.int .i64) i),(22,.d .bool t22)],nt:=40,up:=[],own:=[],nx:=0,log:=[],ln:=0 }
def qk0_ (b:List Int) (i:Int) (t39:Bool):St:={ fr:=[(0,.d (.sl (.int .u8)) b),(3,.d (.int .i64) i),(39,.d .bool t39)],nt:=40,up:=[],own:=[],nx:=0,log:=[],ln:=0 }
def q78_ (j2:List Int->Int->Bool->Option (As [.bool])) (self1:List Int->Int->Option (As [.bool])) (b:List Int) (i:Int):Option (As [.bool]) :=
 if lt i 6=true then j2 b i (lt i (Int.ofNat (List.length b))) else j2 b i false
def qkw_ (j3:List Int->Int->Bool->Option (As [.bool])) (self1:List Int->Int->Option (As [.bool])) (b:List Int) (i:Int) (t11:Bool):Option (As [.bool]) :=
 if t11=true then if lt i 5=true then Option.bind (at? b i) fun y=>j3 b i (nei y 0) else j3 b i false else some (true,())
def qk8_ (j4:List Int->Int->Bool->Option (As [.bool])) (self1:List Int->Int->Option (As [.bool])) (b:List Int) (i:Int) (t22:Bool):Option (As [.bool]) :=
 if t22=true then some (false,()) else if eqi i 5=true then Option.bind (at? b i) fun y=>if lt y 2=true then j4 b i true else Option.bind (at? b i) fun y=>j4 b i (gt (cvt .i64 y) 254) else j4 b i false
def qy5_ (self1:List Int->Int->Option (As [.bool])) (b:List Int) (i:Int) (t39:Bool):Option (As [.bool]) :=
 if t39=true then some (false,()) else self1 b (add .i64 i 1)
def qk1_ (j1:List Int->Int->Option (As [.bool])) (b:List Int):Option (As [.bool]) :=
 j1 b 2
def qsr_ (u1:List Int->Int->Option (As [.bool])) (b:List Int) (i:Int) (t39:Bool):Option (As [.bool]):=qy5_ u1 b i t39
def qfr_ (u1:List Int->Int->Option (As [.bool])) (b:List Int) (i:Int) (t22:Bool):Option (As [.bool]):=qk8_ (qsr_ u1) u1 b i t22
def q5i_ (u1:List Int->Int->Option (As [.bool])) (b:List Int) (i:Int) (t11:Bool):Option (As [.bool]):=qkw_ (qfr_ u1) u1 b i t11
def qft_ (b:List Int) (i:Int):Option (As [.bool]) :=
 loopF (fun (self:(List Int)×(Int)->Option (As [.bool])) (s:(List Int)×(Int))=>q78_ (q5i_ (fun b i=>self (b,i))) (fun b i=>self (b,i)) s.1 s.2) 18446744073709551616 (b,i)
def qmg_ (x:As [.sl (.int .u8)]):Option (As [.bool]):=qk1_ qft_ x.1
theorem q199_ (J:Orc (As [.bool])) (w1:St->Option (As [.bool])) (b:List Int) (i:Int) (t39:Bool):pfn Tryz.prog q2q_ 6 18446744073709551616 (Ev.get q2p_) 185 q26_ J 841 [w1] (qk0_ b i t39)=qy5_ (fun b i=>w1 (q25_ b i)) b i t39:=by kernel_rfl
theorem q1a8_ (J:Orc (As [.bool])) (w1:St->Option (As [.bool])) (b:List Int) (i:Int) (t22:Bool):pfn Tryz.prog q2q_ 6 18446744073709551616 (Ev.get q2p_) 185 q26_ J 840 [w1] (qjt_ b i t22)=qk8_ (fun b i t39=>J 841 [w1] (qk0_ b i t39)) (fun b i=>w1 (q25_ b i)) b i t22:=by kernel_rfl
theorem q18q_ (J:Orc (As [.bool])) (w1:St->Option (As [.bool])) (b:List Int) (i:Int) (t11:Bool):pfn Tryz.prog q2q_ 6 18446744073709551616 (Ev.get q2p_) 185 q26_ J 104 [w1] (qjv_ b i t11)=qkw_ (fun b i t22=>J 840 [w1] (qjt_ b i t22)) (fun b i=>w1 (q25_ b i)) b i t11:=by kernel_rfl
theorem q181_ (J:Orc (As [.bool])) (w1:St->Option (As [.bool])) (b:List Int) (i:Int):pfn Tryz.prog q2q_ 6 18446744073709551616 (Ev.get q2p_) 185 q26_ J 26 [w1] (q25_ b i)=q78_ (fun b i t11=>J 104 [w1] (qjv_ b i t11)) (fun b i=>w1 (q25_ b i)) b i:=by kernel_rfl
theorem q18z_ (J:Orc (As [.bool])) (x:As [.sl (.int .u8)]):rfn Tryz.prog q2q_ 6 18446744073709551616 (Ev.get q2p_) 185 q26_ J x=qk1_ (fun b i=>J 26 [] (q25_ b i)) x.1:=by kernel_rfl
theorem q198_ (w1:St->Option (As [.bool])) (b:List Int) (i:Int) (t39:Bool):jfn Tryz.prog q2q_ 6 18446744073709551616 (Ev.get q2p_) 185 q26_ 841 [w1] (qk0_ b i t39)=qsr_ (fun b i=>w1 (q25_ b i)) b i t39:=by
 rw [q8_ (by decide)]
 rw [q199_]
 rfl
theorem q19t_ (w1:St->Option (As [.bool])) (b:List Int) (i:Int) (t22:Bool):jfn Tryz.prog q2q_ 6 18446744073709551616 (Ev.get q2p_) 185 q26_ 840 [w1] (qjt_ b i t22)=qfr_ (fun b i=>w1 (q25_ b i)) b i t22:=by
 rw [q8_ (by decide)]
 have e4:(fun b i t39=>(jfn Tryz.prog q2q_ 6 18446744073709551616 (Ev.get q2p_) 185 q26_) 841 [w1] (qk0_ b i t39))=qsr_ (fun b i=>w1 (q25_ b i)):=by funext b i t39; exact q198_ w1 b i t39
 rw [q1a8_,e4]
 rfl
theorem q188_ (w1:St->Option (As [.bool])) (b:List Int) (i:Int) (t11:Bool):jfn Tryz.prog q2q_ 6 18446744073709551616 (Ev.get q2p_) 185 q26_ 104 [w1] (qjv_ b i t11)=q5i_ (fun b i=>w1 (q25_ b i)) b i t11:=by
 rw [q8_ (by decide)]
 have e3:(fun b i t22=>(jfn Tryz.prog q2q_ 6 18446744073709551616 (Ev.get q2p_) 185 q26_) 840 [w1] (qjt_ b i t22))=qfr_ (fun b i=>w1 (q25_ b i)):=by funext b i t22; exact q19t_ w1 b i t22
 rw [q18q_,e3]
 rfl
theorem q1a7_ (b:List Int) (i:Int):jfn Tryz.prog q2q_ 6 18446744073709551616 (Ev.get q2p_) 185 q26_ 26 [] (q25_ b i)=qft_ b i:=by
 rw [q8_ (by decide)]
 rw [qr_ (by kernel_rfl)]
 refine qi_ (σ:=(List Int)×(Int)) (mk:=fun s=>q25_ s.1 s.2) (fun w1 s=>?_) 18446744073709551616 (b,i)
 have e2:(fun b i t11=>(jfn Tryz.prog q2q_ 6 18446744073709551616 (Ev.get q2p_) 185 q26_) 104 [w1] (qjv_ b i t11))=q5i_ (fun b i=>w1 (q25_ b i)):=by funext b i t11; exact q188_ w1 b i t11
 refine (q181_ _ w1 s.1 s.2).trans ?_
 rw [e2]
theorem q1b9_ (x:As [.sl (.int .u8)]):evT Tryz.prog q2q_ 6 18446744073709551616 (Ev.get q2p_) 185 q26_ x=qmg_ x:=by
 have e1:(fun b i=>(jfn Tryz.prog q2q_ 6 18446744073709551616 (Ev.get q2p_) 185 q26_) 26 [] (q25_ b i))=qft_:=by funext b i; exact q1a7_ b i
 rw [q5_,q18z_,e1]
 rfl
theorem q18t_:CtOk Tryz.prog (fun _=>True) 185 ⟨q26_,qmg_⟩:=q3_ q4_ q1b9_
@[reducible] def qco_:Sh:=⟨[.d (.sl (.int .u8))],[],[.sl (.int .u8)],[.d (.pr (.int .u16) YTT14),.d (.int .i64)],[],0,[.pr (.int .u16) YTT14,.int .i64]⟩
def qiy_:Env:=(cts [(185,(⟨q26_,qmg_⟩:Ct))])
def qjn_:List (Nat×Hint):=[(6,⟨[],[0,2,13]⟩)]
def qo1_ (b:List Int) (t13:Bool) (t2 t2_2:Int):St:={ fr:=[(0,.d (.sl (.int .u8)) b),(2,.pb 0 0),(13,.d .bool t13)],nt:=49,up:=[],own:=[(0,.box 148 [.d (.int .u16) t2,.d (.int .u8) t2_2,.k (Go.Value.slice Option.none 0 0)])],nx:=1,log:=[],ln:=0 }
def qmq_ (b:List Int) (t13:Bool) (t2 t2_2:Int):Option (As [.pr (.int .u16) YTT14,.int .i64]) :=
 if t13=true then some ((0,0,[]),0,()) else Option.bind (at? b 5) fun y=>if lt (Int.ofNat (List.length b)) (add .i64 6 (cvt .i64 y))=true then some ((0,0,[]),0,()) else need (ge (Sx.sub .i64 (add .i64 6 (cvt .i64 y)) 7) 0) (need (Ev.capOk (Sx.sub .i64 (add .i64 6 (cvt .i64 y)) 7) (Sx.sub .i64 (add .i64 6 (cvt .i64 y)) 7)) (need (small (Int.toNat (Sx.sub .i64 (add .i64 6 (cvt .i64 y)) 7))) (Option.bind (cut b 7 (add .i64 6 (cvt .i64 y))) fun y_1=>need (le (Int.ofNat (0 + List.length (List.replicate (α:=Int) (Int.toNat (Sx.sub .i64 (add .i64 6 (cvt .i64 y)) 7)) 0))) (Int.ofNat (List.length (List.replicate (α:=Int) (Int.toNat (Sx.sub .i64 (add .i64 6 (cvt .i64 y)) 7)) 0)))) (Option.bind (at? b 0) fun y_2=>Option.bind (at? b 1) fun y_3=>Option.bind (at? b 6) fun y_4=>some ((Sx.bor .u16 (Sx.shl .u16 (cvt .u16 y_2) 8) (cvt .u16 y_3),y_4,List.take (Int.toNat (Int.ofNat (List.length (List.replicate (α:=Int) (Int.toNat (Sx.sub .i64 (add .i64 6 (cvt .i64 y)) 7)) 0)))) y_1++List.drop (0 + List.length (List.take (Int.toNat (Int.ofNat (List.length (List.replicate (α:=Int) (Int.toNat (Sx.sub .i64 (add .i64 6 (cvt .i64 y)) 7)) 0)))) y_1)) (List.replicate (Int.toNat (Sx.sub .i64 (add .i64 6 (cvt .i64 y)) 7)) 0)),add .i64 6 (cvt .i64 y),())))))
def qd2_ (j1:List Int->Bool->Int->Int->Option (As [.pr (.int .u16) YTT14,.int .i64])) (b:List Int):Option (As [.pr (.int .u16) YTT14,.int .i64]) :=
 if le (Int.ofNat (List.length b)) 7=true then j1 b true 0 0 else Option.bind (qmg_ (b,())) fun y=>j1 b (!y.1) 0 0
def qh7_ (b:List Int) (t13:Bool) (t2 t2_2:Int):Option (As [.pr (.int .u16) YTT14,.int .i64]):=qmq_ b t13 t2 t2_2
def qki_ (x:As [.sl (.int .u8)]):Option (As [.pr (.int .u16) YTT14,.int .i64]):=qd2_ qh7_ x.1
theorem q1d9_ (J:Orc (As [.pr (.int .u16) YTT14,.int .i64])) (b:List Int) (t13:Bool) (t2 t2_2:Int):pfn Tryz.prog qiy_ 6 18446744073709551616 (Ev.get qjn_) 141 qco_ J 6 [] (qo1_ b t13 t2 t2_2)=qmq_ b t13 t2 t2_2:=by kernel_rfl
theorem q1cp_ (J:Orc (As [.pr (.int .u16) YTT14,.int .i64])) (x:As [.sl (.int .u8)]):rfn Tryz.prog qiy_ 6 18446744073709551616 (Ev.get qjn_) 141 qco_ J x=qd2_ (fun b t13 t2 t2_2=>J 6 [] (qo1_ b t13 t2 t2_2)) x.1:=by kernel_rfl
theorem q1bp_ (b:List Int) (t13:Bool) (t2 t2_2:Int):jfn Tryz.prog qiy_ 6 18446744073709551616 (Ev.get qjn_) 141 qco_ 6 [] (qo1_ b t13 t2 t2_2)=qh7_ b t13 t2 t2_2:=by
 rw [q8_ (by decide)]
 rw [q1d9_]
 rfl
theorem q1h7_ (x:As [.sl (.int .u8)]):evT Tryz.prog qiy_ 6 18446744073709551616 (Ev.get qjn_) 141 qco_ x=qki_ x:=by
 have e1:(fun b t13 t2 t2_2=>(jfn Tryz.prog qiy_ 6 18446744073709551616 (Ev.get qjn_) 141 qco_) 6 [] (qo1_ b t13 t2 t2_2))=qh7_:=by funext b t13 t2 t2_2; exact q1bp_ b t13 t2 t2_2
 rw [q5_,q1cp_,e1]
 rfl
theorem q1cm_:CtOk Tryz.prog (fun _=>True) 141 ⟨qco_,qki_⟩:=q3_ (q0_ q18t_ q4_) q1h7_
@[reducible] def qby_:Sh:=⟨[.d (.sl (.int .u8))],[],[.sl (.int .u8)],[.d (.pr (.int .u16) YTT14),.d (.int .i64)],[],0,[.pr (.int .u16) YTT14,.int .i64]⟩
def qjm_:Env:=(cts [(141,(⟨qco_,qki_⟩:Ct))])
def qjl_:List (Nat×Hint):=[(14,⟨[],[2,4,18]⟩)]
def qo5_ (t18:Bool) (t2 t2_2:Int) (x:Int×Int×List Int):St:={ fr:=[(2,.pb 0 0),(4,.pb 1 0),(18,.d .bool t18)],nt:=21,up:=[],own:=[(0,.box 148 [.d (.int .u16) t2,.d (.int .u8) t2_2,.k (Go.Value.slice Option.none 0 0)]),(1,.box 148 [.d (.int .u16) x.1,.d (.int .u8) x.2.1,.d (.sl (.int .u8)) x.2.2])],nx:=2,log:=[],ln:=0 }
def q11h_ (t18:Bool) (t2 t2_2:Int) (x:Int×Int×List Int):Option (As [.pr (.int .u16) YTT14,.int .i64]) :=
 if t18=true then some ((0,0,[]),10,()) else some (x,0,())
def qnv_ (j1:Bool->Int->Int->Int×Int×List Int->Option (As [.pr (.int .u16) YTT14,.int .i64])) (b:List Int):Option (As [.pr (.int .u16) YTT14,.int .i64]) :=
 Option.bind (qki_ (b,())) fun y=>if eqi y.2.1 0=true then j1 true 0 0 y.1 else j1 (nei y.2.1 (Int.ofNat (List.length b))) 0 0 y.1
def qhe_ (t18:Bool) (t2 t2_2:Int) (x:Int×Int×List Int):Option (As [.pr (.int .u16) YTT14,.int .i64]):=q11h_ t18 t2 t2_2 x
def qr3_ (x:As [.sl (.int .u8)]):Option (As [.pr (.int .u16) YTT14,.int .i64]):=qnv_ qhe_ x.1
theorem q1bg_ (J:Orc (As [.pr (.int .u16) YTT14,.int .i64])) (t18:Bool) (t2 t2_2:Int) (x:Int×Int×List Int):pfn Tryz.prog qjm_ 6 18446744073709551616 (Ev.get qjl_) 87 qby_ J 14 [] (qo5_ t18 t2 t2_2 x)=q11h_ t18 t2 t2_2 x:=by kernel_rfl
theorem q1b6_ (J:Orc (As [.pr (.int .u16) YTT14,.int .i64])) (x:As [.sl (.int .u8)]):rfn Tryz.prog qjm_ 6 18446744073709551616 (Ev.get qjl_) 87 qby_ J x=qnv_ (fun t18 t2 t2_2 x=>J 14 [] (qo5_ t18 t2 t2_2 x)) x.1:=by kernel_rfl
theorem q1bi_ (t18:Bool) (t2 t2_2:Int) (x:Int×Int×List Int):jfn Tryz.prog qjm_ 6 18446744073709551616 (Ev.get qjl_) 87 qby_ 14 [] (qo5_ t18 t2 t2_2 x)=qhe_ t18 t2 t2_2 x:=by
 rw [q8_ (by decide)]
 rw [q1bg_]
 rfl
theorem q1gf_ (x:As [.sl (.int .u8)]):evT Tryz.prog qjm_ 6 18446744073709551616 (Ev.get qjl_) 87 qby_ x=qr3_ x:=by
 have e1:(fun t18 t2 t2_2 x=>(jfn Tryz.prog qjm_ 6 18446744073709551616 (Ev.get qjl_) 87 qby_) 14 [] (qo5_ t18 t2 t2_2 x))=qhe_:=by funext t18 t2 t2_2 x; exact q1bi_ t18 t2 t2_2 x
 rw [q5_,q1b6_,e1]
 rfl
theorem q1b5_:CtOk Tryz.prog (fun _=>True) 87 ⟨qby_,qr3_⟩:=q3_ (q0_ q1cm_ q4_) q1gf_
@[reducible] def qeb_:Sh:=⟨[.d (.pr (.int .u16) YTT14)],[],[.pr (.int .u16) YTT14],[.d (.sl (.int .u8)),.d (.int .i64)],[],0,[.sl (.int .u8),.int .i64]⟩
def qm2_:Env:=(cts [])
def qls_:List (Nat×Hint):=[(14,⟨[],[1,4,14]⟩)]
def qqv_ (n:Int) (t14:Bool) (x:Int×Int×List Int):St:={ fr:=[(1,.pb 0 0),(4,.d (.int .i64) n),(14,.d .bool t14)],nt:=37,up:=[],own:=[(0,.box 148 [.d (.int .u16) x.1,.d (.int .u8) x.2.1,.d (.sl (.int .u8)) x.2.2])],nx:=1,log:=[],ln:=0 }
def qpl_ (n:Int) (t14:Bool) (x:Int×Int×List Int):Option (As [.sl (.int .u8),.int .i64]) :=
 if t14=true then some ([],2,()) else need (Ev.capOk 0 (add .i64 7 n)) (need (small (Int.toNat (add .i64 7 n))) (need (small (0 + Nat.succ (Nat.succ (Nat.succ (Nat.succ (Nat.succ (Nat.succ (Nat.succ 0)))))))) (need (small (Nat.succ (Nat.succ (Nat.succ (Nat.succ (Nat.succ (Nat.succ (Nat.succ 0)))))) + List.length x.2.2)) (some (cvt .u8 (Sx.shr .u16 x.1 8)::cvt .u8 x.1::0::0::0::cvt .u8 (add .i64 n 1)::x.2.1::x.2.2,0,())))))
def qre_ (j1:Int->Bool->Int×Int×List Int->Option (As [.sl (.int .u8),.int .i64])) (x:Int×Int×List Int):Option (As [.sl (.int .u8),.int .i64]) :=
 if lt (Int.ofNat (List.length x.2.2)) 1=true then j1 (Int.ofNat (List.length x.2.2)) true x else j1 (Int.ofNat (List.length x.2.2)) (gt (Int.ofNat (List.length x.2.2)) 253) x
def qpw_ (n:Int) (t14:Bool) (x:Int×Int×List Int):Option (As [.sl (.int .u8),.int .i64]):=qpl_ n t14 x
def qua_ (x:As [.pr (.int .u16) YTT14]):Option (As [.sl (.int .u8),.int .i64]):=qre_ qpw_ x.1
theorem q1ev_ (J:Orc (As [.sl (.int .u8),.int .i64])) (n:Int) (t14:Bool) (x:Int×Int×List Int):pfn Tryz.prog qm2_ 6 18446744073709551616 (Ev.get qls_) 88 qeb_ J 14 [] (qqv_ n t14 x)=qpl_ n t14 x:=by kernel_rfl
theorem q1f1_ (J:Orc (As [.sl (.int .u8),.int .i64])) (x:As [.pr (.int .u16) YTT14]):rfn Tryz.prog qm2_ 6 18446744073709551616 (Ev.get qls_) 88 qeb_ J x=qre_ (fun n t14 x=>J 14 [] (qqv_ n t14 x)) x.1:=by kernel_rfl
theorem q1fo_ (n:Int) (t14:Bool) (x:Int×Int×List Int):jfn Tryz.prog qm2_ 6 18446744073709551616 (Ev.get qls_) 88 qeb_ 14 [] (qqv_ n t14 x)=qpw_ n t14 x:=by
 rw [q8_ (by decide)]
 rw [q1ev_]
 rfl
theorem q1ie_ (x:As [.pr (.int .u16) YTT14]):evT Tryz.prog qm2_ 6 18446744073709551616 (Ev.get qls_) 88 qeb_ x=qua_ x:=by
 have e1:(fun n t14 x=>(jfn Tryz.prog qm2_ 6 18446744073709551616 (Ev.get qls_) 88 qeb_) 14 [] (qqv_ n t14 x))=qpw_:=by funext n t14 x; exact q1fo_ n t14 x
 rw [q5_,q1f1_,e1]
 rfl
theorem q1dn_:CtOk Tryz.prog (fun _=>True) 88 ⟨qeb_,qua_⟩:=q3_ q4_ q1ie_
@[reducible] def q59_:Sh:=⟨[.d (.pr (.int .u8) (.pr (.int .u8) (.pr (.pr (.sl (.int .u16)) YTT0) (.sl .bool)))),.d (.sl (.int .u8))],[],[.pr (.int .u8) (.pr (.int .u8) (.pr (.pr (.sl (.int .u16)) YTT0) (.sl .bool))),.sl (.int .u8)],[.d (.pr (.int .u8) (.pr (.int .u8) (.pr (.pr (.sl (.int .u16)) YTT0) (.sl .bool)))),.d (.sl (.int .u8))],[],0,[.pr (.int .u8) (.pr (.int .u8) (.pr (.pr (.sl (.int .u16)) YTT0) (.sl .bool))),.sl (.int .u8)]⟩
def q9n_:Env:=(cts [(14,(⟨q8m_,q5f_⟩:Ct)),(28,(⟨qbn_,qdk_⟩:Ct)),(30,(⟨qbb_,qdt_⟩:Ct)),(63,(⟨q9g_,qb8_⟩:Ct)),(87,(⟨qby_,qr3_⟩:Ct)),(88,(⟨qeb_,qua_⟩:Ct))])
def q9s_:List (Nat×Hint):=[(30,⟨[],[2,4,10,11,62]⟩),(106,⟨[],[2,4,6,31]⟩)]
def qmt_ (s t4:Int) (t31:Bool) (s_2 t4_2:List (YaAq0)) (x:Int×Int×List Int):St:={ fr:=[(2,.prw 0 s 35 0),(4,.prw 1 t4 35 0),(6,.pb 2 0),(31,.d .bool t31)],nt:=79,up:=[],own:=[(0,.row (.pr (.int .u8) (.pr (.int .u8) (.pr (.pr (.sl (.int .u16)) YTT0) (.sl .bool)))) 38 s_2),(1,.row (.pr (.int .u8) (.pr (.int .u8) (.pr (.pr (.sl (.int .u16)) YTT0) (.sl .bool)))) 38 t4_2),(2,.box 148 [.d (.int .u16) x.1,.d (.int .u8) x.2.1,.d (.sl (.int .u8)) x.2.2])],nx:=3,log:=[],ln:=0 }
def qnz_ (s t4 unit:Int) (pdu:List Int) (t62:Bool) (s_2 t4_2:List (YaAq0)):St:={ fr:=[(2,.prw 0 s 35 0),(4,.prw 1 t4 35 0),(10,.d (.int .u8) unit),(11,.d (.sl (.int .u8)) pdu),(62,.d .bool t62)],nt:=79,up:=[],own:=[(0,.row (.pr (.int .u8) (.pr (.int .u8) (.pr (.pr (.sl (.int .u16)) YTT0) (.sl .bool)))) 38 s_2),(1,.row (.pr (.int .u8) (.pr (.int .u8) (.pr (.pr (.sl (.int .u16)) YTT0) (.sl .bool)))) 38 t4_2)],nx:=2,log:=[],ln:=0 }
def qd8_ (s t4:Int) (t31:Bool) (s_2 t4_2:List (YaAq0)) (x:Int×Int×List Int):Option (As [.pr (.int .u8) (.pr (.int .u8) (.pr (.pr (.sl (.int .u16)) YTT0) (.sl .bool))),.sl (.int .u8)]) :=
 if t31=true then Option.bind (at? s_2 s) fun y=>Option.bind (qb8_ (y,())) fun y=>Option.bind (at? t4_2 t4) fun x=>Option.bind (at? (List.set t4_2 (Int.toNat t4) y.1) t4) fun y_1=>Option.bind (at? (List.set t4_2 (Int.toNat t4) y.1) t4) fun y=>some (y,[],()) else Option.bind (at? s_2 s) fun y=>Option.bind (q5f_ (y,x.2.2,())) fun y=>Option.bind (at? s_2 s) fun x_1=>Option.bind (qua_ ((x.1,x.2.1,y.2.1),())) fun y_1=>Option.bind (at? (List.set s_2 (Int.toNat s) y.1) s) fun y=>Option.bind (at? t4_2 t4) fun x=>Option.bind (at? (List.set t4_2 (Int.toNat t4) y) t4) fun y_2=>Option.bind (at? (List.set t4_2 (Int.toNat t4) y) t4) fun y=>some (y,y_1.1,())
def qcv_ (s t4 unit:Int) (pdu:List Int) (t62:Bool) (s_2 t4_2:List (YaAq0)):Option (As [.pr (.int .u8) (.pr (.int .u8) (.pr (.pr (.sl (.int .u16)) YTT0) (.sl .bool))),.sl (.int .u8)]) :=
 if t62=true then Option.bind (at? s_2 s) fun y=>Option.bind (qb8_ (y,())) fun y=>Option.bind (at? t4_2 t4) fun x=>Option.bind (at? (List.set t4_2 (Int.toNat t4) y.1) t4) fun y_1=>Option.bind (at? (List.set t4_2 (Int.toNat t4) y.1) t4) fun y=>some (y,[],()) else Option.bind (at? s_2 s) fun y=>Option.bind (q5f_ (y,pdu,())) fun y=>Option.bind (at? s_2 s) fun x=>Option.bind (qdk_ (unit,y.2.1,())) fun y_1=>Option.bind (at? (List.set s_2 (Int.toNat s) y.1) s) fun y=>Option.bind (at? t4_2 t4) fun x=>Option.bind (at? (List.set t4_2 (Int.toNat t4) y) t4) fun y_2=>Option.bind (at? (List.set t4_2 (Int.toNat t4) y) t4) fun y=>some (y,y_1.1,())
def qo7_ (j1:Int->Int->Bool->List (YaAq0)->List (YaAq0)->Int×Int×List Int->Option (As [.pr (.int .u8) (.pr (.int .u8) (.pr (.pr (.sl (.int .u16)) YTT0) (.sl .bool))),.sl (.int .u8)])) (j2:Int->Int->Int->List Int->Bool->List (YaAq0)->List (YaAq0)->Option (As [.pr (.int .u8) (.pr (.int .u8) (.pr (.pr (.sl (.int .u16)) YTT0) (.sl .bool))),.sl (.int .u8)])) (s:YaAq0) (frame:List Int):Option (As [.pr (.int .u8) (.pr (.int .u8) (.pr (.pr (.sl (.int .u16)) YTT0) (.sl .bool))),.sl (.int .u8)]) :=
 if eqi s.2.1 2=true then Option.bind (qr3_ (frame,())) fun y=>if nei y.2.1 0=true then j1 0 0 true [s] [zSl] y.1 else j1 0 0 (nei y.1.2.1 s.1) [s] [zSl] y.1 else Option.bind (qdt_ (frame,())) fun y=>if nei y.2.2.1 0=true then j2 0 0 y.1 y.2.1 true [s] [zSl] else j2 0 0 y.1 y.2.1 (nei y.1 s.1) [s] [zSl]
def qag_ (s t4:Int) (t31:Bool) (s_2 t4_2:List (YaAq0)) (x:Int×Int×List Int):Option (As [.pr (.int .u8) (.pr (.int .u8) (.pr (.pr (.sl (.int .u16)) YTT0) (.sl .bool))),.sl (.int .u8)]):=qd8_ s t4 t31 s_2 t4_2 x
def qd7_ (s t4 unit:Int) (pdu:List Int) (t62:Bool) (s_2 t4_2:List (YaAq0)):Option (As [.pr (.int .u8) (.pr (.int .u8) (.pr (.pr (.sl (.int .u16)) YTT0) (.sl .bool))),.sl (.int .u8)]):=qcv_ s t4 unit pdu t62 s_2 t4_2
def q9f_ (x:As [.pr (.int .u8) (.pr (.int .u8) (.pr (.pr (.sl (.int .u16)) YTT0) (.sl .bool))),.sl (.int .u8)]):Option (As [.pr (.int .u8) (.pr (.int .u8) (.pr (.pr (.sl (.int .u16)) YTT0) (.sl .bool))),.sl (.int .u8)]):=qo7_ qag_ qd7_ x.1 x.2.1
theorem q1c1_ (J:Orc (As [.pr (.int .u8) (.pr (.int .u8) (.pr (.pr (.sl (.int .u16)) YTT0) (.sl .bool))),.sl (.int .u8)])) (s t4:Int) (t31:Bool) (s_2 t4_2:List (YaAq0)) (x:Int×Int×List Int):pfn Tryz.prog q9n_ 6 18446744073709551616 (Ev.get q9s_) 29 q59_ J 106 [] (qmt_ s t4 t31 s_2 t4_2 x)=qd8_ s t4 t31 s_2 t4_2 x:=by kernel_rfl
theorem q1bq_ (J:Orc (As [.pr (.int .u8) (.pr (.int .u8) (.pr (.pr (.sl (.int .u16)) YTT0) (.sl .bool))),.sl (.int .u8)])) (s t4 unit:Int) (pdu:List Int) (t62:Bool) (s_2 t4_2:List (YaAq0)):pfn Tryz.prog q9n_ 6 18446744073709551616 (Ev.get q9s_) 29 q59_ J 30 [] (qnz_ s t4 unit pdu t62 s_2 t4_2)=qcv_ s t4 unit pdu t62 s_2 t4_2:=by kernel_rfl
theorem q1al_ (J:Orc (As [.pr (.int .u8) (.pr (.int .u8) (.pr (.pr (.sl (.int .u16)) YTT0) (.sl .bool))),.sl (.int .u8)])) (x:As [.pr (.int .u8) (.pr (.int .u8) (.pr (.pr (.sl (.int .u16)) YTT0) (.sl .bool))),.sl (.int .u8)]):rfn Tryz.prog q9n_ 6 18446744073709551616 (Ev.get q9s_) 29 q59_ J x=qo7_ (fun s t4 t31 s_2 t4_2 x=>J 106 [] (qmt_ s t4 t31 s_2 t4_2 x)) (fun s t4 unit pdu t62 s_2 t4_2=>J 30 [] (qnz_ s t4 unit pdu t62 s_2 t4_2)) x.1 x.2.1:=by kernel_rfl
theorem q1cv_ (s t4:Int) (t31:Bool) (s_2 t4_2:List (YaAq0)) (x:Int×Int×List Int):jfn Tryz.prog q9n_ 6 18446744073709551616 (Ev.get q9s_) 29 q59_ 106 [] (qmt_ s t4 t31 s_2 t4_2 x)=qag_ s t4 t31 s_2 t4_2 x:=by
 rw [q8_ (by decide)]
 rw [q1c1_]
 rfl
theorem q1b7_ (s t4 unit:Int) (pdu:List Int) (t62:Bool) (s_2 t4_2:List (YaAq0)):jfn Tryz.prog q9n_ 6 18446744073709551616 (Ev.get q9s_) 29 q59_ 30 [] (qnz_ s t4 unit pdu t62 s_2 t4_2)=qd7_ s t4 unit pdu t62 s_2 t4_2:=by
 rw [q8_ (by decide)]
 rw [q1bq_]
 rfl
theorem q1dm_ (x:As [.pr (.int .u8) (.pr (.int .u8) (.pr (.pr (.sl (.int .u16)) YTT0) (.sl .bool))),.sl (.int .u8)]):evT Tryz.prog q9n_ 6 18446744073709551616 (Ev.get q9s_) 29 q59_ x=q9f_ x:=by
 have e1:(fun s t4 t31 s_2 t4_2 x=>(jfn Tryz.prog q9n_ 6 18446744073709551616 (Ev.get q9s_) 29 q59_) 106 [] (qmt_ s t4 t31 s_2 t4_2 x))=qag_:=by funext s t4 t31 s_2 t4_2 x; exact q1cv_ s t4 t31 s_2 t4_2 x
 have e2:(fun s t4 unit pdu t62 s_2 t4_2=>(jfn Tryz.prog q9n_ 6 18446744073709551616 (Ev.get q9s_) 29 q59_) 30 [] (qnz_ s t4 unit pdu t62 s_2 t4_2))=qd7_:=by funext s t4 unit pdu t62 s_2 t4_2; exact q1b7_ s t4 unit pdu t62 s_2 t4_2
 rw [q5_,q1al_,e1,e2]
 rfl
theorem q115_:CtOk Tryz.prog (fun _=>True) 29 ⟨q59_,q9f_⟩:=q3_ (q0_ qkr_ (q0_ q13d_ (q0_ q13l_ (q0_ qwh_ (q0_ q1b5_ (q0_ q1dn_ q4_)))))) q1dm_
@[reducible] def qc8_:Sh:=⟨[.d (.pr (.int .u16) (.int .i64))],[],[.pr (.int .u16) (.int .i64)],[.d (.pr (.int .u16) (.int .i64)),.d (.bool)],[],0,[.pr (.int .u16) (.int .i64),.bool]⟩
def qja_:Env:=(cts [(113,(⟨q9x_,q5j_⟩:Ct)),(167,(⟨q7o_,q4b_⟩:Ct)),(207,(⟨qc7_,q6l_⟩:Ct))])
def qj1_:List (Nat×Hint):=[(14,⟨[],[1,2,14]⟩)]
def qn8_ (t14:Bool) (l t2:Int×Int):St:={ fr:=[(1,.pb 0 0),(2,.pb 1 0),(14,.d .bool t14)],nt:=25,up:=[],own:=[(0,.box 27 [.d (.int .u16) l.1,.d (.int .i64) l.2]),(1,.box 27 [.d (.int .u16) t2.1,.d (.int .i64) t2.2])],nx:=2,log:=[],ln:=0 }
def qo4_ (t14:Bool) (l t2:Int×Int):Option (As [.pr (.int .u16) (.int .i64),.bool]) :=
 if t14=true then some (l,false,()) else if eqi (Sx.sub .i64 l.2 1) 0=true then some ((0,0),true,()) else some ((l.1,Sx.sub .i64 l.2 1),false,())
def qmu_ (j1:Bool->Int×Int->Int×Int->Option (As [.pr (.int .u16) (.int .i64),.bool])) (l:Int×Int):Option (As [.pr (.int .u16) (.int .i64),.bool]) :=
 Option.bind (q4b_ (l,())) fun y=>Option.bind (q5j_ (y.1,())) fun y_1=>if y_1.1=true then j1 true y.1 (0,0) else Option.bind (q6l_ (y.1.1,())) fun y_2=>j1 (eqi y.1.1 y_2.1.1 && (eqi y.1.2 y_2.1.2 && true)) y.1 (0,0)
def qnb_ (t14:Bool) (l t2:Int×Int):Option (As [.pr (.int .u16) (.int .i64),.bool]):=qo4_ t14 l t2
def qq4_ (x:As [.pr (.int .u16) (.int .i64)]):Option (As [.pr (.int .u16) (.int .i64),.bool]):=qmu_ qnb_ x.1
theorem q1ch_ (J:Orc (As [.pr (.int .u16) (.int .i64),.bool])) (t14:Bool) (l t2:Int×Int):pfn Tryz.prog qja_ 6 18446744073709551616 (Ev.get qj1_) 179 qc8_ J 14 [] (qn8_ t14 l t2)=qo4_ t14 l t2:=by kernel_rfl
theorem q1bb_ (J:Orc (As [.pr (.int .u16) (.int .i64),.bool])) (x:As [.pr (.int .u16) (.int .i64)]):rfn Tryz.prog qja_ 6 18446744073709551616 (Ev.get qj1_) 179 qc8_ J x=qmu_ (fun t14 l t2=>J 14 [] (qn8_ t14 l t2)) x.1:=by kernel_rfl
theorem q1cw_ (t14:Bool) (l t2:Int×Int):jfn Tryz.prog qja_ 6 18446744073709551616 (Ev.get qj1_) 179 qc8_ 14 [] (qn8_ t14 l t2)=qnb_ t14 l t2:=by
 rw [q8_ (by decide)]
 rw [q1ch_]
 rfl
theorem q1gi_ (x:As [.pr (.int .u16) (.int .i64)]):evT Tryz.prog qja_ 6 18446744073709551616 (Ev.get qj1_) 179 qc8_ x=qq4_ x:=by
 have e1:(fun t14 l t2=>(jfn Tryz.prog qja_ 6 18446744073709551616 (Ev.get qj1_) 179 qc8_) 14 [] (qn8_ t14 l t2))=qnb_:=by funext t14 l t2; exact q1cw_ t14 l t2
 rw [q5_,q1bb_,e1]
 rfl
theorem q1am_:CtOk Tryz.prog (fun _=>True) 179 ⟨qc8_,qq4_⟩:=q3_ (q0_ qho_ (q0_ qgw_ (q0_ qo8_ q4_))) q1gi_
@[reducible] def qp8_:Sh:=⟨[.d (.pr (.sl (.int .u16)) YTT0)],[],[.pr (.sl (.int .u16)) YTT0],[.d (.pr (.sl (.int .u16)) YTT0)],[],0,[.pr (.sl (.int .u16)) YTT0]⟩
def q136_:Env:=(cts [(178,(⟨q4l_,q9o_⟩:Ct)),(179,(⟨qc8_,qq4_⟩:Ct)),(180,(⟨q8i_,q4n_⟩:Ct))])
def q133_:List (Nat×Hint):=[]
def qn3_ (a:List Int×(Int×Int)×Int×Int×Int×YTT9×Int):Option (As [.pr (.sl (.int .u16)) YTT0]) :=
 Option.bind (q9o_ (a,())) fun y=>Option.bind (qq4_ (y.1.2.1,())) fun y_1=>if y_1.2.1=true then Option.bind (q4n_ (y.1,())) fun y=>some (y.1,()) else some ((y.1.1,y_1.1,y.1.2.2),())
def qr0_ (x:As [.pr (.sl (.int .u16)) YTT0]):Option (As [.pr (.sl (.int .u16)) YTT0]):=qn3_ x.1
theorem q1bc_ (J:Orc (As [.pr (.sl (.int .u16)) YTT0])) (x:As [.pr (.sl (.int .u16)) YTT0]):rfn Tryz.prog q136_ 6 18446744073709551616 (Ev.get q133_) 136 qp8_ J x=qn3_ x.1:=by kernel_rfl
theorem q1en_ (x:As [.pr (.sl (.int .u16)) YTT0]):evT Tryz.prog q136_ 6 18446744073709551616 (Ev.get q133_) 136 qp8_ x=qr0_ x:=by
 rw [q5_,q1bc_]
 rfl
theorem q1cl_:CtOk Tryz.prog (fun _=>True) 136 ⟨qp8_,qr0_⟩:=q3_ (q0_ qs5_ (q0_ q1am_ (q0_ qfd_ q4_))) q1en_
@[reducible] def qr1_:Sh:=⟨[.d (.pr (.int .u8) (.pr (.int .u8) (.pr (.pr (.sl (.int .u16)) YTT0) (.sl .bool))))],[],[.pr (.int .u8) (.pr (.int .u8) (.pr (.pr (.sl (.int .u16)) YTT0) (.sl .bool)))],[.d (.pr (.int .u8) (.pr (.int .u8) (.pr (.pr (.sl (.int .u16)) YTT0) (.sl .bool))))],[],0,[.pr (.int .u8) (.pr (.int .u8) (.pr (.pr (.sl (.int .u16)) YTT0) (.sl .bool)))]⟩
def q12q_:Env:=(cts [(63,(⟨q9g_,qb8_⟩:Ct)),(136,(⟨qp8_,qr0_⟩:Ct))])
def q13v_:List (Nat×Hint):=[]
def qmk_ (s:YaAq0):Option (As [.pr (.int .u8) (.pr (.int .u8) (.pr (.pr (.sl (.int .u16)) YTT0) (.sl .bool)))]) :=
 Option.bind (qb8_ (s,())) fun y=>Option.bind (qr0_ (y.1.2.2.1,())) fun y_1=>some ((y.1.1,y.1.2.1,y_1.1,y.1.2.2.2),())
def qrk_ (x:As [.pr (.int .u8) (.pr (.int .u8) (.pr (.pr (.sl (.int .u16)) YTT0) (.sl .bool)))]):Option (As [.pr (.int .u8) (.pr (.int .u8) (.pr (.pr (.sl (.int .u16)) YTT0) (.sl .bool)))]):=qmk_ x.1
theorem q1b4_ (J:Orc (As [.pr (.int .u8) (.pr (.int .u8) (.pr (.pr (.sl (.int .u16)) YTT0) (.sl .bool)))])) (x:As [.pr (.int .u8) (.pr (.int .u8) (.pr (.pr (.sl (.int .u16)) YTT0) (.sl .bool)))]):rfn Tryz.prog q12q_ 6 18446744073709551616 (Ev.get q13v_) 82 qr1_ J x=qmk_ x.1:=by kernel_rfl
theorem q1eh_ (x:As [.pr (.int .u8) (.pr (.int .u8) (.pr (.pr (.sl (.int .u16)) YTT0) (.sl .bool)))]):evT Tryz.prog q12q_ 6 18446744073709551616 (Ev.get q13v_) 82 qr1_ x=qrk_ x:=by
 rw [q5_,q1b4_]
 rfl
theorem q1cd_:CtOk Tryz.prog (fun _=>True) 82 ⟨qr1_,qrk_⟩:=q3_ (q0_ qwh_ (q0_ q1cl_ q4_)) q1eh_
@[reducible] def qqi_:Sh:=⟨[.d (.pr (.sl (.int .u16)) YTT0)],[],[.pr (.sl (.int .u16)) YTT0],[.d (.pr (.sl (.int .u16)) YTT0)],[],0,[.pr (.sl (.int .u16)) YTT0]⟩
def q13c_:Env:=(cts [(178,(⟨q4l_,q9o_⟩:Ct)),(180,(⟨q8i_,q4n_⟩:Ct))])
def q13j_:List (Nat×Hint):=[]
def qn7_ (a:List Int×(Int×Int)×Int×Int×Int×YTT9×Int):Option (As [.pr (.sl (.int .u16)) YTT0]) :=
 Option.bind (q9o_ (a,())) fun y=>if eqi y.1.2.2.1 1=true then Option.bind (q4n_ (y.1,())) fun y=>some (y.1,()) else some (y.1,())
def qqj_ (x:As [.pr (.sl (.int .u16)) YTT0]):Option (As [.pr (.sl (.int .u16)) YTT0]):=qn7_ x.1
theorem q1cc_ (J:Orc (As [.pr (.sl (.int .u16)) YTT0])) (x:As [.pr (.sl (.int .u16)) YTT0]):rfn Tryz.prog q13c_ 6 18446744073709551616 (Ev.get q13j_) 137 qqi_ J x=qn7_ x.1:=by kernel_rfl
theorem q1fr_ (x:As [.pr (.sl (.int .u16)) YTT0]):evT Tryz.prog q13c_ 6 18446744073709551616 (Ev.get q13j_) 137 qqi_ x=qqj_ x:=by
 rw [q5_,q1cc_]
 rfl
theorem q1db_:CtOk Tryz.prog (fun _=>True) 137 ⟨qqi_,qqj_⟩:=q3_ (q0_ qs5_ (q0_ qfd_ q4_)) q1fr_
@[reducible] def qro_:Sh:=⟨[.d (.pr (.int .u8) (.pr (.int .u8) (.pr (.pr (.sl (.int .u16)) YTT0) (.sl .bool))))],[],[.pr (.int .u8) (.pr (.int .u8) (.pr (.pr (.sl (.int .u16)) YTT0) (.sl .bool)))],[.d (.pr (.int .u8) (.pr (.int .u8) (.pr (.pr (.sl (.int .u16)) YTT0) (.sl .bool))))],[],0,[.pr (.int .u8) (.pr (.int .u8) (.pr (.pr (.sl (.int .u16)) YTT0) (.sl .bool)))]⟩
def q12u_:Env:=(cts [(63,(⟨q9g_,qb8_⟩:Ct)),(137,(⟨qqi_,qqj_⟩:Ct))])
def q12m_:List (Nat×Hint):=[]
def qnr_ (s:YaAq0):Option (As [.pr (.int .u8) (.pr (.int .u8) (.pr (.pr (.sl (.int .u16)) YTT0) (.sl .bool)))]) :=
 Option.bind (qb8_ (s,())) fun y=>Option.bind (qqj_ (y.1.2.2.1,())) fun y_1=>some ((y.1.1,y.1.2.1,y_1.1,[false,false,false,false,false,false,false,false,false,false,false,false,false,false,false,false]),())
def qrm_ (x:As [.pr (.int .u8) (.pr (.int .u8) (.pr (.pr (.sl (.int .u16)) YTT0) (.sl .bool)))]):Option (As [.pr (.int .u8) (.pr (.int .u8) (.pr (.pr (.sl (.int .u16)) YTT0) (.sl .bool)))]):=qnr_ x.1
theorem q1dc_ (J:Orc (As [.pr (.int .u8) (.pr (.int .u8) (.pr (.pr (.sl (.int .u16)) YTT0) (.sl .bool)))])) (x:As [.pr (.int .u8) (.pr (.int .u8) (.pr (.pr (.sl (.int .u16)) YTT0) (.sl .bool)))]):rfn Tryz.prog q12u_ 6 18446744073709551616 (Ev.get q12m_) 83 qro_ J x=qnr_ x.1:=by kernel_rfl
theorem q1eq_ (x:As [.pr (.int .u8) (.pr (.int .u8) (.pr (.pr (.sl (.int .u16)) YTT0) (.sl .bool)))]):evT Tryz.prog q12u_ 6 18446744073709551616 (Ev.get q12m_) 83 qro_ x=qrm_ x:=by
 rw [q5_,q1dc_]
 rfl
theorem q1c9_:CtOk Tryz.prog (fun _=>True) 83 ⟨qro_,qrm_⟩:=q3_ (q0_ qwh_ (q0_ q1db_ q4_)) q1eq_
@[reducible] def qfn_:Sh:=⟨[.d YTT8,.d YTT8],[],[.pr (.int .i64) (.sl (.int .u16)),.pr (.int .i64) (.sl (.int .u16))],[.d (.bool)],[],0,[.bool]⟩
def qz3_:Env:=(cts [(80,(⟨q1m_,q1o_⟩:Ct))])
def qyo_:List (Nat×Hint):=[]
def qi6_ (x y:Int×List Int):Option (As [.bool]) :=
 if eqi x.1 y.1=true then Option.bind (q1o_ (x.2,y.2,())) fun y=>some (y.1,()) else some (false,())
def qew_ (x:As [.pr (.int .i64) (.sl (.int .u16)),.pr (.int .i64) (.sl (.int .u16))]):Option (As [.bool]):=qi6_ x.1 x.2.1
theorem q16p_ (J:Orc (As [.bool])) (x:As [.pr (.int .i64) (.sl (.int .u16)),.pr (.int .i64) (.sl (.int .u16))]):rfn Tryz.prog qz3_ 6 18446744073709551616 (Ev.get qyo_) 182 qfn_ J x=qi6_ x.1 x.2.1:=by kernel_rfl
theorem q18i_ (x:As [.pr (.int .i64) (.sl (.int .u16)),.pr (.int .i64) (.sl (.int .u16))]):evT Tryz.prog qz3_ 6 18446744073709551616 (Ev.get qyo_) 182 qfn_ x=qew_ x:=by
 rw [q5_,q16p_]
 rfl
theorem qx6_:CtOk Tryz.prog (fun _=>True) 182 ⟨qfn_,qew_⟩:=q3_ (q0_ q8u_ q4_) q18i_
@[reducible] def q1s_:Sh:=⟨[.d (.sl YTT8),.d (.sl YTT8),.fn (.func 182) [] []],[],[.sl YTT8,.sl YTT8],[.d (.bool)],[],0,[.bool]⟩
def q3h_:Env:=(cts [(182,(⟨qfn_,qew_⟩:Ct))])
def q3e_:List (Nat×Hint):=[(58,⟨[],[1,2,15,16,17]⟩)]
def q2a_ (s2 t15:List (Int×List Int)) (t16 t17:Int):St:={ fr:=[(1,.d (.sl YTT8) s2),(2,.fn (.func 182) [] []),(15,.d (.sl YTT8) t15),(16,.d (.int .i64) t16),(17,.d (.int .i64) t17)],nt:=32,up:=[],own:=[],nx:=0,log:=[],ln:=0 }
def q2b_ (self1:List (Int×List Int)->List (Int×List Int)->Int->Int->Option (As [.bool])) (s2 t15:List (Int×List Int)) (t16 t17:Int):Option (As [.bool]) :=
 if lt t17 t16=true then Option.bind (at? t15 t17) fun y=>Option.bind (at? s2 t17) fun y_1=>Option.bind (qew_ (y,y_1,())) fun y=>if (!y.1)=true then some (false,()) else self1 s2 t15 t16 (add .i64 t17 1) else some (true,())
def q4r_ (j1:List (Int×List Int)->List (Int×List Int)->Int->Int->Option (As [.bool])) (s1 s2:List (Int×List Int)):Option (As [.bool]) :=
 if nei (Int.ofNat (List.length s1)) (Int.ofNat (List.length s2))=true then some (false,()) else j1 s2 s1 (Int.ofNat (List.length s1)) 0
def q38_ (s2 t15:List (Int×List Int)) (t16 t17:Int):Option (As [.bool]) :=
 loopF (fun (self:(List (Int×List Int))×(List (Int×List Int))×(Int)×(Int)->Option (As [.bool])) (s:(List (Int×List Int))×(List (Int×List Int))×(Int)×(Int))=>q2b_ (fun s2 t15 t16 t17=>self (s2,t15,t16,t17)) s.1 s.2.1 s.2.2.1 s.2.2.2) 18446744073709551616 (s2,t15,t16,t17)
def q3w_ (x:As [.sl YTT8,.sl YTT8]):Option (As [.bool]):=q4r_ q38_ x.1 x.2.1
theorem qrf_ (J:Orc (As [.bool])) (w1:St->Option (As [.bool])) (s2 t15:List (Int×List Int)) (t16 t17:Int):pfn Tryz.prog q3h_ 6 18446744073709551616 (Ev.get q3e_) 181 q1s_ J 58 [w1] (q2a_ s2 t15 t16 t17)=q2b_ (fun s2 t15 t16 t17=>w1 (q2a_ s2 t15 t16 t17)) s2 t15 t16 t17:=by kernel_rfl
theorem qs4_ (J:Orc (As [.bool])) (x:As [.sl YTT8,.sl YTT8]):rfn Tryz.prog q3h_ 6 18446744073709551616 (Ev.get q3e_) 181 q1s_ J x=q4r_ (fun s2 t15 t16 t17=>J 58 [] (q2a_ s2 t15 t16 t17)) x.1 x.2.1:=by kernel_rfl
theorem qr9_ (s2 t15:List (Int×List Int)) (t16 t17:Int):jfn Tryz.prog q3h_ 6 18446744073709551616 (Ev.get q3e_) 181 q1s_ 58 [] (q2a_ s2 t15 t16 t17)=q38_ s2 t15 t16 t17:=by
 rw [q8_ (by decide)]
 rw [qr_ (by kernel_rfl)]
 refine qi_ (σ:=(List (Int×List Int))×(List (Int×List Int))×(Int)×(Int)) (mk:=fun s=>q2a_ s.1 s.2.1 s.2.2.1 s.2.2.2) (fun w1 s=>?_) 18446744073709551616 (s2,t15,t16,t17)
 refine (qrf_ _ w1 s.1 s.2.1 s.2.2.1 s.2.2.2).trans ?_
 rfl
theorem qse_ (x:As [.sl YTT8,.sl YTT8]):evT Tryz.prog q3h_ 6 18446744073709551616 (Ev.get q3e_) 181 q1s_ x=q3w_ x:=by
 have e1:(fun s2 t15 t16 t17=>(jfn Tryz.prog q3h_ 6 18446744073709551616 (Ev.get q3e_) 181 q1s_) 58 [] (q2a_ s2 t15 t16 t17))=q38_:=by funext s2 t15 t16 t17; exact qr9_ s2 t15 t16 t17
 rw [q5_,qs4_,e1]
 rfl
theorem qpq_:CtOk Tryz.prog (fun _=>True) 181 ⟨q1s_,q3w_⟩:=q3_ (q0_ qx6_ q4_) qse_
@[reducible] def qt5_:Sh:=⟨[.d (.sl YTT8),.d (.sl YTT8)],[],[.sl YTT8,.sl YTT8],[.d (.bool)],[],0,[.bool]⟩
def q14d_:Env:=(cts [(181,(⟨q1s_,q3w_⟩:Ct)),(182,(⟨qfn_,qew_⟩:Ct))])
def q14f_:List (Nat×Hint):=[]
def qpt_ (a b:List (Int×List Int)):Option (As [.bool]) :=
 Option.bind (q3w_ (a,b,())) fun y=>some (y.1,())
def qto_ (x:As [.sl YTT8,.sl YTT8]):Option (As [.bool]):=qpt_ x.1 x.2.1
theorem q1e3_ (J:Orc (As [.bool])) (x:As [.sl YTT8,.sl YTT8]):rfn Tryz.prog q14d_ 6 18446744073709551616 (Ev.get q14f_) 138 qt5_ J x=qpt_ x.1 x.2.1:=by kernel_rfl
theorem q1hv_ (x:As [.sl YTT8,.sl YTT8]):evT Tryz.prog q14d_ 6 18446744073709551616 (Ev.get q14f_) 138 qt5_ x=qto_ x:=by
 rw [q5_,q1e3_]
 rfl
theorem q1f3_:CtOk Tryz.prog (fun _=>True) 138 ⟨qt5_,qto_⟩:=q3_ (q0_ qpq_ (q0_ qx6_ q4_)) q1hv_
@[reducible] def qqw_:Sh:=⟨[.d (.pr (.int .u32) (.pr (.ar 8 .bool) (.ar 8 YTT8))),.d (.pr (.int .u32) (.pr (.ar 8 .bool) (.ar 8 YTT8)))],[],[.pr (.int .u32) (.pr (.ar 8 .bool) (.ar 8 YTT8)),.pr (.int .u32) (.pr (.ar 8 .bool) (.ar 8 YTT8))],[.d (.bool)],[],0,[.bool]⟩
def q12l_:Env:=(cts [(2000033,Ev.bxCt),(138,(⟨qt5_,qto_⟩:Ct)),(139,(⟨q5n_,q6f_⟩:Ct))])
def q12r_:List (Nat×Hint):=[]
def qmw_ (a b:Int×List Bool×List (Int×List Int)):Option (As [.bool]) :=
 if eqi a.1 b.1=true then if (Sx.eqb (List.getD a.2.1 0 false) (List.getD b.2.1 0 false) && (Sx.eqb (List.getD a.2.1 1 false) (List.getD b.2.1 1 false) && (Sx.eqb (List.getD a.2.1 2 false) (List.getD b.2.1 2 false) && (Sx.eqb (List.getD a.2.1 3 false) (List.getD b.2.1 3 false) && (Sx.eqb (List.getD a.2.1 4 false) (List.getD b.2.1 4 false) && (Sx.eqb (List.getD a.2.1 5 false) (List.getD b.2.1 5 false) && (Sx.eqb (List.getD a.2.1 6 false) (List.getD b.2.1 6 false) && (Sx.eqb (List.getD a.2.1 7 false) (List.getD b.2.1 7 false) && true))))))))=true then Option.bind (q6f_ (a,())) fun y=>Option.bind (q6f_ (b,())) fun y_1=>Option.bind (qto_ (y.1,y_1.1,())) fun y=>some (y.1,()) else some (false,()) else some (false,())
def qqx_ (x:As [.pr (.int .u32) (.pr (.ar 8 .bool) (.ar 8 YTT8)),.pr (.int .u32) (.pr (.ar 8 .bool) (.ar 8 YTT8))]):Option (As [.bool]):=qmw_ x.1 x.2.1
theorem q1be_ (J:Orc (As [.bool])) (x:As [.pr (.int .u32) (.pr (.ar 8 .bool) (.ar 8 YTT8)),.pr (.int .u32) (.pr (.ar 8 .bool) (.ar 8 YTT8))]):rfn Tryz.prog q12l_ 6 18446744073709551616 (Ev.get q12r_) 84 qqw_ J x=qmw_ x.1 x.2.1:=by kernel_rfl
theorem q1f6_ (x:As [.pr (.int .u32) (.pr (.ar 8 .bool) (.ar 8 YTT8)),.pr (.int .u32) (.pr (.ar 8 .bool) (.ar 8 YTT8))]):evT Tryz.prog q12l_ 6 18446744073709551616 (Ev.get q12r_) 84 qqw_ x=qqx_ x:=by
 rw [q5_,q1be_]
 rfl
theorem q1ao_:CtOk Tryz.prog (fun _=>True) 84 ⟨qqw_,qqx_⟩:=q3_ (q0_ Ev.bx_ok (q0_ q1f3_ (q0_ qpn_ q4_))) q1f6_
@[reducible] def qry_:Sh:=⟨[.d (.pr (.sl (.int .u16)) YTT0),.d (.pr (.sl (.int .u16)) YTT0)],[],[.pr (.sl (.int .u16)) YTT0,.pr (.sl (.int .u16)) YTT0],[.d (.bool)],[],0,[.bool]⟩
def q12e_:Env:=(cts [(2000035,Ev.bxCt),(80,(⟨q1m_,q1o_⟩:Ct)),(84,(⟨qqw_,qqx_⟩:Ct))])
def q13h_:List (Nat×Hint):=[]
def qnh_ (a b:List Int×(Int×Int)×Int×Int×Int×YTT9×Int):Option (As [.bool]) :=
 Option.bind (q1o_ (a.1,b.1,())) fun y=>if y.1=true then if (eqi a.2.1.1 b.2.1.1 && (eqi a.2.1.2 b.2.1.2 && true))=true then if eqi a.2.2.1 b.2.2.1=true then if eqi a.2.2.2.1 b.2.2.2.1=true then if eqi a.2.2.2.2.1 b.2.2.2.2.1=true then Option.bind (qqx_ (a.2.2.2.2.2.1,b.2.2.2.2.2.1,())) fun y=>if y.1=true then some (eqi a.2.2.2.2.2.2 b.2.2.2.2.2.2,()) else some (false,()) else some (false,()) else some (false,()) else some (false,()) else some (false,()) else some (false,())
def qps_ (x:As [.pr (.sl (.int .u16)) YTT0,.pr (.sl (.int .u16)) YTT0]):Option (As [.bool]):=qnh_ x.1 x.2.1
theorem q1ay_ (J:Orc (As [.bool])) (x:As [.pr (.sl (.int .u16)) YTT0,.pr (.sl (.int .u16)) YTT0]):rfn Tryz.prog q12e_ 6 18446744073709551616 (Ev.get q13h_) 27 qry_ J x=qnh_ x.1 x.2.1:=by kernel_rfl
theorem q1gj_ (x:As [.pr (.sl (.int .u16)) YTT0,.pr (.sl (.int .u16)) YTT0]):evT Tryz.prog q12e_ 6 18446744073709551616 (Ev.get q13h_) 27 qry_ x=qps_ x:=by
 rw [q5_,q1ay_]
 rfl
theorem q1aj_:CtOk Tryz.prog (fun _=>True) 27 ⟨qry_,qps_⟩:=q3_ (q0_ Ev.bx_ok (q0_ q8u_ (q0_ q1ao_ q4_))) q1gj_
@[reducible] def qpz_:Sh:=⟨[.d (.pr (.int .u8) (.pr (.int .u8) (.pr (.pr (.sl (.int .u16)) YTT0) (.sl .bool)))),.d (.pr (.int .u8) (.pr (.int .u8) (.pr (.pr (.sl (.int .u16)) YTT0) (.sl .bool))))],[],[.pr (.int .u8) (.pr (.int .u8) (.pr (.pr (.sl (.int .u16)) YTT0) (.sl .bool))),.pr (.int .u8) (.pr (.int .u8) (.pr (.pr (.sl (.int .u16)) YTT0) (.sl .bool)))],[.d (.bool)],[],0,[.bool]⟩
def q12o_:Env:=(cts [(2000038,Ev.bxCt),(27,(⟨qry_,qps_⟩:Ct)),(90,(⟨q37_,q5a_⟩:Ct))])
def q12x_:List (Nat×Hint):=[]
def qn0_ (a b:YaAq0):Option (As [.bool]) :=
 if eqi a.1 b.1=true then if eqi a.2.1 b.2.1=true then Option.bind (qps_ (a.2.2.1,b.2.2.1,())) fun y=>if y.1=true then Option.bind (q5a_ (a.2.2.2,b.2.2.2,())) fun y=>some (y.1,()) else some (false,()) else some (false,()) else some (false,())
def qb5_ (x:As [.pr (.int .u8) (.pr (.int .u8) (.pr (.pr (.sl (.int .u16)) YTT0) (.sl .bool))),.pr (.int .u8) (.pr (.int .u8) (.pr (.pr (.sl (.int .u16)) YTT0) (.sl .bool)))]):Option (As [.bool]):=qn0_ x.1 x.2.1
theorem q1b2_ (J:Orc (As [.bool])) (x:As [.pr (.int .u8) (.pr (.int .u8) (.pr (.pr (.sl (.int .u16)) YTT0) (.sl .bool))),.pr (.int .u8) (.pr (.int .u8) (.pr (.pr (.sl (.int .u16)) YTT0) (.sl .bool)))]):rfn Tryz.prog q12o_ 6 18446744073709551616 (Ev.get q12x_) 32 qpz_ J x=qn0_ x.1 x.2.1:=by kernel_rfl
theorem q1dr_ (x:As [.pr (.int .u8) (.pr (.int .u8) (.pr (.pr (.sl (.int .u16)) YTT0) (.sl .bool))),.pr (.int .u8) (.pr (.int .u8) (.pr (.pr (.sl (.int .u16)) YTT0) (.sl .bool)))]):evT Tryz.prog q12o_ 6 18446744073709551616 (Ev.get q12x_) 32 qpz_ x=qb5_ x:=by
 rw [q5_,q1b2_]
 rfl
theorem q1ca_:CtOk Tryz.prog (fun _=>True) 32 ⟨qpz_,qb5_⟩:=q3_ (q0_ Ev.bx_ok (q0_ q1aj_ (q0_ qok_ q4_))) q1dr_
def q1ib_ (self1:List Bool->List Bool->Int->Int->Option (As [.bool])) (a b:List Bool) (t12 t13:Int):Option (As [.bool]) :=
 if lt t13 t12=true then Option.bind (at? a t13) fun y=>Option.bind (at? b t13) fun y_1=>if Sx.neb y y_1=true then some (false,()) else self1 a b t12 (add .i64 t13 1) else some (true,())
def q1ic_ (j1:List Bool->List Bool->Int->Int->Option (As [.bool])) (a b:List Bool):Option (As [.bool]) :=
 if nei (Int.ofNat (List.length a)) (Int.ofNat (List.length b))=true then some (false,()) else j1 a b (Int.ofNat (List.length a)) 0
def q1hs_ (a b:List Bool) (t12 t13:Int):Option (As [.bool]) :=
 loopF (fun (self:(List Bool)×(List Bool)×(Int)×(Int)->Option (As [.bool])) (s:(List Bool)×(List Bool)×(Int)×(Int))=>q1ib_ (fun a b t12 t13=>self (a,b,t12,t13)) s.1 s.2.1 s.2.2.1 s.2.2.2) 18446744073709551616 (a,b,t12,t13)
def q1k5_ (x:As [.sl .bool,.sl .bool]):Option (As [.bool]):=q1ic_ q1hs_ x.1 x.2.1
@[reducible] def qvc_:Sh:=⟨[.d (.sl (.int .u8)),.d (.sl (.int .u8))],[],[.sl (.int .u8),.sl (.int .u8)],[.d (.bool)],[],0,[.bool]⟩
def q17t_:Env:=(cts [])
def q172_:List (Nat×Hint):=[]
def q14v_ (a b:List Int):Option (As [.bool]) :=
 some (eqs (Sx.toS a) (Sx.toS b),())
def qw9_ (x:As [.sl (.int .u8),.sl (.int .u8)]):Option (As [.bool]):=q14v_ x.1 x.2.1
theorem q1hx_ (J:Orc (As [.bool])) (x:As [.sl (.int .u8),.sl (.int .u8)]):rfn Tryz.prog q17t_ 6 18446744073709551616 (Ev.get q172_) 31 qvc_ J x=q14v_ x.1 x.2.1:=by kernel_rfl
theorem q1jb_ (x:As [.sl (.int .u8),.sl (.int .u8)]):evT Tryz.prog q17t_ 6 18446744073709551616 (Ev.get q172_) 31 qvc_ x=qw9_ x:=by
 rw [q5_,q1hx_]
 rfl
theorem q1i8_:CtOk Tryz.prog (fun _=>True) 31 ⟨qvc_,qw9_⟩:=q3_ q4_ q1jb_
def q1a5_ (r:Int×Int×List Bool×List Int×Int×Int):Option (As [.bool]) :=
 if nei r.2.1 0=true then Option.bind (q2v_ ((),r,())) fun y=>some (y.1,()) else if eqi r.1 1=true then Option.bind (q1u_ ((),r,())) fun y=>some (y.1,()) else if eqi r.1 2=true then Option.bind (q1u_ ((),r,())) fun y=>some (y.1,()) else if eqi r.1 3=true then Option.bind (q14_ ((),r,())) fun y=>some (y.1,()) else if eqi r.1 4=true then Option.bind (q14_ ((),r,())) fun y=>some (y.1,()) else if eqi r.1 23=true then Option.bind (q14_ ((),r,())) fun y=>some (y.1,()) else if eqi r.1 5=true then Option.bind (q3y_ ((),r,())) fun y=>some (y.1,()) else if eqi r.1 6=true then Option.bind (q3i_ ((),r,())) fun y=>some (y.1,()) else if eqi r.1 15=true then Option.bind (q2l_ (1968,r,())) fun y=>some (y.1,()) else if eqi r.1 16=true then Option.bind (q2l_ (123,r,())) fun y=>some (y.1,()) else some (false,())
def q1il_ (x:As [.pr (.int .u8) YTT3]):Option (As [.bool]):=q1a5_ x.1
def q1bh_ (t22:Bool) (a a_2 a_3 a_4:Int) (a_5:List Int) (a_6:List Bool) (r r_2:Int) (r_3:List Bool) (r_4:List Int) (r_5 r_6:Int):Option (As [.bool]) :=
 if t22=true then some (false,()) else if nei r_2 0=true then some (true,()) else Option.bind (qb0_ ((a,a_2,a_3,a_4,a_5,a_6),())) fun y=>if y.2.1=true then Option.bind (q3j_ (y.1,(r,r_2,r_3,r_4,r_5,r_6),())) fun y=>some (y.1,()) else if gt (Int.ofNat (List.length r_3)) 0=true then if eqi (Int.ofNat (List.length r_3)) (mul .i64 (quo .i64 (add .i64 (cvt .i64 a_3) 7) 8) 8)=true then Option.bind (cut r_3 (cvt .i64 a_3) (Int.ofNat (List.length r_3))) fun y=>Option.bind (q50_ (y,true,())) fun y=>some (!y.1,()) else some (false,()) else some (eqi (Int.ofNat (List.length r_4)) (cvt .i64 a_3),())
def q1au_ (j1:Bool->Int->Int->Int->Int->List Int->List Bool->Int->Int->List Bool->List Int->Int->Int->Option (As [.bool])) (a:Int×Int×Int×Int×List Int×List Bool) (r:Int×Int×List Bool×List Int×Int×Int):Option (As [.bool]) :=
 Option.bind (qbd_ (a,())) fun y=>if (!y.1)=true then j1 true a.1 a.2.1 a.2.2.1 a.2.2.2.1 a.2.2.2.2.1 a.2.2.2.2.2 r.1 r.2.1 r.2.2.1 r.2.2.2.1 r.2.2.2.2.1 r.2.2.2.2.2 else Option.bind (q1il_ (r,())) fun y=>if (!y.1)=true then j1 true a.1 a.2.1 a.2.2.1 a.2.2.2.1 a.2.2.2.2.1 a.2.2.2.2.2 r.1 r.2.1 r.2.2.1 r.2.2.2.1 r.2.2.2.2.1 r.2.2.2.2.2 else j1 (nei a.1 r.1) a.1 a.2.1 a.2.2.1 a.2.2.2.1 a.2.2.2.2.1 a.2.2.2.2.2 r.1 r.2.1 r.2.2.1 r.2.2.2.1 r.2.2.2.2.1 r.2.2.2.2.2
def q1cy_ (t22:Bool) (a a_2 a_3 a_4:Int) (a_5:List Int) (a_6:List Bool) (r r_2:Int) (r_3:List Bool) (r_4:List Int) (r_5 r_6:Int):Option (As [.bool]):=q1bh_ t22 a a_2 a_3 a_4 a_5 a_6 r r_2 r_3 r_4 r_5 r_6
def q1k4_ (x:As [.pr (.int .u8) YTT4,.pr (.int .u8) YTT3]):Option (As [.bool]):=q1au_ q1cy_ x.1 x.2.1
def q180_ (s:List YTT5×List YTT5×List YTT5×List YTT5) (m:List Bool×List Bool×List Int×List Int) (pdu:List Int):Option (As [.pr (.sl .bool) YTT10,.sl (.int .u8)]) :=
 Option.bind (qgd_ (pdu,())) fun y=>if nei y.2.1 0=true then Option.bind (qh_ (y.1.1,y.2.1,())) fun y=>Option.bind (q9a_ (y.1,())) fun y=>Option.bind (q1ju_ (m,())) fun y_1=>some (y_1.1,y.1,()) else Option.bind (q2h_ (s,m,y.1,())) fun y=>Option.bind (q9a_ (y.2.1,())) fun y_1=>some (y.1,y_1.1,())
def q1k1_ (x:As [.pr YTT1 (.pr YTT1 (.pr YTT1 YTT1)),.pr (.sl .bool) YTT10,.sl (.int .u8)]):Option (As [.pr (.sl .bool) YTT10,.sl (.int .u8)]):=q180_ x.1 x.2.1 x.2.2.1
def q19k_ (c:Int×Int×Int×Int×Int):Option (As [.sl (.int .u16)]) :=
 Option.bind (q7i_ (c.2.2.1,())) fun y=>Option.bind (q7i_ (c.2.2.2.2,())) fun y_1=>some ([c.1,cvt .u16 c.2.1,y.1,y.2.1,c.2.2.2.1,y_1.1,y_1.2.1,0],())
def q1k3_ (x:As [.pr (.int .u16) YTT6]):Option (As [.sl (.int .u16)]):=q19k_ x.1
def q19b_ (owner tx n:Int) (x:Int×List Int):Option (As [.sl (.int .u16),.int .i64]) :=
 Option.bind (q9m_ (n,())) fun y=>if (!y.1)=true then some ([],2,()) else Option.bind (q8h_ (x,())) fun y=>if (!y.1)=true then some ([],20,()) else Option.bind (qfa_ (owner,tx,n,x,())) fun y=>some (y.1,0,())
def q1k2_ (x:As [.int .u16,.int .u32,.int .i64,.pr (.int .i64) (.sl (.int .u16))]):Option (As [.sl (.int .u16),.int .i64]):=q19b_ x.1 x.2.1 x.2.2.1 x.2.2.2.1
@[reducible] def q6t_:Sh:=⟨[.d (.pr (.int .u8) (.pr (.sl (.int .u8)) (.pr (.pr (.int .u8) YTT4) (.pr (.int .u16) YTT6))))],[],[.pr (.int .u8) (.pr (.sl (.int .u8)) (.pr (.pr (.int .u8) YTT4) (.pr (.int .u16) YTT6)))],[.d (.sl (.int .u8)),.d (.bool)],[],0,[.sl (.int .u8),.bool]⟩
def qc3_:Env:=(cts [(13,(⟨q2d_,qdl_⟩:Ct)),(57,(⟨qhg_,q9d_⟩:Ct))])
def qcm_:List (Nat×Hint):=[(7,⟨[.frb 4],[4]⟩)]
def qen_ (a:Int×Int×Int×Int×List Int×List Bool):St:={ fr:=[(4,.pb 0 0)],nt:=41,up:=[],own:=[(0,.box 44 [.d (.int .u8) a.1,.d (.int .u16) a.2.1,.d (.int .u16) a.2.2.1,.d (.int .u16) a.2.2.2.1,.d (.sl (.int .u16)) a.2.2.2.2.1,.d (.sl .bool) a.2.2.2.2.2])],nx:=1,log:=[],ln:=0 }
def qep_ (a:Int×Int×Int×Int×List Int×List Bool):Option (As [.sl (.int .u8),.bool]) :=
 Option.bind (qdl_ (a,())) fun y=>some (y.1,eqi y.2.1 0,())
def qem_ (j1:Int×Int×Int×Int×List Int×List Bool->Option (As [.sl (.int .u8),.bool])) (o:Int×List Int×YTT16×Int×Int×Int×Int×Int):Option (As [.sl (.int .u8),.bool]) :=
 if eqi (rem o.1 6) 0=true then some (o.2.1,true,()) else if eqi (rem o.1 6) 5=true then Option.bind (q9d_ (o.2.2.2,())) fun y=>if eqi (rem o.2.2.2.2.2.2.1 2) 1=true then Option.bind (q9d_ (o.2.2.2,())) fun y=>j1 (16,272,8,0,y.1,[]) else j1 (23,256,8,272,y.1,[]) else if eqi (rem o.1 6) 2=true then j1 o.2.2.1 else some ([],false,())
def qaj_ (a:Int×Int×Int×Int×List Int×List Bool):Option (As [.sl (.int .u8),.bool]):=qep_ a
def qf9_ (x:As [.pr (.int .u8) (.pr (.sl (.int .u8)) (.pr (.pr (.int .u8) YTT4) (.pr (.int .u16) YTT6)))]):Option (As [.sl (.int .u8),.bool]):=qem_ qaj_ x.1
theorem q147_ (J:Orc (As [.sl (.int .u8),.bool])) (a:Int×Int×Int×Int×List Int×List Bool):pfn Tryz.prog qc3_ 6 18446744073709551616 (Ev.get qcm_) 40 q6t_ J 7 [] (qen_ a)=qep_ a:=by kernel_rfl
theorem q145_ (J:Orc (As [.sl (.int .u8),.bool])) (x:As [.pr (.int .u8) (.pr (.sl (.int .u8)) (.pr (.pr (.int .u8) YTT4) (.pr (.int .u16) YTT6)))]):rfn Tryz.prog qc3_ 6 18446744073709551616 (Ev.get qcm_) 40 q6t_ J x=qem_ (fun a=>J 7 [] (qen_ a)) x.1:=by kernel_rfl
theorem q146_ (a:Int×Int×Int×Int×List Int×List Bool):jfn Tryz.prog qc3_ 6 18446744073709551616 (Ev.get qcm_) 40 q6t_ 7 [] (qen_ a)=qaj_ a:=by
 rw [q8_ (by decide)]
 rw [q147_]
 rfl
theorem q157_ (x:As [.pr (.int .u8) (.pr (.sl (.int .u8)) (.pr (.pr (.int .u8) YTT4) (.pr (.int .u16) YTT6)))]):evT Tryz.prog qc3_ 6 18446744073709551616 (Ev.get qcm_) 40 q6t_ x=qf9_ x:=by
 have e1:(fun a=>(jfn Tryz.prog qc3_ 6 18446744073709551616 (Ev.get qcm_) 40 q6t_) 7 [] (qen_ a))=qaj_:=funext fun a=>q146_ a
 rw [q5_,q145_,e1]
 rfl
theorem q13z_:CtOk Tryz.prog (fun _=>True) 40 ⟨q6t_,qf9_⟩:=q3_ (q0_ qvo_ (q0_ qy6_ q4_)) q157_
@[reducible] def qi8_:Sh:=⟨[.d (.pr (.int .u8) (.pr (.sl (.int .u8)) (.pr (.pr (.int .u8) YTT4) (.pr (.int .u16) YTT6)))),.d (.pr (.int .u8) (.pr (.int .u8) (.pr (.pr (.sl (.int .u16)) YTT0) (.sl .bool))))],[],[.pr (.int .u8) (.pr (.sl (.int .u8)) (.pr (.pr (.int .u8) YTT4) (.pr (.int .u16) YTT6))),.pr (.int .u8) (.pr (.int .u8) (.pr (.pr (.sl (.int .u16)) YTT0) (.sl .bool)))],[.d (.pr (.int .u8) (.pr (.int .u8) (.pr (.pr (.sl (.int .u16)) YTT0) (.sl .bool)))),.d (.sl (.int .u8))],[],0,[.pr (.int .u8) (.pr (.int .u8) (.pr (.pr (.sl (.int .u16)) YTT0) (.sl .bool))),.sl (.int .u8)]⟩
def qx9_:Env:=(cts [(2000038,Ev.bxCt),(14,(⟨q8m_,q5f_⟩:Ct)),(29,(⟨q59_,q9f_⟩:Ct)),(40,(⟨q6t_,qf9_⟩:Ct)),(82,(⟨qr1_,qrk_⟩:Ct)),(83,(⟨qro_,qrm_⟩:Ct))])
def qxe_:List (Nat×Hint):=[]
def qgl_ (o:Int×List Int×YTT16×Int×Int×Int×Int×Int) (s:YaAq0):Option (As [.pr (.int .u8) (.pr (.int .u8) (.pr (.pr (.sl (.int .u16)) YTT0) (.sl .bool))),.sl (.int .u8)]) :=
 Option.bind (qf9_ (o,())) fun y=>if y.2.1=true then Option.bind (q5f_ (s,y.1,())) fun y=>some (y.1,y.2.1,()) else if eqi (rem o.1 6) 1=true then Option.bind (q9f_ (s,o.2.1,())) fun y=>some (y.1,y.2.1,()) else if eqi (rem o.1 6) 3=true then Option.bind (qrk_ (s,())) fun y=>some (y.1,[],()) else if eqi (rem o.1 6) 4=true then Option.bind (qrm_ (s,())) fun y=>some (y.1,[],()) else some (s,[],())
def qhi_ (x:As [.pr (.int .u8) (.pr (.sl (.int .u8)) (.pr (.pr (.int .u8) YTT4) (.pr (.int .u16) YTT6))),.pr (.int .u8) (.pr (.int .u8) (.pr (.pr (.sl (.int .u16)) YTT0) (.sl .bool)))]):Option (As [.pr (.int .u8) (.pr (.int .u8) (.pr (.pr (.sl (.int .u16)) YTT0) (.sl .bool))),.sl (.int .u8)]):=qgl_ x.1 x.2.1
theorem q16a_ (J:Orc (As [.pr (.int .u8) (.pr (.int .u8) (.pr (.pr (.sl (.int .u16)) YTT0) (.sl .bool))),.sl (.int .u8)])) (x:As [.pr (.int .u8) (.pr (.sl (.int .u8)) (.pr (.pr (.int .u8) YTT4) (.pr (.int .u16) YTT6))),.pr (.int .u8) (.pr (.int .u8) (.pr (.pr (.sl (.int .u16)) YTT0) (.sl .bool)))]):rfn Tryz.prog qx9_ 6 18446744073709551616 (Ev.get qxe_) 25 qi8_ J x=qgl_ x.1 x.2.1:=by kernel_rfl
theorem q17b_ (x:As [.pr (.int .u8) (.pr (.sl (.int .u8)) (.pr (.pr (.int .u8) YTT4) (.pr (.int .u16) YTT6))),.pr (.int .u8) (.pr (.int .u8) (.pr (.pr (.sl (.int .u16)) YTT0) (.sl .bool)))]):evT Tryz.prog qx9_ 6 18446744073709551616 (Ev.get qxe_) 25 qi8_ x=qhi_ x:=by
 rw [q5_,q16a_]
 rfl
theorem q15r_:CtOk Tryz.prog (fun _=>True) 25 ⟨qi8_,qhi_⟩:=q3_ (q0_ Ev.bx_ok (q0_ qkr_ (q0_ q115_ (q0_ q13z_ (q0_ q1cd_ (q0_ q1c9_ q4_)))))) q17b_
end Go.Proofs.Lx
end
section
namespace Pl
open Go Ev Sx
set_option maxRecDepth 10000
theorem q1r_ {σ R:Type} (F:(σ->Option R)->σ->Option R) (n:Nat) (s:σ):loopF F (n + 1) s=F (loopF F n) s:=rfl
theorem loopF_eq {σ R:Type} {F:(σ->Option R)->σ->Option R} {Inv:σ->Prop} {μ:σ->Nat} {G:σ->Option R}
  (step:∀ self s,Inv s->(∀ s',Inv s'->μ s' < μ s->self s'=G s')->F self s=G s):∀ (n:Nat) (s:σ),Inv s->μ s < n->loopF F n s=G s
 | 0,s,_,h=>by omega
 | n + 1,s,hs,h=>by
  rw [q1r_]
  exact step _ s hs fun s' hs' hlt=>loopF_eq step n s' hs' (by omega)
theorem w64 {x:Int} (h1:-9223372036854775808≤x) (h2:x≤9223372036854775807):IntKind.i64.wrap x=x:=by
 simp only [IntKind.wrap,IntKind.signed,IntKind.bits]
 simp
 omega
theorem wu8 {x:Int} (h1:0≤x) (h2:x≤255):IntKind.u8.wrap x=x:=by
 simp only [IntKind.wrap,IntKind.signed,IntKind.bits]
 simp
 omega
theorem wu16 {x:Int} (h1:0≤x) (h2:x≤65535):IntKind.u16.wrap x=x:=by
 simp only [IntKind.wrap,IntKind.signed,IntKind.bits]
 simp
 omega
theorem wu32 {x:Int} (h1:0≤x) (h2:x≤4294967295):IntKind.u32.wrap x=x:=by
 simp only [IntKind.wrap,IntKind.signed,IntKind.bits]
 simp
 omega
theorem add64 {a b:Int} (h1:-9223372036854775808≤a + b) (h2:a + b≤9223372036854775807):add .i64 a b=a + b:=w64 h1 h2
theorem sub64 {a b:Int} (h1:-9223372036854775808≤a - b) (h2:a - b≤9223372036854775807):sub .i64 a b=a - b:=w64 h1 h2
theorem mul64 {a b:Int} (h1:-9223372036854775808≤a * b) (h2:a * b≤9223372036854775807):mul .i64 a b=a * b:=w64 h1 h2
theorem cvt64 {a:Int} (h1:-9223372036854775808≤a) (h2:a≤9223372036854775807):cvt .i64 a=a:=w64 h1 h2
theorem q1l_ {n:Nat} (h:n < 4611686018427387904):add .i64 (n:Int) 1=((n + 1:Nat):Int):=by rw [add64 (by omega) (by omega)]; rfl
theorem addn64 {n m:Nat} (h:n + m < 4611686018427387904):add .i64 (n:Int) (m:Int)=((n + m:Nat):Int):=by rw [add64 (by omega) (by omega)]; rfl
theorem q1_ (n:Nat):Int.ofNat n=(n:Int):=rfl
theorem qa_ {a b:Int}:lt a b=true ↔ a < b:=by simp [lt]
theorem q19_ {a b:Int}:le a b=true ↔ a≤b:=by simp [le]
theorem gt_iff {a b:Int}:gt a b=true ↔ b < a:=by simp [gt]
theorem q1f_ {a b:Int}:ge a b=true ↔ b≤a:=by simp [ge]
theorem q6_ {a b:Int}:eqi a b=true ↔ a=b:=by simp [eqi]
theorem qj_ {a b:Int}:nei a b=true ↔ a ≠ b:=by simp [nei]
theorem eqs_iff {a b:List UInt8}:eqs a b=true ↔ a=b:=by simp [eqs]
theorem small_iff {n:Nat}:small n=true ↔ n≤1073741824:=by simp [small]
theorem lt_dec (a b:Int):lt a b=decide (a < b):=rfl
theorem le_dec (a b:Int):le a b=decide (a≤b):=rfl
theorem gt_dec (a b:Int):gt a b=decide (b < a):=rfl
theorem ge_dec (a b:Int):ge a b=decide (b≤a):=rfl
theorem q9_ {b:Bool} {β:Type} {k:Option β} (h:b=true):need b k=k:=by unfold need; rw [if_pos h]
theorem qm_ {n:Nat} {β:Type} {k:Option β} (h:n≤1073741824):need (small n) k=k:=q9_ (small_iff.2 h)
theorem qp_ {α:Type} {s:List α} {i:Nat} {c:α} (h:s[i]? = some c):at? s (i:Int)=some c:=by
 unfold at?
 simp [h]
theorem q3p_ {α:Type} (c:α) (q:List α):at? (c::q) 0=some c:=rfl
theorem drop_nil {α:Type} {s:List α} {i:Nat} (h:s.drop i=[]):s.length≤i:=by
 have:=congrArg List.length h
 simp at this
 omega
theorem cut_nat {α:Type} {xs:List α} {i j:Nat} (h1:i≤j) (h2:j≤xs.length):cut xs (i:Int) (j:Int)=some ((xs.take j).drop i):=by
 unfold cut
 rw [if_pos ⟨by omega,by omega,by omega⟩]
 simp
theorem cut_from {α:Type} {xs:List α} {i:Nat} (h:i≤xs.length):cut xs (i:Int) (Int.ofNat xs.length)=some (xs.drop i):=by
 rw [q1_,cut_nat h (Nat.le_refl _)]
 simp
theorem cut_to {α:Type} {xs:List α} {j:Nat} (h:j≤xs.length):cut xs 0 (j:Int)=some (xs.take j):=by
 have:=cut_nat (xs:=xs) (Nat.zero_le j) h
 simpa using this
theorem cut_one {α:Type} (c:α) (q:List α):cut (c::q) 1 (Int.ofNat (c::q).length)=some q:=by
 have:=cut_from (xs:=c::q) (i:=1) (by simp)
 simpa using this
theorem eqV_refl:∀ (t:Ty) (x:Vl t),eqV t x x=true:=by
 have hl:∀ {α:Type} {f:α->α->Bool},(∀ a,f a a=true)->∀ x:List α,eqL f x x=true:=fun h x=>by
  induction x with
  | nil=>rfl
  | cons a q ih=>simp [eqL,h,ih]
 intro t
 induction t with
 | int k=>intro x; simp [eqV,eqi]
 | bool=>intro x; simp [eqV,eqb]
 | str=>intro x; simp [eqV,eqs]
 | sl t ih=>intro x; exact hl ih x
 | pr a b iha ihb=>intro x; simp [eqV,iha,ihb]
 | wr a ih=>intro x; exact ih x
 | un=>intro x; rfl
 | ar n t ih=>intro x; exact hl ih x
theorem eqAs_refl:∀ (rs:List Ty) (x:As rs),eqAs rs x x=true
 | [],_=>rfl
 | t::r,x=>by simp [eqAs,eqV_refl,eqAs_refl r]
theorem amb2 {R:Type} {eq:R->R->Bool} (h:∀ x,eq x x=true) (a:Option R):amb eq [a,a]=a:=by
 cases a <;> simp [amb,ambC,h]
theorem amb3 {R:Type} {eq:R->R->Bool} (h:∀ x,eq x x=true) (a:Option R):amb eq [a,a,a]=a:=by
 cases a <;> simp [amb,ambC,h]
end Pl
end
section
namespace Pl
open Go Ev Sx
theorem loop_idx {σ R α β:Type} {F:(σ->Option R)->σ->Option R} {mk:Nat->β->σ} {xs:List α} {stp:β->α->β} {fin:β->Option R} (Inv:Nat->β->Prop)
  (hs:∀ self i acc x,xs[i]? = some x->Inv i acc->F self (mk i acc)=self (mk (i + 1) (stp acc x)))
  (hi:∀ i acc x,xs[i]? = some x->Inv i acc->Inv (i + 1) (stp acc x))
  (he:∀ self acc,Inv xs.length acc->F self (mk xs.length acc)=fin acc) :
  ∀ (k i:Nat) (acc:β) (n:Nat),i + k=xs.length->k < n->Inv i acc->loopF F n (mk i acc)=fin ((xs.drop i).foldl stp acc)
 | _,_,_,0,_,hn,_=>by omega
 | 0,i,acc,n + 1,h,_,hI=>by
  have:i=xs.length:=by omega
  subst this
  rw [q1r_,he _ _ hI,List.drop_length]
  rfl
 | k + 1,i,acc,n + 1,h,hn,hI=>by
  have hx:xs[i]? = some (xs[i]'(by omega)):=List.getElem?_eq_getElem (by omega)
  rw [q1r_,hs _ _ _ _ hx hI,loop_idx Inv hs hi he k (i + 1) _ n (by omega) (by omega) (hi _ _ _ hx hI),List.drop_eq_getElem_cons (show i < xs.length by omega)]
  rfl
def goL {α β R:Type} (body:β->α->(β->Option R)->Option R) (fin:β->Option R):List α->β->Option R
 | [],acc=>fin acc
 | x::r,acc=>body acc x (goL body fin r)
theorem loop_go {σ R α β:Type} {F:(σ->Option R)->σ->Option R} {mk:Nat->β->σ} {xs:List α} {body:β->α->(β->Option R)->Option R} {fin:β->Option R}
  (hs:∀ self i acc x,xs[i]? = some x->F self (mk i acc)=body acc x fun a=>self (mk (i + 1) a))
  (he:∀ self acc,F self (mk xs.length acc)=fin acc) :
  ∀ (k i:Nat) (acc:β) (n:Nat),i + k=xs.length->k < n->loopF F n (mk i acc)=goL body fin (xs.drop i) acc
 | _,_,_,0,_,hn=>by omega
 | 0,i,acc,n + 1,h,_=>by
  have:i=xs.length:=by omega
  subst this
  rw [q1r_,he,List.drop_length]
  rfl
 | k + 1,i,acc,n + 1,h,hn=>by
  have hx:xs[i]? = some (xs[i]'(by omega)):=List.getElem?_eq_getElem (by omega)
  rw [q1r_,hs _ _ _ _ hx,List.drop_eq_getElem_cons (show i < xs.length by omega)]
  show _=body acc _ (goL body fin (xs.drop (i + 1)))
  congr 1
  funext a
  exact loop_go hs he k (i + 1) a n (by omega) (by omega)
theorem foldl_app {α β:Type} (f:α->List β):∀ (xs:List α) (out:List β),xs.foldl (fun o x=>o++f x) out=out++xs.flatMap f
 | [],out=>by simp
 | x::r,out=>by simp [foldl_app f r]
theorem wr8 (x:Int):IntKind.u8.wrap x=x % 256:=by
 simp only [IntKind.wrap,IntKind.signed,IntKind.bits]
 simp
theorem wr16 (x:Int):IntKind.u16.wrap x=x % 65536:=by
 simp only [IntKind.wrap,IntKind.signed,IntKind.bits]
 simp
theorem cvt8 (x:Int):cvt .u8 x=x % 256:=wr8 x
theorem cvt16 (x:Int):cvt .u16 x=x % 65536:=wr16 x
theorem shr8 (k:IntKind) (x:Int) (hk:8≤k.bits):shr k x 8=x / 256:=by
 unfold shr
 have:min (8:Int).toNat k.bits=8:=by
  have:(8:Int).toNat=8:=rfl
  omega
 rw [this,Int.fdiv_eq_ediv_of_nonneg _ (by decide)]
 rfl
theorem shr4 (k:IntKind) (x:Int) (hk:8≤k.bits):shr k x 4=x / 16:=by
 unfold shr
 have:min (4:Int).toNat k.bits=4:=by
  have:(4:Int).toNat=4:=rfl
  omega
 rw [this,Int.fdiv_eq_ediv_of_nonneg _ (by decide)]
 rfl
theorem u16_rng (x:Int):0≤IntKind.u16.wrap x∧IntKind.u16.wrap x < 65536:=by rw [wr16]; omega
theorem band15 (x:Int):0≤band .u16 x 15∧band .u16 x 15 < 16:=by
 have h:(BitVec.ofInt IntKind.u16.bits x &&& BitVec.ofInt IntKind.u16.bits 15).toNat≤15:=by
  rw [BitVec.toNat_and]
  exact Nat.le_trans Nat.and_le_right (by decide)
 unfold band
 rw [wr16]
 omega
end Pl
end
section
namespace Pl
open Go Ev Sx
theorem loop_dt {σ R:Type} {F:(σ->Option R)->σ->Option R} {mk:Nat->σ} {N:Nat} {r:Option R} (hs:∀ self i,i < N->F self (mk i)=self (mk (i + 1))) (he:∀ self,F self (mk N)=r) :
  ∀ (k i n:Nat),i + k=N->k < n->loopF F n (mk i)=r
 | _,_,0,_,h=>by omega
 | 0,i,n + 1,h,_=>by
  have:i=N:=by omega
  subst this
  rw [q1r_,he]
 | k + 1,i,n + 1,h,hn=>by rw [q1r_,hs _ _ (by omega),loop_dt hs he k (i + 1) n (by omega) (by omega)]
theorem set_at {α:Type} (p:List α) (x y:α) (q:List α):(p++x::q).set p.length y=p++y::q:=by
 rw [List.set_append_right _ _ (Nat.le_refl _),Nat.sub_self]
 rfl
end Pl
end
section
namespace Go.Proofs.Lx
open Go Ev Sx Pl
set_option maxRecDepth 100000
def crcT:List Int:=[0,52225,55297,5120,61441,15360,10240,58369,40961,27648,30720,46081,20480,39937,34817,17408]
theorem table_eq:qtl_ ()=some (crcT,()):=by kernel_rfl
def tab (i:Int):Int:=crcT.getD i.toNat 0
theorem tab_at {i:Int} (h0:0≤i) (h1:i < 16):at? crcT i=some (tab i):=by
 obtain ⟨n,rfl⟩:=Int.eq_ofNat_of_zero_le h0
 have:n < crcT.length:=by show n < 16; omega
 have e:crcT[n]? = some (crcT[n]'this):=List.getElem?_eq_getElem this
 rw [qp_ e]
 unfold tab
 rw [Int.toNat_natCast,List.getD_eq_getElem?_getD,e]
 rfl
def nib (s:Int):Int:=bxor .u16 (shr .u16 s 4) (tab (band .u16 s 15))
def stepV (s c:Int):Int:=nib (nib (bxor .u16 s (cvt .u16 c)))
theorem stepV_rng (s c:Int):0≤stepV s c∧stepV s c < 65536:=u16_rng _
theorem step_eq (s c:Int):qvk_ (s,c,crcT,())=some (stepV s c,crcT,()):=by
 show qt6_ s c crcT=_
 unfold qt6_
 have h1:=band15 (bxor .u16 s (cvt .u16 c))
 rw [q9_ (qa_.2 h1.2),tab_at h1.1 h1.2,Option.bind_some,Option.bind_some]
 have h2:=band15 (bxor .u16 (shr .u16 (bxor .u16 s (cvt .u16 c)) 4) (tab (band .u16 (bxor .u16 s (cvt .u16 c)) 15)))
 rw [q9_ (qa_.2 h2.2),tab_at h2.1 h2.2,Option.bind_some,Option.bind_some]
 rfl
def sumV (b:List Int):Int:=b.foldl stepV 65535
theorem sumV_rng (b:List Int):0≤sumV b∧sumV b < 65536:=by
 unfold sumV
 have:∀ (b:List Int) (s:Int),(0≤s∧s < 65536)->0≤b.foldl stepV s∧b.foldl stepV s < 65536:=by
  intro b
  induction b with
  | nil=>exact fun s h=>h
  | cons c r ih=>exact fun s _=>ih _ (stepV_rng s c)
 exact this b _ (by decide)
theorem sum_eq {b:List Int} (h:b.length < 4611686018427387904):qst_ (b,())=some (sumV b,()):=by
 show qv2_ qq5_ b=_
 unfold qv2_
 rw [table_eq,Option.bind_some]
 rw [q9_ (by rfl),q9_ (by rfl)]
 unfold qq5_
 refine (loop_idx (xs:=b) (mk:=fun i acc=>(b,acc,Int.ofNat b.length,(i:Int),crcT)) (stp:=stepV) (fin:=fun acc=>some (acc,())) (fun _ _=>True) ?_ (fun _ _ _ _ _=>trivial) ?_ b.length 0 65535 _ (by omega) (by omega) trivial).trans ?_
 ·intro self i acc x hx _
  have hi:=(List.getElem?_eq_some_iff.1 hx).1
  show qke_ _ b acc (Int.ofNat b.length) (i:Int) crcT=_
  unfold qke_
  rw [if_pos (by rw [qa_,q1_]; omega),qp_ hx,Option.bind_some,step_eq,Option.bind_some,q1l_ (by omega)]
 ·intro self acc _
  show qke_ _ b acc (Int.ofNat b.length) (b.length:Int) crcT=_
  unfold qke_
  rw [if_neg (by rw [qa_,q1_]; omega)]
 ·rfl
theorem capOk_0 {n:Int} (h:0≤n):capOk 0 n=true:=by
 unfold capOk
 split
 ·rfl
 ·exact decide_eq_true h
theorem capOk_self (n:Int):capOk n n=true:=by
 unfold capOk
 rw [if_pos rfl]
def two (x:Int):List Int:=[x / 256 % 256,x % 256]
def putV (b:List Int):List Int:=b++[sumV b % 256,sumV b / 256]
theorem put_eq {b:List Int} (h:b.length < 1000000):qzg_ (b,())=some (putV b,()):=by
 show qv3_ b=_
 unfold qv3_
 have hs:=sumV_rng b
 have e:add .i64 (Int.ofNat b.length) 2=((b.length + 2:Nat):Int):=by rw [q1_]; exact addn64 (m:=2) (by omega)
 rw [sum_eq (by omega),Option.bind_some,e,q9_ (capOk_0 (by omega)),q9_ (by rw [small_iff]; omega),qm_ (by omega),qm_ (by simp; omega),cvt8,cvt8,shr8 _ _ (by decide)]
 have e2:sumV b / 256 % 256=sumV b / 256:=by omega
 rw [e2]
 rfl
end Go.Proofs.Lx
end
section
namespace Go.Proofs.Lx
open Go Ev Sx Pl
set_option maxRecDepth 100000
abbrev TA:=Int×Int×Int×Int×List Int×List Bool
structure OkA (a:TA):Prop where
 f0:0≤a.1
 f1:a.1≤255
 at0:0≤a.2.1
 at1:a.2.1≤65535
 m0:0≤a.2.2.1
 m1:a.2.2.1≤65535
 t0:0≤a.2.2.2.1
 t1:a.2.2.2.1≤65535
 w:∀ x ∈ a.2.2.2.2.1,0≤x∧x≤65535
 lw:a.2.2.2.2.1.length≤100000
 lb:a.2.2.2.2.2.length≤100000
def shp (f:Int):Option (Int×Int×Int×Bool×Bool) :=
 if eqi 1 f=true then some (2000,0,0,false,false) else if eqi 2 f=true then some (2000,0,0,false,false) else if eqi 3 f=true then some (125,0,0,false,false) else
 if eqi 4 f=true then some (125,0,0,false,false) else if eqi 5 f=true then some (0,1,0,false,false) else if eqi 6 f=true then some (0,0,1,false,false) else
 if eqi 15 f=true then some (1968,1968,0,false,true) else if eqi 16 f=true then some (123,0,123,false,true) else if eqi 23 f=true then some (125,0,121,true,false) else none
def shpD (f:Int):Int×Int×Int×Bool×Bool:=(shp f).getD (0,0,0,false,false)
theorem shape_eq (f:Int):q9r_ (f,())=some (shpD f,(shp f).isSome,()):=rfl
theorem shp_cases (f:Int):((f=1∨f=2)∧shp f=some (2000,0,0,false,false))∨((f=3∨f=4)∧shp f=some (125,0,0,false,false))∨(f=5∧shp f=some (0,1,0,false,false)) ∨
  (f=6∧shp f=some (0,0,1,false,false))∨(f=15∧shp f=some (1968,1968,0,false,true))∨(f=16∧shp f=some (123,0,123,false,true))∨(f=23∧shp f=some (125,0,121,true,false)) ∨
  ((f ≠ 1∧f ≠ 2∧f ≠ 3∧f ≠ 4∧f ≠ 5∧f ≠ 6∧f ≠ 15∧f ≠ 16∧f ≠ 23)∧shp f=none):=by
 by_cases h1:f=1
 ·subst h1; exact .inl ⟨.inl rfl,rfl⟩
 by_cases h2:f=2
 ·subst h2; exact .inl ⟨.inr rfl,rfl⟩
 by_cases h3:f=3
 ·subst h3; exact .inr (.inl ⟨.inl rfl,rfl⟩)
 by_cases h4:f=4
 ·subst h4; exact .inr (.inl ⟨.inr rfl,rfl⟩)
 by_cases h5:f=5
 ·subst h5; exact .inr (.inr (.inl ⟨rfl,rfl⟩))
 by_cases h6:f=6
 ·subst h6; exact .inr (.inr (.inr (.inl ⟨rfl,rfl⟩)))
 by_cases h7:f=15
 ·subst h7; exact .inr (.inr (.inr (.inr (.inl ⟨rfl,rfl⟩))))
 by_cases h8:f=16
 ·subst h8; exact .inr (.inr (.inr (.inr (.inr (.inl ⟨rfl,rfl⟩)))))
 by_cases h9:f=23
 ·subst h9; exact .inr (.inr (.inr (.inr (.inr (.inr (.inl ⟨rfl,rfl⟩))))))
 refine .inr (.inr (.inr (.inr (.inr (.inr (.inr ⟨⟨h1,h2,h3,h4,h5,h6,h7,h8,h9⟩,?_⟩))))))
 have e:∀ n:Int,f ≠ n->¬ eqi n f=true:=fun n hn h=>hn (q6_.1 h).symm
 unfold shp
 rw [if_neg (e _ h1),if_neg (e _ h2),if_neg (e _ h3),if_neg (e _ h4),if_neg (e _ h5),if_neg (e _ h6),if_neg (e _ h7),if_neg (e _ h8),if_neg (e _ h9)]
def withinV (n most:Int):Bool:=if eqi most 0=true then eqi n 0 else if ge n 1=true then le n most else false
theorem within_eq (n most:Int):qgr_ (n,most,())=some (withinV n most,()):=by
 show qny_ n most=_
 unfold qny_ withinV
 split
 ·rfl
 ·split <;> rfl
def rightS (a:TA) (s:Int×Int×Int×Bool×Bool):Bool:=(s.2.2.2.1 || eqi a.2.2.2.1 0) && (withinV a.2.2.1 s.1 && (withinV (Int.ofNat a.2.2.2.2.2.length) s.2.1 && (withinV (Int.ofNat a.2.2.2.2.1.length) s.2.2.1 &&
 (!s.2.2.2.2 || eqi (Int.ofNat a.2.2.2.2.2.length + Int.ofNat a.2.2.2.2.1.length) a.2.2.1))))
def rightA (a:TA):Bool:=match shp a.1 with
 | none=>false
 | some s=>rightS a s
theorem right_K2 (t:Bool) (a1 a2 a3 a4:Int) (a5:List Int) (a6:List Bool) (s1 s2 s3:Int) (s4 s5:Bool) :
  qjo_ t a1 a2 a3 a4 a5 a6 s1 s2 s3 s4 s5=some (!t && (!s5 || eqi (add .i64 (Int.ofNat a6.length) (Int.ofNat a5.length)) (cvt .i64 a3)),()):=by
 unfold qjo_ qvq_
 cases t <;> cases s5 <;> rfl
theorem right_K1 (t:Bool) (a1 a2 a3 a4:Int) (a5:List Int) (a6:List Bool) (s1 s2 s3:Int) (s4 s5:Bool) :
  qf0_ t a1 a2 a3 a4 a5 a6 s1 s2 s3 s4 s5=some (!t && (withinV (cvt .i64 a3) s1 && (withinV (Int.ofNat a6.length) s2 && (withinV (Int.ofNat a5.length) s3 && (!s5 || eqi (add .i64 (Int.ofNat a6.length) (Int.ofNat a5.length)) (cvt .i64 a3))))),()):=by
 unfold qf0_ qwa_
 rw [within_eq,within_eq,within_eq]
 simp only [Option.bind_some,right_K2]
 cases t <;> cases withinV (cvt .i64 a3) s1 <;> cases withinV (Int.ofNat a6.length) s2 <;> cases withinV (Int.ofNat a5.length) s3 <;> rfl
theorem right_eq {a:TA} (h:OkA a):qbd_ (a,())=some (rightA a,()):=by
 show qrw_ qf0_ a=_
 unfold qrw_
 have h1:=h.m0
 have h2:=h.m1
 have h3:=h.lw
 have h4:=h.lb
 rw [shape_eq,Option.bind_some]
 simp only [right_K1]
 rw [cvt64 (by omega) (by omega),add64 (by rw [q1_,q1_]; omega) (by rw [q1_,q1_]; omega)]
 unfold rightA shpD
 cases shp a.1 with
 | none=>rfl
 | some s =>
  obtain ⟨s1,s2,s3,s4,s5⟩:=s
  unfold rightS
  have e:nei a.2.2.2.1 0=!eqi a.2.2.2.1 0:=rfl
  rw [e]
  cases s4 <;> cases eqi a.2.2.2.1 0 <;> rfl
theorem two_eq {y:Int}:([cvt .u8 (shr .u16 y 8),cvt .u8 y]:List Int)=two y:=by
 rw [cvt8,cvt8,shr8 _ _ (by decide)]
 rfl
theorem numbers_eq {l out:List Int} (h:out.length + 2 * l.length≤1000000):q28_ (l,out,())=some (out++l.flatMap two,()):=by
 show qjx_ qeu_ l out=_
 unfold qjx_ qeu_
 refine (loop_idx (xs:=l) (mk:=fun i acc=>(l,Int.ofNat l.length,(i:Int),acc)) (stp:=fun o y=>o++two y) (fin:=fun acc=>some (acc,())) (fun i acc=>acc.length≤out.length + 2 * i) ?_ ?_ ?_ l.length 0 out _ (by omega) (by omega) (by omega)).trans ?_
 ·intro self i acc x hx hI
  have hi:=(List.getElem?_eq_some_iff.1 hx).1
  show qbv_ _ l (Int.ofNat l.length) (i:Int) acc=_
  unfold qbv_
  rw [if_pos (by rw [qa_,q1_]; omega),qp_ hx,Option.bind_some,qm_ (by omega),two_eq,q1l_ (by omega)]
 ·intro i acc x hx hI
  simp [two]
  omega
 ·intro self acc _
  show qbv_ _ l (Int.ofNat l.length) (l.length:Int) acc=_
  unfold qbv_
  rw [if_neg (by rw [qa_,q1_]; omega)]
 ·rw [List.drop_zero,foldl_app]
end Go.Proofs.Lx
end
section
namespace Pl
open Go Ev Sx
theorem loop_det {σ R:Type} {F:(σ->Option R)->σ->Option R} {mk:Nat->σ} {N:Nat} {r:Option R} (hs:∀ self i,i < N->F self (mk i)=self (mk (i + 1))) (he:∀ self,F self (mk N)=r) :
  ∀ (k i n:Nat),i + k=N->k < n->loopF F n (mk i)=r
 | _,_,0,_,h=>by omega
 | 0,i,n + 1,h,_=>by
  have:i=N:=by omega
  subst this
  rw [q1r_,he]
 | k + 1,i,n + 1,h,hn=>by rw [q1r_,hs _ _ (by omega),loop_det hs he k (i + 1) n (by omega) (by omega)]
theorem quo_nat {i d:Nat} (hi:i < 4611686018427387904):quo .i64 (i:Int) (d:Int)=((i / d:Nat):Int):=by
 unfold quo
 have h:=Nat.div_le_self i d
 have e:(i:Int).tdiv (d:Int)=((i / d:Nat):Int):=by rw [Int.ofNat_tdiv]
 rw [e]
 generalize i / d=q at h ⊢
 exact w64 (by omega) (by omega)
theorem rem_nat {i d:Nat}:rem (i:Int) (d:Int)=((i % d:Nat):Int):=by
 unfold rem
 rw [Int.ofNat_tmod]
theorem fill_step {α:Type} {f:Nat->α} {init:List α} {i:Nat} (hi:i < init.length):((List.range i).map f++init.drop i).set i (f i)=(List.range (i + 1)).map f++init.drop (i + 1):=by
 rw [List.drop_eq_getElem_cons hi,List.set_append_right _ _ (by simp)]
 simp only [List.length_map,List.length_range,Nat.sub_self,List.set_cons_zero,List.range_succ,List.map_append,List.map_cons,List.map_nil,List.append_assoc,List.singleton_append]
end Pl
namespace Go.Proofs.Lx
open Go Ev Sx Pl
set_option maxRecDepth 100000
def byteV:List Bool->Int
 | []=>0
 | b::r=>(if b=true then 1 else 0) + 2 * byteV r
theorem byteV_rng:∀ t:List Bool,0≤byteV t∧byteV t < 2 ^ t.length
 | []=>by simp [byteV]
 | b::r=>by
  have:=byteV_rng r
  rw [List.length_cons,Int.pow_succ]
  unfold byteV
  split <;> omega
theorem byteV_snoc (b:Bool):∀ t:List Bool,byteV (t++[b])=byteV t + (if b=true then 2 ^ t.length else 0)
 | []=>by cases b <;> rfl
 | a::r=>by
  rw [List.cons_append]
  unfold byteV
  rw [byteV_snoc b r,List.length_cons,Int.pow_succ]
  cases b <;> simp <;> omega
def packN (n:Nat):Nat:=(n + 7) / 8
def packP (bits:List Bool) (i:Nat):List Int:=(List.range (packN bits.length)).map fun j=>byteV (((bits.take i).drop (8 * j)).take 8)
def packS (bits:List Bool):List Int:=(List.range (packN bits.length)).map fun j=>byteV ((bits.drop (8 * j)).take 8)
theorem packP_len (bits:List Bool) (i:Nat):(packP bits i).length=packN bits.length:=by simp [packP]
theorem packS_len (bits:List Bool):(packS bits).length=packN bits.length:=by simp [packS]
theorem packP_all (bits:List Bool):packP bits bits.length=packS bits:=by unfold packP packS; rw [List.take_length]
theorem packP_zero (bits:List Bool):packP bits 0=List.replicate (packN bits.length) 0:=by
 unfold packP
 rw [List.take_zero]
 simp only [List.drop_nil,List.take_nil,byteV]
 exact List.map_const' ..|>.trans (by simp)
theorem chunk_next {bits:List Bool} {i j:Nat} {y:Bool} (hy:bits[i]? = some y):((bits.take (i + 1)).drop (8 * j)).take 8=((bits.take i).drop (8 * j)).take 8++(if j=i / 8 then [y] else []):=by
 have hi:=(List.getElem?_eq_some_iff.1 hy).1
 have e:bits.take (i + 1)=bits.take i++[y]:=by rw [List.take_add_one,hy]; rfl
 have hl:(bits.take i).length=i:=by rw [List.length_take]; omega
 by_cases h:j=i / 8
 ·rw [if_pos h,e,List.drop_append_of_le_length (by omega)]
  have h1:((bits.take i).drop (8 * j)++[y]).length≤8:=by rw [List.length_append,List.length_drop,hl,List.length_singleton]; omega
  rw [List.take_of_length_le h1,List.take_of_length_le (l:=(bits.take i).drop (8 * j)) (by rw [List.length_drop,hl]; omega)]
 ·rw [if_neg h,List.append_nil]
  by_cases h2:8 * j≤i
  ·rw [e,List.drop_append_of_le_length (by omega),List.take_append_of_le_length (by simp; omega)]
  ·rw [List.drop_of_length_le (by simp; omega),List.drop_of_length_le (by simp; omega)]
theorem packP_next {bits:List Bool} {i:Nat} {y:Bool} (hy:bits[i]? = some y) :
  ∃ v,(packP bits i)[i / 8]? = some v∧0≤v∧v < 2 ^ (i % 8)∧packP bits (i + 1)=(if y=true then (packP bits i).set (i / 8) (v + 2 ^ (i % 8)) else packP bits i):=by
 have hi:=(List.getElem?_eq_some_iff.1 hy).1
 have hm:i / 8 < packN bits.length:=by unfold packN; omega
 have hlen:((((bits.take i).drop (8 * (i / 8))).take 8)).length=i % 8:=by simp; omega
 refine ⟨byteV (((bits.take i).drop (8 * (i / 8))).take 8),?_,(byteV_rng _).1,?_,?_⟩
 ·unfold packP
  rw [List.getElem?_map,List.getElem?_range hm]
  rfl
 ·have:=(byteV_rng (((bits.take i).drop (8 * (i / 8))).take 8)).2
  rwa [hlen] at this
 ·apply List.ext_getElem?
  intro j
  have hj:∀ q,(packP bits q)[j]? = if j < packN bits.length then some (byteV (((bits.take q).drop (8 * j)).take 8)) else none:=by
   intro q
   unfold packP
   rw [List.getElem?_map]
   split
   ·rename_i h; rw [List.getElem?_range h]; rfl
   ·rename_i h; rw [List.getElem?_eq_none (by simp; omega)]; rfl
  rw [hj]
  by_cases hjm:j < packN bits.length
  ·rw [if_pos hjm,chunk_next hy]
   by_cases hji:j=i / 8
   ·rw [if_pos hji,byteV_snoc]
    cases y with
    | true =>
     rw [if_pos rfl,if_pos rfl,hji,hlen,List.getElem?_set_self (by rw [packP_len]; exact hm)]
    | false =>
     rw [if_neg (by decide),if_neg (by decide),hj,if_pos hjm,Int.add_zero]
   ·rw [if_neg hji,List.append_nil]
    cases y with
    | true=>rw [if_pos rfl,List.getElem?_set_ne (by omega),hj,if_pos hjm]
    | false=>rw [if_neg (by decide),hj,if_pos hjm]
  ·rw [if_neg hjm]
   cases y with
   | true=>rw [if_pos rfl,List.getElem?_set_ne (by omega),hj,if_neg hjm]
   | false=>rw [if_neg (by decide),hj,if_neg hjm]
theorem bor_bit {v:Int} {k:Nat} (h0:0≤v) (h1:v < 2 ^ k) (hk:k < 8):bor .u8 v (shl .u8 1 (k:Int))=v + 2 ^ k:=by
 have key:∀ (k:Fin 8) (v:Fin 128),v.1 < 2 ^ k.1->bor .u8 (v.1:Int) (shl .u8 1 (k.1:Int))=(v.1:Int) + 2 ^ k.1:=by decide +kernel
 obtain ⟨n,rfl⟩:=Int.eq_ofNat_of_zero_le h0
 have h2:n < 2 ^ k:=by exact_mod_cast h1
 have h3:2 ^ k≤2 ^ 7:=Nat.pow_le_pow_right (by decide) (by omega)
 exact key ⟨k,hk⟩ ⟨n,by omega⟩ h2
theorem pack_eq {bits:List Bool} (h:bits.length≤100000):qj3_ (bits,())=some (packS bits,()):=by
 show qt2_ qhv_ bits=_
 have hK:qhv_ bits (packN bits.length:Int)=some (packS bits,()):=by
  unfold qhv_ qxh_
  have hN:packN bits.length≤100000:=by unfold packN; omega
  rw [q9_ (by rw [q1f_]; omega),q9_ (capOk_self _),Int.toNat_natCast,qm_ (by omega)]
  unfold qth_
  rw [<- packP_zero,<- packP_all]
  refine loop_det (mk:=fun i=>(bits,Int.ofNat bits.length,(i:Int),packP bits i)) (N:=bits.length) ?_ ?_ bits.length 0 _ (by omega) (by omega)
  ·intro self i hi
   have hy:bits[i]? = some (bits[i]'hi):=List.getElem?_eq_getElem hi
   obtain ⟨v,hv,h0,h1,e⟩:=packP_next hy
   show qi1_ _ bits (Int.ofNat bits.length) (i:Int) (packP bits i)=_
   unfold qi1_
   have hq:quo .i64 (i:Int) 8=((i / 8:Nat):Int):=quo_nat (d:=8) (by omega)
   have hr:rem (i:Int) 8=((i % 8:Nat):Int):=rem_nat (d:=8)
   rw [if_pos (by rw [qa_,q1_]; omega),qp_ hy,Option.bind_some,hq,hr,qp_ hv,q1l_ (by omega)]
   simp only [Option.bind_some]
   rw [q9_ (by rw [q1f_]; omega),bor_bit h0 h1 (Nat.mod_lt _ (by decide)),Int.toNat_natCast,e]
   split <;> rfl
  ·intro self
   show qi1_ _ bits (Int.ofNat bits.length) (bits.length:Int) (packP bits bits.length)=_
   unfold qi1_
   rw [if_neg (by rw [qa_,q1_]; omega)]
 unfold qt2_
 have hq:quo .i64 (Int.ofNat bits.length) 8=((bits.length / 8:Nat):Int):=quo_nat (d:=8) (by omega)
 rw [hq]
 split
 ·rename_i h1
  rw [gt_iff,q1_,show rem (bits.length:Int) 8=((bits.length % 8:Nat):Int) from rem_nat (d:=8)] at h1
  rw [q1l_ (by omega)]
  have:bits.length / 8 + 1=packN bits.length:=by unfold packN; omega
  rw [this]
  exact hK
 ·rename_i h1
  rw [gt_iff,q1_,show rem (bits.length:Int) 8=((bits.length % 8:Nat):Int) from rem_nat (d:=8)] at h1
  have:bits.length / 8=packN bits.length:=by unfold packN; omega
  rw [this]
  exact hK
def bitV (y:Int) (k:Nat):Bool:=eqi (band .u8 (shr .u8 y (k:Int)) 1) 1
def unpackS (b:List Int):List Bool:=(List.range (8 * b.length)).map fun i=>bitV (b.getD (i / 8) 0) (i % 8)
theorem unpack_eq {b:List Int} (h:b.length≤100000):qgz_ (b,())=some (unpackS b,()):=by
 show qmv_ qh6_ b=_
 unfold qmv_
 have hm:mul .i64 8 (Int.ofNat b.length)=((8 * b.length:Nat):Int):=by
  rw [mul64 (by rw [q1_]; omega) (by rw [q1_]; omega)]
  simp
 rw [hm,q9_ (by rw [q1f_]; omega),q9_ (capOk_self _),Int.toNat_natCast,qm_ (by omega),List.length_replicate]
 unfold qh6_ unpackS
 refine (loop_det (mk:=fun i=>(b,Int.ofNat (8 * b.length),(i:Int),(List.range i).map (fun i=>bitV (b.getD (i / 8) 0) (i % 8))++(List.replicate (8 * b.length) false).drop i)) (N:=8 * b.length) ?_ ?_ (8 * b.length) 0 _ (by omega) (by omega))
 ·intro self i hi
  show qd4_ _ b (Int.ofNat (8 * b.length)) (i:Int) _=_
  unfold qd4_
  have hq:quo .i64 (i:Int) 8=((i / 8:Nat):Int):=quo_nat (d:=8) (by omega)
  have hr:rem (i:Int) 8=((i % 8:Nat):Int):=rem_nat (d:=8)
  have hlt:i / 8 < b.length:=by omega
  have hb:b[i / 8]? = some (b[i / 8]'hlt):=List.getElem?_eq_getElem hlt
  have hlen:((List.range i).map (fun i=>bitV (b.getD (i / 8) 0) (i % 8))++(List.replicate (8 * b.length) false).drop i).length=8 * b.length:=by simp; omega
  have ho:((List.range i).map (fun i=>bitV (b.getD (i / 8) 0) (i % 8))++(List.replicate (8 * b.length) false).drop i)[i]? = some (((List.range i).map (fun i=>bitV (b.getD (i / 8) 0) (i % 8))++(List.replicate (8 * b.length) false).drop i)[i]'(by omega)):=List.getElem?_eq_getElem (by omega)
  rw [if_pos (by rw [qa_,q1_]; omega),hq,hr,qp_ hb,Option.bind_some,q9_ (by rw [q1f_]; omega),qp_ ho,Option.bind_some,Option.bind_some,q1l_ (by omega),Int.toNat_natCast]
  have e:eqi (band .u8 (shr .u8 (b[i / 8]'hlt) ((i % 8:Nat):Int)) 1) 1=bitV (b.getD (i / 8) 0) (i % 8):=by
   rw [List.getD_eq_getElem?_getD,hb]
   rfl
  rw [e,fill_step (f:=fun i=>bitV (b.getD (i / 8) 0) (i % 8)) (by simp; omega)]
 ·intro self
  show qd4_ _ b (Int.ofNat (8 * b.length)) ((8 * b.length:Nat):Int) _=_
  unfold qd4_
  rw [if_neg (by rw [qa_,q1_]; omega),List.drop_of_length_le (by simp),List.append_nil]
end Go.Proofs.Lx
end
section
namespace Go.Proofs.Lx
open Go Ev Sx Pl
set_option maxRecDepth 100000
inductive RA:TA->Prop where
 | bits (f p n:Int) (hf:f=1∨f=2) (h1:1≤n) (h2:n≤2000):RA (f,p,n,0,[],[])
 | words (f p n:Int) (hf:f=3∨f=4) (h1:1≤n) (h2:n≤125):RA (f,p,n,0,[],[])
 | coil (p:Int) (b:Bool):RA (5,p,0,0,[],[b])
 | word (p:Int) (x:Int):RA (6,p,0,0,[x],[])
 | coils (p:Int) (l:List Bool) (h1:1≤l.length) (h2:l.length≤1968):RA (15,p,(l.length:Int),0,[],l)
 | regs (p:Int) (l:List Int) (h1:1≤l.length) (h2:l.length≤123):RA (16,p,(l.length:Int),0,l,[])
 | swap (p n t:Int) (l:List Int) (h1:1≤l.length) (h2:l.length≤121) (h3:1≤n) (h4:n≤125):RA (23,p,n,t,l,[])
theorem within0 {n:Int} (h:withinV n 0=true):n=0:=q6_.1 h
theorem within1 {n m:Int} (hm:0 < m) (h:withinV n m=true):1≤n∧n≤m:=by
 unfold withinV at h
 rw [if_neg (by rw [q6_]; omega)] at h
 split at h
 ·rename_i h1; exact ⟨q1f_.1 h1,q19_.1 h⟩
 ·cases h
theorem len0 {α:Type} {l:List α} (h:Int.ofNat l.length=0):l=[]:=by
 rw [q1_] at h
 exact List.eq_nil_of_length_eq_zero (by omega)
theorem len1 {α:Type} {l:List α} (h:1≤Int.ofNat l.length∧Int.ofNat l.length≤1):∃ x,l=[x]:=by
 rw [q1_] at h
 exact List.length_eq_one_iff.1 (by omega)
theorem rightA_RA {a:TA} (hr:rightA a=true):RA a:=by
 obtain ⟨f,p,n,t,ws,bs⟩:=a
 unfold rightA at hr
 simp only at hr
 rcases shp_cases f with ⟨hf,e⟩ | ⟨hf,e⟩ | ⟨hf,e⟩ | ⟨hf,e⟩ | ⟨hf,e⟩ | ⟨hf,e⟩ | ⟨hf,e⟩ | ⟨hf,e⟩ <;> rw [e] at hr <;> simp only [rightS,Bool.and_eq_true,Bool.false_or,Bool.true_or,Bool.not_false,Bool.not_true,true_and,and_true] at hr
 ·obtain ⟨h1,h2,h3,h4⟩:=hr
  have h2:=within1 (by decide) h2
  rw [q6_.1 h1,len0 (within0 h3),len0 (within0 h4)]
  exact .bits f p n hf h2.1 h2.2
 ·obtain ⟨h1,h2,h3,h4⟩:=hr
  have h2:=within1 (by decide) h2
  rw [q6_.1 h1,len0 (within0 h3),len0 (within0 h4)]
  exact .words f p n hf h2.1 h2.2
 ·obtain ⟨h1,h2,h3,h4⟩:=hr
  obtain ⟨b,rfl⟩:=len1 (within1 (by decide) h3)
  rw [q6_.1 h1,within0 h2,len0 (within0 h4),hf]
  exact .coil p b
 ·obtain ⟨h1,h2,h3,h4⟩:=hr
  obtain ⟨b,rfl⟩:=len1 (within1 (by decide) h4)
  rw [q6_.1 h1,within0 h2,len0 (within0 h3),hf]
  exact .word p b
 ·obtain ⟨h1,h2,h3,h4,h5⟩:=hr
  have h3:=within1 (by decide) h3
  have e4:=len0 (within0 h4)
  subst e4
  rw [q6_.1 h1,<- q6_.1 h5,hf]
  rw [q1_] at h3
  exact .coils p bs (by omega) (by omega)
 ·obtain ⟨h1,h2,h3,h4,h5⟩:=hr
  have h4:=within1 (by decide) h4
  have e3:=len0 (within0 h3)
  subst e3
  have e5:(ws.length:Int)=n:=by have:=q6_.1 h5; simpa using this
  rw [q6_.1 h1,<- e5,hf]
  rw [q1_] at h4
  exact .regs p ws (by omega) (by omega)
 ·obtain ⟨h2,h3,h4⟩:=hr
  have h2:=within1 (by decide) h2
  have h4:=within1 (by decide) h4
  rw [len0 (within0 h3),hf]
  rw [q1_] at h4
  exact .swap p n t ws (by omega) (by omega) h2.1 h2.2
 ·cases hr
def askB (a:TA):List Int :=
 if a.1=5 then a.1::two a.2.1++two (if a.2.2.2.2.2.headD false=true then 65280 else 0)
 else if a.1=6 then a.1::two a.2.1++a.2.2.2.2.1.flatMap two
 else if a.1=15 then a.1::two a.2.1++two a.2.2.1++[(packN a.2.2.2.2.2.length:Int)]++packS a.2.2.2.2.2
 else if a.1=16 then a.1::two a.2.1++two a.2.2.1++[2 * (a.2.2.2.2.1.length:Int)]++a.2.2.2.2.1.flatMap two
 else if a.1=23 then a.1::two a.2.1++two a.2.2.1++two a.2.2.2.1++two (a.2.2.2.2.1.length:Int)++[2 * (a.2.2.2.2.1.length:Int)]++a.2.2.2.2.1.flatMap two
 else a.1::two a.2.1++two a.2.2.1
theorem flat_two_len (l:List Int):(l.flatMap two).length=2 * l.length:=by
 induction l with
 | nil=>rfl
 | cons x r ih=>rw [List.flatMap_cons,List.length_append,ih]; simp [two]; omega
abbrev BO:=Option (As [.sl (.int .u8),.int .i64])
theorem bK0 (f p n s1:Int) (out:List Int) (h5:f=1∨f=2∨f=3∨f=4):q6i_ f p n 0 [] [] s1 0 0 false false out=some (out,0,()):=by
 rcases h5 with rfl | rfl | rfl | rfl <;> rfl
theorem bK5 (p:Int) (b:Bool) (out:List Int):q6i_ 5 p 0 0 [] [b] 0 1 0 false false out=Option.bind (q28_ ([if b=true then 65280 else 0],out,())) fun y=>(some (y.1,0,()):BO):=by
 cases b <;> rfl
theorem bK6 (p x:Int) (out:List Int):q6i_ 6 p 0 0 [x] [] 0 0 1 false false out=Option.bind (q28_ ([x],out,())) fun y=>(some (y.1,0,()):BO):=rfl
theorem bK15 (p n:Int) (l:List Bool) (out:List Int):q6i_ 15 p n 0 [] l 1968 1968 0 false true out =
  Option.bind (qj3_ (l,())) fun y=>need (small (out.length + 1)) (need (small ((out++[Int.ofNat (y.1.length % 256)]).length + y.1.length)) (some (out++[Int.ofNat (y.1.length % 256)]++y.1,0,()):BO)):=rfl
theorem bK16 (p n:Int) (l out:List Int):q6i_ 16 p n 0 l [] 123 0 123 false true out =
  need (small (out.length + 1)) (Option.bind (q28_ (l,out++[cvt .u8 (mul .i64 2 (Int.ofNat l.length))],())) fun y=>(some (y.1,0,()):BO)):=rfl
theorem bK23 (p n t:Int) (l out:List Int):q6i_ 23 p n t l [] 125 0 121 true false out =
  Option.bind (q28_ ([t,Int.ofNat (l.length % 65536)],out,())) fun y=>need (small (y.1.length + 1)) (Option.bind (q28_ (l,y.1++[cvt .u8 (mul .i64 2 (Int.ofNat l.length))],())) fun y=>(some (y.1,0,()):BO)):=rfl
theorem nums1 (x:Int) {out:List Int} (h:out.length≤900000):q28_ ([x],out,())=some (out++two x,()):=by
 rw [numbers_eq (by simp; omega)]
 simp
theorem q1gt_ {a:TA} (h:OkA a):qdl_ (a,())=if rightA a=true then some (askB a,0,()) else some ([],12,()):=by
 show qrx_ q6i_ a=_
 unfold qrx_
 rw [right_eq h,Option.bind_some]
 cases hr:rightA a with
 | false=>rfl
 | true =>
  have hra:=rightA_RA hr
  rw [if_neg (by decide),if_pos rfl,shape_eq,Option.bind_some]
  clear hr h
  have hin:∀ f p:Int,q28_ ([p],[f],())=some (f::two p,()):=fun f p=>nums1 p (by simp)
  have hin2:∀ f p n:Int,q28_ ([n],f::two p,())=some (f::two p++two n,()):=fun f p n=>nums1 n (by simp [two])
  cases hra with
  | bits f p n hf h1 h2 =>
   rcases hf with rfl | rfl <;> rw [hin,Option.bind_some,if_pos (by rfl),hin2,Option.bind_some]
   ·exact bK0 1 p n 2000 _ (.inl rfl)
   ·exact bK0 2 p n 2000 _ (.inr (.inl rfl))
  | words f p n hf h1 h2 =>
   rcases hf with rfl | rfl <;> rw [hin,Option.bind_some,if_pos (by rfl),hin2,Option.bind_some]
   ·exact bK0 3 p n 125 _ (.inr (.inr (.inl rfl)))
   ·exact bK0 4 p n 125 _ (.inr (.inr (.inr rfl)))
  | coil p b =>
   rw [hin,Option.bind_some,if_neg (by show ¬ gt 0 0=true; decide)]
   exact (bK5 p b _).trans (by rw [nums1 _ (by simp [two]),Option.bind_some]; rfl)
  | word p x =>
   rw [hin,Option.bind_some,if_neg (by show ¬ gt 0 0=true; decide)]
   exact (bK6 p x _).trans (by rw [nums1 _ (by simp [two]),Option.bind_some]; simp [askB])
  | coils p l h1 h2 =>
   rw [hin,Option.bind_some,if_pos (by rfl),hin2,Option.bind_some]
   refine (bK15 p _ l _).trans ?_
   rw [pack_eq (by omega),Option.bind_some,qm_ (by simp [two]),qm_ (by simp [two,packS_len,packN]; omega)]
   refine congrArg (fun x=>some (x,0,())) ?_
   have e:packN l.length % 256=packN l.length:=by unfold packN; omega
   rw [packS_len,e]
   rfl
  | regs p l h1 h2 =>
   rw [hin,Option.bind_some,if_pos (by rfl),hin2,Option.bind_some]
   refine (bK16 p _ l _).trans ?_
   rw [qm_ (by simp [two]),mul64 (by rw [q1_]; omega) (by rw [q1_]; omega),cvt8,numbers_eq (by simp [two]; omega),Option.bind_some]
   refine congrArg (fun x=>some (x,0,())) ?_
   have e:(2 * Int.ofNat l.length) % 256=2 * (l.length:Int):=by rw [q1_]; omega
   rw [e]
   rfl
  | swap p n t l h1 h2 h3 h4 =>
   rw [hin,Option.bind_some,if_pos (by rfl),hin2,Option.bind_some]
   refine (bK23 p n t l _).trans ?_
   rw [numbers_eq (by simp [two]),Option.bind_some,qm_ (by simp [two]),mul64 (by rw [q1_]; omega) (by rw [q1_]; omega),cvt8,numbers_eq (by simp [two]; omega),Option.bind_some]
   refine congrArg (fun x=>some (x,0,())) ?_
   have e:(2 * Int.ofNat l.length) % 256=2 * (l.length:Int):=by rw [q1_]; omega
   have e2:Int.ofNat (l.length % 65536)=(l.length:Int):=by rw [q1_]; omega
   rw [e,e2]
   simp [askB]
end Go.Proofs.Lx
end
section
namespace Pl
open Go Ev Sx
theorem zip_at {α β:Type} {s1:List α} {s2:List β} (h:s1.length=s2.length) {i:Nat} {x:α×β} (hx:(s1.zip s2)[i]? = some x):s1[i]? = some x.1∧s2[i]? = some x.2:=by
 rw [List.getElem?_zip_eq_some] at hx
 exact hx
theorem goL_eq {α:Type} [DecidableEq α] {ne:α->α->Bool} (hne:∀ a b,ne a b=!decide (a=b)):∀ (s1 s2:List α),s1.length=s2.length ->
  goL (R:=Bool×Unit) (fun (_:Unit) (x:α×α) k=>if ne x.1 x.2=true then some (false,()) else k ()) (fun _=>some (true,())) (s1.zip s2) ()=some (decide (s1=s2),())
 | [],[],_=>rfl
 | a::r,b::q,h=>by
  rw [List.zip_cons_cons]
  show (if ne a b=true then some (false,()) else goL _ _ (r.zip q) ())=_
  rw [hne]
  by_cases e:a=b
  ·subst e
   rw [if_neg (by simp),goL_eq hne r q (by simpa using h)]
   simp
  ·rw [if_pos (by simp [e])]
   simp [e]
end Pl
namespace Go.Proofs.Lx
open Go Ev Sx Pl
set_option maxRecDepth 100000
theorem equalW_eq {s1 s2:List Int} (h:s1.length≤1000000):q1o_ (s1,s2,())=some (decide (s1=s2),()):=by
 show q8o_ q5q_ s1 s2=_
 unfold q8o_
 by_cases hl:s1.length=s2.length
 ·rw [if_neg (by rw [qj_,q1_,q1_]; omega)]
  unfold q5q_
  have hz:(s1.zip s2).length=s1.length:=by rw [List.length_zip]; omega
  rw [<- goL_eq (ne:=nei) (fun a b=>by simp [nei]; rfl) s1 s2 hl]
  refine loop_go (xs:=s1.zip s2) (mk:=fun i _=>(s1,s2,Int.ofNat s1.length,(i:Int))) ?_ ?_ s1.length 0 () _ (by rw [hz]; omega) (by omega)
  ·intro self i acc x hx
   have hi:=(List.getElem?_eq_some_iff.1 hx).1
   obtain ⟨h1,h2⟩:=zip_at hl hx
   show q43_ _ s1 s2 (Int.ofNat s1.length) (i:Int)=_
   unfold q43_
   rw [if_pos (by rw [qa_,q1_]; omega),qp_ h1,Option.bind_some,qp_ h2,Option.bind_some,q1l_ (by omega)]
  ·intro self acc
   show q43_ _ s1 s2 (Int.ofNat s1.length) (((s1.zip s2).length:Nat):Int)=_
   unfold q43_
   rw [if_neg (by rw [qa_,q1_]; omega)]
 ·rw [if_pos (by rw [qj_,q1_,q1_]; omega),decide_eq_false (fun e=>hl (by rw [e]))]
theorem equalB_eq {s1 s2:List Bool} (h:s1.length≤1000000):q5a_ (s1,s2,())=some (decide (s1=s2),()):=by
 show qaa_ q79_ s1 s2=_
 unfold qaa_
 by_cases hl:s1.length=s2.length
 ·rw [if_neg (by rw [qj_,q1_,q1_]; omega)]
  unfold q79_
  have hz:(s1.zip s2).length=s1.length:=by rw [List.length_zip]; omega
  rw [<- goL_eq (ne:=neb) (fun a b=>by cases a <;> cases b <;> rfl) s1 s2 hl]
  refine loop_go (xs:=s1.zip s2) (mk:=fun i _=>(s1,s2,Int.ofNat s1.length,(i:Int))) ?_ ?_ s1.length 0 () _ (by rw [hz]; omega) (by omega)
  ·intro self i acc x hx
   have hi:=(List.getElem?_eq_some_iff.1 hx).1
   obtain ⟨h1,h2⟩:=zip_at hl hx
   show q4x_ _ s1 s2 (Int.ofNat s1.length) (i:Int)=_
   unfold q4x_
   rw [if_pos (by rw [qa_,q1_]; omega),qp_ h1,Option.bind_some,qp_ h2,Option.bind_some,q1l_ (by omega)]
  ·intro self acc
   show q4x_ _ s1 s2 (Int.ofNat s1.length) (((s1.zip s2).length:Nat):Int)=_
   unfold q4x_
   rw [if_neg (by rw [qa_,q1_]; omega)]
 ·rw [if_pos (by rw [qj_,q1_,q1_]; omega),decide_eq_false (fun e=>hl (by rw [e]))]
abbrev BB:=Option (As [.bool])
theorem if_dec {p:Prop} [Decidable p] {b:Bool} {k:BB} {q:Bool} (h:b=true ↔ p) (hk:p->k=some (q,())):(if b=true then k else some (false,()))=some (decide p && q,()):=by
 by_cases hp:p
 ·rw [if_pos (h.2 hp),hk hp,decide_eq_true hp]; rfl
 ·rw [if_neg (fun e=>hp (h.1 e)),decide_eq_false hp]; rfl
instance decA5:DecidableEq (Int×Int×Int×List Int×List Bool):=inferInstance
instance decA:DecidableEq TA:=inferInstance
abbrev TP:=Int×Int×Int×Int×Bool×TA×Int×Int×Int
instance decP1:DecidableEq (TA×Int×Int×Int):=inferInstance
instance decP2:DecidableEq (Int×Bool×TA×Int×Int×Int):=inferInstance
instance decP:DecidableEq TP:=inferInstance
theorem eqb_iff {a b:Bool}:eqb a b=true ↔ a=b:=by cases a <;> cases b <;> decide
theorem q5c_ {s:List Int} (h:s.length≤1000000):qe_ (s,())=some (s,()):=by
 show q8p_ s=_
 unfold q8p_
 split
 ·rename_i h0
  rw [len0 (q6_.1 h0)]
  rfl
 ·rw [qm_ (by omega)]
  all_goals rfl
theorem cloneB_eq {s:List Bool} (h:s.length≤1000000):q56_ (s,())=some (s,()):=by
 show qa0_ s=_
 unfold qa0_
 split
 ·rename_i h0
  rw [len0 (q6_.1 h0)]
  rfl
 ·rw [qm_ (by omega)]
  all_goals rfl
def mbapV (tx unit:Int) (pdu:List Int):List Int:=[tx / 256 % 256,tx % 256,0,0,0,(pdu.length + 1:Nat) % 256,unit]++pdu
theorem q1jz_ {tx unit:Int} {pdu:List Int} (h1:1≤pdu.length) (h2:pdu.length≤253):qua_ ((tx,unit,pdu),())=some (mbapV tx unit pdu,0,()):=by
 show qre_ qpw_ (tx,unit,pdu)=_
 unfold qre_
 rw [if_neg (by rw [qa_]; simp only [q1_]; omega)]
 show qpl_ (Int.ofNat pdu.length) (gt (Int.ofNat pdu.length) 253) (tx,unit,pdu)=_
 unfold qpl_
 dsimp only
 have e:add .i64 7 (Int.ofNat pdu.length)=((7 + pdu.length:Nat):Int):=addn64 (n:=7) (by omega)
 rw [if_neg (by rw [gt_iff,q1_]; omega),e,q9_ (capOk_0 (by omega)),q9_ (by rw [small_iff]; omega),qm_ (by omega),qm_ (by simp; omega),cvt8,cvt8,cvt8,shr8 _ _ (by decide),q1_,q1l_ (by omega)]
 rfl
theorem rtub_eq {unit:Int} {pdu:List Int} (hu:1≤unit) (hu2:unit≤247) (h1:1≤pdu.length) (h2:pdu.length≤253):qdk_ (unit,pdu,())=some (putV (unit::pdu),0,()):=by
 show qfv_ qje_ unit pdu=_
 unfold qfv_
 have e:qdc_ (unit,())=some (true,()):=by
  show qd9_ unit=_
  unfold qd9_
  rw [if_pos (q1f_.2 hu),q19_.2 hu2]
 rw [e,Option.bind_some,if_neg (by decide),if_neg (by rw [qa_,q1_]; omega)]
 show qs6_ unit pdu (gt (Int.ofNat pdu.length) 253)=_
 unfold qs6_
 rw [if_neg (by rw [gt_iff,q1_]; omega),qm_ (by omega),put_eq (by simp; omega),Option.bind_some]
structure OkP (p:TP):Prop where
 u0:1≤p.1
 u1:p.1≤247
 l:p.2.1=1∨p.2.1=2
 t0:1≤p.2.2.1
 t1:p.2.2.1≤100000
 r0:0≤p.2.2.2.1
 r1:p.2.2.2.1≤1000
 a:OkA p.2.2.2.2.2.1
 x0:0≤p.2.2.2.2.2.2.1
 x1:p.2.2.2.2.2.2.1≤65535
theorem putV_len (b:List Int):(putV b).length=b.length + 2:=by simp [putV]
def zA:TA:=(0,0,0,0,[],[])
end Go.Proofs.Lx
end
section
namespace Pl
open Go Ev Sx
theorem shl8 {y:Int} (h0:0≤y) (h1:y≤255):shl .u16 (cvt .u16 y) 8=256 * y:=by
 rw [cvt16]
 unfold shl
 have:min (8:Int).toNat IntKind.u16.bits=8:=by decide
 rw [this,wr16]
 omega
theorem bor_hi {a b:Int} (ha:0≤a) (ha2:a≤255) (hb:0≤b) (hb':b≤255):bor .u16 (256 * a) b=256 * a + b:=by
 obtain ⟨n,rfl⟩:=Int.eq_ofNat_of_zero_le ha
 obtain ⟨m,rfl⟩:=Int.eq_ofNat_of_zero_le hb
 unfold bor
 rw [wr16]
 have e1:(BitVec.ofInt IntKind.u16.bits (256 * (n:Int))).toNat=256 * n:=by
  rw [BitVec.toNat_ofInt]
  have:((2 ^ IntKind.u16.bits:Nat):Int)=65536:=by decide
  rw [this]
  omega
 have e2:(BitVec.ofInt IntKind.u16.bits (m:Int)).toNat=m:=by
  rw [BitVec.toNat_ofInt]
  have:((2 ^ IntKind.u16.bits:Nat):Int)=65536:=by decide
  rw [this]
  omega
 rw [BitVec.toNat_or,e1,e2]
 have e3:256 * n ||| m=256 * n + m:=by
  have:=Nat.two_pow_add_eq_or_of_lt (i:=8) (b:=m) (by omega) n
  rw [show (2:Nat) ^ 8=256 from rfl] at this
  exact this.symm
 rw [e3]
 omega
theorem bor_comm {a b:Int}:bor .u16 a b=bor .u16 b a:=by
 unfold bor
 rw [BitVec.or_comm]
def numV (y z:Int):Int:=bor .u16 (shl .u16 (cvt .u16 y) 8) (cvt .u16 z)
theorem numV_rng (y z:Int):0≤numV y z∧numV y z < 65536:=u16_rng _
theorem numV_eq {y z:Int} (h0:0≤y) (h1:y≤255) (h2:0≤z) (h3:z≤255):numV y z=256 * y + z:=by
 unfold numV
 rw [shl8 h0 h1,cvt16]
 have:z % 65536=z:=by omega
 rw [this,bor_hi h0 h1 h2 h3]
def listS (b:List Int):List Int:=(List.range (b.length / 2)).map fun i=>numV (b.getD (2 * i) 0) (b.getD (2 * i + 1) 0)
end Pl
namespace Go.Proofs.Lx
open Go Ev Sx Pl
set_option maxRecDepth 100000
abbrev TR:=Int×Int×List Bool×List Int×Int×Int
instance decR5:DecidableEq (Int×List Bool×List Int×Int×Int):=inferInstance
instance decR:DecidableEq TR:=inferInstance
def zR:TR:=(0,0,[],[],0,0)
structure SmR (r:TR):Prop where
 b:r.2.2.1.length≤100000
 w:r.2.2.2.1.length≤100000
theorem sameR_eq {a b:TR} (h:SmR a):q3j_ (a,b,())=some (decide (a=b),()):=by
 show qms_ a b=_
 unfold qms_
 have h1:=h.b
 have h2:=h.w
 rw [equalW_eq (by omega),Option.bind_some,equalB_eq (by omega),Option.bind_some]
 obtain ⟨a1,a2,a3,a4,a5,a6⟩:=a
 obtain ⟨b1,b2,b3,b4,b5,b6⟩:=b
 rw [if_dec (q6_) fun _=>if_dec (q6_) fun _=>if_dec (q6_) fun _=>if_dec (q6_) fun _=>if_dec (p:=a3=b3) (by simp) fun _=>rfl]
 refine congrArg (fun x=>some (x,())) ?_
 rw [Bool.eq_iff_iff]
 simp only [Bool.and_eq_true,decide_eq_true_eq,Prod.ext_iff]
 constructor
 ·rintro ⟨h1,h2,h3,h4,h5,h6⟩; exact ⟨h1,h2,h5,h6,h3,h4⟩
 ·rintro ⟨h1,h2,h5,h6,h3,h4⟩; exact ⟨h1,h2,h3,h4,h5,h6⟩
def exR (r:TR):Bool:=decide (r.1 < 128) && (decide (1≤r.2.1) && (decide (r.2.1≤4) && decide (r=(rem r.1 128,r.2.1,[],[],0,0))))
def bitR (r:TR):Bool:=decide (8≤r.2.2.1.length) && (decide (r.2.2.1.length≤2000) && (decide (r.2.2.1.length % 8=0) && decide (r=(r.1,0,r.2.2.1,[],0,0))))
def wordR (r:TR):Bool:=decide (1≤r.2.2.2.1.length) && (decide (r.2.2.2.1.length≤125) && decide (r=(r.1,0,[],r.2.2.2.1,0,0)))
def obR (r:TR):Bool:=decide (r.2.2.1.length=1) && decide (r=(r.1,0,r.2.2.1,[],r.2.2.2.2.1,0))
def owR (r:TR):Bool:=decide (r.2.2.2.1.length=1) && decide (r=(r.1,0,[],r.2.2.2.1,r.2.2.2.2.1,0))
def ctR (k:Int) (r:TR):Bool:=decide (1≤r.2.2.2.2.2) && (decide (r.2.2.2.2.2≤k) && decide (r=(r.1,0,[],[],r.2.2.2.2.1,r.2.2.2.2.2)))
theorem exR_eq {r:TR} (h:SmR r):q2v_ ((),r,())=some (exR r,()):=by
 show q8d_ () r=_
 unfold q8d_ exR
 have e:qh_ (r.1,r.2.1,())=some ((rem r.1 128,r.2.1,[],[],0,0),()):=rfl
 rw [e,Option.bind_some,sameR_eq h,Option.bind_some]
 rw [if_dec (qa_) fun _=>if_dec (q1f_) fun _=>if_dec (q19_) fun _=>rfl]
theorem bitR_eq {r:TR} (h:SmR r):q1u_ ((),r,())=some (bitR r,()):=by
 show q97_ () r=_
 unfold q97_ bitR
 rw [sameR_eq h,Option.bind_some]
 rw [if_dec (p:=8≤r.2.2.1.length) (by rw [q1f_,q1_]; omega) fun _=>if_dec (p:=r.2.2.1.length≤2000) (by rw [q19_,q1_]; omega) fun _=>if_dec (p:=r.2.2.1.length % 8=0) (by rw [q6_,q1_,show rem (r.2.2.1.length:Int) 8=((r.2.2.1.length % 8:Nat):Int) from rem_nat (d:=8)]; omega) fun _=>rfl]
theorem wordR_eq {r:TR} (h:SmR r):q14_ ((),r,())=some (wordR r,()):=by
 show q8t_ () r=_
 unfold q8t_ wordR
 rw [sameR_eq h,Option.bind_some]
 rw [if_dec (p:=1≤r.2.2.2.1.length) (by rw [q1f_,q1_]; omega) fun _=>if_dec (p:=r.2.2.2.1.length≤125) (by rw [q19_,q1_]; omega) fun _=>rfl]
theorem obR_eq {r:TR} (h:SmR r):q3y_ ((),r,())=some (obR r,()):=by
 show qa1_ () r=_
 unfold qa1_ obR
 rw [sameR_eq h,Option.bind_some]
 rw [if_dec (p:=r.2.2.1.length=1) (by rw [q6_,q1_]; omega) fun _=>rfl]
theorem owR_eq {r:TR} (h:SmR r):q3i_ ((),r,())=some (owR r,()):=by
 show q98_ () r=_
 unfold q98_ owR
 rw [sameR_eq h,Option.bind_some]
 rw [if_dec (p:=r.2.2.2.1.length=1) (by rw [q6_,q1_]; omega) fun _=>rfl]
theorem ctR_eq {r:TR} {k:Int} (h:SmR r):q2l_ (k,r,())=some (ctR k r,()):=by
 show qb1_ k r=_
 unfold qb1_ ctR
 rw [sameR_eq h,Option.bind_some]
 rw [if_dec (q1f_) fun _=>if_dec (q19_) fun _=>rfl]
def rightR (r:TR):Bool:=if nei r.2.1 0=true then exR r else if eqi r.1 1=true then bitR r else if eqi r.1 2=true then bitR r else if eqi r.1 3=true then wordR r else if eqi r.1 4=true then wordR r else if eqi r.1 23=true then wordR r else
 if eqi r.1 5=true then obR r else if eqi r.1 6=true then owR r else if eqi r.1 15=true then ctR 1968 r else if eqi r.1 16=true then ctR 123 r else false
def exB (r:TR):List Int:=[add .u8 r.1 128,r.2.1]
def bitB (r:TR):List Int:=r.1::(packN r.2.2.1.length:Int) % 256::packS r.2.2.1
def wordB (r:TR):List Int:=[r.1,2 * (r.2.2.2.1.length:Int) % 256]++r.2.2.2.1.flatMap two
def obB (r:TR):List Int:=r.1::two r.2.2.2.2.1++two (if r.2.2.1.headD false=true then 65280 else 0)
def owB (r:TR):List Int:=r.1::two r.2.2.2.2.1++two (r.2.2.2.1.headD 0)
def ctB (r:TR):List Int:=r.1::two r.2.2.2.2.1++two r.2.2.2.2.2
theorem rnumbers_eq {l out:List Int} (h:out.length + 2 * l.length≤1000000):q3l_ (l,out,())=some (out++l.flatMap two,()):=by
 show qgv_ qcj_ l out=_
 unfold qgv_ qcj_
 refine (loop_idx (xs:=l) (mk:=fun i acc=>(l,Int.ofNat l.length,(i:Int),acc)) (stp:=fun o y=>o++two y) (fin:=fun acc=>some (acc,())) (fun i acc=>acc.length≤out.length + 2 * i) ?_ ?_ ?_ l.length 0 out _ (by omega) (by omega) (by omega)).trans ?_
 ·intro self i acc x hx hI
  have hi:=(List.getElem?_eq_some_iff.1 hx).1
  show q8y_ _ l (Int.ofNat l.length) (i:Int) acc=_
  unfold q8y_
  rw [if_pos (by rw [qa_,q1_]; omega),qp_ hx,Option.bind_some,qm_ (by omega),two_eq,q1l_ (by omega)]
 ·intro i acc x hx hI
  simp [two]
  omega
 ·intro self acc _
  show q8y_ _ l (Int.ofNat l.length) (l.length:Int) acc=_
  unfold q8y_
  rw [if_neg (by rw [qa_,q1_]; omega)]
 ·rw [List.drop_zero,foldl_app]
theorem exB_eq (r:TR):q3m_ ((),r,())=some (exB r,()):=rfl
theorem bitB_eq {r:TR} (h:SmR r):q2t_ ((),r,())=some (bitB r,()):=by
 show q9h_ () r=_
 unfold q9h_
 have hb:=h.b
 rw [pack_eq hb,Option.bind_some,qm_ (by rw [packS_len]; unfold packN; omega),packS_len]
 rfl
theorem wordB_eq {r:TR} (h:SmR r):q1n_ ((),r,())=some (wordB r,()):=by
 show q8v_ () r=_
 unfold q8v_
 have hw:=h.w
 rw [mul64 (by rw [q1_]; omega) (by rw [q1_]; omega),cvt8,rnumbers_eq (by simp; omega),Option.bind_some]
 rfl
theorem obB_eq {r:TR} (h:obR r=true):q58_ ((),r,())=some (obB r,()):=by
 unfold obR at h
 rw [Bool.and_eq_true] at h
 obtain ⟨x,hx⟩:=List.length_eq_one_iff.1 (of_decide_eq_true h.1)
 show qa4_ q4w_ () r=_
 unfold qa4_
 rw [hx,q3p_,Option.bind_some]
 have key:∀ (v:Int) (r2:Int) (r3:List Bool) (r4:List Int) (r6:Int),q4w_ v r.1 r2 r3 r4 r.2.2.2.2.1 r6=some (r.1::two r.2.2.2.2.1++two v,()):=fun v r2 r3 r4 r6=>by
  unfold q4w_ qfi_
  rw [rnumbers_eq (by simp),Option.bind_some]
  simp
 unfold obB
 rw [hx]
 cases x with
 | true=>rw [if_pos rfl,key]; rfl
 | false=>rw [if_neg (by decide),key]; rfl
theorem amb_same {R:Type} {eq:R->R->Bool} (h:∀ x,eq x x=true) (o:R):amb eq [some o,some o]=some o:=by
 show (if eq o o=true then some o else none)=_
 rw [if_pos (h o)]
theorem eqAs_refl:∀ (rs:List Ty) (x:As rs),eqAs rs x x=true
 | [],_=>rfl
 | t::r,x=>by
  show (eqV t x.1 x.1 && eqAs r x.2 x.2)=true
  rw [eqV_refl,eqAs_refl r]
  rfl
theorem owB_eq {r:TR} (h:owR r=true):q4q_ ((),r,())=some (owB r,()):=by
 unfold owR at h
 rw [Bool.and_eq_true] at h
 obtain ⟨x,hx⟩:=List.length_eq_one_iff.1 (of_decide_eq_true h.1)
 show q99_ () r=_
 unfold q99_
 rw [hx,q3p_,Option.bind_some,rnumbers_eq (by simp),Option.bind_some,amb_same (eqAs_refl _)]
 unfold owB
 rw [hx]
 simp
theorem ctB_eq (k:Int) (r:TR):q3k_ (k,r,())=some (ctB r,()):=by
 show qb4_ k r=_
 unfold qb4_
 rw [rnumbers_eq (by simp),Option.bind_some]
 simp [ctB]
end Go.Proofs.Lx
end
section
namespace Go.Proofs.Lx
open Go Ev Sx Pl
set_option maxRecDepth 100000
theorem listS_len (b:List Int):(listS b).length=b.length / 2:=by simp [listS]
theorem unpackS_len (b:List Int):(unpackS b).length=8 * b.length:=by simp [unpackS]
theorem cut_tail {α:Type} (x:α) (r:List α):cut (x::r) 1 (Int.ofNat (x::r).length)=some r:=cut_one x r
theorem at_one {α:Type} (p q:α) (r:List α):at? (p::q::r) 1=some q:=rfl
end Go.Proofs.Lx
end
section
namespace Go.Proofs.Lx
open Go Ev Sx Pl
set_option maxRecDepth 100000
def cutV (b:List Int):List Int×Int :=
 if b.length < 2 then ([],10) else
 if sumV (b.take (b.length - 2))=numV (b.getD (b.length - 1) 0) (b.getD (b.length - 2) 0) then (b.take (b.length - 2),0) else ([],11)
theorem fill_all {α:Type} {z:α} {n:Nat} {y:List α} (h:y.length=n):List.take (Int.toNat (Int.ofNat (List.length (List.replicate n z)))) y++List.drop (0 + List.length (List.take (Int.toNat (Int.ofNat (List.length (List.replicate n z)))) y)) (List.replicate n z)=y:=by
 rw [List.length_replicate,q1_,Int.toNat_natCast,List.take_of_length_le (by omega),List.drop_of_length_le (by simp; omega)]
 simp
theorem fill_take {α:Type} {z:α} {n:Nat} {y:List α} (h:n≤y.length):List.take (Int.toNat (Int.ofNat (List.length (List.replicate n z)))) y++List.drop (0 + List.length (List.take (Int.toNat (Int.ofNat (List.length (List.replicate n z)))) y)) (List.replicate n z)=y.take n:=by
 rw [List.length_replicate,q1_,Int.toNat_natCast,List.drop_of_length_le (by simp; omega)]
 simp
theorem ccut_eq {b:List Int} (h:b.length≤100000):qxz_ (b,())=some ((cutV b).1,(cutV b).2,()):=by
 show qv9_ b=_
 unfold qv9_ cutV
 by_cases h2:b.length < 2
 ·rw [if_pos (by rw [qa_,q1_]; omega),if_pos h2]
 ·have e1:sub .i64 (Int.ofNat b.length) 2=((b.length - 2:Nat):Int):=by
   rw [sub64 (by rw [q1_]; omega) (by rw [q1_]; omega),q1_]
   omega
  have g1:b[b.length - 2]? = some (b[b.length - 2]'(by omega)):=List.getElem?_eq_getElem (by omega)
  have g2:b[b.length - 2 + 1]? = some (b[b.length - 2 + 1]'(by omega)):=List.getElem?_eq_getElem (by omega)
  rw [if_neg (by rw [qa_,q1_]; omega),if_neg h2,e1,cut_to (by omega),Option.bind_some,q1l_ (by omega),qp_ g1,Option.bind_some,qp_ g2,Option.bind_some,sum_eq (by simp; omega),Option.bind_some]
  have e2:bor .u16 (cvt .u16 (b[b.length - 2]'(by omega))) (shl .u16 (cvt .u16 (b[b.length - 2 + 1]'(by omega))) 8)=numV (b.getD (b.length - 1) 0) (b.getD (b.length - 2) 0):=by
   rw [bor_comm]
   have e3:b.length - 1=b.length - 2 + 1:=by omega
   rw [e3,List.getD_eq_getElem?_getD,List.getD_eq_getElem?_getD,g1,g2]
   rfl
  rw [e2]
  by_cases hs:sumV (b.take (b.length - 2))=numV (b.getD (b.length - 1) 0) (b.getD (b.length - 2) 0)
  ·rw [if_neg (by rw [qj_]; exact fun e=>e hs),if_pos hs,q9_ (by rw [q1f_]; omega),q9_ (capOk_self _),Int.toNat_natCast,qm_ (by omega),q9_ (by rw [q19_]; simp only [List.length_replicate,q1_]; omega),fill_take (by omega)]
  ·rw [if_pos (by rw [qj_]; exact hs),if_neg hs]
theorem isUnit_eq (u:Int):qdc_ (u,())=some (decide (1≤u) && decide (u≤247),()):=by
 show qd9_ u=_
 unfold qd9_
 rw [if_dec (q1f_) fun _=>rfl]
 rfl
def rtuV (b:List Int):Int×List Int×Int :=
 if b.length < 4∨256 < b.length then (0,[],10) else
 if (cutV b).2 ≠ 0 then (0,[],(cutV b).2) else
 match (cutV b).1 with
 | []=>(0,[],10)
 | x::r=>if (decide (1≤x) && decide (x≤247))=true then (x,r,0) else (0,[],10)
theorem cutV_len {b:List Int} (h:(cutV b).2=0):(cutV b).1.length=b.length - 2:=by
 unfold cutV at h ⊢
 split
 ·rename_i h1; rw [if_pos h1] at h; cases h
 ·rename_i h1
  rw [if_neg h1] at h
  split
  ·simp
  ·rename_i h2; rw [if_neg h2] at h; cases h
theorem rtup_eq (b:List Int):qdt_ (b,())=some ((rtuV b).1,(rtuV b).2.1,(rtuV b).2.2,()):=by
 show qpd_ qj2_ b=_
 have K:∀ t,qj2_ b t=qp2_ b t:=fun _=>rfl
 unfold qpd_ rtuV
 rw [K,K]
 by_cases h:b.length < 4
 ·rw [if_pos (by rw [qa_,q1_]; omega),if_pos (.inl h)]
  rfl
 ·rw [if_neg (by rw [qa_,q1_]; omega)]
  unfold qp2_
  by_cases h2:256 < b.length
  ·rw [if_pos (by rw [gt_iff,q1_]; omega),if_pos (.inr h2)]
  ·rw [if_neg (by rw [gt_iff,q1_]; omega),if_neg (by omega),ccut_eq (by omega),Option.bind_some]
   dsimp only
   by_cases h3:(cutV b).2=0
   ·rw [if_neg (by rw [qj_]; exact fun e=>e h3),if_neg (fun e=>e h3)]
    have hl:=cutV_len h3
    match hc:(cutV b).1 with
    | []=>rw [hc] at hl; simp at hl; omega
    | x::r =>
     rw [q3p_,Option.bind_some,isUnit_eq,Option.bind_some,Option.bind_some]
     show _=some ((if (decide (1≤x) && decide (x≤247))=true then (x,r,0) else (0,[],10)).1,(if (decide (1≤x) && decide (x≤247))=true then (x,r,0) else (0,[],10)).2.1,(if (decide (1≤x) && decide (x≤247))=true then (x,r,0) else (0,[],10)).2.2,())
     cases decide (1≤x) && decide (x≤247) with
     | false=>rfl
     | true =>
      have e:cut (x::r) 1 (Int.ofNat (x::r).length)=some r:=cut_one x r
      rw [if_neg (by decide),e,Option.bind_some,q9_ (by rw [q19_]; omega),q9_ (by rw [q19_]; omega),if_pos rfl]
   ·rw [if_pos (by rw [qj_]; exact h3),if_pos h3]
def beginsV (b2 b3 b4 b5:Int):Bool:=!nei b2 0 && (!nei b3 0 && (!nei b4 0 && (!lt b5 2 && !gt (cvt .i64 b5) 254)))
theorem bstep {self:List Int->Int->Option (As [.bool])} {b:List Int} {i y:Int} (hi:i < 5) (hl:i < Int.ofNat b.length) (hy:at? b i=some y) :
  q78_ (q5i_ self) self b i=if nei y 0=true then some (false,()) else self b (add .i64 i 1):=by
 have e5:eqi i 5=false:=by
  rw [<- Bool.not_eq_true,q6_]
  omega
 unfold q78_
 rw [if_pos (by rw [qa_]; omega),qa_.2 hl]
 unfold q5i_ qkw_
 rw [if_pos rfl,if_pos (qa_.2 hi),hy,Option.bind_some]
 unfold qfr_ qk8_
 cases nei y 0 with
 | true=>rfl
 | false =>
  simp only [e5,Bool.false_eq_true,if_false]
  rfl
theorem bstep5 {self:List Int->Int->Option (As [.bool])} {b:List Int} {y:Int} (hl:5 < Int.ofNat b.length) (hy:at? b 5=some y) :
  q78_ (q5i_ self) self b 5=if lt y 2=true then some (false,()) else if gt (cvt .i64 y) 254=true then some (false,()) else self b 6:=by
 unfold q78_
 rw [if_pos (by decide),qa_.2 hl]
 unfold q5i_ qkw_
 rw [if_pos rfl,if_neg (by decide)]
 unfold qfr_ qk8_
 rw [if_neg (by decide),if_pos (by decide),hy,Option.bind_some,Option.bind_some]
 cases lt y 2 with
 | true=>rfl
 | false=>cases gt (cvt .i64 y) 254 <;> rfl
theorem bstep6 {self:List Int->Int->Option (As [.bool])} {b:List Int}:q78_ (q5i_ self) self b 6=some (true,()):=rfl
theorem begins_eq (b0 b1 b2 b3 b4 b5 b6 b7:Int) (r:List Int):qmg_ (b0::b1::b2::b3::b4::b5::b6::b7::r,())=some (beginsV b2 b3 b4 b5,()):=by
 show qk1_ qft_ _=_
 unfold qk1_ qft_ beginsV
 have hlen:(Int.ofNat (b0::b1::b2::b3::b4::b5::b6::b7::r).length)=(r.length:Int) + 8:=by rw [q1_]; simp; omega
 generalize hb:b0::b1::b2::b3::b4::b5::b6::b7::r=b at hlen ⊢
 have h2:at? b 2=some b2:=by rw [<- hb]; rfl
 have h3:at? b 3=some b3:=by rw [<- hb]; rfl
 have h4:at? b 4=some b4:=by rw [<- hb]; rfl
 have h5:at? b 5=some b5:=by rw [<- hb]; rfl
 have key:∀ n:Nat,loopF (fun (self:(List Int)×(Int)->Option (As [.bool])) (s:(List Int)×(Int))=>q78_ (q5i_ (fun b i=>self (b,i))) (fun b i=>self (b,i)) s.1 s.2) (n + 5) (b,2) =
   some (!nei b2 0 && (!nei b3 0 && (!nei b4 0 && (!lt b5 2 && !gt (cvt .i64 b5) 254))),()):=by
  intro n
  rw [q1r_]
  refine (bstep (by decide) (by rw [hlen]; omega) h2).trans ?_
  cases nei b2 0 with
  | true=>rfl
  | false =>
   rw [if_neg (by decide),q1r_]
   refine (bstep (i:=3) (by decide) (by rw [hlen]; omega) h3).trans ?_
   cases nei b3 0 with
   | true=>rfl
   | false =>
    rw [if_neg (by decide),q1r_]
    refine (bstep (i:=4) (by decide) (by rw [hlen]; omega) h4).trans ?_
    cases nei b4 0 with
    | true=>rfl
    | false =>
     rw [if_neg (by decide),q1r_]
     refine (bstep5 (by rw [hlen]; omega) h5).trans ?_
     cases lt b5 2 with
     | true=>rfl
     | false =>
      cases gt (cvt .i64 b5) 254 with
      | true=>rfl
      | false =>
       rw [if_neg (by decide),if_neg (by decide),q1r_]
       exact bstep6
 exact key 18446744073709551611
def zM:Int×Int×List Int:=(0,0,[])
def mbapP:List Int->(Int×Int×List Int)×Int
 | b0::b1::b2::b3::b4::b5::b6::r =>
  if r=[] then (zM,10) else if beginsV b2 b3 b4 b5=true then if (r.length:Int) + 1=b5 then ((numV b0 b1,b6,r),0) else (zM,10) else (zM,10)
 | _=>(zM,10)
theorem mparse_eq {b:List Int} (hl:b.length≤100000) (hb:∀ x ∈ b,0≤x∧x≤255):qr3_ (b,())=some ((mbapP b).1,(mbapP b).2,()):=by
 show qnv_ qhe_ b=_
 unfold qnv_
 have short:b.length≤7->qki_ (b,())=some (zM,0,()):=fun h=>by
  show qd2_ qh7_ b=_
  unfold qd2_
  rw [if_pos (by rw [q19_,q1_]; omega)]
  rfl
 have shortP:b.length≤7->mbapP b=(zM,10):=fun h=>by
  match b with
  | [] | [_] | [_,_] | [_,_,_] | [_,_,_,_] | [_,_,_,_,_] | [_,_,_,_,_,_]=>rfl
  | [_,_,_,_,_,_,_]=>rfl
  | _::_::_::_::_::_::_::_::_=>exact absurd h (by simp)
 by_cases hs:b.length≤7
 ·rw [short hs,shortP hs]
  rfl
 ·match b with
  | [] | [_] | [_,_] | [_,_,_] | [_,_,_,_] | [_,_,_,_,_] | [_,_,_,_,_,_]=>simp at hs
  | [_,_,_,_,_,_,_]=>simp at hs
  | b0::b1::b2::b3::b4::b5::b6::b7::r =>
   have h5:=hb b5 (by simp)
   have hlr:r.length≤100000:=by simp at hl; omega
   have e5:cvt .i64 b5=b5:=cvt64 (by omega) (by omega)
   have hF:qki_ (b0::b1::b2::b3::b4::b5::b6::b7::r,())=if beginsV b2 b3 b4 b5=true then if (r.length:Int) + 2 < b5 then some (zM,0,()) else some ((numV b0 b1,b6,(b7::r).take (b5 - 1).toNat),6 + b5,()) else some (zM,0,()):=by
    show qd2_ qh7_ _=_
    unfold qd2_
    rw [if_neg (by rw [q19_,q1_]; simp; omega),begins_eq,Option.bind_some]
    cases hbg:beginsV b2 b3 b4 b5 with
    | false=>rfl
    | true =>
     rw [if_pos rfl]
     have h52:2≤b5:=by
      unfold beginsV at hbg
      simp only [Bool.and_eq_true,Bool.not_eq_true',<- Bool.not_eq_true] at hbg
      have:=hbg.2.2.2.1
      rw [qa_] at this
      omega
     show qmq_ _ false 0 0=_
     unfold qmq_
     have g5:at? (b0::b1::b2::b3::b4::b5::b6::b7::r) 5=some b5:=rfl
     have ea:add .i64 6 (cvt .i64 b5)=6 + b5:=by rw [e5,add64 (by omega) (by omega)]
     rw [if_neg (by decide),g5,Option.bind_some,ea]
     by_cases hlt:(r.length:Int) + 2 < b5
     ·rw [if_pos (by rw [qa_,q1_]; simp; omega),if_pos hlt]
      rfl
     ·have es:sub .i64 (6 + b5) 7=(((b5 - 1).toNat:Nat):Int):=by rw [sub64 (by omega) (by omega)]; omega
      have ec:cut (b0::b1::b2::b3::b4::b5::b6::b7::r) 7 (6 + b5)=some ((b7::r).take (b5 - 1).toNat):=by
       have:=cut_nat (xs:=b0::b1::b2::b3::b4::b5::b6::b7::r) (i:=7) (j:=7 + (b5 - 1).toNat) (by omega) (by simp; omega)
       have e:((7 + (b5 - 1).toNat:Nat):Int)=6 + b5:=by omega
       rw [e,Nat.add_comm 7 (b5 - 1).toNat] at this
       exact this
      rw [if_neg (by rw [qa_,q1_]; simp; omega),if_neg hlt,es,q9_ (by rw [q1f_]; omega),q9_ (capOk_self _),Int.toNat_natCast,qm_ (by omega),ec,Option.bind_some,q9_ (by rw [q19_]; simp only [List.length_replicate,q1_]; omega)]
      have hlen:((b7::r).take (b5 - 1).toNat).length=(b5 - 1).toNat:=by rw [List.length_take,List.length_cons]; omega
      rw [fill_all hlen]
      rfl
   rw [hF]
   have K:∀ (t:Bool) (y1 y2:Int) (y3:List Int),qhe_ t 0 0 (y1,y2,y3)=if t=true then some (zM,10,()) else some ((y1,y2,y3),0,()):=fun t y1 y2 y3=>rfl
   show _=some ((mbapP (b0::b1::b2::b3::b4::b5::b6::b7::r)).1,(mbapP (b0::b1::b2::b3::b4::b5::b6::b7::r)).2,())
   unfold mbapP
   dsimp only
   have hne:¬ (b7::r=[]):=by simp
   rw [if_neg hne]
   cases hbg:beginsV b2 b3 b4 b5 with
   | false=>rfl
   | true =>
    simp only [if_true]
    have h52:2≤b5:=by
     unfold beginsV at hbg
     simp only [Bool.and_eq_true,Bool.not_eq_true',<- Bool.not_eq_true] at hbg
     have:=hbg.2.2.2.1
     rw [qa_] at this
     omega
    by_cases hlt:(r.length:Int) + 2 < b5
    ·have hq:¬ (((b7::r).length:Int) + 1=b5):=by simp; omega
     rw [if_pos hlt,if_neg hq]
     rfl
    ·rw [if_neg hlt,Option.bind_some]
     dsimp only
     rw [if_neg (by rw [q6_]; omega),K]
     by_cases he:(r.length:Int) + 2=b5
     ·have e1:nei (6 + b5) (Int.ofNat (b0::b1::b2::b3::b4::b5::b6::b7::r).length)=false:=by
       rw [<- Bool.not_eq_true,qj_,q1_]
       simp
       omega
      have hq:((b7::r).length:Int) + 1=b5:=by simp; omega
      rw [e1,if_pos hq]
      have e2:(b7::r).take (b5 - 1).toNat=b7::r:=List.take_of_length_le (by simp; omega)
      rw [e2]
      rfl
     ·have hq:¬ (((b7::r).length:Int) + 1=b5):=by simp; omega
      rw [if_neg hq,if_pos (by rw [qj_,q1_]; simp; omega)]
end Go.Proofs.Lx
end
section
namespace Go.Proofs.Lx
open Go Ev Sx Pl
set_option maxRecDepth 100000
theorem goL_index (v:Bool):∀ (s:List Bool) (n:Nat),∃ k:Int,goL (R:=Int×Unit) (fun (_:Unit) (x:Bool×Nat) k=>if eqb v x.1=true then some ((x.2:Int),()) else k ()) (fun _=>some (-1,())) (s.zipIdx n) ()=some (k,())∧(0≤k ↔ v ∈ s)
 | [],n=>⟨-1,rfl,by simp⟩
 | a::r,n=>by
  rw [List.zipIdx_cons]
  obtain ⟨k,h1,h2⟩:=goL_index v r (n + 1)
  by_cases e:v=a
  ·refine ⟨(n:Int),?_,by simp [e]⟩
   show (if eqb v a=true then _ else _)=_
   rw [if_pos (eqb_iff.2 e)]
  ·refine ⟨k,?_,?_⟩
   ·show (if eqb v a=true then _ else _)=_
    rw [if_neg (fun h=>e (eqb_iff.1 h))]
    exact h1
   ·rw [h2]
    simp [e]
theorem contains_eq {s:List Bool} (v:Bool) (h:s.length≤1000000):q50_ (s,v,())=some (decide (v ∈ s),()):=by
 obtain ⟨k,h1,h2⟩:=goL_index v s 0
 have e:q9u_ (s,v,())=some (k,()):=by
  rw [<- h1]
  show qa5_ q77_ s v=_
  unfold qa5_ q77_
  have hz:(s.zipIdx 0).length=s.length:=by simp
  refine loop_go (xs:=s.zipIdx 0) (mk:=fun i _=>(s,v,Int.ofNat s.length,(i:Int))) ?_ ?_ s.length 0 () _ (by rw [hz]; omega) (by omega)
  ·intro self i acc x hx
   have hi:=(List.getElem?_eq_some_iff.1 hx).1
   rw [hz] at hi
   have hx2:s[i]? = some x.1∧x.2=i:=by
    rw [List.getElem?_zipIdx] at hx
    obtain ⟨y,hy,rfl⟩:=Option.map_eq_some_iff.1 hx
    exact ⟨hy,by simp⟩
   show q4v_ _ s v (Int.ofNat s.length) (i:Int)=_
   unfold q4v_
   rw [if_pos (by rw [qa_,q1_]; omega),qp_ hx2.1,Option.bind_some,q1l_ (by omega),hx2.2]
  ·intro self acc
   show q4v_ _ s v (Int.ofNat s.length) (((s.zipIdx 0).length:Nat):Int)=_
   unfold q4v_
   rw [hz,if_neg (by rw [qa_,q1_]; omega)]
 show q83_ s v=_
 unfold q83_
 rw [e,Option.bind_some]
 refine congrArg (fun x=>some (x,())) ?_
 rw [ge_dec]
 by_cases hv:v ∈ s
 ·rw [decide_eq_true hv,decide_eq_true (h2.2 hv)]
 ·rw [decide_eq_false hv,decide_eq_false (fun h=>hv (h2.1 h))]
end Go.Proofs.Lx
end
section
namespace Go.Proofs.Lx
open Go Ev Sx Pl
set_option maxRecDepth 100000
end Go.Proofs.Lx
end
section
namespace Pl
open Go Ev Sx
theorem ok8 {x:Int} (h:(Lit.int .u8 x).wf=true):0≤x∧x≤255:=by
 simp [Lit.wf] at h
 have e1:IntKind.u8.min=0:=rfl
 have e2:IntKind.u8.max=255:=rfl
 omega
theorem ok16 {x:Int} (h:(Lit.int .u16 x).wf=true):0≤x∧x≤65535:=by
 simp [Lit.wf] at h
 have e1:IntKind.u16.min=0:=rfl
 have e2:IntKind.u16.max=65535:=rfl
 omega
end Pl
namespace Go.Proofs.Lx
open Go Ev Sx Pl
set_option maxRecDepth 100000
def fewV (ws:List Int) (bs:List Bool):Bool:=decide (ws.length≤200) && decide (bs.length≤2100)
theorem few_eq (ws:List Int) (bs:List Bool):qya_ (ws,bs,())=some (fewV ws bs,()):=by
 show qve_ ws bs=_
 unfold qve_ fewV
 by_cases h:ws.length≤200
 ·rw [if_pos (by rw [q19_,q1_]; omega),decide_eq_true h,Bool.true_and,le_dec]
  refine congrArg (fun x=>some (x,())) ?_
  rw [q1_]
  by_cases h2:bs.length≤2100
  ·rw [decide_eq_true h2,decide_eq_true (by omega)]
  ·rw [decide_eq_false h2,decide_eq_false (by omega)]
 ·rw [if_neg (by rw [q19_,q1_]; omega),decide_eq_false h]
  rfl
theorem few_iff {ws:List Int} {bs:List Bool}:fewV ws bs=true ↔ ws.length≤200∧bs.length≤2100:=by simp [fewV]
end Go.Proofs.Lx
end
section
namespace Pl
open Go Ev Sx
theorem listS_two (y z:Int) (r:List Int):listS (y::z::r)=numV y z::listS r:=by
 unfold listS
 have e:(y::z::r).length / 2=r.length / 2 + 1:=by simp; omega
 rw [e,List.range_succ_eq_map,List.map_cons,List.map_map]
 congr 1
end Pl
namespace Go.Proofs.Lx
open Go Ev Sx Pl
set_option maxRecDepth 100000
theorem byteV_256 {t:List Bool} (h:t.length≤8):0≤byteV t∧byteV t < 256:=by
 have h1:=byteV_rng t
 have h2:2 ^ t.length≤2 ^ 8:=Nat.pow_le_pow_right (by decide) h
 have h3:((2 ^ t.length:Nat):Int)=(2:Int) ^ t.length:=by norm_cast
 have h4:(2:Nat) ^ 8=256:=by decide
 exact ⟨h1.1,by omega⟩
abbrev tup (p:TP):TP:=(p.1,p.2.1,p.2.2.1,p.2.2.2.1,p.2.2.2.2.1,(p.2.2.2.2.2.1.1,p.2.2.2.2.2.1.2.1,p.2.2.2.2.2.1.2.2.1,p.2.2.2.2.2.1.2.2.2.1,p.2.2.2.2.2.1.2.2.2.2.1,p.2.2.2.2.2.1.2.2.2.2.2),p.2.2.2.2.2.2.1,p.2.2.2.2.2.2.2.1,p.2.2.2.2.2.2.2.2)
theorem beg_rng {link timeout retries:Int} (h1:0≤link) (h2:0≤timeout) (h3:0≤retries):(add .u8 1 (rem link 2)=1 + link % 2)∧(add .i64 1 (cvt .i64 (rem timeout 20))=1 + timeout % 20)∧cvt .i64 (rem retries 6)=retries % 6:=by
 have e1:rem link 2=link % 2:=by unfold rem; exact Int.tmod_eq_emod_of_nonneg h1
 have e2:rem timeout 20=timeout % 20:=by unfold rem; exact Int.tmod_eq_emod_of_nonneg h2
 have e3:rem retries 6=retries % 6:=by unfold rem; exact Int.tmod_eq_emod_of_nonneg h3
 rw [e1,e2,e3,cvt64 (by omega) (by omega),cvt64 (by omega) (by omega),add64 (by omega) (by omega)]
 refine ⟨?_,rfl,rfl⟩
 unfold add
 rw [wu8 (by omega) (by omega)]
theorem q2x_ (x:Int):∀ y ∈ two x,0≤y∧y≤255:=by
 intro y hy
 simp [two] at hy
 rcases hy with rfl | rfl <;> omega
theorem flat_bytes (l:List Int):∀ y ∈ l.flatMap two,0≤y∧y≤255:=by
 intro y hy
 obtain ⟨x,_,hx⟩:=List.mem_flatMap.1 hy
 exact q2x_ x y hx
theorem pack_bytes (l:List Bool):∀ y ∈ packS l,0≤y∧y≤255:=by
 intro y hy
 unfold packS at hy
 obtain ⟨j,_,rfl⟩:=List.mem_map.1 hy
 have:=byteV_256 (t:=(l.drop (8 * j)).take 8) (by simp; omega)
 omega
theorem askB_bytes {a:TA} (h:RA a):∀ y ∈ askB a,0≤y∧y≤255:=by
 have app:∀ {l r:List Int},(∀ y ∈ l,0≤y∧y≤255)->(∀ y ∈ r,0≤y∧y≤255)->∀ y ∈ l++r,0≤y∧y≤255:=fun h1 h2 y hy=>by
  rcases List.mem_append.1 hy with h | h
  ·exact h1 y h
  ·exact h2 y h
 have con:∀ {x:Int} {r:List Int},(0≤x∧x≤255)->(∀ y ∈ r,0≤y∧y≤255)->∀ y ∈ x::r,0≤y∧y≤255:=fun h1 h2 y hy=>by
  rcases List.mem_cons.1 hy with h | h
  ·subst h; exact h1
  ·exact h2 y h
 have nil:∀ y ∈ ([]:List Int),0≤y∧y≤255:=fun y hy=>by cases hy
 cases h with
 | bits f p n hf h1 h2 =>
  rcases hf with rfl | rfl
  ·show ∀ y ∈ (1:Int)::two p++two n,0≤y∧y≤255
   exact app (con (by decide) (q2x_ p)) (q2x_ n)
  ·show ∀ y ∈ (2:Int)::two p++two n,0≤y∧y≤255
   exact app (con (by decide) (q2x_ p)) (q2x_ n)
 | words f p n hf h1 h2 =>
  rcases hf with rfl | rfl
  ·show ∀ y ∈ (3:Int)::two p++two n,0≤y∧y≤255
   exact app (con (by decide) (q2x_ p)) (q2x_ n)
  ·show ∀ y ∈ (4:Int)::two p++two n,0≤y∧y≤255
   exact app (con (by decide) (q2x_ p)) (q2x_ n)
 | coil p b =>
  show ∀ y ∈ (5:Int)::two p++two (if b=true then 65280 else 0),0≤y∧y≤255
  exact app (con (by decide) (q2x_ p)) (q2x_ _)
 | word p x =>
  show ∀ y ∈ (6:Int)::two p++[x].flatMap two,0≤y∧y≤255
  exact app (con (by decide) (q2x_ p)) (flat_bytes _)
 | coils p l h1 h2 =>
  show ∀ y ∈ (15:Int)::two p++two (l.length:Int)++[(packN l.length:Int)]++packS l,0≤y∧y≤255
  exact app (app (app (con (by decide) (q2x_ p)) (q2x_ _)) (con (by unfold packN; omega) nil)) (pack_bytes l)
 | regs p l h1 h2 =>
  show ∀ y ∈ (16:Int)::two p++two (l.length:Int)++[2 * (l.length:Int)]++l.flatMap two,0≤y∧y≤255
  exact app (app (app (con (by decide) (q2x_ p)) (q2x_ _)) (con (by omega) nil)) (flat_bytes l)
 | swap p n t l h1 h2 h3 h4 =>
  show ∀ y ∈ (23:Int)::two p++two n++two t++two (l.length:Int)++[2 * (l.length:Int)]++l.flatMap two,0≤y∧y≤255
  exact app (app (app (app (app (con (by decide) (q2x_ p)) (q2x_ _)) (q2x_ _)) (q2x_ _)) (con (by omega) nil)) (flat_bytes l)
theorem q1jy_ {unit:Int} {pdu:List Int} (h1:1≤pdu.length) (h2:pdu.length≤253) (hu:1≤unit) (hu2:unit≤247):qdt_ (putV (unit::pdu),())=some (unit,pdu,0,()):=by
 rw [rtup_eq]
 have hs:=sumV_rng (unit::pdu)
 have hc:cutV (putV (unit::pdu))=(unit::pdu,0):=by
  unfold cutV
  have hl:=putV_len (unit::pdu)
  have e0:(putV (unit::pdu)).length - 2=(unit::pdu).length:=by omega
  have et:(putV (unit::pdu)).take (unit::pdu).length=unit::pdu:=by unfold putV; exact List.take_left
  have e1:(putV (unit::pdu)).getD ((putV (unit::pdu)).length - 1) 0=sumV (unit::pdu) / 256:=by
   have:(putV (unit::pdu)).length - 1=(unit::pdu).length + 1:=by omega
   rw [this,List.getD_eq_getElem?_getD]
   unfold putV
   rw [List.getElem?_append_right (by omega)]
   simp
  have e2:(putV (unit::pdu)).getD (unit::pdu).length 0=sumV (unit::pdu) % 256:=by
   rw [List.getD_eq_getElem?_getD]
   unfold putV
   rw [List.getElem?_append_right (by omega)]
   simp
  rw [if_neg (by rw [hl]; simp),e0,et,e1,e2,numV_eq (by omega) (by omega) (by omega) (by omega),if_pos (by omega)]
 have e:rtuV (putV (unit::pdu))=(unit,pdu,0):=by
  unfold rtuV
  have hl:=putV_len (unit::pdu)
  rw [if_neg (by rw [hl]; simp; omega),hc]
  show (if (0:Int) ≠ 0 then _ else if (decide (1≤unit) && decide (unit≤247))=true then (unit,pdu,0) else (0,[],10))=_
  rw [if_neg (by decide),decide_eq_true hu,decide_eq_true hu2]
  rfl
 rw [e]
end Go.Proofs.Lx
end
section
namespace Go.Proofs.Lx
open Go Ev Sx Pl
set_option maxRecDepth 100000
theorem alist_eq {b:List Int} (h:b.length≤100000):qjf_ (b,())=some (listS b,()):=by
 show qt1_ qm0_ b=_
 unfold qt1_
 have hq:quo .i64 (Int.ofNat b.length) 2=((b.length / 2:Nat):Int):=quo_nat (d:=2) (by omega)
 rw [hq,q9_ (by rw [q1f_]; omega),q9_ (capOk_self _),Int.toNat_natCast,qm_ (by omega),List.length_replicate]
 unfold qm0_ listS
 refine (loop_det (mk:=fun i=>(b,Int.ofNat (b.length / 2),(i:Int),(List.range i).map (fun i=>numV (b.getD (2 * i) 0) (b.getD (2 * i + 1) 0))++(List.replicate (b.length / 2) (0:Int)).drop i)) (N:=b.length / 2) ?_ ?_ (b.length / 2) 0 _ (by omega) (by omega))
 ·intro self i hi
  show qhx_ _ b (Int.ofNat (b.length / 2)) (i:Int) _=_
  unfold qhx_
  have hm:mul .i64 2 (i:Int)=((2 * i:Nat):Int):=by
   rw [mul64 (by omega) (by omega)]
   simp
  have h1:b[2 * i]? = some (b[2 * i]'(by omega)):=List.getElem?_eq_getElem (by omega)
  have h2:b[2 * i + 1]? = some (b[2 * i + 1]'(by omega)):=List.getElem?_eq_getElem (by omega)
  have ho:((List.range i).map (fun i=>numV (b.getD (2 * i) 0) (b.getD (2 * i + 1) 0))++(List.replicate (b.length / 2) (0:Int)).drop i)[i]? = some (((List.range i).map (fun i=>numV (b.getD (2 * i) 0) (b.getD (2 * i + 1) 0))++(List.replicate (b.length / 2) (0:Int)).drop i)[i]'(by simp; omega)):=List.getElem?_eq_getElem (by simp; omega)
  rw [if_pos (by rw [qa_,q1_]; omega),hm,q1l_ (by omega),qp_ h1,qp_ h2,qp_ ho,q1l_ (by omega),Int.toNat_natCast]
  simp only [Option.bind_some]
  have e:bor .u16 (shl .u16 (cvt .u16 (b[2 * i]'(by omega))) 8) (cvt .u16 (b[2 * i + 1]'(by omega)))=numV (b.getD (2 * i) 0) (b.getD (2 * i + 1) 0):=by
   rw [List.getD_eq_getElem?_getD,List.getD_eq_getElem?_getD,h1,h2]
   rfl
  rw [e,fill_step (f:=fun i=>numV (b.getD (2 * i) 0) (b.getD (2 * i + 1) 0)) (by simp; omega)]
 ·intro self
  show qhx_ _ b (Int.ofNat (b.length / 2)) ((b.length / 2:Nat):Int) _=_
  unfold qhx_
  rw [if_neg (by rw [qa_,q1_]; omega),List.drop_of_length_le (by simp),List.append_nil]
end Go.Proofs.Lx
end
